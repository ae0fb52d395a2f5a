/- Proved in the last of these 12 parts (this is part 9): the law RecipeTells of chapter 14 returns true at every text and every two recipes. Conditions: those of the given statement, and no others. -/
import Derived.Test.YtnamnibaedolaaaGreatDoorParte
import Derived.Test.YtnamnibaedolaaaGreatDoorProg
import Derived.Test.YtnamnibaedolaaaGreatDoorParth
set_option linter.unusedVariables false
set_option linter.unusedSimpArgs false
set_option linter.unusedSectionVars false
section
open Go Go.Proofs Ev Sx
set_option maxRecDepth 100000
namespace Go.Proofs.Lx
abbrev QCT4 : Ty := (.pr .str (.pr (.pr (.int .i64) (.int .u8)) (.pr .str (.int .i64))))
abbrev QCT0 : Ty := (.pr .str (.pr (.int .i64) (.sl QCT4)))
abbrev QCT1 : Type := (List UInt8 × (Int × Int) × List UInt8 × Int)
abbrev QCT2 : Type := (Int × List UInt8 × (Int × Int) × Int)
abbrev QCT3 : Ty := (.sl (.pr (.int .u8) (.pr .str (.pr (.pr (.int .i64) (.int .u8)) (.int .i64)))))
@[reducible] def q3u_ : Sh := ⟨[.d (.str)], [], [.str], [.d (.pr .str (.sl QCT0)), .d (.pr (.int .i64) (.int .i64))], [], 0, [.pr .str (.sl QCT0), .pr (.int .i64) (.int .i64)]⟩
def q53_ : Env := (cts [(3000024, Ev.bxCt), (39, (⟨q72_, qga_⟩ : Ct)), (51, (⟨q1s_, q2c_⟩ : Ct)), (73, (⟨qii_, qbo_⟩ : Ct))])
def q52_ : List (Nat × Hint) := [(127, ⟨[], [2, 3, 7]⟩), (1018, ⟨[.rwb 7 2 43, .opc 7 2 [(2, 47)]], [2, 3, 4, 6, 7, 8, 23, 24, 25]⟩)]
def q6f_ (tokens : List QCT2) (from' : Int) (t23 : List QCT2) (t24 t25 : Int) (t2 : List UInt8) (t3 : Int × Int) (p : Int) (p_2 : List UInt8) (o_o : Bool) (o : List (List UInt8 × Int × List QCT1)) (o_l : List UInt8) (o_l_2 : Int) (o_2 : List QCT1) : St := { fr := [(2, .pb 0 0), (3, .pb 1 0), (4, .d QCT3 tokens), (6, .pb 2 0), (7, .pb 3 0), (8, .d (.int .i64) from'), (23, .d QCT3 t23), (24, .d (.int .i64) t24), (25, .d (.int .i64) t25)], nt := 60, up := [], own := [(0, .box 26 [.d .str t2, .k (Go.Value.slice Option.none 0 0)]), (1, .box 33 [.d (.int .i64) t3.1, .d (.int .i64) t3.2]), (2, .box 102 [.fn (.func 40) [] [], .fn (.func 41) [] [], .fn (.func 42) [] []]), (3, .box 104 [.d (.int .i64) p, .d .str p_2, .row 4]), (4, .rowo QCT0 43 o_o o [.d .str o_l, .d (.int .i64) o_l_2, .row 5]), (5, .row QCT4 47 o_2)], nx := 6, log := [], ln := 0 }
def qb6_ (t2 : List UInt8) (t3 : Int × Int) (p : Int) (p_2 : List UInt8) (o_o : Bool) (o : List (List UInt8 × Int × List QCT1)) (o_l : List UInt8) (o_l_2 : Int) (o_2 : List QCT1) : St := { fr := [(2, .pb 0 0), (3, .pb 1 0), (7, .pb 2 0)], nt := 60, up := [], own := [(0, .box 26 [.d .str t2, .k (Go.Value.slice Option.none 0 0)]), (1, .box 33 [.d (.int .i64) t3.1, .d (.int .i64) t3.2]), (2, .box 104 [.d (.int .i64) p, .d .str p_2, .row 3]), (3, .rowo QCT0 43 o_o o [.d .str o_l, .d (.int .i64) o_l_2, .row 4]), (4, .row QCT4 47 o_2)], nx := 5, log := [], ln := 0 }
def q23_ (j2 : List UInt8 -> Int × Int -> Int -> List UInt8 -> Bool -> List (List UInt8 × Int × List QCT1) -> List UInt8 -> Int -> List QCT1 -> Option (As [.pr .str (.sl QCT0), .pr (.int .i64) (.int .i64)])) (self1 : List QCT2 -> Int -> List QCT2 -> Int -> Int -> List UInt8 -> Int × Int -> Int -> List UInt8 -> Bool -> List (List UInt8 × Int × List QCT1) -> List UInt8 -> Int -> List QCT1 -> Option (As [.pr .str (.sl QCT0), .pr (.int .i64) (.int .i64)])) (tokens : List QCT2) (from' : Int) (t23 : List QCT2) (t24 t25 : Int) (t2 : List UInt8) (t3 : Int × Int) (p : Int) (p_2 : List UInt8) (o_o : Bool) (o : List (List UInt8 × Int × List QCT1)) (o_l : List UInt8) (o_l_2 : Int) (o_2 : List QCT1) : Option (As [.pr .str (.sl QCT0), .pr (.int .i64) (.int .i64)]) :=
  if lt t25 t24 = true then Option.bind (at? t23 t25) fun (y : Int × List UInt8 × (Int × Int) × Int) => if nei y.1 4 = true then self1 tokens from' t23 t24 (add .i64 t25 1) t2 t3 p p_2 o_o o o_l o_l_2 o_2 else if eqi p 2 = true then Option.bind (cut tokens from' t25) fun (y_1 : List QCT2) => if eqi (Int.ofNat (List.length y_1)) 1 = true then Option.bind (at? y_1 0) fun (y_2 : Int × List UInt8 × (Int × Int) × Int) => if eqi y_2.1 1 = true then Option.bind (at? y_1 0) fun (y_3 : Int × List UInt8 × (Int × Int) × Int) => if eqs y_3.2.1 [101, 110, 100] = true then self1 tokens (add .i64 t25 1) t23 t24 (add .i64 t25 1) t2 t3 1 p_2 o_o o o_l o_l_2 o_2 else if nei (Int.ofNat (List.length y_1)) 3 = true then if nei (Int.ofNat (List.length y_1)) 4 = true then some (([], []), (140, y.2.2.2), ()) else Option.bind (at? y_1 0) fun (y_4 : Int × List UInt8 × (Int × Int) × Int) => if nei y_4.1 1 = true then some (([], []), (140, y.2.2.2), ()) else Option.bind (at? y_1 0) fun (y_5 : Int × List UInt8 × (Int × Int) × Int) => Option.bind (q2c_ (y_5.2.1, ())) fun (y_6 : Bool × Unit) => if (!y_6.1) = true then some (([], []), (140, y.2.2.2), ()) else Option.bind (at? y_1 1) fun (y_7 : Int × List UInt8 × (Int × Int) × Int) => if nei y_7.1 3 = true then some (([], []), (140, y.2.2.2), ()) else Option.bind (at? y_1 2) fun (y_8 : Int × List UInt8 × (Int × Int) × Int) => if nei y_8.1 2 = true then some (([], []), (140, y.2.2.2), ()) else Option.bind (at? y_1 0) fun (y_9 : Int × List UInt8 × (Int × Int) × Int) => Option.bind (at? y_1 2) fun (y_10 : Int × List UInt8 × (Int × Int) × Int) => Option.bind (at? y_1 0) fun (y_11 : Int × List UInt8 × (Int × Int) × Int) => if eqi (Int.ofNat (List.length y_1)) 4 = true then Option.bind (at? y_1 3) fun (y_12 : Int × List UInt8 × (Int × Int) × Int) => if nei y_12.1 1 = true then some (([], []), (140, y.2.2.2), ()) else Option.bind (at? y_1 3) fun (y_13 : Int × List UInt8 × (Int × Int) × Int) => need o_o (need (eqi (Sx.sub .i64 (if o_o = true then Int.ofNat (List.length o + 1) else Int.ofNat (List.length o)) 1) (Int.ofNat (List.length o))) (need o_o (need (eqi (Sx.sub .i64 (if o_o = true then Int.ofNat (List.length o + 1) else Int.ofNat (List.length o)) 1) (Int.ofNat (List.length o))) (if eqi (Int.ofNat (List.length o_2)) 64 = true then some (([], []), (130, y.2.2.2), ()) else need o_o (need (eqi (Sx.sub .i64 (if o_o = true then Int.ofNat (List.length o + 1) else Int.ofNat (List.length o)) 1) (Int.ofNat (List.length o))) (need (small (List.length o_2 + Nat.succ 0)) (need o_o (need (eqi (Sx.sub .i64 (if o_o = true then Int.ofNat (List.length o + 1) else Int.ofNat (List.length o)) 1) (Int.ofNat (List.length o))) (self1 tokens (add .i64 t25 1) t23 t24 (add .i64 t25 1) t2 t3 p p_2 true o o_l o_l_2 (o_2 ++ [(y_9.2.1, y_10.2.2.1, y_13.2.1, y_11.2.2.2)])))))))))) else need o_o (need (eqi (Sx.sub .i64 (if o_o = true then Int.ofNat (List.length o + 1) else Int.ofNat (List.length o)) 1) (Int.ofNat (List.length o))) (need o_o (need (eqi (Sx.sub .i64 (if o_o = true then Int.ofNat (List.length o + 1) else Int.ofNat (List.length o)) 1) (Int.ofNat (List.length o))) (if eqi (Int.ofNat (List.length o_2)) 64 = true then some (([], []), (130, y.2.2.2), ()) else need o_o (need (eqi (Sx.sub .i64 (if o_o = true then Int.ofNat (List.length o + 1) else Int.ofNat (List.length o)) 1) (Int.ofNat (List.length o))) (need (small (List.length o_2 + Nat.succ 0)) (need o_o (need (eqi (Sx.sub .i64 (if o_o = true then Int.ofNat (List.length o + 1) else Int.ofNat (List.length o)) 1) (Int.ofNat (List.length o))) (self1 tokens (add .i64 t25 1) t23 t24 (add .i64 t25 1) t2 t3 p p_2 true o o_l o_l_2 (o_2 ++ [(y_9.2.1, y_10.2.2.1, [], y_11.2.2.2)])))))))))) else Option.bind (at? y_1 0) fun (y_4 : Int × List UInt8 × (Int × Int) × Int) => if nei y_4.1 1 = true then some (([], []), (140, y.2.2.2), ()) else Option.bind (at? y_1 0) fun (y_5 : Int × List UInt8 × (Int × Int) × Int) => Option.bind (q2c_ (y_5.2.1, ())) fun (y_6 : Bool × Unit) => if (!y_6.1) = true then some (([], []), (140, y.2.2.2), ()) else Option.bind (at? y_1 1) fun (y_7 : Int × List UInt8 × (Int × Int) × Int) => if nei y_7.1 3 = true then some (([], []), (140, y.2.2.2), ()) else Option.bind (at? y_1 2) fun (y_8 : Int × List UInt8 × (Int × Int) × Int) => if nei y_8.1 2 = true then some (([], []), (140, y.2.2.2), ()) else Option.bind (at? y_1 0) fun (y_9 : Int × List UInt8 × (Int × Int) × Int) => Option.bind (at? y_1 2) fun (y_10 : Int × List UInt8 × (Int × Int) × Int) => Option.bind (at? y_1 0) fun (y_11 : Int × List UInt8 × (Int × Int) × Int) => if eqi (Int.ofNat (List.length y_1)) 4 = true then Option.bind (at? y_1 3) fun (y_12 : Int × List UInt8 × (Int × Int) × Int) => if nei y_12.1 1 = true then some (([], []), (140, y.2.2.2), ()) else Option.bind (at? y_1 3) fun (y_13 : Int × List UInt8 × (Int × Int) × Int) => need o_o (need (eqi (Sx.sub .i64 (if o_o = true then Int.ofNat (List.length o + 1) else Int.ofNat (List.length o)) 1) (Int.ofNat (List.length o))) (need o_o (need (eqi (Sx.sub .i64 (if o_o = true then Int.ofNat (List.length o + 1) else Int.ofNat (List.length o)) 1) (Int.ofNat (List.length o))) (if eqi (Int.ofNat (List.length o_2)) 64 = true then some (([], []), (130, y.2.2.2), ()) else need o_o (need (eqi (Sx.sub .i64 (if o_o = true then Int.ofNat (List.length o + 1) else Int.ofNat (List.length o)) 1) (Int.ofNat (List.length o))) (need (small (List.length o_2 + Nat.succ 0)) (need o_o (need (eqi (Sx.sub .i64 (if o_o = true then Int.ofNat (List.length o + 1) else Int.ofNat (List.length o)) 1) (Int.ofNat (List.length o))) (self1 tokens (add .i64 t25 1) t23 t24 (add .i64 t25 1) t2 t3 p p_2 true o o_l o_l_2 (o_2 ++ [(y_9.2.1, y_10.2.2.1, y_13.2.1, y_11.2.2.2)])))))))))) else need o_o (need (eqi (Sx.sub .i64 (if o_o = true then Int.ofNat (List.length o + 1) else Int.ofNat (List.length o)) 1) (Int.ofNat (List.length o))) (need o_o (need (eqi (Sx.sub .i64 (if o_o = true then Int.ofNat (List.length o + 1) else Int.ofNat (List.length o)) 1) (Int.ofNat (List.length o))) (if eqi (Int.ofNat (List.length o_2)) 64 = true then some (([], []), (130, y.2.2.2), ()) else need o_o (need (eqi (Sx.sub .i64 (if o_o = true then Int.ofNat (List.length o + 1) else Int.ofNat (List.length o)) 1) (Int.ofNat (List.length o))) (need (small (List.length o_2 + Nat.succ 0)) (need o_o (need (eqi (Sx.sub .i64 (if o_o = true then Int.ofNat (List.length o + 1) else Int.ofNat (List.length o)) 1) (Int.ofNat (List.length o))) (self1 tokens (add .i64 t25 1) t23 t24 (add .i64 t25 1) t2 t3 p p_2 true o o_l o_l_2 (o_2 ++ [(y_9.2.1, y_10.2.2.1, [], y_11.2.2.2)])))))))))) else if nei (Int.ofNat (List.length y_1)) 3 = true then if nei (Int.ofNat (List.length y_1)) 4 = true then some (([], []), (140, y.2.2.2), ()) else Option.bind (at? y_1 0) fun (y_3 : Int × List UInt8 × (Int × Int) × Int) => if nei y_3.1 1 = true then some (([], []), (140, y.2.2.2), ()) else Option.bind (at? y_1 0) fun (y_4 : Int × List UInt8 × (Int × Int) × Int) => Option.bind (q2c_ (y_4.2.1, ())) fun (y_5 : Bool × Unit) => if (!y_5.1) = true then some (([], []), (140, y.2.2.2), ()) else Option.bind (at? y_1 1) fun (y_6 : Int × List UInt8 × (Int × Int) × Int) => if nei y_6.1 3 = true then some (([], []), (140, y.2.2.2), ()) else Option.bind (at? y_1 2) fun (y_7 : Int × List UInt8 × (Int × Int) × Int) => if nei y_7.1 2 = true then some (([], []), (140, y.2.2.2), ()) else Option.bind (at? y_1 0) fun (y_8 : Int × List UInt8 × (Int × Int) × Int) => Option.bind (at? y_1 2) fun (y_9 : Int × List UInt8 × (Int × Int) × Int) => Option.bind (at? y_1 0) fun (y_10 : Int × List UInt8 × (Int × Int) × Int) => if eqi (Int.ofNat (List.length y_1)) 4 = true then Option.bind (at? y_1 3) fun (y_11 : Int × List UInt8 × (Int × Int) × Int) => if nei y_11.1 1 = true then some (([], []), (140, y.2.2.2), ()) else Option.bind (at? y_1 3) fun (y_12 : Int × List UInt8 × (Int × Int) × Int) => need o_o (need (eqi (Sx.sub .i64 (if o_o = true then Int.ofNat (List.length o + 1) else Int.ofNat (List.length o)) 1) (Int.ofNat (List.length o))) (need o_o (need (eqi (Sx.sub .i64 (if o_o = true then Int.ofNat (List.length o + 1) else Int.ofNat (List.length o)) 1) (Int.ofNat (List.length o))) (if eqi (Int.ofNat (List.length o_2)) 64 = true then some (([], []), (130, y.2.2.2), ()) else need o_o (need (eqi (Sx.sub .i64 (if o_o = true then Int.ofNat (List.length o + 1) else Int.ofNat (List.length o)) 1) (Int.ofNat (List.length o))) (need (small (List.length o_2 + Nat.succ 0)) (need o_o (need (eqi (Sx.sub .i64 (if o_o = true then Int.ofNat (List.length o + 1) else Int.ofNat (List.length o)) 1) (Int.ofNat (List.length o))) (self1 tokens (add .i64 t25 1) t23 t24 (add .i64 t25 1) t2 t3 p p_2 true o o_l o_l_2 (o_2 ++ [(y_8.2.1, y_9.2.2.1, y_12.2.1, y_10.2.2.2)])))))))))) else need o_o (need (eqi (Sx.sub .i64 (if o_o = true then Int.ofNat (List.length o + 1) else Int.ofNat (List.length o)) 1) (Int.ofNat (List.length o))) (need o_o (need (eqi (Sx.sub .i64 (if o_o = true then Int.ofNat (List.length o + 1) else Int.ofNat (List.length o)) 1) (Int.ofNat (List.length o))) (if eqi (Int.ofNat (List.length o_2)) 64 = true then some (([], []), (130, y.2.2.2), ()) else need o_o (need (eqi (Sx.sub .i64 (if o_o = true then Int.ofNat (List.length o + 1) else Int.ofNat (List.length o)) 1) (Int.ofNat (List.length o))) (need (small (List.length o_2 + Nat.succ 0)) (need o_o (need (eqi (Sx.sub .i64 (if o_o = true then Int.ofNat (List.length o + 1) else Int.ofNat (List.length o)) 1) (Int.ofNat (List.length o))) (self1 tokens (add .i64 t25 1) t23 t24 (add .i64 t25 1) t2 t3 p p_2 true o o_l o_l_2 (o_2 ++ [(y_8.2.1, y_9.2.2.1, [], y_10.2.2.2)])))))))))) else Option.bind (at? y_1 0) fun (y_3 : Int × List UInt8 × (Int × Int) × Int) => if nei y_3.1 1 = true then some (([], []), (140, y.2.2.2), ()) else Option.bind (at? y_1 0) fun (y_4 : Int × List UInt8 × (Int × Int) × Int) => Option.bind (q2c_ (y_4.2.1, ())) fun (y_5 : Bool × Unit) => if (!y_5.1) = true then some (([], []), (140, y.2.2.2), ()) else Option.bind (at? y_1 1) fun (y_6 : Int × List UInt8 × (Int × Int) × Int) => if nei y_6.1 3 = true then some (([], []), (140, y.2.2.2), ()) else Option.bind (at? y_1 2) fun (y_7 : Int × List UInt8 × (Int × Int) × Int) => if nei y_7.1 2 = true then some (([], []), (140, y.2.2.2), ()) else Option.bind (at? y_1 0) fun (y_8 : Int × List UInt8 × (Int × Int) × Int) => Option.bind (at? y_1 2) fun (y_9 : Int × List UInt8 × (Int × Int) × Int) => Option.bind (at? y_1 0) fun (y_10 : Int × List UInt8 × (Int × Int) × Int) => if eqi (Int.ofNat (List.length y_1)) 4 = true then Option.bind (at? y_1 3) fun (y_11 : Int × List UInt8 × (Int × Int) × Int) => if nei y_11.1 1 = true then some (([], []), (140, y.2.2.2), ()) else Option.bind (at? y_1 3) fun (y_12 : Int × List UInt8 × (Int × Int) × Int) => need o_o (need (eqi (Sx.sub .i64 (if o_o = true then Int.ofNat (List.length o + 1) else Int.ofNat (List.length o)) 1) (Int.ofNat (List.length o))) (need o_o (need (eqi (Sx.sub .i64 (if o_o = true then Int.ofNat (List.length o + 1) else Int.ofNat (List.length o)) 1) (Int.ofNat (List.length o))) (if eqi (Int.ofNat (List.length o_2)) 64 = true then some (([], []), (130, y.2.2.2), ()) else need o_o (need (eqi (Sx.sub .i64 (if o_o = true then Int.ofNat (List.length o + 1) else Int.ofNat (List.length o)) 1) (Int.ofNat (List.length o))) (need (small (List.length o_2 + Nat.succ 0)) (need o_o (need (eqi (Sx.sub .i64 (if o_o = true then Int.ofNat (List.length o + 1) else Int.ofNat (List.length o)) 1) (Int.ofNat (List.length o))) (self1 tokens (add .i64 t25 1) t23 t24 (add .i64 t25 1) t2 t3 p p_2 true o o_l o_l_2 (o_2 ++ [(y_8.2.1, y_9.2.2.1, y_12.2.1, y_10.2.2.2)])))))))))) else need o_o (need (eqi (Sx.sub .i64 (if o_o = true then Int.ofNat (List.length o + 1) else Int.ofNat (List.length o)) 1) (Int.ofNat (List.length o))) (need o_o (need (eqi (Sx.sub .i64 (if o_o = true then Int.ofNat (List.length o + 1) else Int.ofNat (List.length o)) 1) (Int.ofNat (List.length o))) (if eqi (Int.ofNat (List.length o_2)) 64 = true then some (([], []), (130, y.2.2.2), ()) else need o_o (need (eqi (Sx.sub .i64 (if o_o = true then Int.ofNat (List.length o + 1) else Int.ofNat (List.length o)) 1) (Int.ofNat (List.length o))) (need (small (List.length o_2 + Nat.succ 0)) (need o_o (need (eqi (Sx.sub .i64 (if o_o = true then Int.ofNat (List.length o + 1) else Int.ofNat (List.length o)) 1) (Int.ofNat (List.length o))) (self1 tokens (add .i64 t25 1) t23 t24 (add .i64 t25 1) t2 t3 p p_2 true o o_l o_l_2 (o_2 ++ [(y_8.2.1, y_9.2.2.1, [], y_10.2.2.2)])))))))))) else if nei (Int.ofNat (List.length y_1)) 3 = true then if nei (Int.ofNat (List.length y_1)) 4 = true then some (([], []), (140, y.2.2.2), ()) else Option.bind (at? y_1 0) fun (y_2 : Int × List UInt8 × (Int × Int) × Int) => if nei y_2.1 1 = true then some (([], []), (140, y.2.2.2), ()) else Option.bind (at? y_1 0) fun (y_3 : Int × List UInt8 × (Int × Int) × Int) => Option.bind (q2c_ (y_3.2.1, ())) fun (y_4 : Bool × Unit) => if (!y_4.1) = true then some (([], []), (140, y.2.2.2), ()) else Option.bind (at? y_1 1) fun (y_5 : Int × List UInt8 × (Int × Int) × Int) => if nei y_5.1 3 = true then some (([], []), (140, y.2.2.2), ()) else Option.bind (at? y_1 2) fun (y_6 : Int × List UInt8 × (Int × Int) × Int) => if nei y_6.1 2 = true then some (([], []), (140, y.2.2.2), ()) else Option.bind (at? y_1 0) fun (y_7 : Int × List UInt8 × (Int × Int) × Int) => Option.bind (at? y_1 2) fun (y_8 : Int × List UInt8 × (Int × Int) × Int) => Option.bind (at? y_1 0) fun (y_9 : Int × List UInt8 × (Int × Int) × Int) => if eqi (Int.ofNat (List.length y_1)) 4 = true then Option.bind (at? y_1 3) fun (y_10 : Int × List UInt8 × (Int × Int) × Int) => if nei y_10.1 1 = true then some (([], []), (140, y.2.2.2), ()) else Option.bind (at? y_1 3) fun (y_11 : Int × List UInt8 × (Int × Int) × Int) => need o_o (need (eqi (Sx.sub .i64 (if o_o = true then Int.ofNat (List.length o + 1) else Int.ofNat (List.length o)) 1) (Int.ofNat (List.length o))) (need o_o (need (eqi (Sx.sub .i64 (if o_o = true then Int.ofNat (List.length o + 1) else Int.ofNat (List.length o)) 1) (Int.ofNat (List.length o))) (if eqi (Int.ofNat (List.length o_2)) 64 = true then some (([], []), (130, y.2.2.2), ()) else need o_o (need (eqi (Sx.sub .i64 (if o_o = true then Int.ofNat (List.length o + 1) else Int.ofNat (List.length o)) 1) (Int.ofNat (List.length o))) (need (small (List.length o_2 + Nat.succ 0)) (need o_o (need (eqi (Sx.sub .i64 (if o_o = true then Int.ofNat (List.length o + 1) else Int.ofNat (List.length o)) 1) (Int.ofNat (List.length o))) (self1 tokens (add .i64 t25 1) t23 t24 (add .i64 t25 1) t2 t3 p p_2 true o o_l o_l_2 (o_2 ++ [(y_7.2.1, y_8.2.2.1, y_11.2.1, y_9.2.2.2)])))))))))) else need o_o (need (eqi (Sx.sub .i64 (if o_o = true then Int.ofNat (List.length o + 1) else Int.ofNat (List.length o)) 1) (Int.ofNat (List.length o))) (need o_o (need (eqi (Sx.sub .i64 (if o_o = true then Int.ofNat (List.length o + 1) else Int.ofNat (List.length o)) 1) (Int.ofNat (List.length o))) (if eqi (Int.ofNat (List.length o_2)) 64 = true then some (([], []), (130, y.2.2.2), ()) else need o_o (need (eqi (Sx.sub .i64 (if o_o = true then Int.ofNat (List.length o + 1) else Int.ofNat (List.length o)) 1) (Int.ofNat (List.length o))) (need (small (List.length o_2 + Nat.succ 0)) (need o_o (need (eqi (Sx.sub .i64 (if o_o = true then Int.ofNat (List.length o + 1) else Int.ofNat (List.length o)) 1) (Int.ofNat (List.length o))) (self1 tokens (add .i64 t25 1) t23 t24 (add .i64 t25 1) t2 t3 p p_2 true o o_l o_l_2 (o_2 ++ [(y_7.2.1, y_8.2.2.1, [], y_9.2.2.2)])))))))))) else Option.bind (at? y_1 0) fun (y_2 : Int × List UInt8 × (Int × Int) × Int) => if nei y_2.1 1 = true then some (([], []), (140, y.2.2.2), ()) else Option.bind (at? y_1 0) fun (y_3 : Int × List UInt8 × (Int × Int) × Int) => Option.bind (q2c_ (y_3.2.1, ())) fun (y_4 : Bool × Unit) => if (!y_4.1) = true then some (([], []), (140, y.2.2.2), ()) else Option.bind (at? y_1 1) fun (y_5 : Int × List UInt8 × (Int × Int) × Int) => if nei y_5.1 3 = true then some (([], []), (140, y.2.2.2), ()) else Option.bind (at? y_1 2) fun (y_6 : Int × List UInt8 × (Int × Int) × Int) => if nei y_6.1 2 = true then some (([], []), (140, y.2.2.2), ()) else Option.bind (at? y_1 0) fun (y_7 : Int × List UInt8 × (Int × Int) × Int) => Option.bind (at? y_1 2) fun (y_8 : Int × List UInt8 × (Int × Int) × Int) => Option.bind (at? y_1 0) fun (y_9 : Int × List UInt8 × (Int × Int) × Int) => if eqi (Int.ofNat (List.length y_1)) 4 = true then Option.bind (at? y_1 3) fun (y_10 : Int × List UInt8 × (Int × Int) × Int) => if nei y_10.1 1 = true then some (([], []), (140, y.2.2.2), ()) else Option.bind (at? y_1 3) fun (y_11 : Int × List UInt8 × (Int × Int) × Int) => need o_o (need (eqi (Sx.sub .i64 (if o_o = true then Int.ofNat (List.length o + 1) else Int.ofNat (List.length o)) 1) (Int.ofNat (List.length o))) (need o_o (need (eqi (Sx.sub .i64 (if o_o = true then Int.ofNat (List.length o + 1) else Int.ofNat (List.length o)) 1) (Int.ofNat (List.length o))) (if eqi (Int.ofNat (List.length o_2)) 64 = true then some (([], []), (130, y.2.2.2), ()) else need o_o (need (eqi (Sx.sub .i64 (if o_o = true then Int.ofNat (List.length o + 1) else Int.ofNat (List.length o)) 1) (Int.ofNat (List.length o))) (need (small (List.length o_2 + Nat.succ 0)) (need o_o (need (eqi (Sx.sub .i64 (if o_o = true then Int.ofNat (List.length o + 1) else Int.ofNat (List.length o)) 1) (Int.ofNat (List.length o))) (self1 tokens (add .i64 t25 1) t23 t24 (add .i64 t25 1) t2 t3 p p_2 true o o_l o_l_2 (o_2 ++ [(y_7.2.1, y_8.2.2.1, y_11.2.1, y_9.2.2.2)])))))))))) else need o_o (need (eqi (Sx.sub .i64 (if o_o = true then Int.ofNat (List.length o + 1) else Int.ofNat (List.length o)) 1) (Int.ofNat (List.length o))) (need o_o (need (eqi (Sx.sub .i64 (if o_o = true then Int.ofNat (List.length o + 1) else Int.ofNat (List.length o)) 1) (Int.ofNat (List.length o))) (if eqi (Int.ofNat (List.length o_2)) 64 = true then some (([], []), (130, y.2.2.2), ()) else need o_o (need (eqi (Sx.sub .i64 (if o_o = true then Int.ofNat (List.length o + 1) else Int.ofNat (List.length o)) 1) (Int.ofNat (List.length o))) (need (small (List.length o_2 + Nat.succ 0)) (need o_o (need (eqi (Sx.sub .i64 (if o_o = true then Int.ofNat (List.length o + 1) else Int.ofNat (List.length o)) 1) (Int.ofNat (List.length o))) (self1 tokens (add .i64 t25 1) t23 t24 (add .i64 t25 1) t2 t3 p p_2 true o o_l o_l_2 (o_2 ++ [(y_7.2.1, y_8.2.2.1, [], y_9.2.2.2)])))))))))) else if eqi p 1 = true then Option.bind (cut tokens from' t25) fun (y_1 : List QCT2) => Option.bind (qbo_ (y_1, [115, 108, 97, 118, 101], ())) fun (y_2 : Bool × Unit) => if (!y_2.1) = true then some (([], []), (140, y.2.2.2), ()) else if eqi (if o_o = true then Int.ofNat (List.length o + 1) else Int.ofNat (List.length o)) 8 = true then some (([], []), (130, y.2.2.2), ()) else Option.bind (at? y_1 1) fun (y : Int × List UInt8 × (Int × Int) × Int) => Option.bind (at? y_1 1) fun (y_3 : Int × List UInt8 × (Int × Int) × Int) => need (small (List.length (if o_o = true then o ++ [(o_l, o_l_2, o_2)] else o) + 1)) (self1 tokens (add .i64 t25 1) t23 t24 (add .i64 t25 1) t2 t3 2 p_2 true (if o_o = true then o ++ [(o_l, o_l_2, o_2)] else o) y.2.1 y_3.2.2.2 []) else if eqi p 0 = true then Option.bind (cut tokens from' t25) fun (y_1 : List QCT2) => Option.bind (qbo_ (y_1, [114, 101, 99, 105, 112, 101], ())) fun (y_2 : Bool × Unit) => if (!y_2.1) = true then some (([], []), (140, y.2.2.2), ()) else Option.bind (at? y_1 1) fun (y : Int × List UInt8 × (Int × Int) × Int) => self1 tokens (add .i64 t25 1) t23 t24 (add .i64 t25 1) t2 t3 1 y.2.1 o_o o o_l o_l_2 o_2 else Option.none else j2 t2 t3 p p_2 o_o o o_l o_l_2 o_2
def qb7_ (t2 : List UInt8) (t3 : Int × Int) (p : Int) (p_2 : List UInt8) (o_o : Bool) (o : List (List UInt8 × Int × List QCT1)) (o_l : List UInt8) (o_l_2 : Int) (o_2 : List QCT1) : Option (As [.pr .str (.sl QCT0), .pr (.int .i64) (.int .i64)]) :=
  if nei p 1 = true then some (([], []), (140, 0), ()) else some ((p_2, if o_o = true then o ++ [(o_l, o_l_2, o_2)] else o), (0, 0), ())
def qbc_ (j1 : List QCT2 -> Int -> List QCT2 -> Int -> Int -> List UInt8 -> Int × Int -> Int -> List UInt8 -> Bool -> List (List UInt8 × Int × List QCT1) -> List UInt8 -> Int -> List QCT1 -> Option (As [.pr .str (.sl QCT0), .pr (.int .i64) (.int .i64)])) (text : List UInt8) : Option (As [.pr .str (.sl QCT0), .pr (.int .i64) (.int .i64)]) :=
  Option.bind (qga_ (text, ())) fun (y : List QCT2 × (Int × Int) × Unit) => if (!(eqi y.2.1.1 0 && (eqi y.2.1.2 0 && true))) = true then some (([], []), y.2.1, ()) else j1 y.1 0 y.1 (Int.ofNat (List.length y.1)) 0 [] (0, 0) 0 [] false [] [] 0 []
def q8l_ (t2 : List UInt8) (t3 : Int × Int) (p : Int) (p_2 : List UInt8) (o_o : Bool) (o : List (List UInt8 × Int × List QCT1)) (o_l : List UInt8) (o_l_2 : Int) (o_2 : List QCT1) : Option (As [.pr .str (.sl QCT0), .pr (.int .i64) (.int .i64)]) := qb7_ t2 t3 p p_2 o_o o o_l o_l_2 o_2
def q8s_ (tokens : List QCT2) (from' : Int) (t23 : List QCT2) (t24 t25 : Int) (t2 : List UInt8) (t3 : Int × Int) (p : Int) (p_2 : List UInt8) (o_o : Bool) (o : List (List UInt8 × Int × List QCT1)) (o_l : List UInt8) (o_l_2 : Int) (o_2 : List QCT1) : Option (As [.pr .str (.sl QCT0), .pr (.int .i64) (.int .i64)]) :=
  loopF (fun (self : (List QCT2) × (Int) × (List QCT2) × (Int) × (Int) × (List UInt8) × (Int × Int) × (Int) × (List UInt8) × (Bool) × (List (List UInt8 × Int × List QCT1)) × (List UInt8) × (Int) × (List QCT1) -> Option (As [.pr .str (.sl QCT0), .pr (.int .i64) (.int .i64)])) (s : (List QCT2) × (Int) × (List QCT2) × (Int) × (Int) × (List UInt8) × (Int × Int) × (Int) × (List UInt8) × (Bool) × (List (List UInt8 × Int × List QCT1)) × (List UInt8) × (Int) × (List QCT1)) => q23_ (q8l_) (fun tokens from' t23 t24 t25 t2 t3 p p_2 o_o o o_l o_l_2 o_2 => self (tokens, from', t23, t24, t25, t2, t3, p, p_2, o_o, o, o_l, o_l_2, o_2)) s.1 s.2.1 s.2.2.1 s.2.2.2.1 s.2.2.2.2.1 s.2.2.2.2.2.1 s.2.2.2.2.2.2.1 s.2.2.2.2.2.2.2.1 s.2.2.2.2.2.2.2.2.1 s.2.2.2.2.2.2.2.2.2.1 s.2.2.2.2.2.2.2.2.2.2.1 s.2.2.2.2.2.2.2.2.2.2.2.1 s.2.2.2.2.2.2.2.2.2.2.2.2.1 s.2.2.2.2.2.2.2.2.2.2.2.2.2) 18446744073709551616 (tokens, from', t23, t24, t25, t2, t3, p, p_2, o_o, o, o_l, o_l_2, o_2)
def q69_ (x : As [.str]) : Option (As [.pr .str (.sl QCT0), .pr (.int .i64) (.int .i64)]) := qbc_ q8s_ x.1
theorem qll_  (J t2 t3 p p_2 o_o o o_l o_l_2 o_2) : pfn Tryz.prog q53_ 6 18446744073709551616 (Ev.get q52_) 13 q3u_ J 127 [] (qb6_ t2 t3 p p_2 o_o o o_l o_l_2 o_2) = qb7_ t2 t3 p p_2 o_o o o_l o_l_2 o_2 := by kernel_rfl
theorem qlg_  (J w1 tokens from' t23 t24 t25 t2 t3 p p_2 o_o o o_l o_l_2 o_2) : pfn Tryz.prog q53_ 6 18446744073709551616 (Ev.get q52_) 13 q3u_ J 1018 [w1] (q6f_ tokens from' t23 t24 t25 t2 t3 p p_2 o_o o o_l o_l_2 o_2) = q23_ (fun t2 t3 p p_2 o_o o o_l o_l_2 o_2 => J 127 [] (qb6_ t2 t3 p p_2 o_o o o_l o_l_2 o_2)) (fun tokens from' t23 t24 t25 t2 t3 p p_2 o_o o o_l o_l_2 o_2 => w1 (q6f_ tokens from' t23 t24 t25 t2 t3 p p_2 o_o o o_l o_l_2 o_2)) tokens from' t23 t24 t25 t2 t3 p p_2 o_o o o_l o_l_2 o_2 := by kernel_rfl
theorem qlj_ (J : Orc (As [.pr .str (.sl QCT0), .pr (.int .i64) (.int .i64)])) (x : As [.str]) : rfn Tryz.prog q53_ 6 18446744073709551616 (Ev.get q52_) 13 q3u_ J x = qbc_ (fun tokens from' t23 t24 t25 t2 t3 p p_2 o_o o o_l o_l_2 o_2 => J 1018 [] (q6f_ tokens from' t23 t24 t25 t2 t3 p p_2 o_o o o_l o_l_2 o_2)) x.1 := by kernel_rfl
theorem qlk_  (t2 t3 p p_2 o_o o o_l o_l_2 o_2) : jfn Tryz.prog q53_ 6 18446744073709551616 (Ev.get q52_) 13 q3u_ 127 [] (qb6_ t2 t3 p p_2 o_o o o_l o_l_2 o_2) = q8l_ t2 t3 p p_2 o_o o o_l o_l_2 o_2 := by
  rw [q2_ (by decide)]
  rw [qll_]
  rfl
theorem ql2_  (tokens from' t23 t24 t25 t2 t3 p p_2 o_o o o_l o_l_2 o_2) : jfn Tryz.prog q53_ 6 18446744073709551616 (Ev.get q52_) 13 q3u_ 1018 [] (q6f_ tokens from' t23 t24 t25 t2 t3 p p_2 o_o o o_l o_l_2 o_2) = q8s_ tokens from' t23 t24 t25 t2 t3 p p_2 o_o o o_l o_l_2 o_2 := by
  rw [q2_ (by decide)]
  rw [qm_ (by kernel_rfl)]
  refine qj_ (σ := (List QCT2) × (Int) × (List QCT2) × (Int) × (Int) × (List UInt8) × (Int × Int) × (Int) × (List UInt8) × (Bool) × (List (List UInt8 × Int × List QCT1)) × (List UInt8) × (Int) × (List QCT1)) (mk := fun s => q6f_ s.1 s.2.1 s.2.2.1 s.2.2.2.1 s.2.2.2.2.1 s.2.2.2.2.2.1 s.2.2.2.2.2.2.1 s.2.2.2.2.2.2.2.1 s.2.2.2.2.2.2.2.2.1 s.2.2.2.2.2.2.2.2.2.1 s.2.2.2.2.2.2.2.2.2.2.1 s.2.2.2.2.2.2.2.2.2.2.2.1 s.2.2.2.2.2.2.2.2.2.2.2.2.1 s.2.2.2.2.2.2.2.2.2.2.2.2.2) (fun w1 s => ?_) 18446744073709551616 (tokens, from', t23, t24, t25, t2, t3, p, p_2, o_o, o, o_l, o_l_2, o_2)
  have e2 : (fun t2 t3 p p_2 o_o o o_l o_l_2 o_2 => (jfn Tryz.prog q53_ 6 18446744073709551616 (Ev.get q52_) 13 q3u_) 127 [] (qb6_ t2 t3 p p_2 o_o o o_l o_l_2 o_2)) = q8l_ := by funext t2 t3 p p_2 o_o o o_l o_l_2 o_2; exact qlk_ t2 t3 p p_2 o_o o o_l o_l_2 o_2
  refine (qlg_ _ w1 s.1 s.2.1 s.2.2.1 s.2.2.2.1 s.2.2.2.2.1 s.2.2.2.2.2.1 s.2.2.2.2.2.2.1 s.2.2.2.2.2.2.2.1 s.2.2.2.2.2.2.2.2.1 s.2.2.2.2.2.2.2.2.2.1 s.2.2.2.2.2.2.2.2.2.2.1 s.2.2.2.2.2.2.2.2.2.2.2.1 s.2.2.2.2.2.2.2.2.2.2.2.2.1 s.2.2.2.2.2.2.2.2.2.2.2.2.2).trans ?_
  rw [e2]
theorem qn5_ (x : As [.str]) : evT Tryz.prog q53_ 6 18446744073709551616 (Ev.get q52_) 13 q3u_ x = q69_ x := by
  have e1 : (fun tokens from' t23 t24 t25 t2 t3 p p_2 o_o o o_l o_l_2 o_2 => (jfn Tryz.prog q53_ 6 18446744073709551616 (Ev.get q52_) 13 q3u_) 1018 [] (q6f_ tokens from' t23 t24 t25 t2 t3 p p_2 o_o o o_l o_l_2 o_2)) = q8s_ := by funext tokens from' t23 t24 t25 t2 t3 p p_2 o_o o o_l o_l_2 o_2; exact ql2_ tokens from' t23 t24 t25 t2 t3 p p_2 o_o o o_l o_l_2 o_2
  rw [q1v_, qlj_, e1]
  rfl
theorem qf3_ : CtOk Tryz.prog I0 13 ⟨q3u_, q69_⟩ := qu_ (q1_ Ev.bx_ok (q1_ qsg_ (q1_ qg4_ (q1_ ql5_ qa_)))) qn5_
@[reducible] def qpw_ : Sh := ⟨[.d (.str), .d (.int .i64), .d (.int .i64)], [], [.str, .int .i64, .int .i64], [.d (.bool)], [], 0, [.bool]⟩
def qnn_ (s : List UInt8) (e line : Int) : Option (As [.bool]) :=
  Option.bind (q69_ (s, ())) fun (y : (List UInt8 × List (List UInt8 × Int × List QCT1)) × (Int × Int) × Unit) => if eqi (Int.ofNat (List.length y.1.2)) 0 = true then if eqs y.1.1 [] = true then some (eqi y.2.1.1 e && (eqi y.2.1.2 line && true), ()) else some (false, ()) else some (false, ())
def qgn_ (x : As [.str, .int .i64, .int .i64]) : Option (As [.bool]) := qnn_ x.1 x.2.1 x.2.2.1
theorem qmk_ : CtOk Tryz.prog I0 26 ⟨qpw_, qgn_⟩ := ctn (q1_ qf3_ qa_) 6 fun J x => by kernel_rfl
@[reducible] def qj0_ : Sh := ⟨[], [], [], [.d (.bool)], [], 0, [.bool]⟩
def qnt_ : Option (As [.bool]) :=
  Option.bind (q69_ ([114, 101, 99, 105, 112, 101, 32, 97, 10, 115, 108, 97, 118, 101, 32, 98, 10, 32, 32, 99, 32, 61, 32, 49, 46, 53, 32, 98, 97, 114, 10, 101, 110, 100, 10], ())) fun (y : (List UInt8 × List (List UInt8 × Int × List QCT1)) × (Int × Int) × Unit) => Option.bind (q7t_ (y.1, ())) fun (y_1 : List UInt8 × Bool × Unit) => Option.bind (q69_ ([114, 101, 99, 105, 112, 101, 32, 97], ())) fun (y_2 : (List UInt8 × List (List UInt8 × Int × List QCT1)) × (Int × Int) × Unit) => if eqi y.2.1.1 0 = true then Option.bind (qay_ (y.1, ([97], [([98], 2, [([99], (15, 1), [98, 97, 114], 3)])]), ())) fun (y : Bool × Unit) => if y.1 = true then if y_1.2.1 = true then if eqs y_1.1 [114, 101, 99, 105, 112, 101, 32, 97, 10, 115, 108, 97, 118, 101, 32, 98, 10, 32, 32, 99, 32, 61, 32, 49, 46, 53, 32, 98, 97, 114, 10, 101, 110, 100, 10] = true then Option.bind (qgn_ ([114, 101, 99, 105, 112, 101, 32, 97, 10, 101, 110, 100], 140, 2, ())) fun (y : Bool × Unit) => if y.1 = true then Option.bind (qgn_ ([114, 101, 99, 105, 112, 101, 32, 97, 10, 115, 108, 97, 118, 101, 32, 98], 140, 0, ())) fun (y : Bool × Unit) => if y.1 = true then Option.bind (qgn_ ([114, 101, 99, 105, 112, 101, 32, 115, 108, 97, 118, 101], 140, 1, ())) fun (y : Bool × Unit) => if y.1 = true then if eqi y_2.2.1.1 0 = true then some (eqi (Int.ofNat (List.length y_2.1.2)) 0, ()) else some (false, ()) else some (false, ()) else some (false, ()) else some (false, ()) else some (false, ()) else some (false, ()) else some (false, ()) else some (false, ())
def qaz_ (x : As []) : Option (As [.bool]) := qnt_
theorem qo8_ : CtOk Tryz.prog I0 16 ⟨qj0_, qaz_⟩ := ctn (q1_ qi2_ (q1_ qf3_ (q1_ qic_ (q1_ qmk_ qa_)))) 6 fun J x => by kernel_rfl
@[reducible] def qp_ : Sh := ⟨[.d (.str)], [], [.str], [.d (.pr .str (.sl QCT0)), .d (.pr (.int .i64) (.int .i64))], [], 0, [.pr .str (.sl QCT0), .pr (.int .i64) (.int .i64)]⟩
def qx_ : Env := (cts [(3000024, Ev.bxCt), (43, (⟨q4_, qeu_⟩ : Ct)), (44, (⟨q4q_, qfe_⟩ : Ct)), (45, (⟨qjb_, qf9_⟩ : Ct)), (46, (⟨q2u_, q61_⟩ : Ct))])
def qw_ : List (Nat × Hint) := [(511, ⟨[], [2, 3, 7, 8]⟩), (4090, ⟨[.rwb 7 1 43, .opc 7 1 [(2, 47)]], [2, 3, 6, 7, 8, 9]⟩), (16361, ⟨[.opc 7 1 [(2, 47)]], [2, 3, 6, 7, 8, 9]⟩), (16753919, ⟨[], [2, 3, 6, 7, 8, 9, 12, 13, 95, 96, 97, 98, 99, 102, 103, 104, 105, 106, 112, 113, 114, 117, 118, 119, 120, 121, 124, 125, 126, 127, 128, 129, 132, 133, 134, 135, 136, 139, 140, 141, 142, 143, 146, 147, 148, 149, 150, 151, 152, 153, 154, 155]⟩), (2094238, ⟨[.agd 112 QCT3, .agd 113 (.int .i64), .agd 114 .bool, .agd 117 QCT3, .agd 120 (.int .u8), .agd 121 .bool, .agd 124 QCT3, .agd 127 .str, .agd 128 .bool, .agd 129 .bool, .agd 132 QCT3, .agd 135 (.int .u8), .agd 136 .bool, .agd 139 QCT3, .agd 142 (.int .u8), .agd 143 .bool, .agd 146 QCT3, .agd 147 (.int .i64), .agd 148 .bool, .agd 149 .bool, .agd 150 QCT3, .agd 153 (.int .u8), .agd 154 .bool, .agd 155 .bool], [2, 3, 6, 7, 8, 9, 10, 11, 156]⟩), (1047118, ⟨[.agd 102 QCT3, .agd 105 .str, .agd 106 .bool, .agd 95 QCT3, .agd 98 (.int .u8), .agd 99 .bool], [2, 3, 6, 7, 8, 9, 10, 11, 107]⟩)]
def q11_ (all : List (List QCT2)) (openV : Bool) (i : Int) (t2 : List UInt8) (t3 : Int × Int) (r : List UInt8) (o_o : Bool) (o : List (List UInt8 × Int × List QCT1)) (o_l : List UInt8) (o_l_2 : Int) (o_2 : List QCT1) : St := { fr := [(2, .pb 0 0), (3, .pb 1 0), (6, .d (.sl QCT3) all), (7, .pb 2 0), (8, .d .bool openV), (9, .d (.int .i64) i)], nt := 212, up := [], own := [(0, .box 26 [.d .str t2, .k (Go.Value.slice Option.none 0 0)]), (1, .box 33 [.d (.int .i64) t3.1, .d (.int .i64) t3.2]), (2, .box 26 [.d .str r, .row 3]), (3, .rowo QCT0 43 o_o o [.d .str o_l, .d (.int .i64) o_l_2, .row 4]), (4, .row QCT4 47 o_2)], nx := 5, log := [], ln := 0 }
def q51_ (all : List (List QCT2)) (openV : Bool) (i : Int) (t2 : List UInt8) (t3 : Int × Int) (r : List UInt8) (o_o : Bool) (o : List (List UInt8 × Int × List QCT1)) (o_l : List UInt8) (o_l_2 : Int) (o_2 : List QCT1) : St := { fr := [(2, .pb 0 0), (3, .pb 1 0), (6, .d (.sl QCT3) all), (7, .pb 2 0), (8, .d .bool openV), (9, .d (.int .i64) i)], nt := 212, up := [], own := [(0, .box 26 [.d .str t2, .k (Go.Value.slice Option.none 0 0)]), (1, .box 33 [.d (.int .i64) t3.1, .d (.int .i64) t3.2]), (2, .box 26 [.d .str r, .row 3]), (3, .rowo QCT0 43 o_o o [.d .str o_l, .d (.int .i64) o_l_2, .row 4]), (4, .row QCT4 47 o_2)], nx := 5, log := [], ln := 0 }
def qd0_ (all : List (List QCT2)) (openV : Bool) (i : Int) (x : List QCT2) (line : Int) (t107 : Bool) (t2 : List UInt8) (t3 : Int × Int) (r : List UInt8) (o_o : Bool) (o : List (List UInt8 × Int × List QCT1)) (o_l : List UInt8) (o_l_2 : Int) (o_2 : List QCT1) : St := { fr := [(2, .pb 0 0), (3, .pb 1 0), (6, .d (.sl QCT3) all), (7, .pb 2 0), (8, .d .bool openV), (9, .d (.int .i64) i), (10, .d QCT3 x), (11, .d (.int .i64) line), (107, .d .bool t107)], nt := 212, up := [], own := [(0, .box 26 [.d .str t2, .k (Go.Value.slice Option.none 0 0)]), (1, .box 33 [.d (.int .i64) t3.1, .d (.int .i64) t3.2]), (2, .box 26 [.d .str r, .row 3]), (3, .rowo QCT0 43 o_o o [.d .str o_l, .d (.int .i64) o_l_2, .row 4]), (4, .row QCT4 47 o_2)], nx := 5, log := [], ln := 0 }
def qda_ (openV : Bool) (t2 : List UInt8) (t3 : Int × Int) (r : List UInt8) (o_o : Bool) (o : List (List UInt8 × Int × List QCT1)) (o_l : List UInt8) (o_l_2 : Int) (o_2 : List QCT1) : St := { fr := [(2, .pb 0 0), (3, .pb 1 0), (7, .pb 2 0), (8, .d .bool openV)], nt := 212, up := [], own := [(0, .box 26 [.d .str t2, .k (Go.Value.slice Option.none 0 0)]), (1, .box 33 [.d (.int .i64) t3.1, .d (.int .i64) t3.2]), (2, .box 26 [.d .str r, .row 3]), (3, .rowo QCT0 43 o_o o [.d .str o_l, .d (.int .i64) o_l_2, .row 4]), (4, .row QCT4 47 o_2)], nx := 5, log := [], ln := 0 }
def qd9_ (all : List (List QCT2)) (openV : Bool) (i : Int) (x : List QCT2) (line : Int) (t156 : Bool) (t2 : List UInt8) (t3 : Int × Int) (r : List UInt8) (o_o : Bool) (o : List (List UInt8 × Int × List QCT1)) (o_l : List UInt8) (o_l_2 : Int) (o_2 : List QCT1) : St := { fr := [(2, .pb 0 0), (3, .pb 1 0), (6, .d (.sl QCT3) all), (7, .pb 2 0), (8, .d .bool openV), (9, .d (.int .i64) i), (10, .d QCT3 x), (11, .d (.int .i64) line), (156, .d .bool t156)], nt := 212, up := [], own := [(0, .box 26 [.d .str t2, .k (Go.Value.slice Option.none 0 0)]), (1, .box 33 [.d (.int .i64) t3.1, .d (.int .i64) t3.2]), (2, .box 26 [.d .str r, .row 3]), (3, .rowo QCT0 43 o_o o [.d .str o_l, .d (.int .i64) o_l_2, .row 4]), (4, .row QCT4 47 o_2)], nx := 5, log := [], ln := 0 }
def qca_ (all : List (List QCT2)) (openV : Bool) (i p : Int) (t2 : List UInt8) (t3 : Int × Int) (r : List UInt8) (o_o : Bool) (o : List (List UInt8 × Int × List QCT1)) (o_l : List UInt8) (o_l_2 : Int) (o_2 : List QCT1) (s : List UInt8 × (Int × Int) × List UInt8 × Int) : St := { fr := [(2, .pb 0 0), (3, .pb 1 0), (6, .d (.sl QCT3) all), (7, .pb 2 0), (8, .d .bool openV), (9, .d (.int .i64) i), (12, .d (.int .i64) p), (13, .pb 5 0)], nt := 212, up := [], own := [(0, .box 26 [.d .str t2, .k (Go.Value.slice Option.none 0 0)]), (1, .box 33 [.d (.int .i64) t3.1, .d (.int .i64) t3.2]), (2, .box 26 [.d .str r, .row 3]), (3, .rowo QCT0 43 o_o o [.d .str o_l, .d (.int .i64) o_l_2, .row 4]), (4, .row QCT4 47 o_2), (5, .box 47 [.d .str s.1, .d (.int .i64) s.2.1.1, .d (.int .u8) s.2.1.2, .d .str s.2.2.1, .d (.int .i64) s.2.2.2])], nx := 6, log := [], ln := 0 }
def q4h_ (j2 : List (List QCT2) -> Bool -> Int -> List UInt8 -> Int × Int -> List UInt8 -> Bool -> List (List UInt8 × Int × List QCT1) -> List UInt8 -> Int -> List QCT1 -> Option (As [.pr .str (.sl QCT0), .pr (.int .i64) (.int .i64)])) (j3 : List (List QCT2) -> Bool -> Int -> List QCT2 -> Int -> Bool -> List UInt8 -> Int × Int -> List UInt8 -> Bool -> List (List UInt8 × Int × List QCT1) -> List UInt8 -> Int -> List QCT1 -> Option (As [.pr .str (.sl QCT0), .pr (.int .i64) (.int .i64)])) (j4 : Bool -> List UInt8 -> Int × Int -> List UInt8 -> Bool -> List (List UInt8 × Int × List QCT1) -> List UInt8 -> Int -> List QCT1 -> Option (As [.pr .str (.sl QCT0), .pr (.int .i64) (.int .i64)])) (self1 : List (List QCT2) -> Bool -> Int -> List UInt8 -> Int × Int -> List UInt8 -> Bool -> List (List UInt8 × Int × List QCT1) -> List UInt8 -> Int -> List QCT1 -> Option (As [.pr .str (.sl QCT0), .pr (.int .i64) (.int .i64)])) (all : List (List QCT2)) (openV : Bool) (i : Int) (t2 : List UInt8) (t3 : Int × Int) (r : List UInt8) (o_o : Bool) (o : List (List UInt8 × Int × List QCT1)) (o_l : List UInt8) (o_l_2 : Int) (o_2 : List QCT1) : Option (As [.pr .str (.sl QCT0), .pr (.int .i64) (.int .i64)]) :=
  if lt i (Int.ofNat (List.length all)) = true then Option.bind (at? all i) fun (y : List QCT2) => Option.bind (at? y 0) fun (y_1 : Int × List UInt8 × (Int × Int) × Int) => if (!openV) = true then Option.bind (qf9_ (y, [115, 108, 97, 118, 101], ())) fun (y_2 : Bool × Unit) => if (!y_2.1) = true then some (([], []), (140, y_1.2.2.2), ()) else if eqi (if o_o = true then Int.ofNat (List.length o + 1) else Int.ofNat (List.length o)) 8 = true then some (([], []), (130, y_1.2.2.2), ()) else Option.bind (at? y 1) fun (y : Int × List UInt8 × (Int × Int) × Int) => need (small (List.length (if o_o = true then o ++ [(o_l, o_l_2, o_2)] else o) + 1)) (j2 all true i t2 t3 r true (if o_o = true then o ++ [(o_l, o_l_2, o_2)] else o) y.2.1 y_1.2.2.2 []) else if eqi (Int.ofNat (List.length y)) 1 = true then Option.bind (at? y 0) fun (y_2 : Int × List UInt8 × (Int × Int) × Int) => if eqi y_2.1 1 = true then Option.bind (at? y 0) fun (y_3 : Int × List UInt8 × (Int × Int) × Int) => j3 all openV i y y_1.2.2.2 (eqs y_3.2.1 [101, 110, 100]) t2 t3 r o_o o o_l o_l_2 o_2 else j3 all openV i y y_1.2.2.2 false t2 t3 r o_o o o_l o_l_2 o_2 else j3 all openV i y y_1.2.2.2 false t2 t3 r o_o o o_l o_l_2 o_2 else j4 openV t2 t3 r o_o o o_l o_l_2 o_2
def q5t_ (self1 : List (List QCT2) -> Bool -> Int -> List UInt8 -> Int × Int -> List UInt8 -> Bool -> List (List UInt8 × Int × List QCT1) -> List UInt8 -> Int -> List QCT1 -> Option (As [.pr .str (.sl QCT0), .pr (.int .i64) (.int .i64)])) (all : List (List QCT2)) (openV : Bool) (i : Int) (t2 : List UInt8) (t3 : Int × Int) (r : List UInt8) (o_o : Bool) (o : List (List UInt8 × Int × List QCT1)) (o_l : List UInt8) (o_l_2 : Int) (o_2 : List QCT1) : Option (As [.pr .str (.sl QCT0), .pr (.int .i64) (.int .i64)]) :=
  self1 all openV (add .i64 i 1) t2 t3 r o_o o o_l o_l_2 o_2
def qg8_ (j2 : List (List QCT2) -> Bool -> Int -> List UInt8 -> Int × Int -> List UInt8 -> Bool -> List (List UInt8 × Int × List QCT1) -> List UInt8 -> Int -> List QCT1 -> Option (As [.pr .str (.sl QCT0), .pr (.int .i64) (.int .i64)])) (j5 : List (List QCT2) -> Bool -> Int -> List QCT2 -> Int -> Bool -> List UInt8 -> Int × Int -> List UInt8 -> Bool -> List (List UInt8 × Int × List QCT1) -> List UInt8 -> Int -> List QCT1 -> Option (As [.pr .str (.sl QCT0), .pr (.int .i64) (.int .i64)])) (self1 : List (List QCT2) -> Bool -> Int -> List UInt8 -> Int × Int -> List UInt8 -> Bool -> List (List UInt8 × Int × List QCT1) -> List UInt8 -> Int -> List QCT1 -> Option (As [.pr .str (.sl QCT0), .pr (.int .i64) (.int .i64)])) (all : List (List QCT2)) (openV : Bool) (i : Int) (x : List QCT2) (line : Int) (t107 : Bool) (t2 : List UInt8) (t3 : Int × Int) (r : List UInt8) (o_o : Bool) (o : List (List UInt8 × Int × List QCT1)) (o_l : List UInt8) (o_l_2 : Int) (o_2 : List QCT1) : Option (As [.pr .str (.sl QCT0), .pr (.int .i64) (.int .i64)]) :=
  if t107 = true then j2 all false i t2 t3 r o_o o o_l o_l_2 o_2 else if lt (Int.ofNat (List.length x)) 3 = true then j5 all openV i x line true t2 t3 r o_o o o_l o_l_2 o_2 else if gt (Int.ofNat (List.length x)) 4 = true then j5 all openV i x line true t2 t3 r o_o o o_l o_l_2 o_2 else Option.bind (at? x 0) fun (y : Int × List UInt8 × (Int × Int) × Int) => if nei y.1 1 = true then j5 all openV i x line true t2 t3 r o_o o o_l o_l_2 o_2 else Option.bind (at? x 0) fun (y : Int × List UInt8 × (Int × Int) × Int) => Option.bind (q61_ (y.2.1, ())) fun (y : Bool × Unit) => if (!y.1) = true then j5 all openV i x line true t2 t3 r o_o o o_l o_l_2 o_2 else Option.bind (at? x 1) fun (y : Int × List UInt8 × (Int × Int) × Int) => if nei y.1 3 = true then j5 all openV i x line true t2 t3 r o_o o o_l o_l_2 o_2 else Option.bind (at? x 2) fun (y : Int × List UInt8 × (Int × Int) × Int) => if nei y.1 2 = true then j5 all openV i x line true t2 t3 r o_o o o_l o_l_2 o_2 else if eqi (Int.ofNat (List.length x)) 4 = true then Option.bind (at? x 3) fun (y : Int × List UInt8 × (Int × Int) × Int) => j5 all openV i x line (nei y.1 1) t2 t3 r o_o o o_l o_l_2 o_2 else j5 all openV i x line false t2 t3 r o_o o o_l o_l_2 o_2
def qco_ (openV : Bool) (t2 : List UInt8) (t3 : Int × Int) (r : List UInt8) (o_o : Bool) (o : List (List UInt8 × Int × List QCT1)) (o_l : List UInt8) (o_l_2 : Int) (o_2 : List QCT1) : Option (As [.pr .str (.sl QCT0), .pr (.int .i64) (.int .i64)]) :=
  if openV = true then some (([], []), (140, 0), ()) else some ((r, if o_o = true then o ++ [(o_l, o_l_2, o_2)] else o), (0, 0), ())
def qch_ (j6 : List (List QCT2) -> Bool -> Int -> Int -> List UInt8 -> Int × Int -> List UInt8 -> Bool -> List (List UInt8 × Int × List QCT1) -> List UInt8 -> Int -> List QCT1 -> List UInt8 × (Int × Int) × List UInt8 × Int -> Option (As [.pr .str (.sl QCT0), .pr (.int .i64) (.int .i64)])) (self1 : List (List QCT2) -> Bool -> Int -> List UInt8 -> Int × Int -> List UInt8 -> Bool -> List (List UInt8 × Int × List QCT1) -> List UInt8 -> Int -> List QCT1 -> Option (As [.pr .str (.sl QCT0), .pr (.int .i64) (.int .i64)])) (all : List (List QCT2)) (openV : Bool) (i : Int) (x : List QCT2) (line : Int) (t156 : Bool) (t2 : List UInt8) (t3 : Int × Int) (r : List UInt8) (o_o : Bool) (o : List (List UInt8 × Int × List QCT1)) (o_l : List UInt8) (o_l_2 : Int) (o_2 : List QCT1) : Option (As [.pr .str (.sl QCT0), .pr (.int .i64) (.int .i64)]) :=
  if t156 = true then some (([], []), (140, line), ()) else need o_o (need (eqi (Sx.sub .i64 (if o_o = true then Int.ofNat (List.length o + 1) else Int.ofNat (List.length o)) 1) (Int.ofNat (List.length o))) (need o_o (need (eqi (Sx.sub .i64 (if o_o = true then Int.ofNat (List.length o + 1) else Int.ofNat (List.length o)) 1) (Int.ofNat (List.length o))) (if eqi (Int.ofNat (List.length o_2)) 64 = true then some (([], []), (130, line), ()) else Option.bind (at? x 0) fun (y : Int × List UInt8 × (Int × Int) × Int) => Option.bind (at? x 2) fun (y_1 : Int × List UInt8 × (Int × Int) × Int) => if eqi (Int.ofNat (List.length x)) 4 = true then Option.bind (at? x 3) fun (y_2 : Int × List UInt8 × (Int × Int) × Int) => j6 all openV i (Sx.sub .i64 (if o_o = true then Int.ofNat (List.length o + 1) else Int.ofNat (List.length o)) 1) t2 t3 r o_o o o_l o_l_2 o_2 (y.2.1, y_1.2.2.1, y_2.2.1, line) else j6 all openV i (Sx.sub .i64 (if o_o = true then Int.ofNat (List.length o + 1) else Int.ofNat (List.length o)) 1) t2 t3 r o_o o o_l o_l_2 o_2 (y.2.1, y_1.2.2.1, [], line)))))
def qg7_ (j2 self1 : List (List QCT2) -> Bool -> Int -> List UInt8 -> Int × Int -> List UInt8 -> Bool -> List (List UInt8 × Int × List QCT1) -> List UInt8 -> Int -> List QCT1 -> Option (As [.pr .str (.sl QCT0), .pr (.int .i64) (.int .i64)])) (all : List (List QCT2)) (openV : Bool) (i p : Int) (t2 : List UInt8) (t3 : Int × Int) (r : List UInt8) (o_o : Bool) (o : List (List UInt8 × Int × List QCT1)) (o_l : List UInt8) (o_l_2 : Int) (o_2 : List QCT1) (s : List UInt8 × (Int × Int) × List UInt8 × Int) : Option (As [.pr .str (.sl QCT0), .pr (.int .i64) (.int .i64)]) :=
  need o_o (need (eqi p (Int.ofNat (List.length o))) (need o_o (need (eqi p (Int.ofNat (List.length o))) (need (small (List.length o_2 + Nat.succ 0)) (need o_o (need (eqi p (Int.ofNat (List.length o))) (need o_o (need (eqi p (Int.ofNat (List.length o))) (j2 all openV i t2 t3 r true o o_l o_l_2 (o_2 ++ [s]))))))))))
def qcd_ (j1 : List (List QCT2) -> Bool -> Int -> List UInt8 -> Int × Int -> List UInt8 -> Bool -> List (List UInt8 × Int × List QCT1) -> List UInt8 -> Int -> List QCT1 -> Option (As [.pr .str (.sl QCT0), .pr (.int .i64) (.int .i64)])) (text : List UInt8) : Option (As [.pr .str (.sl QCT0), .pr (.int .i64) (.int .i64)]) :=
  Option.bind (qeu_ (text, ())) fun (y : List QCT2 × (Int × Int) × Unit) => if nei y.2.1.1 0 = true then some (([], []), y.2.1, ()) else Option.bind (qfe_ (y.1, ())) fun (y : List (List QCT2) × Unit) => if eqi (Int.ofNat (List.length y.1)) 0 = true then some (([], []), (140, 0), ()) else Option.bind (at? y.1 0) fun (y_1 : List QCT2) => Option.bind (qf9_ (y_1, [114, 101, 99, 105, 112, 101], ())) fun (y_2 : Bool × Unit) => if (!y_2.1) = true then Option.bind (at? y.1 0) fun (y : List QCT2) => Option.bind (at? y 0) fun (y : Int × List UInt8 × (Int × Int) × Int) => some (([], []), (140, y.2.2.2), ()) else Option.bind (at? y.1 0) fun (y_3 : List QCT2) => Option.bind (at? y_3 1) fun (y_4 : Int × List UInt8 × (Int × Int) × Int) => j1 y.1 false 1 [] (0, 0) y_4.2.1 false [] [] 0 []
def q2t_ (u1 : List (List QCT2) -> Bool -> Int -> List UInt8 -> Int × Int -> List UInt8 -> Bool -> List (List UInt8 × Int × List QCT1) -> List UInt8 -> Int -> List QCT1 -> Option (As [.pr .str (.sl QCT0), .pr (.int .i64) (.int .i64)])) (all : List (List QCT2)) (openV : Bool) (i : Int) (t2 : List UInt8) (t3 : Int × Int) (r : List UInt8) (o_o : Bool) (o : List (List UInt8 × Int × List QCT1)) (o_l : List UInt8) (o_l_2 : Int) (o_2 : List QCT1) : Option (As [.pr .str (.sl QCT0), .pr (.int .i64) (.int .i64)]) := q5t_ u1 all openV i t2 t3 r o_o o o_l o_l_2 o_2
def q9c_ (u1 : List (List QCT2) -> Bool -> Int -> List UInt8 -> Int × Int -> List UInt8 -> Bool -> List (List UInt8 × Int × List QCT1) -> List UInt8 -> Int -> List QCT1 -> Option (As [.pr .str (.sl QCT0), .pr (.int .i64) (.int .i64)])) (all : List (List QCT2)) (openV : Bool) (i p : Int) (t2 : List UInt8) (t3 : Int × Int) (r : List UInt8) (o_o : Bool) (o : List (List UInt8 × Int × List QCT1)) (o_l : List UInt8) (o_l_2 : Int) (o_2 : List QCT1) (s : List UInt8 × (Int × Int) × List UInt8 × Int) : Option (As [.pr .str (.sl QCT0), .pr (.int .i64) (.int .i64)]) := qg7_ (q2t_ u1) u1 all openV i p t2 t3 r o_o o o_l o_l_2 o_2 s
def q57_ (u1 : List (List QCT2) -> Bool -> Int -> List UInt8 -> Int × Int -> List UInt8 -> Bool -> List (List UInt8 × Int × List QCT1) -> List UInt8 -> Int -> List QCT1 -> Option (As [.pr .str (.sl QCT0), .pr (.int .i64) (.int .i64)])) (all : List (List QCT2)) (openV : Bool) (i : Int) (x : List QCT2) (line : Int) (t156 : Bool) (t2 : List UInt8) (t3 : Int × Int) (r : List UInt8) (o_o : Bool) (o : List (List UInt8 × Int × List QCT1)) (o_l : List UInt8) (o_l_2 : Int) (o_2 : List QCT1) : Option (As [.pr .str (.sl QCT0), .pr (.int .i64) (.int .i64)]) := qch_ (q9c_ u1) u1 all openV i x line t156 t2 t3 r o_o o o_l o_l_2 o_2
def q50_ (u1 : List (List QCT2) -> Bool -> Int -> List UInt8 -> Int × Int -> List UInt8 -> Bool -> List (List UInt8 × Int × List QCT1) -> List UInt8 -> Int -> List QCT1 -> Option (As [.pr .str (.sl QCT0), .pr (.int .i64) (.int .i64)])) (all : List (List QCT2)) (openV : Bool) (i : Int) (x : List QCT2) (line : Int) (t107 : Bool) (t2 : List UInt8) (t3 : Int × Int) (r : List UInt8) (o_o : Bool) (o : List (List UInt8 × Int × List QCT1)) (o_l : List UInt8) (o_l_2 : Int) (o_2 : List QCT1) : Option (As [.pr .str (.sl QCT0), .pr (.int .i64) (.int .i64)]) := qg8_ (q2t_ u1) (q57_ u1) u1 all openV i x line t107 t2 t3 r o_o o o_l o_l_2 o_2
def q9n_ (openV : Bool) (t2 : List UInt8) (t3 : Int × Int) (r : List UInt8) (o_o : Bool) (o : List (List UInt8 × Int × List QCT1)) (o_l : List UInt8) (o_l_2 : Int) (o_2 : List QCT1) : Option (As [.pr .str (.sl QCT0), .pr (.int .i64) (.int .i64)]) := qco_ openV t2 t3 r o_o o o_l o_l_2 o_2
def qa2_ (all : List (List QCT2)) (openV : Bool) (i : Int) (t2 : List UInt8) (t3 : Int × Int) (r : List UInt8) (o_o : Bool) (o : List (List UInt8 × Int × List QCT1)) (o_l : List UInt8) (o_l_2 : Int) (o_2 : List QCT1) : Option (As [.pr .str (.sl QCT0), .pr (.int .i64) (.int .i64)]) :=
  loopF (fun (self : (List (List QCT2)) × (Bool) × (Int) × (List UInt8) × (Int × Int) × (List UInt8) × (Bool) × (List (List UInt8 × Int × List QCT1)) × (List UInt8) × (Int) × (List QCT1) -> Option (As [.pr .str (.sl QCT0), .pr (.int .i64) (.int .i64)])) (s : (List (List QCT2)) × (Bool) × (Int) × (List UInt8) × (Int × Int) × (List UInt8) × (Bool) × (List (List UInt8 × Int × List QCT1)) × (List UInt8) × (Int) × (List QCT1)) => q4h_ (q2t_ (fun all openV i t2 t3 r o_o o o_l o_l_2 o_2 => self (all, openV, i, t2, t3, r, o_o, o, o_l, o_l_2, o_2))) (q50_ (fun all openV i t2 t3 r o_o o o_l o_l_2 o_2 => self (all, openV, i, t2, t3, r, o_o, o, o_l, o_l_2, o_2))) (q9n_) (fun all openV i t2 t3 r o_o o o_l o_l_2 o_2 => self (all, openV, i, t2, t3, r, o_o, o, o_l, o_l_2, o_2)) s.1 s.2.1 s.2.2.1 s.2.2.2.1 s.2.2.2.2.1 s.2.2.2.2.2.1 s.2.2.2.2.2.2.1 s.2.2.2.2.2.2.2.1 s.2.2.2.2.2.2.2.2.1 s.2.2.2.2.2.2.2.2.2.1 s.2.2.2.2.2.2.2.2.2.2) 18446744073709551616 (all, openV, i, t2, t3, r, o_o, o, o_l, o_l_2, o_2)
def qdf_ (x : As [.str]) : Option (As [.pr .str (.sl QCT0), .pr (.int .i64) (.int .i64)]) := qcd_ qa2_ x.1
theorem qob_  (J w1 all openV i t2 t3 r o_o o o_l o_l_2 o_2) : pfn Tryz.prog qx_ 6 18446744073709551616 (Ev.get qw_) 17 qp_ J 16361 [w1] (q51_ all openV i t2 t3 r o_o o o_l o_l_2 o_2) = q5t_ (fun all openV i t2 t3 r o_o o o_l o_l_2 o_2 => w1 (q11_ all openV i t2 t3 r o_o o o_l o_l_2 o_2)) all openV i t2 t3 r o_o o o_l o_l_2 o_2 := by kernel_rfl
theorem qn1_  (J w1 all openV i p t2 t3 r o_o o o_l o_l_2 o_2 s) : pfn Tryz.prog qx_ 6 18446744073709551616 (Ev.get qw_) 17 qp_ J 16753919 [w1] (qca_ all openV i p t2 t3 r o_o o o_l o_l_2 o_2 s) = qg7_ (fun all openV i t2 t3 r o_o o o_l o_l_2 o_2 => J 16361 [w1] (q51_ all openV i t2 t3 r o_o o o_l o_l_2 o_2)) (fun all openV i t2 t3 r o_o o o_l o_l_2 o_2 => w1 (q11_ all openV i t2 t3 r o_o o o_l o_l_2 o_2)) all openV i p t2 t3 r o_o o o_l o_l_2 o_2 s := by kernel_rfl
theorem qmc_  (J w1 all openV i x line t156 t2 t3 r o_o o o_l o_l_2 o_2) : pfn Tryz.prog qx_ 6 18446744073709551616 (Ev.get qw_) 17 qp_ J 2094238 [w1] (qd9_ all openV i x line t156 t2 t3 r o_o o o_l o_l_2 o_2) = qch_ (fun all openV i p t2 t3 r o_o o o_l o_l_2 o_2 s => J 16753919 [w1] (qca_ all openV i p t2 t3 r o_o o o_l o_l_2 o_2 s)) (fun all openV i t2 t3 r o_o o o_l o_l_2 o_2 => w1 (q11_ all openV i t2 t3 r o_o o o_l o_l_2 o_2)) all openV i x line t156 t2 t3 r o_o o o_l o_l_2 o_2 := by kernel_rfl
theorem qne_  (J w1 all openV i x line t107 t2 t3 r o_o o o_l o_l_2 o_2) : pfn Tryz.prog qx_ 6 18446744073709551616 (Ev.get qw_) 17 qp_ J 1047118 [w1] (qd0_ all openV i x line t107 t2 t3 r o_o o o_l o_l_2 o_2) = qg8_ (fun all openV i t2 t3 r o_o o o_l o_l_2 o_2 => J 16361 [w1] (q51_ all openV i t2 t3 r o_o o o_l o_l_2 o_2)) (fun all openV i x line t156 t2 t3 r o_o o o_l o_l_2 o_2 => J 2094238 [w1] (qd9_ all openV i x line t156 t2 t3 r o_o o o_l o_l_2 o_2)) (fun all openV i t2 t3 r o_o o o_l o_l_2 o_2 => w1 (q11_ all openV i t2 t3 r o_o o o_l o_l_2 o_2)) all openV i x line t107 t2 t3 r o_o o o_l o_l_2 o_2 := by kernel_rfl
theorem qmt_  (J openV t2 t3 r o_o o o_l o_l_2 o_2) : pfn Tryz.prog qx_ 6 18446744073709551616 (Ev.get qw_) 17 qp_ J 511 [] (qda_ openV t2 t3 r o_o o o_l o_l_2 o_2) = qco_ openV t2 t3 r o_o o o_l o_l_2 o_2 := by kernel_rfl
theorem qnf_  (J w1 all openV i t2 t3 r o_o o o_l o_l_2 o_2) : pfn Tryz.prog qx_ 6 18446744073709551616 (Ev.get qw_) 17 qp_ J 4090 [w1] (q11_ all openV i t2 t3 r o_o o o_l o_l_2 o_2) = q4h_ (fun all openV i t2 t3 r o_o o o_l o_l_2 o_2 => J 16361 [w1] (q51_ all openV i t2 t3 r o_o o o_l o_l_2 o_2)) (fun all openV i x line t107 t2 t3 r o_o o o_l o_l_2 o_2 => J 1047118 [w1] (qd0_ all openV i x line t107 t2 t3 r o_o o o_l o_l_2 o_2)) (fun openV t2 t3 r o_o o o_l o_l_2 o_2 => J 511 [] (qda_ openV t2 t3 r o_o o o_l o_l_2 o_2)) (fun all openV i t2 t3 r o_o o o_l o_l_2 o_2 => w1 (q11_ all openV i t2 t3 r o_o o o_l o_l_2 o_2)) all openV i t2 t3 r o_o o o_l o_l_2 o_2 := by kernel_rfl
theorem qmv_ (J : Orc (As [.pr .str (.sl QCT0), .pr (.int .i64) (.int .i64)])) (x : As [.str]) : rfn Tryz.prog qx_ 6 18446744073709551616 (Ev.get qw_) 17 qp_ J x = qcd_ (fun all openV i t2 t3 r o_o o o_l o_l_2 o_2 => J 4090 [] (q11_ all openV i t2 t3 r o_o o o_l o_l_2 o_2)) x.1 := by kernel_rfl
theorem qge_  (w1 all openV i t2 t3 r o_o o o_l o_l_2 o_2) : jfn Tryz.prog qx_ 6 18446744073709551616 (Ev.get qw_) 17 qp_ 16361 [w1] (q51_ all openV i t2 t3 r o_o o o_l o_l_2 o_2) = q2t_ (fun all openV i t2 t3 r o_o o o_l o_l_2 o_2 => w1 (q11_ all openV i t2 t3 r o_o o o_l o_l_2 o_2)) all openV i t2 t3 r o_o o o_l o_l_2 o_2 := by
  rw [q2_ (by decide)]
  rw [qob_]
  rfl
theorem qn9_  (w1 all openV i p t2 t3 r o_o o o_l o_l_2 o_2 s) : jfn Tryz.prog qx_ 6 18446744073709551616 (Ev.get qw_) 17 qp_ 16753919 [w1] (qca_ all openV i p t2 t3 r o_o o o_l o_l_2 o_2 s) = q9c_ (fun all openV i t2 t3 r o_o o o_l o_l_2 o_2 => w1 (q11_ all openV i t2 t3 r o_o o o_l o_l_2 o_2)) all openV i p t2 t3 r o_o o o_l o_l_2 o_2 s := by
  rw [q2_ (by decide)]
  have e2 : (fun all openV i t2 t3 r o_o o o_l o_l_2 o_2 => (jfn Tryz.prog qx_ 6 18446744073709551616 (Ev.get qw_) 17 qp_) 16361 [w1] (q51_ all openV i t2 t3 r o_o o o_l o_l_2 o_2)) = q2t_ (fun all openV i t2 t3 r o_o o o_l o_l_2 o_2 => w1 (q11_ all openV i t2 t3 r o_o o o_l o_l_2 o_2)) := by funext all openV i t2 t3 r o_o o o_l o_l_2 o_2; exact qge_ w1 all openV i t2 t3 r o_o o o_l o_l_2 o_2
  rw [qn1_, e2]
  rfl
theorem qo0_  (w1 all openV i x line t156 t2 t3 r o_o o o_l o_l_2 o_2) : jfn Tryz.prog qx_ 6 18446744073709551616 (Ev.get qw_) 17 qp_ 2094238 [w1] (qd9_ all openV i x line t156 t2 t3 r o_o o o_l o_l_2 o_2) = q57_ (fun all openV i t2 t3 r o_o o o_l o_l_2 o_2 => w1 (q11_ all openV i t2 t3 r o_o o o_l o_l_2 o_2)) all openV i x line t156 t2 t3 r o_o o o_l o_l_2 o_2 := by
  rw [q2_ (by decide)]
  have e6 : (fun all openV i p t2 t3 r o_o o o_l o_l_2 o_2 s => (jfn Tryz.prog qx_ 6 18446744073709551616 (Ev.get qw_) 17 qp_) 16753919 [w1] (qca_ all openV i p t2 t3 r o_o o o_l o_l_2 o_2 s)) = q9c_ (fun all openV i t2 t3 r o_o o o_l o_l_2 o_2 => w1 (q11_ all openV i t2 t3 r o_o o o_l o_l_2 o_2)) := by funext all openV i p t2 t3 r o_o o o_l o_l_2 o_2 s; exact qn9_ w1 all openV i p t2 t3 r o_o o o_l o_l_2 o_2 s
  rw [qmc_, e6]
  rfl
theorem qm1_  (w1 all openV i x line t107 t2 t3 r o_o o o_l o_l_2 o_2) : jfn Tryz.prog qx_ 6 18446744073709551616 (Ev.get qw_) 17 qp_ 1047118 [w1] (qd0_ all openV i x line t107 t2 t3 r o_o o o_l o_l_2 o_2) = q50_ (fun all openV i t2 t3 r o_o o o_l o_l_2 o_2 => w1 (q11_ all openV i t2 t3 r o_o o o_l o_l_2 o_2)) all openV i x line t107 t2 t3 r o_o o o_l o_l_2 o_2 := by
  rw [q2_ (by decide)]
  have e2 : (fun all openV i t2 t3 r o_o o o_l o_l_2 o_2 => (jfn Tryz.prog qx_ 6 18446744073709551616 (Ev.get qw_) 17 qp_) 16361 [w1] (q51_ all openV i t2 t3 r o_o o o_l o_l_2 o_2)) = q2t_ (fun all openV i t2 t3 r o_o o o_l o_l_2 o_2 => w1 (q11_ all openV i t2 t3 r o_o o o_l o_l_2 o_2)) := by funext all openV i t2 t3 r o_o o o_l o_l_2 o_2; exact qge_ w1 all openV i t2 t3 r o_o o o_l o_l_2 o_2
  have e5 : (fun all openV i x line t156 t2 t3 r o_o o o_l o_l_2 o_2 => (jfn Tryz.prog qx_ 6 18446744073709551616 (Ev.get qw_) 17 qp_) 2094238 [w1] (qd9_ all openV i x line t156 t2 t3 r o_o o o_l o_l_2 o_2)) = q57_ (fun all openV i t2 t3 r o_o o o_l o_l_2 o_2 => w1 (q11_ all openV i t2 t3 r o_o o o_l o_l_2 o_2)) := by funext all openV i x line t156 t2 t3 r o_o o o_l o_l_2 o_2; exact qo0_ w1 all openV i x line t156 t2 t3 r o_o o o_l o_l_2 o_2
  rw [qne_, e2, e5]
  rfl
theorem qmq_  (openV t2 t3 r o_o o o_l o_l_2 o_2) : jfn Tryz.prog qx_ 6 18446744073709551616 (Ev.get qw_) 17 qp_ 511 [] (qda_ openV t2 t3 r o_o o o_l o_l_2 o_2) = q9n_ openV t2 t3 r o_o o o_l o_l_2 o_2 := by
  rw [q2_ (by decide)]
  rw [qmt_]
  rfl
theorem qo2_  (all openV i t2 t3 r o_o o o_l o_l_2 o_2) : jfn Tryz.prog qx_ 6 18446744073709551616 (Ev.get qw_) 17 qp_ 4090 [] (q11_ all openV i t2 t3 r o_o o o_l o_l_2 o_2) = qa2_ all openV i t2 t3 r o_o o o_l o_l_2 o_2 := by
  rw [q2_ (by decide)]
  rw [qm_ (by kernel_rfl)]
  refine qj_ (σ := (List (List QCT2)) × (Bool) × (Int) × (List UInt8) × (Int × Int) × (List UInt8) × (Bool) × (List (List UInt8 × Int × List QCT1)) × (List UInt8) × (Int) × (List QCT1)) (mk := fun s => q11_ s.1 s.2.1 s.2.2.1 s.2.2.2.1 s.2.2.2.2.1 s.2.2.2.2.2.1 s.2.2.2.2.2.2.1 s.2.2.2.2.2.2.2.1 s.2.2.2.2.2.2.2.2.1 s.2.2.2.2.2.2.2.2.2.1 s.2.2.2.2.2.2.2.2.2.2) (fun w1 s => ?_) 18446744073709551616 (all, openV, i, t2, t3, r, o_o, o, o_l, o_l_2, o_2)
  have e2 : (fun all openV i t2 t3 r o_o o o_l o_l_2 o_2 => (jfn Tryz.prog qx_ 6 18446744073709551616 (Ev.get qw_) 17 qp_) 16361 [w1] (q51_ all openV i t2 t3 r o_o o o_l o_l_2 o_2)) = q2t_ (fun all openV i t2 t3 r o_o o o_l o_l_2 o_2 => w1 (q11_ all openV i t2 t3 r o_o o o_l o_l_2 o_2)) := by funext all openV i t2 t3 r o_o o o_l o_l_2 o_2; exact qge_ w1 all openV i t2 t3 r o_o o o_l o_l_2 o_2
  have e3 : (fun all openV i x line t107 t2 t3 r o_o o o_l o_l_2 o_2 => (jfn Tryz.prog qx_ 6 18446744073709551616 (Ev.get qw_) 17 qp_) 1047118 [w1] (qd0_ all openV i x line t107 t2 t3 r o_o o o_l o_l_2 o_2)) = q50_ (fun all openV i t2 t3 r o_o o o_l o_l_2 o_2 => w1 (q11_ all openV i t2 t3 r o_o o o_l o_l_2 o_2)) := by funext all openV i x line t107 t2 t3 r o_o o o_l o_l_2 o_2; exact qm1_ w1 all openV i x line t107 t2 t3 r o_o o o_l o_l_2 o_2
  have e4 : (fun openV t2 t3 r o_o o o_l o_l_2 o_2 => (jfn Tryz.prog qx_ 6 18446744073709551616 (Ev.get qw_) 17 qp_) 511 [] (qda_ openV t2 t3 r o_o o o_l o_l_2 o_2)) = q9n_ := by funext openV t2 t3 r o_o o o_l o_l_2 o_2; exact qmq_ openV t2 t3 r o_o o o_l o_l_2 o_2
  refine (qnf_ _ w1 s.1 s.2.1 s.2.2.1 s.2.2.2.1 s.2.2.2.2.1 s.2.2.2.2.2.1 s.2.2.2.2.2.2.1 s.2.2.2.2.2.2.2.1 s.2.2.2.2.2.2.2.2.1 s.2.2.2.2.2.2.2.2.2.1 s.2.2.2.2.2.2.2.2.2.2).trans ?_
  rw [e2, e3, e4]
theorem qpm_ (x : As [.str]) : evT Tryz.prog qx_ 6 18446744073709551616 (Ev.get qw_) 17 qp_ x = qdf_ x := by
  have e1 : (fun all openV i t2 t3 r o_o o o_l o_l_2 o_2 => (jfn Tryz.prog qx_ 6 18446744073709551616 (Ev.get qw_) 17 qp_) 4090 [] (q11_ all openV i t2 t3 r o_o o o_l o_l_2 o_2)) = qa2_ := by funext all openV i t2 t3 r o_o o o_l o_l_2 o_2; exact qo2_ all openV i t2 t3 r o_o o o_l o_l_2 o_2
  rw [q1v_, qmv_, e1]
  rfl
theorem qls_ : CtOk Tryz.prog I0 17 ⟨qp_, qdf_⟩ := qu_ (q1_ Ev.bx_ok (q1_ qje_ (q1_ qq6_ (q1_ qoz_ (q1_ qh0_ qa_))))) qpm_
@[reducible] def q2q_ : Sh := ⟨[.d (.str), .d (.pr .str (.sl QCT0)), .d (.pr .str (.sl QCT0))], [], [.str, .pr .str (.sl QCT0), .pr .str (.sl QCT0)], [.d (.bool)], [], 0, [.bool]⟩
def q37_ : Env := (cts [(9, (⟨q1x_, qev_⟩ : Ct)), (12, (⟨q15_, q7t_⟩ : Ct)), (13, (⟨q3u_, q69_⟩ : Ct)), (16, (⟨qj0_, qaz_⟩ : Ct)), (17, (⟨qp_, qdf_⟩ : Ct)), (18, (⟨q4c_, qay_⟩ : Ct)), (19, (⟨qit_, qgp_⟩ : Ct)), (20, (⟨qk_, qa8_⟩ : Ct)), (21, (⟨q10_, q7q_⟩ : Ct)), (22, (⟨qy_, q71_⟩ : Ct)), (23, (⟨q1d_, qdh_⟩ : Ct))])
def q36_ : List (Nat × Hint) := [(62, ⟨[], [4, 61, 73, 74, 77, 81, 82, 83, 84, 87]⟩), (6, ⟨[], [0, 4, 5, 25, 41, 42, 43, 44, 47, 48, 49, 50, 51, 52, 53, 56, 57, 58, 59, 60, 73, 74, 77, 81, 82, 83, 84, 87]⟩)]
def q6x_ (text : List UInt8) (t25 : Bool) (a b : List UInt8 × List (List UInt8 × Int × List QCT1)) : St := { fr := [(0, .d .str text), (4, .pb 0 0), (5, .pb 1 0), (25, .d .bool t25)], nt := 89, up := [], own := [(0, .box 26 [.d .str a.1, .d (.sl QCT0) a.2]), (1, .box 26 [.d .str b.1, .d (.sl QCT0) b.2])], nx := 2, log := [], ln := 0 }
def q6w_ (t61 : Bool) (a : List UInt8 × List (List UInt8 × Int × List QCT1)) : St := { fr := [(4, .pb 0 0), (61, .d .bool t61)], nt := 89, up := [], own := [(0, .box 26 [.d .str a.1, .d (.sl QCT0) a.2])], nx := 1, log := [], ln := 0 }
def q6y_ (j2 : Bool -> List UInt8 × List (List UInt8 × Int × List QCT1) -> Option (As [.bool])) (text : List UInt8) (t25 : Bool) (a b : List UInt8 × List (List UInt8 × Int × List QCT1)) : Option (As [.bool]) :=
  if t25 = true then Option.bind (qaz_ ()) fun (y : Bool × Unit) => some (y.1, ()) else Option.bind (q69_ (text, ())) fun (y : (List UInt8 × List (List UInt8 × Int × List QCT1)) × (Int × Int) × Unit) => Option.bind (qdf_ (text, ())) fun (y_1 : (List UInt8 × List (List UInt8 × Int × List QCT1)) × (Int × Int) × Unit) => if (!(eqi y.2.1.1 y_1.2.1.1 && (eqi y.2.1.2 y_1.2.1.2 && true))) = true then j2 true a else Option.bind (qay_ (y.1, y_1.1, ())) fun (y : Bool × Unit) => if (!y.1) = true then j2 true a else Option.bind (qgp_ (a, b, ())) fun (y : Bool × Unit) => Option.bind (qa8_ (a, b, ())) fun (y_2 : Bool × Unit) => if Sx.neb y.1 y_2.1 = true then j2 true a else Option.bind (q7q_ (a, ())) fun (y : Bool × Unit) => Option.bind (q71_ (a, ())) fun (y_3 : Bool × Unit) => j2 (Sx.neb y.1 y_3.1) a
def qae_ (t61 : Bool) (a : List UInt8 × List (List UInt8 × Int × List QCT1)) : Option (As [.bool]) :=
  if t61 = true then some (false, ()) else Option.bind (q7t_ (a, ())) fun (y : List UInt8 × Bool × Unit) => Option.bind (q71_ (a, ())) fun (y_1 : Bool × Unit) => if (!y_1.1) = true then if (!y.2.1) = true then if eqs y.1 [] = true then Option.bind (qaz_ ()) fun (y : Bool × Unit) => some (y.1, ()) else some (false, ()) else some (false, ()) else if y.2.1 = true then Option.bind (qdh_ (a, ())) fun (y_2 : List UInt8 × Unit) => if eqs y.1 y_2.1 = true then Option.bind (qaz_ ()) fun (y : Bool × Unit) => some (y.1, ()) else some (false, ()) else some (false, ())
def q6z_ (j1 : List UInt8 -> Bool -> List UInt8 × List (List UInt8 × Int × List QCT1) -> List UInt8 × List (List UInt8 × Int × List QCT1) -> Option (As [.bool])) (text : List UInt8) (a b : List UInt8 × List (List UInt8 × Int × List QCT1)) : Option (As [.bool]) :=
  if gt (Int.ofNat (List.length text)) 9000 = true then j1 text true a b else Option.bind (qev_ (a, ())) fun (y : Bool × Unit) => if (!y.1) = true then j1 text true a b else Option.bind (qev_ (b, ())) fun (y : Bool × Unit) => j1 text (!y.1) a b
def q5c_ (t61 : Bool) (a : List UInt8 × List (List UInt8 × Int × List QCT1)) : Option (As [.bool]) := qae_ t61 a
def q2y_ (text : List UInt8) (t25 : Bool) (a b : List UInt8 × List (List UInt8 × Int × List QCT1)) : Option (As [.bool]) := q6y_ (q5c_) text t25 a b
def q91_ (x : As [.str, .pr .str (.sl QCT0), .pr .str (.sl QCT0)]) : Option (As [.bool]) := q6z_ q2y_ x.1 x.2.1 x.2.2.1
theorem qir_  (J t61 a) : pfn Tryz.prog q37_ 6 18446744073709551616 (Ev.get q36_) 4 q2q_ J 62 [] (q6w_ t61 a) = qae_ t61 a := by kernel_rfl
theorem qin_  (J text t25 a b) : pfn Tryz.prog q37_ 6 18446744073709551616 (Ev.get q36_) 4 q2q_ J 6 [] (q6x_ text t25 a b) = q6y_ (fun t61 a => J 62 [] (q6w_ t61 a)) text t25 a b := by kernel_rfl
theorem qio_ (J : Orc (As [.bool])) (x : As [.str, .pr .str (.sl QCT0), .pr .str (.sl QCT0)]) : rfn Tryz.prog q37_ 6 18446744073709551616 (Ev.get q36_) 4 q2q_ J x = q6z_ (fun text t25 a b => J 6 [] (q6x_ text t25 a b)) x.1 x.2.1 x.2.2.1 := by kernel_rfl
theorem qip_  (t61 a) : jfn Tryz.prog q37_ 6 18446744073709551616 (Ev.get q36_) 4 q2q_ 62 [] (q6w_ t61 a) = q5c_ t61 a := by
  rw [q2_ (by decide)]
  rw [qir_]
  rfl
theorem qim_  (text t25 a b) : jfn Tryz.prog q37_ 6 18446744073709551616 (Ev.get q36_) 4 q2q_ 6 [] (q6x_ text t25 a b) = q2y_ text t25 a b := by
  rw [q2_ (by decide)]
  have e2 : (fun t61 a => (jfn Tryz.prog q37_ 6 18446744073709551616 (Ev.get q36_) 4 q2q_) 62 [] (q6w_ t61 a)) = q5c_ := by funext t61 a; exact qip_ t61 a
  rw [qin_, e2]
  rfl
theorem qj4_ (x : As [.str, .pr .str (.sl QCT0), .pr .str (.sl QCT0)]) : evT Tryz.prog q37_ 6 18446744073709551616 (Ev.get q36_) 4 q2q_ x = q91_ x := by
  have e1 : (fun text t25 a b => (jfn Tryz.prog q37_ 6 18446744073709551616 (Ev.get q36_) 4 q2q_) 6 [] (q6x_ text t25 a b)) = q2y_ := by funext text t25 a b; exact qim_ text t25 a b
  rw [q1v_, qio_, e1]
  rfl
theorem qil_ : CtOk Tryz.prog I0 4 ⟨q2q_, q91_⟩ := qu_ (q1_ qqw_ (q1_ qi2_ (q1_ qf3_ (q1_ qo8_ (q1_ qls_ (q1_ qic_ (q1_ qm8_ (q1_ qiz_ (q1_ qhx_ (q1_ qm9_ (q1_ qod_ qa_))))))))))) qj4_
end Go.Proofs.Lx
end
section
namespace Pl
open Go Ev Sx
theorem loop_idx {σ R α β : Type} {F : (σ -> Option R) -> σ -> Option R} {mk : Nat -> β -> σ} {xs : List α} {stp : β -> α -> β} {fin : β -> Option R} (Inv : Nat -> β -> Prop)
    (hs : ∀ self i acc x, xs[i]? = some x -> Inv i acc -> F self (mk i acc) = self (mk (i + 1) (stp acc x)))
    (hi : ∀ i acc x, xs[i]? = some x -> Inv i acc -> Inv (i + 1) (stp acc x))
    (he : ∀ self acc, Inv xs.length acc -> F self (mk xs.length acc) = fin acc) :
    ∀ (k i : Nat) (acc : β) (n : Nat), i + k = xs.length -> k < n -> Inv i acc -> loopF F n (mk i acc) = fin ((xs.drop i).foldl stp acc)
  | _, _, _, 0, _, hn, _ => by omega
  | 0, i, acc, n + 1, h, _, hI => by
    have : i = xs.length := by omega
    subst this
    rw [q1t_, he _ _ hI, List.drop_length]
    rfl
  | k + 1, i, acc, n + 1, h, hn, hI => by
    have hx : xs[i]? = some (xs[i]'(by omega)) := List.getElem?_eq_getElem (by omega)
    rw [q1t_, hs _ _ _ _ hx hI, loop_idx Inv hs hi he k (i + 1) _ n (by omega) (by omega) (hi _ _ _ hx hI), List.drop_eq_getElem_cons (show i < xs.length by omega)]
    rfl
def goL {α β R : Type} (body : β -> α -> (β -> Option R) -> Option R) (fin : β -> Option R) : List α -> β -> Option R
  | [], acc => fin acc
  | x :: r, acc => body acc x (goL body fin r)
theorem loop_go {σ R α β : Type} {F : (σ -> Option R) -> σ -> Option R} {mk : Nat -> β -> σ} {xs : List α} {body : β -> α -> (β -> Option R) -> Option R} {fin : β -> Option R}
    (hs : ∀ self i acc x, xs[i]? = some x -> F self (mk i acc) = body acc x fun a => self (mk (i + 1) a))
    (he : ∀ self acc, F self (mk xs.length acc) = fin acc) :
    ∀ (k i : Nat) (acc : β) (n : Nat), i + k = xs.length -> k < n -> loopF F n (mk i acc) = goL body fin (xs.drop i) acc
  | _, _, _, 0, _, hn => by omega
  | 0, i, acc, n + 1, h, _ => by
    have : i = xs.length := by omega
    subst this
    rw [q1t_, he, List.drop_length]
    rfl
  | k + 1, i, acc, n + 1, h, hn => by
    have hx : xs[i]? = some (xs[i]'(by omega)) := List.getElem?_eq_getElem (by omega)
    rw [q1t_, hs _ _ _ _ hx, List.drop_eq_getElem_cons (show i < xs.length by omega)]
    show _ = body acc _ (goL body fin (xs.drop (i + 1)))
    congr 1
    funext a
    exact loop_go hs he k (i + 1) a n (by omega) (by omega)
theorem foldl_app {α β : Type} (f : α -> List β) : ∀ (xs : List α) (out : List β), xs.foldl (fun o x => o ++ f x) out = out ++ xs.flatMap f
  | [], out => by simp
  | x :: r, out => by simp [foldl_app f r]
end Pl
end
section
namespace Go.Proofs.Lx
open Go Ev Sx Pl
set_option maxRecDepth 10000
def isL (n : Nat) : Bool := (decide (97 ≤ n) && decide (n ≤ 122)) || (decide (65 ≤ n) && decide (n ≤ 90))
def isD (n : Nat) : Bool := decide (48 ≤ n) && decide (n ≤ 57)
def isB (n : Nat) : Bool := n == 9 || n == 13 || n == 32
def w1 (n : Nat) : Bool := isL n || n == 37
def n1 (n : Nat) : Bool := isD n || n == 45
def e1 (n : Nat) : Bool := n == 61
def wm (n : Nat) : Bool := isL n || isD n || n == 95 || n == 37
def nm (n : Nat) : Bool := isD n || n == 46 || n == 45
theorem tab {f : Int × Unit -> Option (Bool × Unit)} {g : Nat -> Bool} (h : ((List.range 256).all fun n => match f (Int.ofNat n, ()) with
    | some y => y.1 == g n
    | none => false) = true) (c : UInt8) : f (Int.ofNat c.toNat, ()) = some (g c.toNat, ()) := by
  have := all8 h c
  split at this
  · rename_i y hy
    rw [hy]
    have : y.1 = g c.toNat := by simpa using this
    rw [<- this]
  · cases this
theorem qha_ (c : UInt8) : q13_ (Int.ofNat c.toNat, ()) = some (w1 c.toNat, ()) := tab (f := q13_) (g := w1) (by kernel_rfl) c
theorem qhd_ (c : UInt8) : qz_ (Int.ofNat c.toNat, ()) = some (n1 c.toNat, ()) := tab (f := qz_) (g := n1) (by kernel_rfl) c
theorem qhb_ (c : UInt8) : q12_ (Int.ofNat c.toNat, ()) = some (e1 c.toNat, ()) := tab (f := q12_) (g := e1) (by kernel_rfl) c
theorem qjn_ (c : UInt8) : q3v_ (Int.ofNat c.toNat, ()) = some (wm c.toNat, ()) := tab (f := q3v_) (g := wm) (by kernel_rfl) c
theorem qjr_ (c : UInt8) : q3t_ (Int.ofNat c.toNat, ()) = some (nm c.toNat, ()) := tab (f := q3t_) (g := nm) (by kernel_rfl) c
theorem excl (c : UInt8) : (w1 c.toNat = true -> n1 c.toNat = false ∧ e1 c.toNat = false ∧ isB c.toNat = false ∧ c.toNat ≠ 35 ∧ c.toNat ≠ 10) := by
  have := all8 (p := fun n => !(w1 n) || (!(n1 n) && !(e1 n) && !(isB n) && n != 35 && n != 10)) (by kernel_rfl) c
  intro h
  simp [h] at this
  exact ⟨this.1.1.1.1, this.1.1.1.2, this.1.1.2, this.1.2, this.2⟩
theorem w1_wm (c : UInt8) (h : w1 c.toNat = true) : wm c.toNat = true := by
  have := all8 (p := fun n => !(w1 n) || wm n) (by kernel_rfl) c
  simpa [h] using this
def asc : List Bool := (List.range 256).map isB
theorem strings_makeASCIISet_eq : q3q_ ([9, 13, 32], ()) = some (asc, true, ()) := by kernel_rfl
theorem asc_at (c : UInt8) : at? asc (Int.ofNat c.toNat) = some (isB c.toNat) := by
  have := all8 (p := fun n => asc[n]? == some (isB n)) (by kernel_rfl) c
  unfold at?
  rw [if_pos (by simp)]
  simpa using this
theorem qax_ : ∀ (s : List UInt8) (n : Nat), s.length < n -> loopF (fun (self : (List UInt8) × (List Bool) -> Option (As [.str, .sl .bool])) (s : (List UInt8) × (List Bool)) => q5i_ (fun s as' => self (s, as')) s.1 s.2) n (s, asc) = some (s.dropWhile (fun c => isB c.toNat), asc, ())
  | s, 0, h => by omega
  | [], n + 1, h => rfl
  | c :: q, n + 1, h => by
    have ih := qax_ q n (by simp at h; omega)
    have h1 : gt (Int.ofNat (c :: q).length) 0 = true := by simp [gt]; try omega
    have h2 : lt (Int.ofNat c.toNat) 256 = true := by have := c.toNat_lt; simp [lt]; omega
    rw [loopF]
    unfold q5i_
    simp only [h1, if_true, at_zero, Option.bind_some, need, h2, asc_at, cut_one, List.dropWhile_cons]
    cases hb : isB c.toNat
    · rfl
    · simp only [Bool.not_true, Bool.false_eq_true, if_false, if_true]
      exact ih
theorem strings_TrimLeft_step (s : List UInt8) : strings_TrimLeft (s, [9, 13, 32], ()) = if eqs s [] = true then some (s, ()) else (q3q_ ([9, 13, 32], ())).bind fun y => need (eqi 256 (Int.ofNat y.1.length)) (need (eqi 256 (Int.ofNat (y.1.length * 1))) (if y.2.1 = true then (q45_ (s, y.1, ())).bind fun y => some (y.1, ()) else (q5q_ (s, [9, 13, 32], ())).bind fun y => some (y.1, ()))) := rfl
theorem strings_TrimLeft_eq {s : List UInt8} (h : s.length < 1000000) : strings_TrimLeft (s, [9, 13, 32], ()) = some (s.dropWhile (fun c => isB c.toNat), ()) := by
  have h63 : q45_ (s, asc, ()) = some (s.dropWhile (fun c => isB c.toNat), asc, ()) := qax_ s _ (by omega)
  rw [strings_TrimLeft_step]
  by_cases hs : s = []
  · subst hs; rfl
  · have e1 : eqs s [] = false := by simp [eqs, hs]
    have e5 : eqi 256 (Int.ofNat asc.length) = true := by kernel_rfl
    have e6 : eqi 256 (Int.ofNat (asc.length * 1)) = true := by kernel_rfl
    rw [e1, strings_makeASCIISet_eq, Option.bind_some]
    simp only [Bool.false_eq_true, if_false, need, e5, e6, if_true]
    rw [h63]
    rfl
theorem qhm_ (g : Int -> List UInt8 -> Option (As [.str, .str])) (n : Int) (t : List UInt8) : qa5_ (q7v_ g) g n t = if lt n (Int.ofNat t.length) = true then (at? t n).bind fun c => (q3v_ (Int.ofNat c.toNat, ())).bind fun y => if y.1 = true then g (add .i64 n 1) t else q5v_ n t else q5v_ n t := rfl
theorem m3_app (p q : List UInt8) : q5v_ (p.length : Int) (p ++ q) = some (p, q, ()) := by
  unfold q5v_
  rw [cut_app0, Option.bind_some, cut_app1, Option.bind_some]
theorem qho_ : ∀ (q p : List UInt8) (n : Nat), q.length < n -> p.length + q.length < 1000000 ->
    loopF (fun (self : Int × List UInt8 -> Option (As [.str, .str])) (s : Int × List UInt8) => qa5_ (q7v_ (fun n t1 => self (n, t1))) (fun n t1 => self (n, t1)) s.1 s.2) n ((p.length : Int), p ++ q) =
      some (p ++ q.takeWhile (fun c => wm c.toNat), q.dropWhile (fun c => wm c.toNat), ())
  | q, p, 0, h, _ => by omega
  | [], p, n + 1, h, hl => by
    have h1 : lt (p.length : Int) (Int.ofNat (p ++ []).length) = false := by simp [lt]
    refine (qhm_ _ _ _).trans ?_
    rw [if_neg (by rw [h1]; decide), m3_app]
    simp
  | c :: q, p, n + 1, h, hl => by
    have h1 : lt (p.length : Int) (Int.ofNat (p ++ c :: q).length) = true := by simp [lt]; omega
    have ih := qho_ q (p ++ [c]) n (by simp at h; omega) (by simp at hl ⊢; omega)
    refine (qhm_ _ _ _).trans ?_
    rw [if_pos h1, at_app, Option.bind_some, qjn_, Option.bind_some]
    cases hb : wm c.toNat
    · simp only [Bool.false_eq_true, if_false, m3_app, List.takeWhile_cons, List.dropWhile_cons, hb, List.append_nil]
    · have ha : add .i64 (p.length : Int) 1 = ((p ++ [c]).length : Int) := by
        unfold add
        rw [w64 (by omega) (by simp at hl; omega)]
        simp
      have e : p ++ c :: q = (p ++ [c]) ++ q := by simp
      simp only [if_true, ha, List.takeWhile_cons, List.dropWhile_cons, hb]
      rw [e, ih]
      simp
theorem qid_ (c : UInt8) (q : List UInt8) (h : q.length < 100000) : qak_ (c :: q, ()) = some (c :: q.takeWhile (fun c => wm c.toNat), q.dropWhile (fun c => wm c.toNat), ()) :=
  qho_ q [c] 18446744073709551616 (by omega) (by simp; omega)
end Go.Proofs.Lx
end
section
namespace Go.Proofs.Lx
open Go Ev Sx Pl
set_option maxRecDepth 10000
abbrev TL := List (Int × List UInt8 × (Int × Int) × Int)
abbrev RL := As [.sl (.pr (.int .u8) (.pr .str (.pr (.pr (.int .i64) (.int .u8)) (.int .i64)))), .int .i64]
abbrev lineB (self : Int × List UInt8 × TL -> Option RL) (s : Int × List UInt8 × TL) : Option RL :=
  q4s_ (qb0_) (q8z_ (fun at' text l => self (at', text, l))) (fun at' text l => self (at', text, l)) s.1 s.2.1 s.2.2
theorem amb_word (J : Int -> Int -> List UInt8 -> TL -> Option RL) (j2 : Int -> TL -> Option RL) (j3 : Int -> List UInt8 -> TL -> Int -> List UInt8 -> Int -> Int -> Int -> Option RL) (self1 : Int -> List UInt8 -> TL -> Option RL) (a : Int) (t : List UInt8) (c : UInt8) (q : List UInt8) (l : TL)
    (ht : strings_TrimLeft (t, [9, 13, 32], ()) = some (c :: q, ())) (hc : w1 c.toNat = true) : q4s_ j2 j3 self1 a t l = j3 a (c :: q) l 1 [] 0 0 a := by
  obtain ⟨h2, h3, _⟩ := excl c hc
  have e1 : q13_ (Int.ofNat c.toNat, ()) = some (true, ()) := by rw [qha_, hc]
  have e2 : qz_ (Int.ofNat c.toNat, ()) = some (false, ()) := by rw [qhd_, h2]
  have e3 : q12_ (Int.ofNat c.toNat, ()) = some (false, ()) := by rw [qhb_, h3]
  have e4 : eqs (c :: q) [] = false := rfl
  have hr : ∀ x, eqAs q1e_.rs x x = true := eqAs_refl _
  unfold q4s_
  rw [ht, Option.bind_some]
  simp only [e4, Bool.false_eq_true, if_false, at_zero, Option.bind_some]
  rw [e1, e2, e3]
  simp only [Option.bind_some, Bool.false_eq_true, if_false, if_true]
  rw [amb2 hr]
  exact amb3 hr _
theorem K3_word (u1 : Int -> List UInt8 -> TL -> Option RL) (a : Int) (c : UInt8) (q : List UInt8) (l : TL) (hq : q.length < 100000) :
    q8z_ u1 a (c :: q) l 1 [] 0 0 a = if 20 < (c :: q.takeWhile (fun c => wm c.toNat)).length then some ([], 133, ()) else need (small (l.length + 1)) (u1 a (q.dropWhile (fun c => wm c.toNat)) (l ++ [(1, c :: q.takeWhile (fun c => wm c.toNat), (0, 0), a)])) := by
  unfold q8z_ qgl_
  have h1 : eqi 1 1 = true := rfl
  rw [if_pos h1, qid_ c q hq, Option.bind_some]
  generalize c :: q.takeWhile (fun c => wm c.toNat) = u
  unfold qg2_ qi4_
  by_cases h : 20 < u.length
  · have h2 : gt (Int.ofNat u.length) 20 = true := by simp [gt]; omega
    simp only [h2, if_true, Option.bind_some, if_pos h]
    rfl
  · have h2 : gt (Int.ofNat u.length) 20 = false := by simp [gt]; omega
    simp only [h2, Bool.false_eq_true, if_false, Option.bind_some, if_neg h]
    rfl
theorem line_word (self : Int × List UInt8 × TL -> Option RL) (a : Int) (t : List UInt8) (c : UInt8) (q : List UInt8) (l : TL) (ht : strings_TrimLeft (t, [9, 13, 32], ()) = some (c :: q, ())) (hc : w1 c.toNat = true) (hq : q.length < 100000) :
    lineB self (a, t, l) = if 20 < (c :: q.takeWhile (fun c => wm c.toNat)).length then some ([], 133, ()) else need (small (l.length + 1)) (self (a, q.dropWhile (fun c => wm c.toNat), l ++ [(1, c :: q.takeWhile (fun c => wm c.toNat), (0, 0), a)])) := by
  refine (amb_word (fun _ _ _ _ => none) _ _ _ a t c q l ht hc).trans ?_
  exact K3_word _ a c q l hq
theorem line_end (self : Int × List UInt8 × TL -> Option RL) (a : Int) (l : TL) (h : 0 < l.length) (h2 : l.length < 1000) : lineB self (a, [], l) = some (l ++ [(4, [], (0, 0), a)], 0, ()) := by
  have h19 : strings_TrimLeft ([], [9, 13, 32], ()) = some ([], ()) := rfl
  show q4s_ _ _ _ a [] l = _
  unfold q4s_
  rw [h19, Option.bind_some]
  have e : eqs ([] : List UInt8) [] = true := rfl
  rw [if_pos e]
  unfold qb0_ qgt_
  have h3 : gt (Int.ofNat l.length) 0 = true := by simp [gt]; omega
  have h4 : small (l.length + 1) = true := decide_eq_true (by omega)
  simp only [h3, if_true, h4, need]
  rfl
theorem index_nb (c : UInt8) : ∀ s : List UInt8, (∀ b ∈ s, b ≠ c) -> Go.Lib.indexByte s c = -1
  | [], _ => rfl
  | b :: q, h => by
    have hb : (b == c) = false := by simpa using h b (List.mem_cons_self ..)
    have ih := index_nb c q (fun x hx => h x (List.mem_cons_of_mem _ hx))
    unfold Go.Lib.indexByte
    rw [hb, ih]
    rfl
theorem line_in (t : List UInt8) (n : Int) (h : ∀ b ∈ t, b ≠ 35) : q6n_ (t, n, ()) = loopF lineB 18446744073709551616 (n, t, []) := by
  show qb1_ qb2_ t n = _
  unfold qb1_
  have e1 : eqs [35] t = false := by
    cases t with
    | nil => rfl
    | cons a q =>
      have := h a (List.mem_cons_self ..)
      simp [eqs]
      intro e
      exact absurd e.symm this
  have e2 : ge (Go.Lib.indexByte t 35) 0 = false := by rw [index_nb 35 t h]; rfl
  simp only [e1, e2, Bool.false_eq_true, if_false]
  rfl
structure Word (w : List UInt8) : Prop where
  all : ∀ b ∈ w, wm b.toNat = true
  first : ∃ c q, w = c :: q ∧ w1 c.toNat = true
  len : w.length < 1000
theorem tw_all {p : UInt8 -> Bool} : ∀ {q r : List UInt8}, (∀ b ∈ q, p b = true) -> (q ++ r).takeWhile p = q ++ r.takeWhile p ∧ (q ++ r).dropWhile p = r.dropWhile p
  | [], r, h => ⟨rfl, rfl⟩
  | a :: q, r, h => by
    obtain ⟨h1, h2⟩ := tw_all (q := q) (r := r) (fun x hx => h x (List.mem_cons_of_mem _ hx))
    have := h a (List.mem_cons_self ..)
    simp [this, h1, h2]
theorem Word.strings_TrimLeft {w r : List UInt8} (h : Word w) (hr : r.length < 2000) : ∃ c q, w = c :: q ∧ w1 c.toNat = true ∧ Lx.strings_TrimLeft (w ++ r, [9, 13, 32], ()) = some (c :: (q ++ r), ()) ∧ (∀ b ∈ q, wm b.toNat = true) := by
  obtain ⟨c, q, rfl, hc⟩ := h.first
  obtain ⟨_, _, hb, _⟩ := excl c hc
  refine ⟨c, q, rfl, hc, ?_, fun b hb => h.all b (List.mem_cons_of_mem _ hb)⟩
  rw [strings_TrimLeft_eq (by have := h.len; simp at this ⊢; omega)]
  simp [hb]
theorem Word.no {w : List UInt8} (h : Word w) : (∀ b ∈ w, b ≠ 35) ∧ (∀ b ∈ w, b ≠ 10) := by
  constructor
  · intro b hb e
    subst e
    exact absurd (h.all _ hb) (by decide)
  · intro b hb e
    subst e
    exact absurd (h.all _ hb) (by decide)
theorem word_step {w r : List UInt8} (h : Word w) (hr : r.length < 2000) (hb : ∀ c q, r = c :: q -> wm c.toNat = false) (self : Int × List UInt8 × TL -> Option RL) (a : Int) (l : TL) (hl : l.length < 1000) (pre : List UInt8) (hp : ∀ b ∈ pre, isB b.toNat = true) (hpl : pre.length < 10) :
    lineB self (a, pre ++ (w ++ r), l) = if 20 < w.length then some ([], 133, ()) else self (a, r, l ++ [(1, w, (0, 0), a)]) := by
  obtain ⟨c, q, rfl, hc, h19, hq⟩ := h.strings_TrimLeft hr
  have h19' : Lx.strings_TrimLeft (pre ++ (c :: q ++ r), [9, 13, 32], ()) = some (c :: (q ++ r), ()) := by
    have hlen := h.len
    rw [strings_TrimLeft_eq (by simp at hlen ⊢; omega)] at h19 ⊢
    rw [(tw_all hp).2]
    exact h19
  have hlen := h.len
  rw [line_word self a _ c (q ++ r) l h19' hc (by simp at hlen ⊢; omega)]
  obtain ⟨t1, t2⟩ := tw_all (p := fun c => wm c.toNat) (q := q) (r := r) hq
  have t3 : r.takeWhile (fun c => wm c.toNat) = [] ∧ r.dropWhile (fun c => wm c.toNat) = r := by
    cases r with
    | nil => exact ⟨rfl, rfl⟩
    | cons x y => simp [hb x y rfl]
  rw [t1, t2, t3.1, t3.2, List.append_nil]
  have h4 : small (l.length + 1) = true := decide_eq_true (by omega)
  simp only [need, h4, if_true]
theorem line1 {w : List UInt8} (h : Word w) (n : Int) : q6n_ (w, n, ()) = if 20 < w.length then some ([], 133, ()) else some ([(1, w, (0, 0), n), (4, [], (0, 0), n)], 0, ()) := by
  rw [line_in w n h.no.1]
  have e := word_step (r := []) h (by simp) (fun c q e => by cases e) (loopF lineB 18446744073709551615) n [] (by simp) [] (fun b hb => by cases hb) (by simp)
  rw [List.append_nil, List.nil_append] at e
  refine e.trans ?_
  split
  · rfl
  · exact line_end (loopF lineB 18446744073709551614) n [(1, w, (0, 0), n)] (by simp) (by simp)
end Go.Proofs.Lx
end
section
namespace Go.Proofs.Lx
open Go Ev Sx Pl
set_option maxRecDepth 10000
def dg (c : UInt8) : Bool := isD c.toNat
def digs (s : List UInt8) : Bool := s.all dg && s != []
def dvn (n : Int) (q : List UInt8) : Int := q.foldl (fun n c => 10 * n + ((c.toNat : Int) - 48)) n
theorem dvn_nil (n : Int) : dvn n [] = n := rfl
theorem dvn_cons (n : Int) (c : UInt8) (q : List UInt8) : dvn n (c :: q) = dvn (10 * n + ((c.toNat : Int) - 48)) q := rfl
theorem dvn_app (n : Int) (p q : List UInt8) : dvn n (p ++ q) = dvn (dvn n p) q := List.foldl_append ..
theorem dg_iff {c : UInt8} : dg c = true ↔ 48 ≤ c.toNat ∧ c.toNat ≤ 57 := by simp [dg, isD]
theorem dvn_ge : ∀ {q : List UInt8} {n : Int}, (∀ c ∈ q, dg c = true) -> 0 ≤ n -> n ≤ dvn n q
  | [], n, _, _ => Int.le_refl _
  | c :: q, n, h, hn => by
    have hc := dg_iff.1 (h c (List.mem_cons_self ..))
    have := dvn_ge (q := q) (n := 10 * n + ((c.toNat : Int) - 48)) (fun x hx => h x (List.mem_cons_of_mem _ hx)) (by omega)
    rw [dvn_cons]
    omega
theorem allDigits_eq {s : List UInt8} (h : s.length < 1000000) : q2l_ (s, ()) = some (digs s, ()) := by
  have key : ∀ (n : Nat) (st : List UInt8 × Int × Int), (∃ i : Nat, st = (s, Int.ofNat s.length, (i : Int)) ∧ i ≤ s.length) -> (s.length - st.2.2.toNat < n) ->
      loopF (fun (self : (List UInt8) × Int × Int -> Option (As [.bool])) (s : (List UInt8) × Int × Int) => q8p_ (q3j_ (fun a b c => self (a, b, c))) q65_ (fun a b c => self (a, b, c)) s.1 s.2.1 s.2.2) n st = some ((s.drop st.2.2.toNat).all dg && s != [], ()) := by
    refine loopF_eq (σ := List UInt8 × Int × Int) (μ := fun st => s.length - st.2.2.toNat) (G := fun st => some ((s.drop st.2.2.toNat).all dg && s != [], ())) ?_
    rintro self st ⟨i, rfl, hi⟩ ih
    simp only [Int.toNat_natCast] at ih ⊢
    unfold q8p_
    cases hd : s.drop i with
    | nil =>
      have := drop_nil hd
      rw [if_neg (by rw [qb_, q0_]; omega)]
      unfold q65_ qbl_
      rfl
    | cons c r =>
      obtain ⟨h1, h2, h3⟩ := drop_succ hd
      rw [if_pos (by rw [qb_, q0_]; omega), at_drop hd]
      simp only [Option.bind_some]
      have hgo : dg c = true -> q3j_ (fun a b c => self (a, b, c)) s (Int.ofNat s.length) (i : Int) false = some ((c :: r).all dg && s != [], ()) := fun hc => by
        unfold q3j_ q8j_
        rw [if_neg (by decide), q1a_ (by omega)]
        have := ih (s, Int.ofNat s.length, ((i + 1 : Nat) : Int)) ⟨i + 1, rfl, by omega⟩ (by simp; omega)
        refine this.trans ?_
        simp [h1, hc]
      have hno : dg c = false -> q3j_ (fun a b c => self (a, b, c)) s (Int.ofNat s.length) (i : Int) true = some ((c :: r).all dg && s != [], ()) := fun hc => by
        unfold q3j_ q8j_
        rw [if_pos rfl]
        simp [hc]
      by_cases hc : dg c = true
      · have := dg_iff.1 hc
        rw [if_neg (by rw [qb_, q0_]; omega)]
        have e : gt (Int.ofNat c.toNat) 57 = false := by simp [gt]; omega
        rw [e]
        exact hgo hc
      · have hc' : dg c = false := by simpa using hc
        have h4 : ¬ (48 ≤ c.toNat ∧ c.toNat ≤ 57) := fun h => hc (dg_iff.2 h)
        by_cases h5 : c.toNat < 48
        · rw [if_pos (by rw [qb_, q0_]; omega)]
          exact hno hc'
        · rw [if_neg (by rw [qb_, q0_]; omega)]
          have e : gt (Int.ofNat c.toNat) 57 = true := by simp [gt]; omega
          rw [e]
          exact hno hc'
  have := key 18446744073709551616 (s, Int.ofNat s.length, 0) ⟨0, rfl, by omega⟩ (by simp; omega)
  refine this.trans ?_
  simp [digs]
def qc_ : List UInt8 -> List UInt8
  | [] => []
  | c :: q => match qc_ q with
    | [] => if c = 48 then [] else [c]
    | r => c :: r
theorem stripz_snoc0 (q : List UInt8) : qc_ (q ++ [48]) = qc_ q := by
  induction q with
  | nil => rfl
  | cons c q ih => show (match qc_ (q ++ [48]) with | [] => _ | r => _) = _; rw [ih]; rfl
theorem stripz_snoc {c : UInt8} (q : List UInt8) (h : c ≠ 48) : qc_ (q ++ [c]) = q ++ [c] := by
  induction q with
  | nil => show (if c = 48 then [] else [c]) = _; rw [if_neg h]; rfl
  | cons a q ih =>
    show (match qc_ (q ++ [c]) with | [] => _ | r => _) = _
    rw [ih]
    cases q <;> rfl
theorem snoc_cases {α : Type} (q : List α) : q = [] ∨ ∃ p c, q = p ++ [c] := by
  rcases List.eq_nil_or_concat q with h | ⟨p, c, h⟩
  · exact .inl h
  · exact .inr ⟨p, c, by simpa using h⟩
theorem trimRight_eq {s : List UInt8} (h : s.length < 1000000) : q58_ (s, 48, ()) = some (qc_ s, ()) := by
  have key : ∀ (n : Nat) (st : List UInt8 × Int), (st.2 = 48 ∧ st.1.length < 1000000) -> st.1.length < n ->
      loopF (fun (self : (List UInt8) × Int -> Option (As [.str])) (s : (List UInt8) × Int) => q5h_ (q4b_ (fun a b => self (a, b))) (fun a b => self (a, b)) s.1 s.2) n st = some (qc_ st.1, ()) := by
    refine loopF_eq (σ := List UInt8 × Int) (μ := fun st => st.1.length) (G := fun st => some (qc_ st.1, ())) ?_
    rintro self ⟨s, c⟩ ⟨rfl, hl⟩ ih
    unfold q5h_
    rcases snoc_cases s with rfl | ⟨p, c, rfl⟩
    · rfl
    · simp at hl
      have hn : Int.ofNat (p ++ [c]).length = ((p.length + 1 : Nat) : Int) := by simp
      rw [if_pos (by rw [q1w_, hn]; omega)]
      have h1 : sub .i64 (Int.ofNat (p ++ [c]).length) 1 = (p.length : Int) := by rw [hn, sub64 (by omega) (by omega)]; omega
      simp only [h1, at_app, Option.bind_some]
      unfold q4b_ q7y_
      by_cases hc : c = 48
      · subst hc
        rw [if_pos (show eqi (Int.ofNat (UInt8.toNat 48)) 48 = true from rfl), h1, cut_app0]
        have := ih (p, 48) ⟨rfl, by show p.length < _; omega⟩ (by simp)
        refine Eq.trans this ?_
        simp [stripz_snoc0]
      · have : eqi (Int.ofNat c.toNat) 48 = false := by
          simp [eqi]
          intro e
          apply hc
          apply UInt8.toNat_inj.1
          have : (48 : UInt8).toNat = 48 := rfl
          omega
        rw [this, if_neg (by decide)]
        simp [stripz_snoc p hc]
  exact key 18446744073709551616 (s, 48) ⟨rfl, h⟩ (by show s.length < _; omega)
abbrev PR := (Int × Int) × Bool
def q4u_ (neg : Bool) (w r : List UInt8) (pt : Bool) : PR :=
  if digs w = false ∨ (1 < w.length ∧ w[0]? = some 48) then ((0, 0), false)
  else if pt = true ∧ (digs r = false ∨ 6 < r.length) then ((0, 0), false)
  else if 1000000000000 < dvn (dvn 0 w) (qc_ r) then ((0, 0), false)
  else ((if neg then -(dvn (dvn 0 w) (qc_ r)) else dvn (dvn 0 w) (qc_ r), ((qc_ r).length : Int)), true)
theorem byte_val {c : UInt8} (h : dg c = true) : cvt .i64 (sub .u8 (Int.ofNat c.toNat) 48) = (c.toNat : Int) - 48 := by
  have := dg_iff.1 h
  have e : sub .u8 (Int.ofNat c.toNat) 48 = (c.toNat : Int) - 48 := by unfold sub; rw [q0_, wu8 (by omega) (by omega)]
  rw [e, cvt64 (by omega) (by omega)]
abbrev P4 := Bool × List UInt8 × Int × List UInt8 × List UInt8 × List UInt8 × Int × Int × Int × Int × Int
theorem parse_K4 (u3 : Bool -> List UInt8 -> Int -> List UInt8 -> List UInt8 -> Int -> Int -> Int -> Option (As [.pr (.int .i64) (.int .u8), .bool])) (neg : Bool) (rest part a b : List UInt8) (n t : Int) (hd : ∀ c ∈ part, dg c = true) (hl : part.length < 1000000) (hn0 : 0 ≤ n) (hn1 : n ≤ 1000000000000) :
    q4e_ u3 neg rest n part a b t (Int.ofNat part.length) 0 0 0 = if 1000000000000 < dvn n part then some ((0, 0), false, ()) else u3 neg rest (dvn n part) a b (add .i64 t 1) 0 0 := by
  have key : ∀ (n : Nat) (st : P4), (∃ (i : Nat) (m : Int), st = (neg, rest, m, part, a, b, t, Int.ofNat part.length, (i : Int), 0, 0) ∧ i ≤ part.length ∧ 0 ≤ m ∧ m ≤ 1000000000000) -> part.length - st.2.2.2.2.2.2.2.2.1.toNat < n ->
      loopF (fun (self : P4 -> Option (As [.pr (.int .i64) (.int .u8), .bool])) (s : P4) => qbz_ u3 (fun negative rest n part t54 t54_2 t55 t59 t60 t2 t2_2 => self (negative, rest, n, part, t54, t54_2, t55, t59, t60, t2, t2_2)) s.1 s.2.1 s.2.2.1 s.2.2.2.1 s.2.2.2.2.1 s.2.2.2.2.2.1 s.2.2.2.2.2.2.1 s.2.2.2.2.2.2.2.1 s.2.2.2.2.2.2.2.2.1 s.2.2.2.2.2.2.2.2.2.1 s.2.2.2.2.2.2.2.2.2.2) n st =
        if 1000000000000 < dvn st.2.2.1 (part.drop st.2.2.2.2.2.2.2.2.1.toNat) then some ((0, 0), false, ()) else u3 neg rest (dvn st.2.2.1 (part.drop st.2.2.2.2.2.2.2.2.1.toNat)) a b (add .i64 t 1) 0 0 := by
    refine loopF_eq (σ := P4) (μ := fun st => part.length - st.2.2.2.2.2.2.2.2.1.toNat) (G := fun st => if 1000000000000 < dvn st.2.2.1 (part.drop st.2.2.2.2.2.2.2.2.1.toNat) then some ((0, 0), false, ()) else u3 neg rest (dvn st.2.2.1 (part.drop st.2.2.2.2.2.2.2.2.1.toNat)) a b (add .i64 t 1) 0 0) ?_
    rintro self st ⟨i, m, rfl, hi, hm0, hm1⟩ ih
    simp only [Int.toNat_natCast] at ih ⊢
    unfold qbz_
    cases hdr : part.drop i with
    | nil =>
      have := drop_nil hdr
      rw [if_neg (by rw [qb_, q0_]; omega), dvn_nil, if_neg (by omega)]
    | cons c r =>
      obtain ⟨h1, h2, h3⟩ := drop_succ hdr
      have hc : dg c = true := hd c (List.mem_of_mem_drop (by rw [hdr]; exact List.mem_cons_self ..))
      have hcv := dg_iff.1 hc
      rw [if_pos (by rw [qb_, q0_]; omega), at_drop hdr, Option.bind_some, byte_val hc, mul64 (by omega) (by omega), add64 (by omega) (by omega), dvn_cons, q1a_ (by omega)]
      have hr : ∀ x ∈ r, dg x = true := fun x hx => hd x (List.mem_of_mem_drop (by rw [hdr]; exact List.mem_cons_of_mem _ hx))
      have hge := dvn_ge (q := r) (n := 10 * m + ((c.toNat : Int) - 48)) hr (by omega)
      by_cases hgt : 1000000000000 < 10 * m + ((c.toNat : Int) - 48)
      · rw [if_pos (by rw [q1w_]; omega), if_pos (by omega)]
      · rw [if_neg (by rw [q1w_]; omega)]
        have := ih (neg, rest, 10 * m + ((c.toNat : Int) - 48), part, a, b, t, Int.ofNat part.length, ((i + 1 : Nat) : Int), 0, 0) ⟨i + 1, _, rfl, by omega, by omega, by omega⟩ (by simp; omega)
        refine this.trans ?_
        simp only [Int.toNat_natCast, h1]
  have := key 18446744073709551616 (neg, rest, n, part, a, b, t, Int.ofNat part.length, 0, 0, 0) ⟨0, n, rfl, by omega, hn0, hn1⟩ (by simp; omega)
  refine this.trans ?_
  simp
theorem K3_step (n : Nat) (neg : Bool) (rest : List UInt8) (m : Int) (a b : List UInt8) (t : Int) : 
    loopF (fun (self : (Bool) × (List UInt8) × (Int) × (List UInt8) × (List UInt8) × (Int) × (Int) × (Int) -> Option (As [.pr (.int .i64) (.int .u8), .bool])) (s : (Bool) × (List UInt8) × (Int) × (List UInt8) × (List UInt8) × (Int) × (Int) × (Int)) => q9h_ (q4e_ (fun negative rest n t54 t54_2 t55 t2 t2_2 => self (negative, rest, n, t54, t54_2, t55, t2, t2_2))) (q55_) (fun negative rest n t54 t54_2 t55 t2 t2_2 => self (negative, rest, n, t54, t54_2, t55, t2, t2_2)) s.1 s.2.1 s.2.2.1 s.2.2.2.1 s.2.2.2.2.1 s.2.2.2.2.2.1 s.2.2.2.2.2.2.1 s.2.2.2.2.2.2.2) (n + 1) (neg, rest, m, a, b, t, 0, 0) =
    if lt t 2 = true then if eqi t 1 = true then q4e_ (fun neg rest m a b t x y => loopF (fun (self : (Bool) × (List UInt8) × (Int) × (List UInt8) × (List UInt8) × (Int) × (Int) × (Int) -> Option (As [.pr (.int .i64) (.int .u8), .bool])) (s : (Bool) × (List UInt8) × (Int) × (List UInt8) × (List UInt8) × (Int) × (Int) × (Int)) => q9h_ (q4e_ (fun negative rest n t54 t54_2 t55 t2 t2_2 => self (negative, rest, n, t54, t54_2, t55, t2, t2_2))) (q55_) (fun negative rest n t54 t54_2 t55 t2 t2_2 => self (negative, rest, n, t54, t54_2, t55, t2, t2_2)) s.1 s.2.1 s.2.2.1 s.2.2.2.1 s.2.2.2.2.1 s.2.2.2.2.2.1 s.2.2.2.2.2.2.1 s.2.2.2.2.2.2.2) n (neg, rest, m, a, b, t, x, y)) neg rest m b a b t (Int.ofNat b.length) 0 0 0 else if eqi t 0 = true then q4e_ (fun neg rest m a b t x y => loopF (fun (self : (Bool) × (List UInt8) × (Int) × (List UInt8) × (List UInt8) × (Int) × (Int) × (Int) -> Option (As [.pr (.int .i64) (.int .u8), .bool])) (s : (Bool) × (List UInt8) × (Int) × (List UInt8) × (List UInt8) × (Int) × (Int) × (Int)) => q9h_ (q4e_ (fun negative rest n t54 t54_2 t55 t2 t2_2 => self (negative, rest, n, t54, t54_2, t55, t2, t2_2))) (q55_) (fun negative rest n t54 t54_2 t55 t2 t2_2 => self (negative, rest, n, t54, t54_2, t55, t2, t2_2)) s.1 s.2.1 s.2.2.1 s.2.2.2.1 s.2.2.2.2.1 s.2.2.2.2.2.1 s.2.2.2.2.2.2.1 s.2.2.2.2.2.2.2) n (neg, rest, m, a, b, t, x, y)) neg rest m a a b t (Int.ofNat a.length) 0 0 0 else none else q55_ neg rest m 0 0 := rfl
theorem parse_K3 (neg : Bool) (w r : List UInt8) (hw : ∀ c ∈ w, dg c = true) (hr : ∀ c ∈ r, dg c = true) (hwl : w.length < 1000000) (hrl : r.length < 256) :
    q9p_ neg r 0 w r 0 0 0 = if 1000000000000 < dvn (dvn 0 w) r then some ((0, 0), false, ()) else some ((if neg then -(dvn (dvn 0 w) r) else dvn (dvn 0 w) r, (r.length : Int)), true, ()) := by
  have h0 : (0 : Int) ≤ dvn 0 w := dvn_ge hw (Int.le_refl _)
  have h1 : dvn 0 w ≤ dvn (dvn 0 w) r := dvn_ge hr h0
  refine (K3_step 18446744073709551615 neg r 0 w r 0).trans ?_
  rw [if_pos (by decide), if_neg (by decide), if_pos (by decide), parse_K4 _ _ _ _ _ _ _ _ hw hwl (by decide) (by decide)]
  by_cases hb : 1000000000000 < dvn 0 w
  · rw [if_pos hb, if_pos (by omega)]
  · rw [if_neg hb, show add .i64 0 1 = 1 from rfl]
    refine (K3_step 18446744073709551614 neg r _ w r 1).trans ?_
    rw [if_pos (by decide), if_pos (by decide), parse_K4 _ _ _ _ _ _ _ _ hr (by omega) h0 (by omega)]
    by_cases hb2 : 1000000000000 < dvn (dvn 0 w) r
    · rw [if_pos hb2, if_pos hb2]
    · rw [if_neg hb2, if_neg hb2, show add .i64 1 1 = 2 from rfl]
      refine (K3_step 18446744073709551613 neg r _ w r 2).trans ?_
      rw [if_neg (by decide)]
      unfold q55_ qfy_ qcg_ qfw_
      have e : cvt .u8 (Int.ofNat r.length) = (r.length : Int) := wu8 (by rw [q0_]; omega) (by rw [q0_]; omega)
      rw [e]
      cases neg
      · rfl
      · rw [if_pos rfl, neg64 (by omega) (by omega)]
        rfl
theorem stripz_len : ∀ r : List UInt8, (qc_ r).length ≤ r.length
  | [] => Nat.le_refl _
  | c :: q => by
    have ih := stripz_len q
    show (match qc_ q with | [] => _ | r => _ : List UInt8).length ≤ _
    cases h : qc_ q with
    | nil => dsimp only; split <;> simp
    | cons a b => rw [h] at ih; simp at ih ⊢; omega
theorem stripz_mem : ∀ {r : List UInt8} {c : UInt8}, c ∈ qc_ r -> c ∈ r
  | a :: q, c, h => by
    have ih := @stripz_mem q c
    change c ∈ (match qc_ q with | [] => _ | r => _ : List UInt8) at h
    cases hq : qc_ q with
    | nil =>
      rw [hq] at h
      dsimp only at h
      split at h
      · cases h
      · simp at h; simp [h]
    | cons x y =>
      rw [hq] at h ih
      rcases List.mem_cons.1 h with h | h
      · simp [h]
      · exact List.mem_cons_of_mem _ (ih h)
theorem digs_iff {s : List UInt8} : digs s = true ↔ (∀ c ∈ s, dg c = true) ∧ s ≠ [] := by simp [digs, List.all_eq_true]
theorem parse_K1 (neg : Bool) (w r : List UInt8) (pt bad : Bool) (hwl : w.length < 1000000) (hrl : r.length < 1000000) (hpt : pt = false -> r = [])
    (hbad : bad = true ↔ (digs w = false ∨ (1 < w.length ∧ w[0]? = some 48))) : q1g_ neg w r pt bad 0 0 = some ((q4u_ neg w r pt).1, (q4u_ neg w r pt).2, ()) := by
  unfold q1g_ qgd_ q4u_
  by_cases hb : bad = true
  · rw [if_pos hb, if_pos (hbad.1 hb)]
  · rw [if_neg hb, if_neg (fun h => hb (hbad.2 h))]
    have hw : digs w = true := by
      cases h : digs w
      · exact absurd (hbad.2 (.inl h)) hb
      · rfl
    have hwd := digs_iff.1 hw
    have fin : (∀ c ∈ r, dg c = true) -> r.length ≤ 6 -> q9m_ neg w r false 0 0 = some ((if 1000000000000 < dvn (dvn 0 w) (qc_ r) then ((0, 0), false) else ((if neg then -(dvn (dvn 0 w) (qc_ r)) else dvn (dvn 0 w) (qc_ r), ((qc_ r).length : Int)), true) : PR).1, (if 1000000000000 < dvn (dvn 0 w) (qc_ r) then ((0, 0), false) else ((if neg then -(dvn (dvn 0 w) (qc_ r)) else dvn (dvn 0 w) (qc_ r), ((qc_ r).length : Int)), true) : PR).2, ()) := fun hr h6 => by
      unfold q9m_ qft_
      rw [if_neg (by decide)]
      have go : q9p_ neg (qc_ r) 0 w (qc_ r) 0 0 0 = some ((if 1000000000000 < dvn (dvn 0 w) (qc_ r) then ((0, 0), false) else ((if neg then -(dvn (dvn 0 w) (qc_ r)) else dvn (dvn 0 w) (qc_ r), ((qc_ r).length : Int)), true) : PR).1, (if 1000000000000 < dvn (dvn 0 w) (qc_ r) then ((0, 0), false) else ((if neg then -(dvn (dvn 0 w) (qc_ r)) else dvn (dvn 0 w) (qc_ r), ((qc_ r).length : Int)), true) : PR).2, ()) := by
        rw [parse_K3 neg w (qc_ r) hwd.1 (fun c hc => hr c (stripz_mem hc)) hwl (by have := stripz_len r; omega)]
        split <;> rfl
      by_cases hre : r = []
      · subst hre
        rw [if_pos (by decide)]
        exact go
      · rw [if_neg (by rw [q3x_]; exact hre), trimRight_eq hrl, Option.bind_some]
        exact go
    cases pt
    · rw [if_neg (by decide), if_neg (by simp)]
      rw [hpt rfl] at fin ⊢
      exact fin (fun c h => by cases h) (by simp)
    · rw [if_pos rfl, allDigits_eq hrl, Option.bind_some]
      by_cases hr : digs r = true
      · rw [if_neg (by simp [hr])]
        by_cases h6 : 6 < r.length
        · have e : gt (Int.ofNat r.length) 6 = true := by rw [q1w_, q0_]; omega
          rw [e, if_pos ⟨rfl, .inr h6⟩]
          rfl
        · have e : gt (Int.ofNat r.length) 6 = false := by simp [gt]; omega
          rw [e, if_neg (by simp [hr]; omega)]
          exact fin (digs_iff.1 hr).1 (by omega)
      · have hr' : digs r = false := by simpa using hr
        rw [if_pos (by simp [hr']), if_pos ⟨rfl, .inl hr'⟩]
        rfl
def parseT (neg : Bool) (t : List UInt8) : PR := q4u_ neg (t.takeWhile (· != 46)) ((t.dropWhile (· != 46)).drop 1) (t.contains 46)
def parseS (s : List UInt8) : PR := if s.head? = some 45 then parseT true (s.drop 1) else parseT false s
theorem tw_no {c : UInt8} {s : List UInt8} (h : c ∉ s) : s.takeWhile (· != c) = s ∧ s.dropWhile (· != c) = [] ∧ s.contains c = false := by
  induction s with
  | nil => exact ⟨rfl, rfl, rfl⟩
  | cons b q ih =>
    have hb : b ≠ c := fun e => h (by simp [e])
    obtain ⟨h1, h2, h3⟩ := ih (fun hm => h (List.mem_cons_of_mem _ hm))
    have hb' : (b != c) = true := by simp [hb]
    refine ⟨by simp [hb', h1], by simp [hb', h2], ?_⟩
    simp only [List.contains_cons, h3, Bool.or_false]
    simp
    exact fun e => hb e.symm
theorem tw_yes {c : UInt8} {p q : List UInt8} (h : c ∉ p) : (p ++ c :: q).takeWhile (· != c) = p ∧ (p ++ c :: q).dropWhile (· != c) = c :: q ∧ (p ++ c :: q).contains c = true := by
  induction p with
  | nil => simp
  | cons b r ih =>
    have hb : b ≠ c := fun e => h (by simp [e])
    obtain ⟨h1, h2, h3⟩ := ih (fun hm => h (List.mem_cons_of_mem _ hm))
    have hb' : (b != c) = true := by simp [hb]
    refine ⟨by simp [hb', h1], by simp [hb', h2], ?_⟩
    simp
theorem parseT_no {neg : Bool} {t : List UInt8} (h : (46 : UInt8) ∉ t) : parseT neg t = q4u_ neg t [] false := by
  obtain ⟨h1, h2, h3⟩ := tw_no h
  unfold parseT
  rw [h1, h2, h3]
  rfl
theorem parseT_yes {neg : Bool} {p q : List UInt8} (h : (46 : UInt8) ∉ p) : parseT neg (p ++ 46 :: q) = q4u_ neg p q true := by
  obtain ⟨h1, h2, h3⟩ := tw_yes (q := q) h
  simp only [parseT, h1, h2, h3]
  simp
theorem bad_iff {w : List UInt8} (c : UInt8) (q : List UInt8) (e : w = c :: q) (h : digs w = true) (hl : 1 < w.length) : eqi (Int.ofNat c.toNat) 48 = true ↔ (digs w = false ∨ (1 < w.length ∧ w[0]? = some 48)) := by
  subst e
  simp [h, eqi] at hl ⊢
  constructor
  · intro h2
    refine ⟨hl, UInt8.toNat_inj.1 ?_⟩
    have : (48 : UInt8).toNat = 48 := rfl
    omega
  · rintro ⟨_, rfl⟩; rfl
theorem hasPrefix_eq {s p : List UInt8} : q4t_ (s, p, ()) = some (decide (p <+: s), ()) := by
  show (if ge (Int.ofNat s.length) (Int.ofNat p.length) = true then _ else _) = _
  by_cases h : p.length ≤ s.length
  · rw [if_pos (by rw [ge_iff, q0_, q0_]; omega), q0_, cut_to h, Option.bind_some]
    congr 2
    rw [Bool.eq_iff_iff, q3x_, decide_eq_true_iff, List.prefix_iff_eq_take]
    exact ⟨fun h => h.symm, fun h => h.symm⟩
  · rw [if_neg (by rw [ge_iff, q0_, q0_]; omega)]
    congr 2
    symm
    rw [decide_eq_false_iff_not]
    intro hp
    exact h hp.length_le
theorem cutPrefix_eq {s p : List UInt8} : q92_ (s, p, ()) = some (if p <+: s then (s.drop p.length, true, ()) else (s, false, ())) := by
  show (q64_ (s, p, ())).bind _ = _
  have : q64_ (s, p, ()) = some (if p <+: s then (s.drop p.length, true, ()) else (s, false, ())) := by
    show (q4t_ (s, p, ())).bind _ = _
    rw [hasPrefix_eq, Option.bind_some]
    by_cases h : p <+: s
    · rw [if_neg (by simp [h]), if_pos h, q0_, cut_from h.length_le, Option.bind_some]
    · rw [if_pos (by simp [h]), if_neg h]
  rw [this, Option.bind_some]
theorem parse_eq {s : List UInt8} (hl : s.length < 1000000) : qgo_ (s, ()) = some ((parseS s).1, (parseS s).2, ()) := by
  show qdc_ q1g_ s = _
  have go : ∀ (neg : Bool) (t : List UInt8), t.length < 1000000 ->
      (if eqs [46] t = true then (cut t 1 (Int.ofNat t.length)).bind fun y_1 => (q2l_ ([], ())).bind fun y_2 => if (!y_2.1) = true then q1g_ neg [] y_1 true true 0 0 else q1g_ neg [] y_1 true false 0 0
       else if ge (Go.Lib.indexByte t 46) 0 = true then (cut t 0 (Go.Lib.indexByte t 46)).bind fun y_1 => (cut t (add .i64 (Go.Lib.indexByte t 46) 1) (Int.ofNat t.length)).bind fun y_2 => (q2l_ (y_1, ())).bind fun y_3 => if (!y_3.1) = true then q1g_ neg y_1 y_2 true true 0 0 else if gt (Int.ofNat y_1.length) 1 = true then (at? y_1 0).bind fun c => q1g_ neg y_1 y_2 true (eqi (Int.ofNat c.toNat) 48) 0 0 else q1g_ neg y_1 y_2 true false 0 0
       else (q2l_ (t, ())).bind fun y_1 => if (!y_1.1) = true then q1g_ neg t [] false true 0 0 else if gt (Int.ofNat t.length) 1 = true then (at? t 0).bind fun c => q1g_ neg t [] false (eqi (Int.ofNat c.toNat) 48) 0 0 else q1g_ neg t [] false false 0 0) = some ((parseT neg t).1, (parseT neg t).2, ()) := by
    intro neg t ht
    have side : ∀ (w r : List UInt8) (pt : Bool), w.length < 1000000 -> r.length < 1000000 -> (pt = false -> r = []) -> ((q2l_ (w, ())).bind fun y_1 => if (!y_1.1) = true then q1g_ neg w r pt true 0 0 else if gt (Int.ofNat w.length) 1 = true then (at? w 0).bind fun c => q1g_ neg w r pt (eqi (Int.ofNat c.toNat) 48) 0 0 else q1g_ neg w r pt false 0 0) = some ((q4u_ neg w r pt).1, (q4u_ neg w r pt).2, ()) := by
      intro w r pt hw hr hp
      rw [allDigits_eq hw, Option.bind_some]
      by_cases hd : digs w = true
      · rw [if_neg (by simp [hd])]
        by_cases h1 : 1 < w.length
        · rw [if_pos (by rw [q1w_, q0_]; omega)]
          cases w with
          | nil => simp at h1
          | cons c q => exact parse_K1 neg (c :: q) r pt _ hw hr hp (bad_iff c q rfl hd h1)
        · rw [if_neg (by rw [q1w_, q0_]; omega)]
          exact parse_K1 neg w r pt false hw hr hp (by simp [hd]; omega)
      · have hd' : digs w = false := by simpa using hd
        rw [if_pos (by simp [hd'])]
        exact parse_K1 neg w r pt true hw hr hp (by simp [hd'])
    by_cases he : t = [46]
    · subst he
      rw [if_pos (by decide), show cut ([46] : List UInt8) 1 (Int.ofNat [(46 : UInt8)].length) = some [] from rfl, Option.bind_some, allDigits_eq (by simp), Option.bind_some, if_pos (by decide)]
      exact parse_K1 neg [] [] true true (by simp) (by simp) (by simp) (by simp [digs])
    · rw [if_neg (by rw [q3x_]; exact fun h => he h.symm)]
      rcases split_at 46 t with h46 | ⟨p, q, rfl, h46⟩
      · rw [index_no 46 t h46, if_neg (by decide), parseT_no h46]
        exact side t [] false ht (by simp) (fun _ => rfl)
      · simp at ht
        rw [index_yes 46 p q h46, if_pos (by rw [ge_iff]; omega), cut_app0, Option.bind_some, q1a_ (by omega), cut_from (by simp), Option.bind_some, parseT_yes h46]
        have : (p ++ 46 :: q).drop (p.length + 1) = q := by simp
        rw [this]
        exact side p q true (by omega) (by omega) (by simp)
  unfold qdc_
  rw [cutPrefix_eq]
  cases s with
  | nil =>
    rw [if_neg (by simp), Option.bind_some]
    exact go false [] (by simp)
  | cons a q =>
    by_cases ha : a = 45
    · subst ha
      have : parseS (45 :: q) = parseT true q := by simp [parseS]
      rw [this, if_pos (by simp), Option.bind_some]
      exact go true q (by simp at hl; omega)
    · have : parseS (a :: q) = parseT false (a :: q) := by simp [parseS, ha]
      rw [this, if_neg (by simp; intro e; exact ha e.symm), Option.bind_some]
      exact go false (a :: q) hl
end Go.Proofs.Lx
end
section
namespace Go.Proofs.Lx
open Go Ev Sx Pl
set_option maxRecDepth 10000
def rf (z : Bool) : List UInt8 -> Int -> Bool -> Nat -> Nat -> Option (Int × Nat)
  | [], n, pt, bh, ah => if ah = 0 ∨ (pt = true ∧ bh = 0) ∨ 6 < bh then none else some (n, bh)
  | c :: q, n, pt, bh, ah =>
    if c = 46 ∧ pt = false ∧ 0 < ah then rf z q n true bh ah
    else if dg c = false ∨ (ah = 1 ∧ z = true ∧ pt = false) ∨ 100000000000000000 < n then none
    else rf z q (10 * n + ((c.toNat : Int) - 48)) pt (if pt then bh + 1 else bh) (if pt then ah else ah + 1)
def refEnd (below : Bool) : Option (Int × Nat) -> Option (As [.pr (.int .i64) (.int .u8), .bool])
  | none => some ((0, 0), false, ())
  | some (n, b) => q9e_ below n (b : Int) false 0 0
theorem q34_ {c : UInt8} (k : UInt8) {m : Int} (hm : m = (k.toNat : Int) := by rfl) : eqi (Int.ofNat c.toNat) m = true ↔ c = k := by
  subst hm
  simp only [eqi, beq_iff_eq, q0_]
  constructor
  · intro h; apply UInt8.toNat_inj.1; omega
  · rintro rfl; rfl
abbrev R3 := List UInt8 × Bool × Int × Bool × Int × Int × Int × Int × Int
abbrev RP := As [.pr (.int .i64) (.int .u8), .bool]
abbrev refB (self : R3 -> Option RP) (s : R3) : Option RP := q9t_ (q5y_ (fun s below n point behind ahead i t2 t2_2 => self (s, below, n, point, behind, ahead, i, t2, t2_2))) (q9j_) (fun s below n point behind ahead i t2 t2_2 => self (s, below, n, point, behind, ahead, i, t2, t2_2)) s.1 s.2.1 s.2.2.1 s.2.2.2.1 s.2.2.2.2.1 s.2.2.2.2.2.1 s.2.2.2.2.2.2.1 s.2.2.2.2.2.2.2.1 s.2.2.2.2.2.2.2.2
theorem ref_K7 (self : R3 -> Option RP) (s : List UInt8) (below : Bool) (n : Int) (pt : Bool) (bh ah i : Nat) (c : UInt8) (hc : dg c = true) (hi : at? s (i : Int) = some c) (h0 : 0 ≤ n) (hl : i < 1000000) (hb : bh < 1000000) (ha : ah < 1000000) :
    q56_ (fun s below n point behind ahead i t2 t2_2 => self (s, below, n, point, behind, ahead, i, t2, t2_2)) s below n pt (bh : Int) (ah : Int) (i : Int) false 0 0 =
      if 100000000000000000 < n then some ((0, 0), false, ()) else self (s, below, 10 * n + ((c.toNat : Int) - 48), pt, ((if pt then bh + 1 else bh : Nat) : Int), ((if pt then ah else ah + 1 : Nat) : Int), ((i + 1 : Nat) : Int), 0, 0) := by
  unfold q56_ qfv_
  rw [if_neg (by decide)]
  by_cases hn : 100000000000000000 < n
  · rw [if_pos (by rw [q1w_]; exact hn), if_pos hn]
  · have := dg_iff.1 hc
    rw [if_neg (by rw [q1w_]; exact hn), if_neg hn, hi, Option.bind_some, byte_val hc, mul64 (by omega) (by omega), add64 (by omega) (by omega), q1a_ (by omega), q1a_ (by omega)]
    unfold q5x_ qce_
    rw [q1a_ (by omega), show n * 10 = 10 * n by omega]
    cases pt <;> rfl
theorem ref_loop (s : List UInt8) (below : Bool) (hs : s.length < 1000000) : ∀ (k : Nat) (st : R3),
    (∃ (n : Int) (pt : Bool) (bh ah i : Nat), st = (s, below, n, pt, (bh : Int), (ah : Int), (i : Int), 0, 0) ∧ i ≤ s.length ∧ bh ≤ i ∧ ah ≤ i ∧ 0 ≤ n) -> s.length - st.2.2.2.2.2.2.1.toNat < k ->
      loopF refB k st = refEnd below (rf (decide (s[0]? = some 48)) (s.drop st.2.2.2.2.2.2.1.toNat) st.2.2.1 st.2.2.2.1 st.2.2.2.2.1.toNat st.2.2.2.2.2.1.toNat) := by
  refine loopF_eq (σ := R3) (μ := fun st => s.length - st.2.2.2.2.2.2.1.toNat) (G := fun st => refEnd below (rf (decide (s[0]? = some 48)) (s.drop st.2.2.2.2.2.2.1.toNat) st.2.2.1 st.2.2.2.1 st.2.2.2.2.1.toNat st.2.2.2.2.2.1.toNat)) ?_
  rintro self st ⟨n, pt, bh, ah, i, rfl, hi, hb, ha, hn⟩ ih
  simp only [Int.toNat_natCast] at ih ⊢
  show q9t_ _ _ _ s below n pt (bh : Int) (ah : Int) (i : Int) 0 0 = _
  unfold q9t_
  cases hd : s.drop i with
  | nil =>
    have := drop_nil hd
    rw [if_neg (by rw [qb_, q0_]; omega)]
    unfold q9j_ qfx_ rf
    by_cases h0 : ah = 0
    · subst h0
      rw [if_pos (by decide), if_pos (.inl rfl)]
      rfl
    · rw [if_neg (by rw [qn_]; omega)]
      have h6 : q9e_ below n (bh : Int) (gt (bh : Int) 6) 0 0 = refEnd below (if 6 < bh then none else some (n, bh)) := by
        by_cases h : 6 < bh
        · rw [if_pos h, show gt (bh : Int) 6 = true by rw [q1w_]; omega]; rfl
        · rw [if_neg h, show gt (bh : Int) 6 = false by simp [gt]; omega]; rfl
      cases pt
      · rw [if_neg (by decide), h6]
        congr 1
        simp [h0]
      · rw [if_pos rfl]
        by_cases hb0 : bh = 0
        · subst hb0
          rw [if_pos (by decide), if_pos (by simp)]
          rfl
        · rw [if_neg (by rw [qn_]; omega), h6]
          congr 1
          simp [h0, hb0]
  | cons c r =>
    obtain ⟨h1, h2, h3⟩ := drop_succ hd
    have hat := at_drop hd
    rw [if_pos (by rw [qb_, q0_]; omega), hat, Option.bind_some]
    have next : ∀ (n' : Int) (pt' : Bool) (bh' ah' : Nat), bh' ≤ i + 1 -> ah' ≤ i + 1 -> 0 ≤ n' -> self (s, below, n', pt', (bh' : Int), (ah' : Int), ((i + 1 : Nat) : Int), 0, 0) = refEnd below (rf (decide (s[0]? = some 48)) r n' pt' bh' ah') := fun n' pt' bh' ah' x1 x2 x3 => by
      have := ih (s, below, n', pt', (bh' : Int), (ah' : Int), ((i + 1 : Nat) : Int), 0, 0) ⟨n', pt', bh', ah', i + 1, rfl, by omega, x1, x2, x3⟩ (by simp; omega)
      refine this.trans ?_
      simp [h1]
    have dig : ¬ (c = 46 ∧ pt = false ∧ 0 < ah) -> q5y_ (fun s below n point behind ahead i t2 t2_2 => self (s, below, n, point, behind, ahead, i, t2, t2_2)) s below n pt (bh : Int) (ah : Int) (i : Int) false 0 0 = refEnd below (rf (decide (s[0]? = some 48)) (c :: r) n pt bh ah) := fun hno => by
      unfold q5y_ qd5_
      rw [if_neg (by decide), hat, Option.bind_some, Option.bind_some]
      unfold rf
      rw [if_neg hno]
      have bad : q56_ (fun s below n point behind ahead i t2 t2_2 => self (s, below, n, point, behind, ahead, i, t2, t2_2)) s below n pt (bh : Int) (ah : Int) (i : Int) true 0 0 = some ((0, 0), false, ()) := rfl
      by_cases hc : dg c = true
      · have hcv := dg_iff.1 hc
        rw [if_neg (by rw [qb_, q0_]; omega), if_neg (by rw [q1w_, q0_]; omega)]
        have good := ref_K7 self s below n pt bh ah i c hc hat hn (by omega) (by omega) (by omega)
        have fine : ¬ (ah = 1 ∧ s[0]? = some 48 ∧ pt = false) -> (if 100000000000000000 < n then some ((0, 0), false, ()) else self (s, below, 10 * n + ((c.toNat : Int) - 48), pt, ((if pt then bh + 1 else bh : Nat) : Int), ((if pt then ah else ah + 1 : Nat) : Int), ((i + 1 : Nat) : Int), 0, 0)) =
            refEnd below (if dg c = false ∨ (ah = 1 ∧ (decide (s[0]? = some 48)) = true ∧ pt = false) ∨ 100000000000000000 < n then none else rf (decide (s[0]? = some 48)) r (10 * n + ((c.toNat : Int) - 48)) pt (if pt then bh + 1 else bh) (if pt then ah else ah + 1)) := fun hz => by
          by_cases hn1 : 100000000000000000 < n
          · rw [if_pos hn1, if_pos (.inr (.inr hn1))]
            rfl
          · have hno2 : ¬ (dg c = false ∨ (ah = 1 ∧ (decide (s[0]? = some 48)) = true ∧ pt = false) ∨ 100000000000000000 < n) := by
              rintro (h | h | h)
              · rw [hc] at h; cases h
              · exact hz ⟨h.1, of_decide_eq_true h.2.1, h.2.2⟩
              · exact hn1 h
            rw [if_neg hn1, if_neg hno2]
            exact next _ pt (if pt then bh + 1 else bh) (if pt then ah else ah + 1) (by split <;> omega) (by split <;> omega) (by omega)
        by_cases ha1 : ah = 1
        · rw [if_pos (by rw [qn_]; omega)]
          obtain ⟨c0, q0, hs0⟩ : ∃ c0 q0, s = c0 :: q0 := by
            cases s with
            | nil => simp at h2
            | cons c0 q0 => exact ⟨c0, q0, rfl⟩
          have hz0 : s[0]? = some c0 := by rw [hs0]; rfl
          rw [show at? s 0 = some c0 by rw [hs0]; rfl, Option.bind_some]
          by_cases h48 : c0 = 48
          · rw [if_pos ((q34_ 48).2 h48)]
            cases pt
            · show q56_ _ s below n false _ _ _ true 0 0 = _
              rw [bad, if_pos (.inr (.inl ⟨ha1, by rw [hz0, h48]; decide, rfl⟩))]
              rfl
            · show q56_ _ s below n true _ _ _ false 0 0 = _
              rw [good]
              exact fine (by simp)
          · rw [if_neg (fun h => h48 ((q34_ 48).1 h)), good]
            exact fine (fun h => by rw [hz0] at h; exact h48 (Option.some.inj h.2.1))
        · rw [if_neg (by rw [qn_]; omega), good]
          exact fine (fun h => ha1 h.1)
      · have hc' : dg c = false := by simpa using hc
        have h4 : ¬ (48 ≤ c.toNat ∧ c.toNat ≤ 57) := fun h => hc (dg_iff.2 h)
        have hyes : dg c = false ∨ (ah = 1 ∧ (decide (s[0]? = some 48)) = true ∧ pt = false) ∨ 100000000000000000 < n := .inl hc'
        rw [if_pos hyes]
        by_cases h5 : c.toNat < 48
        · rw [if_pos (by rw [qb_, q0_]; omega), bad]
          rfl
        · rw [if_neg (by rw [qb_, q0_]; omega), if_pos (by rw [q1w_, q0_]; omega), bad]
          rfl
    by_cases h46 : c = 46
    · rw [if_pos ((q34_ 46).2 h46)]
      cases pt
      · rw [if_pos (by decide)]
        by_cases h0 : 0 < ah
        · rw [show gt (ah : Int) 0 = true by rw [q1w_]; omega]
          unfold q5y_ qd5_
          rw [if_pos rfl]
          unfold q5x_ qce_ rf
          rw [if_pos ⟨h46, rfl, h0⟩, q1a_ (by omega)]
          exact next _ _ _ _ (by omega) (by omega) hn
        · rw [show gt (ah : Int) 0 = false by simp [gt]; omega]
          exact dig (fun h => h0 h.2.2)
      · rw [if_neg (by decide)]
        exact dig (by simp)
    · rw [if_neg (fun h => h46 ((q34_ 46).1 h))]
      exact dig (fun h => h46 h.1)
end Go.Proofs.Lx
end
section
namespace Go.Proofs.Lx
open Go Ev Sx Pl
set_option maxRecDepth 10000
theorem rf_bound {z : Bool} : ∀ {q : List UInt8} {n : Int} {pt : Bool} {bh ah : Nat} {N : Int} {B : Nat}, rf z q n pt bh ah = some (N, B) -> n ≤ 1000000000000000009 -> N ≤ 1000000000000000009 ∧ B ≤ 6
  | [], n, pt, bh, ah, N, B, h, hn => by
    unfold rf at h
    split at h
    · cases h
    · rename_i h1
      cases h
      exact ⟨hn, by omega⟩
  | c :: q, n, pt, bh, ah, N, B, h, hn => by
    unfold rf at h
    split at h
    · exact rf_bound h hn
    · split at h
      · cases h
      · rename_i h1 h2
        have hc : dg c = true := by
          cases hd : dg c
          · exact absurd (.inl hd) h2
          · rfl
        have := dg_iff.1 hc
        exact rf_bound h (by omega)
theorem rf_frac {z : Bool} : ∀ {r : List UInt8} {n : Int} {bh ah : Nat}, 0 < ah -> 0 ≤ n ->
    ((∀ c ∈ r, dg c = true) -> (rf z r n true bh ah = none ∨ rf z r n true bh ah = (if bh + r.length = 0 ∨ 6 < bh + r.length then none else some (dvn n r, bh + r.length))) ∧ (dvn n r ≤ 1000000000000000000 -> rf z r n true bh ah = (if bh + r.length = 0 ∨ 6 < bh + r.length then none else some (dvn n r, bh + r.length)))) ∧
    ((¬ ∀ c ∈ r, dg c = true) -> rf z r n true bh ah = none)
  | [], n, bh, ah, ha, hn => by
    have e : rf z [] n true bh ah = (if bh + ([] : List UInt8).length = 0 ∨ 6 < bh + ([] : List UInt8).length then none else some (dvn n [], bh + ([] : List UInt8).length)) := by
      show (if ah = 0 ∨ (true = true ∧ bh = 0) ∨ 6 < bh then none else some (n, bh)) = (if bh + 0 = 0 ∨ 6 < bh + 0 then none else some (n, bh))
      by_cases h : bh = 0 ∨ 6 < bh
      · rw [if_pos (h.elim (fun h => .inr (.inl ⟨rfl, h⟩)) (fun h => .inr (.inr h))), if_pos (by omega)]
      · rw [if_neg (by omega), if_neg (by omega)]
    exact ⟨fun _ => ⟨.inr e, fun _ => e⟩, fun h => absurd (fun c hc => by cases hc) h⟩
  | c :: r, n, bh, ah, ha, hn => by
    have h0 : ¬ (c = 46 ∧ true = false ∧ 0 < ah) := by simp
    by_cases hc : dg c = true
    · have hcv := dg_iff.1 hc
      obtain ⟨i1, i2⟩ := rf_frac (z := z) (r := r) (n := 10 * n + ((c.toNat : Int) - 48)) (bh := bh + 1) (ah := ah) ha (by omega)
      have e2 : bh + (c :: r).length = bh + 1 + r.length := by simp; omega
      by_cases hg : 100000000000000000 < n
      · have e : rf z (c :: r) n true bh ah = none := by
          unfold rf
          rw [if_neg h0, if_pos (.inr (.inr hg))]
        refine ⟨fun ha => ⟨.inl e, fun hle => ?_⟩, fun _ => e⟩
        have := dvn_ge (q := r) (n := 10 * n + ((c.toNat : Int) - 48)) (fun x hx => ha x (List.mem_cons_of_mem _ hx)) (by omega)
        rw [dvn_cons] at hle
        omega
      · have e : rf z (c :: r) n true bh ah = rf z r (10 * n + ((c.toNat : Int) - 48)) true (bh + 1) ah := by
          conv => lhs; unfold rf
          rw [if_neg h0, if_neg (by simp [hc]; omega)]
          rfl
        rw [e, e2, dvn_cons]
        refine ⟨fun ha => i1 (fun x hx => ha x (List.mem_cons_of_mem _ hx)), fun hn => i2 (fun hall => hn fun x hx => ?_)⟩
        rcases List.mem_cons.1 hx with rfl | hx
        · exact hc
        · exact hall x hx
    · have hc' : dg c = false := by simpa using hc
      have e : rf z (c :: r) n true bh ah = none := by
        unfold rf
        rw [if_neg h0, if_pos (.inl hc')]
      exact ⟨fun h => absurd (h c (List.mem_cons_self ..)) hc, fun _ => e⟩
theorem rf_whole {z : Bool} {tail : List UInt8} : ∀ {w : List UInt8} {n : Int} {ah : Nat}, 46 ∉ w -> 0 ≤ n ->
    ((∀ c ∈ w, dg c = true) -> ¬ (z = true ∧ ah ≤ 1 ∧ 2 ≤ ah + w.length ∧ w ≠ []) -> (rf z (w ++ tail) n false 0 ah = none ∨ rf z (w ++ tail) n false 0 ah = rf z tail (dvn n w) false 0 (ah + w.length)) ∧ (dvn n w ≤ 1000000000000000000 -> rf z (w ++ tail) n false 0 ah = rf z tail (dvn n w) false 0 (ah + w.length))) ∧
    (((¬ ∀ c ∈ w, dg c = true) ∨ (z = true ∧ ah ≤ 1 ∧ 2 ≤ ah + w.length ∧ w ≠ [])) -> rf z (w ++ tail) n false 0 ah = none)
  | [], n, ah, h46, hn => ⟨fun _ _ => ⟨.inr rfl, fun _ => rfl⟩, fun h => by
    rcases h with h | h
    · exact absurd (fun c hc => by cases hc) h
    · exact absurd rfl h.2.2.2⟩
  | c :: w, n, ah, h46, hn => by
    have hc46 : c ≠ 46 := fun e => h46 (by simp [e])
    have h0 : ¬ (c = 46 ∧ false = false ∧ 0 < ah) := fun h => hc46 h.1
    by_cases hc : dg c = true
    · have hcv := dg_iff.1 hc
      obtain ⟨i1, i2⟩ := rf_whole (z := z) (tail := tail) (w := w) (n := 10 * n + ((c.toNat : Int) - 48)) (ah := ah + 1) (fun h => h46 (List.mem_cons_of_mem _ h)) (by omega)
      have e2 : ah + (c :: w).length = ah + 1 + w.length := by simp; omega
      by_cases hz : ah = 1 ∧ z = true
      · have e : rf z (c :: w ++ tail) n false 0 ah = none := by
          show rf z (c :: (w ++ tail)) n false 0 ah = none
          unfold rf
          rw [if_neg h0, if_pos (.inr (.inl ⟨hz.1, hz.2, rfl⟩))]
        exact ⟨fun _ h => absurd ⟨hz.2, by omega, by simp; omega, by simp⟩ h, fun _ => e⟩
      · by_cases hg : 100000000000000000 < n
        · have e : rf z (c :: w ++ tail) n false 0 ah = none := by
            show rf z (c :: (w ++ tail)) n false 0 ah = none
            unfold rf
            rw [if_neg h0, if_pos (.inr (.inr hg))]
          refine ⟨fun ha _ => ⟨.inl e, fun hle => ?_⟩, fun _ => e⟩
          have := dvn_ge (q := w) (n := 10 * n + ((c.toNat : Int) - 48)) (fun x hx => ha x (List.mem_cons_of_mem _ hx)) (by omega)
          rw [dvn_cons] at hle
          omega
        · have e : rf z (c :: w ++ tail) n false 0 ah = rf z (w ++ tail) (10 * n + ((c.toNat : Int) - 48)) false 0 (ah + 1) := by
            show rf z (c :: (w ++ tail)) n false 0 ah = _
            conv => lhs; unfold rf
            have hno : ¬ (dg c = false ∨ (ah = 1 ∧ z = true ∧ false = false) ∨ 100000000000000000 < n) := by
              rintro (h | h | h)
              · rw [hc] at h; cases h
              · exact hz ⟨h.1, h.2.1⟩
              · exact hg h
            rw [if_neg h0, if_neg hno]
            rfl
          rw [e, e2, dvn_cons]
          refine ⟨fun ha hnz => i1 (fun x hx => ha x (List.mem_cons_of_mem _ hx)) (fun h => hnz ⟨h.1, by omega, by omega, by simp⟩), fun h => i2 ?_⟩
          rcases h with h | h
          · refine .inl (fun hall => h fun x hx => ?_)
            rcases List.mem_cons.1 hx with rfl | hx
            · exact hc
            · exact hall x hx
          · have hne : ah ≠ 1 := fun e => hz ⟨e, h.1⟩
            refine .inr ⟨h.1, by have := h.2.1; omega, by have := h.2.2.1; omega, fun hw => ?_⟩
            subst hw
            have := h.2.2.1
            exact hz ⟨by simp at this; omega, h.1⟩
    · have hc' : dg c = false := by simpa using hc
      have e : rf z (c :: w ++ tail) n false 0 ah = none := by
        show rf z (c :: (w ++ tail)) n false 0 ah = none
        unfold rf
        rw [if_neg h0, if_pos (.inl hc')]
      exact ⟨fun h => absurd (h c (List.mem_cons_self ..)) hc, fun _ => e⟩
def st0 : Nat -> Int -> Int × Nat
  | 0, n => (n, 0)
  | d + 1, n => if n.tmod 10 = 0 then st0 d (n.tdiv 10) else (n, d + 1)
def ofS (n : Int) (d : Nat) : PR := if 6 < (st0 d n).2 ∨ 1000000000000 < (st0 d n).1 ∨ (st0 d n).1 < -1000000000000 then ((0, 0), false) else (((st0 d n).1, ((st0 d n).2 : Int)), true)
theorem of_eq {n : Int} {d : Nat} (hd : d < 256) (h1 : -9223372036854775807 ≤ n) (h2 : n ≤ 9223372036854775807) : qht_ (n, (d : Int), ()) = some ((ofS n d).1, (ofS n d).2, ()) := by
  have key : ∀ (k : Nat) (st : Int × Int × Int × Int), (∃ (m : Int) (e : Nat), st = (m, (e : Int), 0, 0) ∧ e < 256 ∧ -9223372036854775807 ≤ m ∧ m ≤ 9223372036854775807) -> st.2.1.toNat < k ->
      loopF (fun (self : Int × Int × Int × Int -> Option RP) (s : Int × Int × Int × Int) => qgg_ (q8x_ (fun a b c d => self (a, b, c, d))) (fun a b c d => self (a, b, c, d)) s.1 s.2.1 s.2.2.1 s.2.2.2) k st = some ((ofS st.1 st.2.1.toNat).1, (ofS st.1 st.2.1.toNat).2, ()) := by
    refine loopF_eq (σ := Int × Int × Int × Int) (μ := fun st => st.2.1.toNat) (G := fun st => some ((ofS st.1 st.2.1.toNat).1, (ofS st.1 st.2.1.toNat).2, ())) ?_
    rintro self st ⟨m, e, rfl, he, hm1, hm2⟩ ih
    simp only [Int.toNat_natCast] at ih ⊢
    unfold qgg_
    have fin : st0 e m = (m, e) -> q8x_ (fun a b c d => self (a, b, c, d)) m (e : Int) false 0 0 = some ((ofS m e).1, (ofS m e).2, ()) := fun hs => by
      unfold q8x_ qgr_ qgi_ qi5_ ofS
      rw [hs, if_neg (by decide)]
      have bad : qdi_ m (e : Int) true 0 0 = some ((0, 0), false, ()) := rfl
      by_cases h6 : 6 < e
      · rw [if_pos (by rw [q1w_]; omega), bad, if_pos (.inl h6)]
      · rw [if_neg (by rw [q1w_]; omega)]
        by_cases hb : 1000000000000 < m
        · rw [if_pos (by rw [q1w_]; omega), bad, if_pos (.inr (.inl hb))]
        · rw [if_neg (by rw [q1w_]; omega)]
          by_cases hs : m < -1000000000000
          · rw [show lt m (-1000000000000) = true by rw [qb_]; exact hs, bad, if_pos (.inr (.inr hs))]
          · rw [show lt m (-1000000000000) = false by simp [lt]; omega, if_neg (by dsimp only; omega)]
            unfold qdi_ qi6_
            rw [if_neg (by decide)]
            have : cvt .u8 (e : Int) = (e : Int) := wu8 (by omega) (by omega)
            rw [this]
    cases e with
    | zero =>
      rw [if_neg (by decide)]
      exact fin rfl
    | succ e =>
      rw [if_pos (by rw [q1w_]; omega)]
      by_cases hr : m.tmod 10 = 0
      · have e1 : eqi (rem m 10) 0 = true := by rw [qn_]; exact hr
        rw [e1]
        unfold q8x_ qgr_
        rw [if_pos rfl]
        have hq : -9223372036854775807 ≤ m.tdiv 10 ∧ m.tdiv 10 ≤ 9223372036854775807 := by
          rcases Int.le_total 0 m with h0 | h0
          · rw [Int.tdiv_eq_ediv_of_nonneg h0]; omega
          · have : m.tdiv 10 = -((-m).tdiv 10) := by rw [Int.neg_tdiv, Int.neg_neg]
            rw [this, Int.tdiv_eq_ediv_of_nonneg (by omega)]
            omega
        have e2 : quo .i64 m 10 = m.tdiv 10 := w64 (by omega) (by omega)
        have e3 : sub .i64 ((e + 1 : Nat) : Int) 1 = (e : Int) := by rw [sub64 (by omega) (by omega)]; omega
        rw [e2, e3]
        have := ih (m.tdiv 10, (e : Int), 0, 0) ⟨_, e, rfl, by omega, hq.1, hq.2⟩ (by simp)
        refine this.trans ?_
        simp only [Int.toNat_natCast, ofS]
        have e4 : st0 (e + 1) m = st0 e (m.tdiv 10) := by
          show (if m.tmod 10 = 0 then _ else _) = _
          rw [if_pos hr]
        rw [e4]
      · have e1 : eqi (rem m 10) 0 = false := by simpa [eqi, rem] using hr
        rw [e1]
        refine fin ?_
        unfold st0
        rw [if_neg hr]
  have := key 18446744073709551616 (n, (d : Int), 0, 0) ⟨n, d, rfl, hd, h1, h2⟩ (by simp; omega)
  refine Eq.trans this ?_
  simp
theorem st0_val (sg : Bool) (x : Int) (hx : 0 ≤ x) : ∀ (k : Nat) (r : List UInt8), r.length = k -> (∀ c ∈ r, dg c = true) ->
    st0 k (if sg then -(dvn x r) else dvn x r) = ((if sg then -(dvn x (qc_ r)) else dvn x (qc_ r)), (qc_ r).length)
  | 0, r, hl, _ => by
    have : r = [] := List.eq_nil_of_length_eq_zero hl
    subst this
    rfl
  | k + 1, r, hl, hd => by
    rcases snoc_cases r with rfl | ⟨p, c, rfl⟩
    · simp at hl
    · simp at hl
      have hc := hd c (by simp)
      have hcv := dg_iff.1 hc
      have hp : ∀ c ∈ p, dg c = true := fun a ha => hd a (by simp [ha])
      have hge := dvn_ge (n := x) hp hx
      have e : dvn x (p ++ [c]) = 10 * dvn x p + ((c.toNat : Int) - 48) := by rw [dvn_app]; rfl
      have hmod : ∀ y : Int, 0 ≤ y -> (if sg then -y else y).tmod 10 = (if sg then -(y % 10) else y % 10) := fun y hy => by
        cases sg
        · exact Int.tmod_eq_emod_of_nonneg hy
        · show (-y).tmod 10 = -(y % 10)
          rw [Int.neg_tmod, Int.tmod_eq_emod_of_nonneg hy]
      have hdiv : ∀ y : Int, 0 ≤ y -> (if sg then -y else y).tdiv 10 = (if sg then -(y / 10) else y / 10) := fun y hy => by
        cases sg
        · exact Int.tdiv_eq_ediv_of_nonneg hy
        · show (-y).tdiv 10 = -(y / 10)
          rw [Int.neg_tdiv, Int.tdiv_eq_ediv_of_nonneg hy]
      unfold st0
      rw [e, hmod _ (by omega), hdiv _ (by omega)]
      have m1 : (10 * dvn x p + ((c.toNat : Int) - 48)) % 10 = (c.toNat : Int) - 48 := by omega
      have d1 : (10 * dvn x p + ((c.toNat : Int) - 48)) / 10 = dvn x p := by omega
      rw [m1, d1]
      by_cases h48 : c = 48
      · subst h48
        rw [if_pos (by cases sg <;> rfl), stripz_snoc0]
        exact st0_val sg x hx k p hl hp
      · have : c.toNat ≠ 48 := fun h => h48 (UInt8.toNat_inj.1 h)
        rw [if_neg (by cases sg <;> simp <;> omega), stripz_snoc p h48, e]
        simp [hl]
theorem dvn_strip : ∀ (r : List UInt8) (x : Int), (∀ c ∈ r, dg c = true) -> 0 ≤ x -> dvn x r ≤ dvn x (qc_ r) * 10 ^ (r.length - (qc_ r).length) ∧ 0 ≤ dvn x (qc_ r) := by
  intro r
  generalize hk : r.length = k
  induction k generalizing r with
  | zero => 
    intro x _ hx
    have : r = [] := List.eq_nil_of_length_eq_zero hk
    subst this
    exact ⟨by simp [qc_], hx⟩
  | succ k ih =>
    intro x hd hx
    rcases snoc_cases r with rfl | ⟨p, c, rfl⟩
    · simp at hk
    · simp at hk
      have hp : ∀ c ∈ p, dg c = true := fun a ha => hd a (by simp [ha])
      by_cases h48 : c = 48
      · subst h48
        obtain ⟨i1, i2⟩ := ih p hk x hp hx
        rw [stripz_snoc0]
        refine ⟨?_, i2⟩
        have e : dvn x (p ++ [48]) = 10 * dvn x p := by rw [dvn_app]; show 10 * dvn x p + ((48 : Int) - 48) = _; omega
        have hlen := stripz_len p
        have e2 : k + 1 - (qc_ p).length = (k - (qc_ p).length) + 1 := by omega
        rw [e, e2, Int.pow_succ]
        have : dvn x (qc_ p) * (10 ^ (k - (qc_ p).length) * 10) = 10 * (dvn x (qc_ p) * 10 ^ (k - (qc_ p).length)) := by rw [<- Int.mul_assoc, Int.mul_comm]
        omega
      · rw [stripz_snoc p h48]
        have hge := dvn_ge (n := x) hd hx
        refine ⟨by simp [hk], by omega⟩
theorem refEnd_some (below : Bool) (w r : List UInt8) (hw : ∀ c ∈ w, dg c = true) (hr : ∀ c ∈ r, dg c = true) (h6 : r.length ≤ 6) (hN : dvn (dvn 0 w) r ≤ 1000000000000000009) :
    refEnd below (some (dvn (dvn 0 w) r, r.length)) = some ((if 1000000000000 < dvn (dvn 0 w) (qc_ r) then ((0, 0), false) else ((if below then -(dvn (dvn 0 w) (qc_ r)) else dvn (dvn 0 w) (qc_ r), ((qc_ r).length : Int)), true) : PR).1, (if 1000000000000 < dvn (dvn 0 w) (qc_ r) then ((0, 0), false) else ((if below then -(dvn (dvn 0 w) (qc_ r)) else dvn (dvn 0 w) (qc_ r), ((qc_ r).length : Int)), true) : PR).2, ()) := by
  have h0 : (0 : Int) ≤ dvn 0 w := dvn_ge hw (Int.le_refl _)
  have h1 := dvn_ge (n := dvn 0 w) hr h0
  have h2 := dvn_ge (q := qc_ r) (n := dvn 0 w) (fun c hc => hr c (stripz_mem hc)) h0
  have hsl := stripz_len r
  have hv := st0_val below (dvn 0 w) h0 r.length r rfl hr
  have key : ofS (if below then -(dvn (dvn 0 w) r) else dvn (dvn 0 w) r) r.length = (if 1000000000000 < dvn (dvn 0 w) (qc_ r) then ((0, 0), false) else ((if below then -(dvn (dvn 0 w) (qc_ r)) else dvn (dvn 0 w) (qc_ r), ((qc_ r).length : Int)), true) : PR) := by
    unfold ofS
    rw [hv]
    dsimp only
    by_cases hb : 1000000000000 < dvn (dvn 0 w) (qc_ r)
    · rw [if_pos hb]
      cases below
      · rw [if_pos (.inr (.inl hb))]
      · rw [if_pos (.inr (.inr (by simp; omega)))]
    · rw [if_neg hb]
      cases below
      · rw [if_neg (by simp; omega)]
      · rw [if_neg (by simp; omega)]
  rw [<- key]
  show qc8_ q7n_ below _ (r.length : Int) false 0 0 = _
  unfold qc8_
  rw [if_neg (by decide)]
  cases below
  · rw [if_neg (by decide)]
    unfold q7n_ qcw_
    rw [of_eq (by omega) (by omega) (by omega), Option.bind_some]
    rfl
  · rw [if_pos rfl, neg64 (by omega) (by omega)]
    unfold q7n_ qcw_
    rw [of_eq (by omega) (by omega) (by omega), Option.bind_some]
    rfl
theorem big_strip {w r : List UInt8} (hw : ∀ c ∈ w, dg c = true) (hr : ∀ c ∈ r, dg c = true) (h6 : r.length ≤ 6) (hN : 1000000000000000000 < dvn (dvn 0 w) r) : 1000000000000 < dvn (dvn 0 w) (qc_ r) := by
  have h0 : (0 : Int) ≤ dvn 0 w := dvn_ge hw (Int.le_refl _)
  obtain ⟨h1, h2⟩ := dvn_strip r (dvn 0 w) hr h0
  have hp : (10 : Int) ^ (r.length - (qc_ r).length) ≤ 10 ^ 6 := by
    have h' : r.length - (qc_ r).length ≤ 6 := by omega
    generalize r.length - (qc_ r).length = j at h'
    match j, h' with
    | 0, _ => decide
    | 1, _ => decide
    | 2, _ => decide
    | 3, _ => decide
    | 4, _ => decide
    | 5, _ => decide
    | 6, _ => decide
  have := Int.mul_le_mul_of_nonneg_left hp h2
  have e : (10 : Int) ^ 6 = 1000000 := by decide
  rw [e] at this
  omega
theorem refT (below : Bool) (t : List UInt8) : refEnd below (rf (decide (t[0]? = some 48)) t 0 false 0 0) = some ((parseT below t).1, (parseT below t).2, ()) := by
  have main : ∀ (w r : List UInt8) (pt : Bool) (tail : List UInt8), 46 ∉ w -> (pt = false -> r = [] ∧ tail = []) -> (pt = true -> tail = 46 :: r) -> t = w ++ tail -> refEnd below (rf (decide (t[0]? = some 48)) t 0 false 0 0) = some ((q4u_ below w r pt).1, (q4u_ below w r pt).2, ()) := by
    intro w r pt tail h46 hf ht he
    generalize hz : decide (t[0]? = some 48) = z
    obtain ⟨p1, p2⟩ := rf_whole (z := z) (tail := tail) (w := w) (n := 0) (ah := 0) h46 (Int.le_refl _)
    rw [<- he] at p1 p2
    unfold q4u_
    have hbadw : (digs w = false ∨ (1 < w.length ∧ w[0]? = some 48)) -> rf z t 0 false 0 0 = none := fun h => by
      by_cases hw : w = []
      · subst hw
        simp at he
        subst he
        cases pt
        · rw [(hf rfl).2]; rfl
        · rw [ht rfl]
          unfold rf
          rw [if_neg (by simp), if_pos (.inl rfl)]
      · apply p2
        by_cases hall : ∀ c ∈ w, dg c = true
        · right
          have hd : digs w = true := digs_iff.2 ⟨hall, hw⟩
          rcases h with h | h
          · rw [hd] at h; cases h
          · refine ⟨?_, by omega, by omega, hw⟩
            rw [<- hz, he]
            cases w with
            | nil => exact absurd rfl hw
            | cons a b => simpa using h.2
        · exact .inl hall
    by_cases hbw : digs w = false ∨ (1 < w.length ∧ w[0]? = some 48)
    · rw [if_pos hbw, hbadw hbw]
      rfl
    · rw [if_neg hbw]
      have hdw : digs w = true := by
        cases h : digs w
        · exact absurd (.inl h) hbw
        · rfl
      obtain ⟨hw, hwne⟩ := digs_iff.1 hdw
      have hwl : 0 < w.length := List.length_pos_iff.2 hwne
      have h0 : (0 : Int) ≤ dvn 0 w := dvn_ge hw (Int.le_refl _)
      obtain ⟨q1, q2⟩ := p1 hw (fun h => by
        refine hbw (.inr ⟨by have := h.2.2.1; omega, ?_⟩)
        have := h.1
        rw [<- hz, he] at this
        cases w with
        | nil => exact absurd rfl hwne
        | cons a b => simpa using this)
      rw [Nat.zero_add] at q1 q2
      have fin : (∀ c ∈ r, dg c = true) -> r.length ≤ 6 -> ((rf z t 0 false 0 0 = none ∧ 1000000000000000000 < dvn (dvn 0 w) r) ∨ rf z t 0 false 0 0 = some (dvn (dvn 0 w) r, r.length)) -> refEnd below (rf z t 0 false 0 0) = some ((if 1000000000000 < dvn (dvn 0 w) (qc_ r) then ((0, 0), false) else ((if below then -(dvn (dvn 0 w) (qc_ r)) else dvn (dvn 0 w) (qc_ r), ((qc_ r).length : Int)), true) : PR).1, (if 1000000000000 < dvn (dvn 0 w) (qc_ r) then ((0, 0), false) else ((if below then -(dvn (dvn 0 w) (qc_ r)) else dvn (dvn 0 w) (qc_ r), ((qc_ r).length : Int)), true) : PR).2, ()) := fun hr h6 h => by
        rcases h with ⟨h, hN⟩ | h
        · rw [h, if_pos (big_strip hw hr h6 hN)]
          rfl
        · have := rf_bound h (by decide)
          rw [h]
          exact refEnd_some below w r hw hr h6 this.1
      cases pt
      · obtain ⟨rfl, rfl⟩ := hf rfl
        rw [if_neg (by simp)]
        refine fin (fun c hc => by cases hc) (by simp) ?_
        have e : rf z [] (dvn 0 w) false 0 w.length = some (dvn 0 w, 0) := by
          unfold rf
          rw [if_neg (by simp; omega)]
        rw [e] at q1 q2
        by_cases hN : dvn 0 w ≤ 1000000000000000000
        · exact .inr (q2 hN)
        · rcases q1 with h | h
          · exact .inl ⟨h, by rw [dvn_nil]; omega⟩
          · exact .inr h
      · have htl := ht rfl
        subst htl
        have e : rf z (46 :: r) (dvn 0 w) false 0 w.length = rf z r (dvn 0 w) true 0 w.length := by
          conv => lhs; unfold rf
          rw [if_pos ⟨rfl, rfl, hwl⟩]
        rw [e] at q1 q2
        obtain ⟨f1, f2⟩ := rf_frac (z := z) (r := r) (n := dvn 0 w) (bh := 0) (ah := w.length) hwl h0
        rw [Nat.zero_add] at f1
        have nn : rf z r (dvn 0 w) true 0 w.length = none -> rf z t 0 false 0 0 = none := fun h => by
          rcases q1 with h' | h'
          · exact h'
          · rw [h', h]
        by_cases hr : digs r = false ∨ 6 < r.length
        · rw [if_pos ⟨rfl, hr⟩]
          have : rf z t 0 false 0 0 = none := by
            apply nn
            by_cases hall : ∀ c ∈ r, dg c = true
            · obtain ⟨g1, g2⟩ := f1 hall
              have hc : r.length = 0 ∨ 6 < r.length := by
                rcases hr with hr | hr
                · left
                  by_cases hne : r = []
                  · simp [hne]
                  · rw [digs_iff.2 ⟨hall, hne⟩] at hr; cases hr
                · exact .inr hr
              rw [if_pos hc] at g1
              exact g1.elim id id
            · exact f2 hall
          rw [this]
          rfl
        · rw [if_neg (fun h => hr h.2)]
          have hdr : digs r = true := by
            cases h : digs r
            · exact absurd (.inl h) hr
            · rfl
          obtain ⟨hrd, hrne⟩ := digs_iff.1 hdr
          have h6 : r.length ≤ 6 := by omega
          have hpos : 0 < r.length := List.length_pos_iff.2 hrne
          obtain ⟨g1, g2⟩ := f1 hrd
          rw [if_neg (by omega)] at g1 g2
          have hge := dvn_ge (n := dvn 0 w) hrd h0
          refine fin hrd h6 ?_
          by_cases hN : dvn (dvn 0 w) r ≤ 1000000000000000000
          · right
            rw [q2 (by omega), g2 hN]
          · rcases g1 with h | h
            · exact .inl ⟨nn h, by omega⟩
            · rcases q1 with h' | h'
              · exact .inl ⟨h', by omega⟩
              · right
                rw [h', h]
  rcases split_at 46 t with h46 | ⟨p, q, e, h46⟩
  · rw [parseT_no h46]
    exact main t [] false [] h46 (fun _ => ⟨rfl, rfl⟩) (fun h => by cases h) (by simp)
  · rw [e, parseT_yes h46, <- e]
    exact main p q true (46 :: q) h46 (fun h => by cases h) (fun _ => rfl) e
theorem refParse_eq {s : List UInt8} (hl : s.length < 1000000) : qdj_ (s, ()) = some ((parseS s).1, (parseS s).2, ()) := by
  have go : ∀ (t : List UInt8) (below : Bool), t.length < 1000000 -> qcv_ t below 0 0 = some ((parseT below t).1, (parseT below t).2, ()) := fun t below ht => by
    rw [<- refT]
    have := ref_loop t below ht 18446744073709551616 (t, below, 0, false, 0, 0, 0, 0, 0) ⟨0, false, 0, 0, 0, rfl, by omega, by omega, by omega, by omega⟩ (by simp; omega)
    exact this
  show qct_ q7j_ s = _
  unfold qct_
  cases s with
  | nil =>
    rw [if_neg (by decide)]
    exact go [] false (by simp)
  | cons a q =>
    rw [if_pos (by rw [q1w_, q0_]; simp), at_zero, Option.bind_some]
    by_cases ha : a = 45
    · rw [(q34_ 45).2 ha]
      unfold q7j_ qbt_
      rw [if_pos rfl, cut_one, Option.bind_some]
      have : parseS (a :: q) = parseT true q := by simp [parseS, ha]
      rw [this]
      exact go q true (by simp at hl; omega)
    · have : eqi (Int.ofNat a.toNat) 45 = false := by
        cases h : eqi (Int.ofNat a.toNat) 45
        · rfl
        · exact absurd ((q34_ 45).1 h) ha
      rw [this]
      unfold q7j_ qbt_
      rw [if_neg (by decide)]
      have : parseS (a :: q) = parseT false (a :: q) := by simp [parseS, ha]
      rw [this]
      exact go (a :: q) false hl
end Go.Proofs.Lx
end
section
namespace Go.Proofs.Lx
open Go Ev Sx Pl
set_option maxRecDepth 10000
abbrev Tk1 := Int × List UInt8 × (Int × Int) × Int
def kd (c : UInt8) : Int := if w1 c.toNat then 1 else if n1 c.toNat then 2 else if e1 c.toNat then 3 else 0
theorem excl3 (c : UInt8) : (w1 c.toNat = true -> n1 c.toNat = false ∧ e1 c.toNat = false) ∧ (n1 c.toNat = true -> e1 c.toNat = false) := by
  have := all8 (p := fun n => (!(w1 n) || (!(n1 n) && !(e1 n))) && (!(n1 n) || !(e1 n))) (by kernel_rfl) c
  constructor
  · intro h; simp [h] at this; exact this.1
  · intro h; simp [h] at this; exact this.2
theorem amb_kind (j2 : Int -> TL -> Option RL) (j3 : Int -> List UInt8 -> TL -> Int -> List UInt8 -> Int -> Int -> Int -> Option RL) (self1 : Int -> List UInt8 -> TL -> Option RL) (a : Int) (t : List UInt8) (c : UInt8) (q : List UInt8) (l : TL)
    (ht : strings_TrimLeft (t, [9, 13, 32], ()) = some (c :: q, ())) : q4s_ j2 j3 self1 a t l = j3 a (c :: q) l (kd c) [] 0 0 a := by
  have e4 : eqs (c :: q) [] = false := rfl
  have hr : ∀ x, eqAs q1e_.rs x x = true := eqAs_refl _
  obtain ⟨x1, x2⟩ := excl3 c
  unfold q4s_ kd
  rw [ht, Option.bind_some]
  have e1 : q13_ (Int.ofNat c.toNat, ()) = some (w1 c.toNat, ()) := qha_ c
  have e2 : qz_ (Int.ofNat c.toNat, ()) = some (n1 c.toNat, ()) := qhd_ c
  have e3 : q12_ (Int.ofNat c.toNat, ()) = some (Lx.e1 c.toNat, ()) := qhb_ c
  simp only [e4, Bool.false_eq_true, if_false, at_zero, Option.bind_some]
  rw [e1, e2, e3]
  simp only [Option.bind_some]
  cases hw : w1 c.toNat
  · cases hn : n1 c.toNat
    · cases he : Lx.e1 c.toNat
      · simp only [Bool.false_eq_true, if_false, if_true]
        rw [amb2 hr]
        exact amb3 hr _
      · simp only [Bool.false_eq_true, if_false, if_true]
        rw [amb2 hr]
        exact amb3 hr _
    · have he := x2 hn
      rw [he]
      simp only [Bool.false_eq_true, if_false, if_true]
      rw [amb2 hr]
      exact amb3 hr _
  · obtain ⟨hn, he⟩ := x1 hw
    rw [hn, he]
    simp only [Bool.false_eq_true, if_false, if_true]
    rw [amb2 hr]
    exact amb3 hr _
def moreK (k : Int) (n : Nat) : Bool := if k = 1 then wm n else if k = 2 then nm n else false
theorem c1n_step (g : Int -> List UInt8 -> Option (As [.str, .str])) (n : Int) (t : List UInt8) : qag_ (q7s_ g) g n t = if lt n (Int.ofNat t.length) = true then (at? t n).bind fun c => (q3t_ (Int.ofNat c.toNat, ())).bind fun y => if y.1 = true then g (add .i64 n 1) t else q60_ n t else q60_ n t := rfl
theorem c1n_app (p q : List UInt8) : q60_ (p.length : Int) (p ++ q) = some (p, q, ()) := by
  unfold q60_
  rw [cut_app0, Option.bind_some, cut_app1, Option.bind_some]
theorem c1n_loop : ∀ (q p : List UInt8) (n : Nat), q.length < n -> p.length + q.length < 1000000 ->
    loopF (fun (self : Int × List UInt8 -> Option (As [.str, .str])) (s : Int × List UInt8) => qag_ (q7s_ (fun n t1 => self (n, t1))) (fun n t1 => self (n, t1)) s.1 s.2) n ((p.length : Int), p ++ q) =
      some (p ++ q.takeWhile (fun c => nm c.toNat), q.dropWhile (fun c => nm c.toNat), ())
  | q, p, 0, h, _ => by omega
  | [], p, n + 1, h, hl => by
    have h1 : lt (p.length : Int) (Int.ofNat (p ++ []).length) = false := by simp [lt]
    refine (c1n_step _ _ _).trans ?_
    rw [if_neg (by rw [h1]; decide), c1n_app]
    simp
  | c :: q, p, n + 1, h, hl => by
    have h1 : lt (p.length : Int) (Int.ofNat (p ++ c :: q).length) = true := by simp [lt]; omega
    have ih := c1n_loop q (p ++ [c]) n (by simp at h; omega) (by simp at hl ⊢; omega)
    refine (c1n_step _ _ _).trans ?_
    rw [if_pos h1, at_app, Option.bind_some, qjr_, Option.bind_some]
    cases hb : nm c.toNat
    · simp only [Bool.false_eq_true, if_false, c1n_app, List.takeWhile_cons, List.dropWhile_cons, hb, List.append_nil]
    · have ha : add .i64 (p.length : Int) 1 = ((p ++ [c]).length : Int) := by
        unfold add
        rw [w64 (by omega) (by simp at hl; omega)]
        simp
      have e : p ++ c :: q = (p ++ [c]) ++ q := by simp
      simp only [if_true, ha, List.takeWhile_cons, List.dropWhile_cons, hb]
      rw [e, ih]
      simp
theorem c1n_eq (c : UInt8) (q : List UInt8) (h : q.length < 100000) : qar_ (c :: q, ()) = some (c :: q.takeWhile (fun c => nm c.toNat), q.dropWhile (fun c => nm c.toNat), ()) :=
  c1n_loop q [c] 18446744073709551616 (by omega) (by simp; omega)
theorem c1e_eq (c : UInt8) (q : List UInt8) : qat_ (c :: q, ()) = some ([c], q, ()) := by
  have hm3 : qaf_ 1 (c :: q) = some ([c], q, ()) := by
    unfold qaf_
    have h1 : cut (c :: q) 0 1 = some [c] := cut_app0 [c] q
    rw [h1, Option.bind_some, cut_one, Option.bind_some]
  have step : ∀ (g : Int -> List UInt8 -> Option (As [.str, .str])), qah_ (q5r_ g) g 1 (c :: q) = some ([c], q, ()) := fun g => by
    unfold qah_
    have hK : q5r_ g 1 false (c :: q) = some ([c], q, ()) := by
      unfold q5r_ qeo_
      rw [if_neg (by decide)]
      exact hm3
    have hf : ∀ x, q54_ (x, ()) = some (false, ()) := fun x => rfl
    cases q with
    | nil => rw [if_neg (by simp [lt])]; exact hK
    | cons d r =>
      rw [if_pos (by rw [qb_, q0_]; simp; omega), show at? (c :: d :: r) 1 = some d from rfl, Option.bind_some, hf, Option.bind_some]
      exact hK
  exact step _
def tokS (a : Int) (c : UInt8) (q : List UInt8) : Int ⊕ (Tk1 × List UInt8) :=
  if w1 c.toNat then (if 20 < (c :: q.takeWhile (fun c => wm c.toNat)).length then .inl 133 else .inr ((1, c :: q.takeWhile (fun c => wm c.toNat), (0, 0), a), q.dropWhile (fun c => wm c.toNat)))
  else if n1 c.toNat then (if (parseS (c :: q.takeWhile (fun c => nm c.toNat))).2 = true then .inr ((2, c :: q.takeWhile (fun c => nm c.toNat), (parseS (c :: q.takeWhile (fun c => nm c.toNat))).1, a), q.dropWhile (fun c => nm c.toNat)) else .inl 132)
  else if e1 c.toNat then .inr ((3, [c], (0, 0), a), q)
  else .inl 131
theorem tokS_len {a : Int} {c : UInt8} {q : List UInt8} {t : Tk1} {r : List UInt8} (h : tokS a c q = .inr (t, r)) : r.length ≤ q.length := by
  have hd : ∀ p : UInt8 -> Bool, (q.dropWhile p).length ≤ q.length := fun p => (List.dropWhile_suffix p).length_le
  unfold tokS at h
  split at h
  · split at h
    · cases h
    · cases h; exact hd _
  · split at h
    · split at h
      · cases h; exact hd _
      · cases h
    · split at h
      · cases h; exact Nat.le_refl _
      · cases h
theorem line_tok (self : Int × List UInt8 × TL -> Option RL) (a : Int) (t : List UInt8) (c : UInt8) (q : List UInt8) (l : TL) (ht : strings_TrimLeft (t, [9, 13, 32], ()) = some (c :: q, ())) (hq : q.length < 100000) (hl : l.length < 1000000) :
    lineB self (a, t, l) = match tokS a c q with
      | .inl e => some ([], e, ())
      | .inr (tk, r) => self (a, r, l ++ [tk]) := by
  refine (amb_kind _ _ _ a t c q l ht).trans ?_
  have hs : small (l.length + 1) = true := small_iff.2 (by omega)
  unfold q8z_ qgl_ kd tokS
  cases hw : w1 c.toNat
  · cases hn : n1 c.toNat
    · cases he : Lx.e1 c.toNat
      · rfl
      · simp only [Bool.false_eq_true, if_false, if_true]
        rw [if_neg (by decide), if_neg (by decide), if_pos (by decide), c1e_eq, Option.bind_some]
        unfold q9i_ qhc_
        simp only [Option.bind_some]
        rw [if_neg (by decide), need_t hs]
    · simp only [Bool.false_eq_true, if_false, if_true]
      rw [if_neg (by decide), if_pos (by decide), c1n_eq c q hq, Option.bind_some]
      have hlen : (c :: q.takeWhile (fun c => nm c.toNat)).length < 1000000 := by
        have := (List.takeWhile_prefix (l := q) (fun c => nm c.toNat)).length_le
        simp; omega
      generalize c :: q.takeWhile (fun c => nm c.toNat) = u at hlen ⊢
      unfold qf6_ qis_
      simp only
      rw [parse_eq hlen, Option.bind_some]
      cases hp : (parseS u).2
      · simp only [Bool.not_false, if_true, Option.bind_some, Bool.false_eq_true, if_false]
        rw [if_pos (by decide)]
      · simp only [Bool.not_true, if_true, Option.bind_some, Bool.false_eq_true, if_false]
        rw [if_neg (by decide), need_t hs]
  · simp only [if_true]
    rw [if_pos (by decide), qid_ c q hq, Option.bind_some]
    generalize c :: q.takeWhile (fun c => wm c.toNat) = u
    unfold qg2_ qi4_
    by_cases h : 20 < u.length
    · have h2 : gt (Int.ofNat u.length) 20 = true := by simp [gt]; omega
      simp only [h2, if_true, Option.bind_some, if_pos h]
      rw [if_pos (by decide)]
    · have h2 : gt (Int.ofNat u.length) 20 = false := by simp [gt]; omega
      simp only [h2, Bool.false_eq_true, if_false, Option.bind_some, if_neg h]
      rw [if_neg (by decide), need_t hs]
def lineT (a : Int) (s : List UInt8) (l : TL) : TL × Int :=
  match h : s.dropWhile (fun c => isB c.toNat) with
  | [] => (if l = [] then [] else l ++ [(4, [], (0, 0), a)], 0)
  | c :: q => match h2 : tokS a c q with
    | .inl e => ([], e)
    | .inr (t, r) => lineT a r (l ++ [t])
termination_by s.length
decreasing_by
  have h1 := tokS_len h2
  have h3 := (List.dropWhile_suffix (l := s) (fun c => isB c.toNat)).length_le
  rw [h] at h3
  simp at h3
  omega
theorem lineT_nil {a : Int} {s : List UInt8} {l : TL} (h : s.dropWhile (fun c => isB c.toNat) = []) : lineT a s l = (if l = [] then [] else l ++ [(4, [], (0, 0), a)], 0) := by
  rw [lineT]
  split
  · rfl
  · rename_i h2; rw [h] at h2; cases h2
theorem lineT_err {a : Int} {s : List UInt8} {l : TL} {c : UInt8} {q : List UInt8} {e : Int} (h : s.dropWhile (fun c => isB c.toNat) = c :: q) (h2 : tokS a c q = .inl e) : lineT a s l = ([], e) := by
  rw [lineT]
  split
  · rename_i h3; rw [h] at h3; cases h3
  · rename_i c' q' h3
    rw [h] at h3
    cases h3
    split
    · rename_i e' h4; rw [h2] at h4; cases h4; rfl
    · rename_i h4; rw [h2] at h4; cases h4
theorem lineT_tok {a : Int} {s : List UInt8} {l : TL} {c : UInt8} {q : List UInt8} {t : Tk1} {r : List UInt8} (h : s.dropWhile (fun c => isB c.toNat) = c :: q) (h2 : tokS a c q = .inr (t, r)) : lineT a s l = lineT a r (l ++ [t]) := by
  rw [lineT]
  split
  · rename_i h3; rw [h] at h3; cases h3
  · rename_i c' q' h3
    rw [h] at h3
    cases h3
    split
    · rename_i e' h4; rw [h2] at h4; cases h4
    · rename_i t' r' h4; rw [h2] at h4; cases h4; rfl
theorem line_loop : ∀ (n : Nat) (st : Int × List UInt8 × TL), (st.2.1.length < 90000 ∧ st.2.2.length + st.2.1.length < 100000) -> st.2.1.length < n -> loopF lineB n st = some ((lineT st.1 st.2.1 st.2.2).1, (lineT st.1 st.2.1 st.2.2).2, ()) := by
  refine loopF_eq (σ := Int × List UInt8 × TL) (μ := fun st => st.2.1.length) (G := fun st => some ((lineT st.1 st.2.1 st.2.2).1, (lineT st.1 st.2.1 st.2.2).2, ())) ?_
  rintro self ⟨a, s, l⟩ ⟨h1, h2⟩ ih
  simp only at h1 h2 ih ⊢
  have h3 := (List.dropWhile_suffix (l := s) (fun c => isB c.toNat)).length_le
  have ht := strings_TrimLeft_eq (s := s) (by omega)
  cases hd : s.dropWhile (fun c => isB c.toNat) with
  | nil =>
    rw [lineT_nil hd]
    rw [hd] at ht
    show q4s_ _ _ _ a s l = _
    unfold q4s_
    rw [ht, Option.bind_some, if_pos (by decide)]
    unfold qb0_ qgt_
    cases l with
    | nil => rfl
    | cons x y =>
      rw [if_pos (by rw [q1w_, q0_]; simp), qi_ (by simp at h2 ⊢; omega)]
      rfl
  | cons c q =>
    rw [hd] at ht h3
    simp at h3
    rw [line_tok self a s c q l ht (by omega) (by omega)]
    cases h4 : tokS a c q with
    | inl e => rw [lineT_err hd h4]
    | inr p =>
      obtain ⟨t, r⟩ := p
      rw [lineT_tok hd h4]
      have h5 := tokS_len h4
      exact ih (a, r, l ++ [t]) ⟨by show r.length < _; omega, by show (l ++ [t]).length + r.length < _; simp; omega⟩ (by show r.length < _; omega)
def uncom (s : List UInt8) : List UInt8 := s.takeWhile (· != 35)
theorem line_eq (s : List UInt8) (n : Int) (h : s.length < 80000) : q6n_ (s, n, ()) = some ((lineT n (uncom s) []).1, (lineT n (uncom s) []).2, ()) := by
  show qb1_ qb2_ s n = _
  unfold qb1_
  have go : ∀ t : List UInt8, t.length < 80000 -> qb2_ n t [] = some ((lineT n t []).1, (lineT n t []).2, ()) := fun t ht => line_loop 18446744073709551616 (n, t, []) ⟨by show t.length < _; omega, by show ([] : TL).length + t.length < _; simp; omega⟩ (by show t.length < _; omega)
  by_cases he : s = [35]
  · subst he
    rw [if_pos (by decide), show cut ([35] : List UInt8) 1 (Int.ofNat [(35 : UInt8)].length) = some [] from rfl, Option.bind_some]
    exact go [] (by simp)
  · rw [if_neg (by rw [q3x_]; exact fun h => he h.symm)]
    rcases split_at 35 s with h35 | ⟨p, q, rfl, h35⟩
    · rw [index_no 35 s h35, if_neg (by decide)]
      have : uncom s = s := (tw_no h35).1
      rw [this]
      exact go s h
    · simp at h
      rw [index_yes 35 p q h35, if_pos (by rw [ge_iff]; omega), cut_app0, Option.bind_some, q1a_ (by omega), cut_from (by simp), Option.bind_some]
      have : uncom (p ++ 35 :: q) = p := (tw_yes h35).1
      rw [this]
      exact go p (by omega)
end Go.Proofs.Lx
end
section
namespace Go.Proofs.Lx
open Go Ev Sx Pl
set_option maxRecDepth 10000
abbrev LR := As [.sl (.pr (.int .u8) (.pr .str (.pr (.pr (.int .i64) (.int .u8)) (.int .i64)))), .pr (.int .i64) (.int .i64)]
abbrev lexB (self : (List UInt8) × Int × Int × Int × TL -> Option LR) (s : (List UInt8) × Int × Int × Int × TL) : Option LR :=
  qai_ (qhf_) (fun text n t3 t3_2 l => self (text, n, t3, t3_2, l)) s.1 s.2.1 s.2.2.1 s.2.2.2.1 s.2.2.2.2
theorem qsj_ (self : (List UInt8) × Int × Int × Int × TL -> Option LR) (t : List UInt8) (n : Int) (l : TL) (hne : t ≠ []) (h10 : ∀ b ∈ t, b ≠ 10) {tk : TL} {e : Int} (h : q6n_ (t, n, ()) = some (tk, e, ())) :
    lexB self (t, n, 0, 0, l) = if nei e 0 = true then some ([], (e, n), ()) else need (small (l.length + tk.length)) (self ([], add .i64 n 1, 0, 0, l ++ tk)) := by
  show qai_ _ _ t n 0 0 l = _
  unfold qai_
  have e1 : nes t [] = true := by simp [nes, hne]
  have e2 : eqs [10] t = false := by
    cases t with
    | nil => exact absurd rfl hne
    | cons a q =>
      have := h10 a (List.mem_cons_self ..)
      simp [eqs]
      intro e
      exact absurd e.symm this
  have e3 : ge (Go.Lib.indexByte t 10) 0 = false := by rw [index_nb 10 t h10]; rfl
  simp only [e1, e2, e3, Bool.false_eq_true, if_false, if_true]
  rw [h, Option.bind_some]
theorem qsl_ (self : (List UInt8) × Int × Int × Int × TL -> Option LR) (n : Int) (l : TL) : lexB self ([], n, 0, 0, l) = some (l, (0, 0), ()) := rfl
theorem lex_in (t : List UInt8) : qd4_ t 1 0 0 [] = loopF lexB (18446744073709551614 + 1 + 1) (t, 1, 0, 0, []) := rfl
theorem qs9_ {t : List UInt8} (hne : t ≠ []) (h10 : ∀ b ∈ t, b ≠ 10) (hl : t.length ≤ 8192) {tk : TL} {e : Int} (h : q6n_ (t, 1, ()) = some (tk, e, ())) (htk : tk.length < 1000) :
    qga_ (t, ()) = if nei e 0 = true then some ([], (e, 1), ()) else some (tk, (0, 0), ()) := by
  show qby_ qd4_ t = _
  unfold qby_
  have e1 : gt (Int.ofNat t.length) 8192 = false := by simp [gt]; omega
  simp only [e1, Bool.false_eq_true, if_false]
  rw [lex_in, q1t_, qsj_ _ t 1 [] hne h10 h]
  split
  · rfl
  · have h4 : small (([] : TL).length + tk.length) = true := decide_eq_true (by simp; omega)
    rw [need, if_pos h4, q1t_, qsl_, List.nil_append]
theorem lex1 {w : List UInt8} (h : Word w) : qga_ (w, ()) = if 20 < w.length then some ([], (133, 1), ()) else some ([(1, w, (0, 0), 1), (4, [], (0, 0), 1)], (0, 0), ()) := by
  have hne : w ≠ [] := by obtain ⟨c, q, rfl, _⟩ := h.first; simp
  have hl := h.len
  by_cases h20 : 20 < w.length
  · have := line1 h 1
    rw [if_pos h20] at this
    rw [qs9_ hne h.no.2 (by omega) this (by simp), if_pos h20]
    rfl
  · have := line1 h 1
    rw [if_neg h20] at this
    rw [qs9_ hne h.no.2 (by omega) this (by simp), if_neg h20]
    rfl
end Go.Proofs.Lx
end
