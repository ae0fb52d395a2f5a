/- Proved in the last of these 11 parts (this is part 10): the law RecipeBack of chapter 14 returns true at every recipe and every text. Conditions: those of the given statement, and no others. -/
import Derived.Test.YtnamnibaedolaaaGreatDoorParti
import Derived.Test.YtnamnibaedolaaaGreatDoorParte
import Derived.Test.YtnamnibaedolaaaGreatDoorProg
import Derived.Stop.LaidErr
import Derived.Lib.LaidTab
set_option linter.unusedVariables false
set_option linter.unusedSimpArgs false
set_option linter.unusedSectionVars false
section
namespace Go.Proofs.Lx
open Go Ev Sx Pl
set_option maxRecDepth 10000
def headB (ts : TL) (w : List UInt8) : Bool := match ts with
  | [x, y] => eqi x.1 1 && (eqs x.2.1 w && (eqi y.1 1 && nameB y.2.1))
  | _ => false
def isEnd (ts : TL) : Bool := match ts with
  | [x] => eqi x.1 1 && eqs x.2.1 sEnd
  | _ => false
def setOf (a : Int) (ts : TL) : Option TSet := match ts with
  | [x, y, z] => if x.1 = 1 ∧ nameB x.2.1 = true ∧ y.1 = 3 ∧ z.1 = 2 then some (x.2.1, z.2.2.1, [], a) else none
  | [x, y, z, u] => if x.1 = 1 ∧ nameB x.2.1 = true ∧ y.1 = 3 ∧ z.1 = 2 ∧ u.1 = 1 then some (x.2.1, z.2.2.1, u.2.1, a) else none
  | _ => none
abbrev PRes := TRec × (Int × Int)
def pFail (e a : Int) : PRes := (([], []), (e, a))
def second (ts : TL) : List UInt8 := match ts with
  | _ :: y :: _ => y.2.1
  | _ => []
def pB : List (TL × Int) -> Bool -> List UInt8 -> Bool -> List TPart -> List UInt8 -> Int -> List TSet -> PRes
  | [], w, nm, oo, o, ol, ol2, o2 => if w = true then pFail 140 0 else ((nm, if oo = true then o ++ [(ol, ol2, o2)] else o), (0, 0))
  | (ts, a) :: rs, true, nm, oo, o, ol, ol2, o2 =>
    if isEnd ts = true then pB rs false nm oo o ol ol2 o2 else match setOf a ts with
      | none => pFail 140 a
      | some s => if o2.length = 64 then pFail 130 a else pB rs true nm oo o ol ol2 (o2 ++ [s])
  | (ts, a) :: rs, false, nm, oo, o, ol, ol2, o2 =>
    if headB ts sSlv = false then pFail 140 a else if (if oo = true then o.length + 1 else o.length) = 8 then pFail 130 a
    else pB rs true nm true (if oo = true then o ++ [(ol, ol2, o2)] else o) (second ts) a []
def pS : List (TL × Int) -> PRes
  | [] => pFail 140 0
  | (ts, a) :: rs => if headB ts sRec = false then pFail 140 a else pB rs false (second ts) false [] [] 0 []
def parseR (s : List UInt8) (rs : List (TL × Int)) : PRes := if (lexR s).2.1 = 0 then pS rs else (([], []), (lexR s).2)
abbrev RPs := Option (As [.pr .str (.sl QCT0), .pr (.int .i64) (.int .i64)])
def pR (p : PRes) : RPs := some (p.1, p.2, ())
theorem at_1 {α : Type} (x y : α) (q : List α) : at? (x :: y :: q) 1 = some y := rfl
theorem at_2 {α : Type} (x y z : α) (q : List α) : at? (x :: y :: z :: q) 2 = some z := rfl
theorem at_3 {α : Type} (x y z u : α) (q : List α) : at? (x :: y :: z :: u :: q) 3 = some u := rfl
theorem needT {β : Type} {k : Option β} : need true k = k := rfl
theorem names_eq {ts : TL} {w : List UInt8} : q83_ (ts, w, ()) = some (headB ts w, ()) := by
  show q9p_ ts w = _
  unfold q9p_
  match ts with
  | [] => rfl
  | [x] => rfl
  | [x, y] =>
    rw [if_pos (show eqi (Int.ofNat [x, y].length) 2 = true from rfl), at_zero, at_1]
    simp only [Option.bind_some]
    unfold headB
    dsimp only
    cases eqi x.1 1
    · rfl
    · cases eqs x.2.1 w
      · rfl
      · cases hy : eqi y.1 1
        · rfl
        · rw [name_eq]
          rfl
  | x :: y :: z :: q =>
    rw [if_neg (show ¬ eqi (Int.ofNat (x :: y :: z :: q).length) 2 = true by rw [q2k_, q4_]; simp only [List.length_cons]; omega)]
    rfl
def parseT2 (j2 : List UInt8 -> Int × Int -> Int -> List UInt8 -> Bool -> List (List UInt8 × Int × List QCT1) -> List UInt8 -> Int -> List QCT1 -> Option (As [.pr .str (.sl QCT0), .pr (.int .i64) (.int .i64)])) (self1 : List QCT2 -> Int -> List QCT2 -> Int -> Int -> List UInt8 -> Int × Int -> Int -> List UInt8 -> Bool -> List (List UInt8 × Int × List QCT1) -> List UInt8 -> Int -> List QCT1 -> Option (As [.pr .str (.sl QCT0), .pr (.int .i64) (.int .i64)])) (tokens : List QCT2) (from' : Int) (t23 : List QCT2) (t24 t25 : Int) (t2 : List UInt8) (t3 : Int × Int) (p : Int) (p_2 : List UInt8) (o_o : Bool) (o : List (List UInt8 × Int × List QCT1)) (o_l : List UInt8) (o_l_2 : Int) (o_2 : List QCT1) (y : QCT2) (y_1 : List QCT2) : Option (As [.pr .str (.sl QCT0), .pr (.int .i64) (.int .i64)]) :=
  if nei (Int.ofNat (List.length y_1)) 3 = true then if nei (Int.ofNat (List.length y_1)) 4 = true then some (([], []), (140, y.snd.snd.snd), ()) else Option.bind (at? y_1 0) fun (y_2 : Int × List UInt8 × (Int × Int) × Int) => if nei y_2.fst 1 = true then some (([], []), (140, y.snd.snd.snd), ()) else Option.bind (at? y_1 0) fun (y_3 : Int × List UInt8 × (Int × Int) × Int) => Option.bind (q1q_ (y_3.snd.fst, ())) fun (y_4 : Bool × Unit) => if (!y_4.fst) = true then some (([], []), (140, y.snd.snd.snd), ()) else Option.bind (at? y_1 1) fun (y_5 : Int × List UInt8 × (Int × Int) × Int) => if nei y_5.fst 3 = true then some (([], []), (140, y.snd.snd.snd), ()) else Option.bind (at? y_1 2) fun (y_6 : Int × List UInt8 × (Int × Int) × Int) => if nei y_6.fst 2 = true then some (([], []), (140, y.snd.snd.snd), ()) else Option.bind (at? y_1 0) fun (y_7 : Int × List UInt8 × (Int × Int) × Int) => Option.bind (at? y_1 2) fun (y_8 : Int × List UInt8 × (Int × Int) × Int) => Option.bind (at? y_1 0) fun (y_9 : Int × List UInt8 × (Int × Int) × Int) => if eqi (Int.ofNat (List.length y_1)) 4 = true then Option.bind (at? y_1 3) fun (y_10 : Int × List UInt8 × (Int × Int) × Int) => if nei y_10.fst 1 = true then some (([], []), (140, y.snd.snd.snd), ()) else Option.bind (at? y_1 3) fun (y_11 : Int × List UInt8 × (Int × Int) × Int) => need o_o (need (eqi (Sx.sub .i64 (if o_o = true then Int.ofNat (List.length o + 1) else Int.ofNat (List.length o)) 1) (Int.ofNat (List.length o))) (need o_o (need (eqi (Sx.sub .i64 (if o_o = true then Int.ofNat (List.length o + 1) else Int.ofNat (List.length o)) 1) (Int.ofNat (List.length o))) (if eqi (Int.ofNat (List.length o_2)) 64 = true then some (([], []), (130, y.snd.snd.snd), ()) else need o_o (need (eqi (Sx.sub .i64 (if o_o = true then Int.ofNat (List.length o + 1) else Int.ofNat (List.length o)) 1) (Int.ofNat (List.length o))) (need (small (List.length o_2 + Nat.succ 0)) (need o_o (need (eqi (Sx.sub .i64 (if o_o = true then Int.ofNat (List.length o + 1) else Int.ofNat (List.length o)) 1) (Int.ofNat (List.length o))) (self1 tokens (add .i64 t25 1) t23 t24 (add .i64 t25 1) t2 t3 p p_2 true o o_l o_l_2 (o_2 ++ [(y_7.snd.fst, y_8.snd.snd.fst, y_11.snd.fst, y_9.snd.snd.snd)])))))))))) else need o_o (need (eqi (Sx.sub .i64 (if o_o = true then Int.ofNat (List.length o + 1) else Int.ofNat (List.length o)) 1) (Int.ofNat (List.length o))) (need o_o (need (eqi (Sx.sub .i64 (if o_o = true then Int.ofNat (List.length o + 1) else Int.ofNat (List.length o)) 1) (Int.ofNat (List.length o))) (if eqi (Int.ofNat (List.length o_2)) 64 = true then some (([], []), (130, y.snd.snd.snd), ()) else need o_o (need (eqi (Sx.sub .i64 (if o_o = true then Int.ofNat (List.length o + 1) else Int.ofNat (List.length o)) 1) (Int.ofNat (List.length o))) (need (small (List.length o_2 + Nat.succ 0)) (need o_o (need (eqi (Sx.sub .i64 (if o_o = true then Int.ofNat (List.length o + 1) else Int.ofNat (List.length o)) 1) (Int.ofNat (List.length o))) (self1 tokens (add .i64 t25 1) t23 t24 (add .i64 t25 1) t2 t3 p p_2 true o o_l o_l_2 (o_2 ++ [(y_7.snd.fst, y_8.snd.snd.fst, [], y_9.snd.snd.snd)])))))))))) else Option.bind (at? y_1 0) fun (y_2 : Int × List UInt8 × (Int × Int) × Int) => if nei y_2.fst 1 = true then some (([], []), (140, y.snd.snd.snd), ()) else Option.bind (at? y_1 0) fun (y_3 : Int × List UInt8 × (Int × Int) × Int) => Option.bind (q1q_ (y_3.snd.fst, ())) fun (y_4 : Bool × Unit) => if (!y_4.fst) = true then some (([], []), (140, y.snd.snd.snd), ()) else Option.bind (at? y_1 1) fun (y_5 : Int × List UInt8 × (Int × Int) × Int) => if nei y_5.fst 3 = true then some (([], []), (140, y.snd.snd.snd), ()) else Option.bind (at? y_1 2) fun (y_6 : Int × List UInt8 × (Int × Int) × Int) => if nei y_6.fst 2 = true then some (([], []), (140, y.snd.snd.snd), ()) else Option.bind (at? y_1 0) fun (y_7 : Int × List UInt8 × (Int × Int) × Int) => Option.bind (at? y_1 2) fun (y_8 : Int × List UInt8 × (Int × Int) × Int) => Option.bind (at? y_1 0) fun (y_9 : Int × List UInt8 × (Int × Int) × Int) => if eqi (Int.ofNat (List.length y_1)) 4 = true then Option.bind (at? y_1 3) fun (y_10 : Int × List UInt8 × (Int × Int) × Int) => if nei y_10.fst 1 = true then some (([], []), (140, y.snd.snd.snd), ()) else Option.bind (at? y_1 3) fun (y_11 : Int × List UInt8 × (Int × Int) × Int) => need o_o (need (eqi (Sx.sub .i64 (if o_o = true then Int.ofNat (List.length o + 1) else Int.ofNat (List.length o)) 1) (Int.ofNat (List.length o))) (need o_o (need (eqi (Sx.sub .i64 (if o_o = true then Int.ofNat (List.length o + 1) else Int.ofNat (List.length o)) 1) (Int.ofNat (List.length o))) (if eqi (Int.ofNat (List.length o_2)) 64 = true then some (([], []), (130, y.snd.snd.snd), ()) else need o_o (need (eqi (Sx.sub .i64 (if o_o = true then Int.ofNat (List.length o + 1) else Int.ofNat (List.length o)) 1) (Int.ofNat (List.length o))) (need (small (List.length o_2 + Nat.succ 0)) (need o_o (need (eqi (Sx.sub .i64 (if o_o = true then Int.ofNat (List.length o + 1) else Int.ofNat (List.length o)) 1) (Int.ofNat (List.length o))) (self1 tokens (add .i64 t25 1) t23 t24 (add .i64 t25 1) t2 t3 p p_2 true o o_l o_l_2 (o_2 ++ [(y_7.snd.fst, y_8.snd.snd.fst, y_11.snd.fst, y_9.snd.snd.snd)])))))))))) else need o_o (need (eqi (Sx.sub .i64 (if o_o = true then Int.ofNat (List.length o + 1) else Int.ofNat (List.length o)) 1) (Int.ofNat (List.length o))) (need o_o (need (eqi (Sx.sub .i64 (if o_o = true then Int.ofNat (List.length o + 1) else Int.ofNat (List.length o)) 1) (Int.ofNat (List.length o))) (if eqi (Int.ofNat (List.length o_2)) 64 = true then some (([], []), (130, y.snd.snd.snd), ()) else need o_o (need (eqi (Sx.sub .i64 (if o_o = true then Int.ofNat (List.length o + 1) else Int.ofNat (List.length o)) 1) (Int.ofNat (List.length o))) (need (small (List.length o_2 + Nat.succ 0)) (need o_o (need (eqi (Sx.sub .i64 (if o_o = true then Int.ofNat (List.length o + 1) else Int.ofNat (List.length o)) 1) (Int.ofNat (List.length o))) (self1 tokens (add .i64 t25 1) t23 t24 (add .i64 t25 1) t2 t3 p p_2 true o o_l o_l_2 (o_2 ++ [(y_7.snd.fst, y_8.snd.snd.fst, [], y_9.snd.snd.snd)]))))))))))
theorem sub_len {o : List TPart} (h : o.length ≤ 8) : eqi (Sx.sub .i64 (if true = true then Int.ofNat (o.length + 1) else Int.ofNat o.length) 1) (Int.ofNat o.length) = true := by
  rw [if_pos rfl, q4_, sub64 (by omega) (by omega), q2k_, q4_]
  omega
theorem e64 {l : List TSet} : eqi (Int.ofNat l.length) 64 = true ↔ l.length = 64 := by
  rw [q2k_, q4_]
  omega
def stepR (a : Int) (o2 : List TSet) (r : Option TSet) (k : TSet -> RPs) : RPs := match r with
  | none => pR (pFail 140 a)
  | some s => if o2.length = 64 then pR (pFail 130 a) else k s
section
variable {j2 : List UInt8 -> Int × Int -> Int -> List UInt8 -> Bool -> List TPart -> List UInt8 -> Int -> List TSet -> RPs}
  {self1 : TL -> Int -> TL -> Int -> Int -> List UInt8 -> Int × Int -> Int -> List UInt8 -> Bool -> List TPart -> List UInt8 -> Int -> List TSet -> RPs}
  {tokens t23 : TL} {d t24 t25 : Int} {t2 : List UInt8} {t3 : Int × Int} {nm : List UInt8} {o : List TPart} {ol : List UInt8} {ol2 : Int} {o2 : List TSet} {a : Int}
theorem T_eq {ts : TL} (hg : ∀ t ∈ ts, GoodT a t) (ho : o.length ≤ 8) (h2 : o2.length ≤ 64) :
    parseT2 j2 self1 tokens d t23 t24 t25 t2 t3 2 nm true o ol ol2 o2 (tkEnd a) ts = stepR a o2 (setOf a ts) fun s => self1 tokens (add .i64 t25 1) t23 t24 (add .i64 t25 1) t2 t3 2 nm true o ol ol2 (o2 ++ [s]) := by
  have hs := sub_len ho
  unfold parseT2
  match ts with
  | [] => rfl
  | [x] => rfl
  | [x, y] => rfl
  | [x, y, z] =>
    have hl : x.2.2.2 = a := (hg x (by simp)).l
    rw [if_neg (show ¬ nei (Int.ofNat [x, y, z].length) 3 = true from fun e => qq_.1 e rfl), at_zero, at_1, at_2]
    rw [Option.bind_some]
    by_cases h1 : x.1 = 1
    · rw [if_neg (fun e => qq_.1 e h1), Option.bind_some, name_eq, Option.bind_some]
      by_cases h2 : nameB x.2.1 = true
      · rw [if_neg (by rw [h2]; decide), Option.bind_some]
        by_cases h3 : y.1 = 3
        · rw [if_neg (fun e => qq_.1 e h3), Option.bind_some]
          by_cases h4 : z.1 = 2
          · rw [if_neg (fun e => qq_.1 e h4), Option.bind_some, Option.bind_some, Option.bind_some, if_neg (show ¬ eqi (Int.ofNat [x, y, z].length) 4 = true from fun e => absurd (q2k_.1 e) (by rw [q4_]; simp)), needT, need_t hs, needT, need_t hs]
            have e : setOf a [x, y, z] = some (x.2.1, z.2.2.1, [], a) := if_pos ⟨h1, h2, h3, h4⟩
            rw [e]
            unfold stepR
            dsimp only
            by_cases h6 : o2.length = 64
            · rw [if_pos (e64.2 h6), if_pos h6]
              rfl
            · rw [if_neg (fun e => h6 (e64.1 e)), if_neg h6, needT, need_t hs, q1b_ (by omega), needT, need_t hs, hl]
          · rw [if_pos (qq_.2 h4)]
            have e : setOf a [x, y, z] = none := if_neg (fun e => h4 e.2.2.2)
            rw [e]
            rfl
        · rw [if_pos (qq_.2 h3)]
          have e : setOf a [x, y, z] = none := if_neg (fun e => h3 e.2.2.1)
          rw [e]
          rfl
      · rw [if_pos (by rw [Bool.eq_false_iff.2 h2]; decide)]
        have e : setOf a [x, y, z] = none := if_neg (fun e => h2 e.2.1)
        rw [e]
        rfl
    · rw [if_pos (qq_.2 h1)]
      have e : setOf a [x, y, z] = none := if_neg (fun e => h1 e.1)
      rw [e]
      rfl
  | [x, y, z, u] =>
    have hl : x.2.2.2 = a := (hg x (by simp)).l
    rw [if_pos (show nei (Int.ofNat [x, y, z, u].length) 3 = true from rfl), if_neg (show ¬ nei (Int.ofNat [x, y, z, u].length) 4 = true from fun e => qq_.1 e rfl), at_zero, at_1, at_2, at_3]
    rw [Option.bind_some]
    by_cases h1 : x.1 = 1
    · rw [if_neg (fun e => qq_.1 e h1), Option.bind_some, name_eq, Option.bind_some]
      by_cases h2 : nameB x.2.1 = true
      · rw [if_neg (by rw [h2]; decide), Option.bind_some]
        by_cases h3 : y.1 = 3
        · rw [if_neg (fun e => qq_.1 e h3), Option.bind_some]
          by_cases h4 : z.1 = 2
          · rw [if_neg (fun e => qq_.1 e h4), Option.bind_some, Option.bind_some, Option.bind_some, if_pos (show eqi (Int.ofNat [x, y, z, u].length) 4 = true from rfl), Option.bind_some]
            by_cases h5 : u.1 = 1
            · rw [if_neg (fun e => qq_.1 e h5), Option.bind_some, needT, need_t hs, needT, need_t hs]
              have e : setOf a [x, y, z, u] = some (x.2.1, z.2.2.1, u.2.1, a) := if_pos ⟨h1, h2, h3, h4, h5⟩
              rw [e]
              unfold stepR
              dsimp only
              by_cases h6 : o2.length = 64
              · rw [if_pos (e64.2 h6), if_pos h6]
                rfl
              · rw [if_neg (fun e => h6 (e64.1 e)), if_neg h6, needT, need_t hs, q1b_ (by omega), needT, need_t hs, hl]
            · rw [if_pos (qq_.2 h5)]
              have e : setOf a [x, y, z, u] = none := if_neg (fun e => h5 e.2.2.2.2)
              rw [e]
              rfl
          · rw [if_pos (qq_.2 h4)]
            have e : setOf a [x, y, z, u] = none := if_neg (fun e => h4 e.2.2.2.1)
            rw [e]
            rfl
        · rw [if_pos (qq_.2 h3)]
          have e : setOf a [x, y, z, u] = none := if_neg (fun e => h3 e.2.2.1)
          rw [e]
          rfl
      · rw [if_pos (by rw [Bool.eq_false_iff.2 h2]; decide)]
        have e : setOf a [x, y, z, u] = none := if_neg (fun e => h2 e.2.1)
        rw [e]
        rfl
    · rw [if_pos (qq_.2 h1)]
      have e : setOf a [x, y, z, u] = none := if_neg (fun e => h1 e.1)
      rw [e]
      rfl
  | x :: y :: z :: u :: v :: q =>
    have hl : Int.ofNat (x :: y :: z :: u :: v :: q).length = (q.length : Int) + 5 := by rw [q4_]; simp only [List.length_cons]; omega
    rw [if_pos (show nei (Int.ofNat (x :: y :: z :: u :: v :: q).length) 3 = true by rw [qq_, hl]; omega), if_pos (show nei (Int.ofNat (x :: y :: z :: u :: v :: q).length) 4 = true by rw [qq_, hl]; omega)]
    rfl
theorem step2 {ts : TL} (hlt : lt t25 t24 = true) (hy : at? t23 t25 = some (tkEnd a)) (hc : cut tokens d t25 = some ts) (hg : ∀ t ∈ ts, GoodT a t) (ho : o.length ≤ 8) (h2 : o2.length ≤ 64) :
    q1g_ j2 self1 tokens d t23 t24 t25 t2 t3 2 nm true o ol ol2 o2 = if isEnd ts = true then self1 tokens (add .i64 t25 1) t23 t24 (add .i64 t25 1) t2 t3 1 nm true o ol ol2 o2
      else stepR a o2 (setOf a ts) fun s => self1 tokens (add .i64 t25 1) t23 t24 (add .i64 t25 1) t2 t3 2 nm true o ol ol2 (o2 ++ [s]) := by
  rw [<- T_eq (j2 := j2) (d := d) hg ho h2]
  unfold q1g_
  rw [if_pos hlt, hy, Option.bind_some, if_neg (show ¬ nei (tkEnd a).1 4 = true from fun e => qq_.1 e rfl), if_pos (show eqi 2 2 = true from rfl), hc, Option.bind_some]
  match ts with
  | [] => rfl
  | [x] =>
    rw [if_pos (show eqi (Int.ofNat [x].length) 1 = true from rfl), at_zero, Option.bind_some]
    have he : isEnd [x] = (eqi x.1 1 && eqs x.2.1 sEnd) := rfl
    rw [he]
    by_cases h1 : eqi x.1 1 = true
    · rw [if_pos h1, Option.bind_some]
      by_cases h3 : eqs x.2.1 sEnd = true
      · rw [if_pos h3, if_pos (show (eqi x.1 1 && eqs x.2.1 sEnd) = true by rw [h1, h3]; rfl)]
      · rw [if_neg h3, if_neg (show ¬ (eqi x.1 1 && eqs x.2.1 sEnd) = true by rw [h1, Bool.eq_false_iff.2 h3]; decide)]
        rfl
    · rw [if_neg h1, if_neg (show ¬ (eqi x.1 1 && eqs x.2.1 sEnd) = true by rw [Bool.eq_false_iff.2 h1]; simp)]
      rfl
  | x :: y :: q =>
    rw [if_neg (show ¬ eqi (Int.ofNat (x :: y :: q).length) 1 = true by rw [q2k_, q4_]; simp only [List.length_cons]; omega)]
    rfl
end
end Go.Proofs.Lx
end
section
namespace Go.Proofs.Lx
open Go Ev Sx Pl
set_option maxRecDepth 10000
def flat (rs : List (TL × Int)) : TL := rs.flatMap fun p => p.1 ++ [tkEnd p.2]
theorem flat_cons (p : TL × Int) (rs : List (TL × Int)) : flat (p :: rs) = p.1 ++ tkEnd p.2 :: flat rs := by
  unfold flat
  rw [List.flatMap_cons, List.append_assoc]
  rfl
def lenB (oo : Bool) (o : List TPart) : Nat := if oo = true then o.length + 1 else o.length
theorem len_eq (oo : Bool) (o : List TPart) : (if oo = true then Int.ofNat (o.length + 1) else Int.ofNat o.length) = ((lenB oo o : Nat) : Int) := by
  unfold lenB
  cases oo <;> rfl
theorem all_len (oo : Bool) (o : List TPart) (c : TPart) : (if oo = true then o ++ [c] else o).length = lenB oo o := by
  unfold lenB
  cases oo
  · rfl
  · rw [if_pos rfl, if_pos rfl, List.length_append]
    rfl
theorem head_two {ts : TL} {w : List UInt8} (h : headB ts w = true) : ∃ x y, ts = [x, y] := by
  match ts with
  | [] => cases h
  | [x] => cases h
  | [x, y] => exact ⟨x, y, rfl⟩
  | x :: y :: z :: q => cases h
section
variable {j2 : List UInt8 -> Int × Int -> Int -> List UInt8 -> Bool -> List TPart -> List UInt8 -> Int -> List TSet -> RPs}
  {self1 : TL -> Int -> TL -> Int -> Int -> List UInt8 -> Int × Int -> Int -> List UInt8 -> Bool -> List TPart -> List UInt8 -> Int -> List TSet -> RPs}
  {tokens t23 : TL} {d t24 t25 : Int} {t2 : List UInt8} {t3 : Int × Int} {nm : List UInt8} {oo : Bool} {o : List TPart} {ol : List UInt8} {ol2 : Int} {o2 : List TSet} {a : Int}
theorem step1 {ts : TL} (hlt : lt t25 t24 = true) (hy : at? t23 t25 = some (tkEnd a)) (hc : cut tokens d t25 = some ts) (hg : ∀ t ∈ ts, GoodT a t) (ho : lenB oo o ≤ 8) :
    q1g_ j2 self1 tokens d t23 t24 t25 t2 t3 1 nm oo o ol ol2 o2 = if headB ts sSlv = false then pR (pFail 140 a) else if lenB oo o = 8 then pR (pFail 130 a)
      else self1 tokens (add .i64 t25 1) t23 t24 (add .i64 t25 1) t2 t3 2 nm true (if oo = true then o ++ [(ol, ol2, o2)] else o) (second ts) a [] := by
  unfold q1g_
  rw [if_pos hlt, hy, Option.bind_some, if_neg (show ¬ nei (tkEnd a).1 4 = true from fun e => qq_.1 e rfl), if_neg (show ¬ eqi 1 2 = true by decide), if_pos (show eqi 1 1 = true from rfl), hc, Option.bind_some, show ([115, 108, 97, 118, 101] : List UInt8) = sSlv from rfl, names_eq, Option.bind_some]
  cases hh : headB ts sSlv with
  | false => rfl
  | true =>
    rw [if_neg (show ¬ (!true) = true by decide), if_neg (show ¬ true = false by decide)]
    obtain ⟨x, y, rfl⟩ := head_two hh
    have hl : y.2.2.2 = a := (hg y (by simp)).l
    rw [len_eq]
    by_cases h8 : lenB oo o = 8
    · rw [if_pos (show eqi ((lenB oo o : Nat) : Int) 8 = true by rw [q2k_]; omega), if_pos h8]
      rfl
    · rw [if_neg (show ¬ eqi ((lenB oo o : Nat) : Int) 8 = true by rw [q2k_]; omega), if_neg h8, at_1, Option.bind_some, Option.bind_some, all_len, q1b_ (by omega), hl]
      rfl
theorem step0 {ts : TL} (hlt : lt t25 t24 = true) (hy : at? t23 t25 = some (tkEnd a)) (hc : cut tokens d t25 = some ts) :
    q1g_ j2 self1 tokens d t23 t24 t25 t2 t3 0 nm oo o ol ol2 o2 = if headB ts sRec = false then pR (pFail 140 a)
      else self1 tokens (add .i64 t25 1) t23 t24 (add .i64 t25 1) t2 t3 1 (second ts) oo o ol ol2 o2 := by
  unfold q1g_
  rw [if_pos hlt, hy, Option.bind_some, if_neg (show ¬ nei (tkEnd a).1 4 = true from fun e => qq_.1 e rfl), if_neg (show ¬ eqi 0 2 = true by decide), if_neg (show ¬ eqi 0 1 = true by decide), if_pos (show eqi 0 0 = true from rfl), hc, Option.bind_some, show ([114, 101, 99, 105, 112, 101] : List UInt8) = sRec from rfl, names_eq, Option.bind_some]
  cases hh : headB ts sRec with
  | false => rfl
  | true =>
    rw [if_neg (show ¬ (!true) = true by decide), if_neg (show ¬ true = false by decide)]
    obtain ⟨x, y, rfl⟩ := head_two hh
    rw [at_1, Option.bind_some]
    rfl
theorem stepE (hlt : lt t25 t24 = true) {y : Tk1} (hy : at? t23 t25 = some y) (h : y.1 ≠ 4) {p : Int} :
    q1g_ j2 self1 tokens d t23 t24 t25 t2 t3 p nm oo o ol ol2 o2 = self1 tokens d t23 t24 (add .i64 t25 1) t2 t3 p nm oo o ol ol2 o2 := by
  unfold q1g_
  rw [if_pos hlt, hy, Option.bind_some, if_pos (qq_.2 h)]
end
abbrev PSt := TL × Int × TL × Int × Int × List UInt8 × (Int × Int) × Int × List UInt8 × Bool × List TPart × List UInt8 × Int × List TSet
def rpF (self : PSt -> RPs) (s : PSt) : RPs := q1g_ (q66_) (fun tokens from' t23 t24 t25 t2 t3 p p_2 o_o o o_l o_l_2 o_2 => self (tokens, from', t23, t24, t25, t2, t3, p, p_2, o_o, o, o_l, o_l_2, o_2)) s.1 s.2.1 s.2.2.1 s.2.2.2.1 s.2.2.2.2.1 s.2.2.2.2.2.1 s.2.2.2.2.2.2.1 s.2.2.2.2.2.2.2.1 s.2.2.2.2.2.2.2.2.1 s.2.2.2.2.2.2.2.2.2.1 s.2.2.2.2.2.2.2.2.2.2.1 s.2.2.2.2.2.2.2.2.2.2.2.1 s.2.2.2.2.2.2.2.2.2.2.2.2.1 s.2.2.2.2.2.2.2.2.2.2.2.2.2
theorem rp_K1 (tokens : TL) (from' : Int) (t23 : TL) (t24 t25 : Int) (t2 : List UInt8) (t3 : Int × Int) (p : Int) (p_2 : List UInt8) (o_o : Bool) (o : List TPart) (o_l : List UInt8) (o_l_2 : Int) (o_2 : List TSet) :
    q62_ tokens from' t23 t24 t25 t2 t3 p p_2 o_o o o_l o_l_2 o_2 = loopF rpF 18446744073709551616 (tokens, from', t23, t24, t25, t2, t3, p, p_2, o_o, o, o_l, o_l_2, o_2) := rfl
theorem rp_F (self : PSt -> RPs) (tokens : TL) (from' : Int) (t23 : TL) (t24 t25 : Int) (t2 : List UInt8) (t3 : Int × Int) (p : Int) (p_2 : List UInt8) (o_o : Bool) (o : List TPart) (o_l : List UInt8) (o_l_2 : Int) (o_2 : List TSet) :
    rpF self (tokens, from', t23, t24, t25, t2, t3, p, p_2, o_o, o, o_l, o_l_2, o_2) = q1g_ (q66_) (fun tokens from' t23 t24 t25 t2 t3 p p_2 o_o o o_l o_l_2 o_2 => self (tokens, from', t23, t24, t25, t2, t3, p, p_2, o_o, o, o_l, o_l_2, o_2)) tokens from' t23 t24 t25 t2 t3 p p_2 o_o o o_l o_l_2 o_2 := rfl
theorem skip {tokens : TL} {t2 : List UInt8} {t3 : Int × Int} {p : Int} {nm : List UInt8} {oo : Bool} {o : List TPart} {ol : List UInt8} {ol2 : Int} {o2 : List TSet} (hl : tokens.length < 1000000) {d : Int} {rest : TL} : ∀ (q : TL) (i n : Nat), tokens.drop i = q ++ rest -> (∀ t ∈ q, t.1 ≠ 4) ->
    loopF rpF (q.length + n) (tokens, d, tokens, Int.ofNat tokens.length, (i : Int), t2, t3, p, nm, oo, o, ol, ol2, o2) = loopF rpF n (tokens, d, tokens, Int.ofNat tokens.length, ((i + q.length : Nat) : Int), t2, t3, p, nm, oo, o, ol, ol2, o2)
  | [], i, n, _, _ => by rw [List.length_nil, Nat.zero_add, Nat.add_zero]
  | t :: q, i, n, h, hk => by
    have hd := drop_succ (r := q ++ rest) h
    rw [List.length_cons, show q.length + 1 + n = (q.length + n) + 1 by omega, q3m_, rp_F, stepE (by rw [q19_, q4_]; omega) (at_drop h) (hk t List.mem_cons_self), succ64 (by omega)]
    show loopF rpF (q.length + n) (tokens, d, tokens, Int.ofNat tokens.length, ((i + 1 : Nat) : Int), t2, t3, p, nm, oo, o, ol, ol2, o2) = _
    rw [skip hl q (i + 1) n hd.1 (fun x hx => hk x (List.mem_cons_of_mem _ hx)), show i + 1 + q.length = i + (q.length + 1) by omega]
theorem drop_row {tokens : TL} {d : Nat} {ts : TL} {a : Int} {rest : TL} (h : tokens.drop d = ts ++ tkEnd a :: rest) :
    tokens.drop (d + ts.length) = tkEnd a :: rest ∧ tokens.drop (d + ts.length + 1) = rest ∧ d + ts.length < tokens.length ∧ cut tokens (d : Int) ((d + ts.length : Nat) : Int) = some ts := by
  have h1 : tokens.drop (d + ts.length) = tkEnd a :: rest := by
    rw [<- List.drop_drop, h, List.drop_left]
  have h2 := drop_succ h1
  refine ⟨h1, h2.1, h2.2.1, ?_⟩
  rw [cut_nat (by omega) (by omega), List.drop_take, h, show d + ts.length - d = ts.length by omega, List.take_left]
theorem pr_loop {tokens : TL} {t2 : List UInt8} {t3 : Int × Int} (hl : tokens.length < 1000000) : ∀ (rs : List (TL × Int)) (d : Nat) (w : Bool) (nm : List UInt8) (oo : Bool) (o : List TPart) (ol : List UInt8) (ol2 : Int) (o2 : List TSet) (n : Nat),
    d ≤ tokens.length -> tokens.drop d = flat rs -> (∀ p ∈ rs, ∀ t ∈ p.1, GoodT p.2 t) -> (w = true -> oo = true) -> lenB oo o ≤ 8 -> o2.length ≤ 64 -> (flat rs).length < n ->
    loopF rpF n (tokens, (d : Int), tokens, Int.ofNat tokens.length, (d : Int), t2, t3, if w = true then 2 else 1, nm, oo, o, ol, ol2, o2) = pR (pB rs w nm oo o ol ol2 o2)
  | [], d, w, nm, oo, o, ol, ol2, o2, n, hdl, h, hg, hw, ho, h2, hn => by
    have hd : tokens.length = d := by
      have := congrArg List.length h
      rw [List.length_drop] at this
      have h0 : (flat []).length = 0 := rfl
      omega
    match n, hn with
    | n + 1, _ =>
      rw [q3m_, rp_F]
      unfold q1g_
      rw [if_neg (by rw [q19_, q4_]; omega)]
      show q7x_ t2 t3 _ nm oo o ol ol2 o2 = _
      unfold q7x_
      cases w <;> rfl
  | (ts, a) :: rs, d, w, nm, oo, o, ol, ol2, o2, n, hdl, h, hg, hw, ho, h2, hn => by
    rw [flat_cons] at h hn
    have h : tokens.drop d = ts ++ tkEnd a :: flat rs := h
    have hr := drop_row h
    have hgt := hg (ts, a) List.mem_cons_self
    have hgr : ∀ p ∈ rs, ∀ t ∈ p.1, GoodT p.2 t := fun p hp => hg p (List.mem_cons_of_mem _ hp)
    rw [List.length_append, List.length_cons] at hn
    have hn : ts.length + ((flat rs).length + 1) < n := hn
    obtain ⟨m, rfl⟩ : ∃ m, n = ts.length + (m + 1) := ⟨n - ts.length - 1, by omega⟩
    rw [skip hl ts d (m + 1) h (fun t ht => (hgt t ht).k), q3m_, rp_F]
    have hlt : lt ((d + ts.length : Nat) : Int) (Int.ofNat tokens.length) = true := by rw [q19_, q4_]; omega
    have hat := at_drop hr.1
    have hm : (flat rs).length < m := by omega
    cases w with
    | true =>
      have hoo := hw rfl
      subst hoo
      have ho8 : o.length ≤ 8 := by unfold lenB at ho; rw [if_pos rfl] at ho; omega
      rw [if_pos rfl, step2 hlt hat hr.2.2.2 hgt ho8 h2, succ64 (by omega)]
      unfold pB
      cases he : isEnd ts with
      | true =>
        rw [if_pos rfl, if_pos rfl]
        exact pr_loop hl rs (d + ts.length + 1) false nm true o ol ol2 o2 m (by omega) hr.2.1 hgr (fun e => by cases e) ho h2 hm
      | false =>
        rw [if_neg (by decide), if_neg (by decide)]
        cases hs : setOf a ts with
        | none => rfl
        | some s =>
          unfold stepR
          dsimp only
          by_cases h64 : o2.length = 64
          · rw [if_pos h64, if_pos h64]
          · rw [if_neg h64, if_neg h64]
            exact pr_loop hl rs (d + ts.length + 1) true nm true o ol ol2 (o2 ++ [s]) m (by omega) hr.2.1 hgr (fun _ => rfl) ho (by rw [List.length_append]; simp; omega) hm
    | false =>
      rw [if_neg (show ¬ false = true by decide), step1 hlt hat hr.2.2.2 hgt ho, succ64 (by omega)]
      unfold pB
      by_cases hh : headB ts sSlv = false
      · rw [if_pos hh, if_pos hh]
      · rw [if_neg hh, if_neg hh]
        by_cases h8 : lenB oo o = 8
        · rw [if_pos h8, if_pos (show (if oo = true then o.length + 1 else o.length) = 8 from h8)]
        · rw [if_neg h8, if_neg (show ¬ (if oo = true then o.length + 1 else o.length) = 8 from h8)]
          exact pr_loop hl rs (d + ts.length + 1) true nm true (if oo = true then o ++ [(ol, ol2, o2)] else o) (second ts) a [] m (by omega) hr.2.1 hgr (fun _ => rfl) (by
            show (if true = true then (if oo = true then o ++ [(ol, ol2, o2)] else o).length + 1 else _) ≤ 8
            rw [if_pos rfl, all_len]; omega) (by simp) hm
theorem lexS_len : ∀ (k : Nat) (s : List UInt8) (n : Int) (l : TL), s.length ≤ k -> (lexS n s l).1.length ≤ l.length + 2 * s.length
  | 0, s, n, l, h => by
    have : s = [] := List.eq_nil_of_length_eq_zero (by omega)
    subst this
    rw [lexS, dif_pos rfl]
    simp
  | k + 1, s, n, l, h => by
    by_cases hs : s = []
    · rw [hs, lexS, dif_pos rfl]
      simp
    · rw [lexS_step hs]
      have hlt := lrest_len hs
      split
      · simp
      · have h1 := lexS_len k (lrest s) (n + 1) (l ++ (lineT n (uncom (q1m_ s)) []).1) (by omega)
        have h2 := lineT_len n (uncom (q1m_ s)).length (uncom (q1m_ s)) [] (Nat.le_refl _)
        have h3 := uncom_len (q1m_ s)
        have h4 : (q1m_ s).length + (lrest s).length ≤ s.length := by
          have e := congrArg List.length (List.takeWhile_append_dropWhile (p := (· != (10 : UInt8))) (l := s))
          rw [List.length_append] at e
          unfold q1m_ lrest
          rw [List.length_drop]
          omega
        rw [List.length_append] at h1
        rw [List.length_nil] at h2
        omega
theorem lexR_len (s : List UInt8) : (lexR s).1.length ≤ 20000 := by
  unfold lexR
  split
  · simp
  · have := lexS_len s.length s 1 [] (Nat.le_refl _)
    rw [List.length_nil] at this
    omega
theorem pS_cons (ts : TL) (a : Int) (rs : List (TL × Int)) : pS ((ts, a) :: rs) = if headB ts sRec = false then pFail 140 a else pB rs false (second ts) false [] [] 0 [] := rfl
theorem lexS_zero : ∀ (k : Nat) (s : List UInt8) (n : Int) (l : TL), s.length ≤ k -> (lexS n s l).2.1 = 0 -> (lexS n s l).2.2 = 0
  | 0, s, n, l, h, _ => by
    have : s = [] := List.eq_nil_of_length_eq_zero (by omega)
    subst this
    rw [lexS, dif_pos rfl]
  | k + 1, s, n, l, h, he => by
    by_cases hs : s = []
    · rw [hs, lexS, dif_pos rfl]
    · have hlt := lrest_len hs
      rw [lexS_step hs] at he ⊢
      by_cases h1 : (lineT n (uncom (q1m_ s)) []).2 ≠ 0
      · rw [if_pos h1] at he
        exact absurd he h1
      · rw [if_neg h1] at he ⊢
        exact lexS_zero k _ _ _ (by omega) he
theorem lexR_zero {s : List UInt8} (h : (lexR s).2.1 = 0) : (lexR s).2.2 = 0 := by
  unfold lexR at h ⊢
  split
  · rfl
  · rename_i h1
    rw [if_neg h1] at h
    exact lexS_zero _ s 1 [] (Nat.le_refl _) h
theorem rparse_eq {s : List UInt8} {rs : List (TL × Int)} (h : (lexR s).2.1 = 0 -> RowsT (lexR s).1 rs) : q30_ (s, ()) = pR (parseR s rs) := by
  show q7u_ q62_ s = _
  unfold q7u_ parseR
  rw [lex_eq, Option.bind_some]
  dsimp only
  by_cases h0 : (lexR s).2.1 = 0
  · have hr := h h0
    have h1 := lexR_zero h0
    rw [if_neg (by rw [h0, h1]; decide), if_pos h0]
    have hl := lexR_len s
    rw [rp_K1]
    have hf : (lexR s).1 = flat rs := hr.e
    match rs, hf, hr with
    | [], hf, hr =>
      have hz : (lexR s).1 = [] := hf
      rw [hz, q3m_, rp_F]
      rfl
    | (ts, a) :: rs, hf, hr =>
      rw [flat_cons] at hf
      have hgt := (hr.g (ts, a) List.mem_cons_self).2
      have hd : (lexR s).1.drop 0 = ts ++ tkEnd a :: flat rs := hf
      have hrw := drop_row hd
      have hlen := congrArg List.length hf
      rw [List.length_append, List.length_cons] at hlen
      have hlen : (lexR s).1.length = ts.length + ((flat rs).length + 1) := hlen
      rw [show (18446744073709551616 : Nat) = ts.length + ((18446744073709551616 - ts.length - 1) + 1) by omega]
      refine (skip (by omega) (d := 0) ts 0 _ hd (fun t ht => (hgt t ht).k)).trans ?_
      have hc : cut (lexR s).1 0 ((0 + ts.length : Nat) : Int) = some ts := hrw.2.2.2
      rw [q3m_, rp_F, step0 (by rw [q19_, q4_]; omega) (at_drop hrw.1) hc, succ64 (by omega)]
      rw [pS_cons]
      by_cases hh : headB ts sRec = false
      · rw [if_pos hh, if_pos hh]
      · rw [if_neg hh, if_neg hh]
        exact pr_loop (by omega) rs (0 + ts.length + 1) false (second ts) false [] [] 0 [] _ (by omega) hrw.2.1 (fun p hp => (hr.g p (List.mem_cons_of_mem _ hp)).2) (fun e => by cases e) (by decide) (by simp) (by omega)
  · have e : eqi (lexR s).2.1 0 = false := by
      cases q : eqi (lexR s).2.1 0 with
      | true => exact absurd (q2k_.1 q) h0
      | false => rfl
    rw [if_pos (by rw [e]; rfl), if_neg h0]
    rfl
end Go.Proofs.Lx
end
section
namespace Go.Proofs.Lx
open Go Ev Sx Pl
set_option maxRecDepth 10000
def fewS (s : TSet) : Bool := decide (s.1.length ≤ 40) && decide (s.2.2.1.length ≤ 40)
def fewP (p : TPart) : Bool := (decide (p.2.2.length ≤ 70) && decide (p.1.length ≤ 40)) && p.2.2.all fewS
def fewB (r : TRec) : Bool := (decide (r.2.length ≤ 12) && decide (r.1.length ≤ 40)) && r.2.all fewP
theorem few_eq {r : TRec} : q85_ (r, ()) = some (fewB r, ()) := by
  show q9w_ q8a_ r = _
  unfold q9w_
  have K1 : ∀ b, q8a_ b r = if b = true then some (false, ()) else q6y_ r.2 (Int.ofNat r.2.length) 0 := fun b => rfl
  have e12 : gt (Int.ofNat r.2.length) 12 = !decide (r.2.length ≤ 12) := gtn (k := 12)
  have e40 : gt (Int.ofNat r.1.length) 40 = !decide (r.1.length ≤ 40) := gtn (k := 40)
  simp only [K1, e12, e40]
  unfold fewB
  by_cases h12 : ¬ r.2.length ≤ 12
  · rw [decide_eq_false h12]; rfl
  have h12 : r.2.length ≤ 12 := by omega
  have K2 : q6y_ r.2 (Int.ofNat r.2.length) 0 = if r.2.all fewP = true then some (true, ()) else some (false, ()) := by
    unfold q6y_
    refine loop_all (xs := r.2) (mk := fun i => (r.2, Int.ofNat r.2.length, (i : Int))) (p := fewP) ?_ ?_ (by omega)
    · intro self i p hp
      have hi := (List.getElem?_eq_some_iff.1 hp).1
      show q6w_ (q84_ fun t18 t19 t20 => self (t18, t19, t20)) _ r.2 (Int.ofNat r.2.length) (i : Int) = _
      unfold q6w_
      rw [if_pos (by rw [q19_, q4_]; omega), at_get hp, Option.bind_some]
      have e70 : gt (Int.ofNat p.2.2.length) 70 = !decide (p.2.2.length ≤ 70) := gtn (k := 70)
      have e40 : gt (Int.ofNat p.1.length) 40 = !decide (p.1.length ≤ 40) := gtn (k := 40)
      have K3 : ∀ b, q84_ (fun t18 t19 t20 => self (t18, t19, t20)) r.2 (Int.ofNat r.2.length) (i : Int) b p = if b = true then some (false, ()) else q6z_ (fun t18 t19 t20 => self (t18, t19, t20)) r.2 (Int.ofNat r.2.length) (i : Int) p.2.2 (Int.ofNat p.2.2.length) 0 := fun b => rfl
      simp only [K3, e70, e40]
      unfold fewP
      by_cases h70 : ¬ p.2.2.length ≤ 70
      · rw [decide_eq_false h70]; cases decide (p.1.length ≤ 40) <;> rfl
      have h70 : p.2.2.length ≤ 70 := by omega
      have K4 : q6z_ (fun t18 t19 t20 => self (t18, t19, t20)) r.2 (Int.ofNat r.2.length) (i : Int) p.2.2 (Int.ofNat p.2.2.length) 0 = if p.2.2.all fewS = true then self (r.2, Int.ofNat r.2.length, ((i + 1 : Nat) : Int)) else some (false, ()) := by
        unfold q6z_
        refine loop_all (xs := p.2.2) (mk := fun k => (r.2, Int.ofNat r.2.length, (i : Int), p.2.2, Int.ofNat p.2.2.length, (k : Int))) (p := fewS) ?_ ?_ (by omega)
        · intro self4 k s hs
          have hk := (List.getElem?_eq_some_iff.1 hs).1
          show q71_ (q8b_ (fun t18 t19 t20 => self (t18, t19, t20)) fun t18 t19 t20 t35 t36 t37 => self4 (t18, t19, t20, t35, t36, t37)) _ _ r.2 (Int.ofNat r.2.length) (i : Int) p.2.2 (Int.ofNat p.2.2.length) (k : Int) = _
          unfold q71_
          have K5 : ∀ b, q8b_ (fun t18 t19 t20 => self (t18, t19, t20)) (fun t18 t19 t20 t35 t36 t37 => self4 (t18, t19, t20, t35, t36, t37)) r.2 (Int.ofNat r.2.length) (i : Int) p.2.2 (Int.ofNat p.2.2.length) (k : Int) b = if b = true then some (false, ()) else self4 (r.2, Int.ofNat r.2.length, (i : Int), p.2.2, Int.ofNat p.2.2.length, ((k + 1 : Nat) : Int)) := fun b => by
            show q9l_ _ _ r.2 (Int.ofNat r.2.length) (i : Int) p.2.2 (Int.ofNat p.2.2.length) (k : Int) b = _
            unfold q9l_
            rw [succ64 (by omega)]
          rw [if_pos (by rw [q19_, q4_]; omega), at_get hs, Option.bind_some]
          have f1 : gt (Int.ofNat s.1.length) 40 = !decide (s.1.length ≤ 40) := gtn (k := 40)
          have f2 : gt (Int.ofNat s.2.2.1.length) 40 = !decide (s.2.2.1.length ≤ 40) := gtn (k := 40)
          simp only [K5, f1, f2]
          unfold fewS
          cases decide (s.1.length ≤ 40) <;> cases decide (s.2.2.1.length ≤ 40) <;> rfl
        · intro self4
          show q71_ _ _ _ r.2 (Int.ofNat r.2.length) (i : Int) p.2.2 (Int.ofNat p.2.2.length) (p.2.2.length : Int) = _
          unfold q71_
          rw [if_neg (by rw [q19_, q4_]; omega), succ64 (by omega)]
      rw [K4, decide_eq_true h70]
      cases decide (p.1.length ≤ 40) <;> cases p.2.2.all fewS <;> rfl
    · intro self
      show q6w_ _ _ r.2 (Int.ofNat r.2.length) (r.2.length : Int) = _
      unfold q6w_
      rw [if_neg (by rw [q19_, q4_]; omega)]
  rw [K2, decide_eq_true h12]
  cases decide (r.1.length ≤ 40) <;> cases r.2.all fewP <;> rfl
theorem few_len {r : TRec} (h : fewB r = true) : r.2.length ≤ 12 ∧ r.1.length ≤ 40 ∧ ∀ p ∈ r.2, p.2.2.length ≤ 70 ∧ p.1.length ≤ 40 ∧ ∀ s ∈ p.2.2, s.1.length ≤ 40 ∧ s.2.2.1.length ≤ 40 := by
  unfold fewB at h
  simp only [Bool.and_eq_true, decide_eq_true_eq, List.all_eq_true] at h
  refine ⟨h.1.1, h.1.2, fun p hp => ?_⟩
  have h2 := h.2 p hp
  unfold fewP at h2
  simp only [Bool.and_eq_true, decide_eq_true_eq, List.all_eq_true] at h2
  refine ⟨h2.1.1, h2.1.2, fun s hs => ?_⟩
  have h3 := h2.2 s hs
  unfold fewS at h3
  simp only [Bool.and_eq_true, decide_eq_true_eq] at h3
  exact h3
theorem nameB_len {s : List UInt8} (h : nameB s = true) : s.length ≤ 20 := by
  unfold nameB at h
  simp only [Bool.and_eq_true, decide_eq_true_eq] at h
  exact h.1.1.1.1.1.2
theorem unitB_len {s : List UInt8} (h : unitB s = true) : s.length ≤ 20 := by
  unfold unitB at h
  simp only [Bool.and_eq_true, decide_eq_true_eq] at h
  exact h.1
def shwd (d : Int × Int) : List UInt8 := ((q76_ (d, ())).getD ([], ())).1
theorem shw_len {sg : Bool} {n D : Nat} (hn : n ≤ 1000000000000) (h6 : D ≤ 6) : (shw sg n D).length ≤ 30 := by
  unfold shw
  have hl : (dd (n / 10 ^ D)).length ≤ 13 := dd_len (by decide) (by have := Nat.div_le_self n (10 ^ D); omega)
  have h1 : (if sg then [45] else [] : List UInt8).length ≤ 1 := by cases sg <;> simp
  have h2 : (if D = 0 then [] else 46 :: fx D (n % 10 ^ D) : List UInt8).length ≤ 7 := by
    split
    · simp
    · rw [List.length_cons, fx_len]; omega
  rw [List.length_append, List.length_append]
  omega
theorem shwd_eq {d : Int × Int} {sg : Bool} {n D : Nat} (h : RtD d sg n D) : shwd d = shw sg n D := by
  unfold shwd
  rw [show_eq h]
  rfl
theorem shows {d : Int × Int} (h : rgt d = true) (h0 : 0 ≤ d.2) : q76_ (d, ()) = some (shwd d, ()) ∧ qcb_ (d, ()) = some (shwd d, ()) ∧ (shwd d).length ≤ 30 := by
  obtain ⟨sg, n, D, hr⟩ := rgt_rt h h0
  rw [shwd_eq hr]
  exact ⟨show_eq hr, rshow_eq hr, shw_len hr.le hr.d6⟩
def lnB (ws : List (List UInt8)) : List UInt8 := joinF [32] ws ++ [10]
def setW (s : TSet) : List (List UInt8) := if s.2.2.1 = [] then [32 :: 32 :: s.1, [61], shwd s.2.1] else [32 :: 32 :: s.1, [61], shwd s.2.1, s.2.2.1]
def setT (s : TSet) : List UInt8 := lnB (setW s)
def partT (p : TPart) : List UInt8 := lnB [sSlv, p.1] ++ p.2.2.flatMap setT ++ lnB [sEnd]
def printS (r : TRec) : List UInt8 := lnB [sRec, r.1] ++ r.2.flatMap partT
abbrev bi (l : List UInt8) : List Int := l.map fun b => Int.ofNat b.toNat
theorem u8s_bi : ∀ l : List UInt8, Ev.u8s (bi l) = true
  | [] => rfl
  | c :: q => by
    have := c.toNat_lt
    show (decide (0 ≤ Int.ofNat c.toNat ∧ Int.ofNat c.toNat ≤ 255) && Ev.u8s (bi q)) = true
    rw [u8s_bi q, decide_eq_true (by rw [q4_]; omega)]
    rfl
theorem toS_bi : ∀ l : List UInt8, Sx.toS (bi l) = l
  | [] => rfl
  | c :: q => by
    have h := toS_bi q
    show UInt8.ofNat (Int.ofNat c.toNat).toNat :: Sx.toS (bi q) = _
    rw [h]
    congr 1
    simp
structure SetOk (s : TSet) : Prop where
  n : s.1.length ≤ 20
  u : s.2.2.1.length ≤ 20
  r : rgt s.2.1 = true
  d : 0 ≤ s.2.1.2
theorem join_val {ws : List (List UInt8)} (h : ws.length ≤ 10) (h2 : (joinF [32] ws).length ≤ 1000) : strings_Join (ws, [32], ()) = some (joinF [32] ws, ()) := by
  unfold strings_Join
  rw [if_pos ⟨by show ws.length ≤ _; omega, by show (joinF [32] ws).length ≤ _; omega⟩]
theorem line_go {R : Type} {k : List Int -> Option R} {acc : List UInt8} {ws : List (List UInt8)} (h : ws.length ≤ 10) (h2 : (joinF [32] ws).length ≤ 1000) (ha : acc.length ≤ 2000000) :
    (Option.bind (strings_Join (ws, [32], ())) fun (y : List UInt8 × Unit) => need (small (List.length (bi acc) + List.length y.fst)) (need (small (List.length (bi acc ++ List.map (fun (b : UInt8) => Int.ofNat (UInt8.toNat b)) y.fst) + 1)) (k (bi acc ++ List.map (fun (b : UInt8) => Int.ofNat (UInt8.toNat b)) y.fst ++ [10])))) = k (bi (acc ++ lnB ws)) := by
  rw [join_val h h2, Option.bind_some]
  have l1 : (bi acc).length = acc.length := List.length_map _
  have l2 : (bi acc ++ bi (joinF [32] ws)).length = acc.length + (joinF [32] ws).length := by rw [List.length_append, List.length_map, List.length_map]
  rw [q1b_ (by show (bi acc).length + (joinF [32] ws).length ≤ _; omega), q1b_ (by show (bi acc ++ bi (joinF [32] ws)).length + 1 ≤ _; omega)]
  congr 1
  unfold lnB bi
  simp
theorem setW_len {s : TSet} (h : SetOk s) : (setW s).length ≤ 10 ∧ (joinF [32] (setW s)).length ≤ 100 := by
  have h1 := h.n
  have h2 := h.u
  have h3 := (shows h.r h.d).2.2
  unfold setW
  split
  · refine ⟨by simp, ?_⟩
    simp only [joinF, List.length_append, List.length_cons, List.length_nil]
    omega
  · refine ⟨by simp, ?_⟩
    simp only [joinF, List.length_append, List.length_cons, List.length_nil]
    omega
theorem lnB_len {ws : List (List UInt8)} : (lnB ws).length = (joinF [32] ws).length + 1 := by unfold lnB; simp
theorem print_K2 {u1 : List TPart -> Int -> Int -> List Int -> Option (As [.str, .bool])} {r : List TPart} {p : TPart} {i : Nat} {acc : List UInt8} (hi : i < 1000) (hl : p.2.2.length ≤ 64) (hp : ∀ s ∈ p.2.2, SetOk s) (ha : acc.length ≤ 1000000) :
    q43_ u1 r (Int.ofNat r.length) (i : Int) p.2.2 (Int.ofNat p.2.2.length) 0 (bi acc) = u1 r (Int.ofNat r.length) ((i + 1 : Nat) : Int) (bi (acc ++ p.2.2.flatMap setT ++ lnB [sEnd])) ∧ (acc ++ p.2.2.flatMap setT).length ≤ acc.length + p.2.2.length * 101 := by
  have hlen : ∀ l : List TSet, (∀ s ∈ l, SetOk s) -> (l.flatMap setT).length ≤ l.length * 101 := by
    intro l
    induction l with
    | nil => intro _; simp
    | cons s q ih =>
      intro h
      have := ih fun x hx => h x (List.mem_cons_of_mem _ hx)
      have h1 := (setW_len (h s List.mem_cons_self)).2
      rw [List.flatMap_cons, List.length_append, List.length_cons]
      unfold setT at this ⊢
      rw [lnB_len]
      omega
  refine ⟨?_, by rw [List.length_append]; have := hlen _ hp; omega⟩
  unfold q43_
  refine (loop_idx (σ := (List TPart) × (Int) × (Int) × (List TSet) × (Int) × (Int) × (List Int)) (xs := p.2.2) (mk := fun k acc => (r, Int.ofNat r.length, (i : Int), p.2.2, Int.ofNat p.2.2.length, (k : Int), bi acc)) (stp := fun acc s => acc ++ setT s)
    (fin := fun acc => u1 r (Int.ofNat r.length) ((i + 1 : Nat) : Int) (bi (acc ++ lnB [sEnd]))) (Inv := fun k acc => acc.length ≤ 1000000 + k * 101) ?_ ?_ ?_ p.2.2.length 0 acc _ (by omega) (by omega) (by omega)).trans ?_
  · intro self k acc s hs hI
    have hk := (List.getElem?_eq_some_iff.1 hs).1
    have hs' := hp s (List.mem_of_getElem? hs)
    have hsw := shows hs'.r hs'.d
    have h1 := hs'.n
    show q4x_ (q4y_ u1 fun t21 t22 t23 t33 t34 t35 o => self (t21, t22, t23, t33, t34, t35, o)) _ _ _ r (Int.ofNat r.length) (i : Int) p.2.2 (Int.ofNat p.2.2.length) (k : Int) (bi acc) = _
    unfold q4x_
    have K4 : ∀ ws : List (List UInt8), ws.length ≤ 10 -> (joinF [32] ws).length ≤ 1000 -> q4y_ u1 (fun t21 t22 t23 t33 t34 t35 o => self (t21, t22, t23, t33, t34, t35, o)) r (Int.ofNat r.length) (i : Int) p.2.2 (Int.ofNat p.2.2.length) (k : Int) (bi acc) ws = self (r, Int.ofNat r.length, (i : Int), p.2.2, Int.ofNat p.2.2.length, ((k + 1 : Nat) : Int), bi (acc ++ lnB ws)) := by
      intro ws hw1 hw2
      unfold q4y_ q9v_
      rw [succ64 (by omega)]
      exact line_go (k := fun o => self (r, Int.ofNat r.length, (i : Int), p.2.2, Int.ofNat p.2.2.length, ((k + 1 : Nat) : Int), o)) hw1 hw2 (by omega)
    have hw := setW_len hs'
    rw [if_pos (by rw [q19_, q4_]; omega), at_get hs, Option.bind_some, q1b_ (by omega), hsw.1, Option.bind_some]
    unfold setT
    by_cases hu : s.2.2.1 = []
    · rw [if_neg (fun e => nes_iff.1 e hu)]
      have e : setW s = [32 :: 32 :: s.1, [61], shwd s.2.1] := if_pos hu
      rw [e] at hw ⊢
      exact K4 _ hw.1 (Nat.le_trans hw.2 (by decide))
    · rw [if_pos (nes_iff.2 hu), q1b_ (by decide)]
      have e : setW s = [32 :: 32 :: s.1, [61], shwd s.2.1, s.2.2.1] := if_neg hu
      rw [e] at hw ⊢
      exact K4 _ hw.1 (Nat.le_trans hw.2 (by decide))
  · intro k acc s hs hI
    have h1 := (setW_len (hp s (List.mem_of_getElem? hs))).2
    show (acc ++ setT s).length ≤ 1000000 + (k + 1) * 101
    rw [List.length_append]
    unfold setT
    rw [lnB_len]
    have : acc.length ≤ 1000000 + k * 101 := hI
    omega
  · intro self acc hI
    have hI : acc.length ≤ 1000000 + p.2.2.length * 101 := hI
    show q4x_ _ (q61_ u1) _ _ r (Int.ofNat r.length) (i : Int) p.2.2 (Int.ofNat p.2.2.length) (p.2.2.length : Int) (bi acc) = _
    unfold q4x_
    rw [if_neg (by rw [q19_, q4_]; omega)]
    unfold q61_ q9s_
    rw [succ64 (by omega)]
    exact line_go (k := fun o => u1 r (Int.ofNat r.length) ((i + 1 : Nat) : Int) o) (ws := [sEnd]) (by simp) (by decide) (by omega)
  · rw [List.drop_zero, foldl_app]
structure PartOk (p : TPart) : Prop where
  n : p.1.length ≤ 20
  l : p.2.2.length ≤ 64
  s : ∀ s ∈ p.2.2, SetOk s
theorem partT_len {p : TPart} (h : PartOk p) : (partT p).length ≤ 7000 := by
  have h1 := (print_K2 (u1 := fun _ _ _ _ => none) (r := []) (i := 0) (acc := []) (by omega) h.l h.s (by simp)).2
  rw [List.nil_append] at h1
  have h2 := h.n
  have h3 := h.l
  unfold partT
  rw [List.length_append, List.length_append, lnB_len, lnB_len]
  simp only [joinF, List.length_append, List.length_cons, List.length_nil]
  rw [List.length_nil] at h1
  omega
structure RecOk (r : TRec) : Prop where
  n : r.1.length ≤ 20
  l : r.2.length ≤ 8
  p : ∀ p ∈ r.2, PartOk p
theorem rec_ok {r : TRec} (h : rightB r = true) (hd : ∀ p ∈ r.2, ∀ s ∈ p.2.2, 0 ≤ s.2.1.2) : RecOk r := by
  unfold rightB at h
  simp only [Bool.and_eq_true, decide_eq_true_eq, List.all_eq_true] at h
  refine ⟨nameB_len h.1, h.2.1, fun p hp => ?_⟩
  have h2 := h.2.2 p hp
  unfold partB at h2
  simp only [Bool.and_eq_true, decide_eq_true_eq, List.all_eq_true] at h2
  refine ⟨nameB_len h2.1, h2.2.1, fun s hs => ?_⟩
  have h3 := h2.2.2 s hs
  unfold setB at h3
  simp only [Bool.and_eq_true] at h3
  exact ⟨nameB_len h3.1, unitB_len h3.2.2, h3.2.1, hd p hp s hs⟩
theorem print_yes {r : TRec} (h : rightB r = true) (hd : ∀ p ∈ r.2, ∀ s ∈ p.2.2, 0 ≤ s.2.1.2) (hl : r.2.length ≤ 1000000) (hl2 : ∀ p ∈ r.2, p.2.2.length ≤ 1000000) : q3e_ (r, ()) = some (printS r, true, ()) := by
  have ho := rec_ok h hd
  have hn := ho.n
  show q4q_ q45_ r = _
  unfold q4q_
  rw [right_eq' hl hl2, h, Option.bind_some, if_neg (by decide)]
  have hj : (joinF [32] [sRec, r.1]).length ≤ 100 := by
    simp only [joinF, List.length_append, List.length_cons, List.length_nil]
    omega
  rw [show ([114, 101, 99, 105, 112, 101] : List UInt8) = sRec from rfl, join_val (by simp) (by omega), Option.bind_some]
  have l2 : (bi (joinF [32] [sRec, r.1])).length = (joinF [32] [sRec, r.1]).length := List.length_map _
  rw [q1b_ (by show 0 + (joinF [32] [sRec, r.1]).length ≤ _; omega), q1b_ (by show (bi (joinF [32] [sRec, r.1])).length + 1 ≤ _; omega)]
  have e1 : (bi (joinF [32] [sRec, r.1]) ++ [10] : List Int) = bi (lnB [sRec, r.1]) := by unfold lnB bi; simp
  show q45_ r.2 (Int.ofNat r.2.length) 0 (bi (joinF [32] [sRec, r.1]) ++ [10]) = _
  rw [e1]
  unfold q45_
  have hl8 := ho.l
  refine (loop_idx (σ := (List TPart) × (Int) × (Int) × (List Int)) (xs := r.2) (mk := fun k acc => (r.2, Int.ofNat r.2.length, (k : Int), bi acc)) (stp := fun acc p => acc ++ partT p)
    (fin := fun acc => some (acc, true, ())) (Inv := fun k acc => acc.length ≤ 1000 + k * 7000) ?_ ?_ ?_ r.2.length 0 (lnB [sRec, r.1]) _ (by omega) (by omega) (by rw [lnB_len]; omega)).trans ?_
  · intro self k acc p hp hI
    have hI : acc.length ≤ 1000 + k * 7000 := hI
    have hk := (List.getElem?_eq_some_iff.1 hp).1
    have hpo := ho.p p (List.mem_of_getElem? hp)
    have hpn := hpo.n
    show q4u_ (q43_ fun t21 t22 t23 o => self (t21, t22, t23, o)) _ _ r.2 (Int.ofNat r.2.length) (k : Int) (bi acc) = _
    unfold q4u_
    rw [if_pos (by rw [q19_, q4_]; omega), at_get hp, Option.bind_some]
    have hj : (joinF [32] [sSlv, p.1]).length ≤ 100 := by
      simp only [joinF, List.length_append, List.length_cons, List.length_nil]
      omega
    refine (line_go (k := fun o => q43_ (fun t21 t22 t23 o => self (t21, t22, t23, o)) r.2 (Int.ofNat r.2.length) (k : Int) p.2.2 (Int.ofNat p.2.2.length) 0 o) (ws := [sSlv, p.1]) (by simp) (by omega) (by omega)).trans ?_
    rw [(print_K2 (by omega) hpo.l hpo.s (by rw [List.length_append, lnB_len]; omega)).1]
    unfold partT
    rw [List.append_assoc, List.append_assoc, List.append_assoc]
  · intro k acc p hp hI
    have hI : acc.length ≤ 1000 + k * 7000 := hI
    have := partT_len (ho.p p (List.mem_of_getElem? hp))
    show (acc ++ partT p).length ≤ 1000 + (k + 1) * 7000
    rw [List.length_append]
    omega
  · intro self acc hI
    have hI : acc.length ≤ 1000 + r.2.length * 7000 := hI
    show q4u_ _ q65_ _ r.2 (Int.ofNat r.2.length) (r.2.length : Int) (bi acc) = _
    unfold q4u_
    rw [if_neg (by rw [q19_, q4_]; omega)]
    unfold q65_ q9n_
    have l1 : (bi acc).length = acc.length := List.length_map _
    rw [need_t (q2k_.2 rfl), q1b_ (by rw [l1]; omega), need_t (u8s_bi acc), toS_bi]
  · rw [List.drop_zero, foldl_app]
    rfl
theorem print_no {r : TRec} (h : rightB r = false) (hl : r.2.length ≤ 1000000) (hl2 : ∀ p ∈ r.2, p.2.2.length ≤ 1000000) : q3e_ (r, ()) = some ([], false, ()) := by
  show q4q_ q45_ r = _
  unfold q4q_
  rw [right_eq' hl hl2, h, Option.bind_some, if_pos (by decide)]
end Go.Proofs.Lx
end
section
namespace Go.Proofs.Lx
open Go Ev Sx Pl
set_option maxRecDepth 10000
abbrev U14 := List TL -> Bool -> Int -> List UInt8 -> Int × Int -> List UInt8 -> Bool -> List TPart -> List UInt8 -> Int -> List TSet -> RPs
section
variable {u1 : U14} {all : List TL} {i : Nat} {t2 : List UInt8} {t3 : Int × Int} {nm : List UInt8} {oo : Bool} {o : List TPart} {ol : List UInt8} {ol2 : Int} {o2 : List TSet} {a : Int}
end
end Go.Proofs.Lx
end
section
namespace Go.Proofs.Lx
open Go Ev Sx Pl
set_option maxRecDepth 10000
theorem toks_blank {a : Int} {s s' : List UInt8} (h : s.dropWhile (fun c => isB c.toNat) = s'.dropWhile (fun c => isB c.toNat)) : toksL a s = toksL a s' := by
  match h2 : s'.dropWhile (fun c => isB c.toNat) with
  | [] => rw [toksL_nil h2, toksL_nil (h.trans h2)]
  | c :: q =>
    match h3 : tokS a c q with
    | .inl e => rw [toksL_err h2 h3, toksL_err (h.trans h2) h3]
    | .inr (t, r) => rw [toksL_tok h2 h3, toksL_tok (h.trans h2) h3]
theorem toks_sp {a : Int} (s : List UInt8) : toksL a (32 :: s) = toksL a s := toks_blank (by rw [List.dropWhile_cons]; rfl)
structure Wd (a : Int) (w : List UInt8) (t : Tk1) : Prop where
  k : ∃ c q, w = c :: q ∧ isB c.toNat = false ∧ ∀ rest : List UInt8, (rest = [] ∨ ∃ r, rest = 32 :: r) -> tokS a c (q ++ rest) = .inr (t, rest)
  cl : w.all (fun c => c != 10 && c != 35) = true
theorem toks_cons {a : Int} {w : List UInt8} {t : Tk1} (h : Wd a w t) (r : List UInt8) : toksL a (w ++ 32 :: r) = (t :: (toksL a r).1, (toksL a r).2) := by
  obtain ⟨c, q, rfl, hb, ht⟩ := h.k
  rw [List.cons_append, toksL_tok (not_blank_head hb) (ht (32 :: r) (.inr ⟨r, rfl⟩)), toks_sp]
theorem toks_last {a : Int} {w : List UInt8} {t : Tk1} (h : Wd a w t) : toksL a w = ([t], 0) := by
  obtain ⟨c, q, rfl, hb, ht⟩ := h.k
  have h2 := ht [] (.inl rfl)
  rw [List.append_nil] at h2
  rw [toksL_tok (not_blank_head hb) h2, toksL_nil rfl]
theorem tw_app {p : UInt8 -> Bool} : ∀ {q rest : List UInt8}, q.all p = true -> (rest = [] ∨ ∃ r, rest = 32 :: r) -> p 32 = false -> (q ++ rest).takeWhile p = q ∧ (q ++ rest).dropWhile p = rest
  | [], rest, _, hr, h32 => by
    rcases hr with rfl | ⟨r, rfl⟩
    · exact ⟨rfl, rfl⟩
    · rw [List.nil_append, List.takeWhile_cons, List.dropWhile_cons, h32]
      exact ⟨rfl, rfl⟩
  | c :: q, rest, h, hr, h32 => by
    rw [List.all_cons, Bool.and_eq_true] at h
    have ih := tw_app (p := p) (q := q) h.2 hr h32
    rw [List.cons_append, List.takeWhile_cons, List.dropWhile_cons, h.1, if_pos rfl, if_pos rfl, ih.1, ih.2]
    exact ⟨rfl, rfl⟩
theorem chars (c : UInt8) : (wm c.toNat = true -> (c != 10 && c != 35) = true) ∧ (nm c.toNat = true -> (c != 10 && c != 35) = true) ∧ (w1 c.toNat = true -> isB c.toNat = false ∧ wm c.toNat = true) ∧ (n1 c.toNat = true -> isB c.toNat = false ∧ w1 c.toNat = false ∧ nm c.toNat = true) ∧ (namN c.toNat = true -> wm c.toNat = true) ∧ (lowN c.toNat = true -> w1 c.toNat = true) ∧ (dg c = true -> nm c.toNat = true ∧ n1 c.toNat = true) := by
  have h : ∀ n : Fin 256, (let c := UInt8.ofNat n.val; (wm c.toNat = true -> (c != 10 && c != 35) = true) ∧ (nm c.toNat = true -> (c != 10 && c != 35) = true) ∧ (w1 c.toNat = true -> isB c.toNat = false ∧ wm c.toNat = true) ∧ (n1 c.toNat = true -> isB c.toNat = false ∧ w1 c.toNat = false ∧ nm c.toNat = true) ∧ (namN c.toNat = true -> wm c.toNat = true) ∧ (lowN c.toNat = true -> w1 c.toNat = true) ∧ (dg c = true -> nm c.toNat = true ∧ n1 c.toNat = true)) := by decide +kernel
  have := h ⟨c.toNat, c.toNat_lt⟩
  simpa using this
theorem all_of {p q : UInt8 -> Bool} {l : List UInt8} (h : l.all p = true) (hpq : ∀ c, p c = true -> q c = true) : l.all q = true := by
  rw [List.all_eq_true] at h ⊢
  exact fun c hc => hpq c (h c hc)
theorem wd_word {a : Int} {c : UInt8} {q : List UInt8} (h1 : w1 c.toNat = true) (h2 : q.all (fun c => wm c.toNat) = true) (h3 : (c :: q).length ≤ 20) : Wd a (c :: q) (1, c :: q, (0, 0), a) := by
  refine ⟨⟨c, q, rfl, ((chars c).2.2.1 h1).1, fun rest hr => ?_⟩, ?_⟩
  · have h := tw_app (p := fun c => wm c.toNat) h2 hr (by rfl)
    unfold tokS
    rw [if_pos h1, h.1, h.2, if_neg (by omega)]
  · rw [List.all_cons, all_of h2 fun c hc => (chars c).1 hc, (chars c).1 ((chars c).2.2.1 h1).2]
    rfl
theorem wd_unit {a : Int} {s : List UInt8} (h : unitB s = true) (hne : s ≠ []) : Wd a s (1, s, (0, 0), a) := by
  match s, hne with
  | c :: q, _ =>
    unfold unitB at h
    simp only [Bool.and_eq_true, decide_eq_true_eq] at h
    exact wd_word h.2.1 h.2.2 h.1
theorem wd_name {a : Int} {s : List UInt8} (h : nameB s = true) : Wd a s (1, s, (0, 0), a) := by
  have hl := nameB_len h
  unfold nameB at h
  simp only [Bool.and_eq_true, decide_eq_true_eq] at h
  match s with
  | [] => exact absurd h.1.1.1.1.1.1 (by decide)
  | c :: q =>
    have h2 := h.1.1.1.2
    rw [List.all_cons, Bool.and_eq_true] at h2
    exact wd_word ((chars c).2.2.2.2.2.1 h.1.1.1.1.2) (all_of h2.2 fun c hc => (chars c).2.2.2.2.1 hc) hl
theorem wd_rec (a : Int) : Wd a sRec (1, sRec, (0, 0), a) := wd_word (by rfl) (by rfl) (by decide)
theorem wd_slv (a : Int) : Wd a sSlv (1, sSlv, (0, 0), a) := wd_word (by rfl) (by rfl) (by decide)
theorem wd_end (a : Int) : Wd a sEnd (1, sEnd, (0, 0), a) := wd_word (by rfl) (by rfl) (by decide)
theorem wd_eq (a : Int) : Wd a [61] (3, [61], (0, 0), a) := ⟨⟨61, [], rfl, by rfl, fun rest hr => rfl⟩, by rfl⟩
theorem wd_num {a : Int} {c : UInt8} {q : List UInt8} {d : Int × Int} (h1 : n1 c.toNat = true) (h2 : q.all (fun c => nm c.toNat) = true) (h3 : parseS (c :: q) = (d, true)) : Wd a (c :: q) (2, c :: q, d, a) := by
  have hc := (chars c).2.2.2.1 h1
  refine ⟨⟨c, q, rfl, hc.1, fun rest hr => ?_⟩, ?_⟩
  · have h := tw_app (p := fun c => nm c.toNat) h2 hr (by rfl)
    unfold tokS
    rw [if_neg (by rw [hc.2.1]; decide), if_pos h1, h.1, h.2, h3, if_pos rfl]
  · rw [List.all_cons, all_of h2 fun c hc => (chars c).2.1 hc, (chars c).2.1 hc.2.2]
    rfl
theorem wd_shw {a : Int} {d : Int × Int} (h : rgt d = true) (h0 : 0 ≤ d.2) : Wd a (shwd d) (2, shwd d, d, a) := by
  obtain ⟨sg, n, D, hr⟩ := rgt_rt h h0
  rw [shwd_eq hr]
  have hp := shw_said (sg := sg) hr.le hr.d6 hr.tz
  have hd : ((if sg then -(n : Int) else (n : Int), (D : Int)) : Int × Int) = d := Prod.ext hr.e1.symm hr.e2.symm
  rw [hd] at hp
  have hw : ∀ {l : List UInt8}, (∀ c ∈ l, dg c = true) -> l.all (fun c => nm c.toNat) = true := fun hl => List.all_eq_true.2 fun c hc => ((chars c).2.2.2.2.2.2 (hl c hc)).1
  have htail : (if D = 0 then [] else 46 :: fx D (n % 10 ^ D) : List UInt8).all (fun c => nm c.toNat) = true := by
    split
    · rfl
    · rw [List.all_cons, hw (fx_dig _ _)]
      rfl
  unfold shw at hp ⊢
  cases sg with
  | true =>
    refine wd_num (c := 45) (by rfl) ?_ hp
    show (dd (n / 10 ^ D) ++ _).all _ = true
    rw [List.all_append, hw (dd_dig _), htail]
    rfl
  | false =>
    match hdd : dd (n / 10 ^ D), dd_ne (n / 10 ^ D), dd_dig (n / 10 ^ D) with
    | c :: q, _, hdig =>
      rw [hdd] at hp
      refine wd_num (c := c) ((chars c).2.2.2.2.2.2 (hdig c List.mem_cons_self)).2 ?_ hp
      show (q ++ _).all _ = true
      rw [List.all_append, hw (fun x hx => hdig x (List.mem_cons_of_mem _ hx)), htail]
      rfl
theorem clean_first {l rest : List UInt8} (h : l.all (fun c => c != 10 && c != 35) = true) : q1m_ (l ++ 10 :: rest) = l ∧ lrest (l ++ 10 :: rest) = rest ∧ uncom l = l := by
  induction l with
  | nil => exact ⟨rfl, rfl, rfl⟩
  | cons c q ih =>
    rw [List.all_cons, Bool.and_eq_true] at h
    obtain ⟨i1, i2, i3⟩ := ih h.2
    have h1 := h.1
    rw [Bool.and_eq_true] at h1
    refine ⟨?_, ?_, ?_⟩
    · unfold q1m_ at i1 ⊢
      rw [List.cons_append, List.takeWhile_cons, if_pos h1.1, i1]
    · unfold lrest at i2 ⊢
      rw [List.cons_append, List.dropWhile_cons, if_pos h1.1, i2]
    · unfold uncom at i3 ⊢
      rw [List.takeWhile_cons, if_pos h1.2, i3]
structure Says (n : Int) (s : List UInt8) (rs : List (TL × Int)) : Prop where
  e : lexS n s [] = (flat rs, (0, 0))
  g : ∀ p ∈ rs, p.1 ≠ [] ∧ ∀ t ∈ p.1, GoodT p.2 t
theorem says_nil (n : Int) : Says n [] [] := ⟨by rw [lexS, dif_pos rfl]; rfl, fun p hp => by cases hp⟩
theorem says_line {n : Int} {l rest : List UInt8} {ts : TL} {rs : List (TL × Int)} (hc : l.all (fun c => c != 10 && c != 35) = true) (ht : toksL n l = (ts, 0)) (hne : ts ≠ []) (h : Says (n + 1) rest rs) : Says n (l ++ 10 :: rest) ((ts, n) :: rs) := by
  have hf := clean_first (rest := rest) hc
  have hl : lineT n (uncom (q1m_ (l ++ 10 :: rest))) [] = (ts ++ [tkEnd n], 0) := by
    rw [hf.1, hf.2.2, lineT_toks n l.length l [] (Nat.le_refl _), ht]
    dsimp only
    rw [if_neg (by decide), List.nil_append, if_neg hne]
  refine ⟨?_, fun p hp => ?_⟩
  · rw [lexS_one (by simp) (by rw [hl]), hl, hf.2.1, h.e]
    dsimp only
    rw [if_neg (by decide), flat_cons]
    simp
  · rcases List.mem_cons.1 hp with rfl | hp
    · refine ⟨hne, ?_⟩
      have := toks_good n l.length l (Nat.le_refl _)
      rw [ht] at this
      exact this
    · exact h.g p hp
abbrev wt (a : Int) (w : List UInt8) : Tk1 := (1, w, (0, 0), a)
def setRow (a : Int) (s : TSet) : TL := if s.2.2.1 = [] then [wt a s.1, (3, [61], (0, 0), a), (2, shwd s.2.1, s.2.1, a)] else [wt a s.1, (3, [61], (0, 0), a), (2, shwd s.2.1, s.2.1, a), wt a s.2.2.1]
def SB (s : TSet) : Prop := setB s = true ∧ 0 ≤ s.2.1.2
theorem SB.n {s : TSet} (h : SB s) : nameB s.1 = true := by
  have := h.1
  unfold setB at this
  simp only [Bool.and_eq_true] at this
  exact this.1
theorem SB.r {s : TSet} (h : SB s) : rgt s.2.1 = true := by
  have := h.1
  unfold setB at this
  simp only [Bool.and_eq_true] at this
  exact this.2.1
theorem SB.u {s : TSet} (h : SB s) : unitB s.2.2.1 = true := by
  have := h.1
  unfold setB at this
  simp only [Bool.and_eq_true] at this
  exact this.2.2
theorem says_set {n : Int} {s : TSet} (h : SB s) {rest : List UInt8} {rs : List (TL × Int)} (hr : Says (n + 1) rest rs) : Says n (setT s ++ rest) ((setRow n s, n) :: rs) := by
  have w1 := wd_name (a := n) h.n
  have w2 := wd_eq n
  have w3 := wd_shw (a := n) h.r h.2
  unfold setT setW setRow lnB
  by_cases hu : s.2.2.1 = []
  · rw [if_pos hu, if_pos hu, List.append_assoc]
    refine says_line ?_ ?_ (by simp) hr
    · have : (joinF [32] [32 :: 32 :: s.1, [61], shwd s.2.1]) = [32, 32] ++ (s.1 ++ ([32] ++ ([61] ++ ([32] ++ shwd s.2.1)))) := by simp [joinF]
      rw [this]
      simp only [List.all_append, w1.cl, w2.cl, w3.cl]
      rfl
    · have : (joinF [32] [32 :: 32 :: s.1, [61], shwd s.2.1]) = 32 :: 32 :: (s.1 ++ 32 :: ([61] ++ 32 :: shwd s.2.1)) := by simp [joinF]
      rw [this, toks_sp, toks_sp, toks_cons w1, toks_cons w2, toks_last w3]
  · have w4 := wd_unit (a := n) h.u hu
    rw [if_neg hu, if_neg hu, List.append_assoc]
    refine says_line ?_ ?_ (by simp) hr
    · have : (joinF [32] [32 :: 32 :: s.1, [61], shwd s.2.1, s.2.2.1]) = [32, 32] ++ (s.1 ++ ([32] ++ ([61] ++ ([32] ++ (shwd s.2.1 ++ ([32] ++ s.2.2.1)))))) := by simp [joinF]
      rw [this]
      simp only [List.all_append, w1.cl, w2.cl, w3.cl, w4.cl]
      rfl
    · have : (joinF [32] [32 :: 32 :: s.1, [61], shwd s.2.1, s.2.2.1]) = 32 :: 32 :: (s.1 ++ 32 :: ([61] ++ 32 :: (shwd s.2.1 ++ 32 :: s.2.2.1))) := by simp [joinF]
      rw [this, toks_sp, toks_sp, toks_cons w1, toks_cons w2, toks_cons w3, toks_last w4]
theorem says_two {n : Int} {w x : List UInt8} (hw : Wd n w (wt n w)) (hx : Wd n x (wt n x)) {rest : List UInt8} {rs : List (TL × Int)} (hr : Says (n + 1) rest rs) : Says n (lnB [w, x] ++ rest) (([wt n w, wt n x], n) :: rs) := by
  unfold lnB
  rw [List.append_assoc]
  have e : joinF [32] [w, x] = w ++ 32 :: x := by simp [joinF]
  refine says_line ?_ ?_ (by simp) hr
  · have e2 : joinF [32] [w, x] = w ++ ([32] ++ x) := by simp [joinF]
    rw [e2]
    simp only [List.all_append, hw.cl, hx.cl]
    rfl
  · rw [e, toks_cons hw, toks_last hx]
theorem says_end {n : Int} {rest : List UInt8} {rs : List (TL × Int)} (hr : Says (n + 1) rest rs) : Says n (lnB [sEnd] ++ rest) (([wt n sEnd], n) :: rs) := by
  unfold lnB
  rw [List.append_assoc]
  exact says_line (by rfl) (toks_last (wd_end n)) (by simp) hr
def setRows : Int -> List TSet -> List (TL × Int)
  | _, [] => []
  | n, s :: q => (setRow n s, n) :: setRows (n + 1) q
theorem says_sets {rest : List UInt8} {rs : List (TL × Int)} : ∀ (l : List TSet) (n : Int), (∀ s ∈ l, SB s) -> Says (n + l.length) rest rs -> Says n (l.flatMap setT ++ rest) (setRows n l ++ rs)
  | [], n, _, h => by
    have e : n + ((([] : List TSet).length : Nat) : Int) = n := by simp
    rw [e] at h
    exact h
  | s :: q, n, hs, h => by
    rw [List.flatMap_cons, List.append_assoc]
    refine says_set (hs s List.mem_cons_self) (says_sets q (n + 1) (fun x hx => hs x (List.mem_cons_of_mem _ hx)) ?_)
    have e : n + (((s :: q).length : Nat) : Int) = n + 1 + (q.length : Int) := by rw [List.length_cons]; omega
    rw [e] at h
    exact h
structure PB (p : TPart) : Prop where
  n : nameB p.1 = true
  l : p.2.2.length ≤ 64
  s : ∀ s ∈ p.2.2, SB s
def partRows : Int -> List TPart -> List (TL × Int)
  | _, [] => []
  | n, p :: q => ([wt n sSlv, wt n p.1], n) :: (setRows (n + 1) p.2.2 ++ ([wt (n + 1 + p.2.2.length) sEnd], n + 1 + p.2.2.length) :: partRows (n + 1 + p.2.2.length + 1) q)
theorem says_parts : ∀ (l : List TPart) (n : Int), (∀ p ∈ l, PB p) -> Says n (l.flatMap partT) (partRows n l)
  | [], n, _ => says_nil n
  | p :: q, n, hp => by
    have h := hp p List.mem_cons_self
    rw [List.flatMap_cons]
    unfold partT partRows
    rw [List.append_assoc, List.append_assoc]
    exact says_two (wd_slv n) (wd_name h.n) (says_sets p.2.2 (n + 1) h.s (says_end (says_parts q _ fun x hx => hp x (List.mem_cons_of_mem _ hx))))
structure RB (r : TRec) : Prop where
  n : nameB r.1 = true
  l : r.2.length ≤ 8
  p : ∀ p ∈ r.2, PB p
theorem says_print {r : TRec} (h : RB r) (n : Int) : Says n (printS r) (([wt n sRec, wt n r.1], n) :: partRows (n + 1) r.2) :=
  says_two (wd_rec n) (wd_name h.n) (says_parts r.2 (n + 1) h.p)
end Go.Proofs.Lx
end
section
namespace Pl
open Go Ev Sx
end Pl
end
section
namespace Go.Proofs.Lx
open Go Ev Sx Pl
set_option maxRecDepth 10000
def sameS (x y : TSet) : Bool := eqs x.1 y.1 && ((eqi x.2.1.1 y.2.1.1 && (eqi x.2.1.2 y.2.1.2 && true)) && eqs x.2.2.1 y.2.2.1)
def eqLB {α : Type} (f : α -> α -> Bool) (a b : List α) : Bool := decide (a.length = b.length) && (a.zip b).all (fun p => f p.1 p.2)
def sameP (x y : TPart) : Bool := eqs x.1 y.1 && eqLB sameS x.2.2 y.2.2
def sameR (a b : TRec) : Bool := eqs a.1 b.1 && eqLB sameP a.2 b.2
theorem zip_at {α β : Type} {a : List α} {b : List β} {i : Nat} {x : α × β} (h : (a.zip b)[i]? = some x) : a[i]? = some x.1 ∧ b[i]? = some x.2 := by
  obtain ⟨x, y⟩ := x
  exact List.getElem?_zip_eq_some.1 h
theorem zip_len {α β : Type} {a : List α} {b : List β} (h : a.length = b.length) : (a.zip b).length = a.length := by rw [List.length_zip]; omega
theorem nein {n k : Nat} : nei (Int.ofNat n) (Int.ofNat k) = !decide (n = k) := by
  apply Bool.eq_iff_iff.2
  rw [qq_, q4_, q4_]
  simp
  omega
theorem efS_eq {a b : List TSet} (ha : a.length ≤ 1000000) : q37_ (a, b, ()) = some (eqLB sameS a b, ()) := by
  show q3k_ q2j_ a b = _
  unfold q3k_
  rw [nein]
  by_cases hl : a.length = b.length
  · rw [decide_eq_true hl, if_neg (by decide)]
    unfold q2j_
    refine (loop_all (xs := a.zip b) (mk := fun i => (b, a, Int.ofNat a.length, (i : Int))) (p := fun p => sameS p.1 p.2) (r0 := some (false, ())) (fin := some (true, ())) ?_ ?_ (by rw [zip_len hl]; omega)).trans ?_
    · intro self i x hx
      obtain ⟨h1, h2⟩ := zip_at hx
      have hi := (List.getElem?_eq_some_iff.1 h1).1
      show q1y_ _ b a (Int.ofNat a.length) (i : Int) = _
      unfold q1y_
      rw [if_pos (by rw [q19_, q4_]; omega), at_get h1, Option.bind_some, at_get h2, Option.bind_some, succ64 (by omega)]
      unfold sameS
      cases eqs x.1.1 x.2.1 <;> cases (eqi x.1.2.1.1 x.2.2.1.1 && (eqi x.1.2.1.2 x.2.2.1.2 && true)) <;> cases eqs x.1.2.2.1 x.2.2.2.1 <;> rfl
    · intro self
      show q1y_ _ b a (Int.ofNat a.length) (((a.zip b).length : Nat) : Int) = _
      unfold q1y_
      rw [zip_len hl, if_neg (by rw [q19_, q4_]; omega)]
    · unfold eqLB
      rw [decide_eq_true hl]
      cases ((a.zip b).all fun p => sameS p.1 p.2) <;> rfl
  · rw [decide_eq_false hl, if_pos (by rfl)]
    unfold eqLB
    rw [decide_eq_false hl]
    rfl
theorem efP_eq {a b : List TPart} (ha : a.length ≤ 1000000) (hs : ∀ p ∈ a, p.2.2.length ≤ 1000000) : q3t_ (a, b, ()) = some (eqLB sameP a b, ()) := by
  show q3d_ q2f_ a b = _
  unfold q3d_
  rw [nein]
  by_cases hl : a.length = b.length
  · rw [decide_eq_true hl, if_neg (by decide)]
    unfold q2f_
    refine (loop_all (xs := a.zip b) (mk := fun i => (b, a, Int.ofNat a.length, (i : Int))) (p := fun p => sameP p.1 p.2) (r0 := some (false, ())) (fin := some (true, ())) ?_ ?_ (by rw [zip_len hl]; omega)).trans ?_
    · intro self i x hx
      obtain ⟨h1, h2⟩ := zip_at hx
      have hi := (List.getElem?_eq_some_iff.1 h1).1
      show q1o_ _ b a (Int.ofNat a.length) (i : Int) = _
      unfold q1o_
      rw [if_pos (by rw [q19_, q4_]; omega), at_get h1, Option.bind_some, at_get h2, Option.bind_some, efS_eq (hs x.1 (List.mem_of_getElem? h1)), Option.bind_some, succ64 (by omega)]
      unfold sameP
      cases eqs x.1.1 x.2.1 <;> cases eqLB sameS x.1.2.2 x.2.2.2 <;> rfl
    · intro self
      show q1o_ _ b a (Int.ofNat a.length) (((a.zip b).length : Nat) : Int) = _
      unfold q1o_
      rw [zip_len hl, if_neg (by rw [q19_, q4_]; omega)]
    · unfold eqLB
      rw [decide_eq_true hl]
      cases ((a.zip b).all fun p => sameP p.1 p.2) <;> rfl
  · rw [decide_eq_false hl, if_pos (by rfl)]
    unfold eqLB
    rw [decide_eq_false hl]
    rfl
theorem same_eq {a b : TRec} (ha : a.2.length ≤ 1000000) (hs : ∀ p ∈ a.2, p.2.2.length ≤ 1000000) : q7o_ (a, b, ()) = some (sameR a b, ()) := by
  show qa7_ a b = _
  unfold qa7_
  rw [efP_eq ha hs, Option.bind_some]
  unfold sameR
  cases eqs a.1 b.1 <;> rfl
end Go.Proofs.Lx
end
section
namespace Go.Proofs.Lx
open Go Ev Sx
set_option maxRecDepth 100000
theorem awake14 : q4m_ () = some (true, ()) := by kernel_rfl
end Go.Proofs.Lx
end
section
namespace Go.Proofs.Lx
open Go Ev Sx Pl
set_option maxRecDepth 10000
theorem lex_rs (s : List UInt8) : ∃ rs, (lexR s).2.1 = 0 -> RowsT (lexR s).1 rs := by
  by_cases h : (lexR s).2.1 = 0
  · obtain ⟨rs, hr⟩ := lexR_rows h
    exact ⟨rs, fun _ => hr⟩
  · exact ⟨[], fun e => absurd e h⟩
end Go.Proofs.Lx
end
section
namespace Go.Proofs.Lx
open Go Ev Sx Pl
set_option maxRecDepth 10000
theorem PB.b {p : TPart} (h : PB p) : partB p = true := by
  unfold partB
  rw [h.n, decide_eq_true h.l, List.all_eq_true.2 fun s hs => (h.s s hs).1]
  rfl
theorem RB.b {r : TRec} (h : RB r) : rightB r = true := by
  unfold rightB
  rw [h.n, decide_eq_true h.l, List.all_eq_true.2 fun p hp => (h.p p hp).b]
  rfl
theorem RB.d {r : TRec} (h : RB r) : ∀ p ∈ r.2, ∀ s ∈ p.2.2, 0 ≤ s.2.1.2 := fun p hp s hs => ((h.p p hp).s s hs).2
theorem rb_of {r : TRec} (h : rightB r = true) (hd : ∀ p ∈ r.2, ∀ s ∈ p.2.2, 0 ≤ s.2.1.2) : RB r := by
  unfold rightB at h
  simp only [Bool.and_eq_true, decide_eq_true_eq, List.all_eq_true] at h
  refine ⟨h.1, h.2.1, fun p hp => ?_⟩
  have h2 := h.2.2 p hp
  unfold partB at h2
  simp only [Bool.and_eq_true, decide_eq_true_eq, List.all_eq_true] at h2
  exact ⟨h2.1, h2.2.1, fun s hs => ⟨h2.2.2 s hs, hd p hp s hs⟩⟩
def relS : Int -> List TSet -> List TSet
  | _, [] => []
  | n, s :: q => (s.1, s.2.1, s.2.2.1, n) :: relS (n + 1) q
def rel : Int -> List TPart -> List TPart
  | _, [] => []
  | n, p :: q => (p.1, n, relS (n + 1) p.2.2) :: rel (n + 1 + p.2.2.length + 1) q
theorem relS_len : ∀ (l : List TSet) (n : Int), (relS n l).length = l.length
  | [], _ => rfl
  | s :: q, n => by
    have := relS_len q (n + 1)
    unfold relS
    rw [List.length_cons, List.length_cons, this]
theorem rel_len : ∀ (l : List TPart) (n : Int), (rel n l).length = l.length
  | [], _ => rfl
  | s :: q, n => by
    unfold rel
    rw [List.length_cons, List.length_cons, rel_len q]
theorem setOf_row {a : Int} {s : TSet} (h : SB s) : setOf a (setRow a s) = some (s.1, s.2.1, s.2.2.1, a) := by
  unfold setRow
  by_cases hu : s.2.2.1 = []
  · rw [if_pos hu]
    refine (if_pos ⟨rfl, h.n, rfl, rfl⟩).trans ?_
    rw [hu]
  · rw [if_neg hu]
    exact if_pos ⟨rfl, h.n, rfl, rfl, rfl⟩
theorem isEnd_row {a : Int} {s : TSet} : isEnd (setRow a s) = false := by
  unfold setRow
  split <;> rfl
theorem pB_sets {rs : List (TL × Int)} {nm : List UInt8} {o : List TPart} {ol : List UInt8} {ol2 : Int} : ∀ (l : List TSet) (n : Int) (o2 : List TSet), (∀ s ∈ l, SB s) -> o2.length + l.length ≤ 64 ->
    pB (setRows n l ++ rs) true nm true o ol ol2 o2 = pB rs true nm true o ol ol2 (o2 ++ relS n l)
  | [], n, o2, _, _ => by
    unfold relS setRows
    rw [List.append_nil, List.nil_append]
  | s :: q, n, o2, hs, hl => by
    rw [List.length_cons] at hl
    unfold setRows relS
    rw [List.cons_append]
    show (if isEnd (setRow n s) = true then _ else match setOf n (setRow n s) with
      | none => pFail 140 n
      | some s => if o2.length = 64 then pFail 130 n else pB (setRows (n + 1) q ++ rs) true nm true o ol ol2 (o2 ++ [s])) = _
    rw [isEnd_row, if_neg (by decide), setOf_row (hs s List.mem_cons_self)]
    dsimp only
    rw [if_neg (by omega), pB_sets q (n + 1) _ (fun x hx => hs x (List.mem_cons_of_mem _ hx)) (by rw [List.length_append]; simp; omega), List.append_assoc]
    rfl
theorem headB_two {a : Int} {w x : List UInt8} (h : nameB x = true) : headB [wt a w, wt a x] w = true := by
  show (eqi 1 1 && (eqs w w && (eqi 1 1 && nameB x))) = true
  rw [eqs_iff.2 rfl, h]
  rfl
theorem pB_parts {nm : List UInt8} : ∀ (l : List TPart) (n : Int) (oo : Bool) (o : List TPart) (ol : List UInt8) (ol2 : Int) (o2 : List TSet), (∀ p ∈ l, PB p) -> lenB oo o + l.length ≤ 8 ->
    pB (partRows n l) false nm oo o ol ol2 o2 = ((nm, (if oo = true then o ++ [(ol, ol2, o2)] else o) ++ rel n l), (0, 0))
  | [], n, oo, o, ol, ol2, o2, _, _ => by
    unfold partRows rel
    rw [List.append_nil]
    rfl
  | p :: q, n, oo, o, ol, ol2, o2, hp, hl => by
    rw [List.length_cons] at hl
    have h := hp p List.mem_cons_self
    unfold partRows
    show (if headB [wt n sSlv, wt n p.1] sSlv = false then pFail 140 n else if lenB oo o = 8 then pFail 130 n
      else pB (setRows (n + 1) p.2.2 ++ ([wt (n + 1 + p.2.2.length) sEnd], n + 1 + p.2.2.length) :: partRows (n + 1 + p.2.2.length + 1) q) true nm true (if oo = true then o ++ [(ol, ol2, o2)] else o) p.1 n []) = _
    rw [headB_two h.n, if_neg (by decide), if_neg (by omega), pB_sets p.2.2 (n + 1) [] h.s (by have := h.l; simp; omega)]
    show (if isEnd [wt (n + 1 + p.2.2.length) sEnd] = true then pB (partRows (n + 1 + p.2.2.length + 1) q) false nm true (if oo = true then o ++ [(ol, ol2, o2)] else o) p.1 n ([] ++ relS (n + 1) p.2.2) else _) = _
    rw [if_pos (show isEnd [wt (n + 1 + p.2.2.length) sEnd] = true from rfl), pB_parts q _ true _ _ _ _ (fun x hx => hp x (List.mem_cons_of_mem _ hx)) (by
      show (if true = true then (if oo = true then o ++ [(ol, ol2, o2)] else o).length + 1 else _) + q.length ≤ 8
      rw [if_pos rfl, all_len]
      omega), if_pos rfl, List.nil_append, List.append_assoc]
    rfl
theorem pS_print {r : TRec} (h : RB r) (n : Int) : pS (([wt n sRec, wt n r.1], n) :: partRows (n + 1) r.2) = ((r.1, rel (n + 1) r.2), (0, 0)) := by
  rw [pS_cons, headB_two h.n, if_neg (by decide)]
  show pB (partRows (n + 1) r.2) false r.1 false [] [] 0 [] = _
  rw [pB_parts r.2 (n + 1) false [] [] 0 [] h.p (by have := h.l; unfold lenB; rw [if_neg (by decide)]; simp; omega)]
  rfl
theorem print_parse {r : TRec} (h : RB r) : q30_ (printS r, ()) = pR (if 8192 < (printS r).length then pFail 130 0 else ((r.1, rel 2 r.2), (0, 0))) := by
  by_cases hl : 8192 < (printS r).length
  · have e : lexR (printS r) = ([], (130, 0)) := by unfold lexR; rw [if_pos hl]
    rw [if_pos hl, rparse_eq (rs := []) (fun h0 => by rw [e] at h0; exact absurd h0 (by decide))]
    unfold parseR
    rw [e]
    rfl
  · have hs := says_print h 1
    have e : lexR (printS r) = (flat (([wt 1 sRec, wt 1 r.1], 1) :: partRows 2 r.2), (0, 0)) := by
      unfold lexR
      rw [if_neg hl]
      exact hs.e
    rw [if_neg hl, rparse_eq (rs := ([wt 1 sRec, wt 1 r.1], 1) :: partRows 2 r.2) (fun h0 => by rw [e]; exact ⟨rfl, hs.g⟩)]
    unfold parseR
    rw [e]
    exact congrArg pR (pS_print h 1)
theorem eqLB_cons {α : Type} (f : α -> α -> Bool) (x y : α) (a b : List α) : eqLB f (x :: a) (y :: b) = (f x y && eqLB f a b) := by
  unfold eqLB
  rw [List.zip_cons_cons, List.all_cons, List.length_cons, List.length_cons]
  by_cases h : a.length = b.length
  · rw [decide_eq_true h, decide_eq_true (by omega), Bool.true_and, Bool.true_and]
  · rw [decide_eq_false h, decide_eq_false (by omega)]
    simp
theorem sameS_rel (s : TSet) (n : Int) : sameS (s.1, s.2.1, s.2.2.1, n) s = true ∧ sameS s (s.1, s.2.1, s.2.2.1, n) = true := by
  unfold sameS
  dsimp only
  rw [eqs_iff.2 rfl, eqs_iff.2 rfl, q2k_.2 rfl, q2k_.2 rfl]
  exact ⟨rfl, rfl⟩
theorem relS_same : ∀ (l : List TSet) (n : Int), eqLB sameS (relS n l) l = true ∧ eqLB sameS l (relS n l) = true
  | [], _ => ⟨rfl, rfl⟩
  | s :: q, n => by
    have := relS_same q (n + 1)
    unfold relS
    rw [eqLB_cons, eqLB_cons, this.1, this.2, (sameS_rel s n).1, (sameS_rel s n).2]
    exact ⟨rfl, rfl⟩
theorem rel_same : ∀ (l : List TPart) (n : Int), eqLB sameP (rel n l) l = true ∧ eqLB sameP l (rel n l) = true
  | [], _ => ⟨rfl, rfl⟩
  | p :: q, n => by
    have h := rel_same q (n + 1 + p.2.2.length + 1)
    have h2 := relS_same p.2.2 (n + 1)
    unfold rel
    rw [eqLB_cons, eqLB_cons, h.1, h.2]
    unfold sameP
    dsimp only
    rw [eqs_iff.2 rfl, h2.1, h2.2]
    exact ⟨rfl, rfl⟩
theorem rel_sameR (r : TRec) (n : Int) : sameR (r.1, rel n r.2) r = true ∧ sameR r (r.1, rel n r.2) = true := by
  unfold sameR
  dsimp only
  rw [eqs_iff.2 rfl, (rel_same r.2 n).1, (rel_same r.2 n).2]
  exact ⟨rfl, rfl⟩
theorem relS_text : ∀ (l : List TSet) (n : Int), (relS n l).flatMap setT = l.flatMap setT
  | [], _ => rfl
  | s :: q, n => by
    unfold relS
    rw [List.flatMap_cons, List.flatMap_cons, relS_text q]
    rfl
theorem rel_text : ∀ (l : List TPart) (n : Int), (rel n l).flatMap partT = l.flatMap partT
  | [], _ => rfl
  | p :: q, n => by
    unfold rel
    rw [List.flatMap_cons, List.flatMap_cons, rel_text q]
    unfold partT
    dsimp only
    rw [relS_text]
theorem rel_print (r : TRec) (n : Int) : printS (r.1, rel n r.2) = printS r := by
  unfold printS
  dsimp only
  rw [rel_text]
theorem relS_sb : ∀ (l : List TSet) (n : Int), (∀ s ∈ l, SB s) -> ∀ s ∈ relS n l, SB s
  | [], _, _, s, hs => by cases hs
  | x :: q, n, h, s, hs => by
    unfold relS at hs
    rcases List.mem_cons.1 hs with rfl | hs
    · exact h x List.mem_cons_self
    · exact relS_sb q (n + 1) (fun y hy => h y (List.mem_cons_of_mem _ hy)) s hs
theorem rel_pb : ∀ (l : List TPart) (n : Int), (∀ p ∈ l, PB p) -> ∀ p ∈ rel n l, PB p
  | [], _, _, p, hp => by cases hp
  | x :: q, n, h, p, hp => by
    unfold rel at hp
    rcases List.mem_cons.1 hp with rfl | hp
    · have hx := h x List.mem_cons_self
      exact ⟨hx.n, by show (relS (n + 1) x.2.2).length ≤ 64; rw [relS_len]; exact hx.l, relS_sb _ _ hx.s⟩
    · exact rel_pb q _ (fun y hy => h y (List.mem_cons_of_mem _ hy)) p hp
theorem rel_rb {r : TRec} (h : RB r) (n : Int) : RB (r.1, rel n r.2) := ⟨h.n, by show (rel n r.2).length ≤ 8; rw [rel_len]; exact h.l, rel_pb _ _ h.p⟩
end Go.Proofs.Lx
end
section
namespace Go.Proofs.Lx
open Go Ev Sx Pl
set_option maxRecDepth 10000
def cst : TL -> Nat
  | [] => 0
  | t :: q => max 1 t.2.1.length + cst q
theorem cst_app : ∀ a b : TL, cst (a ++ b) = cst a + cst b
  | [], b => by rw [List.nil_append]; unfold cst; omega
  | t :: q, b => by
    have := cst_app q b
    show max 1 t.2.1.length + cst (q ++ b) = max 1 t.2.1.length + cst q + cst b
    omega
theorem toks_cst (a : Int) : ∀ (k : Nat) (s : List UInt8), s.length ≤ k -> cst (toksL a s).1 ≤ s.length
  | 0, s, h => by
    have : s = [] := List.eq_nil_of_length_eq_zero (by omega)
    subst this
    rw [toksL_nil rfl]
    exact Nat.le_refl _
  | k + 1, s, h => by
    match hd : s.dropWhile (fun c => isB c.toNat) with
    | [] => rw [toksL_nil hd]; exact Nat.zero_le _
    | c :: q =>
      have h3 := (List.dropWhile_suffix (l := s) (fun c => isB c.toNat)).length_le
      rw [hd, List.length_cons] at h3
      match h2 : tokS a c q with
      | .inl e => rw [toksL_err hd h2]; exact Nat.zero_le _
      | .inr (t, r) =>
        have h1 := tokS_text h2
        have hl := congrArg List.length h1.1
        rw [List.length_append, List.length_cons] at hl
        have hp := List.length_pos_iff.2 h1.2.1
        rw [toksL_tok hd h2]
        have ih := toks_cst a k r (by omega)
        show max 1 t.2.1.length + cst (toksL a r).1 ≤ s.length
        omega
theorem line_cst (a : Int) (s : List UInt8) : cst (lineT a s []).1 ≤ s.length + 1 := by
  have h := toks_cst a s.length s (Nat.le_refl _)
  rw [lineT_toks a s.length s [] (Nat.le_refl _), List.nil_append]
  split
  · exact Nat.zero_le _
  · dsimp only
    split
    · exact Nat.zero_le _
    · rw [cst_app]
      have : cst [tkEnd a] = 1 := rfl
      omega
theorem lexS_cst : ∀ (k : Nat) (s : List UInt8) (n : Int), s.length ≤ k -> cst (lexS n s []).1 ≤ s.length + 1
  | 0, s, n, h => by
    have : s = [] := List.eq_nil_of_length_eq_zero (by omega)
    subst this
    rw [lexS, dif_pos rfl]
    exact Nat.zero_le _
  | k + 1, s, n, h => by
    by_cases hs : s = []
    · rw [hs, lexS, dif_pos rfl]
      exact Nat.zero_le _
    · have hlt := lrest_len hs
      by_cases h1 : (lineT n (uncom (q1m_ s)) []).2 = 0
      · rw [lexS_one hs h1]
        have e1 := line_cst n (uncom (q1m_ s))
        have e2 := uncom_len (q1m_ s)
        have e3 := lexS_cst k (lrest s) (n + 1) (by omega)
        have e := congrArg List.length (List.takeWhile_append_dropWhile (p := (· != (10 : UInt8))) (l := s))
        rw [List.length_append] at e
        have e4 : (q1m_ s).length + (s.dropWhile (· != (10 : UInt8))).length = s.length := e
        have e5 : (lrest s).length = (s.dropWhile (· != (10 : UInt8))).length - 1 := by unfold lrest; rw [List.length_drop]
        dsimp only
        split
        · exact Nat.zero_le _
        · rw [cst_app]
          by_cases hr : lrest s = []
          · have : cst (lexS (n + 1) (lrest s) []).1 = 0 := by rw [hr, lexS, dif_pos rfl]; rfl
            omega
          · have := List.length_pos_iff.2 hr
            omega
      · rw [lexS_step hs, if_pos h1]
        exact Nat.zero_le _
theorem lexR_cst (s : List UInt8) : cst (lexR s).1 ≤ s.length + 1 := by
  unfold lexR
  split
  · exact Nat.zero_le _
  · exact lexS_cst _ s 1 (Nat.le_refl _)
theorem flat_cst (ts : TL) (a : Int) (rs : List (TL × Int)) : cst (flat ((ts, a) :: rs)) = cst ts + 1 + cst (flat rs) := by
  rw [flat_cons, cst_app]
  have : cst (tkEnd a :: flat rs) = 1 + cst (flat rs) := rfl
  show cst ts + cst (tkEnd a :: flat rs) = _
  omega
theorem noDot_len (s : List UInt8) : (noDot s).length ≤ s.length := by
  unfold noDot
  split
  · rw [List.length_dropLast]; omega
  · exact Nat.le_refl _
theorem rgt_of {d : Int × Int} {sg : Bool} {n D : Nat} (h : RtD d sg n D) : rgt d = true := by
  have h1 := h.right
  rw [right_eq] at h1
  injection h1 with h1
  exact congrArg Prod.fst h1
theorem num_right {t : List UInt8} {g : Int × Int} (h : parseS t = (g, true)) : rgt g = true ∧ 0 ≤ g.2 ∧ (shwd g).length ≤ t.length := by
  obtain ⟨sg, n, D, hr, hs⟩ := said_S h
  refine ⟨rgt_of hr, by rw [hr.e2]; omega, ?_⟩
  rw [shwd_eq hr]
  have hl : (shortS t).length ≤ t.length := by
    unfold shortS
    split
    · exact Nat.le_trans (noDot_len _) (stripz_len t)
    · exact Nat.le_refl _
  rcases hs with hs | ⟨h1, h2⟩
  · rw [hs]; exact hl
  · rw [h1] at hl
    rw [h2]
    exact Nat.le_trans (by decide) hl
theorem setT_cnt (s : TSet) : (setT s).length = 6 + s.1.length + (shwd s.2.1).length + (if s.2.2.1 = [] then 0 else 1 + s.2.2.1.length) := by
  unfold setT setW
  rw [lnB_len]
  by_cases hu : s.2.2.1 = []
  · rw [if_pos hu, if_pos hu]
    simp only [joinF, List.length_append, List.length_cons, List.length_nil]
    omega
  · rw [if_neg hu, if_neg hu]
    simp only [joinF, List.length_append, List.length_cons, List.length_nil]
    omega
theorem setOf_right {a : Int} {ts : TL} {s : TSet} (hg : ∀ t ∈ ts, GoodT a t) (h : setOf a ts = some s) : SB s ∧ (setT s).length ≤ 2 * (cst ts + 1) := by
  match ts with
  | [] => cases h
  | [x] => cases h
  | [x, y] => cases h
  | [x, y, z] =>
    by_cases hc : x.1 = 1 ∧ nameB x.2.1 = true ∧ y.1 = 3 ∧ z.1 = 2
    · have e : setOf a [x, y, z] = some (x.2.1, z.2.2.1, [], a) := if_pos hc
      rw [e] at h
      injection h with h
      subst h
      obtain ⟨h1, h2, h3, h4⟩ := hc
      have hn := num_right ((hg z (by simp)).n h4)
      refine ⟨⟨?_, hn.2.1⟩, ?_⟩
      · show (nameB x.2.1 && (rgt z.2.2.1 && unitB [])) = true
        rw [h2, hn.1]
        rfl
      · rw [setT_cnt, if_pos rfl]
        show 6 + x.2.1.length + (shwd z.2.2.1).length + 0 ≤ 2 * (max 1 x.2.1.length + (max 1 y.2.1.length + (max 1 z.2.1.length + 0)) + 1)
        have := hn.2.2
        omega
    · have e : setOf a [x, y, z] = none := if_neg hc
      rw [e] at h
      cases h
  | [x, y, z, u] =>
    by_cases hc : x.1 = 1 ∧ nameB x.2.1 = true ∧ y.1 = 3 ∧ z.1 = 2 ∧ u.1 = 1
    · have e : setOf a [x, y, z, u] = some (x.2.1, z.2.2.1, u.2.1, a) := if_pos hc
      rw [e] at h
      injection h with h
      subst h
      obtain ⟨h1, h2, h3, h4, h5⟩ := hc
      have hn := num_right ((hg z (by simp)).n h4)
      have hu := (hg u (by simp)).w h5
      refine ⟨⟨?_, hn.2.1⟩, ?_⟩
      · show (nameB x.2.1 && (rgt z.2.2.1 && unitB u.2.1)) = true
        rw [h2, hn.1, hu.1]
        rfl
      · rw [setT_cnt, if_neg hu.2]
        show 6 + x.2.1.length + (shwd z.2.2.1).length + (1 + u.2.1.length) ≤ 2 * (max 1 x.2.1.length + (max 1 y.2.1.length + (max 1 z.2.1.length + (max 1 u.2.1.length + 0))) + 1)
        have := hn.2.2
        omega
    · have e : setOf a [x, y, z, u] = none := if_neg hc
      rw [e] at h
      cases h
  | x :: y :: z :: u :: v :: q => cases h
theorem head_right {ts : TL} {w : List UInt8} (h : headB ts w = true) : nameB (second ts) = true ∧ (lnB [w, second ts]).length ≤ 2 * (cst ts + 1) := by
  obtain ⟨x, y, rfl⟩ := head_two h
  have h : (eqi x.1 1 && (eqs x.2.1 w && (eqi y.1 1 && nameB y.2.1))) = true := h
  simp only [Bool.and_eq_true] at h
  refine ⟨h.2.2.2, ?_⟩
  rw [lnB_len]
  have e := congrArg List.length (eqs_iff.1 h.2.1)
  show (joinF [32] [w, y.2.1]).length + 1 ≤ 2 * (max 1 x.2.1.length + (max 1 y.2.1.length + 0) + 1)
  simp only [joinF, List.length_append, List.length_cons, List.length_nil]
  omega
theorem end_cst {ts : TL} (h : isEnd ts = true) : cst ts = 3 := by
  match ts with
  | [] => cases h
  | [x] =>
    have h : (eqi x.1 1 && eqs x.2.1 sEnd) = true := h
    simp only [Bool.and_eq_true] at h
    have e := eqs_iff.1 h.2
    show max 1 x.2.1.length + 0 = 3
    rw [e]
    rfl
  | x :: y :: q => cases h
def lenS (w : Bool) (nm : List UInt8) (oo : Bool) (o : List TPart) (ol : List UInt8) (o2 : List TSet) : Nat :=
  (lnB [sRec, nm]).length + (o.flatMap partT).length + (if oo = true then (lnB [sSlv, ol]).length + (o2.flatMap setT).length + (if w = true then 0 else 4) else 0)
structure InvP (w : Bool) (nm : List UInt8) (oo : Bool) (o : List TPart) (ol : List UInt8) (o2 : List TSet) : Prop where
  nm : nameB nm = true
  os : ∀ p ∈ o, PB p
  c : oo = true -> nameB ol = true ∧ ∀ s ∈ o2, SB s
  h2 : o2.length ≤ 64
  ho : lenB oo o ≤ 8
  w : w = true -> oo = true
theorem all_pb {w : Bool} {nm : List UInt8} {oo : Bool} {o : List TPart} {ol : List UInt8} {ol2 : Int} {o2 : List TSet} (h : InvP w nm oo o ol o2) : ∀ p ∈ (if oo = true then o ++ [(ol, ol2, o2)] else o), PB p := by
  intro p hp
  cases oo with
  | true =>
    rcases List.mem_append.1 hp with hp | hp
    · exact h.os p hp
    · rw [List.mem_singleton.1 hp]
      exact ⟨(h.c rfl).1, h.h2, (h.c rfl).2⟩
  | false => exact h.os p hp
theorem all_text {nm : List UInt8} {oo : Bool} {o : List TPart} {ol : List UInt8} {ol2 : Int} {o2 : List TSet} : (lnB [sRec, nm]).length + ((if oo = true then o ++ [(ol, ol2, o2)] else o).flatMap partT).length = lenS false nm oo o ol o2 := by
  unfold lenS
  cases oo with
  | true =>
    rw [if_pos rfl, if_pos rfl, if_neg (by decide), List.flatMap_append, List.length_append]
    have : ([(ol, ol2, o2)] : List TPart).flatMap partT = lnB [sSlv, ol] ++ o2.flatMap setT ++ lnB [sEnd] := by
      rw [List.flatMap_cons, List.flatMap_nil, List.append_nil]
      rfl
    rw [this, List.length_append, List.length_append]
    have : (lnB [sEnd]).length = 4 := rfl
    omega
  | false => rfl
theorem pB_right : ∀ (rs : List (TL × Int)) (w : Bool) (nm : List UInt8) (oo : Bool) (o : List TPart) (ol : List UInt8) (ol2 : Int) (o2 : List TSet), (∀ p ∈ rs, ∀ t ∈ p.1, GoodT p.2 t) -> InvP w nm oo o ol o2 -> (pB rs w nm oo o ol ol2 o2).2.1 = 0 ->
    RB (pB rs w nm oo o ol ol2 o2).1 ∧ (printS (pB rs w nm oo o ol ol2 o2).1).length ≤ lenS w nm oo o ol o2 + 2 * cst (flat rs)
  | [], true, nm, oo, o, ol, ol2, o2, _, _, h => absurd h (by show ¬ (140 : Int) = 0; decide)
  | [], false, nm, oo, o, ol, ol2, o2, _, hI, _ => by
    have e : pB [] false nm oo o ol ol2 o2 = ((nm, if oo = true then o ++ [(ol, ol2, o2)] else o), (0, 0)) := rfl
    rw [e]
    refine ⟨⟨hI.nm, by show (if oo = true then o ++ [(ol, ol2, o2)] else o).length ≤ 8; rw [all_len]; exact hI.ho, all_pb hI⟩, ?_⟩
    show (printS (nm, if oo = true then o ++ [(ol, ol2, o2)] else o)).length ≤ _
    unfold printS
    rw [List.length_append]
    dsimp only
    rw [all_text]
    omega
  | (ts, a) :: rs, true, nm, oo, o, ol, ol2, o2, hg, hI, h => by
    have hoo := hI.w rfl
    subst hoo
    have hgr : ∀ p ∈ rs, ∀ t ∈ p.1, GoodT p.2 t := fun p hp => hg p (List.mem_cons_of_mem _ hp)
    have hgt : ∀ t ∈ ts, GoodT a t := hg (ts, a) List.mem_cons_self
    rw [flat_cst]
    have e : pB ((ts, a) :: rs) true nm true o ol ol2 o2 = if isEnd ts = true then pB rs false nm true o ol ol2 o2 else match setOf a ts with
      | none => pFail 140 a
      | some s => if o2.length = 64 then pFail 130 a else pB rs true nm true o ol ol2 (o2 ++ [s]) := rfl
    rw [e] at h ⊢
    by_cases he : isEnd ts = true
    · rw [if_pos he] at h ⊢
      have ih := pB_right rs false nm true o ol ol2 o2 hgr ⟨hI.nm, hI.os, hI.c, hI.h2, hI.ho, fun e => by cases e⟩ h
      refine ⟨ih.1, Nat.le_trans ih.2 ?_⟩
      have := end_cst he
      unfold lenS
      rw [if_pos rfl, if_pos rfl, if_pos rfl, if_neg (by decide)]
      omega
    · rw [if_neg he] at h ⊢
      cases hs : setOf a ts with
      | none =>
        rw [hs] at h
        exact absurd h (by show ¬ (140 : Int) = 0; decide)
      | some s =>
        rw [hs] at h
        dsimp only at h ⊢
        by_cases h64 : o2.length = 64
        · rw [if_pos h64] at h
          exact absurd h (by show ¬ (130 : Int) = 0; decide)
        · rw [if_neg h64] at h ⊢
          have hr := setOf_right hgt hs
          have h2 := hI.h2
          have ih := pB_right rs true nm true o ol ol2 (o2 ++ [s]) hgr ⟨hI.nm, hI.os, fun _ => ⟨(hI.c rfl).1, fun x hx => by
            rcases List.mem_append.1 hx with hx | hx
            · exact (hI.c rfl).2 x hx
            · rw [List.mem_singleton.1 hx]; exact hr.1⟩, by rw [List.length_append]; simp; omega, hI.ho, fun _ => rfl⟩ h
          refine ⟨ih.1, Nat.le_trans ih.2 ?_⟩
          have h3 := hr.2
          unfold lenS
          rw [if_pos rfl, if_pos rfl, if_pos rfl, List.flatMap_append, List.length_append, List.flatMap_cons, List.flatMap_nil, List.append_nil]
          omega
  | (ts, a) :: rs, false, nm, oo, o, ol, ol2, o2, hg, hI, h => by
    have hgr : ∀ p ∈ rs, ∀ t ∈ p.1, GoodT p.2 t := fun p hp => hg p (List.mem_cons_of_mem _ hp)
    rw [flat_cst]
    have e : pB ((ts, a) :: rs) false nm oo o ol ol2 o2 = if headB ts sSlv = false then pFail 140 a else if lenB oo o = 8 then pFail 130 a
      else pB rs true nm true (if oo = true then o ++ [(ol, ol2, o2)] else o) (second ts) a [] := rfl
    rw [e] at h ⊢
    cases hh : headB ts sSlv with
    | false =>
      rw [hh] at h
      exact absurd h (by show ¬ (140 : Int) = 0; decide)
    | true =>
      rw [hh, if_neg (by decide)] at h
      rw [if_neg (by decide)]
      by_cases h8 : lenB oo o = 8
      · rw [if_pos h8] at h
        exact absurd h (by show ¬ (130 : Int) = 0; decide)
      · rw [if_neg h8] at h ⊢
        have hr := head_right hh
        have ho := hI.ho
        have ih := pB_right rs true nm true (if oo = true then o ++ [(ol, ol2, o2)] else o) (second ts) a [] hgr ⟨hI.nm, all_pb hI, fun _ => ⟨hr.1, fun x hx => by cases hx⟩, by simp, by
          show (if true = true then (if oo = true then o ++ [(ol, ol2, o2)] else o).length + 1 else _) ≤ 8
          rw [if_pos rfl, all_len]
          omega, fun _ => rfl⟩ h
        refine ⟨ih.1, Nat.le_trans ih.2 ?_⟩
        have h3 := hr.2
        have h4 := all_text (nm := nm) (oo := oo) (o := o) (ol := ol) (ol2 := ol2) (o2 := o2)
        rw [<- h4]
        unfold lenS
        rw [if_pos rfl, if_pos rfl, List.flatMap_nil, List.length_nil]
        omega
theorem parse_right {s : List UInt8} {rs : List (TL × Int)} (hr : (lexR s).2.1 = 0 -> RowsT (lexR s).1 rs) (h : (parseR s rs).2.1 = 0) : RB (parseR s rs).1 ∧ (printS (parseR s rs).1).length ≤ 2 * (s.length + 1) := by
  unfold parseR at h ⊢
  by_cases h0 : (lexR s).2.1 = 0
  · rw [if_pos h0] at h ⊢
    have hr := hr h0
    have hc := lexR_cst s
    rw [show (lexR s).1 = flat rs from hr.e] at hc
    match rs, hr, h, hc with
    | [], _, h, _ => exact absurd h (by show ¬ (140 : Int) = 0; decide)
    | (ts, a) :: rs, hr, h, hc =>
      rw [flat_cst] at hc
      rw [pS_cons] at h ⊢
      cases hh : headB ts sRec with
      | false =>
        rw [hh] at h
        exact absurd h (by show ¬ (140 : Int) = 0; decide)
      | true =>
        rw [hh, if_neg (by decide)] at h
        rw [if_neg (by decide)]
        have hd := head_right hh
        have ih := pB_right rs false (second ts) false [] [] 0 [] (fun p hp => (hr.g p (List.mem_cons_of_mem _ hp)).2) ⟨hd.1, fun p hp => (by cases hp), fun e => (by cases e), (by simp), (by decide), fun e => (by cases e)⟩ h
        refine ⟨ih.1, Nat.le_trans ih.2 ?_⟩
        have h3 := hd.2
        unfold lenS
        rw [if_neg (by decide), List.flatMap_nil, List.length_nil]
        omega
  · rw [if_neg h0] at h
    exact absurd h h0
end Go.Proofs.Lx
end
section
open Go Go.Proofs Ev Sx
set_option maxRecDepth 100000
namespace Go.Proofs.Lx
abbrev QDT0 : Type := (List UInt8 × Int × List (List UInt8 × (Int × Int) × List UInt8 × Int))
abbrev QDT1 : Ty := (.sl (.pr .str (.pr (.int .i64) (.sl (.pr .str (.pr (.pr (.int .i64) (.int .u8)) (.pr .str (.int .i64))))))))
@[reducible] def qu_ : Sh := ⟨[.d (.pr .str QDT1), .d (.str)], [], [.pr .str QDT1, .str], [.d (.bool)], [], 0, [.bool]⟩
def q13_ : Env := (cts [(9, (⟨q1a_, q85_⟩ : Ct)), (12, (⟨qk_, q3e_⟩ : Ct)), (13, (⟨q31_, q30_⟩ : Ct)), (16, (⟨qcz_, q4m_⟩ : Ct)), (19, (⟨qcq_, q7o_⟩ : Ct)), (21, (⟨qh_, q44_⟩ : Ct))])
def q14_ : List (Nat × Hint) := [(7, ⟨[], [1, 76, 77, 78, 81, 101, 104, 105, 106, 109, 110, 111, 114, 117, 118, 119, 122]⟩), (237, ⟨[], [1, 60, 76, 77, 78, 81, 101, 104, 105, 106, 109, 110, 111, 114, 117, 118, 119, 122]⟩), (6, ⟨[], [1, 2, 24, 41, 42, 43, 44, 45, 46, 47, 48, 49, 52, 53, 54, 55, 56, 57, 58, 59, 76, 77, 78, 81, 101, 104, 105, 106, 109, 110, 111, 114, 117, 118, 119, 122]⟩)]
def q5n_ (text : List UInt8) (t24 : Bool) (r : List UInt8 × List QDT0) : St := { fr := [(1, .d .str text), (2, .pb 0 0), (24, .d .bool t24)], nt := 124, up := [], own := [(0, .box 26 [.d .str r.1, .d QDT1 r.2])], nx := 1, log := [], ln := 0 }
def q5r_ (text : List UInt8) (t60 : Bool) : St := { fr := [(1, .d .str text), (60, .d .bool t60)], nt := 124, up := [], own := [], nx := 0, log := [], ln := 0 }
def q3q_ (text : List UInt8) : St := { fr := [(1, .d .str text)], nt := 124, up := [], own := [], nx := 0, log := [], ln := 0 }
def q5p_ (j2 : List UInt8 -> Bool -> Option (As [.bool])) (j3 : List UInt8 -> Option (As [.bool])) (text : List UInt8) (t24 : Bool) (r : List UInt8 × List QDT0) : Option (As [.bool]) :=
  if t24 = true then Option.bind (q4m_ ()) fun (y : Bool × Unit) => some (y.1, ()) else Option.bind (q3e_ (r, ())) fun (y : List UInt8 × Bool × Unit) => if y.2.1 = true then Option.bind (q30_ (y.1, ())) fun (y_1 : (List UInt8 × List QDT0) × (Int × Int) × Unit) => if le (Int.ofNat (List.length y.1)) 8192 = true then if nei y_1.2.1.1 0 = true then j2 text true else Option.bind (q7o_ (y_1.1, r, ())) fun (y_2 : Bool × Unit) => if (!y_2.1) = true then j2 text true else if gt (Int.ofNat (List.length y.1)) 8192 = true then j2 text (nei y_1.2.1.1 130) else j2 text false else if gt (Int.ofNat (List.length y.1)) 8192 = true then j2 text (nei y_1.2.1.1 130) else j2 text false else Option.bind (q44_ (r, ())) fun (y : Bool × Unit) => if y.1 = true then some (false, ()) else j3 text
def qa6_ (j3 : List UInt8 -> Option (As [.bool])) (text : List UInt8) (t60 : Bool) : Option (As [.bool]) :=
  if t60 = true then some (false, ()) else j3 text
def q7p_ (text : List UInt8) : Option (As [.bool]) :=
  Option.bind (q30_ (text, ())) fun (y : (List UInt8 × List QDT0) × (Int × Int) × Unit) => if nei y.2.1.1 0 = true then if eqi (Int.ofNat (List.length y.1.2)) 0 = true then if eqs y.1.1 [] = true then Option.bind (q4m_ ()) fun (y : Bool × Unit) => some (y.1, ()) else some (false, ()) else some (false, ()) else Option.bind (q3e_ (y.1, ())) fun (y_1 : List UInt8 × Bool × Unit) => Option.bind (q30_ (y_1.1, ())) fun (y_2 : (List UInt8 × List QDT0) × (Int × Int) × Unit) => Option.bind (q3e_ (y_2.1, ())) fun (y_3 : List UInt8 × Bool × Unit) => Option.bind (q44_ (y.1, ())) fun (y_4 : Bool × Unit) => if y_4.1 = true then if y_1.2.1 = true then if eqi y_2.2.1.1 0 = true then Option.bind (q7o_ (y.1, y_2.1, ())) fun (y : Bool × Unit) => if y.1 = true then if y_3.2.1 = true then if eqs y_1.1 y_3.1 = true then Option.bind (q4m_ ()) fun (y : Bool × Unit) => some (y.1, ()) else some (false, ()) else some (false, ()) else some (false, ()) else some (false, ()) else some (false, ()) else some (false, ())
def q5q_ (j1 : List UInt8 -> Bool -> List UInt8 × List QDT0 -> Option (As [.bool])) (r : List UInt8 × List QDT0) (text : List UInt8) : Option (As [.bool]) :=
  Option.bind (q85_ (r, ())) fun (y : Bool × Unit) => if (!y.1) = true then j1 text true r else j1 text (gt (Int.ofNat (List.length text)) 4000) r
def q36_ (text : List UInt8) : Option (As [.bool]) := q7p_ text
def q5o_ (text : List UInt8) (t60 : Bool) : Option (As [.bool]) := qa6_ (q36_) text t60
def q35_ (text : List UInt8) (t24 : Bool) (r : List UInt8 × List QDT0) : Option (As [.bool]) := q5p_ (q5o_) (q36_) text t24 r
def q7a_ (x : As [.pr .str QDT1, .str]) : Option (As [.bool]) := q5q_ q35_ x.1 x.2.1
theorem qd7_  (J text) : pfn Tryz.prog q13_ 6 18446744073709551616 (Ev.get q14_) 5 qu_ J 7 [] (q3q_ text) = q7p_ text := by kernel_rfl
theorem qd5_  (J text t60) : pfn Tryz.prog q13_ 6 18446744073709551616 (Ev.get q14_) 5 qu_ J 237 [] (q5r_ text t60) = qa6_ (fun text => J 7 [] (q3q_ text)) text t60 := by kernel_rfl
theorem qd2_  (J text t24 r) : pfn Tryz.prog q13_ 6 18446744073709551616 (Ev.get q14_) 5 qu_ J 6 [] (q5n_ text t24 r) = q5p_ (fun text t60 => J 237 [] (q5r_ text t60)) (fun text => J 7 [] (q3q_ text)) text t24 r := by kernel_rfl
theorem qd4_ (J : Orc (As [.bool])) (x : As [.pr .str QDT1, .str]) : rfn Tryz.prog q13_ 6 18446744073709551616 (Ev.get q14_) 5 qu_ J x = q5q_ (fun text t24 r => J 6 [] (q5n_ text t24 r)) x.1 x.2.1 := by kernel_rfl
theorem qa5_  (text) : jfn Tryz.prog q13_ 6 18446744073709551616 (Ev.get q14_) 5 qu_ 7 [] (q3q_ text) = q36_ text := by
  rw [q5_ (by decide)]
  rw [qd7_]
  rfl
theorem qd6_  (text t60) : jfn Tryz.prog q13_ 6 18446744073709551616 (Ev.get q14_) 5 qu_ 237 [] (q5r_ text t60) = q5o_ text t60 := by
  rw [q5_ (by decide)]
  have e3 : (fun text => (jfn Tryz.prog q13_ 6 18446744073709551616 (Ev.get q14_) 5 qu_) 7 [] (q3q_ text)) = q36_ := funext fun text => qa5_ text
  rw [qd5_, e3]
  rfl
theorem qd3_  (text t24 r) : jfn Tryz.prog q13_ 6 18446744073709551616 (Ev.get q14_) 5 qu_ 6 [] (q5n_ text t24 r) = q35_ text t24 r := by
  rw [q5_ (by decide)]
  have e2 : (fun text t60 => (jfn Tryz.prog q13_ 6 18446744073709551616 (Ev.get q14_) 5 qu_) 237 [] (q5r_ text t60)) = q5o_ := by funext text t60; exact qd6_ text t60
  have e3 : (fun text => (jfn Tryz.prog q13_ 6 18446744073709551616 (Ev.get q14_) 5 qu_) 7 [] (q3q_ text)) = q36_ := funext fun text => qa5_ text
  rw [qd2_, e2, e3]
  rfl
theorem qdj_ (x : As [.pr .str QDT1, .str]) : evT Tryz.prog q13_ 6 18446744073709551616 (Ev.get q14_) 5 qu_ x = q7a_ x := by
  have e1 : (fun text t24 r => (jfn Tryz.prog q13_ 6 18446744073709551616 (Ev.get q14_) 5 qu_) 6 [] (q5n_ text t24 r)) = q35_ := by funext text t24 r; exact qd3_ text t24 r
  rw [rfn_eq, qd4_, e1]
  rfl
theorem qd1_ : CtOk Tryz.prog I0 5 ⟨qu_, q7a_⟩ := q18_ (q0_ qkw_ (q0_ qbt_ (q0_ q9m_ (q0_ qii_ (q0_ qht_ (q0_ qbq_ qa_)))))) qdj_
end Go.Proofs.Lx
end
section
namespace Go.Proofs.Lx
open Go Ev Sx Pl
set_option maxRecDepth 10000
theorem pB_err : ∀ (rs : List (TL × Int)) (w : Bool) (nm : List UInt8) (oo : Bool) (o : List TPart) (ol : List UInt8) (ol2 : Int) (o2 : List TSet), (pB rs w nm oo o ol ol2 o2).2.1 ≠ 0 -> (pB rs w nm oo o ol ol2 o2).1 = ([], [])
  | [], true, nm, oo, o, ol, ol2, o2, _ => rfl
  | [], false, nm, oo, o, ol, ol2, o2, h => absurd rfl h
  | (ts, a) :: rs, true, nm, oo, o, ol, ol2, o2, h => by
    have e : pB ((ts, a) :: rs) true nm oo o ol ol2 o2 = if isEnd ts = true then pB rs false nm oo o ol ol2 o2 else match setOf a ts with
      | none => pFail 140 a
      | some s => if o2.length = 64 then pFail 130 a else pB rs true nm oo o ol ol2 (o2 ++ [s]) := rfl
    rw [e] at h ⊢
    by_cases he : isEnd ts = true
    · rw [if_pos he] at h ⊢
      exact pB_err rs _ _ _ _ _ _ _ h
    · rw [if_neg he] at h ⊢
      cases hs : setOf a ts with
      | none => rfl
      | some s =>
        rw [hs] at h
        dsimp only at h ⊢
        by_cases h64 : o2.length = 64
        · rw [if_pos h64]; rfl
        · rw [if_neg h64] at h ⊢
          exact pB_err rs _ _ _ _ _ _ _ h
  | (ts, a) :: rs, false, nm, oo, o, ol, ol2, o2, h => by
    have e : pB ((ts, a) :: rs) false nm oo o ol ol2 o2 = if headB ts sSlv = false then pFail 140 a else if lenB oo o = 8 then pFail 130 a
      else pB rs true nm true (if oo = true then o ++ [(ol, ol2, o2)] else o) (second ts) a [] := rfl
    rw [e] at h ⊢
    by_cases hh : headB ts sSlv = false
    · rw [if_pos hh]; rfl
    · rw [if_neg hh] at h ⊢
      by_cases h8 : lenB oo o = 8
      · rw [if_pos h8]; rfl
      · rw [if_neg h8] at h ⊢
        exact pB_err rs _ _ _ _ _ _ _ h
theorem parseR_err {s : List UInt8} {rs : List (TL × Int)} (h : (parseR s rs).2.1 ≠ 0) : (parseR s rs).1 = ([], []) := by
  unfold parseR at h ⊢
  by_cases h0 : (lexR s).2.1 = 0
  · rw [if_pos h0] at h ⊢
    match rs, h with
    | [], _ => rfl
    | (ts, a) :: rs, h =>
      rw [pS_cons] at h ⊢
      by_cases hh : headB ts sRec = false
      · rw [if_pos hh]; rfl
      · rw [if_neg hh] at h ⊢
        exact pB_err rs _ _ _ _ _ _ _ h
  · rw [if_neg h0]
theorem RB.l1 {r : TRec} (h : RB r) : r.2.length ≤ 1000000 := by have := h.l; omega
theorem RB.l2 {r : TRec} (h : RB r) : ∀ p ∈ r.2, p.2.2.length ≤ 1000000 := fun p hp => by have := (h.p p hp).l; omega
theorem RB.print {r : TRec} (h : RB r) : q3e_ (r, ()) = some (printS r, true, ()) := print_yes h.b h.d h.l1 h.l2
theorem back_K3 {text : List UInt8} (hl : text.length ≤ 4000) : q36_ text = some (true, ()) := by
  obtain ⟨rs, hrs⟩ := lex_rs text
  unfold q36_ q7p_
  rw [rparse_eq hrs]
  unfold pR
  rw [Option.bind_some]
  dsimp only
  by_cases h0 : (parseR text rs).2.1 = 0
  · obtain ⟨hb, hlen⟩ := parse_right hrs h0
    rw [if_neg (fun e => qq_.1 e h0)]
    generalize (parseR text rs).1 = x at hb hlen
    have hb2 := rel_rb hb 2
    rw [hb.print, Option.bind_some]
    dsimp only
    rw [print_parse hb, if_neg (by omega)]
    unfold pR
    rw [Option.bind_some]
    dsimp only
    rw [hb2.print, Option.bind_some, right_eq' hb.l1 hb.l2, Option.bind_some, hb.b, if_pos rfl, if_pos rfl, if_pos (q2k_.2 rfl), same_eq hb.l1 hb.l2, Option.bind_some, (rel_sameR x 2).2, if_pos rfl, if_pos rfl, rel_print, if_pos (eqs_iff.2 rfl), awake14]
    rfl
  · rw [if_pos (qq_.2 h0), parseR_err h0]
    rw [if_pos (show eqi (Int.ofNat ([] : List TPart).length) 0 = true from rfl), if_pos (show eqs [] [] = true from rfl), awake14]
    rfl
theorem back_law {text : List UInt8} {r : TRec} (hd : ∀ p ∈ r.2, ∀ s ∈ p.2.2, 0 ≤ s.2.1.2) : q7a_ (r, text, ()) = some (true, ()) := by
  have T : q35_ text true r = some (true, ()) := by
    unfold q35_ q5p_
    rw [if_pos rfl, awake14]
    rfl
  show q5q_ q35_ r text = _
  unfold q5q_
  rw [few_eq, Option.bind_some]
  cases hf : fewB r with
  | false => exact T
  | true =>
    rw [if_neg (show ¬ (!true) = true by decide)]
    by_cases hl : text.length ≤ 4000
    · have e : gt (Int.ofNat text.length) 4000 = false := by
        have := gtn (n := text.length) (k := 4000)
        rw [decide_eq_true hl] at this
        exact this
      rw [e]
      have hfl := few_len hf
      have h1 : r.2.length ≤ 1000000 := by omega
      have h2 : ∀ p ∈ r.2, p.2.2.length ≤ 1000000 := fun p hp => by have := (hfl.2.2 p hp).1; omega
      unfold q35_ q5p_
      rw [if_neg (by decide)]
      have K2 : q5o_ text false = some (true, ()) := back_K3 hl
      cases hr : rightB r with
      | false =>
        rw [print_no hr h1 h2, Option.bind_some]
        dsimp only
        rw [if_neg (by decide), right_eq' h1 h2, hr, Option.bind_some, if_neg (by decide)]
        exact back_K3 hl
      | true =>
        have hb := rb_of hr hd
        rw [hb.print, Option.bind_some]
        dsimp only
        rw [if_pos rfl, print_parse hb]
        by_cases hlong : 8192 < (printS r).length
        · rw [if_pos hlong]
          unfold pR
          rw [Option.bind_some]
          dsimp only
          rw [if_neg (show ¬ le (Int.ofNat (printS r).length) 8192 = true by rw [le_iff, q4_]; omega), if_pos (show gt (Int.ofNat (printS r).length) 8192 = true by rw [gt_iff, q4_]; omega)]
          exact K2
        · rw [if_neg hlong]
          unfold pR
          rw [Option.bind_some]
          dsimp only
          have hb2 := rel_rb hb 2
          rw [if_pos (show le (Int.ofNat (printS r).length) 8192 = true by rw [le_iff, q4_]; omega), if_neg (fun e => qq_.1 e rfl), same_eq hb2.l1 hb2.l2, Option.bind_some, (rel_sameR r 2).1, if_neg (by decide), if_neg (show ¬ gt (Int.ofNat (printS r).length) 8192 = true by rw [gt_iff, q4_]; omega)]
          exact K2
    · have e : gt (Int.ofNat text.length) 4000 = true := gt_iff.2 (by rw [q4_]; omega)
      rw [e]
      exact T
end Go.Proofs.Lx
end
section
namespace Go.Proofs.Lx
open Go Go.RowKit Go.ChangeShapes Go.Proofs Go.Proofs.YtnamnibaedolaaaGreatDoor
theorem gP : Tryz.prog.globalNamed p10 = some 1 := by kernel_rfl
theorem heap_var {W W' : World} {n : String} {g : Nat} {cs : Array Value} (hg : Tryz.prog.globalNamed n = some g) (h : W.var? Tryz.prog n = some cs) (hB : Below W.heap.size W W') : W'.var? Tryz.prog n = some cs := by
  unfold World.var? at h ⊢
  rw [hg] at h ⊢
  simp only [Option.bind_some] at h ⊢
  have hlt : g < W.heap.size := by
    rcases Nat.lt_or_ge g W.heap.size with h' | h'
    · exact h'
    · simp [Array.getElem?_eq_none h'] at h
  rw [hB.block g hlt]
  exact h
theorem I0_laid {W : World} (hL : laidMet Tryz.prog Rows.recipeTellsRow.laid W) : ∀ W', Below W.heap.size W W' -> I0 W' := by
  intro W' hB
  have t2 : laidMet Tryz.prog ((p10, Lib.tabData .u64 Lib.pow10Tab) :: (Rows.recipeTellsRow.laid.drop 3)) W := hL.tail.tail
  exact heap_var gP (Lib.tabIs_of_head gP (t := 210) (by kernel_rfl) Tryz.underlying210 Tryz.underlying150 (by kernel_rfl) (by kernel_rfl) t2) hB
open Ev Sx
theorem ok8u {x : Int} (h : (Lit.int .u8 x).wf = true) : 0 ≤ x ∧ x ≤ 255 := by
  simp [Lit.wf] at h
  have e1 : IntKind.u8.min = 0 := rfl
  have e2 : IntKind.u8.max = 255 := rfl
  omega
end Go.Proofs.Lx
end
section
namespace Go.Proofs.Lx
open Go Ev Sx Go.RowKit Go.ChangeShapes Go.Proofs
theorem I0_laid_back {W : World} (hL : laidMet Tryz.prog YtnamnibaedolaaaGreatDoor.Rows.recipeBackRow.laid W) : ∀ W', Below W.heap.size W W' -> I0 W' := I0_laid hL
theorem rb_row (x : As [.pr .str QDT1, .str]) (h : Rw.okA [.pr .str QDT1, .str] x) : q7a_ x = some (true, ()) :=
  back_law (r := x.1) (text := x.2.1) fun p hp s hs => by
    have h1 := h.1.2.2 p hp
    have h2 := h1.2.2.2 s hs
    exact (ok8u h2.2.1.2).1
end Go.Proofs.Lx
end
