/- Proved in the last of these 10 parts (this is part 9): the law RecipeWrong of chapter 14 returns true at every recipe, every place and every line. Conditions: those of the given statement, and no others. -/
import Derived.Test.YtnamnibaedolaaaGreatDoorParth
import Derived.Test.YtnamnibaedolaaaGreatDoorParte
import Derived.Test.YtnamnibaedolaaaGreatDoorProg
import Derived.Stop.LaidErr
import Derived.Lib.LaidTab
set_option linter.unusedVariables false
set_option linter.unusedSimpArgs false
set_option linter.unusedSectionVars false
section
namespace Go.Proofs.Lx
open Go Ev Sx Pl
set_option maxRecDepth 100000
abbrev dd (n : Nat) : List UInt8 := Lib.decDigits n
theorem dd_small {n : Nat} (h : n < 10) : dd n = [UInt8.ofNat (48 + n)] := by rw [dd, Lib.decDigits, dif_pos h]
theorem dd_big {n : Nat} (h : ¬ n < 10) : dd n = dd (n / 10) ++ [UInt8.ofNat (48 + n % 10)] := by
  conv => lhs; rw [dd, Lib.decDigits, dif_neg h]
theorem dig8 {k : Nat} (h : k < 10) : (UInt8.ofNat (48 + k)).toNat = 48 + k := by
  rw [UInt8.toNat_ofNat']
  omega
theorem dd_dig (n : Nat) : ∀ c ∈ dd n, dg c = true := by
  induction n using Nat.strongRecOn with
  | ind n ih =>
    intro c hc
    by_cases h : n < 10
    · rw [dd_small h] at hc
      cases List.mem_singleton.1 hc
      rw [dg_iff, dig8 h]
      omega
    · rw [dd_big h] at hc
      rcases List.mem_append.1 hc with hc | hc
      · exact ih (n / 10) (by omega) c hc
      · cases List.mem_singleton.1 hc
        rw [dg_iff, dig8 (by omega)]
        omega
theorem dd_ne (n : Nat) : dd n ≠ [] := by
  by_cases h : n < 10
  · rw [dd_small h]; simp
  · rw [dd_big h]; simp
theorem dvn_dig {a : Int} {k : Nat} (h : k < 10) : dvn a [UInt8.ofNat (48 + k)] = 10 * a + k := by
  show 10 * a + (((UInt8.ofNat (48 + k)).toNat : Int) - 48) = _
  rw [dig8 h]
  omega
theorem dvn_dd (n : Nat) : dvn 0 (dd n) = n := by
  induction n using Nat.strongRecOn with
  | ind n ih =>
    by_cases h : n < 10
    · rw [dd_small h, dvn_dig h]
      omega
    · rw [dd_big h, dvn_app, ih (n / 10) (by omega), dvn_dig (by omega)]
      omega
theorem dd_head {n : Nat} (h : 1 ≤ n) : (dd n)[0]? ≠ some 48 := by
  induction n using Nat.strongRecOn with
  | ind n ih =>
    by_cases h1 : n < 10
    · rw [dd_small h1]
      intro e
      have e : UInt8.ofNat (48 + n) = 48 := Option.some.inj e
      have := congrArg UInt8.toNat e
      rw [dig8 h1] at this
      have e48 : (48 : UInt8).toNat = 48 := rfl
      omega
    · rw [dd_big h1, List.getElem?_append_left (by have := dd_ne (n / 10); exact List.length_pos_iff.2 this)]
      exact ih (n / 10) (by omega) (by omega)
theorem dd_one {n : Nat} (h : 1 < (dd n).length) : (dd n)[0]? ≠ some 48 := by
  refine dd_head ?_
  rcases Nat.eq_zero_or_pos n with h0 | h0
  · subst h0
    rw [dd_small (by omega)] at h
    simp at h
  · exact h0
theorem dd_len {n k : Nat} (hk : 1 ≤ k) (h : n < 10 ^ k) : (dd n).length ≤ k := by
  induction n using Nat.strongRecOn generalizing k with
  | ind n ih =>
    by_cases h1 : n < 10
    · rw [dd_small h1]
      exact hk
    · rw [dd_big h1]
      obtain ⟨j, rfl⟩ : ∃ j, k = j + 2 := ⟨k - 2, by
        have : k ≠ 1 := fun e => by subst e; omega
        omega⟩
      have := ih (n / 10) (by omega) (k := j + 1) (by omega) (by rw [Nat.pow_succ] at h; omega)
      simp
      omega
def fx : Nat -> Nat -> List UInt8
  | 0, _ => []
  | k + 1, m => fx k (m / 10) ++ [UInt8.ofNat (48 + m % 10)]
theorem fx_len : ∀ k m, (fx k m).length = k
  | 0, _ => rfl
  | k + 1, m => by rw [fx, List.length_append, fx_len k]; rfl
theorem fx_zero : ∀ k, fx k 0 = List.replicate k 48
  | 0 => rfl
  | k + 1 => by
    rw [fx, Nat.zero_div, fx_zero k, List.replicate_succ']
    rfl
theorem fx_dig : ∀ k m, ∀ c ∈ fx k m, dg c = true
  | 0, _, c, h => by cases h
  | k + 1, m, c, h => by
    rw [fx] at h
    rcases List.mem_append.1 h with h | h
    · exact fx_dig k _ c h
    · cases List.mem_singleton.1 h
      rw [dg_iff, dig8 (by omega)]
      omega
theorem dvn_fx : ∀ (k m : Nat) (a : Int), m < 10 ^ k -> dvn a (fx k m) = a * ((10 ^ k : Nat) : Int) + m
  | 0, m, a, h => by
    have h : m < 1 := by simpa using h
    have : m = 0 := by omega
    subst this
    show a = a * 1 + 0
    omega
  | k + 1, m, a, h => by
    rw [fx, dvn_app, dvn_fx k (m / 10) a (by rw [Nat.pow_succ] at h; omega), dvn_dig (by omega), Nat.pow_succ]
    push_cast
    have : (m : Int) = 10 * ((m / 10 : Nat) : Int) + ((m % 10 : Nat) : Int) := by omega
    rw [Int.mul_add, <- Int.mul_assoc, Int.mul_comm 10 a, Int.mul_assoc, Int.mul_comm 10]
    omega
theorem pad_fx : ∀ (k m : Nat), 1 ≤ k -> m < 10 ^ k -> List.replicate (k - (dd m).length) 48 ++ dd m = fx k m
  | 0, _, h, _ => by omega
  | k + 1, m, _, h => by
    by_cases h1 : m < 10
    · rw [dd_small h1, fx, Nat.div_eq_of_lt h1, fx_zero, Nat.mod_eq_of_lt h1]
      rfl
    · have hk : 1 ≤ k := by
        rcases Nat.eq_zero_or_pos k with e | e
        · subst e; simp at h; omega
        · exact e
      have ih := pad_fx k (m / 10) hk (by rw [Nat.pow_succ] at h; omega)
      rw [dd_big h1, fx, <- ih, List.length_append, List.append_assoc]
      congr 2
      show k + 1 - ((dd (m / 10)).length + 1) = _
      omega
theorem stripz_fx {k m : Nat} (hk : 1 ≤ k) (hm : m % 10 ≠ 0) : qu_ (fx k m) = fx k m := by
  obtain ⟨j, rfl⟩ : ∃ j, k = j + 1 := ⟨k - 1, by omega⟩
  rw [fx]
  refine stripz_snoc _ fun e => ?_
  have := congrArg UInt8.toNat e
  rw [dig8 (by omega)] at this
  have e48 : (48 : UInt8).toNat = 48 := rfl
  omega
theorem stripz_rep (q : List UInt8) : ∀ k, qu_ (q ++ List.replicate k 48) = qu_ q
  | 0 => by simp
  | k + 1 => by rw [List.replicate_succ', <- List.append_assoc, stripz_snoc0, stripz_rep q k]
end Go.Proofs.Lx
end
section
namespace Go.Proofs.Lx
open Go Ev Sx Pl
set_option maxRecDepth 100000
structure RtD (d : Int × Int) (sg : Bool) (n D : Nat) : Prop where
  e1 : d.1 = if sg then -(n : Int) else (n : Int)
  e2 : d.2 = (D : Int)
  nz : sg = true -> n ≠ 0
  le : n ≤ 1000000000000
  d6 : D ≤ 6
  tz : D ≠ 0 -> n % 10 ≠ 0
def shw (sg : Bool) (n D : Nat) : List UInt8 := (if sg then [45] else []) ++ dd (n / 10 ^ D) ++ (if D = 0 then [] else 46 :: fx D (n % 10 ^ D))
theorem dot_no {w : List UInt8} (h : ∀ c ∈ w, dg c = true) : (46 : UInt8) ∉ w := fun hm => by
  have := dg_iff.1 (h 46 hm)
  have e : (46 : UInt8).toNat = 46 := rfl
  omega
theorem digs_of {w : List UInt8} (h : ∀ c ∈ w, dg c = true) (hne : w ≠ []) : digs w = true := digs_iff.2 ⟨h, hne⟩
theorem dd_ok (n : Nat) : ¬ (digs (dd n) = false ∨ (1 < (dd n).length ∧ (dd n)[0]? = some 48)) := by
  rintro (h | ⟨h1, h2⟩)
  · rw [digs_of (dd_dig n) (dd_ne n)] at h
    cases h
  · exact dd_one h1 h2
theorem pieces_no {sg : Bool} {n : Nat} (h : n ≤ 1000000000000) : q3h_ sg (dd n) [] false = ((if sg then -(n : Int) else (n : Int), 0), true) := by
  unfold q3h_
  have e : dvn (dvn 0 (dd n)) (qu_ []) = (n : Int) := by rw [dvn_dd]; rfl
  rw [if_neg (dd_ok n), if_neg (fun h => by cases h.1), e, if_neg (by omega)]
  rfl
theorem pieces_yes {sg : Bool} {q D m k : Nat} (hm : m < 10 ^ D) (hle : q * 10 ^ D + m ≤ 1000000000000) (hz : D ≠ 0 -> m % 10 ≠ 0) (hne : D + k ≠ 0) :
    q3h_ sg (dd q) (fx D m ++ List.replicate k 48) true = if D + k ≤ 6 then ((if sg then -((q * 10 ^ D + m : Nat) : Int) else ((q * 10 ^ D + m : Nat) : Int), (D : Int)), true) else ((0, 0), false) := by
  have hd : digs (fx D m ++ List.replicate k 48) = true := by
    refine digs_of (fun c hc => ?_) ?_
    · rcases List.mem_append.1 hc with hc | hc
      · exact fx_dig D m c hc
      · rw [List.eq_of_mem_replicate hc]
        rfl
    · intro e
      have := congrArg List.length e
      rw [List.length_append, fx_len, List.length_replicate] at this
      exact hne this
  have hl : (fx D m ++ List.replicate k 48).length = D + k := by rw [List.length_append, fx_len, List.length_replicate]
  have hs : qu_ (fx D m ++ List.replicate k 48) = fx D m := by
    rw [stripz_rep]
    by_cases h0 : D = 0
    · subst h0; rfl
    · exact stripz_fx (by omega) (hz h0)
  have hv : dvn (dvn 0 (dd q)) (fx D m) = ((q * 10 ^ D + m : Nat) : Int) := by
    rw [dvn_dd, dvn_fx D m _ hm]
    push_cast
    rfl
  unfold q3h_
  rw [if_neg (dd_ok q), hd, hl, hs, hv, fx_len]
  by_cases h6 : D + k ≤ 6
  · rw [if_neg (by rintro ⟨_, h | h⟩; cases h; omega), if_neg (by omega), if_pos h6]
  · rw [if_pos ⟨rfl, .inr (by omega)⟩, if_neg h6]
theorem parseS_sg {sg : Bool} {w t : List UInt8} (hw : ∀ c ∈ w, dg c = true) (hne : w ≠ []) : parseS ((if sg then [45] else []) ++ (w ++ t)) = parseT sg (w ++ t) := by
  unfold parseS
  cases sg with
  | true => rw [if_pos rfl]; rfl
  | false =>
    rcases w with _ | ⟨c, w⟩
    · exact absurd rfl hne
    · have hc := dg_iff.1 (hw c List.mem_cons_self)
      rw [if_neg]
      · rfl
      · intro e
        have e : c = 45 := Option.some.inj e
        subst e
        have e : (45 : UInt8).toNat = 45 := rfl
        omega
theorem div_mod (n D : Nat) : n / 10 ^ D * 10 ^ D + n % 10 ^ D = n := by
  rw [Nat.mul_comm]
  exact Nat.div_add_mod n (10 ^ D)
theorem mod_tz {n D : Nat} (hD : D ≠ 0) (h : n % 10 ≠ 0) : n % 10 ^ D % 10 ≠ 0 := by
  obtain ⟨k, rfl⟩ : ∃ k, D = k + 1 := ⟨D - 1, by omega⟩
  rw [Nat.mod_mod_of_dvd _ ⟨10 ^ k, by rw [Nat.pow_succ, Nat.mul_comm]⟩]
  exact h
theorem shw_said {sg : Bool} {n D : Nat} (hle : n ≤ 1000000000000) (h6 : D ≤ 6) (hz : D ≠ 0 -> n % 10 ≠ 0) : parseS (shw sg n D) = ((if sg then -(n : Int) else (n : Int), (D : Int)), true) := by
  unfold shw
  rw [List.append_assoc, parseS_sg (dd_dig _) (dd_ne _)]
  by_cases h0 : D = 0
  · subst h0
    rw [if_pos rfl, List.append_nil, Nat.pow_zero, Nat.div_one, parseT_no (dot_no (dd_dig n)), pieces_no hle]
    rfl
  · rw [if_neg h0, parseT_yes (dot_no (dd_dig _))]
    have h := pieces_yes (sg := sg) (q := n / 10 ^ D) (D := D) (m := n % 10 ^ D) (k := 0) (Nat.mod_lt _ (Nat.pow_pos (by omega))) (by rw [div_mod]; exact hle) (fun hD => mod_tz hD (hz hD)) (by omega)
    rw [div_mod, if_pos (by omega), List.replicate_zero, List.append_nil] at h
    exact h
end Go.Proofs.Lx
end
section
namespace Go.Proofs.Lx
open Go Ev Sx Pl
set_option maxRecDepth 10000
def lowN (n : Nat) : Bool := decide (97 ≤ n) && decide (n ≤ 122)
def namN (n : Nat) : Bool := lowN n || isD n || n == 95
theorem lower_eq (c : UInt8) : q51_ (Int.ofNat c.toNat, ()) = some (lowN c.toNat, ()) := tab (f := q51_) (g := lowN) (by kernel_rfl) c
theorem rdigit_eq (c : UInt8) : q5y_ (Int.ofNat c.toNat, ()) = some (isD c.toNat, ()) := tab (f := q5y_) (g := isD) (by kernel_rfl) c
abbrev sRec : List UInt8 := [114, 101, 99, 105, 112, 101]
abbrev sSlv : List UInt8 := [115, 108, 97, 118, 101]
abbrev sEnd : List UInt8 := [101, 110, 100]
def nameB (s : List UInt8) : Bool := s != [] && decide (s.length ≤ 20) && lowN (s.headD 0).toNat && s.all (fun c => namN c.toNat) && s != sRec && s != sSlv && s != sEnd
theorem goL_all {α R : Type} {p : α -> Bool} {r0 : Option R} {fin : Unit -> Option R} : ∀ xs : List α, goL (fun a c k => if p c = true then k a else r0) fin xs () = if xs.all p = true then fin () else r0
  | [] => rfl
  | x :: q => by
    show (if p x = true then goL _ fin q () else r0) = _
    rw [goL_all q, List.all_cons]
    cases p x <;> simp
theorem nes_iff {a b : List UInt8} : nes a b = true ↔ a ≠ b := by simp [nes]
theorem nes_val (a b : List UInt8) : nes a b = (a != b) := by
  by_cases h : a = b
  · subst h
    simp [nes]
  · rw [nes_iff.2 h]
    simp [h]
theorem at_head {α : Type} {s : List α} (h : s ≠ []) (z : α) : at? s 0 = some (s.headD z) := by
  cases s with
  | nil => exact absurd rfl h
  | cons a q => rfl
theorem name_eq {s : List UInt8} : q1t_ (s, ()) = some (nameB s, ()) := by
  show q96_ q7i_ s = _
  unfold q96_
  have K1t : q7i_ s true = some (false, ()) := rfl
  by_cases h0 : s = []
  · rw [if_pos (eqs_iff.2 h0), K1t, h0]
    rfl
  · rw [if_neg (fun e => h0 (eqs_iff.1 e))]
    by_cases h1 : 20 < s.length
    · rw [if_pos (gt_iff.2 (by rw [q5_]; omega)), K1t]
      have : nameB s = false := by unfold nameB; rw [decide_eq_false (show ¬ s.length ≤ 20 by omega)]; simp
      rw [this]
    · rw [if_neg (fun e => h1 (by have := gt_iff.1 e; rw [q5_] at this; omega)), at_head h0 0, Option.bind_some, lower_eq, Option.bind_some]
      cases h2 : lowN (s.headD 0).toNat with
      | false =>
        rw [show (!(false, ()).1) = true from rfl, K1t]
        have : nameB s = false := by unfold nameB; rw [h2]; simp
        rw [this]
      | true =>
        show q7j_ s (Int.ofNat s.length) 0 = _
        unfold q7j_
        refine (loop_go (xs := s) (mk := fun i (_ : Unit) => (s, Int.ofNat s.length, (i : Int))) (body := fun a c k => if namN c.toNat = true then k a else some (false, ())) (fin := fun _ => q5w_ s) ?_ ?_ s.length 0 () _ (by omega) (by omega)).trans ?_
        · intro self i acc c hc
          have hi := (List.getElem?_eq_some_iff.1 hc).1
          show q5r_ (q5q_ fun s t18 t19 => self (s, t18, t19)) q5w_ _ s (Int.ofNat s.length) (i : Int) = _
          unfold q5r_
          have K3f : q5q_ (fun s t18 t19 => self (s, t18, t19)) s (Int.ofNat s.length) (i : Int) false = self (s, Int.ofNat s.length, ((i + 1 : Nat) : Int)) := by
            show q99_ _ s (Int.ofNat s.length) (i : Int) false = _
            unfold q99_
            rw [if_neg Bool.false_ne_true, succ64 (by omega)]
          rw [if_pos (by rw [qw_, q5_]; omega), at_get hc, Option.bind_some, lower_eq, Option.bind_some]
          unfold namN
          cases e1 : lowN c.toNat with
          | true => rw [if_neg (by decide), K3f]; rfl
          | false =>
            rw [if_pos (by rfl), Option.bind_some, rdigit_eq, Option.bind_some]
            cases e2 : isD c.toNat with
            | true => rw [if_neg (by decide), K3f]; rfl
            | false =>
              rw [if_pos (by rfl), Option.bind_some]
              by_cases e3 : c.toNat = 95
              · have : nei (Int.ofNat c.toNat) 95 = false := by rw [Bool.eq_false_iff]; exact fun e => q1b_.1 e (by rw [e3]; rfl)
                rw [this, K3f, if_pos (by simp [e3])]
              · have : nei (Int.ofNat c.toNat) 95 = true := q1b_.2 (fun e => e3 (by have e : (c.toNat : Int) = 95 := e; omega))
                rw [this, if_neg (by simp [e3])]
                rfl
        · intro self acc
          show q5r_ (q5q_ fun s t18 t19 => self (s, t18, t19)) q5w_ _ s (Int.ofNat s.length) (s.length : Int) = _
          unfold q5r_
          rw [if_neg (by rw [qw_, q5_]; omega)]
        · rw [List.drop_zero, goL_all]
          show (if (s.all fun c => namN c.toNat) = true then q98_ s else some (false, ())) = _
          unfold q98_ nameB
          rw [h2, decide_eq_true (show s.length ≤ 20 by omega), nes_val, nes_val, nes_val]
          have e0 : (s != []) = true := by simpa using h0
          rw [e0]
          cases (s.all fun c => namN c.toNat) <;> cases (s != sRec) <;> cases (s != sSlv) <;> rfl
end Go.Proofs.Lx
end
section
namespace Go.Proofs.Lx
open Go Ev Sx Pl
set_option maxRecDepth 10000
theorem lexS_acc : ∀ (k : Nat) (s : List UInt8) (n : Int) (l : TL), s.length ≤ k -> lexS n s l = (if (lexS n s []).2.1 ≠ 0 then [] else l ++ (lexS n s []).1, (lexS n s []).2) := by
  intro k
  induction k with
  | zero =>
    intro s n l hs
    have : s = [] := List.eq_nil_of_length_eq_zero (by omega)
    subst this
    rw [lexS, dif_pos rfl, lexS, dif_pos rfl]
    simp
  | succ k ih =>
    intro s n l hs
    by_cases hne : s = []
    · subst hne
      rw [lexS, dif_pos rfl, lexS, dif_pos rfl]
      simp
    · have hlen := lrest_len hne
      rw [lexS_step hne, lexS_step (l := []) hne]
      by_cases he : (lineT n (uncom (q1m_ s)) []).2 = 0
      · have e : ¬ (lineT n (uncom (q1m_ s)) []).2 ≠ 0 := by simpa using he
        rw [if_neg e, if_neg e, ih (lrest s) (n + 1) (l ++ _) (by omega), ih (lrest s) (n + 1) ([] ++ _) (by omega)]
        by_cases h2 : (lexS (n + 1) (lrest s) []).2.1 = 0
        · simp [h2]
        · simp [h2]
      · have e : (lineT n (uncom (q1m_ s)) []).2 ≠ 0 := he
        rw [if_pos e, if_pos e]
        simp [e]
theorem lexS_one {s : List UInt8} {n : Int} (hne : s ≠ []) (he : (lineT n (uncom (q1m_ s)) []).2 = 0) : lexS n s [] = (if (lexS (n + 1) (lrest s) []).2.1 ≠ 0 then [] else (lineT n (uncom (q1m_ s)) []).1 ++ (lexS (n + 1) (lrest s) []).1, (lexS (n + 1) (lrest s) []).2) := by
  rw [lexS_step hne, if_neg (by simpa using he), lexS_acc _ (lrest s) (n + 1) _ (Nat.le_refl _), List.nil_append]
end Go.Proofs.Lx
end
section
namespace Go.Proofs.Lx
open Go Ev Sx Pl
set_option maxRecDepth 10000
def unitB (s : List UInt8) : Bool := decide (s.length ≤ 20) && match s with
  | [] => true
  | c :: q => w1 c.toNat && q.all (fun c => wm c.toNat)
structure GoodT (a : Int) (t : Tk1) : Prop where
  k : t.1 ≠ 4
  l : t.2.2.2 = a
  w : t.1 = 1 -> unitB t.2.1 = true ∧ t.2.1 ≠ []
  n : t.1 = 2 -> parseS t.2.1 = (t.2.2.1, true)
theorem tw_mem {p : UInt8 -> Bool} : ∀ (q : List UInt8), (q.takeWhile p).all p = true
  | [] => rfl
  | c :: q => by
    rw [List.takeWhile_cons]
    split
    · rename_i h
      rw [List.all_cons, h, tw_mem q]
      rfl
    · rfl
theorem tokS_good {a : Int} {c : UInt8} {q : List UInt8} {t : Tk1} {r : List UInt8} (h : tokS a c q = .inr (t, r)) : GoodT a t := by
  unfold tokS at h
  split at h
  · rename_i h1
    split at h
    · cases h
    · rename_i h2
      cases h
      refine ⟨(by decide : (1 : Int) ≠ 4), rfl, fun _ => ⟨?_, List.cons_ne_nil _ _⟩, fun e => absurd e (by decide : (1 : Int) ≠ 2)⟩
      show (decide ((c :: q.takeWhile (fun c => wm c.toNat)).length ≤ 20) && (w1 c.toNat && (q.takeWhile (fun c => wm c.toNat)).all (fun c => wm c.toNat))) = true
      rw [h1, tw_mem, decide_eq_true (by omega)]
      rfl
  · split at h
    · split at h
      · rename_i h2
        cases h
        exact ⟨(by decide : (2 : Int) ≠ 4), rfl, fun e => absurd e (by decide : (2 : Int) ≠ 1), fun _ => Prod.ext rfl h2⟩
      · cases h
    · split at h
      · cases h
        exact ⟨(by decide : (3 : Int) ≠ 4), rfl, fun e => absurd e (by decide : (3 : Int) ≠ 1), fun e => absurd e (by decide : (3 : Int) ≠ 2)⟩
      · cases h
theorem toks_good (a : Int) : ∀ (k : Nat) (s : List UInt8), s.length ≤ k -> ∀ t ∈ (toksL a s).1, GoodT a t
  | 0, s, h, t, ht => by
    have : s = [] := List.eq_nil_of_length_eq_zero (by omega)
    subst this
    rw [toksL_nil rfl] at ht
    cases ht
  | k + 1, s, h, t, ht => by
    match hd : s.dropWhile (fun c => isB c.toNat) with
    | [] => rw [toksL_nil hd] at ht; cases ht
    | c :: q =>
      have h3 := (List.dropWhile_suffix (l := s) (fun c => isB c.toNat)).length_le
      rw [hd] at h3
      simp at h3
      match h2 : tokS a c q with
      | .inl e => rw [toksL_err hd h2] at ht; cases ht
      | .inr (t', r) =>
        have h1 := tokS_len h2
        rw [toksL_tok hd h2] at ht
        rcases List.mem_cons.1 ht with ht | ht
        · subst ht; exact tokS_good h2
        · exact toks_good a k r (by omega) t ht
structure RowsT (l : TL) (rs : List (TL × Int)) : Prop where
  e : l = rs.flatMap fun p => p.1 ++ [tkEnd p.2]
  g : ∀ p ∈ rs, p.1 ≠ [] ∧ ∀ t ∈ p.1, GoodT p.2 t
theorem RowsT.app {l l' : TL} {rs rs' : List (TL × Int)} (h : RowsT l rs) (h' : RowsT l' rs') : RowsT (l ++ l') (rs ++ rs') :=
  ⟨by rw [h.e, h'.e, List.flatMap_append], fun p hp => by
    rcases List.mem_append.1 hp with hp | hp
    · exact h.g p hp
    · exact h'.g p hp⟩
theorem unit_eq {s : List UInt8} : q9q_ (s, ()) = some (unitB s, ()) := by
  show q9a_ q5t_ s = _
  unfold q9a_
  by_cases h1 : 20 < s.length
  · rw [if_pos (gt_iff.2 (by rw [q5_]; omega))]
    have : unitB s = false := by unfold unitB; rw [decide_eq_false (show ¬ s.length ≤ 20 by omega)]; rfl
    rw [this]
  · rw [if_neg (fun e => h1 (by have := gt_iff.1 e; rw [q5_] at this; omega))]
    have stp : ∀ (self : (List UInt8) × (Int) × (Int) -> Option (As [.bool])) (i : Nat) (c : UInt8), s[i]? = some c ->
        q5v_ (q5x_ fun s t10 t11 => self (s, t10, t11)) (fun s t10 t11 => self (s, t10, t11)) s (Int.ofNat s.length) (i : Int) =
        if (if i = 0 then w1 c.toNat else wm c.toNat) = true then self (s, Int.ofNat s.length, ((i + 1 : Nat) : Int)) else some (false, ()) := fun self i c hc => by
      have hi := (List.getElem?_eq_some_iff.1 hc).1
      unfold q5v_
      have K3 : ∀ b, q7s_ (fun s t10 t11 => self (s, t10, t11)) s (Int.ofNat s.length) (i : Int) b = if b = true then some (false, ()) else self (s, Int.ofNat s.length, ((i + 1 : Nat) : Int)) := fun b => by
        show q9e_ _ s (Int.ofNat s.length) (i : Int) b = _
        unfold q9e_
        rw [succ64 (by omega)]
      have K2 : ∀ b, q5x_ (fun s t10 t11 => self (s, t10, t11)) s (i : Int) (Int.ofNat c.toNat) b (Int.ofNat s.length) (i : Int) = if (b || (decide (i ≠ 0) && (isD c.toNat || c.toNat == 95))) = true then self (s, Int.ofNat s.length, ((i + 1 : Nat) : Int)) else some (false, ()) := fun b => by
        show q95_ (q7s_ fun s t10 t11 => self (s, t10, t11)) _ s (i : Int) (Int.ofNat c.toNat) b (Int.ofNat s.length) (i : Int) = _
        unfold q95_
        simp only [K3]
        cases b with
        | true => rfl
        | false =>
          rw [if_pos (by rfl)]
          by_cases h0 : i = 0
          · rw [if_pos (q1y_.2 (by omega)), decide_eq_false (show ¬ i ≠ 0 by omega)]
            rfl
          · rw [if_neg (fun e => h0 (by have := q1y_.1 e; omega)), decide_eq_true h0, rdigit_eq, Option.bind_some]
            cases e2 : isD c.toNat with
            | true => rfl
            | false =>
              rw [if_pos (by rfl)]
              have g3 : nei (Int.ofNat c.toNat) 95 = !(c.toNat == 95) := by
                apply Bool.eq_iff_iff.2
                rw [q1b_]
                simp
                omega
              rw [g3]
              cases (c.toNat == 95) <;> rfl
      rw [if_pos (by rw [qw_, q5_]; omega), at_get hc, Option.bind_some, lower_eq, Option.bind_some]
      simp only [K2]
      have g1 : ge (Int.ofNat c.toNat) 65 = decide (65 ≤ c.toNat) := by
        show decide ((65 : Int) ≤ (c.toNat : Int)) = _
        apply Bool.eq_iff_iff.2; simp; omega
      have g2 : le (Int.ofNat c.toNat) 90 = decide (c.toNat ≤ 90) := by
        show decide ((c.toNat : Int) ≤ 90) = _
        apply Bool.eq_iff_iff.2; simp; omega
      have g3 : eqi (Int.ofNat c.toNat) 37 = (c.toNat == 37) := by
        apply Bool.eq_iff_iff.2
        rw [q1y_]
        simp
        omega
      rw [g1, g2, g3]
      have hw : w1 c.toNat = (lowN c.toNat || (decide (65 ≤ c.toNat) && decide (c.toNat ≤ 90)) || c.toNat == 37) := by unfold w1 isL lowN; rfl
      have hm : wm c.toNat = (w1 c.toNat || isD c.toNat || c.toNat == 95) := by
        unfold wm w1
        cases isL c.toNat <;> cases isD c.toNat <;> cases (c.toNat == 95) <;> cases (c.toNat == 37) <;> rfl
      rw [hm, hw]
      by_cases h0 : i = 0
      · rw [if_pos h0, decide_eq_false (show ¬ i ≠ 0 by omega)]
        cases lowN c.toNat <;> cases decide (65 ≤ c.toNat) <;> cases decide (c.toNat ≤ 90) <;> cases (c.toNat == 37) <;> rfl
      · rw [if_neg h0, decide_eq_true h0]
        cases lowN c.toNat <;> cases decide (65 ≤ c.toNat) <;> cases decide (c.toNat ≤ 90) <;> cases (c.toNat == 37) <;> cases isD c.toNat <;> cases (c.toNat == 95) <;> rfl
    have fin : ∀ (self : (List UInt8) × (Int) × (Int) -> Option (As [.bool])), q5v_ (q5x_ fun s t10 t11 => self (s, t10, t11)) (fun s t10 t11 => self (s, t10, t11)) s (Int.ofNat s.length) (s.length : Int) = some (true, ()) := fun self => by
      unfold q5v_
      rw [if_neg (by rw [qw_, q5_]; omega)]
    show q5t_ s (Int.ofNat s.length) 0 = _
    unfold q5t_
    match s, h1, stp, fin with
    | [], _, stp, fin => rfl
    | c :: q, h1, stp, fin =>
      rw [show (18446744073709551616 : Nat) = 18446744073709551615 + 1 from rfl, q3b_]
      refine (stp _ 0 c rfl).trans ?_
      rw [if_pos rfl]
      have hu : unitB (c :: q) = (w1 c.toNat && q.all (fun c => wm c.toNat)) := by
        unfold unitB
        rw [decide_eq_true (show (c :: q).length ≤ 20 by omega)]
        rfl
      rw [hu]
      cases hc : w1 c.toNat with
      | false => rfl
      | true =>
        rw [if_pos rfl]
        refine (loop_go (xs := q) (mk := fun i (_ : Unit) => (c :: q, Int.ofNat (c :: q).length, ((i + 1 : Nat) : Int))) (body := fun a x k => if wm x.toNat = true then k a else some (false, ())) (fin := fun _ => some (true, ())) ?_ ?_ q.length 0 () _ (by omega) (by rw [List.length_cons] at h1; omega)).trans ?_
        · intro self i acc x hx
          have := stp self (i + 1) x (by simpa using hx)
          rw [if_neg (show ¬ i + 1 = 0 by omega)] at this
          exact this
        · intro self acc
          exact fin self
        · rw [List.drop_zero, goL_all]
          cases (q.all fun c => wm c.toNat) <;> rfl
end Go.Proofs.Lx
end
section
namespace Go.Proofs.Lx
open Go Ev Sx Pl
set_option maxRecDepth 100000
theorem qnat {i d : Nat} (hi : i < 4611686018427387904) : quo .i64 (i : Int) (d : Int) = ((i / d : Nat) : Int) := by
  unfold quo
  have e : ((i : Int)).tdiv (d : Int) = ((i / d : Nat) : Int) := rfl
  have h := Nat.div_le_self i d
  rw [e]
  generalize i / d = q at h ⊢
  exact w64 (by omega) (by omega)
theorem rnat {i d : Nat} : rem (i : Int) (d : Int) = ((i % d : Nat) : Int) := rfl
theorem power_eq : ∀ {D : Nat}, D ≤ 6 -> q9p_ ((D : Int), ()) = some (((10 ^ D : Nat) : Int), ())
  | 0, _ => by kernel_rfl
  | 1, _ => by kernel_rfl
  | 2, _ => by kernel_rfl
  | 3, _ => by kernel_rfl
  | 4, _ => by kernel_rfl
  | 5, _ => by kernel_rfl
  | 6, _ => by kernel_rfl
  | _ + 7, h => by omega
theorem repeat_eq : ∀ {k : Nat}, k ≤ 7 -> strings_Repeat ([48], (k : Int), ()) = some (List.replicate k 48, ())
  | 0, _ => by kernel_rfl
  | 1, _ => by kernel_rfl
  | 2, _ => by kernel_rfl
  | 3, _ => by kernel_rfl
  | 4, _ => by kernel_rfl
  | 5, _ => by kernel_rfl
  | 6, _ => by kernel_rfl
  | 7, _ => by kernel_rfl
  | _ + 8, h => by omega
theorem fint_eq {n : Nat} (h : n ≤ 1000000000000) : q5g_ ((n : Int), 10, ()) = some (dd n, ()) := by
  have e : q6u_ ((n : Int), 10, ()) = some (dd n, ()) := by
    show (if (-9223372036854775808 ≤ (n : Int) ∧ (n : Int) ≤ 9223372036854775807) ∧ (10 : Int) = 10 then some (itF (n : Int), ()) else none) = _
    rw [if_pos ⟨⟨by omega, by omega⟩, rfl⟩, itF, if_neg (by omega), Int.toNat_natCast, dF_eq 19 n (by omega)]
  show Option.bind (q6u_ ((n : Int), 10, ())) _ = _
  rw [e]
  rfl
theorem RtD.right {d : Int × Int} {sg : Bool} {n D : Nat} (h : RtD d sg n D) : q73_ (d, ()) = some (true, ()) := by
  obtain ⟨x, y⟩ := d
  have e1 : x = if sg then -(n : Int) else (n : Int) := h.e1
  have e2 : y = (D : Int) := h.e2
  have hle := h.le
  have h6 := h.d6
  show q7q_ (x, y) = _
  unfold q7q_
  dsimp only
  have b1 : -1000000000000 ≤ x ∧ x ≤ 1000000000000 := by
    rw [e1]
    split <;> omega
  rw [if_pos (ge_iff.2 b1.1), if_pos (le_iff.2 b1.2), if_pos (by rw [le_iff]; omega)]
  by_cases h0 : D = 0
  · rw [if_pos (by rw [q1y_]; omega)]
  · rw [if_neg (by rw [q1y_]; omega)]
    have hz := h.tz h0
    have : nei (rem x 10) 0 = true := by
      rw [q1b_]
      unfold rem
      rw [e1]
      cases sg with
      | true =>
        rw [if_pos rfl, Int.neg_tmod]
        show -((n % 10 : Nat) : Int) ≠ 0
        omega
      | false =>
        show ((n % 10 : Nat) : Int) ≠ 0
        omega
    rw [this]
theorem show_K1 {sign : List UInt8} {n D : Nat} {d : Int × Int} (he : d.2 = (D : Int)) (hle : n ≤ 1000000000000) (h6 : D ≤ 6) (hs : sign.length ≤ 1) :
    q6i_ (n : Int) sign d = some (sign ++ dd (n / 10 ^ D) ++ (if D = 0 then [] else 46 :: fx D (n % 10 ^ D)), ()) := by
  obtain ⟨x, y⟩ := d
  have he : y = (D : Int) := he
  subst he
  unfold q6i_ qbk_
  dsimp only
  have ec : cvt .i64 (D : Int) = (D : Int) := cvt64 (by omega) (by omega)
  have hp : 0 < 10 ^ D := Nat.pow_pos (by omega)
  have hq : n / 10 ^ D ≤ 1000000000000 := Nat.le_trans (Nat.div_le_self _ _) hle
  have hm : n % 10 ^ D ≤ 1000000000000 := Nat.le_trans (Nat.mod_le _ _) hle
  have hlq : (dd (n / 10 ^ D)).length ≤ 13 := dd_len (by omega) (by omega)
  have hml : n % 10 ^ D < 10 ^ D := Nat.mod_lt _ hp
  rw [ec, power_eq h6, Option.bind_some]
  dsimp only
  rw [need_t (by rw [q1b_]; omega), qnat (by omega), fint_eq hq, Option.bind_some]
  dsimp only
  rw [qi_ (by omega)]
  by_cases h0 : D = 0
  · rw [if_pos (by rw [q1y_]; omega), if_pos h0, List.append_nil]
  · have hl : (dd (n % 10 ^ D)).length ≤ D := dd_len (by omega) hml
    rw [if_neg (by rw [q1y_]; omega), if_neg h0, need_t (by rw [q1b_]; omega), rnat, fint_eq hm, Option.bind_some]
    dsimp only
    have es : sub .i64 (D : Int) (Int.ofNat (dd (n % 10 ^ D)).length) = ((D - (dd (n % 10 ^ D)).length : Nat) : Int) := by
      rw [q5_, sub64 (by omega) (by omega)]
      omega
    rw [qi_ (by simp; omega), es, repeat_eq (by omega), Option.bind_some]
    dsimp only
    rw [qi_ (by simp; omega), qi_ (by simp; omega), <- pad_fx D _ (by omega) hml]
    simp
theorem show_eq {d : Int × Int} {sg : Bool} {n D : Nat} (h : RtD d sg n D) : q85_ (d, ()) = some (shw sg n D, ()) := by
  show qa0_ q6i_ d = _
  unfold qa0_ shw
  have hle := h.le
  rw [h.right, Option.bind_some, if_neg (by decide)]
  cases sg with
  | true =>
    have e1 : d.1 = -(n : Int) := h.e1
    have hn := h.nz rfl
    have en : neg .i64 d.1 = (n : Int) := by rw [e1, neg64 (by omega) (by omega)]; omega
    rw [if_pos (by rw [qw_]; omega), en, show_K1 h.e2 h.le h.d6 (by decide)]
    rfl
  | false =>
    have e1 : d.1 = (n : Int) := h.e1
    rw [if_neg (by rw [qw_]; omega), e1, show_K1 h.e2 h.le h.d6 (by decide)]
    rfl
theorem rtd_of {x : Int} {D : Nat} (hx : -1000000000000 ≤ x ∧ x ≤ 1000000000000) (h6 : D ≤ 6) (hz : D ≠ 0 -> x.tmod 10 ≠ 0) : ∃ sg n, RtD (x, (D : Int)) sg n D := by
  rcases Int.lt_or_le x 0 with h | h
  · obtain ⟨n, rfl⟩ : ∃ n : Nat, x = -(n : Int) := ⟨x.natAbs, by omega⟩
    refine ⟨true, n, rfl, rfl, fun _ => by omega, by omega, h6, fun h0 e => hz h0 ?_⟩
    rw [Int.neg_tmod]
    show -((n % 10 : Nat) : Int) = 0
    omega
  · obtain ⟨n, rfl⟩ := Int.eq_ofNat_of_zero_le h
    refine ⟨false, n, rfl, rfl, fun e => (by cases e), by omega, h6, fun h0 e => hz h0 ?_⟩
    show ((n % 10 : Nat) : Int) = 0
    omega
end Go.Proofs.Lx
end
section
namespace Go.Proofs.Lx
open Go Ev Sx Pl
set_option maxRecDepth 100000
def qal_  := (fun (self : (List UInt8) × (List UInt8) × (Int × Int) -> Option (As [.str])) (s : (List UInt8) × (List UInt8) × (Int × Int)) => q8d_ (q6h_) (fun sign s d => self (sign, s, d)) s.1 s.2.1 s.2.2)
theorem qc6_  (self : (List UInt8) × (List UInt8) × (Int × Int) -> Option (As [.str])) (sign : List UInt8) (s : List UInt8) (d : Int × Int) : qal_ self (sign, s, d) = q8d_ (q6h_) (fun sign s d => self (sign, s, d)) sign s d := rfl
theorem qfj_  (sign : List UInt8) (s : List UInt8) (d : Int × Int) : qed_ sign s d = loopF (qal_) 18446744073709551616 (sign, s, d) := rfl
theorem digits_eq {n : Nat} (h : n ≤ 1000000000000) : qf0_ ((n : Int), ()) = some (dd n, ()) := by
  show (if 0 ≤ (n : Int) ∧ (n : Int) ≤ 9223372036854775807 then some (dF 19 (n : Int).toNat, ()) else none) = _
  rw [if_pos ⟨by omega, by omega⟩, Int.toNat_natCast, dF_eq 19 n (by omega)]
theorem dd_split : ∀ (D n : Nat), 10 ^ D ≤ n -> dd n = dd (n / 10 ^ D) ++ fx D (n % 10 ^ D)
  | 0, n, _ => by simp [fx]
  | D + 1, n, h => by
    rw [Nat.pow_succ] at h
    have hp : 0 < 10 ^ D := Nat.pow_pos (by omega)
    rw [dd_big (by omega), dd_split D (n / 10) (by omega), fx, List.append_assoc]
    have e1 : n / 10 / 10 ^ D = n / 10 ^ (D + 1) := by rw [Nat.div_div_eq_div_mul, Nat.pow_succ, Nat.mul_comm]
    have e2 : n % 10 ^ (D + 1) / 10 = n / 10 % 10 ^ D := by
      rw [Nat.pow_succ, Nat.mul_comm (10 ^ D) 10, Nat.mod_mul_right_div_self]
    have e3 : n % 10 ^ (D + 1) % 10 = n % 10 := by
      rw [Nat.pow_succ, Nat.mul_comm (10 ^ D) 10, Nat.mod_mul_right_mod]
    rw [e1, e2, e3]
theorem dd_pad {D n : Nat} (hD : 1 ≤ D) : List.replicate (D + 1 - (dd n).length) 48 ++ dd n = dd (n / 10 ^ D) ++ fx D (n % 10 ^ D) := by
  by_cases h : 10 ^ D ≤ n
  · have hs := dd_split D n h
    have hl : D + 1 ≤ (dd n).length := by
      have hne := dd_ne (n / 10 ^ D)
      have : 0 < (dd (n / 10 ^ D)).length := List.length_pos_iff.2 hne
      rw [hs, List.length_append, fx_len]
      omega
    rw [show D + 1 - (dd n).length = 0 by omega]
    exact hs
  · have hlt : n < 10 ^ D := by omega
    have hl := dd_len hD hlt
    rw [Nat.div_eq_of_lt hlt, Nat.mod_eq_of_lt hlt, <- pad_fx D n hD hlt, show D + 1 - (dd n).length = (D - (dd n).length) + 1 by omega, List.replicate_succ]
    have : dd 0 = [48] := by rw [dd_small (by decide)]; rfl
    rw [this]
    rfl
theorem show_K3 {sign p q : List UInt8} {d : Int × Int} {D : Nat} (hd : d.2 = (D : Int)) (hq : q.length = D) (h6 : D ≤ 6) (hp : p.length ≤ 1000) (hs : sign.length ≤ 1) :
    q6h_ sign (p ++ q) d = some (sign ++ p ++ 46 :: q, ()) := by
  unfold q6h_ qeh_
  have e1 : Sx.sub .i64 (Int.ofNat (p ++ q).length) (cvt .i64 d.2) = (p.length : Int) := by
    have : Int.ofNat (p ++ q).length = ((p.length + D : Nat) : Int) := by simp [hq]
    rw [this, hd, cvt64 (by omega) (by omega), sub64 (by omega) (by omega)]
    omega
  rw [e1, cut_app0, Option.bind_some, cut_app1]
  have l1 : (sign ++ p).length ≤ 1001 := by simp; omega
  have l2 : (sign ++ p ++ [46]).length ≤ 1002 := by simp; omega
  rw [qi_ (by omega), qi_ (by omega), Option.bind_some, qi_ (by omega)]
  simp
theorem rshow_loop {sign : List UInt8} {d : Int × Int} {D : Nat} (hd : d.2 = (D : Int)) (h6 : D ≤ 6) (hs : sign.length ≤ 1) : ∀ (r N : Nat) (s : List UInt8), s.length + r ≤ 1000 -> (r = 0 ∨ s.length + r = D + 1) -> D < s.length + r ->
    loopF qal_ (N + r + 1) (sign, s, d) = q6h_ sign (List.replicate r 48 ++ s) d
  | 0, N, s, hl, _, h => by
    rw [q3b_, qc6_]
    unfold q8d_
    have e : Int.ofNat s.length = (s.length : Int) := rfl
    rw [if_neg (by rw [le_iff, hd, cvt64 (by omega) (by omega), e]; omega)]
    rfl
  | r + 1, N, s, hl, hr, h => by
    rw [q3b_, qc6_]
    unfold q8d_
    have e : Int.ofNat s.length = (s.length : Int) := rfl
    rw [if_pos (by rw [le_iff, hd, cvt64 (by omega) (by omega), e]; omega), qi_ (by omega)]
    have := rshow_loop hd h6 hs r N (48 :: s) (by simp; omega) (by right; simp; omega) (by simp; omega)
    refine Eq.trans this ?_
    rw [List.replicate_succ']
    simp
theorem rshow_eq {d : Int × Int} {sg : Bool} {n D : Nat} (h : RtD d sg n D) : qde_ (d, ()) = some (shw sg n D, ()) := by
  have hle := h.le
  have h6 := h.d6
  have h2 := h.e2
  have hlen : (dd n).length ≤ 13 := dd_len (by decide) (by omega)
  show q9s_ q8e_ d = _
  have e0 : q9s_ q8e_ d = q8e_ (n : Int) (if sg then [45] else []) d := by
    unfold q9s_
    have e1 := h.e1
    cases sg with
    | true =>
      have := h.nz rfl
      have e : d.1 = -(n : Int) := e1
      rw [if_pos (by rw [qw_]; omega), neg64 (by omega) (by omega)]
      have : -d.1 = (n : Int) := by omega
      rw [this]
      rfl
    | false =>
      have e : d.1 = (n : Int) := e1
      rw [if_neg (by rw [qw_]; omega), e]
      rfl
  rw [e0]
  have hs : (if sg then [45] else [] : List UInt8).length ≤ 1 := by cases sg <;> simp
  unfold shw
  generalize (if sg then [45] else [] : List UInt8) = sign at hs ⊢
  unfold q8e_ qeg_
  rw [digits_eq hle, Option.bind_some]
  dsimp only
  by_cases h0 : D = 0
  · subst h0
    rw [if_pos (by rw [q1y_, h2]; rfl), qi_ (by omega), if_pos rfl]
    simp
  · rw [if_neg (by rw [q1y_, h2]; omega), qfj_, if_neg h0]
    have := rshow_loop (sign := sign) h2 h6 hs (D + 1 - (dd n).length) (18446744073709551615 - (D + 1 - (dd n).length)) (dd n) (by omega) (by omega) (by omega)
    rw [show 18446744073709551615 - (D + 1 - (dd n).length) + (D + 1 - (dd n).length) + 1 = 18446744073709551616 by omega] at this
    refine Eq.trans this ?_
    rw [dd_pad (by omega)]
    have hl2 : (dd (n / 10 ^ D)).length ≤ 13 := dd_len (by decide) (by have := Nat.div_le_self n (10 ^ D); omega)
    exact show_K3 h2 (fx_len _ _) h6 (by omega) hs
def rgt (d : Int × Int) : Bool := decide (-1000000000000 ≤ d.1 ∧ d.1 ≤ 1000000000000 ∧ d.2 ≤ 6 ∧ (d.2 = 0 ∨ d.1.tmod 10 ≠ 0))
theorem right_eq (d : Int × Int) : q73_ (d, ()) = some (rgt d, ()) := by
  obtain ⟨x, y⟩ := d
  show q7q_ (x, y) = _
  unfold q7q_ rgt
  dsimp only
  by_cases h1 : -1000000000000 ≤ x
  · rw [if_pos (ge_iff.2 h1)]
    by_cases h2 : x ≤ 1000000000000
    · rw [if_pos (le_iff.2 h2)]
      by_cases h3 : y ≤ 6
      · rw [if_pos (le_iff.2 h3)]
        by_cases h4 : y = 0
        · rw [if_pos (q1y_.2 h4), decide_eq_true ⟨h1, h2, h3, Or.inl h4⟩]
        · rw [if_neg (fun e => h4 (q1y_.1 e))]
          by_cases h5 : x.tmod 10 = 0
          · have e : nei (rem x 10) 0 = false := by
              cases q : nei (rem x 10) 0 with
              | true => exact absurd h5 (q1b_.1 q)
              | false => rfl
            rw [e, decide_eq_false]
            rintro ⟨_, _, _, h | h⟩
            · exact h4 h
            · exact h h5
          · rw [q1b_.2 (show rem x 10 ≠ 0 from h5), decide_eq_true ⟨h1, h2, h3, Or.inr h5⟩]
      · rw [if_neg (fun e => h3 (le_iff.1 e)), decide_eq_false (fun h => h3 h.2.2.1)]
    · rw [if_neg (fun e => h2 (le_iff.1 e)), decide_eq_false (fun h => h2 h.2.1)]
  · rw [if_neg (fun e => h1 (ge_iff.1 e)), decide_eq_false (fun h => h1 h.1)]
theorem rgt_rt {d : Int × Int} (h : rgt d = true) (h0 : 0 ≤ d.2) : ∃ sg n D, RtD d sg n D := by
  obtain ⟨x, y⟩ := d
  obtain ⟨h1, h2, h3, h4⟩ := of_decide_eq_true h
  have h0 : 0 ≤ y := h0
  have h3 : y ≤ 6 := h3
  obtain ⟨sg, n, hr⟩ := rtd_of (D := y.toNat) ⟨h1, h2⟩ (by omega) (fun e => by
    rcases h4 with h4 | h4
    · have h4 : y = 0 := h4
      omega
    · exact h4)
  rw [Int.toNat_of_nonneg h0] at hr
  exact ⟨sg, n, _, hr⟩
end Go.Proofs.Lx
end
section
namespace Go.Proofs.Lx
open Go Ev Sx Pl
set_option maxRecDepth 10000
abbrev TSet := List UInt8 × (Int × Int) × List UInt8 × Int
abbrev TPart := List UInt8 × Int × List TSet
abbrev TRec := List UInt8 × List TPart
def setB (s : TSet) : Bool := nameB s.1 && (rgt s.2.1 && unitB s.2.2.1)
def partB (p : TPart) : Bool := nameB p.1 && (decide (p.2.2.length ≤ 64) && p.2.2.all setB)
def rightB (r : TRec) : Bool := nameB r.1 && (decide (r.2.length ≤ 8) && r.2.all partB)
theorem loop_all {σ R α : Type} {F : (σ -> Option R) -> σ -> Option R} {mk : Nat -> σ} {xs : List α} {p : α -> Bool} {r0 fin : Option R}
    (hs : ∀ self i x, xs[i]? = some x -> F self (mk i) = if p x = true then self (mk (i + 1)) else r0) (he : ∀ self, F self (mk xs.length) = fin) {n : Nat} (h : xs.length < n) :
    loopF F n (mk 0) = if xs.all p = true then fin else r0 := by
  have := loop_go (xs := xs) (mk := fun i (_ : Unit) => mk i) (body := fun a x k => if p x = true then k a else r0) (fin := fun _ => fin) (fun self i acc x hx => hs self i x hx) (fun self _ => he self) xs.length 0 () n (by omega) h
  rw [List.drop_zero, goL_all] at this
  exact this
theorem gtn {n k : Nat} : gt (Int.ofNat n) (k : Int) = !decide (n ≤ k) := by
  apply Bool.eq_iff_iff.2
  rw [gt_iff, q5_]
  simp
theorem right_eq' {r : TRec} (h1 : r.2.length ≤ 1000000) (h2 : ∀ p ∈ r.2, p.2.2.length ≤ 1000000) : q3f_ (r, ()) = some (rightB r, ()) := by
  show q56_ q49_ r = _
  unfold q56_
  have K1 : ∀ b, q49_ b r = if b = true then some (false, ()) else q35_ r.2 (Int.ofNat r.2.length) 0 := fun b => rfl
  rw [name_eq, Option.bind_some]
  have e8 : gt (Int.ofNat r.2.length) 8 = !decide (r.2.length ≤ 8) := gtn (k := 8)
  simp only [K1, e8]
  have K2 : q35_ r.2 (Int.ofNat r.2.length) 0 = if r.2.all partB = true then some (true, ()) else some (false, ()) := by
    unfold q35_
    refine loop_all (xs := r.2) (mk := fun i => (r.2, Int.ofNat r.2.length, (i : Int))) (p := partB) ?_ ?_ (by omega)
    · intro self i p hp
      have hi := (List.getElem?_eq_some_iff.1 hp).1
      have hps := h2 p (List.mem_of_getElem? hp)
      show q2l_ (q4e_ fun t18 t19 t20 => self (t18, t19, t20)) _ r.2 (Int.ofNat r.2.length) (i : Int) = _
      unfold q2l_
      rw [if_pos (by rw [qw_, q5_]; omega), at_get hp, Option.bind_some, name_eq, Option.bind_some]
      have K4 : q37_ (fun t18 t19 t20 => self (t18, t19, t20)) r.2 (Int.ofNat r.2.length) (i : Int) p.2.2 (Int.ofNat p.2.2.length) 0 = if p.2.2.all setB = true then self (r.2, Int.ofNat r.2.length, ((i + 1 : Nat) : Int)) else some (false, ()) := by
        unfold q37_
        refine loop_all (xs := p.2.2) (mk := fun k => (r.2, Int.ofNat r.2.length, (i : Int), p.2.2, Int.ofNat p.2.2.length, (k : Int))) (p := setB) ?_ ?_ (by omega)
        · intro self4 k s hs
          have hk := (List.getElem?_eq_some_iff.1 hs).1
          show q2k_ (q47_ (fun t18 t19 t20 => self (t18, t19, t20)) fun t18 t19 t20 t35 t36 t37 => self4 (t18, t19, t20, t35, t36, t37)) _ _ r.2 (Int.ofNat r.2.length) (i : Int) p.2.2 (Int.ofNat p.2.2.length) (k : Int) = _
          unfold q2k_
          have K5 : ∀ b, q47_ (fun t18 t19 t20 => self (t18, t19, t20)) (fun t18 t19 t20 t35 t36 t37 => self4 (t18, t19, t20, t35, t36, t37)) r.2 (Int.ofNat r.2.length) (i : Int) p.2.2 (Int.ofNat p.2.2.length) (k : Int) b = if b = true then some (false, ()) else self4 (r.2, Int.ofNat r.2.length, (i : Int), p.2.2, Int.ofNat p.2.2.length, ((k + 1 : Nat) : Int)) := fun b => by
            show q55_ _ _ r.2 (Int.ofNat r.2.length) (i : Int) p.2.2 (Int.ofNat p.2.2.length) (k : Int) b = _
            unfold q55_
            rw [succ64 (by omega)]
          rw [if_pos (by rw [qw_, q5_]; omega), at_get hs, Option.bind_some, name_eq, Option.bind_some, right_eq, Option.bind_some, unit_eq, Option.bind_some]
          simp only [K5]
          unfold setB
          cases nameB s.1 <;> cases rgt s.2.1 <;> cases unitB s.2.2.1 <;> rfl
        · intro self4
          show q2k_ _ _ _ r.2 (Int.ofNat r.2.length) (i : Int) p.2.2 (Int.ofNat p.2.2.length) (p.2.2.length : Int) = _
          unfold q2k_
          rw [if_neg (by rw [qw_, q5_]; omega), succ64 (by omega)]
      have K3 : ∀ b, q4e_ (fun t18 t19 t20 => self (t18, t19, t20)) r.2 (Int.ofNat r.2.length) (i : Int) b p = if b = true then some (false, ()) else if p.2.2.all setB = true then self (r.2, Int.ofNat r.2.length, ((i + 1 : Nat) : Int)) else some (false, ()) := fun b => by
        show q8q_ (q37_ fun t18 t19 t20 => self (t18, t19, t20)) _ r.2 (Int.ofNat r.2.length) (i : Int) b p = _
        unfold q8q_
        rw [K4]
      have e64 : gt (Int.ofNat p.2.2.length) 64 = !decide (p.2.2.length ≤ 64) := gtn (k := 64)
      simp only [K3, e64]
      unfold partB
      cases nameB p.1 <;> cases decide (p.2.2.length ≤ 64) <;> cases p.2.2.all setB <;> rfl
    · intro self
      show q2l_ _ _ r.2 (Int.ofNat r.2.length) (r.2.length : Int) = _
      unfold q2l_
      rw [if_neg (by rw [qw_, q5_]; omega)]
  rw [K2]
  unfold rightB
  cases nameB r.1 <;> cases decide (r.2.length ≤ 8) <;> cases r.2.all partB <;> rfl
end Go.Proofs.Lx
end
section
namespace Go.Proofs.Lx
open Go Ev Sx Pl
set_option maxRecDepth 10000
def headB (ts : TL) (w : List UInt8) : Bool := match ts with
  | [x, y] => eqi x.1 1 && (eqs x.2.1 w && (eqi y.1 1 && nameB y.2.1))
  | _ => false
def isEnd (ts : TL) : Bool := match ts with
  | [x] => eqi x.1 1 && eqs x.2.1 sEnd
  | _ => false
def setOf (a : Int) (ts : TL) : Option TSet := match ts with
  | [x, y, z] => if x.1 = 1 ∧ nameB x.2.1 = true ∧ y.1 = 3 ∧ z.1 = 2 then some (x.2.1, z.2.2.1, [], a) else none
  | [x, y, z, u] => if x.1 = 1 ∧ nameB x.2.1 = true ∧ y.1 = 3 ∧ z.1 = 2 ∧ u.1 = 1 then some (x.2.1, z.2.2.1, u.2.1, a) else none
  | _ => none
abbrev PRes := TRec × (Int × Int)
def pFail (e a : Int) : PRes := (([], []), (e, a))
def second (ts : TL) : List UInt8 := match ts with
  | _ :: y :: _ => y.2.1
  | _ => []
def pB : List (TL × Int) -> Bool -> List UInt8 -> Bool -> List TPart -> List UInt8 -> Int -> List TSet -> PRes
  | [], w, nm, oo, o, ol, ol2, o2 => if w = true then pFail 140 0 else ((nm, if oo = true then o ++ [(ol, ol2, o2)] else o), (0, 0))
  | (ts, a) :: rs, true, nm, oo, o, ol, ol2, o2 =>
    if isEnd ts = true then pB rs false nm oo o ol ol2 o2 else match setOf a ts with
      | none => pFail 140 a
      | some s => if o2.length = 64 then pFail 130 a else pB rs true nm oo o ol ol2 (o2 ++ [s])
  | (ts, a) :: rs, false, nm, oo, o, ol, ol2, o2 =>
    if headB ts sSlv = false then pFail 140 a else if (if oo = true then o.length + 1 else o.length) = 8 then pFail 130 a
    else pB rs true nm true (if oo = true then o ++ [(ol, ol2, o2)] else o) (second ts) a []
def pS : List (TL × Int) -> PRes
  | [] => pFail 140 0
  | (ts, a) :: rs => if headB ts sRec = false then pFail 140 a else pB rs false (second ts) false [] [] 0 []
def parseR (s : List UInt8) (rs : List (TL × Int)) : PRes := if (lexR s).2.1 = 0 then pS rs else (([], []), (lexR s).2)
abbrev RPs := Option (As [.pr .str (.sl QCT0), .pr (.int .i64) (.int .i64)])
def pR (p : PRes) : RPs := some (p.1, p.2, ())
theorem at_1 {α : Type} (x y : α) (q : List α) : at? (x :: y :: q) 1 = some y := rfl
theorem at_2 {α : Type} (x y z : α) (q : List α) : at? (x :: y :: z :: q) 2 = some z := rfl
theorem at_3 {α : Type} (x y z u : α) (q : List α) : at? (x :: y :: z :: u :: q) 3 = some u := rfl
theorem needT {β : Type} {k : Option β} : need true k = k := rfl
theorem names_eq {ts : TL} {w : List UInt8} : q90_ (ts, w, ()) = some (headB ts w, ()) := by
  show qak_ ts w = _
  unfold qak_
  match ts with
  | [] => rfl
  | [x] => rfl
  | [x, y] =>
    rw [if_pos (show eqi (Int.ofNat [x, y].length) 2 = true from rfl), at_zero, at_1]
    simp only [Option.bind_some]
    unfold headB
    dsimp only
    cases eqi x.1 1
    · rfl
    · cases eqs x.2.1 w
      · rfl
      · cases hy : eqi y.1 1
        · rfl
        · rw [name_eq]
          rfl
  | x :: y :: z :: q =>
    rw [if_neg (show ¬ eqi (Int.ofNat (x :: y :: z :: q).length) 2 = true by rw [q1y_, q5_]; simp only [List.length_cons]; omega)]
    rfl
def parseT2 (j2 : List UInt8 -> Int × Int -> Int -> List UInt8 -> Bool -> List (List UInt8 × Int × List QCT1) -> List UInt8 -> Int -> List QCT1 -> Option (As [.pr .str (.sl QCT0), .pr (.int .i64) (.int .i64)])) (self1 : List QCT2 -> Int -> List QCT2 -> Int -> Int -> List UInt8 -> Int × Int -> Int -> List UInt8 -> Bool -> List (List UInt8 × Int × List QCT1) -> List UInt8 -> Int -> List QCT1 -> Option (As [.pr .str (.sl QCT0), .pr (.int .i64) (.int .i64)])) (tokens : List QCT2) (from' : Int) (t23 : List QCT2) (t24 t25 : Int) (t2 : List UInt8) (t3 : Int × Int) (p : Int) (p_2 : List UInt8) (o_o : Bool) (o : List (List UInt8 × Int × List QCT1)) (o_l : List UInt8) (o_l_2 : Int) (o_2 : List QCT1) (y : QCT2) (y_1 : List QCT2) : Option (As [.pr .str (.sl QCT0), .pr (.int .i64) (.int .i64)]) :=
  if nei (Int.ofNat (List.length y_1)) 3 = true then if nei (Int.ofNat (List.length y_1)) 4 = true then some (([], []), (140, y.snd.snd.snd), ()) else Option.bind (at? y_1 0) fun (y_2 : Int × List UInt8 × (Int × Int) × Int) => if nei y_2.fst 1 = true then some (([], []), (140, y.snd.snd.snd), ()) else Option.bind (at? y_1 0) fun (y_3 : Int × List UInt8 × (Int × Int) × Int) => Option.bind (q1t_ (y_3.snd.fst, ())) fun (y_4 : Bool × Unit) => if (!y_4.fst) = true then some (([], []), (140, y.snd.snd.snd), ()) else Option.bind (at? y_1 1) fun (y_5 : Int × List UInt8 × (Int × Int) × Int) => if nei y_5.fst 3 = true then some (([], []), (140, y.snd.snd.snd), ()) else Option.bind (at? y_1 2) fun (y_6 : Int × List UInt8 × (Int × Int) × Int) => if nei y_6.fst 2 = true then some (([], []), (140, y.snd.snd.snd), ()) else Option.bind (at? y_1 0) fun (y_7 : Int × List UInt8 × (Int × Int) × Int) => Option.bind (at? y_1 2) fun (y_8 : Int × List UInt8 × (Int × Int) × Int) => Option.bind (at? y_1 0) fun (y_9 : Int × List UInt8 × (Int × Int) × Int) => if eqi (Int.ofNat (List.length y_1)) 4 = true then Option.bind (at? y_1 3) fun (y_10 : Int × List UInt8 × (Int × Int) × Int) => if nei y_10.fst 1 = true then some (([], []), (140, y.snd.snd.snd), ()) else Option.bind (at? y_1 3) fun (y_11 : Int × List UInt8 × (Int × Int) × Int) => need o_o (need (eqi (Sx.sub .i64 (if o_o = true then Int.ofNat (List.length o + 1) else Int.ofNat (List.length o)) 1) (Int.ofNat (List.length o))) (need o_o (need (eqi (Sx.sub .i64 (if o_o = true then Int.ofNat (List.length o + 1) else Int.ofNat (List.length o)) 1) (Int.ofNat (List.length o))) (if eqi (Int.ofNat (List.length o_2)) 64 = true then some (([], []), (130, y.snd.snd.snd), ()) else need o_o (need (eqi (Sx.sub .i64 (if o_o = true then Int.ofNat (List.length o + 1) else Int.ofNat (List.length o)) 1) (Int.ofNat (List.length o))) (need (small (List.length o_2 + Nat.succ 0)) (need o_o (need (eqi (Sx.sub .i64 (if o_o = true then Int.ofNat (List.length o + 1) else Int.ofNat (List.length o)) 1) (Int.ofNat (List.length o))) (self1 tokens (add .i64 t25 1) t23 t24 (add .i64 t25 1) t2 t3 p p_2 true o o_l o_l_2 (o_2 ++ [(y_7.snd.fst, y_8.snd.snd.fst, y_11.snd.fst, y_9.snd.snd.snd)])))))))))) else need o_o (need (eqi (Sx.sub .i64 (if o_o = true then Int.ofNat (List.length o + 1) else Int.ofNat (List.length o)) 1) (Int.ofNat (List.length o))) (need o_o (need (eqi (Sx.sub .i64 (if o_o = true then Int.ofNat (List.length o + 1) else Int.ofNat (List.length o)) 1) (Int.ofNat (List.length o))) (if eqi (Int.ofNat (List.length o_2)) 64 = true then some (([], []), (130, y.snd.snd.snd), ()) else need o_o (need (eqi (Sx.sub .i64 (if o_o = true then Int.ofNat (List.length o + 1) else Int.ofNat (List.length o)) 1) (Int.ofNat (List.length o))) (need (small (List.length o_2 + Nat.succ 0)) (need o_o (need (eqi (Sx.sub .i64 (if o_o = true then Int.ofNat (List.length o + 1) else Int.ofNat (List.length o)) 1) (Int.ofNat (List.length o))) (self1 tokens (add .i64 t25 1) t23 t24 (add .i64 t25 1) t2 t3 p p_2 true o o_l o_l_2 (o_2 ++ [(y_7.snd.fst, y_8.snd.snd.fst, [], y_9.snd.snd.snd)])))))))))) else Option.bind (at? y_1 0) fun (y_2 : Int × List UInt8 × (Int × Int) × Int) => if nei y_2.fst 1 = true then some (([], []), (140, y.snd.snd.snd), ()) else Option.bind (at? y_1 0) fun (y_3 : Int × List UInt8 × (Int × Int) × Int) => Option.bind (q1t_ (y_3.snd.fst, ())) fun (y_4 : Bool × Unit) => if (!y_4.fst) = true then some (([], []), (140, y.snd.snd.snd), ()) else Option.bind (at? y_1 1) fun (y_5 : Int × List UInt8 × (Int × Int) × Int) => if nei y_5.fst 3 = true then some (([], []), (140, y.snd.snd.snd), ()) else Option.bind (at? y_1 2) fun (y_6 : Int × List UInt8 × (Int × Int) × Int) => if nei y_6.fst 2 = true then some (([], []), (140, y.snd.snd.snd), ()) else Option.bind (at? y_1 0) fun (y_7 : Int × List UInt8 × (Int × Int) × Int) => Option.bind (at? y_1 2) fun (y_8 : Int × List UInt8 × (Int × Int) × Int) => Option.bind (at? y_1 0) fun (y_9 : Int × List UInt8 × (Int × Int) × Int) => if eqi (Int.ofNat (List.length y_1)) 4 = true then Option.bind (at? y_1 3) fun (y_10 : Int × List UInt8 × (Int × Int) × Int) => if nei y_10.fst 1 = true then some (([], []), (140, y.snd.snd.snd), ()) else Option.bind (at? y_1 3) fun (y_11 : Int × List UInt8 × (Int × Int) × Int) => need o_o (need (eqi (Sx.sub .i64 (if o_o = true then Int.ofNat (List.length o + 1) else Int.ofNat (List.length o)) 1) (Int.ofNat (List.length o))) (need o_o (need (eqi (Sx.sub .i64 (if o_o = true then Int.ofNat (List.length o + 1) else Int.ofNat (List.length o)) 1) (Int.ofNat (List.length o))) (if eqi (Int.ofNat (List.length o_2)) 64 = true then some (([], []), (130, y.snd.snd.snd), ()) else need o_o (need (eqi (Sx.sub .i64 (if o_o = true then Int.ofNat (List.length o + 1) else Int.ofNat (List.length o)) 1) (Int.ofNat (List.length o))) (need (small (List.length o_2 + Nat.succ 0)) (need o_o (need (eqi (Sx.sub .i64 (if o_o = true then Int.ofNat (List.length o + 1) else Int.ofNat (List.length o)) 1) (Int.ofNat (List.length o))) (self1 tokens (add .i64 t25 1) t23 t24 (add .i64 t25 1) t2 t3 p p_2 true o o_l o_l_2 (o_2 ++ [(y_7.snd.fst, y_8.snd.snd.fst, y_11.snd.fst, y_9.snd.snd.snd)])))))))))) else need o_o (need (eqi (Sx.sub .i64 (if o_o = true then Int.ofNat (List.length o + 1) else Int.ofNat (List.length o)) 1) (Int.ofNat (List.length o))) (need o_o (need (eqi (Sx.sub .i64 (if o_o = true then Int.ofNat (List.length o + 1) else Int.ofNat (List.length o)) 1) (Int.ofNat (List.length o))) (if eqi (Int.ofNat (List.length o_2)) 64 = true then some (([], []), (130, y.snd.snd.snd), ()) else need o_o (need (eqi (Sx.sub .i64 (if o_o = true then Int.ofNat (List.length o + 1) else Int.ofNat (List.length o)) 1) (Int.ofNat (List.length o))) (need (small (List.length o_2 + Nat.succ 0)) (need o_o (need (eqi (Sx.sub .i64 (if o_o = true then Int.ofNat (List.length o + 1) else Int.ofNat (List.length o)) 1) (Int.ofNat (List.length o))) (self1 tokens (add .i64 t25 1) t23 t24 (add .i64 t25 1) t2 t3 p p_2 true o o_l o_l_2 (o_2 ++ [(y_7.snd.fst, y_8.snd.snd.fst, [], y_9.snd.snd.snd)]))))))))))
theorem sub_len {o : List TPart} (h : o.length ≤ 8) : eqi (Sx.sub .i64 (if true = true then Int.ofNat (o.length + 1) else Int.ofNat o.length) 1) (Int.ofNat o.length) = true := by
  rw [if_pos rfl, q5_, sub64 (by omega) (by omega), q1y_, q5_]
  omega
theorem e64 {l : List TSet} : eqi (Int.ofNat l.length) 64 = true ↔ l.length = 64 := by
  rw [q1y_, q5_]
  omega
def stepR (a : Int) (o2 : List TSet) (r : Option TSet) (k : TSet -> RPs) : RPs := match r with
  | none => pR (pFail 140 a)
  | some s => if o2.length = 64 then pR (pFail 130 a) else k s
section
variable {j2 : List UInt8 -> Int × Int -> Int -> List UInt8 -> Bool -> List TPart -> List UInt8 -> Int -> List TSet -> RPs}
  {self1 : TL -> Int -> TL -> Int -> Int -> List UInt8 -> Int × Int -> Int -> List UInt8 -> Bool -> List TPart -> List UInt8 -> Int -> List TSet -> RPs}
  {tokens t23 : TL} {d t24 t25 : Int} {t2 : List UInt8} {t3 : Int × Int} {nm : List UInt8} {o : List TPart} {ol : List UInt8} {ol2 : Int} {o2 : List TSet} {a : Int}
theorem T_eq {ts : TL} (hg : ∀ t ∈ ts, GoodT a t) (ho : o.length ≤ 8) (h2 : o2.length ≤ 64) :
    parseT2 j2 self1 tokens d t23 t24 t25 t2 t3 2 nm true o ol ol2 o2 (tkEnd a) ts = stepR a o2 (setOf a ts) fun s => self1 tokens (add .i64 t25 1) t23 t24 (add .i64 t25 1) t2 t3 2 nm true o ol ol2 (o2 ++ [s]) := by
  have hs := sub_len ho
  unfold parseT2
  match ts with
  | [] => rfl
  | [x] => rfl
  | [x, y] => rfl
  | [x, y, z] =>
    have hl : x.2.2.2 = a := (hg x (by simp)).l
    rw [if_neg (show ¬ nei (Int.ofNat [x, y, z].length) 3 = true from fun e => q1b_.1 e rfl), at_zero, at_1, at_2]
    rw [Option.bind_some]
    by_cases h1 : x.1 = 1
    · rw [if_neg (fun e => q1b_.1 e h1), Option.bind_some, name_eq, Option.bind_some]
      by_cases h2 : nameB x.2.1 = true
      · rw [if_neg (by rw [h2]; decide), Option.bind_some]
        by_cases h3 : y.1 = 3
        · rw [if_neg (fun e => q1b_.1 e h3), Option.bind_some]
          by_cases h4 : z.1 = 2
          · rw [if_neg (fun e => q1b_.1 e h4), Option.bind_some, Option.bind_some, Option.bind_some, if_neg (show ¬ eqi (Int.ofNat [x, y, z].length) 4 = true from fun e => absurd (q1y_.1 e) (by rw [q5_]; simp)), needT, need_t hs, needT, need_t hs]
            have e : setOf a [x, y, z] = some (x.2.1, z.2.2.1, [], a) := if_pos ⟨h1, h2, h3, h4⟩
            rw [e]
            unfold stepR
            dsimp only
            by_cases h6 : o2.length = 64
            · rw [if_pos (e64.2 h6), if_pos h6]
              rfl
            · rw [if_neg (fun e => h6 (e64.1 e)), if_neg h6, needT, need_t hs, qi_ (by omega), needT, need_t hs, hl]
          · rw [if_pos (q1b_.2 h4)]
            have e : setOf a [x, y, z] = none := if_neg (fun e => h4 e.2.2.2)
            rw [e]
            rfl
        · rw [if_pos (q1b_.2 h3)]
          have e : setOf a [x, y, z] = none := if_neg (fun e => h3 e.2.2.1)
          rw [e]
          rfl
      · rw [if_pos (by rw [Bool.eq_false_iff.2 h2]; decide)]
        have e : setOf a [x, y, z] = none := if_neg (fun e => h2 e.2.1)
        rw [e]
        rfl
    · rw [if_pos (q1b_.2 h1)]
      have e : setOf a [x, y, z] = none := if_neg (fun e => h1 e.1)
      rw [e]
      rfl
  | [x, y, z, u] =>
    have hl : x.2.2.2 = a := (hg x (by simp)).l
    rw [if_pos (show nei (Int.ofNat [x, y, z, u].length) 3 = true from rfl), if_neg (show ¬ nei (Int.ofNat [x, y, z, u].length) 4 = true from fun e => q1b_.1 e rfl), at_zero, at_1, at_2, at_3]
    rw [Option.bind_some]
    by_cases h1 : x.1 = 1
    · rw [if_neg (fun e => q1b_.1 e h1), Option.bind_some, name_eq, Option.bind_some]
      by_cases h2 : nameB x.2.1 = true
      · rw [if_neg (by rw [h2]; decide), Option.bind_some]
        by_cases h3 : y.1 = 3
        · rw [if_neg (fun e => q1b_.1 e h3), Option.bind_some]
          by_cases h4 : z.1 = 2
          · rw [if_neg (fun e => q1b_.1 e h4), Option.bind_some, Option.bind_some, Option.bind_some, if_pos (show eqi (Int.ofNat [x, y, z, u].length) 4 = true from rfl), Option.bind_some]
            by_cases h5 : u.1 = 1
            · rw [if_neg (fun e => q1b_.1 e h5), Option.bind_some, needT, need_t hs, needT, need_t hs]
              have e : setOf a [x, y, z, u] = some (x.2.1, z.2.2.1, u.2.1, a) := if_pos ⟨h1, h2, h3, h4, h5⟩
              rw [e]
              unfold stepR
              dsimp only
              by_cases h6 : o2.length = 64
              · rw [if_pos (e64.2 h6), if_pos h6]
                rfl
              · rw [if_neg (fun e => h6 (e64.1 e)), if_neg h6, needT, need_t hs, qi_ (by omega), needT, need_t hs, hl]
            · rw [if_pos (q1b_.2 h5)]
              have e : setOf a [x, y, z, u] = none := if_neg (fun e => h5 e.2.2.2.2)
              rw [e]
              rfl
          · rw [if_pos (q1b_.2 h4)]
            have e : setOf a [x, y, z, u] = none := if_neg (fun e => h4 e.2.2.2.1)
            rw [e]
            rfl
        · rw [if_pos (q1b_.2 h3)]
          have e : setOf a [x, y, z, u] = none := if_neg (fun e => h3 e.2.2.1)
          rw [e]
          rfl
      · rw [if_pos (by rw [Bool.eq_false_iff.2 h2]; decide)]
        have e : setOf a [x, y, z, u] = none := if_neg (fun e => h2 e.2.1)
        rw [e]
        rfl
    · rw [if_pos (q1b_.2 h1)]
      have e : setOf a [x, y, z, u] = none := if_neg (fun e => h1 e.1)
      rw [e]
      rfl
  | x :: y :: z :: u :: v :: q =>
    have hl : Int.ofNat (x :: y :: z :: u :: v :: q).length = (q.length : Int) + 5 := by rw [q5_]; simp only [List.length_cons]; omega
    rw [if_pos (show nei (Int.ofNat (x :: y :: z :: u :: v :: q).length) 3 = true by rw [q1b_, hl]; omega), if_pos (show nei (Int.ofNat (x :: y :: z :: u :: v :: q).length) 4 = true by rw [q1b_, hl]; omega)]
    rfl
theorem step2 {ts : TL} (hlt : lt t25 t24 = true) (hy : at? t23 t25 = some (tkEnd a)) (hc : cut tokens d t25 = some ts) (hg : ∀ t ∈ ts, GoodT a t) (ho : o.length ≤ 8) (h2 : o2.length ≤ 64) :
    q1j_ j2 self1 tokens d t23 t24 t25 t2 t3 2 nm true o ol ol2 o2 = if isEnd ts = true then self1 tokens (add .i64 t25 1) t23 t24 (add .i64 t25 1) t2 t3 1 nm true o ol ol2 o2
      else stepR a o2 (setOf a ts) fun s => self1 tokens (add .i64 t25 1) t23 t24 (add .i64 t25 1) t2 t3 2 nm true o ol ol2 (o2 ++ [s]) := by
  rw [<- T_eq (j2 := j2) (d := d) hg ho h2]
  unfold q1j_
  rw [if_pos hlt, hy, Option.bind_some, if_neg (show ¬ nei (tkEnd a).1 4 = true from fun e => q1b_.1 e rfl), if_pos (show eqi 2 2 = true from rfl), hc, Option.bind_some]
  match ts with
  | [] => rfl
  | [x] =>
    rw [if_pos (show eqi (Int.ofNat [x].length) 1 = true from rfl), at_zero, Option.bind_some]
    have he : isEnd [x] = (eqi x.1 1 && eqs x.2.1 sEnd) := rfl
    rw [he]
    by_cases h1 : eqi x.1 1 = true
    · rw [if_pos h1, Option.bind_some]
      by_cases h3 : eqs x.2.1 sEnd = true
      · rw [if_pos h3, if_pos (show (eqi x.1 1 && eqs x.2.1 sEnd) = true by rw [h1, h3]; rfl)]
      · rw [if_neg h3, if_neg (show ¬ (eqi x.1 1 && eqs x.2.1 sEnd) = true by rw [h1, Bool.eq_false_iff.2 h3]; decide)]
        rfl
    · rw [if_neg h1, if_neg (show ¬ (eqi x.1 1 && eqs x.2.1 sEnd) = true by rw [Bool.eq_false_iff.2 h1]; simp)]
      rfl
  | x :: y :: q =>
    rw [if_neg (show ¬ eqi (Int.ofNat (x :: y :: q).length) 1 = true by rw [q1y_, q5_]; simp only [List.length_cons]; omega)]
    rfl
end
end Go.Proofs.Lx
end
section
namespace Go.Proofs.Lx
open Go Ev Sx Pl
set_option maxRecDepth 10000
def flat (rs : List (TL × Int)) : TL := rs.flatMap fun p => p.1 ++ [tkEnd p.2]
theorem flat_cons (p : TL × Int) (rs : List (TL × Int)) : flat (p :: rs) = p.1 ++ tkEnd p.2 :: flat rs := by
  unfold flat
  rw [List.flatMap_cons, List.append_assoc]
  rfl
def lenB (oo : Bool) (o : List TPart) : Nat := if oo = true then o.length + 1 else o.length
theorem len_eq (oo : Bool) (o : List TPart) : (if oo = true then Int.ofNat (o.length + 1) else Int.ofNat o.length) = ((lenB oo o : Nat) : Int) := by
  unfold lenB
  cases oo <;> rfl
theorem all_len (oo : Bool) (o : List TPart) (c : TPart) : (if oo = true then o ++ [c] else o).length = lenB oo o := by
  unfold lenB
  cases oo
  · rfl
  · rw [if_pos rfl, if_pos rfl, List.length_append]
    rfl
theorem head_two {ts : TL} {w : List UInt8} (h : headB ts w = true) : ∃ x y, ts = [x, y] := by
  match ts with
  | [] => cases h
  | [x] => cases h
  | [x, y] => exact ⟨x, y, rfl⟩
  | x :: y :: z :: q => cases h
section
variable {j2 : List UInt8 -> Int × Int -> Int -> List UInt8 -> Bool -> List TPart -> List UInt8 -> Int -> List TSet -> RPs}
  {self1 : TL -> Int -> TL -> Int -> Int -> List UInt8 -> Int × Int -> Int -> List UInt8 -> Bool -> List TPart -> List UInt8 -> Int -> List TSet -> RPs}
  {tokens t23 : TL} {d t24 t25 : Int} {t2 : List UInt8} {t3 : Int × Int} {nm : List UInt8} {oo : Bool} {o : List TPart} {ol : List UInt8} {ol2 : Int} {o2 : List TSet} {a : Int}
theorem step1 {ts : TL} (hlt : lt t25 t24 = true) (hy : at? t23 t25 = some (tkEnd a)) (hc : cut tokens d t25 = some ts) (hg : ∀ t ∈ ts, GoodT a t) (ho : lenB oo o ≤ 8) :
    q1j_ j2 self1 tokens d t23 t24 t25 t2 t3 1 nm oo o ol ol2 o2 = if headB ts sSlv = false then pR (pFail 140 a) else if lenB oo o = 8 then pR (pFail 130 a)
      else self1 tokens (add .i64 t25 1) t23 t24 (add .i64 t25 1) t2 t3 2 nm true (if oo = true then o ++ [(ol, ol2, o2)] else o) (second ts) a [] := by
  unfold q1j_
  rw [if_pos hlt, hy, Option.bind_some, if_neg (show ¬ nei (tkEnd a).1 4 = true from fun e => q1b_.1 e rfl), if_neg (show ¬ eqi 1 2 = true by decide), if_pos (show eqi 1 1 = true from rfl), hc, Option.bind_some, show ([115, 108, 97, 118, 101] : List UInt8) = sSlv from rfl, names_eq, Option.bind_some]
  cases hh : headB ts sSlv with
  | false => rfl
  | true =>
    rw [if_neg (show ¬ (!true) = true by decide), if_neg (show ¬ true = false by decide)]
    obtain ⟨x, y, rfl⟩ := head_two hh
    have hl : y.2.2.2 = a := (hg y (by simp)).l
    rw [len_eq]
    by_cases h8 : lenB oo o = 8
    · rw [if_pos (show eqi ((lenB oo o : Nat) : Int) 8 = true by rw [q1y_]; omega), if_pos h8]
      rfl
    · rw [if_neg (show ¬ eqi ((lenB oo o : Nat) : Int) 8 = true by rw [q1y_]; omega), if_neg h8, at_1, Option.bind_some, Option.bind_some, all_len, qi_ (by omega), hl]
      rfl
theorem step0 {ts : TL} (hlt : lt t25 t24 = true) (hy : at? t23 t25 = some (tkEnd a)) (hc : cut tokens d t25 = some ts) :
    q1j_ j2 self1 tokens d t23 t24 t25 t2 t3 0 nm oo o ol ol2 o2 = if headB ts sRec = false then pR (pFail 140 a)
      else self1 tokens (add .i64 t25 1) t23 t24 (add .i64 t25 1) t2 t3 1 (second ts) oo o ol ol2 o2 := by
  unfold q1j_
  rw [if_pos hlt, hy, Option.bind_some, if_neg (show ¬ nei (tkEnd a).1 4 = true from fun e => q1b_.1 e rfl), if_neg (show ¬ eqi 0 2 = true by decide), if_neg (show ¬ eqi 0 1 = true by decide), if_pos (show eqi 0 0 = true from rfl), hc, Option.bind_some, show ([114, 101, 99, 105, 112, 101] : List UInt8) = sRec from rfl, names_eq, Option.bind_some]
  cases hh : headB ts sRec with
  | false => rfl
  | true =>
    rw [if_neg (show ¬ (!true) = true by decide), if_neg (show ¬ true = false by decide)]
    obtain ⟨x, y, rfl⟩ := head_two hh
    rw [at_1, Option.bind_some]
    rfl
theorem stepE (hlt : lt t25 t24 = true) {y : Tk1} (hy : at? t23 t25 = some y) (h : y.1 ≠ 4) {p : Int} :
    q1j_ j2 self1 tokens d t23 t24 t25 t2 t3 p nm oo o ol ol2 o2 = self1 tokens d t23 t24 (add .i64 t25 1) t2 t3 p nm oo o ol ol2 o2 := by
  unfold q1j_
  rw [if_pos hlt, hy, Option.bind_some, if_pos (q1b_.2 h)]
end
abbrev PSt := TL × Int × TL × Int × Int × List UInt8 × (Int × Int) × Int × List UInt8 × Bool × List TPart × List UInt8 × Int × List TSet
def rpF (self : PSt -> RPs) (s : PSt) : RPs := q1j_ (q6t_) (fun tokens from' t23 t24 t25 t2 t3 p p_2 o_o o o_l o_l_2 o_2 => self (tokens, from', t23, t24, t25, t2, t3, p, p_2, o_o, o, o_l, o_l_2, o_2)) s.1 s.2.1 s.2.2.1 s.2.2.2.1 s.2.2.2.2.1 s.2.2.2.2.2.1 s.2.2.2.2.2.2.1 s.2.2.2.2.2.2.2.1 s.2.2.2.2.2.2.2.2.1 s.2.2.2.2.2.2.2.2.2.1 s.2.2.2.2.2.2.2.2.2.2.1 s.2.2.2.2.2.2.2.2.2.2.2.1 s.2.2.2.2.2.2.2.2.2.2.2.2.1 s.2.2.2.2.2.2.2.2.2.2.2.2.2
theorem rp_K1 (tokens : TL) (from' : Int) (t23 : TL) (t24 t25 : Int) (t2 : List UInt8) (t3 : Int × Int) (p : Int) (p_2 : List UInt8) (o_o : Bool) (o : List TPart) (o_l : List UInt8) (o_l_2 : Int) (o_2 : List TSet) :
    q6s_ tokens from' t23 t24 t25 t2 t3 p p_2 o_o o o_l o_l_2 o_2 = loopF rpF 18446744073709551616 (tokens, from', t23, t24, t25, t2, t3, p, p_2, o_o, o, o_l, o_l_2, o_2) := rfl
theorem rp_F (self : PSt -> RPs) (tokens : TL) (from' : Int) (t23 : TL) (t24 t25 : Int) (t2 : List UInt8) (t3 : Int × Int) (p : Int) (p_2 : List UInt8) (o_o : Bool) (o : List TPart) (o_l : List UInt8) (o_l_2 : Int) (o_2 : List TSet) :
    rpF self (tokens, from', t23, t24, t25, t2, t3, p, p_2, o_o, o, o_l, o_l_2, o_2) = q1j_ (q6t_) (fun tokens from' t23 t24 t25 t2 t3 p p_2 o_o o o_l o_l_2 o_2 => self (tokens, from', t23, t24, t25, t2, t3, p, p_2, o_o, o, o_l, o_l_2, o_2)) tokens from' t23 t24 t25 t2 t3 p p_2 o_o o o_l o_l_2 o_2 := rfl
theorem skip {tokens : TL} {t2 : List UInt8} {t3 : Int × Int} {p : Int} {nm : List UInt8} {oo : Bool} {o : List TPart} {ol : List UInt8} {ol2 : Int} {o2 : List TSet} (hl : tokens.length < 1000000) {d : Int} {rest : TL} : ∀ (q : TL) (i n : Nat), tokens.drop i = q ++ rest -> (∀ t ∈ q, t.1 ≠ 4) ->
    loopF rpF (q.length + n) (tokens, d, tokens, Int.ofNat tokens.length, (i : Int), t2, t3, p, nm, oo, o, ol, ol2, o2) = loopF rpF n (tokens, d, tokens, Int.ofNat tokens.length, ((i + q.length : Nat) : Int), t2, t3, p, nm, oo, o, ol, ol2, o2)
  | [], i, n, _, _ => by rw [List.length_nil, Nat.zero_add, Nat.add_zero]
  | t :: q, i, n, h, hk => by
    have hd := drop_succ (r := q ++ rest) h
    rw [List.length_cons, show q.length + 1 + n = (q.length + n) + 1 by omega, q3b_, rp_F, stepE (by rw [qw_, q5_]; omega) (at_drop h) (hk t List.mem_cons_self), succ64 (by omega)]
    show loopF rpF (q.length + n) (tokens, d, tokens, Int.ofNat tokens.length, ((i + 1 : Nat) : Int), t2, t3, p, nm, oo, o, ol, ol2, o2) = _
    rw [skip hl q (i + 1) n hd.1 (fun x hx => hk x (List.mem_cons_of_mem _ hx)), show i + 1 + q.length = i + (q.length + 1) by omega]
theorem drop_row {tokens : TL} {d : Nat} {ts : TL} {a : Int} {rest : TL} (h : tokens.drop d = ts ++ tkEnd a :: rest) :
    tokens.drop (d + ts.length) = tkEnd a :: rest ∧ tokens.drop (d + ts.length + 1) = rest ∧ d + ts.length < tokens.length ∧ cut tokens (d : Int) ((d + ts.length : Nat) : Int) = some ts := by
  have h1 : tokens.drop (d + ts.length) = tkEnd a :: rest := by
    rw [<- List.drop_drop, h, List.drop_left]
  have h2 := drop_succ h1
  refine ⟨h1, h2.1, h2.2.1, ?_⟩
  rw [cut_nat (by omega) (by omega), List.drop_take, h, show d + ts.length - d = ts.length by omega, List.take_left]
theorem pr_loop {tokens : TL} {t2 : List UInt8} {t3 : Int × Int} (hl : tokens.length < 1000000) : ∀ (rs : List (TL × Int)) (d : Nat) (w : Bool) (nm : List UInt8) (oo : Bool) (o : List TPart) (ol : List UInt8) (ol2 : Int) (o2 : List TSet) (n : Nat),
    d ≤ tokens.length -> tokens.drop d = flat rs -> (∀ p ∈ rs, ∀ t ∈ p.1, GoodT p.2 t) -> (w = true -> oo = true) -> lenB oo o ≤ 8 -> o2.length ≤ 64 -> (flat rs).length < n ->
    loopF rpF n (tokens, (d : Int), tokens, Int.ofNat tokens.length, (d : Int), t2, t3, if w = true then 2 else 1, nm, oo, o, ol, ol2, o2) = pR (pB rs w nm oo o ol ol2 o2)
  | [], d, w, nm, oo, o, ol, ol2, o2, n, hdl, h, hg, hw, ho, h2, hn => by
    have hd : tokens.length = d := by
      have := congrArg List.length h
      rw [List.length_drop] at this
      have h0 : (flat []).length = 0 := rfl
      omega
    match n, hn with
    | n + 1, _ =>
      rw [q3b_, rp_F]
      unfold q1j_
      rw [if_neg (by rw [qw_, q5_]; omega)]
      show q8n_ t2 t3 _ nm oo o ol ol2 o2 = _
      unfold q8n_
      cases w <;> rfl
  | (ts, a) :: rs, d, w, nm, oo, o, ol, ol2, o2, n, hdl, h, hg, hw, ho, h2, hn => by
    rw [flat_cons] at h hn
    have h : tokens.drop d = ts ++ tkEnd a :: flat rs := h
    have hr := drop_row h
    have hgt := hg (ts, a) List.mem_cons_self
    have hgr : ∀ p ∈ rs, ∀ t ∈ p.1, GoodT p.2 t := fun p hp => hg p (List.mem_cons_of_mem _ hp)
    rw [List.length_append, List.length_cons] at hn
    have hn : ts.length + ((flat rs).length + 1) < n := hn
    obtain ⟨m, rfl⟩ : ∃ m, n = ts.length + (m + 1) := ⟨n - ts.length - 1, by omega⟩
    rw [skip hl ts d (m + 1) h (fun t ht => (hgt t ht).k), q3b_, rp_F]
    have hlt : lt ((d + ts.length : Nat) : Int) (Int.ofNat tokens.length) = true := by rw [qw_, q5_]; omega
    have hat := at_drop hr.1
    have hm : (flat rs).length < m := by omega
    cases w with
    | true =>
      have hoo := hw rfl
      subst hoo
      have ho8 : o.length ≤ 8 := by unfold lenB at ho; rw [if_pos rfl] at ho; omega
      rw [if_pos rfl, step2 hlt hat hr.2.2.2 hgt ho8 h2, succ64 (by omega)]
      unfold pB
      cases he : isEnd ts with
      | true =>
        rw [if_pos rfl, if_pos rfl]
        exact pr_loop hl rs (d + ts.length + 1) false nm true o ol ol2 o2 m (by omega) hr.2.1 hgr (fun e => by cases e) ho h2 hm
      | false =>
        rw [if_neg (by decide), if_neg (by decide)]
        cases hs : setOf a ts with
        | none => rfl
        | some s =>
          unfold stepR
          dsimp only
          by_cases h64 : o2.length = 64
          · rw [if_pos h64, if_pos h64]
          · rw [if_neg h64, if_neg h64]
            exact pr_loop hl rs (d + ts.length + 1) true nm true o ol ol2 (o2 ++ [s]) m (by omega) hr.2.1 hgr (fun _ => rfl) ho (by rw [List.length_append]; simp; omega) hm
    | false =>
      rw [if_neg (show ¬ false = true by decide), step1 hlt hat hr.2.2.2 hgt ho, succ64 (by omega)]
      unfold pB
      by_cases hh : headB ts sSlv = false
      · rw [if_pos hh, if_pos hh]
      · rw [if_neg hh, if_neg hh]
        by_cases h8 : lenB oo o = 8
        · rw [if_pos h8, if_pos (show (if oo = true then o.length + 1 else o.length) = 8 from h8)]
        · rw [if_neg h8, if_neg (show ¬ (if oo = true then o.length + 1 else o.length) = 8 from h8)]
          exact pr_loop hl rs (d + ts.length + 1) true nm true (if oo = true then o ++ [(ol, ol2, o2)] else o) (second ts) a [] m (by omega) hr.2.1 hgr (fun _ => rfl) (by
            show (if true = true then (if oo = true then o ++ [(ol, ol2, o2)] else o).length + 1 else _) ≤ 8
            rw [if_pos rfl, all_len]; omega) (by simp) hm
theorem lexS_len : ∀ (k : Nat) (s : List UInt8) (n : Int) (l : TL), s.length ≤ k -> (lexS n s l).1.length ≤ l.length + 2 * s.length
  | 0, s, n, l, h => by
    have : s = [] := List.eq_nil_of_length_eq_zero (by omega)
    subst this
    rw [lexS, dif_pos rfl]
    simp
  | k + 1, s, n, l, h => by
    by_cases hs : s = []
    · rw [hs, lexS, dif_pos rfl]
      simp
    · rw [lexS_step hs]
      have hlt := lrest_len hs
      split
      · simp
      · have h1 := lexS_len k (lrest s) (n + 1) (l ++ (lineT n (uncom (q1m_ s)) []).1) (by omega)
        have h2 := lineT_len n (uncom (q1m_ s)).length (uncom (q1m_ s)) [] (Nat.le_refl _)
        have h3 := uncom_len (q1m_ s)
        have h4 : (q1m_ s).length + (lrest s).length ≤ s.length := by
          have e := congrArg List.length (List.takeWhile_append_dropWhile (p := (· != (10 : UInt8))) (l := s))
          rw [List.length_append] at e
          unfold q1m_ lrest
          rw [List.length_drop]
          omega
        rw [List.length_append] at h1
        rw [List.length_nil] at h2
        omega
theorem lexR_len (s : List UInt8) : (lexR s).1.length ≤ 20000 := by
  unfold lexR
  split
  · simp
  · have := lexS_len s.length s 1 [] (Nat.le_refl _)
    rw [List.length_nil] at this
    omega
theorem pS_cons (ts : TL) (a : Int) (rs : List (TL × Int)) : pS ((ts, a) :: rs) = if headB ts sRec = false then pFail 140 a else pB rs false (second ts) false [] [] 0 [] := rfl
theorem lexS_zero : ∀ (k : Nat) (s : List UInt8) (n : Int) (l : TL), s.length ≤ k -> (lexS n s l).2.1 = 0 -> (lexS n s l).2.2 = 0
  | 0, s, n, l, h, _ => by
    have : s = [] := List.eq_nil_of_length_eq_zero (by omega)
    subst this
    rw [lexS, dif_pos rfl]
  | k + 1, s, n, l, h, he => by
    by_cases hs : s = []
    · rw [hs, lexS, dif_pos rfl]
    · have hlt := lrest_len hs
      rw [lexS_step hs] at he ⊢
      by_cases h1 : (lineT n (uncom (q1m_ s)) []).2 ≠ 0
      · rw [if_pos h1] at he
        exact absurd he h1
      · rw [if_neg h1] at he ⊢
        exact lexS_zero k _ _ _ (by omega) he
theorem lexR_zero {s : List UInt8} (h : (lexR s).2.1 = 0) : (lexR s).2.2 = 0 := by
  unfold lexR at h ⊢
  split
  · rfl
  · rename_i h1
    rw [if_neg h1] at h
    exact lexS_zero _ s 1 [] (Nat.le_refl _) h
theorem rparse_eq {s : List UInt8} {rs : List (TL × Int)} (h : (lexR s).2.1 = 0 -> RowsT (lexR s).1 rs) : q22_ (s, ()) = pR (parseR s rs) := by
  show q8r_ q6s_ s = _
  unfold q8r_ parseR
  rw [lex_eq, Option.bind_some]
  dsimp only
  by_cases h0 : (lexR s).2.1 = 0
  · have hr := h h0
    have h1 := lexR_zero h0
    rw [if_neg (by rw [h0, h1]; decide), if_pos h0]
    have hl := lexR_len s
    rw [rp_K1]
    have hf : (lexR s).1 = flat rs := hr.e
    match rs, hf, hr with
    | [], hf, hr =>
      have hz : (lexR s).1 = [] := hf
      rw [hz, q3b_, rp_F]
      rfl
    | (ts, a) :: rs, hf, hr =>
      rw [flat_cons] at hf
      have hgt := (hr.g (ts, a) List.mem_cons_self).2
      have hd : (lexR s).1.drop 0 = ts ++ tkEnd a :: flat rs := hf
      have hrw := drop_row hd
      have hlen := congrArg List.length hf
      rw [List.length_append, List.length_cons] at hlen
      have hlen : (lexR s).1.length = ts.length + ((flat rs).length + 1) := hlen
      rw [show (18446744073709551616 : Nat) = ts.length + ((18446744073709551616 - ts.length - 1) + 1) by omega]
      refine (skip (by omega) (d := 0) ts 0 _ hd (fun t ht => (hgt t ht).k)).trans ?_
      have hc : cut (lexR s).1 0 ((0 + ts.length : Nat) : Int) = some ts := hrw.2.2.2
      rw [q3b_, rp_F, step0 (by rw [qw_, q5_]; omega) (at_drop hrw.1) hc, succ64 (by omega)]
      rw [pS_cons]
      by_cases hh : headB ts sRec = false
      · rw [if_pos hh, if_pos hh]
      · rw [if_neg hh, if_neg hh]
        exact pr_loop (by omega) rs (0 + ts.length + 1) false (second ts) false [] [] 0 [] _ (by omega) hrw.2.1 (fun p hp => (hr.g p (List.mem_cons_of_mem _ hp)).2) (fun e => by cases e) (by decide) (by simp) (by omega)
  · have e : eqi (lexR s).2.1 0 = false := by
      cases q : eqi (lexR s).2.1 0 with
      | true => exact absurd (q1y_.1 q) h0
      | false => rfl
    rw [if_pos (by rw [e]; rfl), if_neg h0]
    rfl
end Go.Proofs.Lx
end
section
namespace Go.Proofs.Lx
open Go Ev Sx Pl
set_option maxRecDepth 10000
def fewS (s : TSet) : Bool := decide (s.1.length ≤ 40) && decide (s.2.2.1.length ≤ 40)
def fewP (p : TPart) : Bool := (decide (p.2.2.length ≤ 70) && decide (p.1.length ≤ 40)) && p.2.2.all fewS
def fewB (r : TRec) : Bool := (decide (r.2.length ≤ 12) && decide (r.1.length ≤ 40)) && r.2.all fewP
theorem few_eq {r : TRec} : q6n_ (r, ()) = some (fewB r, ()) := by
  show qaf_ q91_ r = _
  unfold qaf_
  have K1 : ∀ b, q91_ b r = if b = true then some (false, ()) else q7r_ r.2 (Int.ofNat r.2.length) 0 := fun b => rfl
  have e12 : gt (Int.ofNat r.2.length) 12 = !decide (r.2.length ≤ 12) := gtn (k := 12)
  have e40 : gt (Int.ofNat r.1.length) 40 = !decide (r.1.length ≤ 40) := gtn (k := 40)
  simp only [K1, e12, e40]
  unfold fewB
  by_cases h12 : ¬ r.2.length ≤ 12
  · rw [decide_eq_false h12]; rfl
  have h12 : r.2.length ≤ 12 := by omega
  have K2 : q7r_ r.2 (Int.ofNat r.2.length) 0 = if r.2.all fewP = true then some (true, ()) else some (false, ()) := by
    unfold q7r_
    refine loop_all (xs := r.2) (mk := fun i => (r.2, Int.ofNat r.2.length, (i : Int))) (p := fewP) ?_ ?_ (by omega)
    · intro self i p hp
      have hi := (List.getElem?_eq_some_iff.1 hp).1
      show q7p_ (q8w_ fun t18 t19 t20 => self (t18, t19, t20)) _ r.2 (Int.ofNat r.2.length) (i : Int) = _
      unfold q7p_
      rw [if_pos (by rw [qw_, q5_]; omega), at_get hp, Option.bind_some]
      have e70 : gt (Int.ofNat p.2.2.length) 70 = !decide (p.2.2.length ≤ 70) := gtn (k := 70)
      have e40 : gt (Int.ofNat p.1.length) 40 = !decide (p.1.length ≤ 40) := gtn (k := 40)
      have K3 : ∀ b, q8w_ (fun t18 t19 t20 => self (t18, t19, t20)) r.2 (Int.ofNat r.2.length) (i : Int) b p = if b = true then some (false, ()) else q7o_ (fun t18 t19 t20 => self (t18, t19, t20)) r.2 (Int.ofNat r.2.length) (i : Int) p.2.2 (Int.ofNat p.2.2.length) 0 := fun b => rfl
      simp only [K3, e70, e40]
      unfold fewP
      by_cases h70 : ¬ p.2.2.length ≤ 70
      · rw [decide_eq_false h70]; cases decide (p.1.length ≤ 40) <;> rfl
      have h70 : p.2.2.length ≤ 70 := by omega
      have K4 : q7o_ (fun t18 t19 t20 => self (t18, t19, t20)) r.2 (Int.ofNat r.2.length) (i : Int) p.2.2 (Int.ofNat p.2.2.length) 0 = if p.2.2.all fewS = true then self (r.2, Int.ofNat r.2.length, ((i + 1 : Nat) : Int)) else some (false, ()) := by
        unfold q7o_
        refine loop_all (xs := p.2.2) (mk := fun k => (r.2, Int.ofNat r.2.length, (i : Int), p.2.2, Int.ofNat p.2.2.length, (k : Int))) (p := fewS) ?_ ?_ (by omega)
        · intro self4 k s hs
          have hk := (List.getElem?_eq_some_iff.1 hs).1
          show q7h_ (q8v_ (fun t18 t19 t20 => self (t18, t19, t20)) fun t18 t19 t20 t35 t36 t37 => self4 (t18, t19, t20, t35, t36, t37)) _ _ r.2 (Int.ofNat r.2.length) (i : Int) p.2.2 (Int.ofNat p.2.2.length) (k : Int) = _
          unfold q7h_
          have K5 : ∀ b, q8v_ (fun t18 t19 t20 => self (t18, t19, t20)) (fun t18 t19 t20 t35 t36 t37 => self4 (t18, t19, t20, t35, t36, t37)) r.2 (Int.ofNat r.2.length) (i : Int) p.2.2 (Int.ofNat p.2.2.length) (k : Int) b = if b = true then some (false, ()) else self4 (r.2, Int.ofNat r.2.length, (i : Int), p.2.2, Int.ofNat p.2.2.length, ((k + 1 : Nat) : Int)) := fun b => by
            show qac_ _ _ r.2 (Int.ofNat r.2.length) (i : Int) p.2.2 (Int.ofNat p.2.2.length) (k : Int) b = _
            unfold qac_
            rw [succ64 (by omega)]
          rw [if_pos (by rw [qw_, q5_]; omega), at_get hs, Option.bind_some]
          have f1 : gt (Int.ofNat s.1.length) 40 = !decide (s.1.length ≤ 40) := gtn (k := 40)
          have f2 : gt (Int.ofNat s.2.2.1.length) 40 = !decide (s.2.2.1.length ≤ 40) := gtn (k := 40)
          simp only [K5, f1, f2]
          unfold fewS
          cases decide (s.1.length ≤ 40) <;> cases decide (s.2.2.1.length ≤ 40) <;> rfl
        · intro self4
          show q7h_ _ _ _ r.2 (Int.ofNat r.2.length) (i : Int) p.2.2 (Int.ofNat p.2.2.length) (p.2.2.length : Int) = _
          unfold q7h_
          rw [if_neg (by rw [qw_, q5_]; omega), succ64 (by omega)]
      rw [K4, decide_eq_true h70]
      cases decide (p.1.length ≤ 40) <;> cases p.2.2.all fewS <;> rfl
    · intro self
      show q7p_ _ _ r.2 (Int.ofNat r.2.length) (r.2.length : Int) = _
      unfold q7p_
      rw [if_neg (by rw [qw_, q5_]; omega)]
  rw [K2, decide_eq_true h12]
  cases decide (r.1.length ≤ 40) <;> cases r.2.all fewP <;> rfl
theorem nameB_len {s : List UInt8} (h : nameB s = true) : s.length ≤ 20 := by
  unfold nameB at h
  simp only [Bool.and_eq_true, decide_eq_true_eq] at h
  exact h.1.1.1.1.1.2
theorem unitB_len {s : List UInt8} (h : unitB s = true) : s.length ≤ 20 := by
  unfold unitB at h
  simp only [Bool.and_eq_true, decide_eq_true_eq] at h
  exact h.1
def shwd (d : Int × Int) : List UInt8 := ((q85_ (d, ())).getD ([], ())).1
theorem shw_len {sg : Bool} {n D : Nat} (hn : n ≤ 1000000000000) (h6 : D ≤ 6) : (shw sg n D).length ≤ 30 := by
  unfold shw
  have hl : (dd (n / 10 ^ D)).length ≤ 13 := dd_len (by decide) (by have := Nat.div_le_self n (10 ^ D); omega)
  have h1 : (if sg then [45] else [] : List UInt8).length ≤ 1 := by cases sg <;> simp
  have h2 : (if D = 0 then [] else 46 :: fx D (n % 10 ^ D) : List UInt8).length ≤ 7 := by
    split
    · simp
    · rw [List.length_cons, fx_len]; omega
  rw [List.length_append, List.length_append]
  omega
theorem shwd_eq {d : Int × Int} {sg : Bool} {n D : Nat} (h : RtD d sg n D) : shwd d = shw sg n D := by
  unfold shwd
  rw [show_eq h]
  rfl
theorem shows {d : Int × Int} (h : rgt d = true) (h0 : 0 ≤ d.2) : q85_ (d, ()) = some (shwd d, ()) ∧ qde_ (d, ()) = some (shwd d, ()) ∧ (shwd d).length ≤ 30 := by
  obtain ⟨sg, n, D, hr⟩ := rgt_rt h h0
  rw [shwd_eq hr]
  exact ⟨show_eq hr, rshow_eq hr, shw_len hr.le hr.d6⟩
def lnB (ws : List (List UInt8)) : List UInt8 := joinF [32] ws ++ [10]
def setW (s : TSet) : List (List UInt8) := if s.2.2.1 = [] then [32 :: 32 :: s.1, [61], shwd s.2.1] else [32 :: 32 :: s.1, [61], shwd s.2.1, s.2.2.1]
def setT (s : TSet) : List UInt8 := lnB (setW s)
def partT (p : TPart) : List UInt8 := lnB [sSlv, p.1] ++ p.2.2.flatMap setT ++ lnB [sEnd]
def printS (r : TRec) : List UInt8 := lnB [sRec, r.1] ++ r.2.flatMap partT
abbrev bi (l : List UInt8) : List Int := l.map fun b => Int.ofNat b.toNat
theorem u8s_bi : ∀ l : List UInt8, Ev.u8s (bi l) = true
  | [] => rfl
  | c :: q => by
    have := c.toNat_lt
    show (decide (0 ≤ Int.ofNat c.toNat ∧ Int.ofNat c.toNat ≤ 255) && Ev.u8s (bi q)) = true
    rw [u8s_bi q, decide_eq_true (by rw [q5_]; omega)]
    rfl
theorem toS_bi : ∀ l : List UInt8, Sx.toS (bi l) = l
  | [] => rfl
  | c :: q => by
    have h := toS_bi q
    show UInt8.ofNat (Int.ofNat c.toNat).toNat :: Sx.toS (bi q) = _
    rw [h]
    congr 1
    simp
structure SetOk (s : TSet) : Prop where
  n : s.1.length ≤ 20
  u : s.2.2.1.length ≤ 20
  r : rgt s.2.1 = true
  d : 0 ≤ s.2.1.2
theorem join_val {ws : List (List UInt8)} (h : ws.length ≤ 10) (h2 : (joinF [32] ws).length ≤ 1000) : strings_Join (ws, [32], ()) = some (joinF [32] ws, ()) := by
  unfold strings_Join
  rw [if_pos ⟨by show ws.length ≤ _; omega, by show (joinF [32] ws).length ≤ _; omega⟩]
theorem line_go {R : Type} {k : List Int -> Option R} {acc : List UInt8} {ws : List (List UInt8)} (h : ws.length ≤ 10) (h2 : (joinF [32] ws).length ≤ 1000) (ha : acc.length ≤ 2000000) :
    (Option.bind (strings_Join (ws, [32], ())) fun (y : List UInt8 × Unit) => need (small (List.length (bi acc) + List.length y.fst)) (need (small (List.length (bi acc ++ List.map (fun (b : UInt8) => Int.ofNat (UInt8.toNat b)) y.fst) + 1)) (k (bi acc ++ List.map (fun (b : UInt8) => Int.ofNat (UInt8.toNat b)) y.fst ++ [10])))) = k (bi (acc ++ lnB ws)) := by
  rw [join_val h h2, Option.bind_some]
  have l1 : (bi acc).length = acc.length := List.length_map _
  have l2 : (bi acc ++ bi (joinF [32] ws)).length = acc.length + (joinF [32] ws).length := by rw [List.length_append, List.length_map, List.length_map]
  rw [qi_ (by show (bi acc).length + (joinF [32] ws).length ≤ _; omega), qi_ (by show (bi acc ++ bi (joinF [32] ws)).length + 1 ≤ _; omega)]
  congr 1
  unfold lnB bi
  simp
theorem setW_len {s : TSet} (h : SetOk s) : (setW s).length ≤ 10 ∧ (joinF [32] (setW s)).length ≤ 100 := by
  have h1 := h.n
  have h2 := h.u
  have h3 := (shows h.r h.d).2.2
  unfold setW
  split
  · refine ⟨by simp, ?_⟩
    simp only [joinF, List.length_append, List.length_cons, List.length_nil]
    omega
  · refine ⟨by simp, ?_⟩
    simp only [joinF, List.length_append, List.length_cons, List.length_nil]
    omega
theorem lnB_len {ws : List (List UInt8)} : (lnB ws).length = (joinF [32] ws).length + 1 := by unfold lnB; simp
theorem print_K2 {u1 : List TPart -> Int -> Int -> List Int -> Option (As [.str, .bool])} {r : List TPart} {p : TPart} {i : Nat} {acc : List UInt8} (hi : i < 1000) (hl : p.2.2.length ≤ 64) (hp : ∀ s ∈ p.2.2, SetOk s) (ha : acc.length ≤ 1000000) :
    q4b_ u1 r (Int.ofNat r.length) (i : Int) p.2.2 (Int.ofNat p.2.2.length) 0 (bi acc) = u1 r (Int.ofNat r.length) ((i + 1 : Nat) : Int) (bi (acc ++ p.2.2.flatMap setT ++ lnB [sEnd])) ∧ (acc ++ p.2.2.flatMap setT).length ≤ acc.length + p.2.2.length * 101 := by
  have hlen : ∀ l : List TSet, (∀ s ∈ l, SetOk s) -> (l.flatMap setT).length ≤ l.length * 101 := by
    intro l
    induction l with
    | nil => intro _; simp
    | cons s q ih =>
      intro h
      have := ih fun x hx => h x (List.mem_cons_of_mem _ hx)
      have h1 := (setW_len (h s List.mem_cons_self)).2
      rw [List.flatMap_cons, List.length_append, List.length_cons]
      unfold setT at this ⊢
      rw [lnB_len]
      omega
  refine ⟨?_, by rw [List.length_append]; have := hlen _ hp; omega⟩
  unfold q4b_
  refine (loop_idx (σ := (List TPart) × (Int) × (Int) × (List TSet) × (Int) × (Int) × (List Int)) (xs := p.2.2) (mk := fun k acc => (r, Int.ofNat r.length, (i : Int), p.2.2, Int.ofNat p.2.2.length, (k : Int), bi acc)) (stp := fun acc s => acc ++ setT s)
    (fin := fun acc => u1 r (Int.ofNat r.length) ((i + 1 : Nat) : Int) (bi (acc ++ lnB [sEnd]))) (Inv := fun k acc => acc.length ≤ 1000000 + k * 101) ?_ ?_ ?_ p.2.2.length 0 acc _ (by omega) (by omega) (by omega)).trans ?_
  · intro self k acc s hs hI
    have hk := (List.getElem?_eq_some_iff.1 hs).1
    have hs' := hp s (List.mem_of_getElem? hs)
    have hsw := shows hs'.r hs'.d
    have h1 := hs'.n
    show q54_ (q57_ u1 fun t21 t22 t23 t33 t34 t35 o => self (t21, t22, t23, t33, t34, t35, o)) _ _ _ r (Int.ofNat r.length) (i : Int) p.2.2 (Int.ofNat p.2.2.length) (k : Int) (bi acc) = _
    unfold q54_
    have K4 : ∀ ws : List (List UInt8), ws.length ≤ 10 -> (joinF [32] ws).length ≤ 1000 -> q57_ u1 (fun t21 t22 t23 t33 t34 t35 o => self (t21, t22, t23, t33, t34, t35, o)) r (Int.ofNat r.length) (i : Int) p.2.2 (Int.ofNat p.2.2.length) (k : Int) (bi acc) ws = self (r, Int.ofNat r.length, (i : Int), p.2.2, Int.ofNat p.2.2.length, ((k + 1 : Nat) : Int), bi (acc ++ lnB ws)) := by
      intro ws hw1 hw2
      unfold q57_ qad_
      rw [succ64 (by omega)]
      exact line_go (k := fun o => self (r, Int.ofNat r.length, (i : Int), p.2.2, Int.ofNat p.2.2.length, ((k + 1 : Nat) : Int), o)) hw1 hw2 (by omega)
    have hw := setW_len hs'
    rw [if_pos (by rw [qw_, q5_]; omega), at_get hs, Option.bind_some, qi_ (by omega), hsw.1, Option.bind_some]
    unfold setT
    by_cases hu : s.2.2.1 = []
    · rw [if_neg (fun e => nes_iff.1 e hu)]
      have e : setW s = [32 :: 32 :: s.1, [61], shwd s.2.1] := if_pos hu
      rw [e] at hw ⊢
      exact K4 _ hw.1 (Nat.le_trans hw.2 (by decide))
    · rw [if_pos (nes_iff.2 hu), qi_ (by decide)]
      have e : setW s = [32 :: 32 :: s.1, [61], shwd s.2.1, s.2.2.1] := if_neg hu
      rw [e] at hw ⊢
      exact K4 _ hw.1 (Nat.le_trans hw.2 (by decide))
  · intro k acc s hs hI
    have h1 := (setW_len (hp s (List.mem_of_getElem? hs))).2
    show (acc ++ setT s).length ≤ 1000000 + (k + 1) * 101
    rw [List.length_append]
    unfold setT
    rw [lnB_len]
    have : acc.length ≤ 1000000 + k * 101 := hI
    omega
  · intro self acc hI
    have hI : acc.length ≤ 1000000 + p.2.2.length * 101 := hI
    show q54_ _ (q6l_ u1) _ _ r (Int.ofNat r.length) (i : Int) p.2.2 (Int.ofNat p.2.2.length) (p.2.2.length : Int) (bi acc) = _
    unfold q54_
    rw [if_neg (by rw [qw_, q5_]; omega)]
    unfold q6l_ qag_
    rw [succ64 (by omega)]
    exact line_go (k := fun o => u1 r (Int.ofNat r.length) ((i + 1 : Nat) : Int) o) (ws := [sEnd]) (by simp) (by decide) (by omega)
  · rw [List.drop_zero, foldl_app]
structure PartOk (p : TPart) : Prop where
  n : p.1.length ≤ 20
  l : p.2.2.length ≤ 64
  s : ∀ s ∈ p.2.2, SetOk s
theorem partT_len {p : TPart} (h : PartOk p) : (partT p).length ≤ 7000 := by
  have h1 := (print_K2 (u1 := fun _ _ _ _ => none) (r := []) (i := 0) (acc := []) (by omega) h.l h.s (by simp)).2
  rw [List.nil_append] at h1
  have h2 := h.n
  have h3 := h.l
  unfold partT
  rw [List.length_append, List.length_append, lnB_len, lnB_len]
  simp only [joinF, List.length_append, List.length_cons, List.length_nil]
  rw [List.length_nil] at h1
  omega
structure RecOk (r : TRec) : Prop where
  n : r.1.length ≤ 20
  l : r.2.length ≤ 8
  p : ∀ p ∈ r.2, PartOk p
theorem rec_ok {r : TRec} (h : rightB r = true) (hd : ∀ p ∈ r.2, ∀ s ∈ p.2.2, 0 ≤ s.2.1.2) : RecOk r := by
  unfold rightB at h
  simp only [Bool.and_eq_true, decide_eq_true_eq, List.all_eq_true] at h
  refine ⟨nameB_len h.1, h.2.1, fun p hp => ?_⟩
  have h2 := h.2.2 p hp
  unfold partB at h2
  simp only [Bool.and_eq_true, decide_eq_true_eq, List.all_eq_true] at h2
  refine ⟨nameB_len h2.1, h2.2.1, fun s hs => ?_⟩
  have h3 := h2.2.2 s hs
  unfold setB at h3
  simp only [Bool.and_eq_true] at h3
  exact ⟨nameB_len h3.1, unitB_len h3.2.2, h3.2.1, hd p hp s hs⟩
theorem print_yes {r : TRec} (h : rightB r = true) (hd : ∀ p ∈ r.2, ∀ s ∈ p.2.2, 0 ≤ s.2.1.2) (hl : r.2.length ≤ 1000000) (hl2 : ∀ p ∈ r.2, p.2.2.length ≤ 1000000) : q2i_ (r, ()) = some (printS r, true, ()) := by
  have ho := rec_ok h hd
  have hn := ho.n
  show q58_ q4c_ r = _
  unfold q58_
  rw [right_eq' hl hl2, h, Option.bind_some, if_neg (by decide)]
  have hj : (joinF [32] [sRec, r.1]).length ≤ 100 := by
    simp only [joinF, List.length_append, List.length_cons, List.length_nil]
    omega
  rw [show ([114, 101, 99, 105, 112, 101] : List UInt8) = sRec from rfl, join_val (by simp) (by omega), Option.bind_some]
  have l2 : (bi (joinF [32] [sRec, r.1])).length = (joinF [32] [sRec, r.1]).length := List.length_map _
  rw [qi_ (by show 0 + (joinF [32] [sRec, r.1]).length ≤ _; omega), qi_ (by show (bi (joinF [32] [sRec, r.1])).length + 1 ≤ _; omega)]
  have e1 : (bi (joinF [32] [sRec, r.1]) ++ [10] : List Int) = bi (lnB [sRec, r.1]) := by unfold lnB bi; simp
  show q4c_ r.2 (Int.ofNat r.2.length) 0 (bi (joinF [32] [sRec, r.1]) ++ [10]) = _
  rw [e1]
  unfold q4c_
  have hl8 := ho.l
  refine (loop_idx (σ := (List TPart) × (Int) × (Int) × (List Int)) (xs := r.2) (mk := fun k acc => (r.2, Int.ofNat r.2.length, (k : Int), bi acc)) (stp := fun acc p => acc ++ partT p)
    (fin := fun acc => some (acc, true, ())) (Inv := fun k acc => acc.length ≤ 1000 + k * 7000) ?_ ?_ ?_ r.2.length 0 (lnB [sRec, r.1]) _ (by omega) (by omega) (by rw [lnB_len]; omega)).trans ?_
  · intro self k acc p hp hI
    have hI : acc.length ≤ 1000 + k * 7000 := hI
    have hk := (List.getElem?_eq_some_iff.1 hp).1
    have hpo := ho.p p (List.mem_of_getElem? hp)
    have hpn := hpo.n
    show q59_ (q4b_ fun t21 t22 t23 o => self (t21, t22, t23, o)) _ _ r.2 (Int.ofNat r.2.length) (k : Int) (bi acc) = _
    unfold q59_
    rw [if_pos (by rw [qw_, q5_]; omega), at_get hp, Option.bind_some]
    have hj : (joinF [32] [sSlv, p.1]).length ≤ 100 := by
      simp only [joinF, List.length_append, List.length_cons, List.length_nil]
      omega
    refine (line_go (k := fun o => q4b_ (fun t21 t22 t23 o => self (t21, t22, t23, o)) r.2 (Int.ofNat r.2.length) (k : Int) p.2.2 (Int.ofNat p.2.2.length) 0 o) (ws := [sSlv, p.1]) (by simp) (by omega) (by omega)).trans ?_
    rw [(print_K2 (by omega) hpo.l hpo.s (by rw [List.length_append, lnB_len]; omega)).1]
    unfold partT
    rw [List.append_assoc, List.append_assoc, List.append_assoc]
  · intro k acc p hp hI
    have hI : acc.length ≤ 1000 + k * 7000 := hI
    have := partT_len (ho.p p (List.mem_of_getElem? hp))
    show (acc ++ partT p).length ≤ 1000 + (k + 1) * 7000
    rw [List.length_append]
    omega
  · intro self acc hI
    have hI : acc.length ≤ 1000 + r.2.length * 7000 := hI
    show q59_ _ q6q_ _ r.2 (Int.ofNat r.2.length) (r.2.length : Int) (bi acc) = _
    unfold q59_
    rw [if_neg (by rw [qw_, q5_]; omega)]
    unfold q6q_ qao_
    have l1 : (bi acc).length = acc.length := List.length_map _
    rw [need_t (q1y_.2 rfl), qi_ (by rw [l1]; omega), need_t (u8s_bi acc), toS_bi]
  · rw [List.drop_zero, foldl_app]
    rfl
end Go.Proofs.Lx
end
section
namespace Go.Proofs.Lx
open Go Ev Sx Pl
set_option maxRecDepth 10000
abbrev U14 := List TL -> Bool -> Int -> List UInt8 -> Int × Int -> List UInt8 -> Bool -> List TPart -> List UInt8 -> Int -> List TSet -> RPs
section
variable {u1 : U14} {all : List TL} {i : Nat} {t2 : List UInt8} {t3 : Int × Int} {nm : List UInt8} {oo : Bool} {o : List TPart} {ol : List UInt8} {ol2 : Int} {o2 : List TSet} {a : Int}
end
end Go.Proofs.Lx
end
section
namespace Go.Proofs.Lx
open Go Ev Sx Pl
set_option maxRecDepth 10000
theorem toks_blank {a : Int} {s s' : List UInt8} (h : s.dropWhile (fun c => isB c.toNat) = s'.dropWhile (fun c => isB c.toNat)) : toksL a s = toksL a s' := by
  match h2 : s'.dropWhile (fun c => isB c.toNat) with
  | [] => rw [toksL_nil h2, toksL_nil (h.trans h2)]
  | c :: q =>
    match h3 : tokS a c q with
    | .inl e => rw [toksL_err h2 h3, toksL_err (h.trans h2) h3]
    | .inr (t, r) => rw [toksL_tok h2 h3, toksL_tok (h.trans h2) h3]
theorem toks_sp {a : Int} (s : List UInt8) : toksL a (32 :: s) = toksL a s := toks_blank (by rw [List.dropWhile_cons]; rfl)
structure Wd (a : Int) (w : List UInt8) (t : Tk1) : Prop where
  k : ∃ c q, w = c :: q ∧ isB c.toNat = false ∧ ∀ rest : List UInt8, (rest = [] ∨ ∃ r, rest = 32 :: r) -> tokS a c (q ++ rest) = .inr (t, rest)
  cl : w.all (fun c => c != 10 && c != 35) = true
theorem q4l_ {a : Int} {w : List UInt8} {t : Tk1} (h : Wd a w t) (r : List UInt8) : toksL a (w ++ 32 :: r) = (t :: (toksL a r).1, (toksL a r).2) := by
  obtain ⟨c, q, rfl, hb, ht⟩ := h.k
  rw [List.cons_append, toksL_tok (not_blank_head hb) (ht (32 :: r) (.inr ⟨r, rfl⟩)), toks_sp]
theorem toks_last {a : Int} {w : List UInt8} {t : Tk1} (h : Wd a w t) : toksL a w = ([t], 0) := by
  obtain ⟨c, q, rfl, hb, ht⟩ := h.k
  have h2 := ht [] (.inl rfl)
  rw [List.append_nil] at h2
  rw [toksL_tok (not_blank_head hb) h2, toksL_nil rfl]
theorem tw_app {p : UInt8 -> Bool} : ∀ {q rest : List UInt8}, q.all p = true -> (rest = [] ∨ ∃ r, rest = 32 :: r) -> p 32 = false -> (q ++ rest).takeWhile p = q ∧ (q ++ rest).dropWhile p = rest
  | [], rest, _, hr, h32 => by
    rcases hr with rfl | ⟨r, rfl⟩
    · exact ⟨rfl, rfl⟩
    · rw [List.nil_append, List.takeWhile_cons, List.dropWhile_cons, h32]
      exact ⟨rfl, rfl⟩
  | c :: q, rest, h, hr, h32 => by
    rw [List.all_cons, Bool.and_eq_true] at h
    have ih := tw_app (p := p) (q := q) h.2 hr h32
    rw [List.cons_append, List.takeWhile_cons, List.dropWhile_cons, h.1, if_pos rfl, if_pos rfl, ih.1, ih.2]
    exact ⟨rfl, rfl⟩
theorem chars (c : UInt8) : (wm c.toNat = true -> (c != 10 && c != 35) = true) ∧ (nm c.toNat = true -> (c != 10 && c != 35) = true) ∧ (w1 c.toNat = true -> isB c.toNat = false ∧ wm c.toNat = true) ∧ (n1 c.toNat = true -> isB c.toNat = false ∧ w1 c.toNat = false ∧ nm c.toNat = true) ∧ (namN c.toNat = true -> wm c.toNat = true) ∧ (lowN c.toNat = true -> w1 c.toNat = true) ∧ (dg c = true -> nm c.toNat = true ∧ n1 c.toNat = true) := by
  have h : ∀ n : Fin 256, (let c := UInt8.ofNat n.val; (wm c.toNat = true -> (c != 10 && c != 35) = true) ∧ (nm c.toNat = true -> (c != 10 && c != 35) = true) ∧ (w1 c.toNat = true -> isB c.toNat = false ∧ wm c.toNat = true) ∧ (n1 c.toNat = true -> isB c.toNat = false ∧ w1 c.toNat = false ∧ nm c.toNat = true) ∧ (namN c.toNat = true -> wm c.toNat = true) ∧ (lowN c.toNat = true -> w1 c.toNat = true) ∧ (dg c = true -> nm c.toNat = true ∧ n1 c.toNat = true)) := by decide +kernel
  have := h ⟨c.toNat, c.toNat_lt⟩
  simpa using this
theorem all_of {p q : UInt8 -> Bool} {l : List UInt8} (h : l.all p = true) (hpq : ∀ c, p c = true -> q c = true) : l.all q = true := by
  rw [List.all_eq_true] at h ⊢
  exact fun c hc => hpq c (h c hc)
theorem wd_word {a : Int} {c : UInt8} {q : List UInt8} (h1 : w1 c.toNat = true) (h2 : q.all (fun c => wm c.toNat) = true) (h3 : (c :: q).length ≤ 20) : Wd a (c :: q) (1, c :: q, (0, 0), a) := by
  refine ⟨⟨c, q, rfl, ((chars c).2.2.1 h1).1, fun rest hr => ?_⟩, ?_⟩
  · have h := tw_app (p := fun c => wm c.toNat) h2 hr (by rfl)
    unfold tokS
    rw [if_pos h1, h.1, h.2, if_neg (by omega)]
  · rw [List.all_cons, all_of h2 fun c hc => (chars c).1 hc, (chars c).1 ((chars c).2.2.1 h1).2]
    rfl
theorem wd_unit {a : Int} {s : List UInt8} (h : unitB s = true) (hne : s ≠ []) : Wd a s (1, s, (0, 0), a) := by
  match s, hne with
  | c :: q, _ =>
    unfold unitB at h
    simp only [Bool.and_eq_true, decide_eq_true_eq] at h
    exact wd_word h.2.1 h.2.2 h.1
theorem wd_name {a : Int} {s : List UInt8} (h : nameB s = true) : Wd a s (1, s, (0, 0), a) := by
  have hl := nameB_len h
  unfold nameB at h
  simp only [Bool.and_eq_true, decide_eq_true_eq] at h
  match s with
  | [] => exact absurd h.1.1.1.1.1.1 (by decide)
  | c :: q =>
    have h2 := h.1.1.1.2
    rw [List.all_cons, Bool.and_eq_true] at h2
    exact wd_word ((chars c).2.2.2.2.2.1 h.1.1.1.1.2) (all_of h2.2 fun c hc => (chars c).2.2.2.2.1 hc) hl
theorem wd_rec (a : Int) : Wd a sRec (1, sRec, (0, 0), a) := wd_word (by rfl) (by rfl) (by decide)
theorem wd_slv (a : Int) : Wd a sSlv (1, sSlv, (0, 0), a) := wd_word (by rfl) (by rfl) (by decide)
theorem wd_end (a : Int) : Wd a sEnd (1, sEnd, (0, 0), a) := wd_word (by rfl) (by rfl) (by decide)
theorem wd_eq (a : Int) : Wd a [61] (3, [61], (0, 0), a) := ⟨⟨61, [], rfl, by rfl, fun rest hr => rfl⟩, by rfl⟩
theorem wd_num {a : Int} {c : UInt8} {q : List UInt8} {d : Int × Int} (h1 : n1 c.toNat = true) (h2 : q.all (fun c => nm c.toNat) = true) (h3 : parseS (c :: q) = (d, true)) : Wd a (c :: q) (2, c :: q, d, a) := by
  have hc := (chars c).2.2.2.1 h1
  refine ⟨⟨c, q, rfl, hc.1, fun rest hr => ?_⟩, ?_⟩
  · have h := tw_app (p := fun c => nm c.toNat) h2 hr (by rfl)
    unfold tokS
    rw [if_neg (by rw [hc.2.1]; decide), if_pos h1, h.1, h.2, h3, if_pos rfl]
  · rw [List.all_cons, all_of h2 fun c hc => (chars c).2.1 hc, (chars c).2.1 hc.2.2]
    rfl
theorem wd_shw {a : Int} {d : Int × Int} (h : rgt d = true) (h0 : 0 ≤ d.2) : Wd a (shwd d) (2, shwd d, d, a) := by
  obtain ⟨sg, n, D, hr⟩ := rgt_rt h h0
  rw [shwd_eq hr]
  have hp := shw_said (sg := sg) hr.le hr.d6 hr.tz
  have hd : ((if sg then -(n : Int) else (n : Int), (D : Int)) : Int × Int) = d := Prod.ext hr.e1.symm hr.e2.symm
  rw [hd] at hp
  have hw : ∀ {l : List UInt8}, (∀ c ∈ l, dg c = true) -> l.all (fun c => nm c.toNat) = true := fun hl => List.all_eq_true.2 fun c hc => ((chars c).2.2.2.2.2.2 (hl c hc)).1
  have htail : (if D = 0 then [] else 46 :: fx D (n % 10 ^ D) : List UInt8).all (fun c => nm c.toNat) = true := by
    split
    · rfl
    · rw [List.all_cons, hw (fx_dig _ _)]
      rfl
  unfold shw at hp ⊢
  cases sg with
  | true =>
    refine wd_num (c := 45) (by rfl) ?_ hp
    show (dd (n / 10 ^ D) ++ _).all _ = true
    rw [List.all_append, hw (dd_dig _), htail]
    rfl
  | false =>
    match hdd : dd (n / 10 ^ D), dd_ne (n / 10 ^ D), dd_dig (n / 10 ^ D) with
    | c :: q, _, hdig =>
      rw [hdd] at hp
      refine wd_num (c := c) ((chars c).2.2.2.2.2.2 (hdig c List.mem_cons_self)).2 ?_ hp
      show (q ++ _).all _ = true
      rw [List.all_append, hw (fun x hx => hdig x (List.mem_cons_of_mem _ hx)), htail]
      rfl
theorem clean_first {l rest : List UInt8} (h : l.all (fun c => c != 10 && c != 35) = true) : q1m_ (l ++ 10 :: rest) = l ∧ lrest (l ++ 10 :: rest) = rest ∧ uncom l = l := by
  induction l with
  | nil => exact ⟨rfl, rfl, rfl⟩
  | cons c q ih =>
    rw [List.all_cons, Bool.and_eq_true] at h
    obtain ⟨i1, i2, i3⟩ := ih h.2
    have h1 := h.1
    rw [Bool.and_eq_true] at h1
    refine ⟨?_, ?_, ?_⟩
    · unfold q1m_ at i1 ⊢
      rw [List.cons_append, List.takeWhile_cons, if_pos h1.1, i1]
    · unfold lrest at i2 ⊢
      rw [List.cons_append, List.dropWhile_cons, if_pos h1.1, i2]
    · unfold uncom at i3 ⊢
      rw [List.takeWhile_cons, if_pos h1.2, i3]
structure Says (n : Int) (s : List UInt8) (rs : List (TL × Int)) : Prop where
  e : lexS n s [] = (flat rs, (0, 0))
  g : ∀ p ∈ rs, p.1 ≠ [] ∧ ∀ t ∈ p.1, GoodT p.2 t
theorem says_nil (n : Int) : Says n [] [] := ⟨by rw [lexS, dif_pos rfl]; rfl, fun p hp => by cases hp⟩
theorem says_line {n : Int} {l rest : List UInt8} {ts : TL} {rs : List (TL × Int)} (hc : l.all (fun c => c != 10 && c != 35) = true) (ht : toksL n l = (ts, 0)) (hne : ts ≠ []) (h : Says (n + 1) rest rs) : Says n (l ++ 10 :: rest) ((ts, n) :: rs) := by
  have hf := clean_first (rest := rest) hc
  have hl : lineT n (uncom (q1m_ (l ++ 10 :: rest))) [] = (ts ++ [tkEnd n], 0) := by
    rw [hf.1, hf.2.2, lineT_toks n l.length l [] (Nat.le_refl _), ht]
    dsimp only
    rw [if_neg (by decide), List.nil_append, if_neg hne]
  refine ⟨?_, fun p hp => ?_⟩
  · rw [lexS_one (by simp) (by rw [hl]), hl, hf.2.1, h.e]
    dsimp only
    rw [if_neg (by decide), flat_cons]
    simp
  · rcases List.mem_cons.1 hp with rfl | hp
    · refine ⟨hne, ?_⟩
      have := toks_good n l.length l (Nat.le_refl _)
      rw [ht] at this
      exact this
    · exact h.g p hp
abbrev wt (a : Int) (w : List UInt8) : Tk1 := (1, w, (0, 0), a)
def setRow (a : Int) (s : TSet) : TL := if s.2.2.1 = [] then [wt a s.1, (3, [61], (0, 0), a), (2, shwd s.2.1, s.2.1, a)] else [wt a s.1, (3, [61], (0, 0), a), (2, shwd s.2.1, s.2.1, a), wt a s.2.2.1]
def SB (s : TSet) : Prop := setB s = true ∧ 0 ≤ s.2.1.2
theorem SB.n {s : TSet} (h : SB s) : nameB s.1 = true := by
  have := h.1
  unfold setB at this
  simp only [Bool.and_eq_true] at this
  exact this.1
theorem SB.r {s : TSet} (h : SB s) : rgt s.2.1 = true := by
  have := h.1
  unfold setB at this
  simp only [Bool.and_eq_true] at this
  exact this.2.1
theorem SB.u {s : TSet} (h : SB s) : unitB s.2.2.1 = true := by
  have := h.1
  unfold setB at this
  simp only [Bool.and_eq_true] at this
  exact this.2.2
theorem says_set {n : Int} {s : TSet} (h : SB s) {rest : List UInt8} {rs : List (TL × Int)} (hr : Says (n + 1) rest rs) : Says n (setT s ++ rest) ((setRow n s, n) :: rs) := by
  have w1 := wd_name (a := n) h.n
  have w2 := wd_eq n
  have w3 := wd_shw (a := n) h.r h.2
  unfold setT setW setRow lnB
  by_cases hu : s.2.2.1 = []
  · rw [if_pos hu, if_pos hu, List.append_assoc]
    refine says_line ?_ ?_ (by simp) hr
    · have : (joinF [32] [32 :: 32 :: s.1, [61], shwd s.2.1]) = [32, 32] ++ (s.1 ++ ([32] ++ ([61] ++ ([32] ++ shwd s.2.1)))) := by simp [joinF]
      rw [this]
      simp only [List.all_append, w1.cl, w2.cl, w3.cl]
      rfl
    · have : (joinF [32] [32 :: 32 :: s.1, [61], shwd s.2.1]) = 32 :: 32 :: (s.1 ++ 32 :: ([61] ++ 32 :: shwd s.2.1)) := by simp [joinF]
      rw [this, toks_sp, toks_sp, q4l_ w1, q4l_ w2, toks_last w3]
  · have w4 := wd_unit (a := n) h.u hu
    rw [if_neg hu, if_neg hu, List.append_assoc]
    refine says_line ?_ ?_ (by simp) hr
    · have : (joinF [32] [32 :: 32 :: s.1, [61], shwd s.2.1, s.2.2.1]) = [32, 32] ++ (s.1 ++ ([32] ++ ([61] ++ ([32] ++ (shwd s.2.1 ++ ([32] ++ s.2.2.1)))))) := by simp [joinF]
      rw [this]
      simp only [List.all_append, w1.cl, w2.cl, w3.cl, w4.cl]
      rfl
    · have : (joinF [32] [32 :: 32 :: s.1, [61], shwd s.2.1, s.2.2.1]) = 32 :: 32 :: (s.1 ++ 32 :: ([61] ++ 32 :: (shwd s.2.1 ++ 32 :: s.2.2.1))) := by simp [joinF]
      rw [this, toks_sp, toks_sp, q4l_ w1, q4l_ w2, q4l_ w3, toks_last w4]
theorem says_two {n : Int} {w x : List UInt8} (hw : Wd n w (wt n w)) (hx : Wd n x (wt n x)) {rest : List UInt8} {rs : List (TL × Int)} (hr : Says (n + 1) rest rs) : Says n (lnB [w, x] ++ rest) (([wt n w, wt n x], n) :: rs) := by
  unfold lnB
  rw [List.append_assoc]
  have e : joinF [32] [w, x] = w ++ 32 :: x := by simp [joinF]
  refine says_line ?_ ?_ (by simp) hr
  · have e2 : joinF [32] [w, x] = w ++ ([32] ++ x) := by simp [joinF]
    rw [e2]
    simp only [List.all_append, hw.cl, hx.cl]
    rfl
  · rw [e, q4l_ hw, toks_last hx]
theorem says_end {n : Int} {rest : List UInt8} {rs : List (TL × Int)} (hr : Says (n + 1) rest rs) : Says n (lnB [sEnd] ++ rest) (([wt n sEnd], n) :: rs) := by
  unfold lnB
  rw [List.append_assoc]
  exact says_line (by rfl) (toks_last (wd_end n)) (by simp) hr
def setRows : Int -> List TSet -> List (TL × Int)
  | _, [] => []
  | n, s :: q => (setRow n s, n) :: setRows (n + 1) q
theorem says_sets {rest : List UInt8} {rs : List (TL × Int)} : ∀ (l : List TSet) (n : Int), (∀ s ∈ l, SB s) -> Says (n + l.length) rest rs -> Says n (l.flatMap setT ++ rest) (setRows n l ++ rs)
  | [], n, _, h => by
    have e : n + ((([] : List TSet).length : Nat) : Int) = n := by simp
    rw [e] at h
    exact h
  | s :: q, n, hs, h => by
    rw [List.flatMap_cons, List.append_assoc]
    refine says_set (hs s List.mem_cons_self) (says_sets q (n + 1) (fun x hx => hs x (List.mem_cons_of_mem _ hx)) ?_)
    have e : n + (((s :: q).length : Nat) : Int) = n + 1 + (q.length : Int) := by rw [List.length_cons]; omega
    rw [e] at h
    exact h
structure PB (p : TPart) : Prop where
  n : nameB p.1 = true
  l : p.2.2.length ≤ 64
  s : ∀ s ∈ p.2.2, SB s
def partRows : Int -> List TPart -> List (TL × Int)
  | _, [] => []
  | n, p :: q => ([wt n sSlv, wt n p.1], n) :: (setRows (n + 1) p.2.2 ++ ([wt (n + 1 + p.2.2.length) sEnd], n + 1 + p.2.2.length) :: partRows (n + 1 + p.2.2.length + 1) q)
theorem says_parts : ∀ (l : List TPart) (n : Int), (∀ p ∈ l, PB p) -> Says n (l.flatMap partT) (partRows n l)
  | [], n, _ => says_nil n
  | p :: q, n, hp => by
    have h := hp p List.mem_cons_self
    rw [List.flatMap_cons]
    unfold partT partRows
    rw [List.append_assoc, List.append_assoc]
    exact says_two (wd_slv n) (wd_name h.n) (says_sets p.2.2 (n + 1) h.s (says_end (says_parts q _ fun x hx => hp x (List.mem_cons_of_mem _ hx))))
structure RB (r : TRec) : Prop where
  n : nameB r.1 = true
  l : r.2.length ≤ 8
  p : ∀ p ∈ r.2, PB p
theorem says_print {r : TRec} (h : RB r) (n : Int) : Says n (printS r) (([wt n sRec, wt n r.1], n) :: partRows (n + 1) r.2) :=
  says_two (wd_rec n) (wd_name h.n) (says_parts r.2 (n + 1) h.p)
end Go.Proofs.Lx
end
section
namespace Pl
open Go Ev Sx
end Pl
end
section
namespace Go.Proofs.Lx
open Go Ev Sx Pl
set_option maxRecDepth 10000
def sameS (x y : TSet) : Bool := eqs x.1 y.1 && ((eqi x.2.1.1 y.2.1.1 && (eqi x.2.1.2 y.2.1.2 && true)) && eqs x.2.2.1 y.2.2.1)
def eqLB {α : Type} (f : α -> α -> Bool) (a b : List α) : Bool := decide (a.length = b.length) && (a.zip b).all (fun p => f p.1 p.2)
def sameP (x y : TPart) : Bool := eqs x.1 y.1 && eqLB sameS x.2.2 y.2.2
end Go.Proofs.Lx
end
section
namespace Go.Proofs.Lx
open Go Ev Sx
set_option maxRecDepth 100000
theorem awake14 : q2y_ () = some (true, ()) := by kernel_rfl
end Go.Proofs.Lx
end
section
namespace Go.Proofs.Lx
open Go Ev Sx Pl
set_option maxRecDepth 10000
end Go.Proofs.Lx
end
section
namespace Go.Proofs.Lx
open Go Ev Sx Pl
set_option maxRecDepth 10000
theorem PB.b {p : TPart} (h : PB p) : partB p = true := by
  unfold partB
  rw [h.n, decide_eq_true h.l, List.all_eq_true.2 fun s hs => (h.s s hs).1]
  rfl
theorem RB.b {r : TRec} (h : RB r) : rightB r = true := by
  unfold rightB
  rw [h.n, decide_eq_true h.l, List.all_eq_true.2 fun p hp => (h.p p hp).b]
  rfl
theorem RB.d {r : TRec} (h : RB r) : ∀ p ∈ r.2, ∀ s ∈ p.2.2, 0 ≤ s.2.1.2 := fun p hp s hs => ((h.p p hp).s s hs).2
theorem rb_of {r : TRec} (h : rightB r = true) (hd : ∀ p ∈ r.2, ∀ s ∈ p.2.2, 0 ≤ s.2.1.2) : RB r := by
  unfold rightB at h
  simp only [Bool.and_eq_true, decide_eq_true_eq, List.all_eq_true] at h
  refine ⟨h.1, h.2.1, fun p hp => ?_⟩
  have h2 := h.2.2 p hp
  unfold partB at h2
  simp only [Bool.and_eq_true, decide_eq_true_eq, List.all_eq_true] at h2
  exact ⟨h2.1, h2.2.1, fun s hs => ⟨h2.2.2 s hs, hd p hp s hs⟩⟩
def relS : Int -> List TSet -> List TSet
  | _, [] => []
  | n, s :: q => (s.1, s.2.1, s.2.2.1, n) :: relS (n + 1) q
def rel : Int -> List TPart -> List TPart
  | _, [] => []
  | n, p :: q => (p.1, n, relS (n + 1) p.2.2) :: rel (n + 1 + p.2.2.length + 1) q
theorem setOf_row {a : Int} {s : TSet} (h : SB s) : setOf a (setRow a s) = some (s.1, s.2.1, s.2.2.1, a) := by
  unfold setRow
  by_cases hu : s.2.2.1 = []
  · rw [if_pos hu]
    refine (if_pos ⟨rfl, h.n, rfl, rfl⟩).trans ?_
    rw [hu]
  · rw [if_neg hu]
    exact if_pos ⟨rfl, h.n, rfl, rfl, rfl⟩
theorem isEnd_row {a : Int} {s : TSet} : isEnd (setRow a s) = false := by
  unfold setRow
  split <;> rfl
theorem pB_sets {rs : List (TL × Int)} {nm : List UInt8} {o : List TPart} {ol : List UInt8} {ol2 : Int} : ∀ (l : List TSet) (n : Int) (o2 : List TSet), (∀ s ∈ l, SB s) -> o2.length + l.length ≤ 64 ->
    pB (setRows n l ++ rs) true nm true o ol ol2 o2 = pB rs true nm true o ol ol2 (o2 ++ relS n l)
  | [], n, o2, _, _ => by
    unfold relS setRows
    rw [List.append_nil, List.nil_append]
  | s :: q, n, o2, hs, hl => by
    rw [List.length_cons] at hl
    unfold setRows relS
    rw [List.cons_append]
    show (if isEnd (setRow n s) = true then _ else match setOf n (setRow n s) with
      | none => pFail 140 n
      | some s => if o2.length = 64 then pFail 130 n else pB (setRows (n + 1) q ++ rs) true nm true o ol ol2 (o2 ++ [s])) = _
    rw [isEnd_row, if_neg (by decide), setOf_row (hs s List.mem_cons_self)]
    dsimp only
    rw [if_neg (by omega), pB_sets q (n + 1) _ (fun x hx => hs x (List.mem_cons_of_mem _ hx)) (by rw [List.length_append]; simp; omega), List.append_assoc]
    rfl
theorem headB_two {a : Int} {w x : List UInt8} (h : nameB x = true) : headB [wt a w, wt a x] w = true := by
  show (eqi 1 1 && (eqs w w && (eqi 1 1 && nameB x))) = true
  rw [eqs_iff.2 rfl, h]
  rfl
theorem pB_parts {nm : List UInt8} : ∀ (l : List TPart) (n : Int) (oo : Bool) (o : List TPart) (ol : List UInt8) (ol2 : Int) (o2 : List TSet), (∀ p ∈ l, PB p) -> lenB oo o + l.length ≤ 8 ->
    pB (partRows n l) false nm oo o ol ol2 o2 = ((nm, (if oo = true then o ++ [(ol, ol2, o2)] else o) ++ rel n l), (0, 0))
  | [], n, oo, o, ol, ol2, o2, _, _ => by
    unfold partRows rel
    rw [List.append_nil]
    rfl
  | p :: q, n, oo, o, ol, ol2, o2, hp, hl => by
    rw [List.length_cons] at hl
    have h := hp p List.mem_cons_self
    unfold partRows
    show (if headB [wt n sSlv, wt n p.1] sSlv = false then pFail 140 n else if lenB oo o = 8 then pFail 130 n
      else pB (setRows (n + 1) p.2.2 ++ ([wt (n + 1 + p.2.2.length) sEnd], n + 1 + p.2.2.length) :: partRows (n + 1 + p.2.2.length + 1) q) true nm true (if oo = true then o ++ [(ol, ol2, o2)] else o) p.1 n []) = _
    rw [headB_two h.n, if_neg (by decide), if_neg (by omega), pB_sets p.2.2 (n + 1) [] h.s (by have := h.l; simp; omega)]
    show (if isEnd [wt (n + 1 + p.2.2.length) sEnd] = true then pB (partRows (n + 1 + p.2.2.length + 1) q) false nm true (if oo = true then o ++ [(ol, ol2, o2)] else o) p.1 n ([] ++ relS (n + 1) p.2.2) else _) = _
    rw [if_pos (show isEnd [wt (n + 1 + p.2.2.length) sEnd] = true from rfl), pB_parts q _ true _ _ _ _ (fun x hx => hp x (List.mem_cons_of_mem _ hx)) (by
      show (if true = true then (if oo = true then o ++ [(ol, ol2, o2)] else o).length + 1 else _) + q.length ≤ 8
      rw [if_pos rfl, all_len]
      omega), if_pos rfl, List.nil_append, List.append_assoc]
    rfl
theorem pS_print {r : TRec} (h : RB r) (n : Int) : pS (([wt n sRec, wt n r.1], n) :: partRows (n + 1) r.2) = ((r.1, rel (n + 1) r.2), (0, 0)) := by
  rw [pS_cons, headB_two h.n, if_neg (by decide)]
  show pB (partRows (n + 1) r.2) false r.1 false [] [] 0 [] = _
  rw [pB_parts r.2 (n + 1) false [] [] 0 [] h.p (by have := h.l; unfold lenB; rw [if_neg (by decide)]; simp; omega)]
  rfl
theorem print_parse {r : TRec} (h : RB r) : q22_ (printS r, ()) = pR (if 8192 < (printS r).length then pFail 130 0 else ((r.1, rel 2 r.2), (0, 0))) := by
  by_cases hl : 8192 < (printS r).length
  · have e : lexR (printS r) = ([], (130, 0)) := by unfold lexR; rw [if_pos hl]
    rw [if_pos hl, rparse_eq (rs := []) (fun h0 => by rw [e] at h0; exact absurd h0 (by decide))]
    unfold parseR
    rw [e]
    rfl
  · have hs := says_print h 1
    have e : lexR (printS r) = (flat (([wt 1 sRec, wt 1 r.1], 1) :: partRows 2 r.2), (0, 0)) := by
      unfold lexR
      rw [if_neg hl]
      exact hs.e
    rw [if_neg hl, rparse_eq (rs := ([wt 1 sRec, wt 1 r.1], 1) :: partRows 2 r.2) (fun h0 => by rw [e]; exact ⟨rfl, hs.g⟩)]
    unfold parseR
    rw [e]
    exact congrArg pR (pS_print h 1)
theorem eqLB_cons {α : Type} (f : α -> α -> Bool) (x y : α) (a b : List α) : eqLB f (x :: a) (y :: b) = (f x y && eqLB f a b) := by
  unfold eqLB
  rw [List.zip_cons_cons, List.all_cons, List.length_cons, List.length_cons]
  by_cases h : a.length = b.length
  · rw [decide_eq_true h, decide_eq_true (by omega), Bool.true_and, Bool.true_and]
  · rw [decide_eq_false h, decide_eq_false (by omega)]
    simp
end Go.Proofs.Lx
end
section
namespace Go.Proofs.Lx
open Go Ev Sx Pl
set_option maxRecDepth 10000
theorem right_all {r : TRec} : q3f_ (r, ()) = some (rightB r, ()) := by
  show q56_ q49_ r = _
  unfold q56_
  have K1 : ∀ b, q49_ b r = if b = true then some (false, ()) else q35_ r.2 (Int.ofNat r.2.length) 0 := fun b => rfl
  rw [name_eq, Option.bind_some]
  have e8 : gt (Int.ofNat r.2.length) 8 = !decide (r.2.length ≤ 8) := gtn (k := 8)
  simp only [K1, e8]
  unfold rightB
  by_cases h8 : ¬ r.2.length ≤ 8
  · rw [decide_eq_false h8]
    cases nameB r.1 <;> rfl
  have h8 : r.2.length ≤ 8 := by omega
  have K2 : q35_ r.2 (Int.ofNat r.2.length) 0 = if r.2.all partB = true then some (true, ()) else some (false, ()) := by
    unfold q35_
    refine loop_all (xs := r.2) (mk := fun i => (r.2, Int.ofNat r.2.length, (i : Int))) (p := partB) ?_ ?_ (by omega)
    · intro self i p hp
      have hi := (List.getElem?_eq_some_iff.1 hp).1
      show q2l_ (q4e_ fun t18 t19 t20 => self (t18, t19, t20)) _ r.2 (Int.ofNat r.2.length) (i : Int) = _
      unfold q2l_
      rw [if_pos (by rw [qw_, q5_]; omega), at_get hp, Option.bind_some, name_eq, Option.bind_some]
      have e64 : gt (Int.ofNat p.2.2.length) 64 = !decide (p.2.2.length ≤ 64) := gtn (k := 64)
      have K3 : ∀ b, q4e_ (fun t18 t19 t20 => self (t18, t19, t20)) r.2 (Int.ofNat r.2.length) (i : Int) b p = if b = true then some (false, ()) else q37_ (fun t18 t19 t20 => self (t18, t19, t20)) r.2 (Int.ofNat r.2.length) (i : Int) p.2.2 (Int.ofNat p.2.2.length) 0 := fun b => rfl
      simp only [K3, e64]
      unfold partB
      by_cases h64 : ¬ p.2.2.length ≤ 64
      · rw [decide_eq_false h64]
        cases nameB p.1 <;> rfl
      have h64 : p.2.2.length ≤ 64 := by omega
      have K4 : q37_ (fun t18 t19 t20 => self (t18, t19, t20)) r.2 (Int.ofNat r.2.length) (i : Int) p.2.2 (Int.ofNat p.2.2.length) 0 = if p.2.2.all setB = true then self (r.2, Int.ofNat r.2.length, ((i + 1 : Nat) : Int)) else some (false, ()) := by
        unfold q37_
        refine loop_all (xs := p.2.2) (mk := fun k => (r.2, Int.ofNat r.2.length, (i : Int), p.2.2, Int.ofNat p.2.2.length, (k : Int))) (p := setB) ?_ ?_ (by omega)
        · intro self4 k s hs
          have hk := (List.getElem?_eq_some_iff.1 hs).1
          show q2k_ (q47_ (fun t18 t19 t20 => self (t18, t19, t20)) fun t18 t19 t20 t35 t36 t37 => self4 (t18, t19, t20, t35, t36, t37)) _ _ r.2 (Int.ofNat r.2.length) (i : Int) p.2.2 (Int.ofNat p.2.2.length) (k : Int) = _
          unfold q2k_
          have K5 : ∀ b, q47_ (fun t18 t19 t20 => self (t18, t19, t20)) (fun t18 t19 t20 t35 t36 t37 => self4 (t18, t19, t20, t35, t36, t37)) r.2 (Int.ofNat r.2.length) (i : Int) p.2.2 (Int.ofNat p.2.2.length) (k : Int) b = if b = true then some (false, ()) else self4 (r.2, Int.ofNat r.2.length, (i : Int), p.2.2, Int.ofNat p.2.2.length, ((k + 1 : Nat) : Int)) := fun b => by
            show q55_ _ _ r.2 (Int.ofNat r.2.length) (i : Int) p.2.2 (Int.ofNat p.2.2.length) (k : Int) b = _
            unfold q55_
            rw [succ64 (by omega)]
          rw [if_pos (by rw [qw_, q5_]; omega), at_get hs, Option.bind_some, name_eq, Option.bind_some, right_eq, Option.bind_some, unit_eq, Option.bind_some]
          simp only [K5]
          unfold setB
          cases nameB s.1 <;> cases rgt s.2.1 <;> cases unitB s.2.2.1 <;> rfl
        · intro self4
          show q2k_ _ _ _ r.2 (Int.ofNat r.2.length) (i : Int) p.2.2 (Int.ofNat p.2.2.length) (p.2.2.length : Int) = _
          unfold q2k_
          rw [if_neg (by rw [qw_, q5_]; omega), succ64 (by omega)]
      rw [K4, decide_eq_true h64]
      cases nameB p.1 <;> cases p.2.2.all setB <;> rfl
    · intro self
      show q2l_ _ _ r.2 (Int.ofNat r.2.length) (r.2.length : Int) = _
      unfold q2l_
      rw [if_neg (by rw [qw_, q5_]; omega)]
  rw [K2, decide_eq_true h8]
  cases nameB r.1 <;> cases r.2.all partB <;> rfl
theorem print_all {r : TRec} (h : rightB r = false) : q2i_ (r, ()) = some ([], false, ()) := by
  show q58_ q4c_ r = _
  unfold q58_
  rw [right_all, h, Option.bind_some, if_pos (by decide)]
theorem parse_says {s : List UInt8} {rs : List (TL × Int)} (h : Says 1 s rs) (hl : s.length ≤ 8192) : q22_ (s, ()) = pR (pS rs) := by
  have e : lexR s = (flat rs, (0, 0)) := by
    unfold lexR
    rw [if_neg (by omega)]
    exact h.e
  rw [rparse_eq (rs := rs) (fun h0 => by rw [e]; exact ⟨rfl, h.g⟩)]
  unfold parseR
  rw [e]
  rfl
where
  far {p : List UInt8} (h : (10 : UInt8) ∉ p) (q : List UInt8) : q1m_ (p ++ 10 :: q) = p ∧ lrest (p ++ 10 :: q) = q := by
    induction p with
    | nil => exact ⟨rfl, rfl⟩
    | cons c p ih =>
      have hc : (c != 10) = true := by
        have : c ≠ 10 := fun e => h (by simp [e])
        simpa using this
      obtain ⟨i1, i2⟩ := ih (fun hm => h (List.mem_cons_of_mem _ hm))
      constructor
      · unfold q1m_ at i1 ⊢
        rw [List.cons_append, List.takeWhile_cons, if_pos hc, i1]
      · unfold lrest at i2 ⊢
        rw [List.cons_append, List.dropWhile_cons, if_pos hc, i2]
  far0 {p : List UInt8} (h : (10 : UInt8) ∉ p) : q1m_ p = p ∧ lrest p = [] := by
    induction p with
    | nil => exact ⟨rfl, rfl⟩
    | cons c p ih =>
      have hc : (c != 10) = true := by
        have : c ≠ 10 := fun e => h (by simp [e])
        simpa using this
      obtain ⟨i1, i2⟩ := ih (fun hm => h (List.mem_cons_of_mem _ hm))
      constructor
      · unfold q1m_ at i1 ⊢
        rw [List.takeWhile_cons, if_pos hc, i1]
      · unfold lrest at i2 ⊢
        rw [List.dropWhile_cons, if_pos hc, i2]
end Go.Proofs.Lx
end
section
namespace Go.Proofs.Lx
open Go Ev Sx Pl
set_option maxRecDepth 10000
abbrev OB := Option (As [.bool])
abbrev S3 := (List UInt8) × (Int) × (Int) × (List TPart) × (Int) × (Int) × TRec
theorem add1 {x : Int} (h0 : 0 ≤ x) (h1 : x ≤ 1000000) : add .i64 x 1 = x + 1 := add64 (by omega) (by omega)
end Go.Proofs.Lx
end
section
namespace Go.Proofs.Lx
open Go Ev Sx Pl
set_option maxRecDepth 10000
structure InvP (w : Bool) (nm : List UInt8) (oo : Bool) (o : List TPart) (ol : List UInt8) (o2 : List TSet) : Prop where
  nm : nameB nm = true
  os : ∀ p ∈ o, PB p
  c : oo = true -> nameB ol = true ∧ ∀ s ∈ o2, SB s
  h2 : o2.length ≤ 64
  ho : lenB oo o ≤ 8
  w : w = true -> oo = true
end Go.Proofs.Lx
end
section
open Go Go.Proofs Ev Sx
set_option maxRecDepth 100000
namespace Go.Proofs.Lx
abbrev QDT0 : Type := (List UInt8 × Int × List (List UInt8 × (Int × Int) × List UInt8 × Int))
abbrev QDT1 : Ty := (.sl (.pr .str (.pr (.int .i64) (.sl (.pr .str (.pr (.pr (.int .i64) (.int .u8)) (.pr .str (.int .i64))))))))
def qek_ (j2 : List UInt8 -> Bool -> Option (As [.bool])) (j3 : List UInt8 -> Option (As [.bool])) (text : List UInt8) (t24 : Bool) (r : List UInt8 × List QDT0) : Option (As [.bool]) :=
  if t24 = true then Option.bind (q2y_ ()) fun (y : Bool × Unit) => some (y.1, ()) else Option.bind (q2i_ (r, ())) fun (y : List UInt8 × Bool × Unit) => if y.2.1 = true then Option.bind (q22_ (y.1, ())) fun (y_1 : (List UInt8 × List QDT0) × (Int × Int) × Unit) => if le (Int.ofNat (List.length y.1)) 8192 = true then if nei y_1.2.1.1 0 = true then j2 text true else Option.bind (qba_ (y_1.1, r, ())) fun (y_2 : Bool × Unit) => if (!y_2.1) = true then j2 text true else if gt (Int.ofNat (List.length y.1)) 8192 = true then j2 text (nei y_1.2.1.1 130) else j2 text false else if gt (Int.ofNat (List.length y.1)) 8192 = true then j2 text (nei y_1.2.1.1 130) else j2 text false else Option.bind (q3f_ (r, ())) fun (y : Bool × Unit) => if y.1 = true then some (false, ()) else j3 text
def qej_ (j3 : List UInt8 -> Option (As [.bool])) (text : List UInt8) (t60 : Bool) : Option (As [.bool]) :=
  if t60 = true then some (false, ()) else j3 text
def qeo_ (text : List UInt8) : Option (As [.bool]) :=
  Option.bind (q22_ (text, ())) fun (y : (List UInt8 × List QDT0) × (Int × Int) × Unit) => if nei y.2.1.1 0 = true then if eqi (Int.ofNat (List.length y.1.2)) 0 = true then if eqs y.1.1 [] = true then Option.bind (q2y_ ()) fun (y : Bool × Unit) => some (y.1, ()) else some (false, ()) else some (false, ()) else Option.bind (q2i_ (y.1, ())) fun (y_1 : List UInt8 × Bool × Unit) => Option.bind (q22_ (y_1.1, ())) fun (y_2 : (List UInt8 × List QDT0) × (Int × Int) × Unit) => Option.bind (q2i_ (y_2.1, ())) fun (y_3 : List UInt8 × Bool × Unit) => Option.bind (q3f_ (y.1, ())) fun (y_4 : Bool × Unit) => if y_4.1 = true then if y_1.2.1 = true then if eqi y_2.2.1.1 0 = true then Option.bind (qba_ (y.1, y_2.1, ())) fun (y : Bool × Unit) => if y.1 = true then if y_3.2.1 = true then if eqs y_1.1 y_3.1 = true then Option.bind (q2y_ ()) fun (y : Bool × Unit) => some (y.1, ()) else some (false, ()) else some (false, ()) else some (false, ()) else some (false, ()) else some (false, ()) else some (false, ())
def qei_ (j1 : List UInt8 -> Bool -> List UInt8 × List QDT0 -> Option (As [.bool])) (r : List UInt8 × List QDT0) (text : List UInt8) : Option (As [.bool]) :=
  Option.bind (q6n_ (r, ())) fun (y : Bool × Unit) => if (!y.1) = true then j1 text true r else j1 text (gt (Int.ofNat (List.length text)) 4000) r
def qau_ (text : List UInt8) : Option (As [.bool]) := qeo_ text
def qem_ (text : List UInt8) (t60 : Bool) : Option (As [.bool]) := qej_ (qau_) text t60
def qen_ (text : List UInt8) (t24 : Bool) (r : List UInt8 × List QDT0) : Option (As [.bool]) := qek_ (qem_) (qau_) text t24 r
def qno_ (x : As [.pr .str QDT1, .str]) : Option (As [.bool]) := qei_ qen_ x.1 x.2.1
end Go.Proofs.Lx
end
section
namespace Go.Proofs.Lx
open Go Ev Sx Pl
set_option maxRecDepth 10000
theorem RB.l1 {r : TRec} (h : RB r) : r.2.length ≤ 1000000 := by have := h.l; omega
theorem RB.l2 {r : TRec} (h : RB r) : ∀ p ∈ r.2, p.2.2.length ≤ 1000000 := fun p hp => by have := (h.p p hp).l; omega
theorem RB.print {r : TRec} (h : RB r) : q2i_ (r, ()) = some (printS r, true, ()) := print_yes h.b h.d h.l1 h.l2
end Go.Proofs.Lx
end
section
namespace Go.Proofs.Lx
open Go Ev Sx Pl
set_option maxRecDepth 10000
def linesP (p : TPart) : List (List UInt8) := joinF [32] [sSlv, p.1] :: (p.2.2.map (fun s => joinF [32] (setW s)) ++ [sEnd])
def qa_ (r : TRec) : List (List UInt8) := joinF [32] [sRec, r.1] :: r.2.flatMap linesP
def nl (L : List (List UInt8)) : List UInt8 := L.flatMap fun l => l ++ [10]
theorem nl_app (a b : List (List UInt8)) : nl (a ++ b) = nl a ++ nl b := List.flatMap_append
theorem nl_cons (x : List UInt8) (b : List (List UInt8)) : nl (x :: b) = x ++ 10 :: nl b := by
  unfold nl
  rw [List.flatMap_cons, List.append_assoc]
  rfl
theorem sets_nl : ∀ l : List TSet, nl (l.map fun s => joinF [32] (setW s)) = l.flatMap setT
  | [] => rfl
  | s :: q => by
    rw [List.map_cons, nl_cons, sets_nl q, List.flatMap_cons]
    unfold setT lnB
    simp
theorem part_nl (p : TPart) : nl (linesP p) = partT p := by
  unfold linesP partT
  rw [nl_cons, nl_app, sets_nl]
  show joinF [32] [sSlv, p.1] ++ 10 :: (p.2.2.flatMap setT ++ lnB [sEnd]) = (joinF [32] [sSlv, p.1] ++ [10]) ++ p.2.2.flatMap setT ++ lnB [sEnd]
  simp
theorem parts_nl : ∀ l : List TPart, nl (l.flatMap linesP) = l.flatMap partT
  | [] => rfl
  | p :: q => by rw [List.flatMap_cons, nl_app, part_nl, parts_nl q, List.flatMap_cons]
theorem rec_nl (r : TRec) : nl (qa_ r) = printS r := by
  unfold qa_ printS lnB
  rw [nl_cons, parts_nl]
  simp
theorem clean_no {l : List UInt8} (h : l.all (fun c => c != 10 && c != 35) = true) : (10 : UInt8) ∉ l := fun hm => by
  have := List.all_eq_true.1 h 10 hm
  exact absurd this (by decide)
theorem no_app {a b : List UInt8} (ha : (10 : UInt8) ∉ a) (hb : (10 : UInt8) ∉ b) : (10 : UInt8) ∉ a ++ b := fun h => by
  rcases List.mem_append.1 h with h | h
  · exact ha h
  · exact hb h
theorem no_two {w x : List UInt8} (hw : (10 : UInt8) ∉ w) (hx : (10 : UInt8) ∉ x) : (10 : UInt8) ∉ joinF [32] [w, x] := no_app (no_app hw (by decide)) hx
theorem no_set {s : TSet} (h : SB s) : (10 : UInt8) ∉ joinF [32] (setW s) := by
  have w1 := clean_no (wd_name (a := 0) h.n).cl
  have w3 := clean_no (wd_shw (a := 0) h.r h.2).cl
  have w0 : (10 : UInt8) ∉ 32 :: 32 :: s.1 := no_app (a := [32, 32]) (by decide) w1
  unfold setW
  by_cases hu : s.2.2.1 = []
  · rw [if_pos hu]
    exact no_app (no_app w0 (by decide)) (no_app (no_app (by decide) (by decide)) w3)
  · have w4 := clean_no (wd_unit (a := 0) h.u hu).cl
    rw [if_neg hu]
    exact no_app (no_app w0 (by decide)) (no_app (no_app (by decide) (by decide)) (no_app (no_app w3 (by decide)) w4))
theorem no_part {p : TPart} (h : PB p) : ∀ l ∈ linesP p, (10 : UInt8) ∉ l := by
  intro l hl
  unfold linesP at hl
  rcases List.mem_cons.1 hl with rfl | hl
  · exact no_two (by decide) (clean_no (wd_name (a := 0) h.n).cl)
  · rcases List.mem_append.1 hl with hl | hl
    · obtain ⟨s, hs, rfl⟩ := List.mem_map.1 hl
      exact no_set (h.s s hs)
    · rw [List.mem_singleton.1 hl]
      decide
theorem no_rec {r : TRec} (h : RB r) : ∀ l ∈ qa_ r, (10 : UInt8) ∉ l := by
  intro l hl
  unfold qa_ at hl
  rcases List.mem_cons.1 hl with rfl | hl
  · exact no_two (by decide) (clean_no (wd_name (a := 0) h.n).cl)
  · obtain ⟨p, hp, hl⟩ := List.mem_flatMap.1 hl
    exact no_part (h.p p hp) l hl
theorem join_nl : ∀ (L : List (List UInt8)), L ≠ [] -> nl L = joinF [10] L ++ [10]
  | [], h => absurd rfl h
  | [x], _ => by
    rw [nl_cons]
    rfl
  | x :: y :: r, _ => by
    rw [nl_cons, join_nl (y :: r) (List.cons_ne_nil _ _)]
    show x ++ 10 :: (joinF [10] (y :: r) ++ [10]) = x ++ [10] ++ joinF [10] (y :: r) ++ [10]
    simp
where
  relS_relS : ∀ (l : List TSet) (n m : Int), eqLB sameS (relS n l) (relS m l) = true
    | [], _, _ => rfl
    | s :: q, n, m => by
      unfold relS
      rw [eqLB_cons, relS_relS q]
      unfold sameS
      dsimp only
      rw [eqs_iff.2 rfl, eqs_iff.2 rfl, q1y_.2 rfl, q1y_.2 rfl]
      rfl
  rel_rel : ∀ {l : List TPart} {n m : Int}, eqLB sameP (rel n l) (rel m l) = true
    | [], _, _ => rfl
    | p :: q, n, m => by
      unfold rel
      rw [eqLB_cons, rel_rel]
      unfold sameP
      dsimp only
      rw [eqs_iff.2 rfl, relS_relS]
      rfl
end Go.Proofs.Lx
end
section
namespace Go.Proofs.Lx
open Go Ev Sx Pl
set_option maxRecDepth 10000
structure Ln (x : List UInt8 × (Int -> TL)) : Prop where
  cl : x.1.all (fun c => c != 10 && c != 35) = true
  tk : ∀ n, toksL n x.1 = (x.2 n, 0)
  ne : ∀ n, x.2 n ≠ []
abbrev PL := List (List UInt8 × (Int -> TL))
def rowsN : Int -> PL -> List (TL × Int)
  | _, [] => []
  | n, x :: q => (x.2 n, n) :: rowsN (n + 1) q
theorem rowsN_app : ∀ (a b : PL) (n : Int), rowsN n (a ++ b) = rowsN n a ++ rowsN (n + a.length) b
  | [], b, n => by
    rw [List.nil_append, List.length_nil, show n + ((0 : Nat) : Int) = n by omega]
    rfl
  | x :: q, b, n => by
    rw [List.cons_append, List.length_cons, show n + ((q.length + 1 : Nat) : Int) = n + 1 + (q.length : Int) by omega]
    show (x.2 n, n) :: rowsN (n + 1) (q ++ b) = (x.2 n, n) :: rowsN (n + 1) q ++ _
    rw [rowsN_app q b]
    rfl
theorem says_lines : ∀ (p : PL) (n : Int), (∀ x ∈ p, Ln x) -> Says n (nl (p.map Prod.fst)) (rowsN n p)
  | [], n, _ => says_nil n
  | x :: q, n, h => by
    have hx := h x List.mem_cons_self
    rw [List.map_cons, nl_cons]
    exact says_line hx.cl (hx.tk n) (hx.ne n) (says_lines q (n + 1) fun y hy => h y (List.mem_cons_of_mem _ hy))
theorem ln_words {ws : List (List UInt8)} {f : Int -> List UInt8 -> Tk1} (hne : ws ≠ []) (h : ∀ n, ∀ w ∈ ws, Wd n w (f n w)) : Ln (joinF [32] ws, fun n => ws.map (f n)) := by
  have tk : ∀ (n : Int) (ws : List (List UInt8)), ws ≠ [] -> (∀ w ∈ ws, Wd n w (f n w)) -> toksL n (joinF [32] ws) = (ws.map (f n), 0) := by
    intro n ws
    induction ws with
    | nil => intro h; exact absurd rfl h
    | cons w q ih =>
      intro _ hw
      match q, ih with
      | [], _ => exact toks_last (hw w List.mem_cons_self)
      | y :: r, ih =>
        have e : joinF [32] (w :: y :: r) = w ++ 32 :: joinF [32] (y :: r) := by
          show w ++ [32] ++ joinF [32] (y :: r) = _
          simp
        rw [e, q4l_ (hw w List.mem_cons_self), ih (List.cons_ne_nil _ _) fun z hz => hw z (List.mem_cons_of_mem _ hz)]
        rfl
  have cl : ∀ ws : List (List UInt8), (∀ w ∈ ws, w.all (fun c => c != 10 && c != 35) = true) -> (joinF [32] ws).all (fun c => c != 10 && c != 35) = true := by
    intro ws
    induction ws with
    | nil => intro _; rfl
    | cons w q ih =>
      intro hw
      match q, ih with
      | [], _ => exact hw w List.mem_cons_self
      | y :: r, ih =>
        show (w ++ [32] ++ joinF [32] (y :: r)).all _ = true
        rw [List.all_append, List.all_append, hw w List.mem_cons_self, ih fun z hz => hw z (List.mem_cons_of_mem _ hz)]
        rfl
  exact ⟨cl ws fun w hw => (h 0 w hw).cl, fun n => tk n ws hne (h n), fun n e => hne (List.map_eq_nil_iff.1 e)⟩
def setP (s : TSet) : List UInt8 × (Int -> TL) := (joinF [32] (setW s), fun n => setRow n s)
def partP (p : TPart) : PL := (joinF [32] [sSlv, p.1], fun n => [wt n sSlv, wt n p.1]) :: (p.2.2.map setP ++ [(sEnd, fun n => [wt n sEnd])])
def recP (r : TRec) : PL := (joinF [32] [sRec, r.1], fun n => [wt n sRec, wt n r.1]) :: r.2.flatMap partP
theorem ln_set {s : TSet} (h : SB s) : Ln (setP s) := by
  refine ⟨?_, fun n => ?_, fun n => ?_⟩
  · have h1 := no_set h
    have w1 := (wd_name (a := 0) h.n).cl
    have w2 := (wd_eq 0).cl
    have w3 := (wd_shw (a := 0) h.r h.2).cl
    show (joinF [32] (setW s)).all _ = true
    unfold setW
    by_cases hu : s.2.2.1 = []
    · rw [if_pos hu]
      have : (joinF [32] [32 :: 32 :: s.1, [61], shwd s.2.1]) = [32, 32] ++ (s.1 ++ ([32] ++ ([61] ++ ([32] ++ shwd s.2.1)))) := by simp [joinF]
      rw [this]
      simp only [List.all_append, w1, w2, w3]
      rfl
    · have w4 := (wd_unit (a := 0) h.u hu).cl
      rw [if_neg hu]
      have : (joinF [32] [32 :: 32 :: s.1, [61], shwd s.2.1, s.2.2.1]) = [32, 32] ++ (s.1 ++ ([32] ++ ([61] ++ ([32] ++ (shwd s.2.1 ++ ([32] ++ s.2.2.1)))))) := by simp [joinF]
      rw [this]
      simp only [List.all_append, w1, w2, w3, w4]
      rfl
  · have w1 := wd_name (a := n) h.n
    have w2 := wd_eq n
    have w3 := wd_shw (a := n) h.r h.2
    show toksL n (joinF [32] (setW s)) = (setRow n s, 0)
    unfold setW setRow
    by_cases hu : s.2.2.1 = []
    · rw [if_pos hu, if_pos hu]
      have : (joinF [32] [32 :: 32 :: s.1, [61], shwd s.2.1]) = 32 :: 32 :: (s.1 ++ 32 :: ([61] ++ 32 :: shwd s.2.1)) := by simp [joinF]
      rw [this, toks_sp, toks_sp, q4l_ w1, q4l_ w2, toks_last w3]
    · have w4 := wd_unit (a := n) h.u hu
      rw [if_neg hu, if_neg hu]
      have : (joinF [32] [32 :: 32 :: s.1, [61], shwd s.2.1, s.2.2.1]) = 32 :: 32 :: (s.1 ++ 32 :: ([61] ++ 32 :: (shwd s.2.1 ++ 32 :: s.2.2.1))) := by simp [joinF]
      rw [this, toks_sp, toks_sp, q4l_ w1, q4l_ w2, q4l_ w3, toks_last w4]
  · show setRow n s ≠ []
    unfold setRow
    split <;> exact List.cons_ne_nil _ _
theorem ln_two {w x : List UInt8} (hw : ∀ n, Wd n w (wt n w)) (hx : ∀ n, Wd n x (wt n x)) : Ln (joinF [32] [w, x], fun n => [wt n w, wt n x]) :=
  ln_words (f := wt) (List.cons_ne_nil _ _) fun n y hy => by
    rcases List.mem_cons.1 hy with rfl | hy
    · exact hw n
    · rw [List.mem_singleton.1 hy]
      exact hx n
theorem ln_part {p : TPart} (h : PB p) : ∀ x ∈ partP p, Ln x := by
  intro x hx
  unfold partP at hx
  rcases List.mem_cons.1 hx with rfl | hx
  · exact ln_two wd_slv fun n => wd_name h.n
  · rcases List.mem_append.1 hx with hx | hx
    · obtain ⟨s, hs, rfl⟩ := List.mem_map.1 hx
      exact ln_set (h.s s hs)
    · rw [List.mem_singleton.1 hx]
      exact ln_words (ws := [sEnd]) (f := wt) (List.cons_ne_nil _ _) fun n y hy => by
        rw [List.mem_singleton.1 hy]
        exact wd_end n
theorem ln_rec {r : TRec} (h : RB r) : ∀ x ∈ recP r, Ln x := by
  intro x hx
  unfold recP at hx
  rcases List.mem_cons.1 hx with rfl | hx
  · exact ln_two wd_rec fun n => wd_name h.n
  · obtain ⟨p, hp, hx⟩ := List.mem_flatMap.1 hx
    exact ln_part (h.p p hp) x hx
theorem partP_fst (p : TPart) : (partP p).map Prod.fst = linesP p := by
  unfold partP linesP
  rw [List.map_cons, List.map_append, List.map_map]
  rfl
theorem recP_fst (r : TRec) : (recP r).map Prod.fst = qa_ r := by
  unfold recP qa_
  rw [List.map_cons, List.map_flatMap]
  congr 2
  funext p
  exact partP_fst p
theorem pB_alive {X : List (TL × Int)} : ∀ (rs : List (TL × Int)) (w : Bool) (nm : List UInt8) (oo : Bool) (o : List TPart) (ol : List UInt8) (ol2 : Int) (o2 : List TSet), (pB (rs ++ X) w nm oo o ol ol2 o2).2.1 = 0 ->
    ∃ w' nm' oo' o' ol' ol2' o2', ∀ Y, pB (rs ++ Y) w nm oo o ol ol2 o2 = pB Y w' nm' oo' o' ol' ol2' o2'
  | [], w, nm, oo, o, ol, ol2, o2, _ => ⟨w, nm, oo, o, ol, ol2, o2, fun Y => rfl⟩
  | (ts, a) :: rs, true, nm, oo, o, ol, ol2, o2, h => by
    have e : ∀ Z, pB ((ts, a) :: rs ++ Z) true nm oo o ol ol2 o2 = if isEnd ts = true then pB (rs ++ Z) false nm oo o ol ol2 o2 else match setOf a ts with
      | none => pFail 140 a
      | some s => if o2.length = 64 then pFail 130 a else pB (rs ++ Z) true nm oo o ol ol2 (o2 ++ [s]) := fun Z => rfl
    rw [e] at h
    simp only [e]
    by_cases he : isEnd ts = true
    · rw [if_pos he] at h
      simp only [if_pos he]
      exact pB_alive rs _ _ _ _ _ _ _ h
    · rw [if_neg he] at h
      simp only [if_neg he]
      cases hs : setOf a ts with
      | none =>
        rw [hs] at h
        exact absurd h (by show ¬ (140 : Int) = 0; decide)
      | some s =>
        rw [hs] at h
        dsimp only at h ⊢
        by_cases h64 : o2.length = 64
        · rw [if_pos h64] at h
          exact absurd h (by show ¬ (130 : Int) = 0; decide)
        · rw [if_neg h64] at h
          simp only [if_neg h64]
          exact pB_alive rs _ _ _ _ _ _ _ h
  | (ts, a) :: rs, false, nm, oo, o, ol, ol2, o2, h => by
    have e : ∀ Z, pB ((ts, a) :: rs ++ Z) false nm oo o ol ol2 o2 = if headB ts sSlv = false then pFail 140 a else if lenB oo o = 8 then pFail 130 a
      else pB (rs ++ Z) true nm true (if oo = true then o ++ [(ol, ol2, o2)] else o) (second ts) a [] := fun Z => rfl
    rw [e] at h
    simp only [e]
    by_cases hh : headB ts sSlv = false
    · rw [if_pos hh] at h
      exact absurd h (by show ¬ (140 : Int) = 0; decide)
    · rw [if_neg hh] at h
      simp only [if_neg hh]
      by_cases h8 : lenB oo o = 8
      · rw [if_pos h8] at h
        exact absurd h (by show ¬ (130 : Int) = 0; decide)
      · rw [if_neg h8] at h
        simp only [if_neg h8]
        exact pB_alive rs _ _ _ _ _ _ _ h
structure Nil (f : Int -> TL) : Prop where
  e : ∀ n, isEnd (f n) = false
  s : ∀ n, setOf n (f n) = none
  h : ∀ n w, w = sSlv ∨ w = sRec -> headB (f n) w = false
theorem pB_nil {f : Int -> TL} (h : Nil f) (n : Int) (Y : List (TL × Int)) (w : Bool) (nm : List UInt8) (oo : Bool) (o : List TPart) (ol : List UInt8) (ol2 : Int) (o2 : List TSet) : pB ((f n, n) :: Y) w nm oo o ol ol2 o2 = pFail 140 n := by
  cases w with
  | true =>
    show (if isEnd (f n) = true then pB Y false nm oo o ol ol2 o2 else match setOf n (f n) with
      | none => pFail 140 n
      | some s => if o2.length = 64 then pFail 130 n else pB Y true nm oo o ol ol2 (o2 ++ [s])) = _
    rw [h.e n, if_neg (by decide), h.s n]
  | false =>
    show (if headB (f n) sSlv = false then pFail 140 n else _) = _
    rw [if_pos (h.h n sSlv (.inl rfl))]
theorem pS_insert {p : PL} {k : Nat} {b : List UInt8 × (Int -> TL)} (hk : k ≤ p.length) (hb : Nil b.2) (h : (pS (rowsN 1 p)).2.1 = 0) : pS (rowsN 1 (p.take k ++ b :: p.drop k)) = pFail 140 (1 + k) := by
  have hlen : (p.take k).length = k := by rw [List.length_take]; omega
  rw [rowsN_app, hlen]
  match k, hk, hlen with
  | 0, _, _ =>
    show pS ((b.2 (1 + ((0 : Nat) : Int)), 1 + ((0 : Nat) : Int)) :: _) = _
    rw [pS_cons, if_pos (hb.h _ sRec (.inr rfl))]
  | k + 1, hk, hlen =>
    match p, hk, h with
    | x :: q, hk, h =>
      rw [List.take_succ_cons]
      show pS ((x.2 1, 1) :: (rowsN (1 + 1) (q.take k) ++ (b.2 (1 + ((k + 1 : Nat) : Int)), 1 + ((k + 1 : Nat) : Int)) :: _)) = _
      have h : (pS ((x.2 1, 1) :: rowsN (1 + 1) q)).2.1 = 0 := h
      rw [pS_cons] at h ⊢
      cases hh : headB (x.2 1) sRec with
      | false =>
        rw [hh] at h
        exact absurd h (by show ¬ (140 : Int) = 0; decide)
      | true =>
        rw [hh, if_neg (by decide)] at h
        rw [if_neg (by decide)]
        have e : rowsN (1 + 1) q = rowsN (1 + 1) (q.take k) ++ rowsN (1 + 1 + (q.take k).length) (q.drop k) := by
          rw [<- rowsN_app, List.take_append_drop]
        rw [e] at h
        obtain ⟨w', nm', oo', o', ol', ol2', o2', hY⟩ := pB_alive _ _ _ _ _ _ _ _ h
        rw [hY, pB_nil hb]
end Go.Proofs.Lx
end
section
open Go Go.Proofs Ev Sx
set_option maxRecDepth 100000
namespace Go.Proofs.Lx
abbrev QFT0 : Type := (List UInt8 × Int × List (List UInt8 × (Int × Int) × List UInt8 × Int))
abbrev QFT1 : Ty := (.sl (.pr .str (.pr (.int .i64) (.sl (.pr .str (.pr (.pr (.int .i64) (.int .u8)) (.pr .str (.int .i64))))))))
@[reducible] def qh_ : Sh := ⟨[.d (.pr .str QFT1), .d (.int .u8), .d (.int .u8)], [], [.pr .str QFT1, .int .u8, .int .u8], [.d (.bool)], [], 0, [.bool]⟩
def qm_ : Env := (cts [(5000024, Ev.bxCt), (9, (⟨q1e_, q6n_⟩ : Ct)), (12, (⟨qr_, q2i_⟩ : Ct)), (16, (⟨qe8_, q2y_⟩ : Ct)), (21, (⟨qj_, q3f_⟩ : Ct)), (24, (⟨strings_Split_s, q6k_⟩ : Ct)), (25, (⟨strings_Join_s, strings_Join⟩ : Ct)), (26, (⟨qea_, q3u_⟩ : Ct)), (27, (⟨strings_Repeat_s, q65_⟩ : Ct))])
def qn_ : List (Nat × Hint) := [(255, ⟨[], [3, 10, 12, 98, 99, 102, 103, 106]⟩), (2047, ⟨[], [13, 98, 99, 102, 103, 106]⟩), (8188, ⟨[.frb 13], [13]⟩), (14, ⟨[], [1, 2, 3, 7, 32, 98, 99, 102, 103, 106]⟩)]
def q5m_ (at' which : Int) (s : List UInt8) (t32 : Bool) (r : List UInt8 × List QFT0) : St := { fr := [(1, .d (.int .u8) at'), (2, .d (.int .u8) which), (3, .pb 0 0), (7, .d .str s), (32, .d .bool t32)], nt := 108, up := [], own := [(0, .box 26 [.d .str r.1, .d QFT1 r.2])], nx := 1, log := [], ln := 0 }
def q5l_ (k : Int) (text : List UInt8) (r : List UInt8 × List QFT0) : St := { fr := [(3, .pb 0 0), (10, .d (.int .i64) k), (12, .d .str text)], nt := 108, up := [], own := [(0, .box 26 [.d .str r.1, .d QFT1 r.2])], nx := 1, log := [], ln := 0 }
def q3m_ (many : List UInt8 × List QFT0) : St := { fr := [(13, .pb 0 0)], nt := 108, up := [], own := [(0, .box 26 [.d .str many.1, .d QFT1 many.2])], nx := 1, log := [], ln := 0 }
def q5h_ (many : List UInt8 × List QFT0) : St := { fr := [(13, .pb 0 0)], nt := 108, up := [], own := [(0, .box 26 [.d .str many.1, .d QFT1 many.2])], nx := 1, log := [], ln := 0 }
def q5k_ (j2 : Int -> List UInt8 -> List UInt8 × List QFT0 -> Option (As [.bool])) (at' which : Int) (s : List UInt8) (t32 : Bool) (r : List UInt8 × List QFT0) : Option (As [.bool]) :=
  if t32 = true then Option.bind (q2y_ ()) fun (y : Bool × Unit) => some (y.1, ()) else Option.bind (q6k_ (s, [10], ())) fun (y : List (List UInt8) × Unit) => need (nei (Int.ofNat (List.length y.1)) 0) (Option.bind (at? [[120], [61, 32, 49], [97, 32, 61, 32, 98], [97, 32, 61, 32, 49, 32, 98, 32, 99], [115, 108, 97, 118, 101], [114, 101, 99, 105, 112, 101, 32, 97, 32, 98], [97, 32, 49], [115, 108, 97, 118, 101, 32, 101, 110, 100], [49, 32, 61, 32, 49], [101, 110, 100, 32, 101, 110, 100]] (rem which 10)) fun (x : List UInt8) => Option.bind (at? [[120], [61, 32, 49], [97, 32, 61, 32, 98], [97, 32, 61, 32, 49, 32, 98, 32, 99], [115, 108, 97, 118, 101], [114, 101, 99, 105, 112, 101, 32, 97, 32, 98], [97, 32, 49], [115, 108, 97, 118, 101, 32, 101, 110, 100], [49, 32, 61, 32, 49], [101, 110, 100, 32, 101, 110, 100]] (rem which 10)) fun (y_1 : List UInt8) => Option.bind (cut y.1 0 (rem (cvt .i64 at') (Int.ofNat (List.length y.1)))) fun (y_2 : List (List UInt8)) => Option.bind (cut y.1 (rem (cvt .i64 at') (Int.ofNat (List.length y.1))) (Int.ofNat (List.length y.1))) fun (y_3 : List (List UInt8)) => Option.bind (strings_Join (y_2, [10], ())) fun (y_4 : List UInt8 × Unit) => need (small (List.length y_4.1 + 1)) (need (small (List.length (y_4.1 ++ [10]) + List.length y_1)) (need (small (List.length (y_4.1 ++ [10] ++ y_1) + 1)) (Option.bind (strings_Join (y_3, [10], ())) fun (y_5 : List UInt8 × Unit) => need (small (List.length (y_4.1 ++ [10] ++ y_1 ++ [10]) + List.length y_5.1)) (if eqi (rem (cvt .i64 at') (Int.ofNat (List.length y.1))) 0 = true then need (small (List.length y_1 + 1)) (need (small (List.length (y_1 ++ [10]) + List.length s)) (j2 (rem (cvt .i64 at') (Int.ofNat (List.length y.1))) (y_1 ++ [10] ++ s) r)) else j2 (rem (cvt .i64 at') (Int.ofNat (List.length y.1))) (y_4.1 ++ [10] ++ y_1 ++ [10] ++ y_5.1) r)))))
def q80_ (j3 : List UInt8 × List QFT0 -> Option (As [.bool])) (k : Int) (text : List UInt8) (r : List UInt8 × List QFT0) : Option (As [.bool]) :=
  Option.bind (q3u_ (text, 140, add .i64 k 1, ())) fun (y : Bool × Unit) => if (!y.1) = true then some (false, ()) else j3 r
def q4a_ (j4 self3 : List UInt8 × List QFT0 -> Option (As [.bool])) (many : List UInt8 × List QFT0) : Option (As [.bool]) :=
  if lt (Int.ofNat (List.length many.2)) 9 = true then Option.bind (cut many.2 0 (Int.ofNat (List.length many.2))) fun (y : List QFT0) => need (eqi (Int.ofNat (List.length many.2)) (Int.ofNat (List.length many.2))) (need (le (Int.ofNat (List.length many.2)) (Int.ofNat (List.length many.2))) (need (small (List.length y + 1)) (self3 (many.1, y ++ [([97], 0, [])])))) else j4 many
def q7w_ (many : List UInt8 × List QFT0) : Option (As [.bool]) :=
  Option.bind (q65_ ([115, 108, 97, 118, 101, 32, 97, 10, 101, 110, 100, 10], 8, ())) fun (y : List UInt8 × Unit) => need (small (9 + List.length y.1)) (need (small (Nat.succ (Nat.succ (Nat.succ (Nat.succ (Nat.succ (Nat.succ (Nat.succ (Nat.succ (Nat.succ (List.length y.1))))))))) + 12)) (Option.bind (q65_ ([97, 32, 61, 32, 49, 10], 65, ())) fun (y_1 : List UInt8 × Unit) => need (small (17 + List.length y_1.1)) (need (small (Nat.succ (Nat.succ (Nat.succ (Nat.succ (Nat.succ (Nat.succ (Nat.succ (Nat.succ (Nat.succ (Nat.succ (Nat.succ (Nat.succ (Nat.succ (Nat.succ (Nat.succ (Nat.succ (Nat.succ (List.length y_1.1))))))))))))))))) + 4)) (Option.bind (q3f_ (many, ())) fun (y_2 : Bool × Unit) => if (!y_2.1) = true then Option.bind (q3u_ (114 :: 101 :: 99 :: 105 :: 112 :: 101 :: 32 :: 97 :: 10 :: (y.1 ++ [115, 108, 97, 118, 101, 32, 98, 10, 101, 110, 100, 10]), 130, 18, ())) fun (y : Bool × Unit) => if y.1 = true then Option.bind (q3u_ (114 :: 101 :: 99 :: 105 :: 112 :: 101 :: 32 :: 97 :: 10 :: 115 :: 108 :: 97 :: 118 :: 101 :: 32 :: 97 :: 10 :: (y_1.1 ++ [101, 110, 100, 10]), 130, 67, ())) fun (y : Bool × Unit) => if y.1 = true then Option.bind (q2y_ ()) fun (y : Bool × Unit) => some (y.1, ()) else some (false, ()) else some (false, ()) else some (false, ())))))
def q5i_ (j1 : Int -> Int -> List UInt8 -> Bool -> List UInt8 × List QFT0 -> Option (As [.bool])) (r : List UInt8 × List QFT0) (at' which : Int) : Option (As [.bool]) :=
  Option.bind (q2i_ (r, ())) fun (y : List UInt8 × Bool × Unit) => Option.bind (q6n_ (r, ())) fun (y_1 : Bool × Unit) => if (!y_1.1) = true then j1 at' which y.1 true r else if (!y.2.1) = true then j1 at' which y.1 true r else j1 at' which y.1 (gt (Int.ofNat (List.length y.1)) 7000) r
def q3o_ (many : List UInt8 × List QFT0) : Option (As [.bool]) := q7w_ many
def q5j_ (many : List UInt8 × List QFT0) : Option (As [.bool]) :=
  loopF (fun (self : (List UInt8 × List QFT0) -> Option (As [.bool])) (s : (List UInt8 × List QFT0)) => q4a_ (q3o_) (fun many => self (many)) s) 18446744073709551616 (many)
def q4d_ (k : Int) (text : List UInt8) (r : List UInt8 × List QFT0) : Option (As [.bool]) := q80_ (q5j_) k text r
def q2t_ (at' which : Int) (s : List UInt8) (t32 : Bool) (r : List UInt8 × List QFT0) : Option (As [.bool]) := q5k_ (q4d_) at' which s t32 r
def q77_ (x : As [.pr .str QFT1, .int .u8, .int .u8]) : Option (As [.bool]) := q5i_ q2t_ x.1 x.2.1 x.2.2.1
theorem qdp_  (J many) : pfn Tryz.prog qm_ 6 18446744073709551616 (Ev.get qn_) 6 qh_ J 2047 [] (q5h_ many) = q7w_ many := by kernel_rfl
theorem qdr_  (J w3 many) : pfn Tryz.prog qm_ 6 18446744073709551616 (Ev.get qn_) 6 qh_ J 8188 [w3] (q3m_ many) = q4a_ (fun many => J 2047 [] (q5h_ many)) (fun many => w3 (q3m_ many)) many := by kernel_rfl
theorem qd2_  (J k text r) : pfn Tryz.prog qm_ 6 18446744073709551616 (Ev.get qn_) 6 qh_ J 255 [] (q5l_ k text r) = q80_ (fun many => J 8188 [] (q3m_ many)) k text r := by kernel_rfl
theorem qdd_  (J at' which s t32 r) : pfn Tryz.prog qm_ 6 18446744073709551616 (Ev.get qn_) 6 qh_ J 14 [] (q5m_ at' which s t32 r) = q5k_ (fun k text r => J 255 [] (q5l_ k text r)) at' which s t32 r := by kernel_rfl
theorem qdm_ (J : Orc (As [.bool])) (x : As [.pr .str QFT1, .int .u8, .int .u8]) : rfn Tryz.prog qm_ 6 18446744073709551616 (Ev.get qn_) 6 qh_ J x = q5i_ (fun at' which s t32 r => J 14 [] (q5m_ at' which s t32 r)) x.1 x.2.1 x.2.2.1 := by kernel_rfl
theorem qdw_  (many) : jfn Tryz.prog qm_ 6 18446744073709551616 (Ev.get qn_) 6 qh_ 2047 [] (q5h_ many) = q3o_ many := by
  rw [q4_ (by decide)]
  rw [qdp_]
  rfl
theorem qd6_  (many) : jfn Tryz.prog qm_ 6 18446744073709551616 (Ev.get qn_) 6 qh_ 8188 [] (q3m_ many) = q5j_ many := by
  rw [q4_ (by decide)]
  rw [q16_ (by kernel_rfl)]
  refine qk_ (σ := (List UInt8 × List QFT0)) (mk := fun s => q3m_ s) (fun w3 s => ?_) 18446744073709551616 (many)
  have e4 : (fun many => (jfn Tryz.prog qm_ 6 18446744073709551616 (Ev.get qn_) 6 qh_) 2047 [] (q5h_ many)) = q3o_ := funext fun many => qdw_ many
  refine (qdr_ _ w3 s).trans ?_
  rw [e4]
theorem qdh_  (k text r) : jfn Tryz.prog qm_ 6 18446744073709551616 (Ev.get qn_) 6 qh_ 255 [] (q5l_ k text r) = q4d_ k text r := by
  rw [q4_ (by decide)]
  have e3 : (fun many => (jfn Tryz.prog qm_ 6 18446744073709551616 (Ev.get qn_) 6 qh_) 8188 [] (q3m_ many)) = q5j_ := funext fun many => qd6_ many
  rw [qd2_, e3]
  rfl
theorem qds_  (at' which s t32 r) : jfn Tryz.prog qm_ 6 18446744073709551616 (Ev.get qn_) 6 qh_ 14 [] (q5m_ at' which s t32 r) = q2t_ at' which s t32 r := by
  rw [q4_ (by decide)]
  have e2 : (fun k text r => (jfn Tryz.prog qm_ 6 18446744073709551616 (Ev.get qn_) 6 qh_) 255 [] (q5l_ k text r)) = q4d_ := by funext k text r; exact qdh_ k text r
  rw [qdd_, e2]
  rfl
theorem qel_ (x : As [.pr .str QFT1, .int .u8, .int .u8]) : evT Tryz.prog qm_ 6 18446744073709551616 (Ev.get qn_) 6 qh_ x = q77_ x := by
  have e1 : (fun at' which s t32 r => (jfn Tryz.prog qm_ 6 18446744073709551616 (Ev.get qn_) 6 qh_) 14 [] (q5m_ at' which s t32 r)) = q2t_ := by funext at' which s t32 r; exact qds_ at' which s t32 r
  rw [q27_, qdm_, e1]
  rfl
theorem qd7_ : CtOk Tryz.prog I0 6 ⟨qh_, q77_⟩ := qx_ (q0_ Ev.bx_ok (q0_ qme_ (q0_ qcf_ (q0_ qje_ (q0_ qck_ (q0_ strings_Split_ok (q0_ strings_Join_ok (q0_ qct_ (q0_ strings_RepS_ok q7_))))))))) qel_
end Go.Proofs.Lx
end
section
namespace Go.Proofs.Lx
open Go Ev Sx Pl
set_option maxRecDepth 100000
def tokf (n : Int) (w : List UInt8) : Tk1 := if w = [61] then (3, w, (0, 0), n) else if w = [49] then (2, w, (1, 0), n) else (1, w, (0, 0), n)
def badW (i : Nat) : List (List UInt8) := match i with
  | 0 => [[120]]
  | 1 => [[61], [49]]
  | 2 => [[97], [61], [98]]
  | 3 => [[97], [61], [49], [98], [99]]
  | 4 => [sSlv]
  | 5 => [sRec, [97], [98]]
  | 6 => [[97], [49]]
  | 7 => [sSlv, sEnd]
  | 8 => [[49], [61], [49]]
  | _ => [sEnd, sEnd]
def badL : List (List UInt8) := [[120], [61, 32, 49], [97, 32, 61, 32, 98], [97, 32, 61, 32, 49, 32, 98, 32, 99], [115, 108, 97, 118, 101], [114, 101, 99, 105, 112, 101, 32, 97, 32, 98], [97, 32, 49], [115, 108, 97, 118, 101, 32, 101, 110, 100], [49, 32, 61, 32, 49], [101, 110, 100, 32, 101, 110, 100]]
theorem wd_tok (n : Int) (w : List UInt8) (h : w ∈ [[120], [61], [49], [97], [98], [99], sSlv, sRec, sEnd]) : Wd n w (tokf n w) := by
  simp only [List.mem_cons, List.not_mem_nil, or_false] at h
  rcases h with rfl | rfl | rfl | rfl | rfl | rfl | rfl | rfl | rfl
  · exact wd_word (by rfl) (by rfl) (by decide)
  · exact wd_eq n
  · exact wd_num (c := 49) (q := []) (by rfl) (by rfl) (by kernel_rfl)
  · exact wd_word (by rfl) (by rfl) (by decide)
  · exact wd_word (by rfl) (by rfl) (by decide)
  · exact wd_word (by rfl) (by rfl) (by decide)
  · exact wd_slv n
  · exact wd_rec n
  · exact wd_end n
def badP (i : Nat) : List UInt8 × (Int -> TL) := (joinF [32] (badW i), fun n => (badW i).map (tokf n))
theorem bad_ln : ∀ i, Ln (badP i)
  | 0 => ln_words (List.cons_ne_nil _ _) fun n w hw => wd_tok n w (by revert w; decide)
  | 1 => ln_words (List.cons_ne_nil _ _) fun n w hw => wd_tok n w (by revert w; decide)
  | 2 => ln_words (List.cons_ne_nil _ _) fun n w hw => wd_tok n w (by revert w; decide)
  | 3 => ln_words (List.cons_ne_nil _ _) fun n w hw => wd_tok n w (by revert w; decide)
  | 4 => ln_words (List.cons_ne_nil _ _) fun n w hw => wd_tok n w (by revert w; decide)
  | 5 => ln_words (List.cons_ne_nil _ _) fun n w hw => wd_tok n w (by revert w; decide)
  | 6 => ln_words (List.cons_ne_nil _ _) fun n w hw => wd_tok n w (by revert w; decide)
  | 7 => ln_words (List.cons_ne_nil _ _) fun n w hw => wd_tok n w (by revert w; decide)
  | 8 => ln_words (List.cons_ne_nil _ _) fun n w hw => wd_tok n w (by revert w; decide)
  | _ + 9 => ln_words (ws := [sEnd, sEnd]) (f := tokf) (List.cons_ne_nil _ _) fun n w hw => wd_tok n w (by revert w; decide)
theorem bad_nil : ∀ i, Nil (badP i).2
  | 0 => ⟨fun n => by kernel_rfl, fun n => by kernel_rfl, fun n w h => by rcases h with rfl | rfl <;> kernel_rfl⟩
  | 1 => ⟨fun n => by kernel_rfl, fun n => by kernel_rfl, fun n w h => by rcases h with rfl | rfl <;> kernel_rfl⟩
  | 2 => ⟨fun n => by kernel_rfl, fun n => by kernel_rfl, fun n w h => by rcases h with rfl | rfl <;> kernel_rfl⟩
  | 3 => ⟨fun n => by kernel_rfl, fun n => by kernel_rfl, fun n w h => by rcases h with rfl | rfl <;> kernel_rfl⟩
  | 4 => ⟨fun n => by kernel_rfl, fun n => by kernel_rfl, fun n w h => by rcases h with rfl | rfl <;> kernel_rfl⟩
  | 5 => ⟨fun n => by kernel_rfl, fun n => by kernel_rfl, fun n w h => by rcases h with rfl | rfl <;> kernel_rfl⟩
  | 6 => ⟨fun n => by kernel_rfl, fun n => by kernel_rfl, fun n w h => by rcases h with rfl | rfl <;> kernel_rfl⟩
  | 7 => ⟨fun n => by kernel_rfl, fun n => by kernel_rfl, fun n w h => by rcases h with rfl | rfl <;> kernel_rfl⟩
  | 8 => ⟨fun n => by kernel_rfl, fun n => by kernel_rfl, fun n w h => by rcases h with rfl | rfl <;> kernel_rfl⟩
  | _ + 9 => ⟨fun n => by kernel_rfl, fun n => by kernel_rfl, fun n w h => by rcases h with rfl | rfl <;> kernel_rfl⟩
theorem bad_at : ∀ {i : Nat}, i < 10 -> at? badL (i : Int) = some (badP i).1 ∧ (badP i).1.length ≤ 30
  | 0, _ => ⟨by kernel_rfl, by decide⟩
  | 1, _ => ⟨by kernel_rfl, by decide⟩
  | 2, _ => ⟨by kernel_rfl, by decide⟩
  | 3, _ => ⟨by kernel_rfl, by decide⟩
  | 4, _ => ⟨by kernel_rfl, by decide⟩
  | 5, _ => ⟨by kernel_rfl, by decide⟩
  | 6, _ => ⟨by kernel_rfl, by decide⟩
  | 7, _ => ⟨by kernel_rfl, by decide⟩
  | 8, _ => ⟨by kernel_rfl, by decide⟩
  | 9, _ => ⟨by kernel_rfl, by decide⟩
  | _ + 10, h => by omega
theorem nl_lines : ∀ L : List (List UInt8), (∀ l ∈ L, (10 : UInt8) ∉ l) -> linesS (nl L) = L ++ [[]]
  | [], _ => linesS_no (by simp [nl])
  | x :: q, h => by rw [nl_cons, linesS_yes (h x List.mem_cons_self), nl_lines q fun l hl => h l (List.mem_cons_of_mem _ hl)]; rfl
theorem join_tail : ∀ M : List (List UInt8), joinF [10] (M ++ [[]]) = nl M
  | [] => rfl
  | x :: q => by
    rw [nl_cons, <- join_tail q]
    match q with
    | [] => show x ++ [10] ++ [] = x ++ 10 :: []; simp
    | y :: r => show x ++ [10] ++ joinF [10] (y :: r ++ [[]]) = x ++ 10 :: joinF [10] (y :: r ++ [[]]); simp
theorem wrong_parse {r : TRec} (h : RB r) (hl : (printS r).length ≤ 7000) {k i : Nat} (hk : k ≤ (qa_ r).length) (hi : i < 10) :
    q3u_ (nl ((qa_ r).take k ++ (badP i).1 :: (qa_ r).drop k), 140, (k : Int) + 1, ()) = some (true, ()) := by
  have hb := (bad_at hi).2
  have hk2 : k ≤ (recP r).length := by
    have := congrArg List.length (recP_fst r)
    rw [List.length_map] at this
    omega
  have e : nl ((qa_ r).take k ++ (badP i).1 :: (qa_ r).drop k) = nl (((recP r).take k ++ badP i :: (recP r).drop k).map Prod.fst) := by
    rw [List.map_append, List.map_cons, List.map_take, List.map_drop, recP_fst]
  have hs := says_lines ((recP r).take k ++ badP i :: (recP r).drop k) 1 (fun x hx => by
    rcases List.mem_append.1 hx with hx | hx
    · exact ln_rec h x (List.mem_of_mem_take hx)
    · rcases List.mem_cons.1 hx with rfl | hx
      · exact bad_ln i
      · exact ln_rec h x (List.mem_of_mem_drop hx))
  have hlen : (nl ((qa_ r).take k ++ (badP i).1 :: (qa_ r).drop k)).length ≤ 8192 := by
    have e1 := congrArg List.length (rec_nl r)
    have e2 : nl (qa_ r) = nl ((qa_ r).take k) ++ nl ((qa_ r).drop k) := by rw [<- nl_app, List.take_append_drop]
    rw [e2, List.length_append] at e1
    rw [nl_app, nl_cons, List.length_append, List.length_append, List.length_cons]
    omega
  have hok : (pS (rowsN 1 (recP r))).2.1 = 0 := by
    have h1 := says_lines (recP r) 1 (ln_rec h)
    rw [recP_fst, rec_nl] at h1
    have p1 := parse_says h1 (by omega)
    have p2 := print_parse h
    rw [if_neg (by omega)] at p2
    rw [p1] at p2
    have := Option.some.inj p2
    have e3 : (pS (rowsN 1 (recP r))).2 = (0, 0) := congrArg (fun x => x.2.1) this
    rw [e3]
  have hp := parse_says hs (by rw [<- e]; exact hlen)
  rw [<- e, pS_insert hk2 (bad_nil i) hok] at hp
  show qav_ _ 140 ((k : Int) + 1) = _
  unfold qav_
  rw [hp]
  unfold pR pFail
  rw [Option.bind_some]
  dsimp only
  rw [if_pos (show eqi (Int.ofNat ([] : List TPart).length) 0 = true from rfl), if_pos (show eqs [] [] = true from rfl), q1y_.2 rfl, q1y_.2 (show (1 : Int) + (k : Int) = (k : Int) + 1 by omega)]
  rfl
theorem wrong_K4 {many : TRec} (h : 9 ≤ many.2.length) : q3o_ many = some (true, ()) := by
  have hr : rightB many = false := by
    unfold rightB
    rw [decide_eq_false (show ¬ many.2.length ≤ 8 by omega)]
    simp
  unfold q3o_ q7w_
  rw [show q65_ ([115, 108, 97, 118, 101, 32, 97, 10, 101, 110, 100, 10], 8, ()) = some (Go.Lib.repeatL [115, 108, 97, 118, 101, 32, 97, 10, 101, 110, 100, 10] 8, ()) by kernel_rfl, Option.bind_some,
    show q65_ ([97, 32, 61, 32, 49, 10], 65, ()) = some (Go.Lib.repeatL [97, 32, 61, 32, 49, 10] 65, ()) by kernel_rfl, need_t (by decide +kernel), need_t (by decide +kernel), Option.bind_some, need_t (by decide +kernel), need_t (by decide +kernel), right_all, hr, Option.bind_some, if_pos (show (!false) = true from rfl)]
  dsimp only
  rw [show q3u_ (114 :: 101 :: 99 :: 105 :: 112 :: 101 :: 32 :: 97 :: 10 :: (Go.Lib.repeatL [115, 108, 97, 118, 101, 32, 97, 10, 101, 110, 100, 10] 8 ++ [115, 108, 97, 118, 101, 32, 98, 10, 101, 110, 100, 10]), 130, 18, ()) = some (true, ()) by kernel_rfl, Option.bind_some, if_pos rfl,
    show q3u_ (114 :: 101 :: 99 :: 105 :: 112 :: 101 :: 32 :: 97 :: 10 :: 115 :: 108 :: 97 :: 118 :: 101 :: 32 :: 97 :: 10 :: (Go.Lib.repeatL [97, 32, 61, 32, 49, 10] 65 ++ [101, 110, 100, 10]), 130, 67, ()) = some (true, ()) by kernel_rfl, Option.bind_some, if_pos rfl, awake14]
  rfl
def rwK3 (self : TRec -> OB) (s : TRec) : OB := q4a_ (q3o_) (fun many => self many) s
theorem wrong_loop : ∀ (m : Nat) (many : TRec) (n : Nat), 9 ≤ many.2.length + m -> many.2.length ≤ 1000 -> m < n -> loopF rwK3 n many = some (true, ())
  | m, many, n, h, hl, hn => by
    match n, hn with
    | n + 1, hn =>
      rw [q3b_]
      show q4a_ _ _ many = _
      unfold q4a_
      by_cases h9 : many.2.length < 9
      · rw [if_pos (by rw [qw_, q5_]; omega)]
        have hc : cut many.2 0 (Int.ofNat many.2.length) = some many.2 := by
          have := cut_to (xs := many.2) (j := many.2.length) (Nat.le_refl _)
          rw [List.take_length] at this
          exact this
        rw [hc, Option.bind_some, need_t (q1y_.2 rfl), need_t (le_iff.2 (by omega)), qi_ (by omega)]
        match m, h with
        | 0, h => omega
        | m + 1, h => exact wrong_loop m _ n (by show 9 ≤ (many.2 ++ [([97], 0, [])]).length + m; rw [List.length_append]; simp; omega) (by show (many.2 ++ [([97], 0, [])]).length ≤ 1000; rw [List.length_append]; simp; omega) (by omega)
      · rw [if_neg (by rw [qw_, q5_]; omega)]
        exact wrong_K4 (by omega)
theorem wrong_law {r : TRec} {at' which : Int} (ha : 0 ≤ at' ∧ at' ≤ 255) (hw : 0 ≤ which ∧ which ≤ 255) (hd : ∀ p ∈ r.2, ∀ s ∈ p.2.2, 0 ≤ s.2.1.2) : q77_ (r, at', which, ()) = some (true, ()) := by
  have T : ∀ s, q2t_ at' which s true r = some (true, ()) := fun s => by
    unfold q2t_ q5k_
    rw [if_pos rfl, awake14]
    rfl
  show q5i_ q2t_ r at' which = _
  unfold q5i_
  cases hr : rightB r with
  | false =>
    rw [print_all hr, Option.bind_some, few_eq, Option.bind_some]
    dsimp only
    split
    · exact T _
    · exact T _
  | true =>
    have hb := rb_of hr hd
    rw [hb.print, Option.bind_some, few_eq, Option.bind_some]
    dsimp only
    cases fewB r with
    | false => exact T _
    | true =>
      rw [if_neg (show ¬ (!true) = true by decide), if_neg (show ¬ (!true) = true by decide)]
      by_cases hl : (printS r).length ≤ 7000
      · have e7 : gt (Int.ofNat (printS r).length) 7000 = false := by
          have := gtn (n := (printS r).length) (k := 7000)
          rw [decide_eq_true hl] at this
          exact this
        rw [e7]
        have h8 := hb.l
        have hK3 : q5j_ r = some (true, ()) := wrong_loop 9 r 18446744073709551616 (by omega) (by omega) (by omega)
        have hn0 : (qa_ r).length ≤ 7000 := by
          have e1 : ∀ L : List (List UInt8), L.length ≤ (nl L).length := by
            intro L
            induction L with
            | nil => exact Nat.le_refl _
            | cons x q ih => rw [nl_cons, List.length_append, List.length_cons, List.length_cons]; omega
          have := e1 (qa_ r)
          rw [rec_nl] at this
          omega
        have hLl : (qa_ r ++ [[]]).length = (qa_ r).length + 1 := by rw [List.length_append]; rfl
        obtain ⟨k, hk, hk2⟩ : ∃ k : Nat, rem (cvt .i64 at') (Int.ofNat (qa_ r ++ [[]]).length) = (k : Int) ∧ k ≤ (qa_ r).length := by
          rw [cvt64 (by omega) (by omega), hLl, q5_]
          have h1 : rem at' (((qa_ r).length + 1 : Nat) : Int) = at' % (((qa_ r).length + 1 : Nat) : Int) := by
            unfold rem
            exact Int.tmod_eq_emod_of_nonneg ha.1
          have h2 := Int.emod_nonneg at' (show (((qa_ r).length + 1 : Nat) : Int) ≠ 0 by omega)
          have h3 := Int.emod_lt_of_pos at' (show (0 : Int) < (((qa_ r).length + 1 : Nat) : Int) by omega)
          exact ⟨(at' % (((qa_ r).length + 1 : Nat) : Int)).toNat, by rw [h1]; omega, by omega⟩
        obtain ⟨i, hi, hi2⟩ : ∃ i : Nat, rem which 10 = (i : Int) ∧ i < 10 := by
          have h1 : rem which 10 = which % 10 := by
            unfold rem
            exact Int.tmod_eq_emod_of_nonneg hw.1
          exact ⟨(which % 10).toNat, by rw [h1]; omega, by omega⟩
        have hbad := bad_at hi2
        have hfail := wrong_parse hb hl hk2 hi2
        have K2 : ∀ text, text = nl ((qa_ r).take k ++ (badP i).1 :: (qa_ r).drop k) -> q4d_ (k : Int) text r = some (true, ()) := by
          rintro text rfl
          unfold q4d_ q80_
          rw [add1 (by omega) (by omega), hfail, Option.bind_some, if_neg (show ¬ (!true) = true by decide)]
          exact hK3
        have hsp : q6k_ (printS r, [10], ()) = some (qa_ r ++ [[]], ()) := by
          rw [split_eq (by omega), <- rec_nl r, nl_lines _ (no_rec hb)]
        have hta : (qa_ r ++ [[]]).take k = (qa_ r).take k := List.take_append_of_le_length hk2
        have hdr : (qa_ r ++ [[]]).drop k = (qa_ r).drop k ++ [[]] := List.drop_append_of_le_length hk2
        have e1 := congrArg List.length (rec_nl r)
        have e2 : nl (qa_ r) = nl ((qa_ r).take k) ++ nl ((qa_ r).drop k) := by rw [<- nl_app, List.take_append_drop]
        rw [e2, List.length_append] at e1
        have hj1 : (joinF [10] ((qa_ r).take k)).length ≤ 7000 := by
          by_cases h0 : (qa_ r).take k = []
          · rw [h0]; exact Nat.zero_le _
          · have := congrArg List.length (join_nl _ h0)
            rw [List.length_append] at this
            omega
        have hj2 : (joinF [10] ((qa_ r).drop k ++ [[]])).length ≤ 7000 := by rw [join_tail]; omega
        have J1 : strings_Join ((qa_ r).take k, [10], ()) = some (joinF [10] ((qa_ r).take k), ()) := by
          unfold strings_Join
          have h3 : ((qa_ r).take k).length ≤ 1000000 := by rw [List.length_take]; omega
          exact if_pos ⟨h3, by show (joinF [10] ((qa_ r).take k)).length ≤ _; omega⟩
        have J2 : strings_Join ((qa_ r).drop k ++ [[]], [10], ()) = some (joinF [10] ((qa_ r).drop k ++ [[]]), ()) := by
          unfold strings_Join
          have h3 : ((qa_ r).drop k ++ [[]]).length ≤ 1000000 := by rw [List.length_append, List.length_drop]; simp; omega
          exact if_pos ⟨h3, by show (joinF [10] ((qa_ r).drop k ++ [[]])).length ≤ _; omega⟩
        unfold q2t_ q5k_
        rw [if_neg (by decide), hsp, Option.bind_some]
        dsimp only
        rw [need_t (q1b_.2 (by rw [hLl, q5_]; omega)), hk, hi]
        rw [show at? [[120], [61, 32, 49], [97, 32, 61, 32, 98], [97, 32, 61, 32, 49, 32, 98, 32, 99], [115, 108, 97, 118, 101], [114, 101, 99, 105, 112, 101, 32, 97, 32, 98], [97, 32, 49], [115, 108, 97, 118, 101, 32, 101, 110, 100], [49, 32, 61, 32, 49], [101, 110, 100, 32, 101, 110, 100]] (i : Int) = some (badP i).1 from hbad.1, Option.bind_some, Option.bind_some,
          cut_to (by rw [hLl]; omega), Option.bind_some, cut_from (by rw [hLl]; omega), Option.bind_some, hta, hdr, J1, Option.bind_some]
        dsimp only
        have hb30 := hbad.2
        have l1 : (joinF [10] ((qa_ r).take k) ++ [10]).length = (joinF [10] ((qa_ r).take k)).length + 1 := by rw [List.length_append]; rfl
        have l2 : (joinF [10] ((qa_ r).take k) ++ [10] ++ (badP i).1).length = (joinF [10] ((qa_ r).take k)).length + 1 + (badP i).1.length := by rw [List.length_append, l1]
        have l3 : (joinF [10] ((qa_ r).take k) ++ [10] ++ (badP i).1 ++ [10]).length = (joinF [10] ((qa_ r).take k)).length + 1 + (badP i).1.length + 1 := by rw [List.length_append, l2]; rfl
        have l4 : ((badP i).1 ++ [10]).length = (badP i).1.length + 1 := by rw [List.length_append]; rfl
        rw [qi_ (by omega), qi_ (by omega), qi_ (by omega), J2, Option.bind_some]
        dsimp only
        rw [qi_ (by omega)]
        by_cases hk0 : k = 0
        · rw [if_pos (q1y_.2 (by omega)), qi_ (by omega), qi_ (by omega)]
          refine K2 _ ?_
          rw [hk0, List.take_zero, List.drop_zero, List.nil_append, nl_cons, rec_nl]
          simp
        · rw [if_neg (fun e => hk0 (by have := q1y_.1 e; omega))]
          refine K2 _ ?_
          have hne : (qa_ r).take k ≠ [] := by
            intro e
            have := congrArg List.length e
            rw [List.length_take, List.length_nil] at this
            have : 1 ≤ (qa_ r).length := List.length_pos_iff.2 (List.cons_ne_nil _ _)
            omega
          rw [join_tail, nl_app, nl_cons, join_nl _ hne]
          simp
      · have e7 : gt (Int.ofNat (printS r).length) 7000 = true := gt_iff.2 (by rw [q5_]; omega)
        rw [e7]
        exact T _
end Go.Proofs.Lx
end
section
namespace Go.Proofs.Lx
open Go Go.RowKit Go.ChangeShapes Go.Proofs Go.Proofs.YtnamnibaedolaaaGreatDoor
theorem gP : Tryz.prog.globalNamed p10 = some 1 := by kernel_rfl
theorem heap_var {W W' : World} {n : String} {g : Nat} {cs : Array Value} (hg : Tryz.prog.globalNamed n = some g) (h : W.var? Tryz.prog n = some cs) (hB : Below W.heap.size W W') : W'.var? Tryz.prog n = some cs := by
  unfold World.var? at h ⊢
  rw [hg] at h ⊢
  simp only [Option.bind_some] at h ⊢
  have hlt : g < W.heap.size := by
    rcases Nat.lt_or_ge g W.heap.size with h' | h'
    · exact h'
    · simp [Array.getElem?_eq_none h'] at h
  rw [hB.block g hlt]
  exact h
theorem I0_laid {W : World} (hL : laidMet Tryz.prog Rows.recipeTellsRow.laid W) : ∀ W', Below W.heap.size W W' -> I0 W' := by
  intro W' hB
  have t2 : laidMet Tryz.prog ((p10, Lib.tabData .u64 Lib.pow10Tab) :: (Rows.recipeTellsRow.laid.drop 3)) W := hL.tail.tail
  exact heap_var gP (Lib.tabIs_of_head gP (t := 210) (by kernel_rfl) Tryz.underlying210 Tryz.underlying150 (by kernel_rfl) (by kernel_rfl) t2) hB
open Ev Sx
theorem ok8u {x : Int} (h : (Lit.int .u8 x).wf = true) : 0 ≤ x ∧ x ≤ 255 := by
  simp [Lit.wf] at h
  have e1 : IntKind.u8.min = 0 := rfl
  have e2 : IntKind.u8.max = 255 := rfl
  omega
end Go.Proofs.Lx
end
section
namespace Go.Proofs.Lx
open Go Ev Sx Go.RowKit Go.ChangeShapes Go.Proofs
theorem I0_laid_wrong {W : World} (hL : laidMet Tryz.prog YtnamnibaedolaaaGreatDoor.Rows.recipeWrongRow.laid W) : ∀ W', Below W.heap.size W W' -> I0 W' := I0_laid hL
theorem rw_row (x : As [.pr .str QFT1, .int .u8, .int .u8]) (h : Rw.okA [.pr .str QFT1, .int .u8, .int .u8] x) : q77_ x = some (true, ()) :=
  wrong_law (r := x.1) (at' := x.2.1) (which := x.2.2.1) (ok8u h.2.1) (ok8u h.2.2.1) fun p hp s hs => by
    have h1 := h.1.2.2 p hp
    have h2 := h1.2.2.2 s hs
    exact (ok8u h2.2.1.2).1
end Go.Proofs.Lx
end
