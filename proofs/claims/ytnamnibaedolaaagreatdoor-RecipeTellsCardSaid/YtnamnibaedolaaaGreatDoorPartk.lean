/- Proved in the last of these 12 parts (this is part 11): the law RecipeTells of chapter 14 returns true at every text and every two recipes. Conditions: those of the given statement, and no others. -/
import Derived.Test.YtnamnibaedolaaaGreatDoorPartj
import Derived.Test.YtnamnibaedolaaaGreatDoorParti
import Derived.Test.YtnamnibaedolaaaGreatDoorParte
import Derived.Stop.LaidErr
import Derived.Lib.LaidTab
set_option linter.unusedVariables false
set_option linter.unusedSimpArgs false
set_option linter.unusedSectionVars false
section
namespace Go.Proofs.Lx
open Go Ev Sx Pl
set_option maxRecDepth 10000
def sameS (x y : TSet) : Bool := eqs x.1 y.1 && ((eqi x.2.1.1 y.2.1.1 && (eqi x.2.1.2 y.2.1.2 && true)) && eqs x.2.2.1 y.2.2.1)
def eqLB {α : Type} (f : α -> α -> Bool) (a b : List α) : Bool := decide (a.length = b.length) && (a.zip b).all (fun p => f p.1 p.2)
def sameP (x y : TPart) : Bool := eqs x.1 y.1 && eqLB sameS x.2.2 y.2.2
def sameR (a b : TRec) : Bool := eqs a.1 b.1 && eqLB sameP a.2 b.2
theorem zip_at {α β : Type} {a : List α} {b : List β} {i : Nat} {x : α × β} (h : (a.zip b)[i]? = some x) : a[i]? = some x.1 ∧ b[i]? = some x.2 := by
  obtain ⟨x, y⟩ := x
  exact List.getElem?_zip_eq_some.1 h
theorem zip_len {α β : Type} {a : List α} {b : List β} (h : a.length = b.length) : (a.zip b).length = a.length := by rw [List.length_zip]; omega
theorem nein {n k : Nat} : nei (Int.ofNat n) (Int.ofNat k) = !decide (n = k) := by
  apply Bool.eq_iff_iff.2
  rw [ql_, q0_, q0_]
  simp
  omega
theorem efS_eq {a b : List TSet} (ha : a.length ≤ 1000000) : q44_ (a, b, ()) = some (eqLB sameS a b, ()) := by
  show q4k_ q3b_ a b = _
  unfold q4k_
  rw [nein]
  by_cases hl : a.length = b.length
  · rw [decide_eq_true hl, if_neg (by decide)]
    unfold q3b_
    refine (loop_all (xs := a.zip b) (mk := fun i => (b, a, Int.ofNat a.length, (i : Int))) (p := fun p => sameS p.1 p.2) (r0 := some (false, ())) (fin := some (true, ())) ?_ ?_ (by rw [zip_len hl]; omega)).trans ?_
    · intro self i x hx
      obtain ⟨h1, h2⟩ := zip_at hx
      have hi := (List.getElem?_eq_some_iff.1 h1).1
      show q2j_ _ b a (Int.ofNat a.length) (i : Int) = _
      unfold q2j_
      rw [if_pos (by rw [qb_, q0_]; omega), at_get h1, Option.bind_some, at_get h2, Option.bind_some, q1a_ (by omega)]
      unfold sameS
      cases eqs x.1.1 x.2.1 <;> cases (eqi x.1.2.1.1 x.2.2.1.1 && (eqi x.1.2.1.2 x.2.2.1.2 && true)) <;> cases eqs x.1.2.2.1 x.2.2.2.1 <;> rfl
    · intro self
      show q2j_ _ b a (Int.ofNat a.length) (((a.zip b).length : Nat) : Int) = _
      unfold q2j_
      rw [zip_len hl, if_neg (by rw [qb_, q0_]; omega)]
    · unfold eqLB
      rw [decide_eq_true hl]
      cases ((a.zip b).all fun p => sameS p.1 p.2) <;> rfl
  · rw [decide_eq_false hl, if_pos (by rfl)]
    unfold eqLB
    rw [decide_eq_false hl]
    rfl
theorem efP_eq {a b : List TPart} (ha : a.length ≤ 1000000) (hs : ∀ p ∈ a, p.2.2.length ≤ 1000000) : q4y_ (a, b, ()) = some (eqLB sameP a b, ()) := by
  show q46_ q35_ a b = _
  unfold q46_
  rw [nein]
  by_cases hl : a.length = b.length
  · rw [decide_eq_true hl, if_neg (by decide)]
    unfold q35_
    refine (loop_all (xs := a.zip b) (mk := fun i => (b, a, Int.ofNat a.length, (i : Int))) (p := fun p => sameP p.1 p.2) (r0 := some (false, ())) (fin := some (true, ())) ?_ ?_ (by rw [zip_len hl]; omega)).trans ?_
    · intro self i x hx
      obtain ⟨h1, h2⟩ := zip_at hx
      have hi := (List.getElem?_eq_some_iff.1 h1).1
      show q28_ _ b a (Int.ofNat a.length) (i : Int) = _
      unfold q28_
      rw [if_pos (by rw [qb_, q0_]; omega), at_get h1, Option.bind_some, at_get h2, Option.bind_some, efS_eq (hs x.1 (List.mem_of_getElem? h1)), Option.bind_some, q1a_ (by omega)]
      unfold sameP
      cases eqs x.1.1 x.2.1 <;> cases eqLB sameS x.1.2.2 x.2.2.2 <;> rfl
    · intro self
      show q28_ _ b a (Int.ofNat a.length) (((a.zip b).length : Nat) : Int) = _
      unfold q28_
      rw [zip_len hl, if_neg (by rw [qb_, q0_]; omega)]
    · unfold eqLB
      rw [decide_eq_true hl]
      cases ((a.zip b).all fun p => sameP p.1 p.2) <;> rfl
  · rw [decide_eq_false hl, if_pos (by rfl)]
    unfold eqLB
    rw [decide_eq_false hl]
    rfl
theorem same_eq {a b : TRec} (ha : a.2.length ≤ 1000000) (hs : ∀ p ∈ a.2, p.2.2.length ≤ 1000000) : qgp_ (a, b, ()) = some (sameR a b, ()) := by
  show qg9_ a b = _
  unfold qg9_
  rw [efP_eq ha hs, Option.bind_some]
  unfold sameR
  cases eqs a.1 b.1 <;> rfl
theorem nes_not (a b : List UInt8) : nes a b = !eqs a b := by
  by_cases h : a = b
  · subst h
    rw [q3x_.2 rfl]
    simp [nes]
  · rw [nes_iff.2 h, eqs_f h]
    rfl
theorem rsame_eq {a b : TRec} (ha : a.2.length ≤ 1000000) (hs : ∀ p ∈ a.2, p.2.2.length ≤ 1000000) : qa8_ (a, b, ()) = some (sameR a b, ()) := by
  show qei_ qal_ a b = _
  unfold qei_
  have K1 : ∀ t, qal_ t a b = if t = true then some (false, ()) else q8b_ 0 a b := fun t => rfl
  rw [nes_not, nein]
  simp only [K1]
  unfold sameR eqLB
  cases e0 : eqs a.1 b.1 with
  | false => rfl
  | true =>
    rw [if_neg (by decide)]
    by_cases hl : a.2.length = b.2.length
    · rw [decide_eq_true hl, if_neg (by decide)]
      have K2 : q8b_ 0 a b = if (a.2.zip b.2).all (fun p => sameP p.1 p.2) = true then some (true, ()) else some (false, ()) := by
        unfold q8b_
        refine loop_all (xs := a.2.zip b.2) (mk := fun i => ((i : Int), a, b)) (p := fun p => sameP p.1 p.2) ?_ ?_ (by rw [zip_len hl]; omega)
        · intro self i x hx
          obtain ⟨h1, h2⟩ := zip_at hx
          have hi := (List.getElem?_eq_some_iff.1 h1).1
          have hps := hs x.1 (List.mem_of_getElem? h1)
          obtain ⟨p, q⟩ := x
          show q8f_ (qe4_ fun i a b => self (i, a, b)) _ (i : Int) a b = _
          unfold q8f_
          rw [if_pos (by rw [qb_, q0_]; omega), at_get h1, Option.bind_some, at_get h2, Option.bind_some, amb2 (eqAs_refl _)]
          have K5 : p.2.2.length = q.2.2.length -> q87_ (fun i a b => self (i, a, b)) (i : Int) 0 a b p q = if (p.2.2.zip q.2.2).all (fun p => sameS p.1 p.2) = true then self (((i + 1 : Nat) : Int), a, b) else some (false, ()) := fun hq => by
            unfold q87_
            refine loop_all (xs := p.2.2.zip q.2.2) (mk := fun k => ((i : Int), (k : Int), a, b, p, q)) (p := fun p => sameS p.1 p.2) ?_ ?_ (by rw [zip_len hq]; have : p.2.2.length ≤ 1000000 := hps; omega)
            · intro self5 k s hk
              obtain ⟨h3, h4⟩ := zip_at hk
              have hkl := (List.getElem?_eq_some_iff.1 h3).1
              have hps : p.2.2.length ≤ 1000000 := hps
              obtain ⟨x, y⟩ := s
              show q8c_ (qec_ (fun i a b => self (i, a, b)) fun i k a b p q => self5 (i, k, a, b, p, q)) _ _ _ (i : Int) (k : Int) a b p q = _
              unfold q8c_
              rw [if_pos (by rw [qb_, q0_]; omega), at_get h3, Option.bind_some, at_get h4, Option.bind_some, amb2 (eqAs_refl _)]
              show qe6_ (qaj_ (fun i a b => self (i, a, b)) fun i k a b p q => self5 (i, k, a, b, p, q)) _ _ (i : Int) (k : Int) a b p q x y = _
              unfold qe6_
              have K8 : ∀ t, qaj_ (fun i a b => self (i, a, b)) (fun i k a b p q => self5 (i, k, a, b, p, q)) (i : Int) (k : Int) t a b p q = if t = true then some (false, ()) else self5 ((i : Int), ((k + 1 : Nat) : Int), a, b, p, q) := fun t => by
                show qdr_ _ _ (i : Int) (k : Int) t a b p q = _
                unfold qdr_
                rw [q1a_ (by omega)]
              simp only [K8, nes_not]
              unfold sameS
              cases eqs x.1 y.1 <;> cases (eqi x.2.1.1 y.2.1.1 && (eqi x.2.1.2 y.2.1.2 && true)) <;> cases eqs x.2.2.1 y.2.2.1 <;> rfl
            · intro self5
              have hps : p.2.2.length ≤ 1000000 := hps
              show q8c_ _ (qdl_ fun i a b => self (i, a, b)) _ _ (i : Int) (((p.2.2.zip q.2.2).length : Nat) : Int) a b p q = _
              unfold q8c_
              rw [zip_len hq, if_neg (by rw [qb_, q0_]; omega)]
              show qdp_ _ (i : Int) a b = _
              unfold qdp_
              rw [q1a_ (by omega)]
          show qe2_ (qas_ fun i a b => self (i, a, b)) _ (i : Int) a b p q = _
          unfold qe2_
          have K4 : ∀ t, qas_ (fun i a b => self (i, a, b)) (i : Int) t a b p q = if t = true then some (false, ()) else q87_ (fun i a b => self (i, a, b)) (i : Int) 0 a b p q := fun t => rfl
          simp only [K4, nes_not, nein]
          unfold sameP eqLB
          cases eqs p.1 q.1 with
          | false => rfl
          | true =>
            by_cases hq : p.2.2.length = q.2.2.length
            · rw [decide_eq_true hq, K5 hq]
              cases ((p.2.2.zip q.2.2).all fun p => sameS p.1 p.2) <;> rfl
            · rw [decide_eq_false hq]
              rfl
        · intro self
          show q8f_ _ _ (((a.2.zip b.2).length : Nat) : Int) a b = _
          unfold q8f_
          rw [zip_len hl, if_neg (by rw [qb_, q0_]; omega)]
      rw [K2]
      cases ((a.2.zip b.2).all fun p => sameP p.1 p.2) <;> rfl
    · rw [decide_eq_false hl]
      rfl
theorem eqLB_refl {α : Type} {f : α -> α -> Bool} : ∀ {a : List α}, (∀ x ∈ a, f x x = true) -> eqLB f a a = true
  | [], _ => rfl
  | x :: q, h => by
    have h2 := eqLB_refl (f := f) (a := q) (fun y hy => h y (List.mem_cons_of_mem _ hy))
    unfold eqLB at h2 ⊢
    rw [decide_eq_true rfl] at h2 ⊢
    rw [List.zip_cons_cons, List.all_cons, h x (List.mem_cons_self ..)]
    exact h2
theorem sameR_refl (a : TRec) : sameR a a = true := by
  unfold sameR
  rw [q3x_.2 rfl, eqLB_refl (fun p _ => ?_)]
  · rfl
  · unfold sameP
    rw [q3x_.2 rfl, eqLB_refl (fun s _ => ?_)]
    · rfl
    · unfold sameS
      rw [q3x_.2 rfl, q3x_.2 rfl, qn_.2 rfl, qn_.2 rfl]
      rfl
theorem exact_refl {a : TRec} (ha : a.2.length ≤ 1000000) (hs : ∀ p ∈ a.2, p.2.2.length ≤ 1000000) : qay_ (a, a, ()) = some (true, ()) := by
  show qcq_ q7b_ a a = _
  unfold qcq_
  rw [rsame_eq ha hs, Option.bind_some, sameR_refl]
  show q7b_ (Int.ofNat a.2.length) 0 a a = _
  unfold q7b_
  refine loop_dt (N := a.2.length) (mk := fun i => (Int.ofNat a.2.length, (i : Int), a, a)) ?_ ?_ a.2.length 0 _ (by omega) (by omega)
  · intro self i hi
    have hp : a.2[i]? = some a.2[i] := List.getElem?_eq_getElem hi
    have hps := hs _ (List.getElem_mem hi)
    generalize a.2[i] = p at hp hps
    show q7m_ (q9r_ fun t13 t14 a b => self (t13, t14, a, b)) _ (Int.ofNat a.2.length) (i : Int) a a = _
    unfold q7m_
    rw [if_pos (by rw [qb_, q0_]; omega), at_get hp, Option.bind_some, Option.bind_some, if_neg (fun e => ql_.1 e rfl), Option.bind_some]
    unfold q9r_
    refine loop_dt (N := p.2.2.length) (mk := fun k => ((i : Int), Int.ofNat a.2.length, (i : Int), Int.ofNat p.2.2.length, (k : Int), a, a)) ?_ ?_ p.2.2.length 0 _ (by omega) (by omega)
    · intro self2 k hk
      have hx : p.2.2[k]? = some p.2.2[k] := List.getElem?_eq_getElem hk
      generalize p.2.2[k] = s at hx
      show q7e_ _ _ (i : Int) (Int.ofNat a.2.length) (i : Int) (Int.ofNat p.2.2.length) (k : Int) a a = _
      unfold q7e_
      rw [if_pos (by rw [qb_, q0_]; omega), at_get hp, Option.bind_some, at_get hx, Option.bind_some, Option.bind_some, at_get hx, Option.bind_some, if_neg (fun e => ql_.1 e rfl), q1a_ (by omega)]
    · intro self2
      show q7e_ _ _ (i : Int) (Int.ofNat a.2.length) (i : Int) (Int.ofNat p.2.2.length) (p.2.2.length : Int) a a = _
      unfold q7e_
      rw [if_neg (by rw [qb_, q0_]; omega), q1a_ (by omega)]
  · intro self
    show q7m_ _ _ (Int.ofNat a.2.length) (a.2.length : Int) a a = _
    unfold q7m_
    rw [if_neg (by rw [qb_, q0_]; omega)]
end Go.Proofs.Lx
end
section
namespace Go.Proofs.Lx
open Go Ev Sx
set_option maxRecDepth 100000
theorem awake14 : qaz_ () = some (true, ()) := by kernel_rfl
end Go.Proofs.Lx
end
section
namespace Go.Proofs.Lx
open Go Ev Sx Pl
set_option maxRecDepth 10000
theorem pB_len : ∀ (rs : List (TL × Int)) (w : Bool) (nm : List UInt8) (oo : Bool) (o : List TPart) (ol : List UInt8) (ol2 : Int) (o2 : List TSet), lenB oo o ≤ 8 -> (∀ p ∈ o, p.2.2.length ≤ 64) -> o2.length ≤ 64 ->
    (pB rs w nm oo o ol ol2 o2).1.2.length ≤ 8 ∧ ∀ p ∈ (pB rs w nm oo o ol ol2 o2).1.2, p.2.2.length ≤ 64
  | [], w, nm, oo, o, ol, ol2, o2, ho, hp, h2 => by
    unfold pB
    cases w with
    | true => exact ⟨Nat.zero_le _, fun p hp => by cases hp⟩
    | false =>
      rw [if_neg (by decide)]
      refine ⟨by show (if oo = true then o ++ [(ol, ol2, o2)] else o).length ≤ 8; rw [all_len]; exact ho, fun p hm => ?_⟩
      have hm : p ∈ (if oo = true then o ++ [(ol, ol2, o2)] else o) := hm
      split at hm
      · rcases List.mem_append.1 hm with hm | hm
        · exact hp p hm
        · rw [List.mem_singleton.1 hm]
          exact h2
      · exact hp p hm
  | (ts, a) :: rs, true, nm, oo, o, ol, ol2, o2, ho, hp, h2 => by
    unfold pB
    split
    · exact pB_len rs false nm oo o ol ol2 o2 ho hp h2
    · split
      · exact ⟨Nat.zero_le _, fun p hp => by cases hp⟩
      · split
        · exact ⟨Nat.zero_le _, fun p hp => by cases hp⟩
        · exact pB_len rs true nm oo o ol ol2 _ ho hp (by rw [List.length_append]; simp; omega)
  | (ts, a) :: rs, false, nm, oo, o, ol, ol2, o2, ho, hp, h2 => by
    unfold pB
    by_cases hh : headB ts sSlv = false
    · rw [if_pos hh]
      exact ⟨Nat.zero_le _, fun p hp => by cases hp⟩
    · rw [if_neg hh]
      by_cases h8 : lenB oo o = 8
      · rw [if_pos (show (if oo = true then o.length + 1 else o.length) = 8 from h8)]
        exact ⟨Nat.zero_le _, fun p hp => by cases hp⟩
      · rw [if_neg (show ¬ (if oo = true then o.length + 1 else o.length) = 8 from h8)]
        refine pB_len rs true nm true _ _ _ [] ?_ ?_ (by simp)
        · show (if true = true then (if oo = true then o ++ [(ol, ol2, o2)] else o).length + 1 else _) ≤ 8
          rw [if_pos rfl, all_len]
          omega
        · intro p hm
          cases oo with
          | true =>
            rcases List.mem_append.1 hm with hm | hm
            · exact hp p hm
            · rw [List.mem_singleton.1 hm]
              exact h2
          | false => exact hp p hm
theorem parseR_len (s : List UInt8) (rs : List (TL × Int)) : (parseR s rs).1.2.length ≤ 8 ∧ ∀ p ∈ (parseR s rs).1.2, p.2.2.length ≤ 64 := by
  unfold parseR
  split
  · unfold pS
    split
    · exact ⟨Nat.zero_le _, fun p hp => by cases hp⟩
    · split
      · exact ⟨Nat.zero_le _, fun p hp => by cases hp⟩
      · exact pB_len _ _ _ _ _ _ _ _ (by decide) (fun p hp => by cases hp) (by simp)
  · exact ⟨Nat.zero_le _, fun p hp => by cases hp⟩
theorem lex_rs (s : List UInt8) : ∃ rs, (lexR s).2.1 = 0 -> RowsT (lexR s).1 rs := by
  by_cases h : (lexR s).2.1 = 0
  · obtain ⟨rs, hr⟩ := lexR_rows h
    exact ⟨rs, fun _ => hr⟩
  · exact ⟨[], fun e => absurd e h⟩
theorem neb_self (b : Bool) : Sx.neb b b = false := by cases b <;> rfl
theorem tells_K2 {a : TRec} (hf : fewB a = true) (hd : ∀ p ∈ a.2, ∀ s ∈ p.2.2, 0 ≤ s.2.1.2) : q5c_ false a = some (true, ()) := by
  have hl := few_len hf
  have h1 : a.2.length ≤ 1000000 := by omega
  have h2 : ∀ p ∈ a.2, p.2.2.length ≤ 1000000 := fun p hp => by have := (hl.2.2 p hp).1; omega
  have h3 : q71_ (a, ()) = some (rightB a, ()) := rright_eq' (by omega) h1 fun p hp => by
    have := hl.2.2 p hp
    exact ⟨by omega, by omega, fun s hs => by have := this.2.2 s hs; omega⟩
  unfold q5c_ qae_
  rw [if_neg (by decide)]
  cases hr : rightB a with
  | false =>
    rw [print_no hr h1 h2, h3, hr, Option.bind_some, Option.bind_some, if_pos (show (!false) = true from rfl), if_pos (show (!false) = true from rfl), if_pos (show eqs [] [] = true from rfl), awake14]
    rfl
  | true =>
    have ho := rec_ok hr hd
    rw [print_yes hr hd h1 h2, h3, hr, Option.bind_some, Option.bind_some, if_neg (show ¬ (!true) = true by decide), if_pos (show true = true from rfl), rprint_eq ho, Option.bind_some, if_pos (q3x_.2 rfl), awake14]
    rfl
theorem tells_K1 {text : List UInt8} {a b : TRec} (hf : fewB a = true) (hd : ∀ p ∈ a.2, ∀ s ∈ p.2.2, 0 ≤ s.2.1.2) : q2y_ text false a b = some (true, ()) := by
  have hl := few_len hf
  have h1 : a.2.length ≤ 1000000 := by omega
  have h2 : ∀ p ∈ a.2, p.2.2.length ≤ 1000000 := fun p hp => by have := (hl.2.2 p hp).1; omega
  have h3 : q71_ (a, ()) = some (rightB a, ()) := rright_eq' (by omega) h1 fun p hp => by
    have := hl.2.2 p hp
    exact ⟨by omega, by omega, fun s hs => by have := this.2.2 s hs; omega⟩
  obtain ⟨rs, hrs⟩ := lex_rs text
  have hp := parseR_len text rs
  unfold q2y_ q6y_
  rw [if_neg (by decide), rparse_eq hrs, dparse_eq hrs]
  unfold pR
  rw [Option.bind_some, Option.bind_some]
  dsimp only
  rw [qn_.2 rfl, qn_.2 rfl, if_neg (by decide), exact_refl (by omega) (fun p hm => by have := hp.2 p hm; omega), Option.bind_some, if_neg (by decide), same_eq h1 h2, rsame_eq h1 h2, Option.bind_some, Option.bind_some]
  dsimp only
  rw [neb_self, if_neg (by decide), right_eq' h1 h2, h3, Option.bind_some, Option.bind_some]
  dsimp only
  rw [neb_self]
  exact tells_K2 hf hd
theorem tells_law {text : List UInt8} {a b : TRec} (hd : ∀ p ∈ a.2, ∀ s ∈ p.2.2, 0 ≤ s.2.1.2) : q91_ (text, a, b, ()) = some (true, ()) := by
  have T : q2y_ text true a b = some (true, ()) := by
    unfold q2y_ q6y_
    rw [if_pos rfl, awake14]
    rfl
  show q6z_ q2y_ text a b = _
  unfold q6z_
  split
  · exact T
  · rw [few_eq, few_eq, Option.bind_some, Option.bind_some]
    cases hf : fewB a with
    | false => exact T
    | true =>
      rw [if_neg (show ¬ (!true) = true by decide)]
      cases fewB b with
      | false => exact T
      | true => exact tells_K1 hf hd
end Go.Proofs.Lx
end
section
namespace Go.Proofs.Lx
open Go Go.RowKit Go.ChangeShapes Go.Proofs Go.Proofs.YtnamnibaedolaaaGreatDoor
theorem gP : Tryz.prog.globalNamed p10 = some 1 := by kernel_rfl
theorem heap_var {W W' : World} {n : String} {g : Nat} {cs : Array Value} (hg : Tryz.prog.globalNamed n = some g) (h : W.var? Tryz.prog n = some cs) (hB : Below W.heap.size W W') : W'.var? Tryz.prog n = some cs := by
  unfold World.var? at h ⊢
  rw [hg] at h ⊢
  simp only [Option.bind_some] at h ⊢
  have hlt : g < W.heap.size := by
    rcases Nat.lt_or_ge g W.heap.size with h' | h'
    · exact h'
    · simp [Array.getElem?_eq_none h'] at h
  rw [hB.block g hlt]
  exact h
theorem I0_laid {W : World} (hL : laidMet Tryz.prog Rows.recipeTellsRow.laid W) : ∀ W', Below W.heap.size W W' -> I0 W' := by
  intro W' hB
  have t2 : laidMet Tryz.prog ((p10, Lib.tabData .u64 Lib.pow10Tab) :: (Rows.recipeTellsRow.laid.drop 3)) W := hL.tail.tail
  exact heap_var gP (Lib.tabIs_of_head gP (t := 210) (by kernel_rfl) Tryz.underlying210 Tryz.underlying150 (by kernel_rfl) (by kernel_rfl) t2) hB
open Ev Sx
theorem ok8u {x : Int} (h : (Lit.int .u8 x).wf = true) : 0 ≤ x ∧ x ≤ 255 := by
  simp [Lit.wf] at h
  have e1 : IntKind.u8.min = 0 := rfl
  have e2 : IntKind.u8.max = 255 := rfl
  omega
theorem rt_row (x : As [.str, .pr .str (.sl QCT0), .pr .str (.sl QCT0)]) (h : Rw.okA [.str, .pr .str (.sl QCT0), .pr .str (.sl QCT0)] x) : q91_ x = some (true, ()) :=
  tells_law (text := x.1) (a := x.2.1) (b := x.2.2.1) fun p hp s hs => by
    have h1 := h.2.1.2.2 p hp
    have h2 := h1.2.2.2 s hs
    exact (ok8u h2.2.1.2).1
end Go.Proofs.Lx
end
