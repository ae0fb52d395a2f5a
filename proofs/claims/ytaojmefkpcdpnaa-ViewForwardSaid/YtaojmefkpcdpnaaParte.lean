/- Proved in the last of these 9 parts (this is part 5): record by record registers show of a job what comes behind what they showed, for any records and any numbers that wait. Conditions: those of the given statement, and no others. -/
import Derived.Test.YtaojmefkpcdpnaaPartd
import Derived.Test.YtaojmefkpcdpnaaParta
import Derived.Test.YtaojmefkpcdpnaaProg
set_option linter.unusedVariables false
set_option linter.unusedSimpArgs false
set_option linter.unusedSectionVars false
section
/- The run of code in pieces: what follows a cut, and loops, by an oracle. -/
namespace Ev
open Go Go.RowKit Sx

abbrev Us (R : Type) := List (St → Option R)
abbrev Orc (R : Type) := Nat → Us R → St → Option R
section
variable {R : Type}
/-- the run, with an oracle for what follows cuts, and for loops -/
def evJ (P : Program) (env : Env) (cl : Cl R) (fuel : Nat) (hs : Nat → Option Hint) (J : Orc R) : Us R → Nat → Code → St → Kt R → Option R
  | _, _, .skip, S, k => k .n S
  | _, _, .label _, S, k => k .n S
  | _, _, .ret, S, k => k .r S
  | _, _, .exit id, S, k => k (.x id) S
  | us, p, .seq x y, S, k => match hs p with
    | some h => evJ P env cl fuel hs J us (2 * p) x S (seqK P (some h) (J p us) k)
    | none => evJ P env cl fuel hs J us (2 * p) x S (seqK P none (fun S' => evJ P env cl fuel hs J us (2 * p + 1) y S' k) k)
  | us, p, .block id c, S, k => evJ P env cl fuel hs J us (2 * p) c S (blockK id k)
  | us, p, .cond c x y, S, k => match c with
    | .tmp t => if t < S.nt then match get S.fr t with
      | some (.d .bool b) => if b = true then evJ P env cl fuel hs J us (2 * p) x { S with fr := (t, .d .bool true) :: S.fr } k else evJ P env cl fuel hs J us (2 * p + 1) y { S with fr := (t, .d .bool false) :: S.fr } k
      | _ => none else none
    | .const (.bool b) => if b = true then evJ P env cl fuel hs J us (2 * p) x S k else evJ P env cl fuel hs J us (2 * p + 1) y S k
    | _ => none
  | _, _, .region _ ⟨ops⟩ draw, S, k => regn P env cl ops draw S (k .n)
  | us, p, .loop c, S, k => match hs p with
    | some h => (nrm P h S).bind (J p us)
    | none => loopF (fun self S => evJ P env cl fuel hs J (us ++ [self]) (2 * p) c S (seqK P none self k)) fuel S
  | _, _, .rangeFunc _ _ _ _, _, _ => none
  | _, _, .scope _, _, _ => none
  | _, _, .goto _, _, _ => none
  | _, _, .refuse _, _, _ => none
/-- whether the way to q goes to the left of p -/
def lft (q p : Nat) : Bool := q / 2 ^ (q.log2 - p.log2 - 1) % 2 == 0
def In (q p : Nat) : Prop := ∃ n r, q = p * 2 ^ n + r ∧ r < 2 ^ n
theorem In.self (p : Nat) : In p p := ⟨0, 0, by simp, by simp⟩
theorem In.l {q p : Nat} : In q (2 * p) → In q p := fun ⟨n, r, h1, h2⟩ => ⟨n + 1, r, by rw [h1, Nat.pow_succ]; simp only [Nat.mul_comm 2, Nat.mul_assoc], by rw [Nat.pow_succ]; omega⟩
theorem In.r {q p : Nat} : In q (2 * p + 1) → In q p := fun ⟨n, r, h1, h2⟩ => ⟨n + 1, 2 ^ n + r, by
  have e : (2 * p + 1) * 2 ^ n = p * 2 ^ (n + 1) + 2 ^ n := by rw [Nat.pow_succ, Nat.add_mul, Nat.one_mul, Nat.mul_comm 2 p, Nat.mul_assoc, Nat.mul_comm 2 (2 ^ n)]
  omega, by rw [Nat.pow_succ]; omega⟩
theorem In.cases {q p : Nat} : In q p → q = p ∨ In q (2 * p) ∨ In q (2 * p + 1) := fun ⟨n, r, h1, h2⟩ => by
  cases n with
  | zero => left; simp at h1 h2; omega
  | succ n =>
    right
    have e : p * 2 ^ (n + 1) = 2 * p * 2 ^ n := by rw [Nat.pow_succ, Nat.mul_comm 2 p, Nat.mul_assoc, Nat.mul_comm 2 (2 ^ n)]
    have e2 : 2 ^ (n + 1) = 2 ^ n + 2 ^ n := by rw [Nat.pow_succ]; omega
    have e3 : (2 * p + 1) * 2 ^ n = 2 * p * 2 ^ n + 2 ^ n := by rw [Nat.add_mul, Nat.one_mul]
    by_cases h : r < 2 ^ n
    · exact .inl ⟨n, r, by omega, h⟩
    · exact .inr ⟨n, r - 2 ^ n, by omega, by omega⟩
theorem log2_at {p n r : Nat} (hp : 0 < p) (hr : r < 2 ^ n) : (p * 2 ^ n + r).log2 = p.log2 + n := by
  have h2 : 0 < 2 ^ n := Nat.pow_pos (by decide)
  have hne : p * 2 ^ n + r ≠ 0 := by have := Nat.mul_pos hp h2; omega
  apply Nat.le_antisymm
  · apply Nat.le_of_lt_succ
    rw [Nat.log2_lt hne, Nat.succ_eq_add_one, show p.log2 + n + 1 = (p.log2 + 1) + n from by omega, Nat.pow_add]
    have h1 : p < 2 ^ (p.log2 + 1) := (Nat.log2_lt (by omega)).1 (Nat.lt_succ_self _)
    calc p * 2 ^ n + r < p * 2 ^ n + 2 ^ n := by omega
      _ = (p + 1) * 2 ^ n := by rw [Nat.add_mul, Nat.one_mul]
      _ ≤ _ := Nat.mul_le_mul_right _ h1
  · rw [Nat.le_log2 hne, Nat.pow_add]
    have h1 : 2 ^ p.log2 ≤ p := (Nat.le_log2 (by omega)).1 (Nat.le_refl _)
    have := Nat.mul_le_mul_right (2 ^ n) h1
    omega
theorem lft_l {q p : Nat} (hp : 0 < p) : In q (2 * p) → lft q p = true := fun ⟨n, r, h1, h2⟩ => by
  unfold lft
  have hl : q.log2 = (2 * p).log2 + n := by rw [h1]; exact log2_at (by omega) h2
  have hl2 : (2 * p).log2 = p.log2 + 1 := by have := log2_at (p := p) (n := 1) (r := 0) hp (by decide); rw [show 2 * p = p * 2 ^ 1 + 0 from by omega]; exact this
  have e : q.log2 - p.log2 - 1 = n := by omega
  rw [e, h1]
  have : (2 * p * 2 ^ n + r) / 2 ^ n = 2 * p := by
    rw [Nat.mul_comm (2 * p), Nat.mul_add_div (Nat.pow_pos (by decide)), Nat.div_eq_of_lt h2]; rfl
  rw [this]
  simp
theorem lft_r {q p : Nat} (hp : 0 < p) : In q (2 * p + 1) → lft q p = false := fun ⟨n, r, h1, h2⟩ => by
  unfold lft
  have hl : q.log2 = (2 * p + 1).log2 + n := by rw [h1]; exact log2_at (by omega) h2
  have hl2 : (2 * p + 1).log2 = p.log2 + 1 := by have := log2_at (p := p) (n := 1) (r := 1) hp (by decide); rw [show 2 * p + 1 = p * 2 ^ 1 + 1 from by omega]; exact this
  have e : q.log2 - p.log2 - 1 = n := by omega
  rw [e, h1]
  have : ((2 * p + 1) * 2 ^ n + r) / 2 ^ n = 2 * p + 1 := by
    rw [Nat.mul_comm (2 * p + 1), Nat.mul_add_div (Nat.pow_pos (by decide)), Nat.div_eq_of_lt h2, Nat.add_zero]
  rw [this]
  simp
theorem In.pos {q p : Nat} (hp : 0 < p) : In q p → p ≤ q := fun ⟨n, r, h1, _⟩ => by
  have h2 : 0 < 2 ^ n := Nat.pow_pos (by decide)
  have := Nat.mul_le_mul_left p h2
  omega
/-- what follows the cut, or the loop, at q -/
def fnd (P : Program) (env : Env) (cl : Cl R) (fuel : Nat) (hs : Nat → Option Hint) (q : Nat) : Code → Nat → Kt R → Us R → St → Option R
  | .seq x y, p, k, us => if q = p then fun S => ev P env cl fuel hs (2 * p + 1) y S k
    else if lft q p = true then fnd P env cl fuel hs q x (2 * p) (seqK P (hs p) (fun S' => ev P env cl fuel hs (2 * p + 1) y S' k) k) us else fnd P env cl fuel hs q y (2 * p + 1) k us
  | .block id c, p, k, us => if q = p then fun _ => none else if lft q p = true then fnd P env cl fuel hs q c (2 * p) (blockK id k) us else fun _ => none
  | .cond _ x y, p, k, us => if q = p then fun _ => none else if lft q p = true then fnd P env cl fuel hs q x (2 * p) k us else fnd P env cl fuel hs q y (2 * p + 1) k us
  | .loop c, p, k, us => match us with
    | [] => if q = p then fun S => loopF (fun self S => ev P env cl fuel hs (2 * p) c S (seqK P (hs p) self k)) fuel S else fun _ => none
    | u :: us => if q = p then fun S => ev P env cl fuel hs (2 * p) c S (seqK P (hs p) u k) else if lft q p = true then fnd P env cl fuel hs q c (2 * p) (seqK P (hs p) u k) us else fun _ => none
  | _, _, _, _ => fun _ => none
/-- the same, with an oracle -/
def pce (P : Program) (env : Env) (cl : Cl R) (fuel : Nat) (hs : Nat → Option Hint) (J : Orc R) (q : Nat) : Code → Nat → Kt R → Us R → Us R → St → Option R
  | .seq x y, p, k, u0, us => if q = p then fun S => evJ P env cl fuel hs J u0 (2 * p + 1) y S k
    else if lft q p = true then pce P env cl fuel hs J q x (2 * p) (match hs p with
      | some h => seqK P (some h) (J p u0) k
      | none => seqK P none (fun S' => evJ P env cl fuel hs J u0 (2 * p + 1) y S' k) k) u0 us else pce P env cl fuel hs J q y (2 * p + 1) k u0 us
  | .block id c, p, k, u0, us => if q = p then fun _ => none else if lft q p = true then pce P env cl fuel hs J q c (2 * p) (blockK id k) u0 us else fun _ => none
  | .cond _ x y, p, k, u0, us => if q = p then fun _ => none else if lft q p = true then pce P env cl fuel hs J q x (2 * p) k u0 us else pce P env cl fuel hs J q y (2 * p + 1) k u0 us
  | .loop c, p, k, u0, us => match us with
    | [] => if q = p then fun S => loopF (fun self S => evJ P env cl fuel hs J (u0 ++ [self]) (2 * p) c S (seqK P (hs p) self k)) fuel S else fun _ => none
    | u :: us => if q = p then fun S => evJ P env cl fuel hs J (u0 ++ [u]) (2 * p) c S (seqK P (hs p) u k) else if lft q p = true then pce P env cl fuel hs J q c (2 * p) (seqK P (hs p) u k) (u0 ++ [u]) us else fun _ => none
  | _, _, _, _, _ => fun _ => none
end
section
variable {R : Type} {P : Program} {env : Env} {cl : Cl R} {fuel : Nat} {hs : Nat → Option Hint} {J : Orc R}
theorem evJ_eq : ∀ {c : Code} {p : Nat} {us : Us R} {S : St} {k : Kt R}, 0 < p → (∀ q us', In q p → J q (us ++ us') = fnd P env cl fuel hs q c p k us') → evJ P env cl fuel hs J us p c S k = ev P env cl fuel hs p c S k := by
  intro c
  induction c with
  | skip => intros; rfl
  | label _ => intros; rfl
  | ret => intros; rfl
  | exit _ => intros; rfl
  | rangeFunc => intros; rfl
  | scope => intros; rfl
  | goto => intros; rfl
  | refuse => intros; rfl
  | region id ops draw => intros; rfl
  | seq x y ihx ihy =>
    intro p us S k hp H
    have hx : ∀ q us', In q (2 * p) → J q (us ++ us') = fnd P env cl fuel hs q x (2 * p) (seqK P (hs p) (fun S' => ev P env cl fuel hs (2 * p + 1) y S' k) k) us' := fun q us' hq => by
      rw [H q us' hq.l, fnd, if_neg (by have := In.pos (by omega) hq; omega), if_pos (lft_l hp hq)]
    have hy : ∀ q us', In q (2 * p + 1) → J q (us ++ us') = fnd P env cl fuel hs q y (2 * p + 1) k us' := fun q us' hq => by
      rw [H q us' hq.r, fnd, if_neg (by have := In.pos (by omega) hq; omega), if_neg (by rw [lft_r hp hq]; decide)]
    have hJ : J p us = fun S => ev P env cl fuel hs (2 * p + 1) y S k := by
      have := H p [] (In.self p)
      rw [List.append_nil] at this
      rw [this, fnd, if_pos rfl]
    rw [evJ, ev]
    split
    · rename_i h hh
      rw [hJ, ← hh]
      exact ihx (by omega) hx
    · rename_i hh
      have : (fun S' => evJ P env cl fuel hs J us (2 * p + 1) y S' k) = (fun S' => ev P env cl fuel hs (2 * p + 1) y S' k) := funext fun S' => ihy (by omega) hy
      rw [this, ← hh]
      exact ihx (by omega) hx
  | block id c ih =>
    intro p us S k hp H
    rw [evJ, ev]
    exact ih (by omega) (fun q us' hq => by rw [H q us' hq.l, fnd, if_neg (by have := In.pos (by omega) hq; omega), if_pos (lft_l hp hq)])
  | cond c x y ihx ihy =>
    intro p us S k hp H
    have hx : ∀ q us', In q (2 * p) → J q (us ++ us') = fnd P env cl fuel hs q x (2 * p) k us' := fun q us' hq => by
      rw [H q us' hq.l, fnd, if_neg (by have := In.pos (by omega) hq; omega), if_pos (lft_l hp hq)]
    have hy : ∀ q us', In q (2 * p + 1) → J q (us ++ us') = fnd P env cl fuel hs q y (2 * p + 1) k us' := fun q us' hq => by
      rw [H q us' hq.r, fnd, if_neg (by have := In.pos (by omega) hq; omega), if_neg (by rw [lft_r hp hq]; decide)]
    have e1 : ∀ S, evJ P env cl fuel hs J us (2 * p) x S k = ev P env cl fuel hs (2 * p) x S k := fun S => ihx (by omega) hx
    have e2 : ∀ S, evJ P env cl fuel hs J us (2 * p + 1) y S k = ev P env cl fuel hs (2 * p + 1) y S k := fun S => ihy (by omega) hy
    unfold evJ ev
    simp only [e1, e2]
    all_goals rfl
  | loop c ih =>
    intro p us S k hp H
    have hJ : J p us = fun S => loopF (fun self S => ev P env cl fuel hs (2 * p) c S (seqK P (hs p) self k)) fuel S := by
      have := H p [] (In.self p)
      rw [List.append_nil] at this
      rw [this, fnd, if_pos rfl]
    rw [evJ, ev]
    split
    · rename_i h hh
      rw [hJ, hh]
    · rename_i hh
      have : (fun self S => evJ P env cl fuel hs J (us ++ [self]) (2 * p) c S (seqK P none self k)) = (fun self S => ev P env cl fuel hs (2 * p) c S (seqK P (hs p) self k)) := by
        funext self S
        rw [hh]
        refine ih (by omega) (fun q us' hq => ?_)
        rw [List.append_assoc, H q _ hq.l, List.singleton_append, fnd, if_neg (by have := In.pos (by omega) hq; omega), if_pos (lft_l hp hq), hh]
      rw [this, hh]
theorem pce_eq {q : Nat} : ∀ {c : Code} {p : Nat} {u0 : Us R} {k : Kt R} {us : Us R}, 0 < p → In q p → (∀ q us', In q p → J q (u0 ++ us') = fnd P env cl fuel hs q c p k us') → pce P env cl fuel hs J q c p k u0 us = fnd P env cl fuel hs q c p k us := by
  intro c
  induction c with
  | skip => intros; rfl
  | label _ => intros; rfl
  | ret => intros; rfl
  | exit _ => intros; rfl
  | rangeFunc => intros; rfl
  | scope => intros; rfl
  | goto => intros; rfl
  | refuse => intros; rfl
  | region id ops draw => intros; rfl
  | seq x y ihx ihy =>
    intro p us k us2 hp hq H
    have hx : ∀ q us', In q (2 * p) → J q (us ++ us') = fnd P env cl fuel hs q x (2 * p) (seqK P (hs p) (fun S' => ev P env cl fuel hs (2 * p + 1) y S' k) k) us' := fun q us' hq => by
      rw [H q us' hq.l, fnd, if_neg (by have := In.pos (by omega) hq; omega), if_pos (lft_l hp hq)]
    have hy : ∀ q us', In q (2 * p + 1) → J q (us ++ us') = fnd P env cl fuel hs q y (2 * p + 1) k us' := fun q us' hq => by
      rw [H q us' hq.r, fnd, if_neg (by have := In.pos (by omega) hq; omega), if_neg (by rw [lft_r hp hq]; decide)]
    have hJ : J p us = fun S => ev P env cl fuel hs (2 * p + 1) y S k := by
      have := H p [] (In.self p)
      rw [List.append_nil] at this
      rw [this, fnd, if_pos rfl]
    have he : (fun S' => evJ P env cl fuel hs J us (2 * p + 1) y S' k) = (fun S' => ev P env cl fuel hs (2 * p + 1) y S' k) := funext fun S' => evJ_eq (by omega) hy
    rw [pce, fnd]
    rcases hq.cases with h | h | h
    · rw [if_pos h, if_pos h]; exact he
    · have hne : q ≠ p := by have := In.pos (by omega) h; omega
      rw [if_neg hne, if_neg hne, if_pos (lft_l hp h), if_pos (lft_l hp h)]
      have hk : (match hs p with
        | some h => seqK P (some h) (J p us) k
        | none => seqK P none (fun S' => evJ P env cl fuel hs J us (2 * p + 1) y S' k) k) = seqK P (hs p) (fun S' => ev P env cl fuel hs (2 * p + 1) y S' k) k := by
        split
        · rename_i hn hh; rw [hJ, hh]
        · rename_i hh; rw [he, hh]
      rw [hk]
      exact ihx (by omega) h hx
    · have hne : q ≠ p := by have := In.pos (by omega) h; omega
      rw [if_neg hne, if_neg hne, if_neg (by rw [lft_r hp h]; decide), if_neg (by rw [lft_r hp h]; decide)]
      exact ihy (by omega) h hy
  | block id c ih =>
    intro p us k us2 hp hq H
    rw [pce, fnd]
    rcases hq.cases with h | h | h
    · rw [if_pos h, if_pos h]
    · have hne : q ≠ p := by have := In.pos (by omega) h; omega
      rw [if_neg hne, if_neg hne, if_pos (lft_l hp h), if_pos (lft_l hp h)]
      exact ih (by omega) h (fun q us' hq => by rw [H q us' hq.l, fnd, if_neg (by have := In.pos (by omega) hq; omega), if_pos (lft_l hp hq)])
    · have hne : q ≠ p := by have := In.pos (by omega) h; omega
      rw [if_neg hne, if_neg hne, if_neg (by rw [lft_r hp h]; decide), if_neg (by rw [lft_r hp h]; decide)]
  | cond c x y ihx ihy =>
    intro p us k us2 hp hq H
    have hx : ∀ q us', In q (2 * p) → J q (us ++ us') = fnd P env cl fuel hs q x (2 * p) k us' := fun q us' hq => by
      rw [H q us' hq.l, fnd, if_neg (by have := In.pos (by omega) hq; omega), if_pos (lft_l hp hq)]
    have hy : ∀ q us', In q (2 * p + 1) → J q (us ++ us') = fnd P env cl fuel hs q y (2 * p + 1) k us' := fun q us' hq => by
      rw [H q us' hq.r, fnd, if_neg (by have := In.pos (by omega) hq; omega), if_neg (by rw [lft_r hp hq]; decide)]
    rw [pce, fnd]
    rcases hq.cases with h | h | h
    · rw [if_pos h, if_pos h]
    · have hne : q ≠ p := by have := In.pos (by omega) h; omega
      rw [if_neg hne, if_neg hne, if_pos (lft_l hp h), if_pos (lft_l hp h)]
      exact ihx (by omega) h hx
    · have hne : q ≠ p := by have := In.pos (by omega) h; omega
      rw [if_neg hne, if_neg hne, if_neg (by rw [lft_r hp h]; decide), if_neg (by rw [lft_r hp h]; decide)]
      exact ihy (by omega) h hy
  | loop c ih =>
    intro p us k us2 hp hq H
    have hb : ∀ (u : St → Option R) q us', In q (2 * p) → J q ((us ++ [u]) ++ us') = fnd P env cl fuel hs q c (2 * p) (seqK P (hs p) u k) us' := fun u q us' hq => by
      rw [List.append_assoc, H q _ hq.l, List.singleton_append, fnd, if_neg (by have := In.pos (by omega) hq; omega), if_pos (lft_l hp hq)]
    have he : ∀ u S, evJ P env cl fuel hs J (us ++ [u]) (2 * p) c S (seqK P (hs p) u k) = ev P env cl fuel hs (2 * p) c S (seqK P (hs p) u k) := fun u S => evJ_eq (by omega) (hb u)
    cases us2 with
    | nil =>
      rw [pce, fnd]
      split
      · simp only [he]
      · rfl
    | cons u us2 =>
      rw [pce, fnd]
      rcases hq.cases with h | h | h
      · rw [if_pos h, if_pos h]
        simp only [he]
      · have hne : q ≠ p := by have := In.pos (by omega) h; omega
        rw [if_neg hne, if_neg hne, if_pos (lft_l hp h), if_pos (lft_l hp h)]
        exact ih (by omega) h (hb u)
      · have hne : q ≠ p := by have := In.pos (by omega) h; omega
        rw [if_neg hne, if_neg hne, if_neg (by rw [lft_r hp h]; decide), if_neg (by rw [lft_r hp h]; decide)]
/-- loops, on states that are made of data -/
theorem loopF_sim {σ : Type} {mk : σ → St} {F : (St → Option R) → St → Option R} {G : (σ → Option R) → σ → Option R} (h : ∀ g s, F g (mk s) = G (fun t => g (mk t)) s) : ∀ n s, loopF F n (mk s) = loopF G n s
  | 0, s => rfl
  | n + 1, s => by
    have ih := loopF_sim h n
    show F (loopF F n) (mk s) = G (loopF G n) s
    rw [h]
    congr 1
    funext t
    exact ih t
theorem In.one : ∀ {q : Nat}, 0 < q → In q 1 := fun {q} h => ⟨q.log2, q - 2 ^ q.log2, by
    have := (Nat.le_log2 (n := q) (k := q.log2) (by omega)).1 (Nat.le_refl _)
    omega, by
    have h1 : q < 2 ^ (q.log2 + 1) := (Nat.log2_lt (by omega)).1 (Nat.lt_succ_self _)
    rw [Nat.pow_succ] at h1
    omega⟩
/-- what follows cuts, and loops, of a function -/
def jfn (P : Program) (env : Env) (d fuel : Nat) (hs : Nat → Option Hint) (f : FuncId) (sh : Sh) : Orc (As sh.rs) := fun q us =>
  match P.funcs[f]? with
  | some fn => match fn.body with
    | some c => fnd P env (evC P env fuel (eqAs sh.rs) d) fuel hs q c 1 (topK P fn sh) us
    | none => fun _ => none
  | none => fun _ => none
def pfn (P : Program) (env : Env) (d fuel : Nat) (hs : Nat → Option Hint) (f : FuncId) (sh : Sh) (J : Orc (As sh.rs)) : Orc (As sh.rs) := fun q us =>
  match P.funcs[f]? with
  | some fn => match fn.body with
    | some c => pce P env (evC P env fuel (eqAs sh.rs) d) fuel hs J q c 1 (topK P fn sh) [] us
    | none => fun _ => none
  | none => fun _ => none
def rfn (P : Program) (env : Env) (d fuel : Nat) (hs : Nat → Option Hint) (f : FuncId) (sh : Sh) (J : Orc (As sh.rs)) (x : As sh.ps) : Option (As sh.rs) :=
  match P.funcs[f]? with
  | some fn => match fn.body with
    | some c => match fA sh.as (en 0 sh.es) (dvAs sh.ps x) with
      | some (ss, own) => if ss.length ≤ fn.ntmps ∧ fn.results.size ≤ 3 then evJ P env (evC P env fuel (eqAs sh.rs) d) fuel hs J [] 1 c { fr := parF 0 ss, nt := fn.ntmps, up := [], own := own, nx := sh.es.length, log := [], ln := sh.es.length } (topK P fn sh) else none
      | none => none
    | none => none
  | none => none
theorem pfn_eq {d : Nat} {f : FuncId} {sh : Sh} {q : Nat} {us : Us (As sh.rs)} (hq : 0 < q) : jfn P env d fuel hs f sh q us = pfn P env d fuel hs f sh (jfn P env d fuel hs f sh) q us := by
  show _ = (match P.funcs[f]? with
    | some fn => match fn.body with
      | some c => pce P env (evC P env fuel (eqAs sh.rs) d) fuel hs (jfn P env d fuel hs f sh) q c 1 (topK P fn sh) [] us
      | none => fun _ => none
    | none => fun _ => none)
  split
  · rename_i fn hf
    split
    · rename_i c hb
      have e : ∀ q us, jfn P env d fuel hs f sh q us = fnd P env (evC P env fuel (eqAs sh.rs) d) fuel hs q c 1 (topK P fn sh) us := fun q us => by
        unfold jfn
        split
        · rename_i fn' hf'
          rw [hf] at hf'
          cases hf'
          split
          · rename_i c' hb'
            rw [hb] at hb'
            cases hb'
            rfl
          · rename_i hb'
            rw [hb] at hb'
            cases hb'
        · rename_i hf'
          rw [hf] at hf'
          cases hf'
      rw [pce_eq (by decide) (In.one hq) (fun q us _ => e q us), e]
    · rename_i hb
      unfold jfn
      rw [hf]
      simp only [hb]
  · rename_i hf
    unfold jfn
    rw [hf]
theorem rfn_eq {d : Nat} {f : FuncId} {sh : Sh} {x : As sh.ps} : evT P env d fuel hs f sh x = rfn P env d fuel hs f sh (jfn P env d fuel hs f sh) x := by
  cases hf : P.funcs[f]? with
  | none => unfold evT rfn; rw [hf]
  | some fn =>
    cases hb : fn.body with
    | none => unfold evT rfn; rw [hf]; simp only [hb]
    | some c =>
      have e : ∀ q us, jfn P env d fuel hs f sh q us = fnd P env (evC P env fuel (eqAs sh.rs) d) fuel hs q c 1 (topK P fn sh) us := fun q us => by
        unfold jfn; rw [hf]; simp only [hb]
      unfold evT rfn
      rw [hf]
      simp only [hb]
      have e2 : ∀ S, evJ P env (evC P env fuel (eqAs sh.rs) d) fuel hs (jfn P env d fuel hs f sh) [] 1 c S (topK P fn sh) = ev P env (evC P env fuel (eqAs sh.rs) d) fuel hs 1 c S (topK P fn sh) := fun S => evJ_eq (by decide) (fun q us _ => by rw [List.nil_append]; exact e q us)
      first
      | (simp only [e2]; done)
      | (simp only [e2]; rfl)
/-- whether there is a loop at q, within n others -/
def lpAt (q : Nat) : Code → Nat → Nat → Bool
  | .seq x y, p, n => if q = p then false else if lft q p = true then lpAt q x (2 * p) n else lpAt q y (2 * p + 1) n
  | .block _ c, p, n => if q = p then false else if lft q p = true then lpAt q c (2 * p) n else false
  | .cond _ x y, p, n => if q = p then false else if lft q p = true then lpAt q x (2 * p) n else lpAt q y (2 * p + 1) n
  | .loop c, p, n => match n with
    | 0 => decide (q = p)
    | n + 1 => if q = p then false else if lft q p = true then lpAt q c (2 * p) n else false
  | _, _, _ => false
def lpf (P : Program) (f : FuncId) (q n : Nat) : Bool := match P.funcs[f]? with
  | some fn => match fn.body with
    | some c => lpAt q c 1 n
    | none => false
  | none => false
theorem pce_loop {q : Nat} : ∀ {c : Code} {p : Nat} {u0 us : Us R} {k : Kt R} {S : St}, lpAt q c p us.length = true →
    pce P env cl fuel hs J q c p k u0 us S = loopF (fun self S => pce P env cl fuel hs J q c p k u0 (us ++ [self]) S) fuel S := by
  intro c
  induction c with
  | skip | label _ | ret | exit _ | rangeFunc | scope | goto | refuse | region _ _ _ => intro p u0 us k S h; cases h
  | seq x y ihx ihy =>
    intro p u0 us k S h
    unfold lpAt at h
    split at h
    · cases h
    · rename_i hne
      split at h
      · rename_i hl
        simp only [pce, if_neg hne, if_pos hl]
        exact ihx h
      · rename_i hl
        simp only [pce, if_neg hne, if_neg hl]
        exact ihy h
  | block id c ih =>
    intro p u0 us k S h
    unfold lpAt at h
    split at h
    · cases h
    · rename_i hne
      split at h
      · rename_i hl
        simp only [pce, if_neg hne, if_pos hl]
        exact ih h
      · cases h
  | cond c x y ihx ihy =>
    intro p u0 us k S h
    unfold lpAt at h
    split at h
    · cases h
    · rename_i hne
      split at h
      · rename_i hl
        simp only [pce, if_neg hne, if_pos hl]
        exact ihx h
      · rename_i hl
        simp only [pce, if_neg hne, if_neg hl]
        exact ihy h
  | loop c ih =>
    intro p u0 us k S h
    cases us with
    | nil =>
      have h : decide (q = p) = true := h
      have h := of_decide_eq_true h
      simp only [pce, List.nil_append, if_pos h]
    | cons u us =>
      have h : (if q = p then false else if lft q p = true then lpAt q c (2 * p) us.length else false) = true := h
      split at h
      · cases h
      · rename_i hne
        split at h
        · rename_i hl
          simp only [pce, List.cons_append, if_neg hne, if_pos hl]
          exact ih h
        · cases h
theorem pfn_loop {d : Nat} {f : FuncId} {sh : Sh} {J : Orc (As sh.rs)} {q : Nat} {us : Us (As sh.rs)} (h : lpf P f q us.length = true) (S : St) :
    pfn P env d fuel hs f sh J q us S = loopF (fun self S => pfn P env d fuel hs f sh J q (us ++ [self]) S) fuel S := by
  cases hf : P.funcs[f]? with
  | none => unfold lpf at h; rw [hf] at h; cases h
  | some fn =>
    cases hb : fn.body with
    | none => unfold lpf at h; rw [hf] at h; simp only [hb] at h; cases h
    | some c =>
      unfold lpf at h
      rw [hf] at h
      simp only [hb] at h
      unfold pfn
      rw [hf]
      simp only [hb]
      exact pce_loop h
end
end Ev

end

section
/- Arguments of any data type, as a row lays them: what they stand for. -/
namespace Rw
open Go Ev Sx Go.RowKit

def dgo (g : TypeId → Option Ty) (P : Program) : Nat → List Field → Option (List Ty)
  | _, [] => some []
  | off, f :: r => (g f.type).bind fun a => if f.offset = off ∧ P.cellsOf f.type = a.size then (dgo g P (off + a.size) r).map fun q => a :: q else none
def sumS : List Ty → Nat
  | [] => 0
  | a :: r => a.size + sumS r
/-- a data type, laid as it is read -/
def dty (P : Program) : Nat → TypeId → Option Ty
  | 0, _ => none
  | n + 1, t => match P.underlying t with
    | some (.int k) => some (.int k)
    | some .bool => some .bool
    | some .string => some .str
    | some (.slice e) => (dty P n e).bind fun y => if P.cellsOf e = y.size ∧ y.size ≠ 0 then some (.sl y) else none
    | some (.struct fs) => (dgo (dty P n) P 0 fs.toList).bind fun l => if P.cellsOf t = sumS l then some (strTy l) else none
    | _ => none
def okV : (t : Ty) → Vl t → Prop
  | .int k, x => (Lit.int k x).wf = true
  | .bool, _ => True
  | .str, x => x.length ≤ maxLen
  | .sl t, xs => xs.length ≤ maxLen ∧ ∀ x ∈ xs, okV t x
  | .pr a b, x => okV a x.1 ∧ okV b x.2
  | .wr a, x => okV a x
  | .un, _ => True
  | .ar n t, xs => xs.length = n ∧ ∀ x ∈ xs, okV t x
section
variable {H : Type} {enc : TypeId × Value → H} {P : Program} {w : World} {base : Nat} {sp : Nat → Bool} {held : Bool}
theorem rp_len {t : Ty} {L : Lx} {cs : List Value} {x : Vl t} (h : (rp t).rel L w cs x) : cs.length = t.size := by rw [(rp t).len h, rp_size]
/-- what one field reads as -/
def FieldOk (w : World) (cs : List Value) (off : Nat) (a : Ty) : Prop := ∃ v : Vl a, (rp a).rel [] w ((cs.drop off).take a.size) v ∧ okV a v
/-- the fields, from an offset on -/
def FieldsOk (w : World) (cs : List Value) : Nat → List Ty → Prop
  | _, [] => True
  | off, a :: r => FieldOk w cs off a ∧ FieldsOk w cs (off + a.size) r
theorem prs_ok {cs : List Value} : ∀ (r : List Ty) (a : Ty) (off : Nat), FieldsOk w cs off (a :: r) → off + a.size + sumS r = cs.length → ∃ v : Vl (strTy.prs a r), (rp (strTy.prs a r)).rel [] w (cs.drop off) v ∧ okV (strTy.prs a r) v
  | [], a, off, ⟨⟨v, h1, h2⟩, _⟩, hl => by
    have : (cs.drop off).take a.size = cs.drop off := List.take_of_length_le (by simp [sumS] at hl ⊢; omega)
    rw [this] at h1
    exact ⟨v, h1, h2⟩
  | b :: r, a, off, ⟨⟨v, h1, h2⟩, h3⟩, hl => by
    obtain ⟨u, h4, h5⟩ := prs_ok r b (off + a.size) h3 (by simp [sumS] at hl ⊢; omega)
    refine ⟨(v, u), ⟨(cs.drop off).take a.size, cs.drop (off + a.size), ?_, h1, h4⟩, h2, h5⟩
    rw [← List.drop_drop]
    exact (List.take_append_drop _ _).symm
theorem str_ok {cs : List Value} : ∀ (l : List Ty), FieldsOk w cs 0 l → sumS l = cs.length → ∃ v : Vl (strTy l), (rp (strTy l)).rel [] w cs v ∧ okV (strTy l) v
  | [], _, hl => ⟨(), (by show cs = []; exact List.eq_nil_of_length_eq_zero hl.symm), trivial⟩
  | [a], ⟨⟨v, h1, h2⟩, _⟩, hl => by
    have : (cs.drop 0).take a.size = cs := by rw [List.drop_zero]; exact List.take_of_length_le (by simp [sumS] at hl; omega)
    rw [this] at h1
    exact ⟨v, h1, h2⟩
  | a :: b :: r, h, hl => prs_ok (b :: r) a 0 h (by simp [sumS] at hl ⊢; omega)
theorem dgo_ok {g : TypeId → Option Ty} {cs : List Value} (ih : ∀ t y n c x, g t = some y → DataW.trod enc P w base sp held n t c = some x → ∃ v : Vl y, (rp y).rel [] w c v ∧ okV y v) (n : Nat) :
    ∀ (fs : List Field) (off : Nat) (l : List Ty), dgo g P off fs = some l → (∀ f ∈ fs, ∃ x, DataW.trod enc P w base sp held n f.type ((cs.drop f.offset).take (P.cellsOf f.type)) = some x) → FieldsOk w cs off l
  | [], off, l, h, _ => by cases h; trivial
  | f :: r, off, l, h, hx => by
    obtain ⟨a, h1, h⟩ := Option.bind_eq_some_iff.1 h
    split at h
    · rename_i hc
      obtain ⟨q, h2, rfl⟩ := Option.map_eq_some_iff.1 h
      obtain ⟨x, h3⟩ := hx f (List.mem_cons_self ..)
      obtain ⟨v, h4, h5⟩ := ih _ _ _ _ _ h1 h3
      rw [hc.1, hc.2] at h4
      exact ⟨⟨v, h4, h5⟩, dgo_ok ih n r _ _ h2 fun f hf => hx f (List.mem_cons_of_mem _ hf)⟩
    · cases h
theorem cells_at {a : Addr} {n : Nat} {cs : List Value} (h : w.cells? base a n = some cs) : cs.length = n ∧ ∀ j v, cs[j]? = some v → w.cell? (a.add j) = some v := by
  unfold World.cells? at h
  split at h
  · have hl : cs.length = n := by simpa using mapM_some_length h
    refine ⟨hl, fun j v hj => ?_⟩
    have hjl : j < n := by rw [← hl]; exact (List.getElem?_eq_some_iff.1 hj).1
    have := mapM_some_get h j j (by simp [hjl])
    rw [this, hj]
  · cases h
theorem cell_plain {a : Addr} {v : Value} (h : w.cell? a = some v) : a.spot = none ∧ a.block < w.heap.size := by
  unfold World.cell? at h
  split at h
  · rename_i hb
    split at h
    · cases h
    · rename_i hs
      exact ⟨by simpa using hs, (Array.getElem?_eq_some_iff.1 hb).1⟩
  · cases h
theorem add_plain (b o n : Nat) : (⟨b, o, none⟩ : Addr).add n = ⟨b, o + n, none⟩ := by
  unfold Addr.add
  split
  · rename_i h; subst h; rfl
  · rfl
theorem add_zero (a : Addr) : a.add 0 = a := by unfold Addr.add; rw [if_pos rfl]
theorem trod_ok : ∀ (m : Nat) (t : TypeId) (y : Ty) (n : Nat) (cs : List Value) (x : DataW H × List MemPlace), dty P m t = some y → DataW.trod enc P w base sp held n t cs = some x → ∃ v : Vl y, (rp y).rel [] w cs v ∧ okV y v
  | 0, _, _, _, _, _, h, _ => by cases h
  | m + 1, t, y, n, cs, x, h, hx => by
    unfold dty at h
    split at h
    · rename_i k ht
      cases h
      obtain ⟨z, rfl, _, hw⟩ := DataW.trod_int ht hx
      exact ⟨z, rfl, hw⟩
    · rename_i ht
      cases h
      obtain ⟨b, rfl, _⟩ := DataW.trod_bool ht hx
      exact ⟨b, rfl, trivial⟩
    · rename_i ht
      cases h
      obtain ⟨⟨⟨s⟩⟩, rfl, _, hs⟩ := DataW.trod_string ht hx
      exact ⟨s, rfl, hs⟩
    · rename_i e ht
      obtain ⟨y', h1, h⟩ := Option.bind_eq_some_iff.1 h
      split at h
      · rename_i hc
        cases h
        rcases DataW.trod_slice ht hx with ⟨rfl, _⟩ | ⟨a, len, cap, elems, rest, n', _, rfl, _, _, hlc, hcm, hel, hat, _⟩
        · exact ⟨[], slice_nil _ _ _ _ _, by simp, fun x hx => by cases hx⟩
        · have each : ∀ i : Fin len, ∃ v : Vl y', (∃ c, (rp y').rel [] w c v ∧ c.length = y'.size ∧ ∀ j u, c[j]? = some u → w.cell? ((a.add (i.1 * P.cellsOf e)).add j) = some u) ∧ okV y' v := fun i => by
            have hi := hat i.1 i.2
            have : ∃ z, elems[i.1]? = some z := ⟨_, List.getElem?_eq_getElem (by rw [hel]; exact i.2)⟩
            obtain ⟨z, hz⟩ := this
            rw [hz] at hi
            obtain ⟨c, hc1, hc2⟩ := Option.bind_eq_some_iff.1 hi
            obtain ⟨v, hv1, hv2⟩ := trod_ok m e y' n' c z h1 hc2
            exact ⟨v, ⟨c, hv1, rp_len hv1, (cells_at hc1).2⟩, hv2⟩
          refine ⟨List.ofFn fun i => Classical.choose (each i), ⟨some a, cap, by simp, by simp; omega, fun hne => ?_⟩, by simp; omega, fun v hv => ?_⟩
          · have hlen : 0 < len := by
              rcases Nat.eq_zero_or_pos len with h0 | h0
              · subst h0; simp at hne
              · exact h0
            obtain ⟨⟨c, _, hcl, hcc⟩, _⟩ := Classical.choose_spec (each ⟨0, hlen⟩)
            have hpos : 0 < c.length := by have := hc.2; omega
            have h0 := cell_plain (hcc 0 c[0] (List.getElem?_eq_getElem hpos))
            rw [show (⟨0, hlen⟩ : Fin len).1 * P.cellsOf e = 0 from Nat.zero_mul _, add_zero, add_zero] at h0
            obtain ⟨b, o, s⟩ := a
            obtain ⟨hs, hb⟩ := h0
            have hs : s = none := hs
            subst hs
            refine ⟨b, o, rfl, fun i x hi => ?_⟩
            have hil : i < len := by have := (List.getElem?_eq_some_iff.1 hi).1; simpa using this
            have hxe : x = Classical.choose (each ⟨i, hil⟩) := by
              rw [List.getElem?_ofFn, dif_pos hil] at hi
              exact (Option.some.inj hi).symm
            obtain ⟨⟨c, hc1, _, hc3⟩, _⟩ := Classical.choose_spec (each ⟨i, hil⟩)
            subst hxe
            refine ⟨hb, by simp, c, hc1, fun j v hj => ?_⟩
            have := hc3 j v hj
            rw [rp_size, ← hc.1]
            rw [add_plain, add_plain] at this
            exact this
          · obtain ⟨i, rfl⟩ := List.mem_ofFn.1 hv
            exact (Classical.choose_spec (each i)).2
      · cases h
    · rename_i fs ht
      obtain ⟨l, h1, h⟩ := Option.bind_eq_some_iff.1 h
      split at h
      · rename_i hc
        cases h
        obtain ⟨xs, n', _, _, hl, hxl, hf⟩ := DataW.trod_struct ht hx
        refine str_ok l ?_ (by rw [hl, hc])
        refine dgo_ok (fun t y n c x h1 h2 => trod_ok m t y n c x h1 h2) n' fs.toList 0 l h1 fun f hfm => ?_
        obtain ⟨i, hi, rfl⟩ := List.getElem_of_mem hfm
        have hi' : i < fs.size := by simpa using hi
        have := hf i fs[i] (Array.getElem?_eq_getElem hi')
        rw [List.getElem?_eq_getElem (by omega)] at this
        exact ⟨_, this⟩
      · cases h
    · cases h
theorem val_of {t : TypeId} {y : Ty} {m : Nat} {v : Value} {d : DataW H} {ps : List MemPlace} {r : Reach} {b' : Nat} {w' : World} (hd : dty P (m + 1) t = some y) (ho : Value.okWide P w' r b' t v) (h : DataW.Trod enc P w base sp held t v d ps) : ∃ x : Vl y, Den [] [] w (.d y x) v ∧ okV y x := by
  obtain ⟨n, hn⟩ := h
  obtain ⟨x, h1, h2⟩ := trod_ok (m + 1) t y n _ _ hd hn
  refine ⟨x, ⟨v.cells.toList, h1, ?_⟩, h2⟩
  have one : ∀ u : Value, v = u → u.cells = #[u] → y.agg = false → v = (rp y).val v.cells.toList := fun u e hc ha => by
    subst e
    simp [Rp.val, rp_agg, ha, hc]
  unfold dty at hd
  split at hd
  · rename_i k ht
    cases hd
    obtain ⟨z, rfl⟩ := Go.WideShapes.okWide_int ht ho
    exact one _ rfl rfl rfl
  · rename_i ht
    cases hd
    obtain ⟨b, hb, _⟩ := DataW.trod_bool ht hn
    have : ∃ b, v = .bool b := by
      simp only [Value.okWide, ht, Cell.okWide] at ho
      cases v <;> simp_all [Cell.ok]
    obtain ⟨b, rfl⟩ := this
    exact one _ rfl rfl rfl
  · rename_i ht
    cases hd
    obtain ⟨s, rfl⟩ := Go.WideShapes.okWide_string ht ho
    exact one _ rfl rfl rfl
  · rename_i e ht
    obtain ⟨y', h3, hd⟩ := Option.bind_eq_some_iff.1 hd
    split at hd
    · cases hd
      obtain ⟨a, len, cap, rfl⟩ := Go.WideShapes.okWide_slice ht ho
      exact one _ rfl rfl rfl
    · cases hd
  · rename_i fs ht
    obtain ⟨l, h3, hd⟩ := Option.bind_eq_some_iff.1 hd
    split at hd
    · cases hd
      simp only [Value.okWide, ht] at ho
      obtain ⟨cs, rfl, _, _⟩ := ho
      have ha : (strTy l).agg = true := by
        match l with
        | [] => rfl
        | [a] => rfl
        | a :: b :: q => rfl
      simp [Rp.val, rp_agg, ha, Value.cells]
    · cases hd
  · cases hd
end
end Rw

end

section
/- A law by its contract, its arguments of any data types. -/
namespace Rw
open Go Ev Sx Go.RowKit
theorem below_of {W W' : World} (h : Blw (Bo [] [] W) W W') : Below W.heap.size W W' :=
  ⟨h.os, h.tape, h.output, h.size, fun k hk => h.block k hk (by
    rintro (h | h)
    · cases h
    · omega)⟩
theorem lok0 (W : World) : LOk (Bo [] [] W) (lx [] []) [] W := ⟨.nil, fun k h => (by cases h), fun k h => (by cases h), fun k h => .inr h, fun k h => (by cases h)⟩
/-- a law's call, when its arguments are data -/
theorem law_calls {P : Program} {f : FuncId} {ts : List TS} {ps : List Ty} {m : As ps → Option (Bool × Unit)} (h : CtOk P (fun _ => True) f ⟨⟨ts, [], ps, [.d .bool], [], 0, [.bool]⟩, m⟩) {x : As ps} (hm : m x = some (true, ())) {ss : List SV} (hA : fA ts [] (dvAs ps x) = some (ss, [])) {vs : List Value} {W : World} (hd : DenL [] [] W ss vs) :
    Calls P f vs.toArray W (fun e W' => ∃ v, e = .returned v ∧ v = .bool true ∧ Below W.heap.size W W') := by
  refine (h [] W [] x (true, ()) ss [] vs hm hA rfl (fun _ _ => trivial) (lok0 W) (fun e he => by cases he) hd).mono fun e w' he => ?_
  obtain ⟨us, rfl, pl', rr, own', h1, _, _, h4, _, _, h7⟩ := he
  have h1 : some ([SV.d .bool true], ([] : List (Nat × Ent))) = some (rr, own') := h1
  cases h1
  obtain ⟨v, q, rfl, h8, h9⟩ := h7
  cases h9
  exact ⟨_, rfl, den_bool h8, below_of h4⟩
def okA : (ps : List Ty) → As ps → Prop
  | [], _ => True
  | a :: r, x => okV a x.1 ∧ okA r x.2
def dS : (ps : List Ty) → As ps → List SV
  | [], _ => []
  | a :: r, x => .d a x.1 :: dS r x.2
theorem fL_d : ∀ (ps : List Ty) (x : As ps), fL (ps.map TS.d) (dvAs ps x) = some (dS ps x, [])
  | [], _ => rfl
  | a :: r, x => by
    show (fS (.d a) (⟨a, x.1⟩ :: dvAs r x.2)).bind _ = _
    unfold fS
    simp only [castTy_self, Option.map_some, Option.bind_some]
    rw [fL_d r x.2]
    rfl
theorem fA_d (ps : List Ty) (x : As ps) : fA (ps.map TS.d) [] (dvAs ps x) = some (dS ps x, []) := by
  unfold fA
  rw [fL_d, Option.bind_some]
  rfl
def dtys (P : Program) : List TypeId → Option (List Ty)
  | [] => some []
  | t :: r => (dty P 13 t).bind fun y => (dtys P r).map fun q => y :: q
theorem law_den {P : Program} {H : Type} {enc : TypeId × Value → H} {W : World} {b0 : Nat} {sp : Nat → Bool} {held : Bool} : ∀ {ts : List TypeId} {ps : List Ty} {vs : List Value} {ds : List (DataW H)} {p : List MemPlace}, dtys P ts = some ps →
    (∀ (j : Nat) t v, ts[j]? = some t → vs[j]? = some v → ∃ r b w', Value.okWide P w' r b t v) → DataW.TrodAll enc P W b0 sp held ts vs ds p → ∃ x : As ps, okA ps x ∧ DenL [] [] W (dS ps x) vs
  | [], ps, vs, ds, p, h, _, hA => by
    cases h
    cases vs with
    | nil => exact ⟨(), trivial, rfl⟩
    | cons v vs => cases ds <;> exact absurd hA (by simp [DataW.TrodAll])
  | t :: ts, ps, vs, ds, p, h, ho, hA => by
    obtain ⟨y, h1, h⟩ := Option.bind_eq_some_iff.1 h
    obtain ⟨q, h2, rfl⟩ := Option.map_eq_some_iff.1 h
    match vs, ds, hA with
    | v :: vs, d :: ds, hA =>
      obtain ⟨p1, p2, h3, h4, _⟩ := hA
      obtain ⟨r, b, w', h5⟩ := ho 0 t v rfl rfl
      obtain ⟨x, hx1, hx2⟩ := val_of h1 h5 h3
      obtain ⟨xs, hy1, hy2⟩ := law_den h2 (fun j t v ht hv => ho (j + 1) t v ht hv) h4
      exact ⟨(x, xs), ⟨hx2, hy1⟩, v, vs, rfl, hx1, hy2⟩
    | [], _, hA => exact absurd hA (by simp [DataW.TrodAll])
    | _ :: _, [], hA => exact absurd hA (by simp [DataW.TrodAll])
/-- a law's call, out of what its row says of the arguments -/
theorem law_row {P : Program} {f : FuncId} {ps : List Ty} {m : As ps → Option (Bool × Unit)} (h : CtOk P (fun _ => True) f ⟨⟨ps.map TS.d, [], ps, [.d .bool], [], 0, [.bool]⟩, m⟩) (law : ∀ x, okA ps x → m x = some (true, ()))
    {ts : Array TypeId} (ht : dtys P ts.toList = some ps) {H : Type} {enc : TypeId × Value → H} {W : World} {b0 : Nat} {sp : Nat → Bool} {held : Bool} {args : Array Value} {ds : List (DataW H)} {p : List MemPlace}
    (hval : ∀ (j : Nat) t v, ts[j]? = some t → args[j]? = some v → ∃ r b w', Value.okWide P w' r b t v) (hA : DataW.TrodAll enc P W b0 sp held ts.toList args.toList ds p) :
    Calls P f args W (fun e W' => ∃ v, e = .returned v ∧ v = .bool true ∧ Below W.heap.size W W') := by
  obtain ⟨x, h1, h2⟩ := law_den ht (fun j t v h3 h4 => hval j t v (by simpa using h3) (by simpa using h4)) hA
  have := law_calls h (law x h1) (fA_d ps x) h2
  simpa using this
end Rw

end

section
/- Contracts, made by a program. -/
open Go Go.Proofs Ev Sx
set_option maxRecDepth 100000
namespace Go.Proofs.Lx
abbrev LAT8 : Ty := (.pr (.int .i64) (.pr .bool (.pr .bool .bool)))
abbrev LAT0 : Ty := (.sl (.pr (.int .i64) LAT8))
abbrev LAT1 : Ty := (.pr (.int .u8) (.pr (.sl .bool) (.pr (.sl (.int .u16)) (.pr (.int .u16) (.int .u16)))))
abbrev LAT2 : Type := (Int × Int × Bool × Bool × Bool)
abbrev LAT3 : Ty := (.pr (.int .u16) (.pr (.int .u16) (.pr (.int .u16) (.pr (.sl (.int .u16)) (.sl .bool)))))
abbrev LAT4 : Ty := (.pr (.sl .bool) (.pr (.sl (.int .u16)) (.sl (.int .u16))))
abbrev LAT10 : Ty := (.pr (.int .u8) (.pr (.sl (.int .u8)) (.int .u8)))
abbrev LAT5 : Ty := (.pr (.int .u32) LAT10)
abbrev LAT6 : Ty := (.pr (.int .u32) (.pr (.int .u16) (.int .u16)))
abbrev LAT7 : Type := (Int × Int × List Int × Int)
abbrev LAT9 : Ty := (.pr (.int .i64) (.pr (.int .i64) (.pr .bool .bool)))
abbrev VaA1q0 : Type := Int × Int × Int × Int × List Int × List Bool
abbrev VaA1q1 : Type := Int × Int × Int × Bool × Bool
abbrev VaA1q2 : Type := Int × Int × List Bool × List Int × Int × Int
/-! view_last_Gapi_Job -/
@[reducible] def view_last_Gapi_Job_s : Sh := ⟨[.d (.sl LAT5), .d (.int .i64)], [], [.sl LAT5, .int .i64], [.d (.sl LAT5)], [], 0, [.sl LAT5]⟩
def view_last_Gapi_Job_e : Env := (cts [])
def view_last_Gapi_Job_h : List (Nat × Hint) := []
def view_last_Gapi_Job_m0 (l : List LAT7) (n : Int) : Option (As [.sl LAT5]) :=
  Option.bind (cut l (if gt 0 (Sx.sub .i64 (Int.ofNat (List.length l)) n) = true then 0 else Sx.sub .i64 (Int.ofNat (List.length l)) n) (Int.ofNat (List.length l))) fun (y : List LAT7) => some (y, ())
def view_last_Gapi_Job (x : As [.sl LAT5, .int .i64]) : Option (As [.sl LAT5]) := view_last_Gapi_Job_m0 x.1 x.2.1
theorem view_last_Gapi_Job_c0 (J : Orc (As [.sl LAT5])) (x : As [.sl LAT5, .int .i64]) : rfn Try.prog view_last_Gapi_Job_e 6 18446744073709551616 (Ev.get view_last_Gapi_Job_h) 25 view_last_Gapi_Job_s J x = view_last_Gapi_Job_m0 x.1 x.2.1 := by kernel_rfl
theorem view_last_Gapi_Job_t (x : As [.sl LAT5, .int .i64]) : evT Try.prog view_last_Gapi_Job_e 6 18446744073709551616 (Ev.get view_last_Gapi_Job_h) 25 view_last_Gapi_Job_s x = view_last_Gapi_Job x := by
  rw [rfn_eq, view_last_Gapi_Job_c0]
  rfl
theorem view_last_Gapi_Job_ok : CtOk Try.prog (fun _ => True) 25 ⟨view_last_Gapi_Job_s, view_last_Gapi_Job⟩ := ct_of_ev env_nil view_last_Gapi_Job_t
/-! words_Parts -/
@[reducible] def words_Parts_s : Sh := ⟨[.d (.int .u32)], [], [.int .u32], [.d (.int .u16), .d (.int .u16)], [], 0, [.int .u16, .int .u16]⟩
def words_Parts_e : Env := (cts [])
def words_Parts_h : List (Nat × Hint) := []
def words_Parts_m0 (x : Int) : Option (As [.int .u16, .int .u16]) :=
  some (cvt .u16 (Sx.shr .u32 x 16), cvt .u16 x, ())
def words_Parts (x : As [.int .u32]) : Option (As [.int .u16, .int .u16]) := words_Parts_m0 x.1
theorem words_Parts_c0 (J : Orc (As [.int .u16, .int .u16])) (x : As [.int .u32]) : rfn Try.prog words_Parts_e 6 18446744073709551616 (Ev.get words_Parts_h) 26 words_Parts_s J x = words_Parts_m0 x.1 := by kernel_rfl
theorem words_Parts_t (x : As [.int .u32]) : evT Try.prog words_Parts_e 6 18446744073709551616 (Ev.get words_Parts_h) 26 words_Parts_s x = words_Parts x := by
  rw [rfn_eq, words_Parts_c0]
  rfl
theorem words_Parts_ok : CtOk Try.prog (fun _ => True) 26 ⟨words_Parts_s, words_Parts⟩ := ct_of_ev env_nil words_Parts_t
/-! slices_Index_Guint32 -/
@[reducible] def slices_Index_Guint32_s : Sh := ⟨[.d (.sl (.int .u32)), .d (.int .u32)], [], [.sl (.int .u32), .int .u32], [.d (.int .i64)], [], 0, [.int .i64]⟩
def slices_Index_Guint32_e : Env := (cts [])
def slices_Index_Guint32_h : List (Nat × Hint) := [(26, ⟨[], [0, 1, 7, 8]⟩)]
def slices_Index_Guint32_k1 (s : List Int) (v : Int) (t7 : Int) (t8 : Int) : St := { fr := [(0, .d (.sl (.int .u32)) s), (1, .d (.int .u32) v), (7, .d (.int .i64) t7), (8, .d (.int .i64) t8)], nt := 19, up := [], own := [], nx := 0, log := [], ln := 0 }
def slices_Index_Guint32_m1 (self1 : List Int → Int → Int → Int → Option (As [.int .i64])) (s : List Int) (v : Int) (t7 : Int) (t8 : Int) : Option (As [.int .i64]) :=
  if lt t8 t7 = true then Option.bind (at? s t8) fun (y : Int) => if eqi v y = true then some (t8, ()) else self1 s v t7 (add .i64 t8 1) else some (-1, ())
def slices_Index_Guint32_m0 (j1 : List Int → Int → Int → Int → Option (As [.int .i64])) (s : List Int) (v : Int) : Option (As [.int .i64]) :=
  j1 s v (Int.ofNat (List.length s)) 0
def slices_Index_Guint32_K1 (s : List Int) (v : Int) (t7 : Int) (t8 : Int) : Option (As [.int .i64]) :=
  loopF (fun (self : (List Int) × (Int) × (Int) × (Int) → Option (As [.int .i64])) (s : (List Int) × (Int) × (Int) × (Int)) => slices_Index_Guint32_m1 (fun s v t7 t8 => self (s, v, t7, t8)) s.1 s.2.1 s.2.2.1 s.2.2.2) 18446744073709551616 (s, v, t7, t8)
def slices_Index_Guint32 (x : As [.sl (.int .u32), .int .u32]) : Option (As [.int .i64]) := slices_Index_Guint32_m0 slices_Index_Guint32_K1 x.1 x.2.1
theorem slices_Index_Guint32_c1 (J : Orc (As [.int .i64])) (w1 : St → Option (As [.int .i64])) (s : List Int) (v : Int) (t7 : Int) (t8 : Int) : pfn Try.prog slices_Index_Guint32_e 6 18446744073709551616 (Ev.get slices_Index_Guint32_h) 41 slices_Index_Guint32_s J 26 [w1] (slices_Index_Guint32_k1 s v t7 t8) = slices_Index_Guint32_m1 (fun s v t7 t8 => w1 (slices_Index_Guint32_k1 s v t7 t8)) s v t7 t8 := by kernel_rfl
theorem slices_Index_Guint32_c0 (J : Orc (As [.int .i64])) (x : As [.sl (.int .u32), .int .u32]) : rfn Try.prog slices_Index_Guint32_e 6 18446744073709551616 (Ev.get slices_Index_Guint32_h) 41 slices_Index_Guint32_s J x = slices_Index_Guint32_m0 (fun s v t7 t8 => J 26 [] (slices_Index_Guint32_k1 s v t7 t8)) x.1 x.2.1 := by kernel_rfl
theorem slices_Index_Guint32_g1 (s : List Int) (v : Int) (t7 : Int) (t8 : Int) : jfn Try.prog slices_Index_Guint32_e 6 18446744073709551616 (Ev.get slices_Index_Guint32_h) 41 slices_Index_Guint32_s 26 [] (slices_Index_Guint32_k1 s v t7 t8) = slices_Index_Guint32_K1 s v t7 t8 := by
  rw [pfn_eq (by decide)]
  rw [pfn_loop (by kernel_rfl)]
  refine loopF_sim (σ := (List Int) × (Int) × (Int) × (Int)) (mk := fun s => slices_Index_Guint32_k1 s.1 s.2.1 s.2.2.1 s.2.2.2) (fun w1 s => ?_) 18446744073709551616 (s, v, t7, t8)
  refine (slices_Index_Guint32_c1 _ w1 s.1 s.2.1 s.2.2.1 s.2.2.2).trans ?_
  rfl
theorem slices_Index_Guint32_t (x : As [.sl (.int .u32), .int .u32]) : evT Try.prog slices_Index_Guint32_e 6 18446744073709551616 (Ev.get slices_Index_Guint32_h) 41 slices_Index_Guint32_s x = slices_Index_Guint32 x := by
  have e1 : (fun s v t7 t8 => (jfn Try.prog slices_Index_Guint32_e 6 18446744073709551616 (Ev.get slices_Index_Guint32_h) 41 slices_Index_Guint32_s) 26 [] (slices_Index_Guint32_k1 s v t7 t8)) = slices_Index_Guint32_K1 := funext fun s => funext fun v => funext fun t7 => funext fun t8 => slices_Index_Guint32_g1 s v t7 t8
  rw [rfn_eq, slices_Index_Guint32_c0, e1]
  rfl
theorem slices_Index_Guint32_ok : CtOk Try.prog (fun _ => True) 41 ⟨slices_Index_Guint32_s, slices_Index_Guint32⟩ := ct_of_ev env_nil slices_Index_Guint32_t
/-! slices_Contains_Guint32 -/
@[reducible] def slices_Contains_Guint32_s : Sh := ⟨[.d (.sl (.int .u32)), .d (.int .u32)], [], [.sl (.int .u32), .int .u32], [.d (.bool)], [], 0, [.bool]⟩
def slices_Contains_Guint32_e : Env := (cts [(41, (⟨slices_Index_Guint32_s, slices_Index_Guint32⟩ : Ct))])
def slices_Contains_Guint32_h : List (Nat × Hint) := []
def slices_Contains_Guint32_m0 (s : List Int) (v : Int) : Option (As [.bool]) :=
  Option.bind (slices_Index_Guint32 (s, v, ())) fun (y : Int × Unit) => some (ge y.1 0, ())
def slices_Contains_Guint32 (x : As [.sl (.int .u32), .int .u32]) : Option (As [.bool]) := slices_Contains_Guint32_m0 x.1 x.2.1
theorem slices_Contains_Guint32_c0 (J : Orc (As [.bool])) (x : As [.sl (.int .u32), .int .u32]) : rfn Try.prog slices_Contains_Guint32_e 6 18446744073709551616 (Ev.get slices_Contains_Guint32_h) 27 slices_Contains_Guint32_s J x = slices_Contains_Guint32_m0 x.1 x.2.1 := by kernel_rfl
theorem slices_Contains_Guint32_t (x : As [.sl (.int .u32), .int .u32]) : evT Try.prog slices_Contains_Guint32_e 6 18446744073709551616 (Ev.get slices_Contains_Guint32_h) 27 slices_Contains_Guint32_s x = slices_Contains_Guint32 x := by
  rw [rfn_eq, slices_Contains_Guint32_c0]
  rfl
theorem slices_Contains_Guint32_ok : CtOk Try.prog (fun _ => True) 27 ⟨slices_Contains_Guint32_s, slices_Contains_Guint32⟩ := ct_of_ev (env_cons slices_Index_Guint32_ok env_nil) slices_Contains_Guint32_t
/-! view_Mem -/
@[reducible] def view_Mem_s : Sh := ⟨[.d (.sl LAT5), .d (.sl (.int .u32))], [], [.sl LAT5, .sl (.int .u32)], [.d (.pr (.sl .bool) LAT4)], [], 0, [.pr (.sl .bool) LAT4]⟩
def view_Mem_e : Env := (cts [(25, (⟨view_last_Gapi_Job_s, view_last_Gapi_Job⟩ : Ct)), (26, (⟨words_Parts_s, words_Parts⟩ : Ct)), (27, (⟨slices_Contains_Guint32_s, slices_Contains_Guint32⟩ : Ct))])
def view_Mem_h : List (Nat × Hint) := [(63, ⟨[], [4, 5]⟩), (506, ⟨[], [1, 4, 5, 25, 26, 27, 53, 54, 55, 56]⟩), (259279, ⟨[], [1, 4, 5, 8, 9, 10, 25, 26, 27, 53, 54, 55, 56]⟩), (518558, ⟨[], [1, 4, 5, 8, 9, 10, 25, 26, 27, 57]⟩)]
def view_Mem_k1 (waits : List Int) (t25 : List LAT7) (t26 : Int) (t27 : Int) (h : List Int) : St := { fr := [(1, .d (.sl (.int .u32)) waits), (4, .pb 0 0), (5, .row 1), (25, .d (.sl LAT5) t25), (26, .d (.int .i64) t26), (27, .d (.int .i64) t27)], nt := 74, up := [], own := [(0, .box 39 [.k (Go.Value.slice Option.none 0 0), .k (Go.Value.slice Option.none 0 0), .k (Go.Value.slice Option.none 0 0), .k (Go.Value.slice Option.none 0 0)]), (1, .row (.int .u16) 41 h)], nx := 2, log := [], ln := 0 }
def view_Mem_k2 (waits : List Int) (at' : Int) (stand : Int) (t25 : List LAT7) (t26 : Int) (t27 : Int) (t57 : Bool) (h : List Int) (j : Int × Int × List Int × Int) : St := { fr := [(1, .d (.sl (.int .u32)) waits), (4, .pb 0 0), (5, .row 1), (8, .pb 2 0), (9, .d (.int .i64) at'), (10, .d (.int .u8) stand), (25, .d (.sl LAT5) t25), (26, .d (.int .i64) t26), (27, .d (.int .i64) t27), (57, .d .bool t57)], nt := 74, up := [], own := [(0, .box 39 [.k (Go.Value.slice Option.none 0 0), .k (Go.Value.slice Option.none 0 0), .k (Go.Value.slice Option.none 0 0), .k (Go.Value.slice Option.none 0 0)]), (1, .row (.int .u16) 41 h), (2, .box 48 [.d (.int .u32) j.1, .d (.int .u8) j.2.1, .d (.sl (.int .u8)) j.2.2.1, .d (.int .u8) j.2.2.2])], nx := 3, log := [], ln := 0 }
def view_Mem_k3 (h : List Int) : St := { fr := [(4, .pb 0 0), (5, .row 1)], nt := 74, up := [], own := [(0, .box 39 [.k (Go.Value.slice Option.none 0 0), .k (Go.Value.slice Option.none 0 0), .k (Go.Value.slice Option.none 0 0), .k (Go.Value.slice Option.none 0 0)]), (1, .row (.int .u16) 41 h)], nx := 2, log := [], ln := 0 }
def view_Mem_k4 (waits : List Int) (at' : Int) (stand : Int) (t25 : List LAT7) (t26 : Int) (t27 : Int) (h : List Int) (j : Int × Int × List Int × Int) : St := { fr := [(1, .d (.sl (.int .u32)) waits), (4, .pb 0 0), (5, .row 1), (8, .pb 2 0), (9, .d (.int .i64) at'), (10, .d (.int .u8) stand), (25, .d (.sl LAT5) t25), (26, .d (.int .i64) t26), (27, .d (.int .i64) t27)], nt := 74, up := [], own := [(0, .box 39 [.k (Go.Value.slice Option.none 0 0), .k (Go.Value.slice Option.none 0 0), .k (Go.Value.slice Option.none 0 0), .k (Go.Value.slice Option.none 0 0)]), (1, .row (.int .u16) 41 h), (2, .box 48 [.d (.int .u32) j.1, .d (.int .u8) j.2.1, .d (.sl (.int .u8)) j.2.2.1, .d (.int .u8) j.2.2.2])], nx := 3, log := [], ln := 0 }
def view_Mem_m1 (j2 : List Int → Int → Int → List LAT7 → Int → Int → Bool → List Int → Int × Int × List Int × Int → Option (As [.pr (.sl .bool) LAT4])) (j3 : List Int → Option (As [.pr (.sl .bool) LAT4])) (self1 : List Int → List LAT7 → Int → Int → List Int → Option (As [.pr (.sl .bool) LAT4])) (waits : List Int) (t25 : List LAT7) (t26 : Int) (t27 : Int) (h : List Int) : Option (As [.pr (.sl .bool) LAT4]) :=
  if lt t27 t26 = true then Option.bind (at? t25 t27) fun (y : Int × Int × List Int × Int) => Option.bind (words_Parts (y.1, ())) fun (y_1 : Int × Int × Unit) => Option.bind (at? h (add .i64 2 (mul .i64 4 t27))) fun (x : Int) => Option.bind (at? h (add .i64 2 (mul .i64 4 t27))) fun (x : Int) => Option.bind (at? (List.set h (Int.toNat (add .i64 2 (mul .i64 4 t27))) y_1.1) (add .i64 (add .i64 2 (mul .i64 4 t27)) 1)) fun (x : Int) => Option.bind (at? (List.set h (Int.toNat (add .i64 2 (mul .i64 4 t27))) y_1.1) (add .i64 (add .i64 2 (mul .i64 4 t27)) 1)) fun (x : Int) => if eqi y.2.2.2 1 = true then Option.bind (slices_Contains_Guint32 (waits, y.1, ())) fun (y_2 : Bool × Unit) => j2 waits (add .i64 2 (mul .i64 4 t27)) y.2.2.2 t25 t26 t27 y_2.1 (List.set (List.set h (Int.toNat (add .i64 2 (mul .i64 4 t27))) y_1.1) (Int.toNat (add .i64 (add .i64 2 (mul .i64 4 t27)) 1)) y_1.2.1) y else j2 waits (add .i64 2 (mul .i64 4 t27)) y.2.2.2 t25 t26 t27 false (List.set (List.set h (Int.toNat (add .i64 2 (mul .i64 4 t27))) y_1.1) (Int.toNat (add .i64 (add .i64 2 (mul .i64 4 t27)) 1)) y_1.2.1) y else j3 h
def view_Mem_m2 (j4 : List Int → Int → Int → List LAT7 → Int → Int → List Int → Int × Int × List Int × Int → Option (As [.pr (.sl .bool) LAT4])) (self1 : List Int → List LAT7 → Int → Int → List Int → Option (As [.pr (.sl .bool) LAT4])) (waits : List Int) (at' : Int) (stand : Int) (t25 : List LAT7) (t26 : Int) (t27 : Int) (t57 : Bool) (h : List Int) (j : Int × Int × List Int × Int) : Option (As [.pr (.sl .bool) LAT4]) :=
  if t57 = true then j4 waits at' 6 t25 t26 t27 h j else j4 waits at' stand t25 t26 t27 h j
def view_Mem_m3 (h : List Int) : Option (As [.pr (.sl .bool) LAT4]) :=
  some (([], [], h, []), ())
def view_Mem_m4 (self1 : List Int → List LAT7 → Int → Int → List Int → Option (As [.pr (.sl .bool) LAT4])) (waits : List Int) (at' : Int) (stand : Int) (t25 : List LAT7) (t26 : Int) (t27 : Int) (h : List Int) (j : Int × Int × List Int × Int) : Option (As [.pr (.sl .bool) LAT4]) :=
  Option.bind (at? h (add .i64 at' 2)) fun (x : Int) => Option.bind (at? h (add .i64 at' 2)) fun (x : Int) => Option.bind (at? (List.set h (Int.toNat (add .i64 at' 2)) (cvt .u16 stand)) (add .i64 at' 3)) fun (x : Int) => Option.bind (at? (List.set h (Int.toNat (add .i64 at' 2)) (cvt .u16 stand)) (add .i64 at' 3)) fun (x : Int) => self1 waits t25 t26 (add .i64 t27 1) (List.set (List.set h (Int.toNat (add .i64 at' 2)) (cvt .u16 stand)) (Int.toNat (add .i64 at' 3)) (cvt .u16 j.2.1))
def view_Mem_m0 (j1 : List Int → List LAT7 → Int → Int → List Int → Option (As [.pr (.sl .bool) LAT4])) (l : List LAT7) (waits : List Int) : Option (As [.pr (.sl .bool) LAT4]) :=
  Option.bind (view_last_Gapi_Job (l, 12, ())) fun (y : List LAT7 × Unit) => j1 waits y.1 (Int.ofNat (List.length y.1)) 0 [cvt .u16 (if lt 65535 (Int.ofNat (List.length l)) = true then 65535 else Int.ofNat (List.length l)), cvt .u16 (Int.ofNat (List.length y.1)), 0, 0, 0, 0, 0, 0, 0, 0, 0, 0, 0, 0, 0, 0, 0, 0, 0, 0, 0, 0, 0, 0, 0, 0, 0, 0, 0, 0, 0, 0, 0, 0, 0, 0, 0, 0, 0, 0, 0, 0, 0, 0, 0, 0, 0, 0, 0, 0]
def view_Mem_K4 (u1 : List Int → List LAT7 → Int → Int → List Int → Option (As [.pr (.sl .bool) LAT4])) (waits : List Int) (at' : Int) (stand : Int) (t25 : List LAT7) (t26 : Int) (t27 : Int) (h : List Int) (j : Int × Int × List Int × Int) : Option (As [.pr (.sl .bool) LAT4]) := view_Mem_m4 u1 waits at' stand t25 t26 t27 h j
def view_Mem_K2 (u1 : List Int → List LAT7 → Int → Int → List Int → Option (As [.pr (.sl .bool) LAT4])) (waits : List Int) (at' : Int) (stand : Int) (t25 : List LAT7) (t26 : Int) (t27 : Int) (t57 : Bool) (h : List Int) (j : Int × Int × List Int × Int) : Option (As [.pr (.sl .bool) LAT4]) := view_Mem_m2 (view_Mem_K4 u1) u1 waits at' stand t25 t26 t27 t57 h j
def view_Mem_K3 (h : List Int) : Option (As [.pr (.sl .bool) LAT4]) := view_Mem_m3 h
def view_Mem_K1 (waits : List Int) (t25 : List LAT7) (t26 : Int) (t27 : Int) (h : List Int) : Option (As [.pr (.sl .bool) LAT4]) :=
  loopF (fun (self : (List Int) × (List LAT7) × (Int) × (Int) × (List Int) → Option (As [.pr (.sl .bool) LAT4])) (s : (List Int) × (List LAT7) × (Int) × (Int) × (List Int)) => view_Mem_m1 (view_Mem_K2 (fun waits t25 t26 t27 h => self (waits, t25, t26, t27, h))) (view_Mem_K3) (fun waits t25 t26 t27 h => self (waits, t25, t26, t27, h)) s.1 s.2.1 s.2.2.1 s.2.2.2.1 s.2.2.2.2) 18446744073709551616 (waits, t25, t26, t27, h)
def view_Mem (x : As [.sl LAT5, .sl (.int .u32)]) : Option (As [.pr (.sl .bool) LAT4]) := view_Mem_m0 view_Mem_K1 x.1 x.2.1
theorem view_Mem_c4 (J : Orc (As [.pr (.sl .bool) LAT4])) (w1 : St → Option (As [.pr (.sl .bool) LAT4])) (waits : List Int) (at' : Int) (stand : Int) (t25 : List LAT7) (t26 : Int) (t27 : Int) (h : List Int) (j : Int × Int × List Int × Int) : pfn Try.prog view_Mem_e 6 18446744073709551616 (Ev.get view_Mem_h) 9 view_Mem_s J 259279 [w1] (view_Mem_k4 waits at' stand t25 t26 t27 h j) = view_Mem_m4 (fun waits t25 t26 t27 h => w1 (view_Mem_k1 waits t25 t26 t27 h)) waits at' stand t25 t26 t27 h j := by kernel_rfl
theorem view_Mem_c2 (J : Orc (As [.pr (.sl .bool) LAT4])) (w1 : St → Option (As [.pr (.sl .bool) LAT4])) (waits : List Int) (at' : Int) (stand : Int) (t25 : List LAT7) (t26 : Int) (t27 : Int) (t57 : Bool) (h : List Int) (j : Int × Int × List Int × Int) : pfn Try.prog view_Mem_e 6 18446744073709551616 (Ev.get view_Mem_h) 9 view_Mem_s J 518558 [w1] (view_Mem_k2 waits at' stand t25 t26 t27 t57 h j) = view_Mem_m2 (fun waits at' stand t25 t26 t27 h j => J 259279 [w1] (view_Mem_k4 waits at' stand t25 t26 t27 h j)) (fun waits t25 t26 t27 h => w1 (view_Mem_k1 waits t25 t26 t27 h)) waits at' stand t25 t26 t27 t57 h j := by kernel_rfl
theorem view_Mem_c3 (J : Orc (As [.pr (.sl .bool) LAT4])) (h : List Int) : pfn Try.prog view_Mem_e 6 18446744073709551616 (Ev.get view_Mem_h) 9 view_Mem_s J 63 [] (view_Mem_k3 h) = view_Mem_m3 h := by kernel_rfl
theorem view_Mem_c1 (J : Orc (As [.pr (.sl .bool) LAT4])) (w1 : St → Option (As [.pr (.sl .bool) LAT4])) (waits : List Int) (t25 : List LAT7) (t26 : Int) (t27 : Int) (h : List Int) : pfn Try.prog view_Mem_e 6 18446744073709551616 (Ev.get view_Mem_h) 9 view_Mem_s J 506 [w1] (view_Mem_k1 waits t25 t26 t27 h) = view_Mem_m1 (fun waits at' stand t25 t26 t27 t57 h j => J 518558 [w1] (view_Mem_k2 waits at' stand t25 t26 t27 t57 h j)) (fun h => J 63 [] (view_Mem_k3 h)) (fun waits t25 t26 t27 h => w1 (view_Mem_k1 waits t25 t26 t27 h)) waits t25 t26 t27 h := by kernel_rfl
theorem view_Mem_c0 (J : Orc (As [.pr (.sl .bool) LAT4])) (x : As [.sl LAT5, .sl (.int .u32)]) : rfn Try.prog view_Mem_e 6 18446744073709551616 (Ev.get view_Mem_h) 9 view_Mem_s J x = view_Mem_m0 (fun waits t25 t26 t27 h => J 506 [] (view_Mem_k1 waits t25 t26 t27 h)) x.1 x.2.1 := by kernel_rfl
theorem view_Mem_g4 (w1 : St → Option (As [.pr (.sl .bool) LAT4])) (waits : List Int) (at' : Int) (stand : Int) (t25 : List LAT7) (t26 : Int) (t27 : Int) (h : List Int) (j : Int × Int × List Int × Int) : jfn Try.prog view_Mem_e 6 18446744073709551616 (Ev.get view_Mem_h) 9 view_Mem_s 259279 [w1] (view_Mem_k4 waits at' stand t25 t26 t27 h j) = view_Mem_K4 (fun waits t25 t26 t27 h => w1 (view_Mem_k1 waits t25 t26 t27 h)) waits at' stand t25 t26 t27 h j := by
  rw [pfn_eq (by decide)]
  rw [view_Mem_c4]
  rfl
theorem view_Mem_g2 (w1 : St → Option (As [.pr (.sl .bool) LAT4])) (waits : List Int) (at' : Int) (stand : Int) (t25 : List LAT7) (t26 : Int) (t27 : Int) (t57 : Bool) (h : List Int) (j : Int × Int × List Int × Int) : jfn Try.prog view_Mem_e 6 18446744073709551616 (Ev.get view_Mem_h) 9 view_Mem_s 518558 [w1] (view_Mem_k2 waits at' stand t25 t26 t27 t57 h j) = view_Mem_K2 (fun waits t25 t26 t27 h => w1 (view_Mem_k1 waits t25 t26 t27 h)) waits at' stand t25 t26 t27 t57 h j := by
  rw [pfn_eq (by decide)]
  have e4 : (fun waits at' stand t25 t26 t27 h j => (jfn Try.prog view_Mem_e 6 18446744073709551616 (Ev.get view_Mem_h) 9 view_Mem_s) 259279 [w1] (view_Mem_k4 waits at' stand t25 t26 t27 h j)) = view_Mem_K4 (fun waits t25 t26 t27 h => w1 (view_Mem_k1 waits t25 t26 t27 h)) := funext fun waits => funext fun at' => funext fun stand => funext fun t25 => funext fun t26 => funext fun t27 => funext fun h => funext fun j => view_Mem_g4 w1 waits at' stand t25 t26 t27 h j
  rw [view_Mem_c2, e4]
  rfl
theorem view_Mem_g3 (h : List Int) : jfn Try.prog view_Mem_e 6 18446744073709551616 (Ev.get view_Mem_h) 9 view_Mem_s 63 [] (view_Mem_k3 h) = view_Mem_K3 h := by
  rw [pfn_eq (by decide)]
  rw [view_Mem_c3]
  rfl
theorem view_Mem_g1 (waits : List Int) (t25 : List LAT7) (t26 : Int) (t27 : Int) (h : List Int) : jfn Try.prog view_Mem_e 6 18446744073709551616 (Ev.get view_Mem_h) 9 view_Mem_s 506 [] (view_Mem_k1 waits t25 t26 t27 h) = view_Mem_K1 waits t25 t26 t27 h := by
  rw [pfn_eq (by decide)]
  rw [pfn_loop (by kernel_rfl)]
  refine loopF_sim (σ := (List Int) × (List LAT7) × (Int) × (Int) × (List Int)) (mk := fun s => view_Mem_k1 s.1 s.2.1 s.2.2.1 s.2.2.2.1 s.2.2.2.2) (fun w1 s => ?_) 18446744073709551616 (waits, t25, t26, t27, h)
  have e2 : (fun waits at' stand t25 t26 t27 t57 h j => (jfn Try.prog view_Mem_e 6 18446744073709551616 (Ev.get view_Mem_h) 9 view_Mem_s) 518558 [w1] (view_Mem_k2 waits at' stand t25 t26 t27 t57 h j)) = view_Mem_K2 (fun waits t25 t26 t27 h => w1 (view_Mem_k1 waits t25 t26 t27 h)) := funext fun waits => funext fun at' => funext fun stand => funext fun t25 => funext fun t26 => funext fun t27 => funext fun t57 => funext fun h => funext fun j => view_Mem_g2 w1 waits at' stand t25 t26 t27 t57 h j
  have e3 : (fun h => (jfn Try.prog view_Mem_e 6 18446744073709551616 (Ev.get view_Mem_h) 9 view_Mem_s) 63 [] (view_Mem_k3 h)) = view_Mem_K3 := funext fun h => view_Mem_g3 h
  refine (view_Mem_c1 _ w1 s.1 s.2.1 s.2.2.1 s.2.2.2.1 s.2.2.2.2).trans ?_
  rw [e2, e3]
theorem view_Mem_t (x : As [.sl LAT5, .sl (.int .u32)]) : evT Try.prog view_Mem_e 6 18446744073709551616 (Ev.get view_Mem_h) 9 view_Mem_s x = view_Mem x := by
  have e1 : (fun waits t25 t26 t27 h => (jfn Try.prog view_Mem_e 6 18446744073709551616 (Ev.get view_Mem_h) 9 view_Mem_s) 506 [] (view_Mem_k1 waits t25 t26 t27 h)) = view_Mem_K1 := funext fun waits => funext fun t25 => funext fun t26 => funext fun t27 => funext fun h => view_Mem_g1 waits t25 t26 t27 h
  rw [rfn_eq, view_Mem_c0, e1]
  rfl
theorem view_Mem_ok : CtOk Try.prog (fun _ => True) 9 ⟨view_Mem_s, view_Mem⟩ := ct_of_ev (env_cons view_last_Gapi_Job_ok (env_cons words_Parts_ok (env_cons slices_Contains_Guint32_ok env_nil))) view_Mem_t
/-! view_Space -/
@[reducible] def view_Space_s : Sh := ⟨[], [], [], [.d (.pr LAT0 (.pr LAT0 (.pr LAT0 LAT0)))], [], 0, [.pr LAT0 (.pr LAT0 (.pr LAT0 LAT0))]⟩
def view_Space_e : Env := (cts [])
def view_Space_h : List (Nat × Hint) := []
def view_Space_m0 : Option (As [.pr LAT0 (.pr LAT0 (.pr LAT0 LAT0))]) :=
  some (([], [], [(0, 50, true, false, false)], []), ())
def view_Space (x : As []) : Option (As [.pr LAT0 (.pr LAT0 (.pr LAT0 LAT0))]) := view_Space_m0
theorem view_Space_c0 (J : Orc (As [.pr LAT0 (.pr LAT0 (.pr LAT0 LAT0))])) (x : As []) : rfn Try.prog view_Space_e 6 18446744073709551616 (Ev.get view_Space_h) 17 view_Space_s J x = view_Space_m0 := by kernel_rfl
theorem view_Space_t (x : As []) : evT Try.prog view_Space_e 6 18446744073709551616 (Ev.get view_Space_h) 17 view_Space_s x = view_Space x := by
  rw [rfn_eq, view_Space_c0]
  rfl
theorem view_Space_ok : CtOk Try.prog (fun _ => True) 17 ⟨view_Space_s, view_Space⟩ := ct_of_ev env_nil view_Space_t
/-! ask_shape -/
@[reducible] def ask_shape_s : Sh := ⟨[.d (.int .u8)], [], [.int .u8], [.d (.pr (.int .i64) LAT9), .d (.bool)], [], 0, [.pr (.int .i64) LAT9, .bool]⟩
def ask_shape_e : Env := (cts [])
def ask_shape_h : List (Nat × Hint) := []
def ask_shape_m0 (f : Int) : Option (As [.pr (.int .i64) LAT9, .bool]) :=
  some (Ev.gdV (.pr (.int .i64) LAT9) (if eqi 1 f = true then some (2000, 0, 0, false, false) else if eqi 2 f = true then some (2000, 0, 0, false, false) else if eqi 3 f = true then some (125, 0, 0, false, false) else if eqi 4 f = true then some (125, 0, 0, false, false) else if eqi 5 f = true then some (0, 1, 0, false, false) else if eqi 6 f = true then some (0, 0, 1, false, false) else if eqi 15 f = true then some (1968, 1968, 0, false, true) else if eqi 16 f = true then some (123, 0, 123, false, true) else if eqi 23 f = true then some (125, 0, 121, true, false) else Option.none) (0, 0, 0, false, false), Ev.isV (.pr (.int .i64) LAT9) (if eqi 1 f = true then some (2000, 0, 0, false, false) else if eqi 2 f = true then some (2000, 0, 0, false, false) else if eqi 3 f = true then some (125, 0, 0, false, false) else if eqi 4 f = true then some (125, 0, 0, false, false) else if eqi 5 f = true then some (0, 1, 0, false, false) else if eqi 6 f = true then some (0, 0, 1, false, false) else if eqi 15 f = true then some (1968, 1968, 0, false, true) else if eqi 16 f = true then some (123, 0, 123, false, true) else if eqi 23 f = true then some (125, 0, 121, true, false) else Option.none), ())
def ask_shape (x : As [.int .u8]) : Option (As [.pr (.int .i64) LAT9, .bool]) := ask_shape_m0 x.1
theorem ask_shape_c0 (J : Orc (As [.pr (.int .i64) LAT9, .bool])) (x : As [.int .u8]) : rfn Try.prog ask_shape_e 6 18446744073709551616 (Ev.get ask_shape_h) 35 ask_shape_s J x = ask_shape_m0 x.1 := by kernel_rfl
theorem ask_shape_t (x : As [.int .u8]) : evT Try.prog ask_shape_e 6 18446744073709551616 (Ev.get ask_shape_h) 35 ask_shape_s x = ask_shape x := by
  rw [rfn_eq, ask_shape_c0]
  rfl
theorem ask_shape_ok : CtOk Try.prog (fun _ => True) 35 ⟨ask_shape_s, ask_shape⟩ := ct_of_ev env_nil ask_shape_t
/-! ask_within -/
@[reducible] def ask_within_s : Sh := ⟨[.d (.int .i64), .d (.int .i64)], [], [.int .i64, .int .i64], [.d (.bool)], [], 0, [.bool]⟩
def ask_within_e : Env := (cts [])
def ask_within_h : List (Nat × Hint) := []
def ask_within_m0 (n : Int) (most : Int) : Option (As [.bool]) :=
  if eqi most 0 = true then some (eqi n 0, ()) else if ge n 1 = true then some (le n most, ()) else some (false, ())
def ask_within (x : As [.int .i64, .int .i64]) : Option (As [.bool]) := ask_within_m0 x.1 x.2.1
theorem ask_within_c0 (J : Orc (As [.bool])) (x : As [.int .i64, .int .i64]) : rfn Try.prog ask_within_e 6 18446744073709551616 (Ev.get ask_within_h) 48 ask_within_s J x = ask_within_m0 x.1 x.2.1 := by kernel_rfl
theorem ask_within_t (x : As [.int .i64, .int .i64]) : evT Try.prog ask_within_e 6 18446744073709551616 (Ev.get ask_within_h) 48 ask_within_s x = ask_within x := by
  rw [rfn_eq, ask_within_c0]
  rfl
theorem ask_within_ok : CtOk Try.prog (fun _ => True) 48 ⟨ask_within_s, ask_within⟩ := ct_of_ev env_nil ask_within_t
/-! ask_Right -/
@[reducible] def ask_Right_s : Sh := ⟨[.d (.pr (.int .u8) LAT3)], [], [.pr (.int .u8) LAT3], [.d (.bool)], [], 0, [.bool]⟩
def ask_Right_e : Env := (cts [(35, (⟨ask_shape_s, ask_shape⟩ : Ct)), (48, (⟨ask_within_s, ask_within⟩ : Ct))])
def ask_Right_h : List (Nat × Hint) := [(30, ⟨[], [1, 3, 47, 52, 53, 54, 55, 56, 57, 58, 59, 60, 61, 62]⟩), (14, ⟨[], [1, 3, 22, 31, 32, 33, 34, 35, 36, 37, 40, 41, 42, 43, 44, 45, 46, 52, 53, 54, 55, 56, 57, 58, 59, 60, 61, 62]⟩)]
def ask_Right_k1 (t22 : Bool) (a : VaA1q0) (s : VaA1q1) : St := { fr := [(1, .pb 0 0), (3, .pb 1 0), (22, .d .bool t22)], nt := 64, up := [], own := [(0, .box 52 [.d (.int .u8) a.1, .d (.int .u16) a.2.1, .d (.int .u16) a.2.2.1, .d (.int .u16) a.2.2.2.1, .d (.sl (.int .u16)) a.2.2.2.2.1, .d (.sl .bool) a.2.2.2.2.2]), (1, .box 101 [.d (.int .i64) s.1, .d (.int .i64) s.2.1, .d (.int .i64) s.2.2.1, .d .bool s.2.2.2.1, .d .bool s.2.2.2.2])], nx := 2, log := [], ln := 0 }
def ask_Right_k2 (t47 : Bool) (a : VaA1q0) (s : VaA1q1) : St := { fr := [(1, .pb 0 0), (3, .pb 1 0), (47, .d .bool t47)], nt := 64, up := [], own := [(0, .box 52 [.d (.int .u8) a.1, .d (.int .u16) a.2.1, .d (.int .u16) a.2.2.1, .d (.int .u16) a.2.2.2.1, .d (.sl (.int .u16)) a.2.2.2.2.1, .d (.sl .bool) a.2.2.2.2.2]), (1, .box 101 [.d (.int .i64) s.1, .d (.int .i64) s.2.1, .d (.int .i64) s.2.2.1, .d .bool s.2.2.2.1, .d .bool s.2.2.2.2])], nx := 2, log := [], ln := 0 }
def ask_Right_m1 (j2 : Bool → VaA1q0 → VaA1q1 → Option (As [.bool])) (t22 : Bool) (a : VaA1q0) (s : VaA1q1) : Option (As [.bool]) :=
  if t22 = true then some (false, ()) else Option.bind (ask_within (cvt .i64 a.2.2.1, s.1, ())) fun (y : Bool × Unit) => if (!y.1) = true then j2 true a s else Option.bind (ask_within (Int.ofNat (List.length a.2.2.2.2.2), s.2.1, ())) fun (y : Bool × Unit) => if (!y.1) = true then j2 true a s else Option.bind (ask_within (Int.ofNat (List.length a.2.2.2.2.1), s.2.2.1, ())) fun (y : Bool × Unit) => j2 (!y.1) a s
def ask_Right_m2 (t47 : Bool) (a : VaA1q0) (s : VaA1q1) : Option (As [.bool]) :=
  if t47 = true then some (false, ()) else if (!s.2.2.2.2) = true then some (true, ()) else some (eqi (add .i64 (Int.ofNat (List.length a.2.2.2.2.2)) (Int.ofNat (List.length a.2.2.2.2.1))) (cvt .i64 a.2.2.1), ())
def ask_Right_m0 (j1 : Bool → VaA1q0 → VaA1q1 → Option (As [.bool])) (a : VaA1q0) : Option (As [.bool]) :=
  Option.bind (ask_shape (a.1, ())) fun (y : (VaA1q1) × Bool × Unit) => if (!y.2.1) = true then j1 true a y.1 else if (!y.1.2.2.2.1) = true then j1 (nei a.2.2.2.1 0) a y.1 else j1 false a y.1
def ask_Right_K2 (t47 : Bool) (a : VaA1q0) (s : VaA1q1) : Option (As [.bool]) := ask_Right_m2 t47 a s
def ask_Right_K1 (t22 : Bool) (a : VaA1q0) (s : VaA1q1) : Option (As [.bool]) := ask_Right_m1 (ask_Right_K2) t22 a s
def ask_Right (x : As [.pr (.int .u8) LAT3]) : Option (As [.bool]) := ask_Right_m0 ask_Right_K1 x.1
theorem ask_Right_c2 (J : Orc (As [.bool])) (t47 : Bool) (a : VaA1q0) (s : VaA1q1) : pfn Try.prog ask_Right_e 6 18446744073709551616 (Ev.get ask_Right_h) 36 ask_Right_s J 30 [] (ask_Right_k2 t47 a s) = ask_Right_m2 t47 a s := by kernel_rfl
theorem ask_Right_c1 (J : Orc (As [.bool])) (t22 : Bool) (a : VaA1q0) (s : VaA1q1) : pfn Try.prog ask_Right_e 6 18446744073709551616 (Ev.get ask_Right_h) 36 ask_Right_s J 14 [] (ask_Right_k1 t22 a s) = ask_Right_m1 (fun t47 a s => J 30 [] (ask_Right_k2 t47 a s)) t22 a s := by kernel_rfl
theorem ask_Right_c0 (J : Orc (As [.bool])) (x : As [.pr (.int .u8) LAT3]) : rfn Try.prog ask_Right_e 6 18446744073709551616 (Ev.get ask_Right_h) 36 ask_Right_s J x = ask_Right_m0 (fun t22 a s => J 14 [] (ask_Right_k1 t22 a s)) x.1 := by kernel_rfl
theorem ask_Right_g2 (t47 : Bool) (a : VaA1q0) (s : VaA1q1) : jfn Try.prog ask_Right_e 6 18446744073709551616 (Ev.get ask_Right_h) 36 ask_Right_s 30 [] (ask_Right_k2 t47 a s) = ask_Right_K2 t47 a s := by
  rw [pfn_eq (by decide)]
  rw [ask_Right_c2]
  rfl
theorem ask_Right_g1 (t22 : Bool) (a : VaA1q0) (s : VaA1q1) : jfn Try.prog ask_Right_e 6 18446744073709551616 (Ev.get ask_Right_h) 36 ask_Right_s 14 [] (ask_Right_k1 t22 a s) = ask_Right_K1 t22 a s := by
  rw [pfn_eq (by decide)]
  have e2 : (fun t47 a s => (jfn Try.prog ask_Right_e 6 18446744073709551616 (Ev.get ask_Right_h) 36 ask_Right_s) 30 [] (ask_Right_k2 t47 a s)) = ask_Right_K2 := funext fun t47 => funext fun a => funext fun s => ask_Right_g2 t47 a s
  rw [ask_Right_c1, e2]
  rfl
theorem ask_Right_t (x : As [.pr (.int .u8) LAT3]) : evT Try.prog ask_Right_e 6 18446744073709551616 (Ev.get ask_Right_h) 36 ask_Right_s x = ask_Right x := by
  have e1 : (fun t22 a s => (jfn Try.prog ask_Right_e 6 18446744073709551616 (Ev.get ask_Right_h) 36 ask_Right_s) 14 [] (ask_Right_k1 t22 a s)) = ask_Right_K1 := funext fun t22 => funext fun a => funext fun s => ask_Right_g1 t22 a s
  rw [rfn_eq, ask_Right_c0, e1]
  rfl
theorem ask_Right_ok : CtOk Try.prog (fun _ => True) 36 ⟨ask_Right_s, ask_Right⟩ := ct_of_ev (env_cons ask_shape_ok (env_cons ask_within_ok env_nil)) ask_Right_t
/-! ask_numbers -/
@[reducible] def ask_numbers_s : Sh := ⟨[.row 0, .d (.sl (.int .u16))], [.row (.int .u8) 5], [.sl (.int .u16), .sl (.int .u8)], [.row 1], [(1, .row (.int .u8) 5)], 1, [.sl (.int .u8)]⟩
def ask_numbers_e : Env := (cts [])
def ask_numbers_h : List (Nat × Hint) := [(26, ⟨[.unl 0], [0, 7, 8, 9]⟩)]
def ask_numbers_k1 (t7 : List Int) (t8 : Int) (t9 : Int) (out : List Int) : St := { fr := [(0, .row 1), (7, .d (.sl (.int .u16)) t7), (8, .d (.int .i64) t8), (9, .d (.int .i64) t9)], nt := 23, up := [], own := [(1, .row (.int .u8) 5 out)], nx := 2, log := [], ln := 1 }
def ask_numbers_m1 (self1 : List Int → Int → Int → List Int → Option (As [.sl (.int .u8)])) (t7 : List Int) (t8 : Int) (t9 : Int) (out : List Int) : Option (As [.sl (.int .u8)]) :=
  if lt t9 t8 = true then Option.bind (at? t7 t9) fun (y : Int) => need (small (List.length out + Nat.succ (Nat.succ 0))) (self1 t7 t8 (add .i64 t9 1) (out ++ [cvt .u8 (Sx.shr .u16 y 8), cvt .u8 y])) else some (out, ())
def ask_numbers_m0 (j1 : List Int → Int → Int → List Int → Option (As [.sl (.int .u8)])) (out : List Int) (l : List Int) : Option (As [.sl (.int .u8)]) :=
  j1 out (Int.ofNat (List.length out)) 0 l
def ask_numbers_K1 (t7 : List Int) (t8 : Int) (t9 : Int) (out : List Int) : Option (As [.sl (.int .u8)]) :=
  loopF (fun (self : (List Int) × (Int) × (Int) × (List Int) → Option (As [.sl (.int .u8)])) (s : (List Int) × (Int) × (Int) × (List Int)) => ask_numbers_m1 (fun t7 t8 t9 out => self (t7, t8, t9, out)) s.1 s.2.1 s.2.2.1 s.2.2.2) 18446744073709551616 (t7, t8, t9, out)
def ask_numbers (x : As [.sl (.int .u16), .sl (.int .u8)]) : Option (As [.sl (.int .u8)]) := ask_numbers_m0 ask_numbers_K1 x.1 x.2.1
theorem ask_numbers_c1 (J : Orc (As [.sl (.int .u8)])) (w1 : St → Option (As [.sl (.int .u8)])) (t7 : List Int) (t8 : Int) (t9 : Int) (out : List Int) : pfn Try.prog ask_numbers_e 6 18446744073709551616 (Ev.get ask_numbers_h) 37 ask_numbers_s J 26 [w1] (ask_numbers_k1 t7 t8 t9 out) = ask_numbers_m1 (fun t7 t8 t9 out => w1 (ask_numbers_k1 t7 t8 t9 out)) t7 t8 t9 out := by kernel_rfl
theorem ask_numbers_c0 (J : Orc (As [.sl (.int .u8)])) (x : As [.sl (.int .u16), .sl (.int .u8)]) : rfn Try.prog ask_numbers_e 6 18446744073709551616 (Ev.get ask_numbers_h) 37 ask_numbers_s J x = ask_numbers_m0 (fun t7 t8 t9 out => J 26 [] (ask_numbers_k1 t7 t8 t9 out)) x.1 x.2.1 := by kernel_rfl
theorem ask_numbers_g1 (t7 : List Int) (t8 : Int) (t9 : Int) (out : List Int) : jfn Try.prog ask_numbers_e 6 18446744073709551616 (Ev.get ask_numbers_h) 37 ask_numbers_s 26 [] (ask_numbers_k1 t7 t8 t9 out) = ask_numbers_K1 t7 t8 t9 out := by
  rw [pfn_eq (by decide)]
  rw [pfn_loop (by kernel_rfl)]
  refine loopF_sim (σ := (List Int) × (Int) × (Int) × (List Int)) (mk := fun s => ask_numbers_k1 s.1 s.2.1 s.2.2.1 s.2.2.2) (fun w1 s => ?_) 18446744073709551616 (t7, t8, t9, out)
  refine (ask_numbers_c1 _ w1 s.1 s.2.1 s.2.2.1 s.2.2.2).trans ?_
  rfl
theorem ask_numbers_t (x : As [.sl (.int .u16), .sl (.int .u8)]) : evT Try.prog ask_numbers_e 6 18446744073709551616 (Ev.get ask_numbers_h) 37 ask_numbers_s x = ask_numbers x := by
  have e1 : (fun t7 t8 t9 out => (jfn Try.prog ask_numbers_e 6 18446744073709551616 (Ev.get ask_numbers_h) 37 ask_numbers_s) 26 [] (ask_numbers_k1 t7 t8 t9 out)) = ask_numbers_K1 := funext fun t7 => funext fun t8 => funext fun t9 => funext fun out => ask_numbers_g1 t7 t8 t9 out
  rw [rfn_eq, ask_numbers_c0, e1]
  rfl
theorem ask_numbers_ok : CtOk Try.prog (fun _ => True) 37 ⟨ask_numbers_s, ask_numbers⟩ := ct_of_ev env_nil ask_numbers_t
/-! ask_Pack -/
@[reducible] def ask_Pack_s : Sh := ⟨[.d (.sl .bool)], [], [.sl .bool], [.d (.sl (.int .u8))], [], 0, [.sl (.int .u8)]⟩
def ask_Pack_e : Env := (cts [])
def ask_Pack_h : List (Nat × Hint) := [(7, ⟨[], [0, 3]⟩), (250, ⟨[], [4, 18, 19, 20]⟩)]
def ask_Pack_k1 (bits : List Bool) (n : Int) : St := { fr := [(0, .d (.sl .bool) bits), (3, .d (.int .i64) n)], nt := 38, up := [], own := [], nx := 0, log := [], ln := 0 }
def ask_Pack_k2 (t18 : List Bool) (t19 : Int) (t20 : Int) (out : List Int) : St := { fr := [(4, .row 0), (18, .d (.sl .bool) t18), (19, .d (.int .i64) t19), (20, .d (.int .i64) t20)], nt := 38, up := [], own := [(0, .row (.int .u8) 5 out)], nx := 1, log := [], ln := 0 }
def ask_Pack_m1 (j2 : List Bool → Int → Int → List Int → Option (As [.sl (.int .u8)])) (bits : List Bool) (n : Int) : Option (As [.sl (.int .u8)]) :=
  need (ge n 0) (need (Ev.capOk n n) (need (small (Int.toNat n)) (j2 bits (Int.ofNat (List.length bits)) 0 (List.replicate (Int.toNat n) 0))))
def ask_Pack_m2 (self2 : List Bool → Int → Int → List Int → Option (As [.sl (.int .u8)])) (t18 : List Bool) (t19 : Int) (t20 : Int) (out : List Int) : Option (As [.sl (.int .u8)]) :=
  if lt t20 t19 = true then Option.bind (at? t18 t20) fun (y : Bool) => if y = true then Option.bind (at? out (quo .i64 t20 8)) fun (x : Int) => Option.bind (at? out (quo .i64 t20 8)) fun (y : Int) => need (ge (rem t20 8) 0) (Option.bind (at? out (quo .i64 t20 8)) fun (x : Int) => Option.bind (at? out (quo .i64 t20 8)) fun (x : Int) => self2 t18 t19 (add .i64 t20 1) (List.set out (Int.toNat (quo .i64 t20 8)) (Sx.bor .u8 y (Sx.shl .u8 1 (rem t20 8))))) else self2 t18 t19 (add .i64 t20 1) out else some (out, ())
def ask_Pack_m0 (j1 : List Bool → Int → Option (As [.sl (.int .u8)])) (bits : List Bool) : Option (As [.sl (.int .u8)]) :=
  if gt (rem (Int.ofNat (List.length bits)) 8) 0 = true then j1 bits (add .i64 (quo .i64 (Int.ofNat (List.length bits)) 8) 1) else j1 bits (quo .i64 (Int.ofNat (List.length bits)) 8)
def ask_Pack_K2 (t18 : List Bool) (t19 : Int) (t20 : Int) (out : List Int) : Option (As [.sl (.int .u8)]) :=
  loopF (fun (self : (List Bool) × (Int) × (Int) × (List Int) → Option (As [.sl (.int .u8)])) (s : (List Bool) × (Int) × (Int) × (List Int)) => ask_Pack_m2 (fun t18 t19 t20 out => self (t18, t19, t20, out)) s.1 s.2.1 s.2.2.1 s.2.2.2) 18446744073709551616 (t18, t19, t20, out)
def ask_Pack_K1 (bits : List Bool) (n : Int) : Option (As [.sl (.int .u8)]) := ask_Pack_m1 (ask_Pack_K2) bits n
def ask_Pack (x : As [.sl .bool]) : Option (As [.sl (.int .u8)]) := ask_Pack_m0 ask_Pack_K1 x.1
theorem ask_Pack_c2 (J : Orc (As [.sl (.int .u8)])) (w2 : St → Option (As [.sl (.int .u8)])) (t18 : List Bool) (t19 : Int) (t20 : Int) (out : List Int) : pfn Try.prog ask_Pack_e 6 18446744073709551616 (Ev.get ask_Pack_h) 38 ask_Pack_s J 250 [w2] (ask_Pack_k2 t18 t19 t20 out) = ask_Pack_m2 (fun t18 t19 t20 out => w2 (ask_Pack_k2 t18 t19 t20 out)) t18 t19 t20 out := by kernel_rfl
theorem ask_Pack_c1 (J : Orc (As [.sl (.int .u8)])) (bits : List Bool) (n : Int) : pfn Try.prog ask_Pack_e 6 18446744073709551616 (Ev.get ask_Pack_h) 38 ask_Pack_s J 7 [] (ask_Pack_k1 bits n) = ask_Pack_m1 (fun t18 t19 t20 out => J 250 [] (ask_Pack_k2 t18 t19 t20 out)) bits n := by kernel_rfl
theorem ask_Pack_c0 (J : Orc (As [.sl (.int .u8)])) (x : As [.sl .bool]) : rfn Try.prog ask_Pack_e 6 18446744073709551616 (Ev.get ask_Pack_h) 38 ask_Pack_s J x = ask_Pack_m0 (fun bits n => J 7 [] (ask_Pack_k1 bits n)) x.1 := by kernel_rfl
theorem ask_Pack_g2 (t18 : List Bool) (t19 : Int) (t20 : Int) (out : List Int) : jfn Try.prog ask_Pack_e 6 18446744073709551616 (Ev.get ask_Pack_h) 38 ask_Pack_s 250 [] (ask_Pack_k2 t18 t19 t20 out) = ask_Pack_K2 t18 t19 t20 out := by
  rw [pfn_eq (by decide)]
  rw [pfn_loop (by kernel_rfl)]
  refine loopF_sim (σ := (List Bool) × (Int) × (Int) × (List Int)) (mk := fun s => ask_Pack_k2 s.1 s.2.1 s.2.2.1 s.2.2.2) (fun w2 s => ?_) 18446744073709551616 (t18, t19, t20, out)
  refine (ask_Pack_c2 _ w2 s.1 s.2.1 s.2.2.1 s.2.2.2).trans ?_
  rfl
theorem ask_Pack_g1 (bits : List Bool) (n : Int) : jfn Try.prog ask_Pack_e 6 18446744073709551616 (Ev.get ask_Pack_h) 38 ask_Pack_s 7 [] (ask_Pack_k1 bits n) = ask_Pack_K1 bits n := by
  rw [pfn_eq (by decide)]
  have e2 : (fun t18 t19 t20 out => (jfn Try.prog ask_Pack_e 6 18446744073709551616 (Ev.get ask_Pack_h) 38 ask_Pack_s) 250 [] (ask_Pack_k2 t18 t19 t20 out)) = ask_Pack_K2 := funext fun t18 => funext fun t19 => funext fun t20 => funext fun out => ask_Pack_g2 t18 t19 t20 out
  rw [ask_Pack_c1, e2]
  rfl
theorem ask_Pack_t (x : As [.sl .bool]) : evT Try.prog ask_Pack_e 6 18446744073709551616 (Ev.get ask_Pack_h) 38 ask_Pack_s x = ask_Pack x := by
  have e1 : (fun bits n => (jfn Try.prog ask_Pack_e 6 18446744073709551616 (Ev.get ask_Pack_h) 38 ask_Pack_s) 7 [] (ask_Pack_k1 bits n)) = ask_Pack_K1 := funext fun bits => funext fun n => ask_Pack_g1 bits n
  rw [rfn_eq, ask_Pack_c0, e1]
  rfl
theorem ask_Pack_ok : CtOk Try.prog (fun _ => True) 38 ⟨ask_Pack_s, ask_Pack⟩ := ct_of_ev env_nil ask_Pack_t
/-! ask_Bytes -/
@[reducible] def ask_Bytes_s : Sh := ⟨[.d (.pr (.int .u8) LAT3)], [], [.pr (.int .u8) LAT3], [.d (.sl (.int .u8)), .d (.int .i64)], [], 0, [.sl (.int .u8), .int .i64]⟩
def ask_Bytes_e : Env := (cts [(35, (⟨ask_shape_s, ask_shape⟩ : Ct)), (36, (⟨ask_Right_s, ask_Right⟩ : Ct)), (37, (⟨ask_numbers_s, ask_numbers⟩ : Ct)), (38, (⟨ask_Pack_s, ask_Pack⟩ : Ct))])
def ask_Bytes_h : List (Nat × Hint) := [(31, ⟨[], [1, 4, 6, 48, 49, 50, 51]⟩), (63, ⟨[], [1, 4, 6, 48, 49, 50, 51]⟩), (127, ⟨[], [6]⟩), (508, ⟨[], [1, 4, 6, 43]⟩)]
def ask_Bytes_k1 (a : VaA1q0) (s : VaA1q1) (out : List Int) : St := { fr := [(1, .pb 0 0), (4, .pb 1 0), (6, .row 2)], nt := 102, up := [], own := [(0, .box 52 [.d (.int .u8) a.1, .d (.int .u16) a.2.1, .d (.int .u16) a.2.2.1, .d (.int .u16) a.2.2.2.1, .d (.sl (.int .u16)) a.2.2.2.2.1, .d (.sl .bool) a.2.2.2.2.2]), (1, .box 101 [.d (.int .i64) s.1, .d (.int .i64) s.2.1, .d (.int .i64) s.2.2.1, .d .bool s.2.2.2.1, .d .bool s.2.2.2.2]), (2, .row (.int .u8) 5 out)], nx := 3, log := [], ln := 0 }
def ask_Bytes_k2 (a : VaA1q0) (s : VaA1q1) (out : List Int) : St := { fr := [(1, .pb 0 0), (4, .pb 1 0), (6, .row 2)], nt := 102, up := [], own := [(0, .box 52 [.d (.int .u8) a.1, .d (.int .u16) a.2.1, .d (.int .u16) a.2.2.1, .d (.int .u16) a.2.2.2.1, .d (.sl (.int .u16)) a.2.2.2.2.1, .d (.sl .bool) a.2.2.2.2.2]), (1, .box 101 [.d (.int .i64) s.1, .d (.int .i64) s.2.1, .d (.int .i64) s.2.2.1, .d .bool s.2.2.2.1, .d .bool s.2.2.2.2]), (2, .row (.int .u8) 5 out)], nx := 3, log := [], ln := 0 }
def ask_Bytes_k3 (t43 : Bool) (a : VaA1q0) (s : VaA1q1) (out : List Int) : St := { fr := [(1, .pb 0 0), (4, .pb 1 0), (6, .row 2), (43, .d .bool t43)], nt := 102, up := [], own := [(0, .box 52 [.d (.int .u8) a.1, .d (.int .u16) a.2.1, .d (.int .u16) a.2.2.1, .d (.int .u16) a.2.2.2.1, .d (.sl (.int .u16)) a.2.2.2.2.1, .d (.sl .bool) a.2.2.2.2.2]), (1, .box 101 [.d (.int .i64) s.1, .d (.int .i64) s.2.1, .d (.int .i64) s.2.2.1, .d .bool s.2.2.2.1, .d .bool s.2.2.2.2]), (2, .row (.int .u8) 5 out)], nx := 3, log := [], ln := 0 }
def ask_Bytes_k4 (out : List Int) : St := { fr := [(6, .row 0)], nt := 102, up := [], own := [(0, .row (.int .u8) 5 out)], nx := 1, log := [], ln := 0 }
def ask_Bytes_m1 (j2 : VaA1q0 → VaA1q1 → List Int → Option (As [.sl (.int .u8), .int .i64])) (a : VaA1q0) (s : VaA1q1) (out : List Int) : Option (As [.sl (.int .u8), .int .i64]) :=
  if s.2.2.2.1 = true then Option.bind (ask_numbers ([a.2.2.2.1, cvt .u16 (Int.ofNat (List.length a.2.2.2.2.1))], out, ())) fun (y : List Int × Unit) => j2 a s y.1 else j2 a s out
def ask_Bytes_m2 (j3 : Bool → VaA1q0 → VaA1q1 → List Int → Option (As [.sl (.int .u8), .int .i64])) (a : VaA1q0) (s : VaA1q1) (out : List Int) : Option (As [.sl (.int .u8), .int .i64]) :=
  if eqi a.1 5 = true then Option.bind (at? a.2.2.2.2.2 0) fun (y : Bool) => j3 y a s out else j3 false a s out
def ask_Bytes_m3 (j4 : List Int → Option (As [.sl (.int .u8), .int .i64])) (t43 : Bool) (a : VaA1q0) (s : VaA1q1) (out : List Int) : Option (As [.sl (.int .u8), .int .i64]) :=
  if t43 = true then Option.bind (ask_numbers ([65280], out, ())) fun (y : List Int × Unit) => j4 y.1 else if eqi a.1 5 = true then Option.bind (ask_numbers ([0], out, ())) fun (y : List Int × Unit) => j4 y.1 else if eqi a.1 6 = true then Option.bind (ask_numbers (a.2.2.2.2.1, out, ())) fun (y : List Int × Unit) => j4 y.1 else if gt s.2.1 0 = true then Option.bind (ask_Pack (a.2.2.2.2.2, ())) fun (y : List Int × Unit) => need (small (List.length out + Nat.succ 0)) (need (small (List.length (out ++ [cvt .u8 (Int.ofNat (List.length y.1))]) + List.length y.1)) (j4 (out ++ [cvt .u8 (Int.ofNat (List.length y.1))] ++ y.1))) else if gt s.2.2.1 0 = true then need (small (List.length out + Nat.succ 0)) (Option.bind (ask_numbers (a.2.2.2.2.1, out ++ [cvt .u8 (mul .i64 2 (Int.ofNat (List.length a.2.2.2.2.1)))], ())) fun (y : List Int × Unit) => j4 y.1) else j4 out
def ask_Bytes_m4 (out : List Int) : Option (As [.sl (.int .u8), .int .i64]) :=
  some (out, 0, ())
def ask_Bytes_m0 (j1 : VaA1q0 → VaA1q1 → List Int → Option (As [.sl (.int .u8), .int .i64])) (a : VaA1q0) : Option (As [.sl (.int .u8), .int .i64]) :=
  Option.bind (ask_Right (a, ())) fun (y : Bool × Unit) => if (!y.1) = true then some ([], 12, ()) else Option.bind (ask_shape (a.1, ())) fun (y : (VaA1q1) × Bool × Unit) => Option.bind (ask_numbers ([a.2.1], [a.1], ())) fun (y_1 : List Int × Unit) => if gt y.1.1 0 = true then Option.bind (ask_numbers ([a.2.2.1], y_1.1, ())) fun (y_2 : List Int × Unit) => j1 a y.1 y_2.1 else j1 a y.1 y_1.1
def ask_Bytes_K4 (out : List Int) : Option (As [.sl (.int .u8), .int .i64]) := ask_Bytes_m4 out
def ask_Bytes_K3 (t43 : Bool) (a : VaA1q0) (s : VaA1q1) (out : List Int) : Option (As [.sl (.int .u8), .int .i64]) := ask_Bytes_m3 (ask_Bytes_K4) t43 a s out
def ask_Bytes_K2 (a : VaA1q0) (s : VaA1q1) (out : List Int) : Option (As [.sl (.int .u8), .int .i64]) := ask_Bytes_m2 (ask_Bytes_K3) a s out
def ask_Bytes_K1 (a : VaA1q0) (s : VaA1q1) (out : List Int) : Option (As [.sl (.int .u8), .int .i64]) := ask_Bytes_m1 (ask_Bytes_K2) a s out
def ask_Bytes (x : As [.pr (.int .u8) LAT3]) : Option (As [.sl (.int .u8), .int .i64]) := ask_Bytes_m0 ask_Bytes_K1 x.1
theorem ask_Bytes_c4 (J : Orc (As [.sl (.int .u8), .int .i64])) (out : List Int) : pfn Try.prog ask_Bytes_e 6 18446744073709551616 (Ev.get ask_Bytes_h) 15 ask_Bytes_s J 127 [] (ask_Bytes_k4 out) = ask_Bytes_m4 out := by kernel_rfl
theorem ask_Bytes_c3 (J : Orc (As [.sl (.int .u8), .int .i64])) (t43 : Bool) (a : VaA1q0) (s : VaA1q1) (out : List Int) : pfn Try.prog ask_Bytes_e 6 18446744073709551616 (Ev.get ask_Bytes_h) 15 ask_Bytes_s J 508 [] (ask_Bytes_k3 t43 a s out) = ask_Bytes_m3 (fun out => J 127 [] (ask_Bytes_k4 out)) t43 a s out := by kernel_rfl
theorem ask_Bytes_c2 (J : Orc (As [.sl (.int .u8), .int .i64])) (a : VaA1q0) (s : VaA1q1) (out : List Int) : pfn Try.prog ask_Bytes_e 6 18446744073709551616 (Ev.get ask_Bytes_h) 15 ask_Bytes_s J 63 [] (ask_Bytes_k2 a s out) = ask_Bytes_m2 (fun t43 a s out => J 508 [] (ask_Bytes_k3 t43 a s out)) a s out := by kernel_rfl
theorem ask_Bytes_c1 (J : Orc (As [.sl (.int .u8), .int .i64])) (a : VaA1q0) (s : VaA1q1) (out : List Int) : pfn Try.prog ask_Bytes_e 6 18446744073709551616 (Ev.get ask_Bytes_h) 15 ask_Bytes_s J 31 [] (ask_Bytes_k1 a s out) = ask_Bytes_m1 (fun a s out => J 63 [] (ask_Bytes_k2 a s out)) a s out := by kernel_rfl
theorem ask_Bytes_c0 (J : Orc (As [.sl (.int .u8), .int .i64])) (x : As [.pr (.int .u8) LAT3]) : rfn Try.prog ask_Bytes_e 6 18446744073709551616 (Ev.get ask_Bytes_h) 15 ask_Bytes_s J x = ask_Bytes_m0 (fun a s out => J 31 [] (ask_Bytes_k1 a s out)) x.1 := by kernel_rfl
theorem ask_Bytes_g4 (out : List Int) : jfn Try.prog ask_Bytes_e 6 18446744073709551616 (Ev.get ask_Bytes_h) 15 ask_Bytes_s 127 [] (ask_Bytes_k4 out) = ask_Bytes_K4 out := by
  rw [pfn_eq (by decide)]
  rw [ask_Bytes_c4]
  rfl
theorem ask_Bytes_g3 (t43 : Bool) (a : VaA1q0) (s : VaA1q1) (out : List Int) : jfn Try.prog ask_Bytes_e 6 18446744073709551616 (Ev.get ask_Bytes_h) 15 ask_Bytes_s 508 [] (ask_Bytes_k3 t43 a s out) = ask_Bytes_K3 t43 a s out := by
  rw [pfn_eq (by decide)]
  have e4 : (fun out => (jfn Try.prog ask_Bytes_e 6 18446744073709551616 (Ev.get ask_Bytes_h) 15 ask_Bytes_s) 127 [] (ask_Bytes_k4 out)) = ask_Bytes_K4 := funext fun out => ask_Bytes_g4 out
  rw [ask_Bytes_c3, e4]
  rfl
theorem ask_Bytes_g2 (a : VaA1q0) (s : VaA1q1) (out : List Int) : jfn Try.prog ask_Bytes_e 6 18446744073709551616 (Ev.get ask_Bytes_h) 15 ask_Bytes_s 63 [] (ask_Bytes_k2 a s out) = ask_Bytes_K2 a s out := by
  rw [pfn_eq (by decide)]
  have e3 : (fun t43 a s out => (jfn Try.prog ask_Bytes_e 6 18446744073709551616 (Ev.get ask_Bytes_h) 15 ask_Bytes_s) 508 [] (ask_Bytes_k3 t43 a s out)) = ask_Bytes_K3 := funext fun t43 => funext fun a => funext fun s => funext fun out => ask_Bytes_g3 t43 a s out
  rw [ask_Bytes_c2, e3]
  rfl
theorem ask_Bytes_g1 (a : VaA1q0) (s : VaA1q1) (out : List Int) : jfn Try.prog ask_Bytes_e 6 18446744073709551616 (Ev.get ask_Bytes_h) 15 ask_Bytes_s 31 [] (ask_Bytes_k1 a s out) = ask_Bytes_K1 a s out := by
  rw [pfn_eq (by decide)]
  have e2 : (fun a s out => (jfn Try.prog ask_Bytes_e 6 18446744073709551616 (Ev.get ask_Bytes_h) 15 ask_Bytes_s) 63 [] (ask_Bytes_k2 a s out)) = ask_Bytes_K2 := funext fun a => funext fun s => funext fun out => ask_Bytes_g2 a s out
  rw [ask_Bytes_c1, e2]
  rfl
theorem ask_Bytes_t (x : As [.pr (.int .u8) LAT3]) : evT Try.prog ask_Bytes_e 6 18446744073709551616 (Ev.get ask_Bytes_h) 15 ask_Bytes_s x = ask_Bytes x := by
  have e1 : (fun a s out => (jfn Try.prog ask_Bytes_e 6 18446744073709551616 (Ev.get ask_Bytes_h) 15 ask_Bytes_s) 31 [] (ask_Bytes_k1 a s out)) = ask_Bytes_K1 := funext fun a => funext fun s => funext fun out => ask_Bytes_g1 a s out
  rw [rfn_eq, ask_Bytes_c0, e1]
  rfl
theorem ask_Bytes_ok : CtOk Try.prog (fun _ => True) 15 ⟨ask_Bytes_s, ask_Bytes⟩ := ct_of_ev (env_cons ask_shape_ok (env_cons ask_Right_ok (env_cons ask_numbers_ok (env_cons ask_Pack_ok env_nil)))) ask_Bytes_t
/-! bytes_Equal -/
@[reducible] def bytes_Equal_s : Sh := ⟨[.d (.sl (.int .u8)), .d (.sl (.int .u8))], [], [.sl (.int .u8), .sl (.int .u8)], [.d (.bool)], [], 0, [.bool]⟩
def bytes_Equal_e : Env := (cts [])
def bytes_Equal_h : List (Nat × Hint) := []
def bytes_Equal_m0 (a : List Int) (b : List Int) : Option (As [.bool]) :=
  some (eqs (Sx.toS a) (Sx.toS b), ())
def bytes_Equal (x : As [.sl (.int .u8), .sl (.int .u8)]) : Option (As [.bool]) := bytes_Equal_m0 x.1 x.2.1
theorem bytes_Equal_c0 (J : Orc (As [.bool])) (x : As [.sl (.int .u8), .sl (.int .u8)]) : rfn Try.prog bytes_Equal_e 6 18446744073709551616 (Ev.get bytes_Equal_h) 33 bytes_Equal_s J x = bytes_Equal_m0 x.1 x.2.1 := by kernel_rfl
theorem bytes_Equal_t (x : As [.sl (.int .u8), .sl (.int .u8)]) : evT Try.prog bytes_Equal_e 6 18446744073709551616 (Ev.get bytes_Equal_h) 33 bytes_Equal_s x = bytes_Equal x := by
  rw [rfn_eq, bytes_Equal_c0]
  rfl
theorem bytes_Equal_ok : CtOk Try.prog (fun _ => True) 33 ⟨bytes_Equal_s, bytes_Equal⟩ := ct_of_ev env_nil bytes_Equal_t
/-! ask_list -/
@[reducible] def ask_list_s : Sh := ⟨[.d (.sl (.int .u8))], [], [.sl (.int .u8)], [.d (.sl (.int .u16))], [], 0, [.sl (.int .u16)]⟩
def ask_list_e : Env := (cts [])
def ask_list_h : List (Nat × Hint) := [(58, ⟨[], [0, 3, 10, 11]⟩)]
def ask_list_k1 (b : List Int) (t10 : Int) (t11 : Int) (l : List Int) : St := { fr := [(0, .d (.sl (.int .u8)) b), (3, .row 0), (10, .d (.int .i64) t10), (11, .d (.int .i64) t11)], nt := 34, up := [], own := [(0, .row (.int .u16) 41 l)], nx := 1, log := [], ln := 0 }
def ask_list_m1 (self1 : List Int → Int → Int → List Int → Option (As [.sl (.int .u16)])) (b : List Int) (t10 : Int) (t11 : Int) (l : List Int) : Option (As [.sl (.int .u16)]) :=
  if lt t11 t10 = true then Option.bind (at? b (mul .i64 2 t11)) fun (y : Int) => Option.bind (at? b (add .i64 (mul .i64 2 t11) 1)) fun (y_1 : Int) => Option.bind (at? l t11) fun (x : Int) => Option.bind (at? l t11) fun (x : Int) => self1 b t10 (add .i64 t11 1) (List.set l (Int.toNat t11) (Sx.bor .u16 (Sx.shl .u16 (cvt .u16 y) 8) (cvt .u16 y_1))) else some (l, ())
def ask_list_m0 (j1 : List Int → Int → Int → List Int → Option (As [.sl (.int .u16)])) (b : List Int) : Option (As [.sl (.int .u16)]) :=
  need (ge (quo .i64 (Int.ofNat (List.length b)) 2) 0) (need (Ev.capOk (quo .i64 (Int.ofNat (List.length b)) 2) (quo .i64 (Int.ofNat (List.length b)) 2)) (need (small (Int.toNat (quo .i64 (Int.ofNat (List.length b)) 2))) (j1 b (Int.ofNat (List.length (List.replicate (α := Int) (Int.toNat (quo .i64 (Int.ofNat (List.length b)) 2)) 0))) 0 (List.replicate (Int.toNat (quo .i64 (Int.ofNat (List.length b)) 2)) 0))))
def ask_list_K1 (b : List Int) (t10 : Int) (t11 : Int) (l : List Int) : Option (As [.sl (.int .u16)]) :=
  loopF (fun (self : (List Int) × (Int) × (Int) × (List Int) → Option (As [.sl (.int .u16)])) (s : (List Int) × (Int) × (Int) × (List Int)) => ask_list_m1 (fun b t10 t11 l => self (b, t10, t11, l)) s.1 s.2.1 s.2.2.1 s.2.2.2) 18446744073709551616 (b, t10, t11, l)
def ask_list (x : As [.sl (.int .u8)]) : Option (As [.sl (.int .u16)]) := ask_list_m0 ask_list_K1 x.1
theorem ask_list_c1 (J : Orc (As [.sl (.int .u16)])) (w1 : St → Option (As [.sl (.int .u16)])) (b : List Int) (t10 : Int) (t11 : Int) (l : List Int) : pfn Try.prog ask_list_e 6 18446744073709551616 (Ev.get ask_list_h) 64 ask_list_s J 58 [w1] (ask_list_k1 b t10 t11 l) = ask_list_m1 (fun b t10 t11 l => w1 (ask_list_k1 b t10 t11 l)) b t10 t11 l := by kernel_rfl
theorem ask_list_c0 (J : Orc (As [.sl (.int .u16)])) (x : As [.sl (.int .u8)]) : rfn Try.prog ask_list_e 6 18446744073709551616 (Ev.get ask_list_h) 64 ask_list_s J x = ask_list_m0 (fun b t10 t11 l => J 58 [] (ask_list_k1 b t10 t11 l)) x.1 := by kernel_rfl
theorem ask_list_g1 (b : List Int) (t10 : Int) (t11 : Int) (l : List Int) : jfn Try.prog ask_list_e 6 18446744073709551616 (Ev.get ask_list_h) 64 ask_list_s 58 [] (ask_list_k1 b t10 t11 l) = ask_list_K1 b t10 t11 l := by
  rw [pfn_eq (by decide)]
  rw [pfn_loop (by kernel_rfl)]
  refine loopF_sim (σ := (List Int) × (Int) × (Int) × (List Int)) (mk := fun s => ask_list_k1 s.1 s.2.1 s.2.2.1 s.2.2.2) (fun w1 s => ?_) 18446744073709551616 (b, t10, t11, l)
  refine (ask_list_c1 _ w1 s.1 s.2.1 s.2.2.1 s.2.2.2).trans ?_
  rfl
theorem ask_list_t (x : As [.sl (.int .u8)]) : evT Try.prog ask_list_e 6 18446744073709551616 (Ev.get ask_list_h) 64 ask_list_s x = ask_list x := by
  have e1 : (fun b t10 t11 l => (jfn Try.prog ask_list_e 6 18446744073709551616 (Ev.get ask_list_h) 64 ask_list_s) 58 [] (ask_list_k1 b t10 t11 l)) = ask_list_K1 := funext fun b => funext fun t10 => funext fun t11 => funext fun l => ask_list_g1 b t10 t11 l
  rw [rfn_eq, ask_list_c0, e1]
  rfl
theorem ask_list_ok : CtOk Try.prog (fun _ => True) 64 ⟨ask_list_s, ask_list⟩ := ct_of_ev env_nil ask_list_t
/-! ask_Unpack -/
@[reducible] def ask_Unpack_s : Sh := ⟨[.d (.sl (.int .u8))], [], [.sl (.int .u8)], [.d (.sl .bool)], [], 0, [.sl .bool]⟩
def ask_Unpack_e : Env := (cts [])
def ask_Unpack_h : List (Nat × Hint) := [(58, ⟨[], [0, 3, 10, 11]⟩)]
def ask_Unpack_k1 (b : List Int) (t10 : Int) (t11 : Int) (out : List Bool) : St := { fr := [(0, .d (.sl (.int .u8)) b), (3, .row 0), (10, .d (.int .i64) t10), (11, .d (.int .i64) t11)], nt := 29, up := [], own := [(0, .row .bool 4 out)], nx := 1, log := [], ln := 0 }
def ask_Unpack_m1 (self1 : List Int → Int → Int → List Bool → Option (As [.sl .bool])) (b : List Int) (t10 : Int) (t11 : Int) (out : List Bool) : Option (As [.sl .bool]) :=
  if lt t11 t10 = true then Option.bind (at? b (quo .i64 t11 8)) fun (y : Int) => need (ge (rem t11 8) 0) (Option.bind (at? out t11) fun (x : Bool) => Option.bind (at? out t11) fun (x : Bool) => self1 b t10 (add .i64 t11 1) (List.set out (Int.toNat t11) (eqi (Sx.band .u8 (Sx.shr .u8 y (rem t11 8)) 1) 1))) else some (out, ())
def ask_Unpack_m0 (j1 : List Int → Int → Int → List Bool → Option (As [.sl .bool])) (b : List Int) : Option (As [.sl .bool]) :=
  need (ge (mul .i64 8 (Int.ofNat (List.length b))) 0) (need (Ev.capOk (mul .i64 8 (Int.ofNat (List.length b))) (mul .i64 8 (Int.ofNat (List.length b)))) (need (small (Int.toNat (mul .i64 8 (Int.ofNat (List.length b))))) (j1 b (Int.ofNat (List.length (List.replicate (Int.toNat (mul .i64 8 (Int.ofNat (List.length b)))) false))) 0 (List.replicate (Int.toNat (mul .i64 8 (Int.ofNat (List.length b)))) false))))
def ask_Unpack_K1 (b : List Int) (t10 : Int) (t11 : Int) (out : List Bool) : Option (As [.sl .bool]) :=
  loopF (fun (self : (List Int) × (Int) × (Int) × (List Bool) → Option (As [.sl .bool])) (s : (List Int) × (Int) × (Int) × (List Bool)) => ask_Unpack_m1 (fun b t10 t11 out => self (b, t10, t11, out)) s.1 s.2.1 s.2.2.1 s.2.2.2) 18446744073709551616 (b, t10, t11, out)
def ask_Unpack (x : As [.sl (.int .u8)]) : Option (As [.sl .bool]) := ask_Unpack_m0 ask_Unpack_K1 x.1
theorem ask_Unpack_c1 (J : Orc (As [.sl .bool])) (w1 : St → Option (As [.sl .bool])) (b : List Int) (t10 : Int) (t11 : Int) (out : List Bool) : pfn Try.prog ask_Unpack_e 6 18446744073709551616 (Ev.get ask_Unpack_h) 71 ask_Unpack_s J 58 [w1] (ask_Unpack_k1 b t10 t11 out) = ask_Unpack_m1 (fun b t10 t11 out => w1 (ask_Unpack_k1 b t10 t11 out)) b t10 t11 out := by kernel_rfl
theorem ask_Unpack_c0 (J : Orc (As [.sl .bool])) (x : As [.sl (.int .u8)]) : rfn Try.prog ask_Unpack_e 6 18446744073709551616 (Ev.get ask_Unpack_h) 71 ask_Unpack_s J x = ask_Unpack_m0 (fun b t10 t11 out => J 58 [] (ask_Unpack_k1 b t10 t11 out)) x.1 := by kernel_rfl
theorem ask_Unpack_g1 (b : List Int) (t10 : Int) (t11 : Int) (out : List Bool) : jfn Try.prog ask_Unpack_e 6 18446744073709551616 (Ev.get ask_Unpack_h) 71 ask_Unpack_s 58 [] (ask_Unpack_k1 b t10 t11 out) = ask_Unpack_K1 b t10 t11 out := by
  rw [pfn_eq (by decide)]
  rw [pfn_loop (by kernel_rfl)]
  refine loopF_sim (σ := (List Int) × (Int) × (Int) × (List Bool)) (mk := fun s => ask_Unpack_k1 s.1 s.2.1 s.2.2.1 s.2.2.2) (fun w1 s => ?_) 18446744073709551616 (b, t10, t11, out)
  refine (ask_Unpack_c1 _ w1 s.1 s.2.1 s.2.2.1 s.2.2.2).trans ?_
  rfl
theorem ask_Unpack_t (x : As [.sl (.int .u8)]) : evT Try.prog ask_Unpack_e 6 18446744073709551616 (Ev.get ask_Unpack_h) 71 ask_Unpack_s x = ask_Unpack x := by
  have e1 : (fun b t10 t11 out => (jfn Try.prog ask_Unpack_e 6 18446744073709551616 (Ev.get ask_Unpack_h) 71 ask_Unpack_s) 58 [] (ask_Unpack_k1 b t10 t11 out)) = ask_Unpack_K1 := funext fun b => funext fun t10 => funext fun t11 => funext fun out => ask_Unpack_g1 b t10 t11 out
  rw [rfn_eq, ask_Unpack_c0, e1]
  rfl
theorem ask_Unpack_ok : CtOk Try.prog (fun _ => True) 71 ⟨ask_Unpack_s, ask_Unpack⟩ := ct_of_ev env_nil ask_Unpack_t
/-! ask_written -/
@[reducible] def ask_written_s : Sh := ⟨[.d (.pr (.int .u8) LAT3), .d (.pr (.int .i64) LAT9), .d (.sl (.int .u8))], [], [.pr (.int .u8) LAT3, .pr (.int .i64) LAT9, .sl (.int .u8)], [.d (.pr (.int .u8) LAT3), .d (.bool)], [], 0, [.pr (.int .u8) LAT3, .bool]⟩
def ask_written_e : Env := (cts [(64, (⟨ask_list_s, ask_list⟩ : Ct)), (71, (⟨ask_Unpack_s, ask_Unpack⟩ : Ct))])
def ask_written_h : List (Nat × Hint) := [(15, ⟨[.frb 3, .frb 6], [3, 6]⟩)]
def ask_written_k1 (a : VaA1q0) (t6 : VaA1q0) : St := { fr := [(3, .pb 0 0), (6, .pb 1 0)], nt := 63, up := [], own := [(0, .box 52 [.d (.int .u8) a.1, .d (.int .u16) a.2.1, .d (.int .u16) a.2.2.1, .d (.int .u16) a.2.2.2.1, .d (.sl (.int .u16)) a.2.2.2.2.1, .d (.sl .bool) a.2.2.2.2.2]), (1, .box 52 [.d (.int .u8) t6.1, .d (.int .u16) t6.2.1, .d (.int .u16) t6.2.2.1, .d (.int .u16) t6.2.2.2.1, .d (.sl (.int .u16)) t6.2.2.2.2.1, .d (.sl .bool) t6.2.2.2.2.2])], nx := 2, log := [], ln := 0 }
def ask_written_m1 (a : VaA1q0) (t6 : VaA1q0) : Option (As [.pr (.int .u8) LAT3, .bool]) :=
  some (a, true, ())
def ask_written_m0 (j1 : VaA1q0 → VaA1q0 → Option (As [.pr (.int .u8) LAT3, .bool])) (a : VaA1q0) (s : VaA1q1) (rest : List Int) : Option (As [.pr (.int .u8) LAT3, .bool]) :=
  if eqi (add .i64 s.2.1 s.2.2.1) 0 = true then some (a, true, ()) else if lt (Int.ofNat (List.length rest)) 2 = true then some ((0, 0, 0, 0, [], []), false, ()) else if eqi a.1 5 = true then Option.bind (at? rest 0) fun (y : Int) => j1 (a.1, a.2.1, a.2.2.1, a.2.2.2.1, a.2.2.2.2.1, [nei y 0]) (0, 0, 0, 0, [], []) else if eqi a.1 6 = true then Option.bind (ask_list (rest, ())) fun (y : List Int × Unit) => j1 (a.1, a.2.1, a.2.2.1, a.2.2.2.1, y.1, a.2.2.2.2.2) (0, 0, 0, 0, [], []) else if gt s.2.1 0 = true then Option.bind (cut rest 1 (Int.ofNat (List.length rest))) fun (y : List Int) => Option.bind (ask_Unpack (y, ())) fun (y : List Bool × Unit) => if lt (Int.ofNat (List.length y.1)) (cvt .i64 a.2.2.1) = true then some ((0, 0, 0, 0, [], []), false, ()) else Option.bind (cut y.1 0 a.2.2.1) fun (y_1 : List Bool) => need (le a.2.2.1 a.2.2.1) (need (le a.2.2.1 (Int.ofNat (List.length y.1))) (j1 (a.1, a.2.1, a.2.2.1, a.2.2.2.1, a.2.2.2.2.1, y_1) (0, 0, 0, 0, [], []))) else Option.bind (cut rest 1 (Int.ofNat (List.length rest))) fun (y : List Int) => Option.bind (ask_list (y, ())) fun (y : List Int × Unit) => j1 (a.1, a.2.1, a.2.2.1, a.2.2.2.1, y.1, a.2.2.2.2.2) (0, 0, 0, 0, [], [])
def ask_written_K1 (a : VaA1q0) (t6 : VaA1q0) : Option (As [.pr (.int .u8) LAT3, .bool]) := ask_written_m1 a t6
def ask_written (x : As [.pr (.int .u8) LAT3, .pr (.int .i64) LAT9, .sl (.int .u8)]) : Option (As [.pr (.int .u8) LAT3, .bool]) := ask_written_m0 ask_written_K1 x.1 x.2.1 x.2.2.1
theorem ask_written_c1 (J : Orc (As [.pr (.int .u8) LAT3, .bool])) (a : VaA1q0) (t6 : VaA1q0) : pfn Try.prog ask_written_e 6 18446744073709551616 (Ev.get ask_written_h) 65 ask_written_s J 15 [] (ask_written_k1 a t6) = ask_written_m1 a t6 := by kernel_rfl
theorem ask_written_c0 (J : Orc (As [.pr (.int .u8) LAT3, .bool])) (x : As [.pr (.int .u8) LAT3, .pr (.int .i64) LAT9, .sl (.int .u8)]) : rfn Try.prog ask_written_e 6 18446744073709551616 (Ev.get ask_written_h) 65 ask_written_s J x = ask_written_m0 (fun a t6 => J 15 [] (ask_written_k1 a t6)) x.1 x.2.1 x.2.2.1 := by kernel_rfl
theorem ask_written_g1 (a : VaA1q0) (t6 : VaA1q0) : jfn Try.prog ask_written_e 6 18446744073709551616 (Ev.get ask_written_h) 65 ask_written_s 15 [] (ask_written_k1 a t6) = ask_written_K1 a t6 := by
  rw [pfn_eq (by decide)]
  rw [ask_written_c1]
  rfl
theorem ask_written_t (x : As [.pr (.int .u8) LAT3, .pr (.int .i64) LAT9, .sl (.int .u8)]) : evT Try.prog ask_written_e 6 18446744073709551616 (Ev.get ask_written_h) 65 ask_written_s x = ask_written x := by
  have e1 : (fun a t6 => (jfn Try.prog ask_written_e 6 18446744073709551616 (Ev.get ask_written_h) 65 ask_written_s) 15 [] (ask_written_k1 a t6)) = ask_written_K1 := funext fun a => funext fun t6 => ask_written_g1 a t6
  rw [rfn_eq, ask_written_c0, e1]
  rfl
theorem ask_written_ok : CtOk Try.prog (fun _ => True) 65 ⟨ask_written_s, ask_written⟩ := ct_of_ev (env_cons ask_list_ok (env_cons ask_Unpack_ok env_nil)) ask_written_t
/-! ask_read -/
@[reducible] def ask_read_s : Sh := ⟨[.d (.sl (.int .u8))], [], [.sl (.int .u8)], [.d (.pr (.int .u8) LAT3), .d (.bool)], [], 0, [.pr (.int .u8) LAT3, .bool]⟩
def ask_read_e : Env := (cts [(35, (⟨ask_shape_s, ask_shape⟩ : Ct)), (64, (⟨ask_list_s, ask_list⟩ : Ct)), (65, (⟨ask_written_s, ask_written⟩ : Ct))])
def ask_read_h : List (Nat × Hint) := [(255, ⟨[], [2, 4, 6, 7, 8]⟩), (511, ⟨[], [2, 4, 7, 8]⟩), (6, ⟨[], [0, 2, 16]⟩)]
def ask_read_k1 (b : List Int) (t16 : Bool) (t2 : Int) (t2_2 : Int) (t2_3 : Int) (t2_4 : Int) : St := { fr := [(0, .d (.sl (.int .u8)) b), (2, .pb 0 0), (16, .d .bool t16)], nt := 67, up := [], own := [(0, .box 52 [.d (.int .u8) t2, .d (.int .u16) t2_2, .d (.int .u16) t2_3, .d (.int .u16) t2_4, .k (Go.Value.slice Option.none 0 0), .k (Go.Value.slice Option.none 0 0)])], nx := 1, log := [], ln := 0 }
def ask_read_k2 (l : List Int) (rest : List Int) (t2 : Int) (t2_2 : Int) (t2_3 : Int) (t2_4 : Int) (s : VaA1q1) (a : Int) (a_2 : Int) (a_3 : Int) (a_4 : Int) : St := { fr := [(2, .pb 0 0), (4, .pb 1 0), (6, .d (.sl (.int .u16)) l), (7, .pb 2 0), (8, .d (.sl (.int .u8)) rest)], nt := 67, up := [], own := [(0, .box 52 [.d (.int .u8) t2, .d (.int .u16) t2_2, .d (.int .u16) t2_3, .d (.int .u16) t2_4, .k (Go.Value.slice Option.none 0 0), .k (Go.Value.slice Option.none 0 0)]), (1, .box 101 [.d (.int .i64) s.1, .d (.int .i64) s.2.1, .d (.int .i64) s.2.2.1, .d .bool s.2.2.2.1, .d .bool s.2.2.2.2]), (2, .box 52 [.d (.int .u8) a, .d (.int .u16) a_2, .d (.int .u16) a_3, .d (.int .u16) a_4, .k (Go.Value.slice Option.none 0 0), .k (Go.Value.slice Option.none 0 0)])], nx := 3, log := [], ln := 0 }
def ask_read_k3 (rest : List Int) (t2 : Int) (t2_2 : Int) (t2_3 : Int) (t2_4 : Int) (s : VaA1q1) (a : Int) (a_2 : Int) (a_3 : Int) (a_4 : Int) : St := { fr := [(2, .pb 0 0), (4, .pb 1 0), (7, .pb 2 0), (8, .d (.sl (.int .u8)) rest)], nt := 67, up := [], own := [(0, .box 52 [.d (.int .u8) t2, .d (.int .u16) t2_2, .d (.int .u16) t2_3, .d (.int .u16) t2_4, .k (Go.Value.slice Option.none 0 0), .k (Go.Value.slice Option.none 0 0)]), (1, .box 101 [.d (.int .i64) s.1, .d (.int .i64) s.2.1, .d (.int .i64) s.2.2.1, .d .bool s.2.2.2.1, .d .bool s.2.2.2.2]), (2, .box 52 [.d (.int .u8) a, .d (.int .u16) a_2, .d (.int .u16) a_3, .d (.int .u16) a_4, .k (Go.Value.slice Option.none 0 0), .k (Go.Value.slice Option.none 0 0)])], nx := 3, log := [], ln := 0 }
def ask_read_m1 (j2 : List Int → List Int → Int → Int → Int → Int → VaA1q1 → Int → Int → Int → Int → Option (As [.pr (.int .u8) LAT3, .bool])) (b : List Int) (t16 : Bool) (t2 : Int) (t2_2 : Int) (t2_3 : Int) (t2_4 : Int) : Option (As [.pr (.int .u8) LAT3, .bool]) :=
  if t16 = true then some ((0, 0, 0, 0, [], []), false, ()) else Option.bind (at? b 0) fun (y : Int) => Option.bind (ask_shape (y, ())) fun (y : (VaA1q1) × Bool × Unit) => if (!y.2.1) = true then some ((0, 0, 0, 0, [], []), false, ()) else Option.bind (cut b 1 (Int.ofNat (List.length b))) fun (y_1 : List Int) => Option.bind (ask_list (y_1, ())) fun (y_2 : List Int × Unit) => Option.bind (at? b 0) fun (y_3 : Int) => Option.bind (at? y_2.1 0) fun (y_4 : Int) => Option.bind (cut b 3 (Int.ofNat (List.length b))) fun (y_5 : List Int) => if gt y.1.1 0 = true then Option.bind (at? y_2.1 1) fun (y_6 : Int) => Option.bind (cut b 5 (Int.ofNat (List.length b))) fun (y_7 : List Int) => j2 y_2.1 y_7 t2 t2_2 t2_3 t2_4 y.1 y_3 y_4 y_6 0 else j2 y_2.1 y_5 t2 t2_2 t2_3 t2_4 y.1 y_3 y_4 0 0
def ask_read_m2 (j3 : List Int → Int → Int → Int → Int → VaA1q1 → Int → Int → Int → Int → Option (As [.pr (.int .u8) LAT3, .bool])) (l : List Int) (rest : List Int) (t2 : Int) (t2_2 : Int) (t2_3 : Int) (t2_4 : Int) (s : VaA1q1) (a : Int) (a_2 : Int) (a_3 : Int) (a_4 : Int) : Option (As [.pr (.int .u8) LAT3, .bool]) :=
  if s.2.2.2.1 = true then if lt (Int.ofNat (List.length rest)) 4 = true then some ((0, 0, 0, 0, [], []), false, ()) else Option.bind (at? l 2) fun (y : Int) => Option.bind (cut rest 4 (Int.ofNat (List.length rest))) fun (y_1 : List Int) => j3 y_1 t2 t2_2 t2_3 t2_4 s a a_2 a_3 y else j3 rest t2 t2_2 t2_3 t2_4 s a a_2 a_3 a_4
def ask_read_m3 (rest : List Int) (t2 : Int) (t2_2 : Int) (t2_3 : Int) (t2_4 : Int) (s : VaA1q1) (a : Int) (a_2 : Int) (a_3 : Int) (a_4 : Int) : Option (As [.pr (.int .u8) LAT3, .bool]) :=
  Option.bind (ask_written ((a, a_2, a_3, a_4, [], []), s, rest, ())) fun (y : (VaA1q0) × Bool × Unit) => some (y.1, y.2.1, ())
def ask_read_m0 (j1 : List Int → Bool → Int → Int → Int → Int → Option (As [.pr (.int .u8) LAT3, .bool])) (b : List Int) : Option (As [.pr (.int .u8) LAT3, .bool]) :=
  if lt (Int.ofNat (List.length b)) 5 = true then j1 b true 0 0 0 0 else j1 b (gt (Int.ofNat (List.length b)) 253) 0 0 0 0
def ask_read_K3 (rest : List Int) (t2 : Int) (t2_2 : Int) (t2_3 : Int) (t2_4 : Int) (s : VaA1q1) (a : Int) (a_2 : Int) (a_3 : Int) (a_4 : Int) : Option (As [.pr (.int .u8) LAT3, .bool]) := ask_read_m3 rest t2 t2_2 t2_3 t2_4 s a a_2 a_3 a_4
def ask_read_K2 (l : List Int) (rest : List Int) (t2 : Int) (t2_2 : Int) (t2_3 : Int) (t2_4 : Int) (s : VaA1q1) (a : Int) (a_2 : Int) (a_3 : Int) (a_4 : Int) : Option (As [.pr (.int .u8) LAT3, .bool]) := ask_read_m2 (ask_read_K3) l rest t2 t2_2 t2_3 t2_4 s a a_2 a_3 a_4
def ask_read_K1 (b : List Int) (t16 : Bool) (t2 : Int) (t2_2 : Int) (t2_3 : Int) (t2_4 : Int) : Option (As [.pr (.int .u8) LAT3, .bool]) := ask_read_m1 (ask_read_K2) b t16 t2 t2_2 t2_3 t2_4
def ask_read (x : As [.sl (.int .u8)]) : Option (As [.pr (.int .u8) LAT3, .bool]) := ask_read_m0 ask_read_K1 x.1
theorem ask_read_c3 (J : Orc (As [.pr (.int .u8) LAT3, .bool])) (rest : List Int) (t2 : Int) (t2_2 : Int) (t2_3 : Int) (t2_4 : Int) (s : VaA1q1) (a : Int) (a_2 : Int) (a_3 : Int) (a_4 : Int) : pfn Try.prog ask_read_e 6 18446744073709551616 (Ev.get ask_read_h) 47 ask_read_s J 511 [] (ask_read_k3 rest t2 t2_2 t2_3 t2_4 s a a_2 a_3 a_4) = ask_read_m3 rest t2 t2_2 t2_3 t2_4 s a a_2 a_3 a_4 := by kernel_rfl
theorem ask_read_c2 (J : Orc (As [.pr (.int .u8) LAT3, .bool])) (l : List Int) (rest : List Int) (t2 : Int) (t2_2 : Int) (t2_3 : Int) (t2_4 : Int) (s : VaA1q1) (a : Int) (a_2 : Int) (a_3 : Int) (a_4 : Int) : pfn Try.prog ask_read_e 6 18446744073709551616 (Ev.get ask_read_h) 47 ask_read_s J 255 [] (ask_read_k2 l rest t2 t2_2 t2_3 t2_4 s a a_2 a_3 a_4) = ask_read_m2 (fun rest t2 t2_2 t2_3 t2_4 s a a_2 a_3 a_4 => J 511 [] (ask_read_k3 rest t2 t2_2 t2_3 t2_4 s a a_2 a_3 a_4)) l rest t2 t2_2 t2_3 t2_4 s a a_2 a_3 a_4 := by kernel_rfl
theorem ask_read_c1 (J : Orc (As [.pr (.int .u8) LAT3, .bool])) (b : List Int) (t16 : Bool) (t2 : Int) (t2_2 : Int) (t2_3 : Int) (t2_4 : Int) : pfn Try.prog ask_read_e 6 18446744073709551616 (Ev.get ask_read_h) 47 ask_read_s J 6 [] (ask_read_k1 b t16 t2 t2_2 t2_3 t2_4) = ask_read_m1 (fun l rest t2 t2_2 t2_3 t2_4 s a a_2 a_3 a_4 => J 255 [] (ask_read_k2 l rest t2 t2_2 t2_3 t2_4 s a a_2 a_3 a_4)) b t16 t2 t2_2 t2_3 t2_4 := by kernel_rfl
theorem ask_read_c0 (J : Orc (As [.pr (.int .u8) LAT3, .bool])) (x : As [.sl (.int .u8)]) : rfn Try.prog ask_read_e 6 18446744073709551616 (Ev.get ask_read_h) 47 ask_read_s J x = ask_read_m0 (fun b t16 t2 t2_2 t2_3 t2_4 => J 6 [] (ask_read_k1 b t16 t2 t2_2 t2_3 t2_4)) x.1 := by kernel_rfl
theorem ask_read_g3 (rest : List Int) (t2 : Int) (t2_2 : Int) (t2_3 : Int) (t2_4 : Int) (s : VaA1q1) (a : Int) (a_2 : Int) (a_3 : Int) (a_4 : Int) : jfn Try.prog ask_read_e 6 18446744073709551616 (Ev.get ask_read_h) 47 ask_read_s 511 [] (ask_read_k3 rest t2 t2_2 t2_3 t2_4 s a a_2 a_3 a_4) = ask_read_K3 rest t2 t2_2 t2_3 t2_4 s a a_2 a_3 a_4 := by
  rw [pfn_eq (by decide)]
  rw [ask_read_c3]
  rfl
theorem ask_read_g2 (l : List Int) (rest : List Int) (t2 : Int) (t2_2 : Int) (t2_3 : Int) (t2_4 : Int) (s : VaA1q1) (a : Int) (a_2 : Int) (a_3 : Int) (a_4 : Int) : jfn Try.prog ask_read_e 6 18446744073709551616 (Ev.get ask_read_h) 47 ask_read_s 255 [] (ask_read_k2 l rest t2 t2_2 t2_3 t2_4 s a a_2 a_3 a_4) = ask_read_K2 l rest t2 t2_2 t2_3 t2_4 s a a_2 a_3 a_4 := by
  rw [pfn_eq (by decide)]
  have e3 : (fun rest t2 t2_2 t2_3 t2_4 s a a_2 a_3 a_4 => (jfn Try.prog ask_read_e 6 18446744073709551616 (Ev.get ask_read_h) 47 ask_read_s) 511 [] (ask_read_k3 rest t2 t2_2 t2_3 t2_4 s a a_2 a_3 a_4)) = ask_read_K3 := funext fun rest => funext fun t2 => funext fun t2_2 => funext fun t2_3 => funext fun t2_4 => funext fun s => funext fun a => funext fun a_2 => funext fun a_3 => funext fun a_4 => ask_read_g3 rest t2 t2_2 t2_3 t2_4 s a a_2 a_3 a_4
  rw [ask_read_c2, e3]
  rfl
theorem ask_read_g1 (b : List Int) (t16 : Bool) (t2 : Int) (t2_2 : Int) (t2_3 : Int) (t2_4 : Int) : jfn Try.prog ask_read_e 6 18446744073709551616 (Ev.get ask_read_h) 47 ask_read_s 6 [] (ask_read_k1 b t16 t2 t2_2 t2_3 t2_4) = ask_read_K1 b t16 t2 t2_2 t2_3 t2_4 := by
  rw [pfn_eq (by decide)]
  have e2 : (fun l rest t2 t2_2 t2_3 t2_4 s a a_2 a_3 a_4 => (jfn Try.prog ask_read_e 6 18446744073709551616 (Ev.get ask_read_h) 47 ask_read_s) 255 [] (ask_read_k2 l rest t2 t2_2 t2_3 t2_4 s a a_2 a_3 a_4)) = ask_read_K2 := funext fun l => funext fun rest => funext fun t2 => funext fun t2_2 => funext fun t2_3 => funext fun t2_4 => funext fun s => funext fun a => funext fun a_2 => funext fun a_3 => funext fun a_4 => ask_read_g2 l rest t2 t2_2 t2_3 t2_4 s a a_2 a_3 a_4
  rw [ask_read_c1, e2]
  rfl
theorem ask_read_t (x : As [.sl (.int .u8)]) : evT Try.prog ask_read_e 6 18446744073709551616 (Ev.get ask_read_h) 47 ask_read_s x = ask_read x := by
  have e1 : (fun b t16 t2 t2_2 t2_3 t2_4 => (jfn Try.prog ask_read_e 6 18446744073709551616 (Ev.get ask_read_h) 47 ask_read_s) 6 [] (ask_read_k1 b t16 t2 t2_2 t2_3 t2_4)) = ask_read_K1 := funext fun b => funext fun t16 => funext fun t2 => funext fun t2_2 => funext fun t2_3 => funext fun t2_4 => ask_read_g1 b t16 t2 t2_2 t2_3 t2_4
  rw [rfn_eq, ask_read_c0, e1]
  rfl
theorem ask_read_ok : CtOk Try.prog (fun _ => True) 47 ⟨ask_read_s, ask_read⟩ := ct_of_ev (env_cons ask_shape_ok (env_cons ask_list_ok (env_cons ask_written_ok env_nil))) ask_read_t
/-! ask_Parse -/
@[reducible] def ask_Parse_s : Sh := ⟨[.d (.sl (.int .u8))], [], [.sl (.int .u8)], [.d (.pr (.int .u8) LAT3), .d (.int .i64)], [], 0, [.pr (.int .u8) LAT3, .int .i64]⟩
def ask_Parse_e : Env := (cts [(15, (⟨ask_Bytes_s, ask_Bytes⟩ : Ct)), (33, (⟨bytes_Equal_s, bytes_Equal⟩ : Ct)), (47, (⟨ask_read_s, ask_read⟩ : Ct))])
def ask_Parse_h : List (Nat × Hint) := [(61, ⟨[], [2, 4, 28]⟩)]
def ask_Parse_k1 (t28 : Bool) (t2 : Int) (t2_2 : Int) (t2_3 : Int) (t2_4 : Int) (a : VaA1q0) : St := { fr := [(2, .pb 0 0), (4, .pb 1 0), (28, .d .bool t28)], nt := 31, up := [], own := [(0, .box 52 [.d (.int .u8) t2, .d (.int .u16) t2_2, .d (.int .u16) t2_3, .d (.int .u16) t2_4, .k (Go.Value.slice Option.none 0 0), .k (Go.Value.slice Option.none 0 0)]), (1, .box 52 [.d (.int .u8) a.1, .d (.int .u16) a.2.1, .d (.int .u16) a.2.2.1, .d (.int .u16) a.2.2.2.1, .d (.sl (.int .u16)) a.2.2.2.2.1, .d (.sl .bool) a.2.2.2.2.2])], nx := 2, log := [], ln := 0 }
def ask_Parse_m1 (t28 : Bool) (t2 : Int) (t2_2 : Int) (t2_3 : Int) (t2_4 : Int) (a : VaA1q0) : Option (As [.pr (.int .u8) LAT3, .int .i64]) :=
  if t28 = true then some ((0, 0, 0, 0, [], []), 12, ()) else some (a, 0, ())
def ask_Parse_m0 (j1 : Bool → Int → Int → Int → Int → VaA1q0 → Option (As [.pr (.int .u8) LAT3, .int .i64])) (b : List Int) : Option (As [.pr (.int .u8) LAT3, .int .i64]) :=
  Option.bind (ask_read (b, ())) fun (y : (VaA1q0) × Bool × Unit) => if (!y.2.1) = true then some ((0, 0, 0, 0, [], []), 12, ()) else Option.bind (ask_Bytes (y.1, ())) fun (y_1 : List Int × Int × Unit) => if nei y_1.2.1 0 = true then j1 true 0 0 0 0 y.1 else Option.bind (bytes_Equal (y_1.1, b, ())) fun (y_2 : Bool × Unit) => j1 (!y_2.1) 0 0 0 0 y.1
def ask_Parse_K1 (t28 : Bool) (t2 : Int) (t2_2 : Int) (t2_3 : Int) (t2_4 : Int) (a : VaA1q0) : Option (As [.pr (.int .u8) LAT3, .int .i64]) := ask_Parse_m1 t28 t2 t2_2 t2_3 t2_4 a
def ask_Parse (x : As [.sl (.int .u8)]) : Option (As [.pr (.int .u8) LAT3, .int .i64]) := ask_Parse_m0 ask_Parse_K1 x.1
theorem ask_Parse_c1 (J : Orc (As [.pr (.int .u8) LAT3, .int .i64])) (t28 : Bool) (t2 : Int) (t2_2 : Int) (t2_3 : Int) (t2_4 : Int) (a : VaA1q0) : pfn Try.prog ask_Parse_e 6 18446744073709551616 (Ev.get ask_Parse_h) 34 ask_Parse_s J 61 [] (ask_Parse_k1 t28 t2 t2_2 t2_3 t2_4 a) = ask_Parse_m1 t28 t2 t2_2 t2_3 t2_4 a := by kernel_rfl
theorem ask_Parse_c0 (J : Orc (As [.pr (.int .u8) LAT3, .int .i64])) (x : As [.sl (.int .u8)]) : rfn Try.prog ask_Parse_e 6 18446744073709551616 (Ev.get ask_Parse_h) 34 ask_Parse_s J x = ask_Parse_m0 (fun t28 t2 t2_2 t2_3 t2_4 a => J 61 [] (ask_Parse_k1 t28 t2 t2_2 t2_3 t2_4 a)) x.1 := by kernel_rfl
theorem ask_Parse_g1 (t28 : Bool) (t2 : Int) (t2_2 : Int) (t2_3 : Int) (t2_4 : Int) (a : VaA1q0) : jfn Try.prog ask_Parse_e 6 18446744073709551616 (Ev.get ask_Parse_h) 34 ask_Parse_s 61 [] (ask_Parse_k1 t28 t2 t2_2 t2_3 t2_4 a) = ask_Parse_K1 t28 t2 t2_2 t2_3 t2_4 a := by
  rw [pfn_eq (by decide)]
  rw [ask_Parse_c1]
  rfl
theorem ask_Parse_t (x : As [.sl (.int .u8)]) : evT Try.prog ask_Parse_e 6 18446744073709551616 (Ev.get ask_Parse_h) 34 ask_Parse_s x = ask_Parse x := by
  have e1 : (fun t28 t2 t2_2 t2_3 t2_4 a => (jfn Try.prog ask_Parse_e 6 18446744073709551616 (Ev.get ask_Parse_h) 34 ask_Parse_s) 61 [] (ask_Parse_k1 t28 t2 t2_2 t2_3 t2_4 a)) = ask_Parse_K1 := funext fun t28 => funext fun t2 => funext fun t2_2 => funext fun t2_3 => funext fun t2_4 => funext fun a => ask_Parse_g1 t28 t2 t2_2 t2_3 t2_4 a
  rw [rfn_eq, ask_Parse_c0, e1]
  rfl
theorem ask_Parse_ok : CtOk Try.prog (fun _ => True) 34 ⟨ask_Parse_s, ask_Parse⟩ := ct_of_ev (env_cons ask_Bytes_ok (env_cons bytes_Equal_ok (env_cons ask_read_ok env_nil))) ask_Parse_t
/-! ask_Look -/
@[reducible] def ask_Look_s : Sh := ⟨[.d (.sl (.int .u8))], [], [.sl (.int .u8)], [.d (.pr (.int .u8) LAT3), .d (.int .u8)], [], 0, [.pr (.int .u8) LAT3, .int .u8]⟩
def ask_Look_e : Env := (cts [(34, (⟨ask_Parse_s, ask_Parse⟩ : Ct)), (35, (⟨ask_shape_s, ask_shape⟩ : Ct))])
def ask_Look_h : List (Nat × Hint) := []
def ask_Look_m0 (b : List Int) : Option (As [.pr (.int .u8) LAT3, .int .u8]) :=
  if eqi (Int.ofNat (List.length b)) 0 = true then some ((0, 0, 0, 0, [], []), 1, ()) else Option.bind (ask_Parse (b, ())) fun (y : (VaA1q0) × Int × Unit) => if eqi y.2.1 0 = true then some (y.1, 0, ()) else Option.bind (at? b 0) fun (y : Int) => Option.bind (at? b 0) fun (y_1 : Int) => Option.bind (ask_shape (y_1, ())) fun (y_2 : (VaA1q1) × Bool × Unit) => if (!y_2.2.1) = true then some ((y, 0, 0, 0, [], []), 1, ()) else some ((y, 0, 0, 0, [], []), 3, ())
def ask_Look (x : As [.sl (.int .u8)]) : Option (As [.pr (.int .u8) LAT3, .int .u8]) := ask_Look_m0 x.1
theorem ask_Look_c0 (J : Orc (As [.pr (.int .u8) LAT3, .int .u8])) (x : As [.sl (.int .u8)]) : rfn Try.prog ask_Look_e 6 18446744073709551616 (Ev.get ask_Look_h) 14 ask_Look_s J x = ask_Look_m0 x.1 := by kernel_rfl
theorem ask_Look_t (x : As [.sl (.int .u8)]) : evT Try.prog ask_Look_e 6 18446744073709551616 (Ev.get ask_Look_h) 14 ask_Look_s x = ask_Look x := by
  rw [rfn_eq, ask_Look_c0]
  rfl
theorem ask_Look_ok : CtOk Try.prog (fun _ => True) 14 ⟨ask_Look_s, ask_Look⟩ := ct_of_ev (env_cons ask_Parse_ok (env_cons ask_shape_ok env_nil)) ask_Look_t
/-! reply_Wrong -/
@[reducible] def reply_Wrong_s : Sh := ⟨[.d (.int .u8), .d (.int .u8)], [], [.int .u8, .int .u8], [.d (.pr (.int .u8) LAT1)], [], 0, [.pr (.int .u8) LAT1]⟩
def reply_Wrong_e : Env := (cts [])
def reply_Wrong_h : List (Nat × Hint) := []
def reply_Wrong_m0 (f : Int) (except : Int) : Option (As [.pr (.int .u8) LAT1]) :=
  some ((rem f 128, except, [], [], 0, 0), ())
def reply_Wrong (x : As [.int .u8, .int .u8]) : Option (As [.pr (.int .u8) LAT1]) := reply_Wrong_m0 x.1 x.2.1
theorem reply_Wrong_c0 (J : Orc (As [.pr (.int .u8) LAT1])) (x : As [.int .u8, .int .u8]) : rfn Try.prog reply_Wrong_e 6 18446744073709551616 (Ev.get reply_Wrong_h) 44 reply_Wrong_s J x = reply_Wrong_m0 x.1 x.2.1 := by kernel_rfl
theorem reply_Wrong_t (x : As [.int .u8, .int .u8]) : evT Try.prog reply_Wrong_e 6 18446744073709551616 (Ev.get reply_Wrong_h) 44 reply_Wrong_s x = reply_Wrong x := by
  rw [rfn_eq, reply_Wrong_c0]
  rfl
theorem reply_Wrong_ok : CtOk Try.prog (fun _ => True) 44 ⟨reply_Wrong_s, reply_Wrong⟩ := ct_of_ev env_nil reply_Wrong_t
/-! slices_Equal_Gbool -/
@[reducible] def slices_Equal_Gbool_s : Sh := ⟨[.d (.sl .bool), .d (.sl .bool)], [], [.sl .bool, .sl .bool], [.d (.bool)], [], 0, [.bool]⟩
def slices_Equal_Gbool_e : Env := (cts [])
def slices_Equal_Gbool_h : List (Nat × Hint) := [(58, ⟨[], [0, 1, 12, 13]⟩)]
def slices_Equal_Gbool_k1 (s1 : List Bool) (s2 : List Bool) (t12 : Int) (t13 : Int) : St := { fr := [(0, .d (.sl .bool) s1), (1, .d (.sl .bool) s2), (12, .d (.int .i64) t12), (13, .d (.int .i64) t13)], nt := 26, up := [], own := [], nx := 0, log := [], ln := 0 }
def slices_Equal_Gbool_m1 (self1 : List Bool → List Bool → Int → Int → Option (As [.bool])) (s1 : List Bool) (s2 : List Bool) (t12 : Int) (t13 : Int) : Option (As [.bool]) :=
  if lt t13 t12 = true then Option.bind (at? s1 t13) fun (y : Bool) => Option.bind (at? s2 t13) fun (y_1 : Bool) => if Sx.neb y y_1 = true then some (false, ()) else self1 s1 s2 t12 (add .i64 t13 1) else some (true, ())
def slices_Equal_Gbool_m0 (j1 : List Bool → List Bool → Int → Int → Option (As [.bool])) (s1 : List Bool) (s2 : List Bool) : Option (As [.bool]) :=
  if nei (Int.ofNat (List.length s1)) (Int.ofNat (List.length s2)) = true then some (false, ()) else j1 s1 s2 (Int.ofNat (List.length s1)) 0
def slices_Equal_Gbool_K1 (s1 : List Bool) (s2 : List Bool) (t12 : Int) (t13 : Int) : Option (As [.bool]) :=
  loopF (fun (self : (List Bool) × (List Bool) × (Int) × (Int) → Option (As [.bool])) (s : (List Bool) × (List Bool) × (Int) × (Int)) => slices_Equal_Gbool_m1 (fun s1 s2 t12 t13 => self (s1, s2, t12, t13)) s.1 s.2.1 s.2.2.1 s.2.2.2) 18446744073709551616 (s1, s2, t12, t13)
def slices_Equal_Gbool (x : As [.sl .bool, .sl .bool]) : Option (As [.bool]) := slices_Equal_Gbool_m0 slices_Equal_Gbool_K1 x.1 x.2.1
theorem slices_Equal_Gbool_c1 (J : Orc (As [.bool])) (w1 : St → Option (As [.bool])) (s1 : List Bool) (s2 : List Bool) (t12 : Int) (t13 : Int) : pfn Try.prog slices_Equal_Gbool_e 6 18446744073709551616 (Ev.get slices_Equal_Gbool_h) 91 slices_Equal_Gbool_s J 58 [w1] (slices_Equal_Gbool_k1 s1 s2 t12 t13) = slices_Equal_Gbool_m1 (fun s1 s2 t12 t13 => w1 (slices_Equal_Gbool_k1 s1 s2 t12 t13)) s1 s2 t12 t13 := by kernel_rfl
theorem slices_Equal_Gbool_c0 (J : Orc (As [.bool])) (x : As [.sl .bool, .sl .bool]) : rfn Try.prog slices_Equal_Gbool_e 6 18446744073709551616 (Ev.get slices_Equal_Gbool_h) 91 slices_Equal_Gbool_s J x = slices_Equal_Gbool_m0 (fun s1 s2 t12 t13 => J 58 [] (slices_Equal_Gbool_k1 s1 s2 t12 t13)) x.1 x.2.1 := by kernel_rfl
theorem slices_Equal_Gbool_g1 (s1 : List Bool) (s2 : List Bool) (t12 : Int) (t13 : Int) : jfn Try.prog slices_Equal_Gbool_e 6 18446744073709551616 (Ev.get slices_Equal_Gbool_h) 91 slices_Equal_Gbool_s 58 [] (slices_Equal_Gbool_k1 s1 s2 t12 t13) = slices_Equal_Gbool_K1 s1 s2 t12 t13 := by
  rw [pfn_eq (by decide)]
  rw [pfn_loop (by kernel_rfl)]
  refine loopF_sim (σ := (List Bool) × (List Bool) × (Int) × (Int)) (mk := fun s => slices_Equal_Gbool_k1 s.1 s.2.1 s.2.2.1 s.2.2.2) (fun w1 s => ?_) 18446744073709551616 (s1, s2, t12, t13)
  refine (slices_Equal_Gbool_c1 _ w1 s.1 s.2.1 s.2.2.1 s.2.2.2).trans ?_
  rfl
theorem slices_Equal_Gbool_t (x : As [.sl .bool, .sl .bool]) : evT Try.prog slices_Equal_Gbool_e 6 18446744073709551616 (Ev.get slices_Equal_Gbool_h) 91 slices_Equal_Gbool_s x = slices_Equal_Gbool x := by
  have e1 : (fun s1 s2 t12 t13 => (jfn Try.prog slices_Equal_Gbool_e 6 18446744073709551616 (Ev.get slices_Equal_Gbool_h) 91 slices_Equal_Gbool_s) 58 [] (slices_Equal_Gbool_k1 s1 s2 t12 t13)) = slices_Equal_Gbool_K1 := funext fun s1 => funext fun s2 => funext fun t12 => funext fun t13 => slices_Equal_Gbool_g1 s1 s2 t12 t13
  rw [rfn_eq, slices_Equal_Gbool_c0, e1]
  rfl
theorem slices_Equal_Gbool_ok : CtOk Try.prog (fun _ => True) 91 ⟨slices_Equal_Gbool_s, slices_Equal_Gbool⟩ := ct_of_ev env_nil slices_Equal_Gbool_t
/-! slices_Equal_Guint16 -/
@[reducible] def slices_Equal_Guint16_s : Sh := ⟨[.d (.sl (.int .u16)), .d (.sl (.int .u16))], [], [.sl (.int .u16), .sl (.int .u16)], [.d (.bool)], [], 0, [.bool]⟩
def slices_Equal_Guint16_e : Env := (cts [])
def slices_Equal_Guint16_h : List (Nat × Hint) := [(58, ⟨[], [0, 1, 12, 13]⟩)]
def slices_Equal_Guint16_k1 (s1 : List Int) (s2 : List Int) (t12 : Int) (t13 : Int) : St := { fr := [(0, .d (.sl (.int .u16)) s1), (1, .d (.sl (.int .u16)) s2), (12, .d (.int .i64) t12), (13, .d (.int .i64) t13)], nt := 26, up := [], own := [], nx := 0, log := [], ln := 0 }
def slices_Equal_Guint16_m1 (self1 : List Int → List Int → Int → Int → Option (As [.bool])) (s1 : List Int) (s2 : List Int) (t12 : Int) (t13 : Int) : Option (As [.bool]) :=
  if lt t13 t12 = true then Option.bind (at? s1 t13) fun (y : Int) => Option.bind (at? s2 t13) fun (y_1 : Int) => if nei y y_1 = true then some (false, ()) else self1 s1 s2 t12 (add .i64 t13 1) else some (true, ())
def slices_Equal_Guint16_m0 (j1 : List Int → List Int → Int → Int → Option (As [.bool])) (s1 : List Int) (s2 : List Int) : Option (As [.bool]) :=
  if nei (Int.ofNat (List.length s1)) (Int.ofNat (List.length s2)) = true then some (false, ()) else j1 s1 s2 (Int.ofNat (List.length s1)) 0
def slices_Equal_Guint16_K1 (s1 : List Int) (s2 : List Int) (t12 : Int) (t13 : Int) : Option (As [.bool]) :=
  loopF (fun (self : (List Int) × (List Int) × (Int) × (Int) → Option (As [.bool])) (s : (List Int) × (List Int) × (Int) × (Int)) => slices_Equal_Guint16_m1 (fun s1 s2 t12 t13 => self (s1, s2, t12, t13)) s.1 s.2.1 s.2.2.1 s.2.2.2) 18446744073709551616 (s1, s2, t12, t13)
def slices_Equal_Guint16 (x : As [.sl (.int .u16), .sl (.int .u16)]) : Option (As [.bool]) := slices_Equal_Guint16_m0 slices_Equal_Guint16_K1 x.1 x.2.1
theorem slices_Equal_Guint16_c1 (J : Orc (As [.bool])) (w1 : St → Option (As [.bool])) (s1 : List Int) (s2 : List Int) (t12 : Int) (t13 : Int) : pfn Try.prog slices_Equal_Guint16_e 6 18446744073709551616 (Ev.get slices_Equal_Guint16_h) 92 slices_Equal_Guint16_s J 58 [w1] (slices_Equal_Guint16_k1 s1 s2 t12 t13) = slices_Equal_Guint16_m1 (fun s1 s2 t12 t13 => w1 (slices_Equal_Guint16_k1 s1 s2 t12 t13)) s1 s2 t12 t13 := by kernel_rfl
theorem slices_Equal_Guint16_c0 (J : Orc (As [.bool])) (x : As [.sl (.int .u16), .sl (.int .u16)]) : rfn Try.prog slices_Equal_Guint16_e 6 18446744073709551616 (Ev.get slices_Equal_Guint16_h) 92 slices_Equal_Guint16_s J x = slices_Equal_Guint16_m0 (fun s1 s2 t12 t13 => J 58 [] (slices_Equal_Guint16_k1 s1 s2 t12 t13)) x.1 x.2.1 := by kernel_rfl
theorem slices_Equal_Guint16_g1 (s1 : List Int) (s2 : List Int) (t12 : Int) (t13 : Int) : jfn Try.prog slices_Equal_Guint16_e 6 18446744073709551616 (Ev.get slices_Equal_Guint16_h) 92 slices_Equal_Guint16_s 58 [] (slices_Equal_Guint16_k1 s1 s2 t12 t13) = slices_Equal_Guint16_K1 s1 s2 t12 t13 := by
  rw [pfn_eq (by decide)]
  rw [pfn_loop (by kernel_rfl)]
  refine loopF_sim (σ := (List Int) × (List Int) × (Int) × (Int)) (mk := fun s => slices_Equal_Guint16_k1 s.1 s.2.1 s.2.2.1 s.2.2.2) (fun w1 s => ?_) 18446744073709551616 (s1, s2, t12, t13)
  refine (slices_Equal_Guint16_c1 _ w1 s.1 s.2.1 s.2.2.1 s.2.2.2).trans ?_
  rfl
theorem slices_Equal_Guint16_t (x : As [.sl (.int .u16), .sl (.int .u16)]) : evT Try.prog slices_Equal_Guint16_e 6 18446744073709551616 (Ev.get slices_Equal_Guint16_h) 92 slices_Equal_Guint16_s x = slices_Equal_Guint16 x := by
  have e1 : (fun s1 s2 t12 t13 => (jfn Try.prog slices_Equal_Guint16_e 6 18446744073709551616 (Ev.get slices_Equal_Guint16_h) 92 slices_Equal_Guint16_s) 58 [] (slices_Equal_Guint16_k1 s1 s2 t12 t13)) = slices_Equal_Guint16_K1 := funext fun s1 => funext fun s2 => funext fun t12 => funext fun t13 => slices_Equal_Guint16_g1 s1 s2 t12 t13
  rw [rfn_eq, slices_Equal_Guint16_c0, e1]
  rfl
theorem slices_Equal_Guint16_ok : CtOk Try.prog (fun _ => True) 92 ⟨slices_Equal_Guint16_s, slices_Equal_Guint16⟩ := ct_of_ev env_nil slices_Equal_Guint16_t
/-! reply_Same -/
@[reducible] def reply_Same_s : Sh := ⟨[.d (.pr (.int .u8) LAT1), .d (.pr (.int .u8) LAT1)], [], [.pr (.int .u8) LAT1, .pr (.int .u8) LAT1], [.d (.bool)], [], 0, [.bool]⟩
def reply_Same_e : Env := (cts [(91, (⟨slices_Equal_Gbool_s, slices_Equal_Gbool⟩ : Ct)), (92, (⟨slices_Equal_Guint16_s, slices_Equal_Guint16⟩ : Ct))])
def reply_Same_h : List (Nat × Hint) := []
def reply_Same_m0 (a : VaA1q2) (b : VaA1q2) : Option (As [.bool]) :=
  if eqi a.1 b.1 = true then if eqi a.2.1 b.2.1 = true then if eqi a.2.2.2.2.1 b.2.2.2.2.1 = true then if eqi a.2.2.2.2.2 b.2.2.2.2.2 = true then Option.bind (slices_Equal_Gbool (a.2.2.1, b.2.2.1, ())) fun (y : Bool × Unit) => if y.1 = true then Option.bind (slices_Equal_Guint16 (a.2.2.2.1, b.2.2.2.1, ())) fun (y : Bool × Unit) => some (y.1, ()) else some (false, ()) else some (false, ()) else some (false, ()) else some (false, ()) else some (false, ())
def reply_Same (x : As [.pr (.int .u8) LAT1, .pr (.int .u8) LAT1]) : Option (As [.bool]) := reply_Same_m0 x.1 x.2.1
theorem reply_Same_c0 (J : Orc (As [.bool])) (x : As [.pr (.int .u8) LAT1, .pr (.int .u8) LAT1]) : rfn Try.prog reply_Same_e 6 18446744073709551616 (Ev.get reply_Same_h) 90 reply_Same_s J x = reply_Same_m0 x.1 x.2.1 := by kernel_rfl
theorem reply_Same_t (x : As [.pr (.int .u8) LAT1, .pr (.int .u8) LAT1]) : evT Try.prog reply_Same_e 6 18446744073709551616 (Ev.get reply_Same_h) 90 reply_Same_s x = reply_Same x := by
  rw [rfn_eq, reply_Same_c0]
  rfl
theorem reply_Same_ok : CtOk Try.prog (fun _ => True) 90 ⟨reply_Same_s, reply_Same⟩ := ct_of_ev (env_cons slices_Equal_Gbool_ok (env_cons slices_Equal_Guint16_ok env_nil)) reply_Same_t
/-! reply_exception_right -/
@[reducible] def reply_exception_right_s : Sh := ⟨[.d (.un), .d (.pr (.int .u8) LAT1)], [], [.un, .pr (.int .u8) LAT1], [.d (.bool)], [], 0, [.bool]⟩
def reply_exception_right_e : Env := (cts [(44, (⟨reply_Wrong_s, reply_Wrong⟩ : Ct)), (90, (⟨reply_Same_s, reply_Same⟩ : Ct))])
def reply_exception_right_h : List (Nat × Hint) := []
def reply_exception_right_m0 (v : Unit) (r : VaA1q2) : Option (As [.bool]) :=
  if lt r.1 128 = true then if ge r.2.1 1 = true then if le r.2.1 4 = true then Option.bind (reply_Wrong (r.1, r.2.1, ())) fun (y : (VaA1q2) × Unit) => Option.bind (reply_Same (r, y.1, ())) fun (y : Bool × Unit) => some (y.1, ()) else some (false, ()) else some (false, ()) else some (false, ())
def reply_exception_right (x : As [.un, .pr (.int .u8) LAT1]) : Option (As [.bool]) := reply_exception_right_m0 x.1 x.2.1
theorem reply_exception_right_c0 (J : Orc (As [.bool])) (x : As [.un, .pr (.int .u8) LAT1]) : rfn Try.prog reply_exception_right_e 6 18446744073709551616 (Ev.get reply_exception_right_h) 88 reply_exception_right_s J x = reply_exception_right_m0 x.1 x.2.1 := by kernel_rfl
theorem reply_exception_right_t (x : As [.un, .pr (.int .u8) LAT1]) : evT Try.prog reply_exception_right_e 6 18446744073709551616 (Ev.get reply_exception_right_h) 88 reply_exception_right_s x = reply_exception_right x := by
  rw [rfn_eq, reply_exception_right_c0]
  rfl
theorem reply_exception_right_ok : CtOk Try.prog (fun _ => True) 88 ⟨reply_exception_right_s, reply_exception_right⟩ := ct_of_ev (env_cons reply_Wrong_ok (env_cons reply_Same_ok env_nil)) reply_exception_right_t
/-! reply_exception_write -/
@[reducible] def reply_exception_write_s : Sh := ⟨[.d (.un), .d (.pr (.int .u8) LAT1)], [], [.un, .pr (.int .u8) LAT1], [.d (.sl (.int .u8))], [], 0, [.sl (.int .u8)]⟩
def reply_exception_write_e : Env := (cts [])
def reply_exception_write_h : List (Nat × Hint) := []
def reply_exception_write_m0 (v : Unit) (r : VaA1q2) : Option (As [.sl (.int .u8)]) :=
  some ([add .u8 r.1 128, r.2.1], ())
def reply_exception_write (x : As [.un, .pr (.int .u8) LAT1]) : Option (As [.sl (.int .u8)]) := reply_exception_write_m0 x.1 x.2.1
theorem reply_exception_write_c0 (J : Orc (As [.sl (.int .u8)])) (x : As [.un, .pr (.int .u8) LAT1]) : rfn Try.prog reply_exception_write_e 6 18446744073709551616 (Ev.get reply_exception_write_h) 89 reply_exception_write_s J x = reply_exception_write_m0 x.1 x.2.1 := by kernel_rfl
theorem reply_exception_write_t (x : As [.un, .pr (.int .u8) LAT1]) : evT Try.prog reply_exception_write_e 6 18446744073709551616 (Ev.get reply_exception_write_h) 89 reply_exception_write_s x = reply_exception_write x := by
  rw [rfn_eq, reply_exception_write_c0]
  rfl
theorem reply_exception_write_ok : CtOk Try.prog (fun _ => True) 89 ⟨reply_exception_write_s, reply_exception_write⟩ := ct_of_ev env_nil reply_exception_write_t
/-! reply_bitList_right -/
@[reducible] def reply_bitList_right_s : Sh := ⟨[.d (.un), .d (.pr (.int .u8) LAT1)], [], [.un, .pr (.int .u8) LAT1], [.d (.bool)], [], 0, [.bool]⟩
def reply_bitList_right_e : Env := (cts [(90, (⟨reply_Same_s, reply_Same⟩ : Ct))])
def reply_bitList_right_h : List (Nat × Hint) := []
def reply_bitList_right_m0 (v : Unit) (r : VaA1q2) : Option (As [.bool]) :=
  if ge (Int.ofNat (List.length r.2.2.1)) 8 = true then if le (Int.ofNat (List.length r.2.2.1)) 2000 = true then if eqi (rem (Int.ofNat (List.length r.2.2.1)) 8) 0 = true then Option.bind (reply_Same (r, (r.1, 0, r.2.2.1, [], 0, 0), ())) fun (y : Bool × Unit) => some (y.1, ()) else some (false, ()) else some (false, ()) else some (false, ())
def reply_bitList_right (x : As [.un, .pr (.int .u8) LAT1]) : Option (As [.bool]) := reply_bitList_right_m0 x.1 x.2.1
theorem reply_bitList_right_c0 (J : Orc (As [.bool])) (x : As [.un, .pr (.int .u8) LAT1]) : rfn Try.prog reply_bitList_right_e 6 18446744073709551616 (Ev.get reply_bitList_right_h) 94 reply_bitList_right_s J x = reply_bitList_right_m0 x.1 x.2.1 := by kernel_rfl
theorem reply_bitList_right_t (x : As [.un, .pr (.int .u8) LAT1]) : evT Try.prog reply_bitList_right_e 6 18446744073709551616 (Ev.get reply_bitList_right_h) 94 reply_bitList_right_s x = reply_bitList_right x := by
  rw [rfn_eq, reply_bitList_right_c0]
  rfl
theorem reply_bitList_right_ok : CtOk Try.prog (fun _ => True) 94 ⟨reply_bitList_right_s, reply_bitList_right⟩ := ct_of_ev (env_cons reply_Same_ok env_nil) reply_bitList_right_t
/-! reply_bitList_write -/
@[reducible] def reply_bitList_write_s : Sh := ⟨[.d (.un), .d (.pr (.int .u8) LAT1)], [], [.un, .pr (.int .u8) LAT1], [.d (.sl (.int .u8))], [], 0, [.sl (.int .u8)]⟩
def reply_bitList_write_e : Env := (cts [(38, (⟨ask_Pack_s, ask_Pack⟩ : Ct))])
def reply_bitList_write_h : List (Nat × Hint) := []
def reply_bitList_write_m0 (v : Unit) (r : VaA1q2) : Option (As [.sl (.int .u8)]) :=
  Option.bind (ask_Pack (r.2.2.1, ())) fun (y : List Int × Unit) => need (small (Nat.succ (Nat.succ 0) + List.length y.1)) (some (r.1 :: cvt .u8 (Int.ofNat (List.length y.1)) :: y.1, ()))
def reply_bitList_write (x : As [.un, .pr (.int .u8) LAT1]) : Option (As [.sl (.int .u8)]) := reply_bitList_write_m0 x.1 x.2.1
theorem reply_bitList_write_c0 (J : Orc (As [.sl (.int .u8)])) (x : As [.un, .pr (.int .u8) LAT1]) : rfn Try.prog reply_bitList_write_e 6 18446744073709551616 (Ev.get reply_bitList_write_h) 95 reply_bitList_write_s J x = reply_bitList_write_m0 x.1 x.2.1 := by kernel_rfl
theorem reply_bitList_write_t (x : As [.un, .pr (.int .u8) LAT1]) : evT Try.prog reply_bitList_write_e 6 18446744073709551616 (Ev.get reply_bitList_write_h) 95 reply_bitList_write_s x = reply_bitList_write x := by
  rw [rfn_eq, reply_bitList_write_c0]
  rfl
theorem reply_bitList_write_ok : CtOk Try.prog (fun _ => True) 95 ⟨reply_bitList_write_s, reply_bitList_write⟩ := ct_of_ev (env_cons ask_Pack_ok env_nil) reply_bitList_write_t
/-! reply_wordList_right -/
@[reducible] def reply_wordList_right_s : Sh := ⟨[.d (.un), .d (.pr (.int .u8) LAT1)], [], [.un, .pr (.int .u8) LAT1], [.d (.bool)], [], 0, [.bool]⟩
def reply_wordList_right_e : Env := (cts [(90, (⟨reply_Same_s, reply_Same⟩ : Ct))])
def reply_wordList_right_h : List (Nat × Hint) := []
def reply_wordList_right_m0 (v : Unit) (r : VaA1q2) : Option (As [.bool]) :=
  if ge (Int.ofNat (List.length r.2.2.2.1)) 1 = true then if le (Int.ofNat (List.length r.2.2.2.1)) 125 = true then Option.bind (reply_Same (r, (r.1, 0, [], r.2.2.2.1, 0, 0), ())) fun (y : Bool × Unit) => some (y.1, ()) else some (false, ()) else some (false, ())
def reply_wordList_right (x : As [.un, .pr (.int .u8) LAT1]) : Option (As [.bool]) := reply_wordList_right_m0 x.1 x.2.1
theorem reply_wordList_right_c0 (J : Orc (As [.bool])) (x : As [.un, .pr (.int .u8) LAT1]) : rfn Try.prog reply_wordList_right_e 6 18446744073709551616 (Ev.get reply_wordList_right_h) 97 reply_wordList_right_s J x = reply_wordList_right_m0 x.1 x.2.1 := by kernel_rfl
theorem reply_wordList_right_t (x : As [.un, .pr (.int .u8) LAT1]) : evT Try.prog reply_wordList_right_e 6 18446744073709551616 (Ev.get reply_wordList_right_h) 97 reply_wordList_right_s x = reply_wordList_right x := by
  rw [rfn_eq, reply_wordList_right_c0]
  rfl
theorem reply_wordList_right_ok : CtOk Try.prog (fun _ => True) 97 ⟨reply_wordList_right_s, reply_wordList_right⟩ := ct_of_ev (env_cons reply_Same_ok env_nil) reply_wordList_right_t
/-! reply_numbers -/
@[reducible] def reply_numbers_s : Sh := ⟨[.row 0, .d (.sl (.int .u16))], [.row (.int .u8) 5], [.sl (.int .u16), .sl (.int .u8)], [.row 1], [(1, .row (.int .u8) 5)], 1, [.sl (.int .u8)]⟩
def reply_numbers_e : Env := (cts [])
def reply_numbers_h : List (Nat × Hint) := [(26, ⟨[.unl 0], [0, 7, 8, 9]⟩)]
def reply_numbers_k1 (t7 : List Int) (t8 : Int) (t9 : Int) (out : List Int) : St := { fr := [(0, .row 1), (7, .d (.sl (.int .u16)) t7), (8, .d (.int .i64) t8), (9, .d (.int .i64) t9)], nt := 23, up := [], own := [(1, .row (.int .u8) 5 out)], nx := 2, log := [], ln := 1 }
def reply_numbers_m1 (self1 : List Int → Int → Int → List Int → Option (As [.sl (.int .u8)])) (t7 : List Int) (t8 : Int) (t9 : Int) (out : List Int) : Option (As [.sl (.int .u8)]) :=
  if lt t9 t8 = true then Option.bind (at? t7 t9) fun (y : Int) => need (small (List.length out + Nat.succ (Nat.succ 0))) (self1 t7 t8 (add .i64 t9 1) (out ++ [cvt .u8 (Sx.shr .u16 y 8), cvt .u8 y])) else some (out, ())
def reply_numbers_m0 (j1 : List Int → Int → Int → List Int → Option (As [.sl (.int .u8)])) (out : List Int) (l : List Int) : Option (As [.sl (.int .u8)]) :=
  j1 out (Int.ofNat (List.length out)) 0 l
def reply_numbers_K1 (t7 : List Int) (t8 : Int) (t9 : Int) (out : List Int) : Option (As [.sl (.int .u8)]) :=
  loopF (fun (self : (List Int) × (Int) × (Int) × (List Int) → Option (As [.sl (.int .u8)])) (s : (List Int) × (Int) × (Int) × (List Int)) => reply_numbers_m1 (fun t7 t8 t9 out => self (t7, t8, t9, out)) s.1 s.2.1 s.2.2.1 s.2.2.2) 18446744073709551616 (t7, t8, t9, out)
def reply_numbers (x : As [.sl (.int .u16), .sl (.int .u8)]) : Option (As [.sl (.int .u8)]) := reply_numbers_m0 reply_numbers_K1 x.1 x.2.1
theorem reply_numbers_c1 (J : Orc (As [.sl (.int .u8)])) (w1 : St → Option (As [.sl (.int .u8)])) (t7 : List Int) (t8 : Int) (t9 : Int) (out : List Int) : pfn Try.prog reply_numbers_e 6 18446744073709551616 (Ev.get reply_numbers_h) 100 reply_numbers_s J 26 [w1] (reply_numbers_k1 t7 t8 t9 out) = reply_numbers_m1 (fun t7 t8 t9 out => w1 (reply_numbers_k1 t7 t8 t9 out)) t7 t8 t9 out := by kernel_rfl
theorem reply_numbers_c0 (J : Orc (As [.sl (.int .u8)])) (x : As [.sl (.int .u16), .sl (.int .u8)]) : rfn Try.prog reply_numbers_e 6 18446744073709551616 (Ev.get reply_numbers_h) 100 reply_numbers_s J x = reply_numbers_m0 (fun t7 t8 t9 out => J 26 [] (reply_numbers_k1 t7 t8 t9 out)) x.1 x.2.1 := by kernel_rfl
theorem reply_numbers_g1 (t7 : List Int) (t8 : Int) (t9 : Int) (out : List Int) : jfn Try.prog reply_numbers_e 6 18446744073709551616 (Ev.get reply_numbers_h) 100 reply_numbers_s 26 [] (reply_numbers_k1 t7 t8 t9 out) = reply_numbers_K1 t7 t8 t9 out := by
  rw [pfn_eq (by decide)]
  rw [pfn_loop (by kernel_rfl)]
  refine loopF_sim (σ := (List Int) × (Int) × (Int) × (List Int)) (mk := fun s => reply_numbers_k1 s.1 s.2.1 s.2.2.1 s.2.2.2) (fun w1 s => ?_) 18446744073709551616 (t7, t8, t9, out)
  refine (reply_numbers_c1 _ w1 s.1 s.2.1 s.2.2.1 s.2.2.2).trans ?_
  rfl
theorem reply_numbers_t (x : As [.sl (.int .u16), .sl (.int .u8)]) : evT Try.prog reply_numbers_e 6 18446744073709551616 (Ev.get reply_numbers_h) 100 reply_numbers_s x = reply_numbers x := by
  have e1 : (fun t7 t8 t9 out => (jfn Try.prog reply_numbers_e 6 18446744073709551616 (Ev.get reply_numbers_h) 100 reply_numbers_s) 26 [] (reply_numbers_k1 t7 t8 t9 out)) = reply_numbers_K1 := funext fun t7 => funext fun t8 => funext fun t9 => funext fun out => reply_numbers_g1 t7 t8 t9 out
  rw [rfn_eq, reply_numbers_c0, e1]
  rfl
theorem reply_numbers_ok : CtOk Try.prog (fun _ => True) 100 ⟨reply_numbers_s, reply_numbers⟩ := ct_of_ev env_nil reply_numbers_t
/-! reply_wordList_write -/
@[reducible] def reply_wordList_write_s : Sh := ⟨[.d (.un), .d (.pr (.int .u8) LAT1)], [], [.un, .pr (.int .u8) LAT1], [.d (.sl (.int .u8))], [], 0, [.sl (.int .u8)]⟩
def reply_wordList_write_e : Env := (cts [(100, (⟨reply_numbers_s, reply_numbers⟩ : Ct))])
def reply_wordList_write_h : List (Nat × Hint) := []
def reply_wordList_write_m0 (v : Unit) (r : VaA1q2) : Option (As [.sl (.int .u8)]) :=
  Option.bind (reply_numbers (r.2.2.2.1, [r.1, cvt .u8 (mul .i64 2 (Int.ofNat (List.length r.2.2.2.1)))], ())) fun (y : List Int × Unit) => some (y.1, ())
def reply_wordList_write (x : As [.un, .pr (.int .u8) LAT1]) : Option (As [.sl (.int .u8)]) := reply_wordList_write_m0 x.1 x.2.1
theorem reply_wordList_write_c0 (J : Orc (As [.sl (.int .u8)])) (x : As [.un, .pr (.int .u8) LAT1]) : rfn Try.prog reply_wordList_write_e 6 18446744073709551616 (Ev.get reply_wordList_write_h) 98 reply_wordList_write_s J x = reply_wordList_write_m0 x.1 x.2.1 := by kernel_rfl
theorem reply_wordList_write_t (x : As [.un, .pr (.int .u8) LAT1]) : evT Try.prog reply_wordList_write_e 6 18446744073709551616 (Ev.get reply_wordList_write_h) 98 reply_wordList_write_s x = reply_wordList_write x := by
  rw [rfn_eq, reply_wordList_write_c0]
  rfl
theorem reply_wordList_write_ok : CtOk Try.prog (fun _ => True) 98 ⟨reply_wordList_write_s, reply_wordList_write⟩ := ct_of_ev (env_cons reply_numbers_ok env_nil) reply_wordList_write_t
/-! reply_oneBit_right -/
@[reducible] def reply_oneBit_right_s : Sh := ⟨[.d (.un), .d (.pr (.int .u8) LAT1)], [], [.un, .pr (.int .u8) LAT1], [.d (.bool)], [], 0, [.bool]⟩
def reply_oneBit_right_e : Env := (cts [(90, (⟨reply_Same_s, reply_Same⟩ : Ct))])
def reply_oneBit_right_h : List (Nat × Hint) := []
def reply_oneBit_right_m0 (v : Unit) (r : VaA1q2) : Option (As [.bool]) :=
  if eqi (Int.ofNat (List.length r.2.2.1)) 1 = true then Option.bind (reply_Same (r, (r.1, 0, r.2.2.1, [], r.2.2.2.2.1, 0), ())) fun (y : Bool × Unit) => some (y.1, ()) else some (false, ())
def reply_oneBit_right (x : As [.un, .pr (.int .u8) LAT1]) : Option (As [.bool]) := reply_oneBit_right_m0 x.1 x.2.1
theorem reply_oneBit_right_c0 (J : Orc (As [.bool])) (x : As [.un, .pr (.int .u8) LAT1]) : rfn Try.prog reply_oneBit_right_e 6 18446744073709551616 (Ev.get reply_oneBit_right_h) 102 reply_oneBit_right_s J x = reply_oneBit_right_m0 x.1 x.2.1 := by kernel_rfl
theorem reply_oneBit_right_t (x : As [.un, .pr (.int .u8) LAT1]) : evT Try.prog reply_oneBit_right_e 6 18446744073709551616 (Ev.get reply_oneBit_right_h) 102 reply_oneBit_right_s x = reply_oneBit_right x := by
  rw [rfn_eq, reply_oneBit_right_c0]
  rfl
theorem reply_oneBit_right_ok : CtOk Try.prog (fun _ => True) 102 ⟨reply_oneBit_right_s, reply_oneBit_right⟩ := ct_of_ev (env_cons reply_Same_ok env_nil) reply_oneBit_right_t
/-! reply_oneBit_write -/
@[reducible] def reply_oneBit_write_s : Sh := ⟨[.d (.un), .d (.pr (.int .u8) LAT1)], [], [.un, .pr (.int .u8) LAT1], [.d (.sl (.int .u8))], [], 0, [.sl (.int .u8)]⟩
def reply_oneBit_write_e : Env := (cts [(100, (⟨reply_numbers_s, reply_numbers⟩ : Ct))])
def reply_oneBit_write_h : List (Nat × Hint) := [(7, ⟨[], [3, 5]⟩)]
def reply_oneBit_write_k1 (x : Int) (r : VaA1q2) : St := { fr := [(3, .pb 0 0), (5, .d (.int .u16) x)], nt := 18, up := [], own := [(0, .box 55 [.d (.int .u8) r.1, .d (.int .u8) r.2.1, .d (.sl .bool) r.2.2.1, .d (.sl (.int .u16)) r.2.2.2.1, .d (.int .u16) r.2.2.2.2.1, .d (.int .u16) r.2.2.2.2.2])], nx := 1, log := [], ln := 0 }
def reply_oneBit_write_m1 (x : Int) (r : VaA1q2) : Option (As [.sl (.int .u8)]) :=
  Option.bind (reply_numbers ([r.2.2.2.2.1, x], [r.1], ())) fun (y : List Int × Unit) => some (y.1, ())
def reply_oneBit_write_m0 (j1 : Int → VaA1q2 → Option (As [.sl (.int .u8)])) (v : Unit) (r : VaA1q2) : Option (As [.sl (.int .u8)]) :=
  Option.bind (at? r.2.2.1 0) fun (y : Bool) => if y = true then j1 65280 r else j1 0 r
def reply_oneBit_write_K1 (x : Int) (r : VaA1q2) : Option (As [.sl (.int .u8)]) := reply_oneBit_write_m1 x r
def reply_oneBit_write (x : As [.un, .pr (.int .u8) LAT1]) : Option (As [.sl (.int .u8)]) := reply_oneBit_write_m0 reply_oneBit_write_K1 x.1 x.2.1
theorem reply_oneBit_write_c1 (J : Orc (As [.sl (.int .u8)])) (x : Int) (r : VaA1q2) : pfn Try.prog reply_oneBit_write_e 6 18446744073709551616 (Ev.get reply_oneBit_write_h) 103 reply_oneBit_write_s J 7 [] (reply_oneBit_write_k1 x r) = reply_oneBit_write_m1 x r := by kernel_rfl
theorem reply_oneBit_write_c0 (J : Orc (As [.sl (.int .u8)])) (x : As [.un, .pr (.int .u8) LAT1]) : rfn Try.prog reply_oneBit_write_e 6 18446744073709551616 (Ev.get reply_oneBit_write_h) 103 reply_oneBit_write_s J x = reply_oneBit_write_m0 (fun x r => J 7 [] (reply_oneBit_write_k1 x r)) x.1 x.2.1 := by kernel_rfl
theorem reply_oneBit_write_g1 (x : Int) (r : VaA1q2) : jfn Try.prog reply_oneBit_write_e 6 18446744073709551616 (Ev.get reply_oneBit_write_h) 103 reply_oneBit_write_s 7 [] (reply_oneBit_write_k1 x r) = reply_oneBit_write_K1 x r := by
  rw [pfn_eq (by decide)]
  rw [reply_oneBit_write_c1]
  rfl
theorem reply_oneBit_write_t (x : As [.un, .pr (.int .u8) LAT1]) : evT Try.prog reply_oneBit_write_e 6 18446744073709551616 (Ev.get reply_oneBit_write_h) 103 reply_oneBit_write_s x = reply_oneBit_write x := by
  have e1 : (fun x r => (jfn Try.prog reply_oneBit_write_e 6 18446744073709551616 (Ev.get reply_oneBit_write_h) 103 reply_oneBit_write_s) 7 [] (reply_oneBit_write_k1 x r)) = reply_oneBit_write_K1 := funext fun x => funext fun r => reply_oneBit_write_g1 x r
  rw [rfn_eq, reply_oneBit_write_c0, e1]
  rfl
theorem reply_oneBit_write_ok : CtOk Try.prog (fun _ => True) 103 ⟨reply_oneBit_write_s, reply_oneBit_write⟩ := ct_of_ev (env_cons reply_numbers_ok env_nil) reply_oneBit_write_t
/-! reply_oneWord_right -/
@[reducible] def reply_oneWord_right_s : Sh := ⟨[.d (.un), .d (.pr (.int .u8) LAT1)], [], [.un, .pr (.int .u8) LAT1], [.d (.bool)], [], 0, [.bool]⟩
def reply_oneWord_right_e : Env := (cts [(90, (⟨reply_Same_s, reply_Same⟩ : Ct))])
def reply_oneWord_right_h : List (Nat × Hint) := []
def reply_oneWord_right_m0 (v : Unit) (r : VaA1q2) : Option (As [.bool]) :=
  if eqi (Int.ofNat (List.length r.2.2.2.1)) 1 = true then Option.bind (reply_Same (r, (r.1, 0, [], r.2.2.2.1, r.2.2.2.2.1, 0), ())) fun (y : Bool × Unit) => some (y.1, ()) else some (false, ())
def reply_oneWord_right (x : As [.un, .pr (.int .u8) LAT1]) : Option (As [.bool]) := reply_oneWord_right_m0 x.1 x.2.1
theorem reply_oneWord_right_c0 (J : Orc (As [.bool])) (x : As [.un, .pr (.int .u8) LAT1]) : rfn Try.prog reply_oneWord_right_e 6 18446744073709551616 (Ev.get reply_oneWord_right_h) 105 reply_oneWord_right_s J x = reply_oneWord_right_m0 x.1 x.2.1 := by kernel_rfl
theorem reply_oneWord_right_t (x : As [.un, .pr (.int .u8) LAT1]) : evT Try.prog reply_oneWord_right_e 6 18446744073709551616 (Ev.get reply_oneWord_right_h) 105 reply_oneWord_right_s x = reply_oneWord_right x := by
  rw [rfn_eq, reply_oneWord_right_c0]
  rfl
theorem reply_oneWord_right_ok : CtOk Try.prog (fun _ => True) 105 ⟨reply_oneWord_right_s, reply_oneWord_right⟩ := ct_of_ev (env_cons reply_Same_ok env_nil) reply_oneWord_right_t
/-! reply_oneWord_write -/
@[reducible] def reply_oneWord_write_s : Sh := ⟨[.d (.un), .d (.pr (.int .u8) LAT1)], [], [.un, .pr (.int .u8) LAT1], [.d (.sl (.int .u8))], [], 0, [.sl (.int .u8)]⟩
def reply_oneWord_write_e : Env := (cts [(100, (⟨reply_numbers_s, reply_numbers⟩ : Ct))])
def reply_oneWord_write_h : List (Nat × Hint) := []
def reply_oneWord_write_m0 (v : Unit) (r : VaA1q2) : Option (As [.sl (.int .u8)]) :=
  Option.bind (at? r.2.2.2.1 0) fun (y : Int) => amb (eqAs reply_oneWord_write_s.rs) [Option.bind (reply_numbers ([r.2.2.2.2.1, y], [r.1], ())) fun (y : List Int × Unit) => some (y.1, ()), Option.bind (reply_numbers ([r.2.2.2.2.1, y], [r.1], ())) fun (y : List Int × Unit) => some (y.1, ())]
def reply_oneWord_write (x : As [.un, .pr (.int .u8) LAT1]) : Option (As [.sl (.int .u8)]) := reply_oneWord_write_m0 x.1 x.2.1
theorem reply_oneWord_write_c0 (J : Orc (As [.sl (.int .u8)])) (x : As [.un, .pr (.int .u8) LAT1]) : rfn Try.prog reply_oneWord_write_e 6 18446744073709551616 (Ev.get reply_oneWord_write_h) 106 reply_oneWord_write_s J x = reply_oneWord_write_m0 x.1 x.2.1 := by kernel_rfl
theorem reply_oneWord_write_t (x : As [.un, .pr (.int .u8) LAT1]) : evT Try.prog reply_oneWord_write_e 6 18446744073709551616 (Ev.get reply_oneWord_write_h) 106 reply_oneWord_write_s x = reply_oneWord_write x := by
  rw [rfn_eq, reply_oneWord_write_c0]
  rfl
theorem reply_oneWord_write_ok : CtOk Try.prog (fun _ => True) 106 ⟨reply_oneWord_write_s, reply_oneWord_write⟩ := ct_of_ev (env_cons reply_numbers_ok env_nil) reply_oneWord_write_t
/-! reply_count_right -/
@[reducible] def reply_count_right_s : Sh := ⟨[.d (.wr (.int .u16)), .d (.pr (.int .u8) LAT1)], [], [.wr (.int .u16), .pr (.int .u8) LAT1], [.d (.bool)], [], 0, [.bool]⟩
def reply_count_right_e : Env := (cts [(90, (⟨reply_Same_s, reply_Same⟩ : Ct))])
def reply_count_right_h : List (Nat × Hint) := []
def reply_count_right_m0 (k : Int) (r : VaA1q2) : Option (As [.bool]) :=
  if ge r.2.2.2.2.2 1 = true then if le r.2.2.2.2.2 k = true then Option.bind (reply_Same (r, (r.1, 0, [], [], r.2.2.2.2), ())) fun (y : Bool × Unit) => some (y.1, ()) else some (false, ()) else some (false, ())
def reply_count_right (x : As [.wr (.int .u16), .pr (.int .u8) LAT1]) : Option (As [.bool]) := reply_count_right_m0 x.1 x.2.1
theorem reply_count_right_c0 (J : Orc (As [.bool])) (x : As [.wr (.int .u16), .pr (.int .u8) LAT1]) : rfn Try.prog reply_count_right_e 6 18446744073709551616 (Ev.get reply_count_right_h) 108 reply_count_right_s J x = reply_count_right_m0 x.1 x.2.1 := by kernel_rfl
theorem reply_count_right_t (x : As [.wr (.int .u16), .pr (.int .u8) LAT1]) : evT Try.prog reply_count_right_e 6 18446744073709551616 (Ev.get reply_count_right_h) 108 reply_count_right_s x = reply_count_right x := by
  rw [rfn_eq, reply_count_right_c0]
  rfl
theorem reply_count_right_ok : CtOk Try.prog (fun _ => True) 108 ⟨reply_count_right_s, reply_count_right⟩ := ct_of_ev (env_cons reply_Same_ok env_nil) reply_count_right_t
/-! reply_count_write -/
@[reducible] def reply_count_write_s : Sh := ⟨[.d (.wr (.int .u16)), .d (.pr (.int .u8) LAT1)], [], [.wr (.int .u16), .pr (.int .u8) LAT1], [.d (.sl (.int .u8))], [], 0, [.sl (.int .u8)]⟩
def reply_count_write_e : Env := (cts [(100, (⟨reply_numbers_s, reply_numbers⟩ : Ct))])
def reply_count_write_h : List (Nat × Hint) := []
def reply_count_write_m0 (v : Int) (r : VaA1q2) : Option (As [.sl (.int .u8)]) :=
  Option.bind (reply_numbers ([r.2.2.2.2.1, r.2.2.2.2.2], [r.1], ())) fun (y : List Int × Unit) => some (y.1, ())
def reply_count_write (x : As [.wr (.int .u16), .pr (.int .u8) LAT1]) : Option (As [.sl (.int .u8)]) := reply_count_write_m0 x.1 x.2.1
theorem reply_count_write_c0 (J : Orc (As [.sl (.int .u8)])) (x : As [.wr (.int .u16), .pr (.int .u8) LAT1]) : rfn Try.prog reply_count_write_e 6 18446744073709551616 (Ev.get reply_count_write_h) 109 reply_count_write_s J x = reply_count_write_m0 x.1 x.2.1 := by kernel_rfl
theorem reply_count_write_t (x : As [.wr (.int .u16), .pr (.int .u8) LAT1]) : evT Try.prog reply_count_write_e 6 18446744073709551616 (Ev.get reply_count_write_h) 109 reply_count_write_s x = reply_count_write x := by
  rw [rfn_eq, reply_count_write_c0]
  rfl
theorem reply_count_write_ok : CtOk Try.prog (fun _ => True) 109 ⟨reply_count_write_s, reply_count_write⟩ := ct_of_ev (env_cons reply_numbers_ok env_nil) reply_count_write_t
/-! reply_Bytes -/
@[reducible] def reply_Bytes_s : Sh := ⟨[.d (.pr (.int .u8) LAT1)], [], [.pr (.int .u8) LAT1], [.d (.sl (.int .u8)), .d (.int .i64)], [], 0, [.sl (.int .u8), .int .i64]⟩
def reply_Bytes_e : Env := (cts [(88, (⟨reply_exception_right_s, reply_exception_right⟩ : Ct)), (89, (⟨reply_exception_write_s, reply_exception_write⟩ : Ct)), (94, (⟨reply_bitList_right_s, reply_bitList_right⟩ : Ct)), (95, (⟨reply_bitList_write_s, reply_bitList_write⟩ : Ct)), (97, (⟨reply_wordList_right_s, reply_wordList_right⟩ : Ct)), (98, (⟨reply_wordList_write_s, reply_wordList_write⟩ : Ct)), (102, (⟨reply_oneBit_right_s, reply_oneBit_right⟩ : Ct)), (103, (⟨reply_oneBit_write_s, reply_oneBit_write⟩ : Ct)), (105, (⟨reply_oneWord_right_s, reply_oneWord_right⟩ : Ct)), (106, (⟨reply_oneWord_write_s, reply_oneWord_write⟩ : Ct)), (108, (⟨reply_count_right_s, reply_count_right⟩ : Ct)), (109, (⟨reply_count_write_s, reply_count_write⟩ : Ct))])
def reply_Bytes_h : List (Nat × Hint) := []
def reply_Bytes_m0 (r : VaA1q2) : Option (As [.sl (.int .u8), .int .i64]) :=
  if nei r.2.1 0 = true then Option.bind (reply_exception_right ((), r, ())) fun (y : Bool × Unit) => if y.1 = true then Option.bind (reply_exception_write ((), r, ())) fun (y : List Int × Unit) => some (y.1, 0, ()) else some ([], 13, ()) else if eqi r.1 1 = true then Option.bind (reply_bitList_right ((), r, ())) fun (y : Bool × Unit) => if y.1 = true then Option.bind (reply_bitList_write ((), r, ())) fun (y : List Int × Unit) => some (y.1, 0, ()) else some ([], 13, ()) else if eqi r.1 2 = true then Option.bind (reply_bitList_right ((), r, ())) fun (y : Bool × Unit) => if y.1 = true then Option.bind (reply_bitList_write ((), r, ())) fun (y : List Int × Unit) => some (y.1, 0, ()) else some ([], 13, ()) else if eqi r.1 3 = true then Option.bind (reply_wordList_right ((), r, ())) fun (y : Bool × Unit) => if y.1 = true then Option.bind (reply_wordList_write ((), r, ())) fun (y : List Int × Unit) => some (y.1, 0, ()) else some ([], 13, ()) else if eqi r.1 4 = true then Option.bind (reply_wordList_right ((), r, ())) fun (y : Bool × Unit) => if y.1 = true then Option.bind (reply_wordList_write ((), r, ())) fun (y : List Int × Unit) => some (y.1, 0, ()) else some ([], 13, ()) else if eqi r.1 23 = true then Option.bind (reply_wordList_right ((), r, ())) fun (y : Bool × Unit) => if y.1 = true then Option.bind (reply_wordList_write ((), r, ())) fun (y : List Int × Unit) => some (y.1, 0, ()) else some ([], 13, ()) else if eqi r.1 5 = true then Option.bind (reply_oneBit_right ((), r, ())) fun (y : Bool × Unit) => if y.1 = true then Option.bind (reply_oneBit_write ((), r, ())) fun (y : List Int × Unit) => some (y.1, 0, ()) else some ([], 13, ()) else if eqi r.1 6 = true then Option.bind (reply_oneWord_right ((), r, ())) fun (y : Bool × Unit) => if y.1 = true then Option.bind (reply_oneWord_write ((), r, ())) fun (y : List Int × Unit) => some (y.1, 0, ()) else some ([], 13, ()) else if eqi r.1 15 = true then Option.bind (reply_count_right (1968, r, ())) fun (y : Bool × Unit) => if y.1 = true then Option.bind (reply_count_write (1968, r, ())) fun (y : List Int × Unit) => some (y.1, 0, ()) else some ([], 13, ()) else if eqi r.1 16 = true then Option.bind (reply_count_right (123, r, ())) fun (y : Bool × Unit) => if y.1 = true then Option.bind (reply_count_write (123, r, ())) fun (y : List Int × Unit) => some (y.1, 0, ()) else some ([], 13, ()) else some ([], 13, ())
def reply_Bytes (x : As [.pr (.int .u8) LAT1]) : Option (As [.sl (.int .u8), .int .i64]) := reply_Bytes_m0 x.1
theorem reply_Bytes_c0 (J : Orc (As [.sl (.int .u8), .int .i64])) (x : As [.pr (.int .u8) LAT1]) : rfn Try.prog reply_Bytes_e 6 18446744073709551616 (Ev.get reply_Bytes_h) 43 reply_Bytes_s J x = reply_Bytes_m0 x.1 := by kernel_rfl
theorem reply_Bytes_t (x : As [.pr (.int .u8) LAT1]) : evT Try.prog reply_Bytes_e 6 18446744073709551616 (Ev.get reply_Bytes_h) 43 reply_Bytes_s x = reply_Bytes x := by
  rw [rfn_eq, reply_Bytes_c0]
  rfl
theorem reply_Bytes_ok : CtOk Try.prog (fun _ => True) 43 ⟨reply_Bytes_s, reply_Bytes⟩ := ct_of_ev (env_cons reply_exception_right_ok (env_cons reply_exception_write_ok (env_cons reply_bitList_right_ok (env_cons reply_bitList_write_ok (env_cons reply_wordList_right_ok (env_cons reply_wordList_write_ok (env_cons reply_oneBit_right_ok (env_cons reply_oneBit_write_ok (env_cons reply_oneWord_right_ok (env_cons reply_oneWord_write_ok (env_cons reply_count_right_ok (env_cons reply_count_write_ok env_nil)))))))))))) reply_Bytes_t
/-! slices_Clone_Gbool -/
@[reducible] def slices_Clone_Gbool_s : Sh := ⟨[.d (.sl .bool)], [], [.sl .bool], [.d (.sl .bool)], [], 0, [.sl .bool]⟩
def slices_Clone_Gbool_e : Env := (cts [])
def slices_Clone_Gbool_h : List (Nat × Hint) := []
def slices_Clone_Gbool_m0 (s : List Bool) : Option (As [.sl .bool]) :=
  if eqi (Int.ofNat (List.length s)) 0 = true then amb (eqAs slices_Clone_Gbool_s.rs) [some ([], ()), need (small (0 + List.length s)) (some (s, ()))] else need (small (0 + List.length s)) (some (s, ()))
def slices_Clone_Gbool (x : As [.sl .bool]) : Option (As [.sl .bool]) := slices_Clone_Gbool_m0 x.1
theorem slices_Clone_Gbool_c0 (J : Orc (As [.sl .bool])) (x : As [.sl .bool]) : rfn Try.prog slices_Clone_Gbool_e 6 18446744073709551616 (Ev.get slices_Clone_Gbool_h) 53 slices_Clone_Gbool_s J x = slices_Clone_Gbool_m0 x.1 := by kernel_rfl
theorem slices_Clone_Gbool_t (x : As [.sl .bool]) : evT Try.prog slices_Clone_Gbool_e 6 18446744073709551616 (Ev.get slices_Clone_Gbool_h) 53 slices_Clone_Gbool_s x = slices_Clone_Gbool x := by
  rw [rfn_eq, slices_Clone_Gbool_c0]
  rfl
theorem slices_Clone_Gbool_ok : CtOk Try.prog (fun _ => True) 53 ⟨slices_Clone_Gbool_s, slices_Clone_Gbool⟩ := ct_of_ev env_nil slices_Clone_Gbool_t
/-! slices_Clone_Guint16 -/
@[reducible] def slices_Clone_Guint16_s : Sh := ⟨[.d (.sl (.int .u16))], [], [.sl (.int .u16)], [.d (.sl (.int .u16))], [], 0, [.sl (.int .u16)]⟩
def slices_Clone_Guint16_e : Env := (cts [])
def slices_Clone_Guint16_h : List (Nat × Hint) := []
def slices_Clone_Guint16_m0 (s : List Int) : Option (As [.sl (.int .u16)]) :=
  if eqi (Int.ofNat (List.length s)) 0 = true then amb (eqAs slices_Clone_Guint16_s.rs) [some ([], ()), need (small (0 + List.length s)) (some (s, ()))] else need (small (0 + List.length s)) (some (s, ()))
def slices_Clone_Guint16 (x : As [.sl (.int .u16)]) : Option (As [.sl (.int .u16)]) := slices_Clone_Guint16_m0 x.1
theorem slices_Clone_Guint16_c0 (J : Orc (As [.sl (.int .u16)])) (x : As [.sl (.int .u16)]) : rfn Try.prog slices_Clone_Guint16_e 6 18446744073709551616 (Ev.get slices_Clone_Guint16_h) 54 slices_Clone_Guint16_s J x = slices_Clone_Guint16_m0 x.1 := by kernel_rfl
theorem slices_Clone_Guint16_t (x : As [.sl (.int .u16)]) : evT Try.prog slices_Clone_Guint16_e 6 18446744073709551616 (Ev.get slices_Clone_Guint16_h) 54 slices_Clone_Guint16_s x = slices_Clone_Guint16 x := by
  rw [rfn_eq, slices_Clone_Guint16_c0]
  rfl
theorem slices_Clone_Guint16_ok : CtOk Try.prog (fun _ => True) 54 ⟨slices_Clone_Guint16_s, slices_Clone_Guint16⟩ := ct_of_ev env_nil slices_Clone_Guint16_t
/-! model_own -/
@[reducible] def model_own_s : Sh := ⟨[.d (.pr (.sl .bool) LAT4)], [], [.pr (.sl .bool) LAT4], [.d (.pr (.sl .bool) LAT4)], [], 0, [.pr (.sl .bool) LAT4]⟩
def model_own_e : Env := (cts [(53, (⟨slices_Clone_Gbool_s, slices_Clone_Gbool⟩ : Ct)), (54, (⟨slices_Clone_Guint16_s, slices_Clone_Guint16⟩ : Ct))])
def model_own_h : List (Nat × Hint) := []
def model_own_m0 (m : List Bool × List Bool × List Int × List Int) : Option (As [.pr (.sl .bool) LAT4]) :=
  Option.bind (slices_Clone_Gbool (m.1, ())) fun (y : List Bool × Unit) => Option.bind (slices_Clone_Gbool (m.2.1, ())) fun (y_1 : List Bool × Unit) => Option.bind (slices_Clone_Guint16 (m.2.2.1, ())) fun (y_2 : List Int × Unit) => Option.bind (slices_Clone_Guint16 (m.2.2.2, ())) fun (y_3 : List Int × Unit) => some ((y.1, y_1.1, y_2.1, y_3.1), ())
def model_own (x : As [.pr (.sl .bool) LAT4]) : Option (As [.pr (.sl .bool) LAT4]) := model_own_m0 x.1
theorem model_own_c0 (J : Orc (As [.pr (.sl .bool) LAT4])) (x : As [.pr (.sl .bool) LAT4]) : rfn Try.prog model_own_e 6 18446744073709551616 (Ev.get model_own_h) 45 model_own_s J x = model_own_m0 x.1 := by kernel_rfl
theorem model_own_t (x : As [.pr (.sl .bool) LAT4]) : evT Try.prog model_own_e 6 18446744073709551616 (Ev.get model_own_h) 45 model_own_s x = model_own x := by
  rw [rfn_eq, model_own_c0]
  rfl
theorem model_own_ok : CtOk Try.prog (fun _ => True) 45 ⟨model_own_s, model_own⟩ := ct_of_ev (env_cons slices_Clone_Gbool_ok (env_cons slices_Clone_Guint16_ok env_nil)) model_own_t
/-! model_open -/
@[reducible] def model_open_s : Sh := ⟨[.d (.pr LAT0 (.pr LAT0 (.pr LAT0 LAT0))), .d (.pr (.sl .bool) LAT4)], [], [.pr LAT0 (.pr LAT0 (.pr LAT0 LAT0)), .pr (.sl .bool) LAT4], [.d (.pr (.pr LAT0 (.sl .bool)) (.pr (.pr LAT0 (.sl .bool)) (.pr (.pr LAT0 (.sl (.int .u16))) (.pr LAT0 (.sl (.int .u16))))))], [], 0, [.pr (.pr LAT0 (.sl .bool)) (.pr (.pr LAT0 (.sl .bool)) (.pr (.pr LAT0 (.sl (.int .u16))) (.pr LAT0 (.sl (.int .u16)))))]⟩
def model_open_e : Env := (cts [])
def model_open_h : List (Nat × Hint) := []
def model_open_m0 (s : List LAT2 × List LAT2 × List LAT2 × List LAT2) (m : List Bool × List Bool × List Int × List Int) : Option (As [.pr (.pr LAT0 (.sl .bool)) (.pr (.pr LAT0 (.sl .bool)) (.pr (.pr LAT0 (.sl (.int .u16))) (.pr LAT0 (.sl (.int .u16)))))]) :=
  some (((s.1, m.1), (s.2.1, m.2.1), (s.2.2.1, m.2.2.1), s.2.2.2, m.2.2.2), ())
def model_open (x : As [.pr LAT0 (.pr LAT0 (.pr LAT0 LAT0)), .pr (.sl .bool) LAT4]) : Option (As [.pr (.pr LAT0 (.sl .bool)) (.pr (.pr LAT0 (.sl .bool)) (.pr (.pr LAT0 (.sl (.int .u16))) (.pr LAT0 (.sl (.int .u16)))))]) := model_open_m0 x.1 x.2.1
theorem model_open_c0 (J : Orc (As [.pr (.pr LAT0 (.sl .bool)) (.pr (.pr LAT0 (.sl .bool)) (.pr (.pr LAT0 (.sl (.int .u16))) (.pr LAT0 (.sl (.int .u16)))))])) (x : As [.pr LAT0 (.pr LAT0 (.pr LAT0 LAT0)), .pr (.sl .bool) LAT4]) : rfn Try.prog model_open_e 6 18446744073709551616 (Ev.get model_open_h) 57 model_open_s J x = model_open_m0 x.1 x.2.1 := by kernel_rfl
theorem model_open_t (x : As [.pr LAT0 (.pr LAT0 (.pr LAT0 LAT0)), .pr (.sl .bool) LAT4]) : evT Try.prog model_open_e 6 18446744073709551616 (Ev.get model_open_h) 57 model_open_s x = model_open x := by
  rw [rfn_eq, model_open_c0]
  rfl
theorem model_open_ok : CtOk Try.prog (fun _ => True) 57 ⟨model_open_s, model_open⟩ := ct_of_ev env_nil model_open_t
/-! model_uses -/
@[reducible] def model_uses_s : Sh := ⟨[.d (.int .u8)], [], [.int .u8], [.d (.pr (.int .i64) (.int .i64))], [], 0, [.pr (.int .i64) (.int .i64)]⟩
def model_uses_e : Env := (cts [])
def model_uses_h : List (Nat × Hint) := []
def model_uses_m0 (f : Int) : Option (As [.pr (.int .i64) (.int .i64)]) :=
  some (Ev.gdV (.pr (.int .i64) (.int .i64)) (if eqi 1 f = true then some (1, 0) else if eqi 2 f = true then some (2, 0) else if eqi 3 f = true then some (3, 0) else if eqi 4 f = true then some (4, 0) else if eqi 5 f = true then some (0, 1) else if eqi 6 f = true then some (0, 3) else if eqi 15 f = true then some (0, 1) else if eqi 16 f = true then some (0, 3) else if eqi 23 f = true then some (3, 3) else Option.none) (0, 0), ())
def model_uses (x : As [.int .u8]) : Option (As [.pr (.int .i64) (.int .i64)]) := model_uses_m0 x.1
theorem model_uses_c0 (J : Orc (As [.pr (.int .i64) (.int .i64)])) (x : As [.int .u8]) : rfn Try.prog model_uses_e 6 18446744073709551616 (Ev.get model_uses_h) 58 model_uses_s J x = model_uses_m0 x.1 := by kernel_rfl
theorem model_uses_t (x : As [.int .u8]) : evT Try.prog model_uses_e 6 18446744073709551616 (Ev.get model_uses_h) 58 model_uses_s x = model_uses x := by
  rw [rfn_eq, model_uses_c0]
  rfl
theorem model_uses_ok : CtOk Try.prog (fun _ => True) 58 ⟨model_uses_s, model_uses⟩ := ct_of_ev env_nil model_uses_t
/-! model_target -/
@[reducible] def model_target_s : Sh := ⟨[.d (.pr (.int .u8) LAT3)], [], [.pr (.int .u8) LAT3], [.d (.int .i64), .d (.int .i64)], [], 0, [.int .i64, .int .i64]⟩
def model_target_e : Env := (cts [])
def model_target_h : List (Nat × Hint) := []
def model_target_m0 (a : VaA1q0) : Option (As [.int .i64, .int .i64]) :=
  if eqi a.1 23 = true then some (cvt .i64 a.2.2.2.1, add .i64 (Int.ofNat (List.length a.2.2.2.2.2)) (Int.ofNat (List.length a.2.2.2.2.1)), ()) else some (cvt .i64 a.2.1, add .i64 (Int.ofNat (List.length a.2.2.2.2.2)) (Int.ofNat (List.length a.2.2.2.2.1)), ())
def model_target (x : As [.pr (.int .u8) LAT3]) : Option (As [.int .i64, .int .i64]) := model_target_m0 x.1
theorem model_target_c0 (J : Orc (As [.int .i64, .int .i64])) (x : As [.pr (.int .u8) LAT3]) : rfn Try.prog model_target_e 6 18446744073709551616 (Ev.get model_target_h) 59 model_target_s J x = model_target_m0 x.1 := by kernel_rfl
theorem model_target_t (x : As [.pr (.int .u8) LAT3]) : evT Try.prog model_target_e 6 18446744073709551616 (Ev.get model_target_h) 59 model_target_s x = model_target x := by
  rw [rfn_eq, model_target_c0]
  rfl
theorem model_target_ok : CtOk Try.prog (fun _ => True) 59 ⟨model_target_s, model_target⟩ := ct_of_ev env_nil model_target_t
/-! model_table_bool_readable_z1 -/
@[reducible] def model_table_bool_readable_z1_s : Sh := ⟨[.d (.pr (.int .i64) LAT8)], [], [.pr (.int .i64) LAT8], [.d (.bool)], [], 0, [.bool]⟩
def model_table_bool_readable_z1_e : Env := (cts [])
def model_table_bool_readable_z1_h : List (Nat × Hint) := []
def model_table_bool_readable_z1_m0 (x : Int × Int × Bool × Bool × Bool) : Option (As [.bool]) :=
  some (x.2.2.1, ())
def model_table_bool_readable_z1 (x : As [.pr (.int .i64) LAT8]) : Option (As [.bool]) := model_table_bool_readable_z1_m0 x.1
theorem model_table_bool_readable_z1_c0 (J : Orc (As [.bool])) (x : As [.pr (.int .i64) LAT8]) : rfn Try.prog model_table_bool_readable_z1_e 6 18446744073709551616 (Ev.get model_table_bool_readable_z1_h) 113 model_table_bool_readable_z1_s J x = model_table_bool_readable_z1_m0 x.1 := by kernel_rfl
theorem model_table_bool_readable_z1_t (x : As [.pr (.int .i64) LAT8]) : evT Try.prog model_table_bool_readable_z1_e 6 18446744073709551616 (Ev.get model_table_bool_readable_z1_h) 113 model_table_bool_readable_z1_s x = model_table_bool_readable_z1 x := by
  rw [rfn_eq, model_table_bool_readable_z1_c0]
  rfl
theorem model_table_bool_readable_z1_ok : CtOk Try.prog (fun _ => True) 113 ⟨model_table_bool_readable_z1_s, model_table_bool_readable_z1⟩ := ct_of_ev env_nil model_table_bool_readable_z1_t
/-! model_table_bool_writable_z1 -/
@[reducible] def model_table_bool_writable_z1_s : Sh := ⟨[.d (.pr (.int .i64) LAT8), .pb 0 0, .pb 1 0], [.box 3 [.d (.int .i64)], .box 3 [.d (.int .i64)]], [.pr (.int .i64) LAT8, .int .i64, .int .i64], [.d (.bool)], [(0, .box 3 [.d (.int .i64)]), (1, .box 3 [.d (.int .i64)])], 0, [.bool, .int .i64, .int .i64]⟩
def model_table_bool_writable_z1_e : Env := (cts [])
def model_table_bool_writable_z1_h : List (Nat × Hint) := []
def model_table_bool_writable_z1_m0 (x : Int × Int × Bool × Bool × Bool) (v : Int) (v_2 : Int) : Option (As [.bool, .int .i64, .int .i64]) :=
  if x.2.2.2.1 = true then if (!x.2.2.2.2) = true then some (true, v, v_2, ()) else if eqi x.1 v = true then some (eqi x.2.1 v_2, v, v_2, ()) else some (false, v, v_2, ()) else some (false, v, v_2, ())
def model_table_bool_writable_z1 (x : As [.pr (.int .i64) LAT8, .int .i64, .int .i64]) : Option (As [.bool, .int .i64, .int .i64]) := model_table_bool_writable_z1_m0 x.1 x.2.1 x.2.2.1
theorem model_table_bool_writable_z1_c0 (J : Orc (As [.bool, .int .i64, .int .i64])) (x : As [.pr (.int .i64) LAT8, .int .i64, .int .i64]) : rfn Try.prog model_table_bool_writable_z1_e 6 18446744073709551616 (Ev.get model_table_bool_writable_z1_h) 114 model_table_bool_writable_z1_s J x = model_table_bool_writable_z1_m0 x.1 x.2.1 x.2.2.1 := by kernel_rfl
theorem model_table_bool_writable_z1_t (x : As [.pr (.int .i64) LAT8, .int .i64, .int .i64]) : evT Try.prog model_table_bool_writable_z1_e 6 18446744073709551616 (Ev.get model_table_bool_writable_z1_h) 114 model_table_bool_writable_z1_s x = model_table_bool_writable_z1 x := by
  rw [rfn_eq, model_table_bool_writable_z1_c0]
  rfl
theorem model_table_bool_writable_z1_ok : CtOk Try.prog (fun _ => True) 114 ⟨model_table_bool_writable_z1_s, model_table_bool_writable_z1⟩ := ct_of_ev env_nil model_table_bool_writable_z1_t
/-! model_meet -/
@[reducible] def model_meet_s : Sh := ⟨[.d (.pr (.int .i64) LAT8), .d (.int .i64), .d (.int .i64)], [], [.pr (.int .i64) LAT8, .int .i64, .int .i64], [.d (.int .i64), .d (.int .i64)], [], 0, [.int .i64, .int .i64]⟩
def model_meet_e : Env := (cts [])
def model_meet_h : List (Nat × Hint) := [(15, ⟨[], [1, 3, 8]⟩), (30, ⟨[], [1, 2, 3, 8, 32]⟩), (6, ⟨[], [1, 2, 3, 17, 25, 26, 27, 28, 29, 30, 31]⟩)]
def model_meet_k1 (at' : Int) (endV : Int) (t17 : Bool) (x : Int × Int × Bool × Bool × Bool) : St := { fr := [(1, .d (.int .i64) at'), (2, .d (.int .i64) endV), (3, .pb 0 0), (17, .d .bool t17)], nt := 45, up := [], own := [(0, .box 70 [.d (.int .i64) x.1, .d (.int .i64) x.2.1, .d .bool x.2.2.1, .d .bool x.2.2.2.1, .d .bool x.2.2.2.2])], nx := 1, log := [], ln := 0 }
def model_meet_k2 (at' : Int) (endV : Int) (to' : Int) (t32 : Bool) (x : Int × Int × Bool × Bool × Bool) : St := { fr := [(1, .d (.int .i64) at'), (2, .d (.int .i64) endV), (3, .pb 0 0), (8, .d (.int .i64) to'), (32, .d .bool t32)], nt := 45, up := [], own := [(0, .box 70 [.d (.int .i64) x.1, .d (.int .i64) x.2.1, .d .bool x.2.2.1, .d .bool x.2.2.2.1, .d .bool x.2.2.2.2])], nx := 1, log := [], ln := 0 }
def model_meet_k3 (at' : Int) (to' : Int) (x : Int × Int × Bool × Bool × Bool) : St := { fr := [(1, .d (.int .i64) at'), (3, .pb 0 0), (8, .d (.int .i64) to')], nt := 45, up := [], own := [(0, .box 70 [.d (.int .i64) x.1, .d (.int .i64) x.2.1, .d .bool x.2.2.1, .d .bool x.2.2.2.1, .d .bool x.2.2.2.2])], nx := 1, log := [], ln := 0 }
def model_meet_m1 (j2 : Int → Int → Int → Bool → Int × Int × Bool × Bool × Bool → Option (As [.int .i64, .int .i64])) (at' : Int) (endV : Int) (t17 : Bool) (x : Int × Int × Bool × Bool × Bool) : Option (As [.int .i64, .int .i64]) :=
  if t17 = true then some (at', at', ()) else if lt x.1 0 = true then j2 at' endV endV true x else j2 at' endV endV (lt x.2.1 (Sx.sub .i64 endV x.1)) x
def model_meet_m2 (j3 : Int → Int → Int × Int × Bool × Bool × Bool → Option (As [.int .i64, .int .i64])) (at' : Int) (endV : Int) (to' : Int) (t32 : Bool) (x : Int × Int × Bool × Bool × Bool) : Option (As [.int .i64, .int .i64]) :=
  if t32 = true then j3 at' (if lt (add .i64 x.1 x.2.1) endV = true then add .i64 x.1 x.2.1 else endV) x else j3 at' to' x
def model_meet_m3 (at' : Int) (to' : Int) (x : Int × Int × Bool × Bool × Bool) : Option (As [.int .i64, .int .i64]) :=
  some (if gt x.1 at' = true then x.1 else at', to', ())
def model_meet_m0 (j1 : Int → Int → Bool → Int × Int × Bool × Bool × Bool → Option (As [.int .i64, .int .i64])) (x : Int × Int × Bool × Bool × Bool) (at' : Int) (endV : Int) : Option (As [.int .i64, .int .i64]) :=
  if lt x.2.1 1 = true then j1 at' endV true x else j1 at' endV (ge x.1 endV) x
def model_meet_K3 (at' : Int) (to' : Int) (x : Int × Int × Bool × Bool × Bool) : Option (As [.int .i64, .int .i64]) := model_meet_m3 at' to' x
def model_meet_K2 (at' : Int) (endV : Int) (to' : Int) (t32 : Bool) (x : Int × Int × Bool × Bool × Bool) : Option (As [.int .i64, .int .i64]) := model_meet_m2 (model_meet_K3) at' endV to' t32 x
def model_meet_K1 (at' : Int) (endV : Int) (t17 : Bool) (x : Int × Int × Bool × Bool × Bool) : Option (As [.int .i64, .int .i64]) := model_meet_m1 (model_meet_K2) at' endV t17 x
def model_meet (x : As [.pr (.int .i64) LAT8, .int .i64, .int .i64]) : Option (As [.int .i64, .int .i64]) := model_meet_m0 model_meet_K1 x.1 x.2.1 x.2.2.1
theorem model_meet_c3 (J : Orc (As [.int .i64, .int .i64])) (at' : Int) (to' : Int) (x : Int × Int × Bool × Bool × Bool) : pfn Try.prog model_meet_e 6 18446744073709551616 (Ev.get model_meet_h) 115 model_meet_s J 15 [] (model_meet_k3 at' to' x) = model_meet_m3 at' to' x := by kernel_rfl
theorem model_meet_c2 (J : Orc (As [.int .i64, .int .i64])) (at' : Int) (endV : Int) (to' : Int) (t32 : Bool) (x : Int × Int × Bool × Bool × Bool) : pfn Try.prog model_meet_e 6 18446744073709551616 (Ev.get model_meet_h) 115 model_meet_s J 30 [] (model_meet_k2 at' endV to' t32 x) = model_meet_m2 (fun at' to' x => J 15 [] (model_meet_k3 at' to' x)) at' endV to' t32 x := by kernel_rfl
theorem model_meet_c1 (J : Orc (As [.int .i64, .int .i64])) (at' : Int) (endV : Int) (t17 : Bool) (x : Int × Int × Bool × Bool × Bool) : pfn Try.prog model_meet_e 6 18446744073709551616 (Ev.get model_meet_h) 115 model_meet_s J 6 [] (model_meet_k1 at' endV t17 x) = model_meet_m1 (fun at' endV to' t32 x => J 30 [] (model_meet_k2 at' endV to' t32 x)) at' endV t17 x := by kernel_rfl
theorem model_meet_c0 (J : Orc (As [.int .i64, .int .i64])) (x : As [.pr (.int .i64) LAT8, .int .i64, .int .i64]) : rfn Try.prog model_meet_e 6 18446744073709551616 (Ev.get model_meet_h) 115 model_meet_s J x = model_meet_m0 (fun at' endV t17 x => J 6 [] (model_meet_k1 at' endV t17 x)) x.1 x.2.1 x.2.2.1 := by kernel_rfl
theorem model_meet_g3 (at' : Int) (to' : Int) (x : Int × Int × Bool × Bool × Bool) : jfn Try.prog model_meet_e 6 18446744073709551616 (Ev.get model_meet_h) 115 model_meet_s 15 [] (model_meet_k3 at' to' x) = model_meet_K3 at' to' x := by
  rw [pfn_eq (by decide)]
  rw [model_meet_c3]
  rfl
theorem model_meet_g2 (at' : Int) (endV : Int) (to' : Int) (t32 : Bool) (x : Int × Int × Bool × Bool × Bool) : jfn Try.prog model_meet_e 6 18446744073709551616 (Ev.get model_meet_h) 115 model_meet_s 30 [] (model_meet_k2 at' endV to' t32 x) = model_meet_K2 at' endV to' t32 x := by
  rw [pfn_eq (by decide)]
  have e3 : (fun at' to' x => (jfn Try.prog model_meet_e 6 18446744073709551616 (Ev.get model_meet_h) 115 model_meet_s) 15 [] (model_meet_k3 at' to' x)) = model_meet_K3 := funext fun at' => funext fun to' => funext fun x => model_meet_g3 at' to' x
  rw [model_meet_c2, e3]
  rfl
theorem model_meet_g1 (at' : Int) (endV : Int) (t17 : Bool) (x : Int × Int × Bool × Bool × Bool) : jfn Try.prog model_meet_e 6 18446744073709551616 (Ev.get model_meet_h) 115 model_meet_s 6 [] (model_meet_k1 at' endV t17 x) = model_meet_K1 at' endV t17 x := by
  rw [pfn_eq (by decide)]
  have e2 : (fun at' endV to' t32 x => (jfn Try.prog model_meet_e 6 18446744073709551616 (Ev.get model_meet_h) 115 model_meet_s) 30 [] (model_meet_k2 at' endV to' t32 x)) = model_meet_K2 := funext fun at' => funext fun endV => funext fun to' => funext fun t32 => funext fun x => model_meet_g2 at' endV to' t32 x
  rw [model_meet_c1, e2]
  rfl
theorem model_meet_t (x : As [.pr (.int .i64) LAT8, .int .i64, .int .i64]) : evT Try.prog model_meet_e 6 18446744073709551616 (Ev.get model_meet_h) 115 model_meet_s x = model_meet x := by
  have e1 : (fun at' endV t17 x => (jfn Try.prog model_meet_e 6 18446744073709551616 (Ev.get model_meet_h) 115 model_meet_s) 6 [] (model_meet_k1 at' endV t17 x)) = model_meet_K1 := funext fun at' => funext fun endV => funext fun t17 => funext fun x => model_meet_g1 at' endV t17 x
  rw [rfn_eq, model_meet_c0, e1]
  rfl
theorem model_meet_ok : CtOk Try.prog (fun _ => True) 115 ⟨model_meet_s, model_meet⟩ := ct_of_ev env_nil model_meet_t
/-! model_table_uint16_readable_z1 -/
@[reducible] def model_table_uint16_readable_z1_s : Sh := ⟨[.d (.pr (.int .i64) LAT8)], [], [.pr (.int .i64) LAT8], [.d (.bool)], [], 0, [.bool]⟩
def model_table_uint16_readable_z1_e : Env := (cts [])
def model_table_uint16_readable_z1_h : List (Nat × Hint) := []
def model_table_uint16_readable_z1_m0 (x : Int × Int × Bool × Bool × Bool) : Option (As [.bool]) :=
  some (x.2.2.1, ())
def model_table_uint16_readable_z1 (x : As [.pr (.int .i64) LAT8]) : Option (As [.bool]) := model_table_uint16_readable_z1_m0 x.1
theorem model_table_uint16_readable_z1_c0 (J : Orc (As [.bool])) (x : As [.pr (.int .i64) LAT8]) : rfn Try.prog model_table_uint16_readable_z1_e 6 18446744073709551616 (Ev.get model_table_uint16_readable_z1_h) 118 model_table_uint16_readable_z1_s J x = model_table_uint16_readable_z1_m0 x.1 := by kernel_rfl
theorem model_table_uint16_readable_z1_t (x : As [.pr (.int .i64) LAT8]) : evT Try.prog model_table_uint16_readable_z1_e 6 18446744073709551616 (Ev.get model_table_uint16_readable_z1_h) 118 model_table_uint16_readable_z1_s x = model_table_uint16_readable_z1 x := by
  rw [rfn_eq, model_table_uint16_readable_z1_c0]
  rfl
theorem model_table_uint16_readable_z1_ok : CtOk Try.prog (fun _ => True) 118 ⟨model_table_uint16_readable_z1_s, model_table_uint16_readable_z1⟩ := ct_of_ev env_nil model_table_uint16_readable_z1_t
/-! model_table_uint16_writable_z1 -/
@[reducible] def model_table_uint16_writable_z1_s : Sh := ⟨[.d (.pr (.int .i64) LAT8), .pb 0 0, .pb 1 0], [.box 3 [.d (.int .i64)], .box 3 [.d (.int .i64)]], [.pr (.int .i64) LAT8, .int .i64, .int .i64], [.d (.bool)], [(0, .box 3 [.d (.int .i64)]), (1, .box 3 [.d (.int .i64)])], 0, [.bool, .int .i64, .int .i64]⟩
def model_table_uint16_writable_z1_e : Env := (cts [])
def model_table_uint16_writable_z1_h : List (Nat × Hint) := []
def model_table_uint16_writable_z1_m0 (x : Int × Int × Bool × Bool × Bool) (v : Int) (v_2 : Int) : Option (As [.bool, .int .i64, .int .i64]) :=
  if x.2.2.2.1 = true then if (!x.2.2.2.2) = true then some (true, v, v_2, ()) else if eqi x.1 v = true then some (eqi x.2.1 v_2, v, v_2, ()) else some (false, v, v_2, ()) else some (false, v, v_2, ())
def model_table_uint16_writable_z1 (x : As [.pr (.int .i64) LAT8, .int .i64, .int .i64]) : Option (As [.bool, .int .i64, .int .i64]) := model_table_uint16_writable_z1_m0 x.1 x.2.1 x.2.2.1
theorem model_table_uint16_writable_z1_c0 (J : Orc (As [.bool, .int .i64, .int .i64])) (x : As [.pr (.int .i64) LAT8, .int .i64, .int .i64]) : rfn Try.prog model_table_uint16_writable_z1_e 6 18446744073709551616 (Ev.get model_table_uint16_writable_z1_h) 119 model_table_uint16_writable_z1_s J x = model_table_uint16_writable_z1_m0 x.1 x.2.1 x.2.2.1 := by kernel_rfl
theorem model_table_uint16_writable_z1_t (x : As [.pr (.int .i64) LAT8, .int .i64, .int .i64]) : evT Try.prog model_table_uint16_writable_z1_e 6 18446744073709551616 (Ev.get model_table_uint16_writable_z1_h) 119 model_table_uint16_writable_z1_s x = model_table_uint16_writable_z1 x := by
  rw [rfn_eq, model_table_uint16_writable_z1_c0]
  rfl
theorem model_table_uint16_writable_z1_ok : CtOk Try.prog (fun _ => True) 119 ⟨model_table_uint16_writable_z1_s, model_table_uint16_writable_z1⟩ := ct_of_ev env_nil model_table_uint16_writable_z1_t
end Go.Proofs.Lx

end
