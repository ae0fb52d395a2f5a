/- Proved in the last of these 7 parts (this is part 6): LexKinds: words are one token each. Conditions: those of the given statement, and no others. -/
import Derived.Test.YtempdfdmcgolbaaDoorParte
import Derived.Test.YtempdfdmcgolbaaDoorParta
set_option linter.unusedVariables false
set_option linter.unusedSimpArgs false
set_option linter.unusedSectionVars false
section
/- Plain facts of lex: bytes, words, lines of words. -/
namespace Go.Proofs.Lx
open Go Ev Sx
set_option maxRecDepth 10000
theorem awake13 : f11 () = some (true, ()) := by kernel_rfl
def isL (n : Nat) : Bool := (decide (97 ≤ n) && decide (n ≤ 122)) || (decide (65 ≤ n) && decide (n ≤ 90))
def isD (n : Nat) : Bool := decide (48 ≤ n) && decide (n ≤ 57)
def isB (n : Nat) : Bool := n == 9 || n == 13 || n == 32
def w1 (n : Nat) : Bool := isL n || n == 37
def n1 (n : Nat) : Bool := isD n || n == 45
def e1 (n : Nat) : Bool := n == 61
def wm (n : Nat) : Bool := isL n || isD n || n == 95 || n == 37
def nm (n : Nat) : Bool := isD n || n == 46 || n == 45
theorem all8 {p : Nat → Bool} (h : (List.range 256).all p = true) (c : UInt8) : p c.toNat = true := List.all_eq_true.1 h _ (List.mem_range.2 c.toNat_lt)
theorem tab {f : Int × Unit → Option (Bool × Unit)} {g : Nat → Bool} (h : ((List.range 256).all fun n => match f (Int.ofNat n, ()) with
    | some y => y.1 == g n
    | none => false) = true) (c : UInt8) : f (Int.ofNat c.toNat, ()) = some (g c.toNat, ()) := by
  have := all8 h c
  split at this
  · rename_i y hy
    rw [hy]
    have : y.1 = g c.toNat := by simpa using this
    rw [← this]
  · cases this
theorem f97_eq (c : UInt8) : f97 (Int.ofNat c.toNat, ()) = some (w1 c.toNat, ()) := tab (f := f97) (g := w1) (by kernel_rfl) c
theorem f102_eq (c : UInt8) : f102 (Int.ofNat c.toNat, ()) = some (n1 c.toNat, ()) := tab (f := f102) (g := n1) (by kernel_rfl) c
theorem f105_eq (c : UInt8) : f105 (Int.ofNat c.toNat, ()) = some (e1 c.toNat, ()) := tab (f := f105) (g := e1) (by kernel_rfl) c
theorem f99_eq (c : UInt8) : f99 (Int.ofNat c.toNat, ()) = some (wm c.toNat, ()) := tab (f := f99) (g := wm) (by kernel_rfl) c
theorem f103_eq (c : UInt8) : f103 (Int.ofNat c.toNat, ()) = some (nm c.toNat, ()) := tab (f := f103) (g := nm) (by kernel_rfl) c
theorem excl (c : UInt8) : (w1 c.toNat = true → n1 c.toNat = false ∧ e1 c.toNat = false ∧ isB c.toNat = false ∧ c.toNat ≠ 35 ∧ c.toNat ≠ 10) := by
  have := all8 (p := fun n => !(w1 n) || (!(n1 n) && !(e1 n) && !(isB n) && n != 35 && n != 10)) (by kernel_rfl) c
  intro h
  simp [h] at this
  exact ⟨this.1.1.1.1, this.1.1.1.2, this.1.1.2, this.1.2, this.2⟩
theorem wm_not (c : UInt8) (h : wm c.toNat = true) : c.toNat ≠ 35 ∧ c.toNat ≠ 10 := by
  have := all8 (p := fun n => !(wm n) || (n != 35 && n != 10)) (by kernel_rfl) c
  simp [h] at this
  exact this
theorem w1_wm (c : UInt8) (h : w1 c.toNat = true) : wm c.toNat = true := by
  have := all8 (p := fun n => !(w1 n) || wm n) (by kernel_rfl) c
  simpa [h] using this
def asc : List Bool := (List.range 256).map isB
theorem f62_eq : f62 ([9, 13, 32], ()) = some (asc, true, ()) := by kernel_rfl
theorem asc_at (c : UInt8) : at? asc (Int.ofNat c.toNat) = some (isB c.toNat) := by
  have := all8 (p := fun n => asc[n]? == some (isB n)) (by kernel_rfl) c
  unfold at?
  rw [if_pos (by simp)]
  simpa using this
theorem at_zero {α : Type} (c : α) (q : List α) : at? (c :: q) 0 = some c := rfl
theorem cut_one {α : Type} (c : α) (q : List α) : cut (c :: q) 1 (Int.ofNat (c :: q).length) = some q := by
  unfold cut
  rw [if_pos ⟨by decide, by simp; omega, by simp⟩]
  simp
theorem f63_loop : ∀ (s : List UInt8) (n : Nat), s.length < n → loopF (fun (self : (List UInt8) × (List Bool) → Option (As [.str, .sl .bool])) (s : (List UInt8) × (List Bool)) => f63_m1 (fun s as' => self (s, as')) s.1 s.2) n (s, asc) = some (s.dropWhile (fun c => isB c.toNat), asc, ())
  | s, 0, h => by omega
  | [], n + 1, h => rfl
  | c :: q, n + 1, h => by
    have ih := f63_loop q n (by simp at h; omega)
    have h1 : gt (Int.ofNat (c :: q).length) 0 = true := by simp [gt]; try omega
    have h2 : lt (Int.ofNat c.toNat) 256 = true := by have := c.toNat_lt; simp [lt]; omega
    rw [loopF]
    unfold f63_m1
    simp only [h1, if_true, at_zero, Option.bind_some, need, h2, asc_at, cut_one, List.dropWhile_cons]
    cases hb : isB c.toNat
    · rfl
    · simp only [Bool.not_true, Bool.false_eq_true, if_false, if_true]
      exact ih
theorem f19_step (s : List UInt8) : f19 (s, [9, 13, 32], ()) = if eqs s [] = true then some (s, ()) else (f62 ([9, 13, 32], ())).bind fun y => need (eqi 256 (Int.ofNat y.1.length)) (need (eqi 256 (Int.ofNat (y.1.length * 1))) (if y.2.1 = true then (f63 (s, y.1, ())).bind fun y => some (y.1, ()) else (f64 (s, [9, 13, 32], ())).bind fun y => some (y.1, ()))) := rfl
theorem f19_eq {s : List UInt8} (h : s.length < 1000000) : f19 (s, [9, 13, 32], ()) = some (s.dropWhile (fun c => isB c.toNat), ()) := by
  have h63 : f63 (s, asc, ()) = some (s.dropWhile (fun c => isB c.toNat), asc, ()) := f63_loop s _ (by omega)
  rw [f19_step]
  by_cases hs : s = []
  · subst hs; rfl
  · have e1 : eqs s [] = false := by simp [eqs, hs]
    have e5 : eqi 256 (Int.ofNat asc.length) = true := by kernel_rfl
    have e6 : eqi 256 (Int.ofNat (asc.length * 1)) = true := by kernel_rfl
    rw [e1, f62_eq, Option.bind_some]
    simp only [Bool.false_eq_true, if_false, need, e5, e6, if_true]
    rw [h63]
    rfl
/-! ### the rest of a word -/
theorem w64 {x : Int} (h1 : -9223372036854775808 ≤ x) (h2 : x ≤ 9223372036854775807) : IntKind.i64.wrap x = x := by
  simp only [IntKind.wrap, IntKind.signed, IntKind.bits]
  simp
  omega
theorem at_app {α : Type} (p : List α) (c : α) (q : List α) : at? (p ++ c :: q) (p.length : Int) = some c := by
  unfold at?
  simp
theorem cut_app0 {α : Type} (p q : List α) : cut (p ++ q) 0 (p.length : Int) = some p := by
  unfold cut
  rw [if_pos ⟨by decide, by omega, by simp; omega⟩]
  simp
theorem cut_app1 {α : Type} (p q : List α) : cut (p ++ q) (p.length : Int) (Int.ofNat (p ++ q).length) = some q := by
  unfold cut
  rw [if_pos ⟨by omega, by simp; omega, by simp⟩]
  have e : (Int.ofNat (p ++ q).length).toNat = (p ++ q).length := rfl
  rw [e, List.take_length]
  simp
theorem f108_step (g : Int → List UInt8 → Option (As [.str, .str])) (n : Int) (t : List UInt8) : f108_99_m1 (f108_99_K2 g) g n t = if lt n (Int.ofNat t.length) = true then (at? t n).bind fun c => (f99 (Int.ofNat c.toNat, ())).bind fun y => if y.1 = true then g (add .i64 n 1) t else f108_99_m3 n t else f108_99_m3 n t := rfl
theorem m3_app (p q : List UInt8) : f108_99_m3 (p.length : Int) (p ++ q) = some (p, q, ()) := by
  unfold f108_99_m3
  rw [cut_app0, Option.bind_some, cut_app1, Option.bind_some]
theorem f108_loop : ∀ (q p : List UInt8) (n : Nat), q.length < n → p.length + q.length < 1000000 →
    loopF (fun (self : Int × List UInt8 → Option (As [.str, .str])) (s : Int × List UInt8) => f108_99_m1 (f108_99_K2 (fun n t1 => self (n, t1))) (fun n t1 => self (n, t1)) s.1 s.2) n ((p.length : Int), p ++ q) =
      some (p ++ q.takeWhile (fun c => wm c.toNat), q.dropWhile (fun c => wm c.toNat), ())
  | q, p, 0, h, _ => by omega
  | [], p, n + 1, h, hl => by
    have h1 : lt (p.length : Int) (Int.ofNat (p ++ []).length) = false := by simp [lt]
    refine (f108_step _ _ _).trans ?_
    rw [if_neg (by rw [h1]; decide), m3_app]
    simp
  | c :: q, p, n + 1, h, hl => by
    have h1 : lt (p.length : Int) (Int.ofNat (p ++ c :: q).length) = true := by simp [lt]; omega
    have ih := f108_loop q (p ++ [c]) n (by simp at h; omega) (by simp at hl ⊢; omega)
    refine (f108_step _ _ _).trans ?_
    rw [if_pos h1, at_app, Option.bind_some, f99_eq, Option.bind_some]
    cases hb : wm c.toNat
    · simp only [Bool.false_eq_true, if_false, m3_app, List.takeWhile_cons, List.dropWhile_cons, hb, List.append_nil]
    · have ha : add .i64 (p.length : Int) 1 = ((p ++ [c]).length : Int) := by
        unfold add
        rw [w64 (by omega) (by simp at hl; omega)]
        simp
      have e : p ++ c :: q = (p ++ [c]) ++ q := by simp
      simp only [if_true, ha, List.takeWhile_cons, List.dropWhile_cons, hb]
      rw [e, ih]
      simp
theorem f108_eq (c : UInt8) (q : List UInt8) (h : q.length < 100000) : f108_99 (c :: q, ()) = some (c :: q.takeWhile (fun c => wm c.toNat), q.dropWhile (fun c => wm c.toNat), ()) :=
  f108_loop q [c] 18446744073709551616 (by omega) (by simp; omega)
end Go.Proofs.Lx

end

section
/- Lines of words. -/
namespace Go.Proofs.Lx
open Go Ev Sx
set_option maxRecDepth 10000
abbrev TL := List (Int × List UInt8 × (Int × Int) × Int)
theorem eqV_refl : ∀ (t : Ty) (x : Vl t), eqV t x x = true := by
  have hl : ∀ {α : Type} {f : α → α → Bool}, (∀ a, f a a = true) → ∀ x : List α, eqL f x x = true := fun h x => by
    induction x with
    | nil => rfl
    | cons a q ih => simp [eqL, h, ih]
  intro t
  induction t with
  | int k => intro x; simp [eqV, eqi]
  | bool => intro x; simp [eqV, eqb]
  | str => intro x; simp [eqV, eqs]
  | sl t ih => intro x; exact hl ih x
  | pr a b iha ihb => intro x; simp [eqV, iha, ihb]
  | wr a ih => intro x; exact ih x
  | un => intro x; rfl
  | ar n t ih => intro x; exact hl ih x
theorem eqAs_refl : ∀ (rs : List Ty) (x : As rs), eqAs rs x x = true
  | [], _ => rfl
  | t :: r, x => by simp [eqAs, eqV_refl, eqAs_refl r]
theorem amb2 {R : Type} {eq : R → R → Bool} (h : ∀ x, eq x x = true) (a : Option R) : amb eq [a, a] = a := by
  cases a <;> simp [amb, ambC, h]
theorem amb3 {R : Type} {eq : R → R → Bool} (h : ∀ x, eq x x = true) (a : Option R) : amb eq [a, a, a] = a := by
  cases a <;> simp [amb, ambC, h]
abbrev RL := As [.sl (.pr (.int .u8) (.pr .str (.pr (.pr (.int .i64) (.int .u8)) (.int .i64)))), .int .i64]
/-- the loop of line -/
abbrev lineB (self : Int × List UInt8 × TL → Option RL) (s : Int × List UInt8 × TL) : Option RL :=
  f52_m1 (f52_K2) (f52_K3 (fun at' text l => self (at', text, l))) (fun at' text l => self (at', text, l)) s.1 s.2.1 s.2.2
theorem amb_word (J : Int → Int → List UInt8 → TL → Option RL) (j2 : Int → TL → Option RL) (j3 : Int → List UInt8 → TL → Int → List UInt8 → Int → Int → Int → Option RL) (self1 : Int → List UInt8 → TL → Option RL) (a : Int) (t : List UInt8) (c : UInt8) (q : List UInt8) (l : TL)
    (ht : f19 (t, [9, 13, 32], ()) = some (c :: q, ())) (hc : w1 c.toNat = true) : f52_m1 j2 j3 self1 a t l = j3 a (c :: q) l 1 [] 0 0 a := by
  obtain ⟨h2, h3, _⟩ := excl c hc
  have e1 : f97 (Int.ofNat c.toNat, ()) = some (true, ()) := by rw [f97_eq, hc]
  have e2 : f102 (Int.ofNat c.toNat, ()) = some (false, ()) := by rw [f102_eq, h2]
  have e3 : f105 (Int.ofNat c.toNat, ()) = some (false, ()) := by rw [f105_eq, h3]
  have e4 : eqs (c :: q) [] = false := rfl
  have hr : ∀ x, eqAs f52_s.rs x x = true := eqAs_refl _
  unfold f52_m1
  rw [ht, Option.bind_some]
  simp only [e4, Bool.false_eq_true, if_false, at_zero, Option.bind_some]
  rw [e1, e2, e3]
  simp only [Option.bind_some, Bool.false_eq_true, if_false, if_true]
  rw [amb2 hr]
  exact amb3 hr _
theorem K3_word (u1 : Int → List UInt8 → TL → Option RL) (a : Int) (c : UInt8) (q : List UInt8) (l : TL) (hq : q.length < 100000) :
    f52_K3 u1 a (c :: q) l 1 [] 0 0 a = if 20 < (c :: q.takeWhile (fun c => wm c.toNat)).length then some ([], 133, ()) else need (small (l.length + 1)) (u1 a (q.dropWhile (fun c => wm c.toNat)) (l ++ [(1, c :: q.takeWhile (fun c => wm c.toNat), (0, 0), a)])) := by
  unfold f52_K3 f52_m3
  have h1 : eqi 1 1 = true := rfl
  rw [if_pos h1, f108_eq c q hq, Option.bind_some]
  generalize c :: q.takeWhile (fun c => wm c.toNat) = u
  unfold f101 f101_m0
  by_cases h : 20 < u.length
  · have h2 : gt (Int.ofNat u.length) 20 = true := by simp [gt]; omega
    simp only [h2, if_true, Option.bind_some, if_pos h]
    rfl
  · have h2 : gt (Int.ofNat u.length) 20 = false := by simp [gt]; omega
    simp only [h2, Bool.false_eq_true, if_false, Option.bind_some, if_neg h]
    rfl
theorem line_word (self : Int × List UInt8 × TL → Option RL) (a : Int) (t : List UInt8) (c : UInt8) (q : List UInt8) (l : TL) (ht : f19 (t, [9, 13, 32], ()) = some (c :: q, ())) (hc : w1 c.toNat = true) (hq : q.length < 100000) :
    lineB self (a, t, l) = if 20 < (c :: q.takeWhile (fun c => wm c.toNat)).length then some ([], 133, ()) else need (small (l.length + 1)) (self (a, q.dropWhile (fun c => wm c.toNat), l ++ [(1, c :: q.takeWhile (fun c => wm c.toNat), (0, 0), a)])) := by
  refine (amb_word (fun _ _ _ _ => none) _ _ _ a t c q l ht hc).trans ?_
  exact K3_word _ a c q l hq
theorem line_end (self : Int × List UInt8 × TL → Option RL) (a : Int) (l : TL) (h : 0 < l.length) (h2 : l.length < 1000) : lineB self (a, [], l) = some (l ++ [(4, [], (0, 0), a)], 0, ()) := by
  have h19 : f19 ([], [9, 13, 32], ()) = some ([], ()) := rfl
  show f52_m1 _ _ _ a [] l = _
  unfold f52_m1
  rw [h19, Option.bind_some]
  have e : eqs ([] : List UInt8) [] = true := rfl
  rw [if_pos e]
  unfold f52_K2 f52_m2
  have h3 : gt (Int.ofNat l.length) 0 = true := by simp [gt]; omega
  have h4 : small (l.length + 1) = true := decide_eq_true (by omega)
  simp only [h3, if_true, h4, need]
  rfl
theorem index_no (c : UInt8) : ∀ s : List UInt8, (∀ b ∈ s, b ≠ c) → Go.Lib.indexByte s c = -1
  | [], _ => rfl
  | b :: q, h => by
    have hb : (b == c) = false := by simpa using h b (List.mem_cons_self ..)
    have ih := index_no c q (fun x hx => h x (List.mem_cons_of_mem _ hx))
    unfold Go.Lib.indexByte
    rw [hb, ih]
    rfl
theorem line_in (t : List UInt8) (n : Int) (h : ∀ b ∈ t, b ≠ 35) : f52 (t, n, ()) = loopF lineB 18446744073709551616 (n, t, []) := by
  show f52_m0 f52_K1 t n = _
  unfold f52_m0
  have e1 : eqs [35] t = false := by
    cases t with
    | nil => rfl
    | cons a q =>
      have := h a (List.mem_cons_self ..)
      simp [eqs]
      intro e
      exact absurd e.symm this
  have e2 : ge (Go.Lib.indexByte t 35) 0 = false := by rw [index_no 35 t h]; rfl
  simp only [e1, e2, Bool.false_eq_true, if_false]
  rfl
/-- a word -/
structure Word (w : List UInt8) : Prop where
  all : ∀ b ∈ w, wm b.toNat = true
  first : ∃ c q, w = c :: q ∧ w1 c.toNat = true
  len : w.length < 1000
theorem tw_all {p : UInt8 → Bool} : ∀ {q r : List UInt8}, (∀ b ∈ q, p b = true) → (q ++ r).takeWhile p = q ++ r.takeWhile p ∧ (q ++ r).dropWhile p = r.dropWhile p
  | [], r, h => ⟨rfl, rfl⟩
  | a :: q, r, h => by
    obtain ⟨h1, h2⟩ := tw_all (q := q) (r := r) (fun x hx => h x (List.mem_cons_of_mem _ hx))
    have := h a (List.mem_cons_self ..)
    simp [this, h1, h2]
theorem Word.f19 {w r : List UInt8} (h : Word w) (hr : r.length < 2000) : ∃ c q, w = c :: q ∧ w1 c.toNat = true ∧ Lx.f19 (w ++ r, [9, 13, 32], ()) = some (c :: (q ++ r), ()) ∧ (∀ b ∈ q, wm b.toNat = true) := by
  obtain ⟨c, q, rfl, hc⟩ := h.first
  obtain ⟨_, _, hb, _⟩ := excl c hc
  refine ⟨c, q, rfl, hc, ?_, fun b hb => h.all b (List.mem_cons_of_mem _ hb)⟩
  rw [f19_eq (by have := h.len; simp at this ⊢; omega)]
  simp [hb]
theorem Word.no {w : List UInt8} (h : Word w) : (∀ b ∈ w, b ≠ 35) ∧ (∀ b ∈ w, b ≠ 10) := by
  constructor
  · intro b hb e
    subst e
    exact absurd (h.all _ hb) (by decide)
  · intro b hb e
    subst e
    exact absurd (h.all _ hb) (by decide)
theorem word_step {w r : List UInt8} (h : Word w) (hr : r.length < 2000) (hb : ∀ c q, r = c :: q → wm c.toNat = false) (self : Int × List UInt8 × TL → Option RL) (a : Int) (l : TL) (hl : l.length < 1000) (pre : List UInt8) (hp : ∀ b ∈ pre, isB b.toNat = true) (hpl : pre.length < 10) :
    lineB self (a, pre ++ (w ++ r), l) = if 20 < w.length then some ([], 133, ()) else self (a, r, l ++ [(1, w, (0, 0), a)]) := by
  obtain ⟨c, q, rfl, hc, h19, hq⟩ := h.f19 hr
  have h19' : Lx.f19 (pre ++ (c :: q ++ r), [9, 13, 32], ()) = some (c :: (q ++ r), ()) := by
    have hlen := h.len
    rw [f19_eq (by simp at hlen ⊢; omega)] at h19 ⊢
    rw [(tw_all hp).2]
    exact h19
  have hlen := h.len
  rw [line_word self a _ c (q ++ r) l h19' hc (by simp at hlen ⊢; omega)]
  obtain ⟨t1, t2⟩ := tw_all (p := fun c => wm c.toNat) (q := q) (r := r) hq
  have t3 : r.takeWhile (fun c => wm c.toNat) = [] ∧ r.dropWhile (fun c => wm c.toNat) = r := by
    cases r with
    | nil => exact ⟨rfl, rfl⟩
    | cons x y => simp [hb x y rfl]
  rw [t1, t2, t3.1, t3.2, List.append_nil]
  have h4 : small (l.length + 1) = true := decide_eq_true (by omega)
  simp only [need, h4, if_true]
theorem line1 {w : List UInt8} (h : Word w) (n : Int) : f52 (w, n, ()) = if 20 < w.length then some ([], 133, ()) else some ([(1, w, (0, 0), n), (4, [], (0, 0), n)], 0, ()) := by
  rw [line_in w n h.no.1]
  have e := word_step (r := []) h (by simp) (fun c q e => by cases e) (loopF lineB 18446744073709551615) n [] (by simp) [] (fun b hb => by cases hb) (by simp)
  rw [List.append_nil, List.nil_append] at e
  refine e.trans ?_
  split
  · rfl
  · exact line_end (loopF lineB 18446744073709551614) n [(1, w, (0, 0), n)] (by simp) (by simp)
theorem line2 {u w : List UInt8} (hu : Word u) (hw : Word w) (h1 : u.length ≤ 20) (h2 : w.length ≤ 20) (n : Int) : f52 (u ++ 32 :: w, n, ()) = some ([(1, u, (0, 0), n), (1, w, (0, 0), n), (4, [], (0, 0), n)], 0, ()) := by
  rw [line_in _ n (fun b hb => by
    rcases List.mem_append.1 hb with hb | hb
    · exact hu.no.1 b hb
    · rcases List.mem_cons.1 hb with hb | hb
      · subst hb; decide
      · exact hw.no.1 b hb)]
  have e := word_step (r := 32 :: w) hu (by simp; omega) (fun c q e => by cases e; rfl) (loopF lineB 18446744073709551615) n [] (by simp) [] (fun b hb => by cases hb) (by simp)
  rw [List.nil_append] at e
  refine e.trans ?_
  rw [if_neg (by omega)]
  have e2 := word_step (r := []) hw (by simp) (fun c q e => by cases e) (loopF lineB 18446744073709551614) n [(1, u, (0, 0), n)] (by simp) [32] (fun b hb => by simp at hb; subst hb; rfl) (by simp)
  rw [List.append_nil] at e2
  refine e2.trans ?_
  rw [if_neg (by omega)]
  exact line_end (loopF lineB 18446744073709551613) n [(1, u, (0, 0), n), (1, w, (0, 0), n)] (by simp) (by simp)
end Go.Proofs.Lx

end

section
/- LexKinds, as a plain law. -/
namespace Go.Proofs.Lx
open Go Ev Sx
set_option maxRecDepth 10000
abbrev LR := As [.sl (.pr (.int .u8) (.pr .str (.pr (.pr (.int .i64) (.int .u8)) (.int .i64)))), .pr (.int .i64) (.int .i64)]
abbrev lexB (self : (List UInt8) × Int × Int × Int × TL → Option LR) (s : (List UInt8) × Int × Int × Int × TL) : Option LR :=
  f12_m1 (f12_K2) (fun text n t3 t3_2 l => self (text, n, t3, t3_2, l)) s.1 s.2.1 s.2.2.1 s.2.2.2.1 s.2.2.2.2
theorem lex_step (self : (List UInt8) × Int × Int × Int × TL → Option LR) (t : List UInt8) (n : Int) (l : TL) (hne : t ≠ []) (h10 : ∀ b ∈ t, b ≠ 10) {tk : TL} {e : Int} (h : f52 (t, n, ()) = some (tk, e, ())) :
    lexB self (t, n, 0, 0, l) = if nei e 0 = true then some ([], (e, n), ()) else need (small (l.length + tk.length)) (self ([], add .i64 n 1, 0, 0, l ++ tk)) := by
  show f12_m1 _ _ t n 0 0 l = _
  unfold f12_m1
  have e1 : nes t [] = true := by simp [nes, hne]
  have e2 : eqs [10] t = false := by
    cases t with
    | nil => exact absurd rfl hne
    | cons a q =>
      have := h10 a (List.mem_cons_self ..)
      simp [eqs]
      intro e
      exact absurd e.symm this
  have e3 : ge (Go.Lib.indexByte t 10) 0 = false := by rw [index_no 10 t h10]; rfl
  simp only [e1, e2, e3, Bool.false_eq_true, if_false, if_true]
  rw [h, Option.bind_some]
theorem loopF_succ {σ R : Type} (F : (σ → Option R) → σ → Option R) (n : Nat) (s : σ) : loopF F (n + 1) s = F (loopF F n) s := rfl
theorem lex_end (self : (List UInt8) × Int × Int × Int × TL → Option LR) (n : Int) (l : TL) : lexB self ([], n, 0, 0, l) = some (l, (0, 0), ()) := rfl
theorem lex_in (t : List UInt8) : f12_K1 t 1 0 0 [] = loopF lexB (18446744073709551614 + 1 + 1) (t, 1, 0, 0, []) := rfl
theorem lex_one {t : List UInt8} (hne : t ≠ []) (h10 : ∀ b ∈ t, b ≠ 10) (hl : t.length ≤ 8192) {tk : TL} {e : Int} (h : f52 (t, 1, ()) = some (tk, e, ())) (htk : tk.length < 1000) :
    f12 (t, ()) = if nei e 0 = true then some ([], (e, 1), ()) else some (tk, (0, 0), ()) := by
  show f12_m0 f12_K1 t = _
  unfold f12_m0
  have e1 : gt (Int.ofNat t.length) 8192 = false := by simp [gt]; omega
  simp only [e1, Bool.false_eq_true, if_false]
  rw [lex_in, loopF_succ, lex_step _ t 1 [] hne h10 h]
  split
  · rfl
  · have h4 : small (([] : TL).length + tk.length) = true := decide_eq_true (by simp; omega)
    rw [need, if_pos h4, loopF_succ, lex_end, List.nil_append]
theorem lex1 {w : List UInt8} (h : Word w) : f12 (w, ()) = if 20 < w.length then some ([], (133, 1), ()) else some ([(1, w, (0, 0), 1), (4, [], (0, 0), 1)], (0, 0), ()) := by
  have hne : w ≠ [] := by obtain ⟨c, q, rfl, _⟩ := h.first; simp
  have hl := h.len
  by_cases h20 : 20 < w.length
  · have := line1 h 1
    rw [if_pos h20] at this
    rw [lex_one hne h.no.2 (by omega) this (by simp), if_pos h20]
    rfl
  · have := line1 h 1
    rw [if_neg h20] at this
    rw [lex_one hne h.no.2 (by omega) this (by simp), if_neg h20]
    rfl
theorem lex2 {u w : List UInt8} (hu : Word u) (hw : Word w) (h1 : u.length ≤ 20) (h2 : w.length ≤ 20) : f12 (u ++ 32 :: w, ()) = some ([(1, u, (0, 0), 1), (1, w, (0, 0), 1), (4, [], (0, 0), 1)], (0, 0), ()) := by
  rw [lex_one (by simp) (fun b hb => by
    rcases List.mem_append.1 hb with hb | hb
    · exact hu.no.2 b hb
    · rcases List.mem_cons.1 hb with hb | hb
      · subst hb; decide
      · exact hw.no.2 b hb) (by simp; omega) (line2 hu hw h1 h2 1) (by simp)]
  rfl
theorem same1 (w : List UInt8) : f14 ([(1, w, (0, 0), 1), (4, [], (0, 0), 1)], [(1, w, (0, 0), 1), (4, [], (0, 0), 1)], ()) = some (true, ()) := by
  have e : eqs w w = true := by simp [eqs]
  have e2 : eqi 1 1 = true := rfl
  have s1 : ∀ g : TL → TL → Int → Int → Option (As [.bool]), f14_m1 g [(1, w, (0, 0), 1), (4, [], (0, 0), 1)] [(1, w, (0, 0), 1), (4, [], (0, 0), 1)] 2 0 = if (!(eqs w w && true)) = true then some (false, ()) else g [(1, w, (0, 0), 1), (4, [], (0, 0), 1)] [(1, w, (0, 0), 1), (4, [], (0, 0), 1)] 2 1 := fun g => by
    unfold f14_m1
    rw [if_pos (show lt 0 2 = true from rfl)]
    rw [show at? ([(1, w, (0, 0), 1), (4, [], (0, 0), 1)] : TL) 0 = some (1, w, (0, 0), 1) from rfl, Option.bind_some, Option.bind_some]
    rfl
  refine (s1 (fun a b x y => loopF (fun self s => f14_m1 (fun a b x y => self (a, b, x, y)) s.1 s.2.1 s.2.2.1 s.2.2.2) 18446744073709551615 (a, b, x, y))).trans ?_
  rw [e]
  rfl
/-- a byte of the law's words -/
theorem pick_wm {c : UInt8} (h : c ∈ ([97, 98, 122, 65, 90, 37, 48, 57, 95] : List UInt8)) : wm c.toNat = true := by
  simp at h
  rcases h with rfl | rfl | rfl | rfl | rfl | rfl | rfl | rfl | rfl <;> rfl
theorem cut_pick {y : Int} (h0 : 0 ≤ y) (h1 : y ≤ 255) : ∃ c, cut ([97, 98, 122, 65, 90, 37, 48, 57, 95] : List UInt8) (rem (cvt .i64 y) 9) (add .i64 (rem (cvt .i64 y) 9) 1) = some [c] ∧ wm c.toNat = true := by
  have hc : cvt .i64 y = y := w64 (by omega) (by omega)
  rw [hc]
  obtain ⟨k, hk⟩ : ∃ k : Nat, y.tmod 9 = k ∧ k < 9 := ⟨(y.tmod 9).toNat, by have := Int.tmod_nonneg 9 h0; have := Int.tmod_lt_of_pos y (show (0 : Int) < 9 by decide); omega⟩
  unfold rem
  rw [hk.1]
  have ha : add .i64 (k : Int) 1 = ((k + 1 : Nat) : Int) := by unfold add; rw [w64 (by omega) (by omega)]; simp
  rw [ha]
  have : ∀ k, k < 9 → ∃ c, cut ([97, 98, 122, 65, 90, 37, 48, 57, 95] : List UInt8) ((k : Nat) : Int) ((k + 1 : Nat) : Int) = some [c] ∧ wm c.toNat = true := by
    intro k hk
    match k, hk with
    | 0, _ => exact ⟨97, rfl, rfl⟩
    | 1, _ => exact ⟨98, rfl, rfl⟩
    | 2, _ => exact ⟨122, rfl, rfl⟩
    | 3, _ => exact ⟨65, rfl, rfl⟩
    | 4, _ => exact ⟨90, rfl, rfl⟩
    | 5, _ => exact ⟨37, rfl, rfl⟩
    | 6, _ => exact ⟨48, rfl, rfl⟩
    | 7, _ => exact ⟨57, rfl, rfl⟩
    | 8, _ => exact ⟨95, rfl, rfl⟩
  exact this k hk.2
theorem Word.snoc {w : List UInt8} (h : Word w) {c : UInt8} (hc : wm c.toNat = true) (hl : w.length < 900) : Word (w ++ [c]) := by
  obtain ⟨c0, q, rfl, h1⟩ := h.first
  exact ⟨fun b hb => by
    rcases List.mem_append.1 hb with hb | hb
    · exact h.all b hb
    · simp at hb; subst hb; exact hc, ⟨c0, q ++ [c], rfl, h1⟩, by simp at hl ⊢; omega⟩
theorem f4_step (g : Bool → List UInt8 → List Int → Int → Int → Option (As [.bool])) (b : Bool) (w : List UInt8) (xs : List Int) (m k : Int) : f4_m1 (f4_K2) g b w xs m k = if lt k m = true then (at? xs k).bind fun y => (cut ([97, 98, 122, 65, 90, 37, 48, 57, 95] : List UInt8) (rem (cvt .i64 y) 9) (add .i64 (rem (cvt .i64 y) 9) 1)).bind fun y => need (small (w.length + y.length)) (g b (w ++ y) xs m (add .i64 k 1)) else f4_K2 b w := rfl
theorem K1_true (P : Bool → List UInt8 → Prop) (b : Bool) (xs : List Int) (hx : ∀ x ∈ xs, 0 ≤ x ∧ x ≤ 255) (hxl : xs.length ≤ 40) (hK : ∀ w, Word w → f4_K2 b w = some (true, ())) :
    ∀ (k : Nat) (w : List UInt8) (n : Nat), Word w → w.length ≤ 50 + (xs.length - k) * 0 + k → k ≤ xs.length → xs.length - k < n →
      loopF (fun (self : (Bool) × (List UInt8) × (List Int) × (Int) × (Int) → Option (As [.bool])) (s : (Bool) × (List UInt8) × (List Int) × (Int) × (Int)) => f4_m1 (f4_K2) (fun blank word t19 t20 t21 => self (blank, word, t19, t20, t21)) s.1 s.2.1 s.2.2.1 s.2.2.2.1 s.2.2.2.2) n (b, w, xs, Int.ofNat xs.length, (k : Int)) = some (true, ())
  | k, w, 0, hw, hwl, hk, hn => by omega
  | k, w, n + 1, hw, hwl, hk, hn => by
    rw [loopF_succ, f4_step]
    by_cases hlt : k < xs.length
    · have e1 : lt (k : Int) (Int.ofNat xs.length) = true := by simp [lt]; omega
      have e2 : at? xs (k : Int) = some xs[k] := by simp [at?, hlt]
      obtain ⟨c, hc, hwm⟩ := cut_pick (hx xs[k] (List.getElem_mem hlt)).1 (hx xs[k] (List.getElem_mem hlt)).2
      have e3 : small (w.length + [c].length) = true := decide_eq_true (by simp; omega)
      have e4 : add .i64 (k : Int) 1 = ((k + 1 : Nat) : Int) := by unfold add; rw [w64 (by omega) (by omega)]; simp
      rw [if_pos e1, e2, Option.bind_some, hc, Option.bind_some, need, if_pos e3, e4]
      exact K1_true P b xs hx hxl hK (k + 1) (w ++ [c]) n (hw.snoc hwm (by omega)) (by simp; omega) (by omega) (by omega)
    · have e1 : lt (k : Int) (Int.ofNat xs.length) = false := by simp [lt]; omega
      rw [if_neg (by rw [e1]; decide)]
      exact hK w hw
theorem K2_true (b : Bool) {w : List UInt8} (hw : Word w) : f4_K2 b w = some (true, ()) := by
  have hlen := hw.len
  have hend : f4_K8 false = some (true, ()) := by
    unfold f4_K8 f4_m8
    rw [awake13]
    rfl
  have h7 : ∀ (t : List UInt8) (want : Int) (tk : TL) (e : Int × Int), f12 (t, ()) = some (tk, e, ()) → (20 < t.length ∨ (e.1 = 0 ∧ (tk.length : Int) = want)) → f4_K7 t want = some (true, ()) := fun t want tk e h1 h2 => by
    unfold f4_K7 f4_m7
    rw [h1, Option.bind_some]
    by_cases hl : t.length ≤ 20
    · have e1 : le (Int.ofNat t.length) 20 = true := by simp [le]; omega
      rcases h2 with h2 | ⟨h2, h3⟩
      · omega
      · have e2 : nei e.1 0 = false := by simp [nei, h2]
        have e3 : nei (Int.ofNat tk.length) want = false := by simp [nei, ← h3]
        simp only [e1, e2, e3, if_true, Bool.false_eq_true, if_false]
        exact hend
    · have e1 : le (Int.ofNat t.length) 20 = false := by simp [le]; omega
      simp only [e1, Bool.false_eq_true, if_false]
      exact hend
  have h5 : f4_K5 b w = some (true, ()) := by
    have hq : quo .i64 (Int.ofNat w.length) 2 = ((w.length / 2 : Nat) : Int) := by
      unfold quo
      have : (Int.ofNat w.length).tdiv 2 = ((w.length / 2 : Nat) : Int) := by simp [Int.ofNat_tdiv]
      rw [this, w64 (by omega) (by omega)]
    have h6 : ∀ x, f4_K6 b w ((w.length / 2 : Nat) : Int) x = some (true, ()) ∨ x = true := fun x => by
      cases x
      · left
        unfold f4_K6 f4_m6
        rw [if_neg (by decide), awake13]
        rfl
      · exact .inr rfl
    have h6f : f4_K6 b w ((w.length / 2 : Nat) : Int) false = some (true, ()) := (h6 false).resolve_right (by decide)
    unfold f4_K5 f4_m5
    rw [hq]
    by_cases h0 : 0 < w.length / 2
    · have e1 : gt ((w.length / 2 : Nat) : Int) 0 = true := by simp [gt]; omega
      rw [if_pos e1]
      by_cases h20 : w.length ≤ 20
      · have e2 : le (Int.ofNat w.length) 20 = true := by simp [le]; omega
        rw [e2]
        obtain ⟨u, v, huv, hu⟩ : ∃ u v, w = u ++ v ∧ u.length = w.length / 2 := ⟨w.take (w.length / 2), w.drop (w.length / 2), by simp, by simp; omega⟩
        obtain ⟨c, q, hcq, hc⟩ := hw.first
        have huw : Word u := by
          refine ⟨fun x hx => hw.all x (by rw [huv]; exact List.mem_append_left _ hx), ?_, by omega⟩
          cases u with
          | nil => simp at hu; omega
          | cons a u' =>
            rw [huv] at hcq
            injection hcq with h1 h2
            exact ⟨a, u', rfl, by rw [h1]; exact hc⟩
        have hvl : v.length ≤ 19 := by have := congrArg List.length huv; simp at this; omega
        have hvm : ∀ x ∈ v, wm x.toNat = true := fun x hx => hw.all x (by rw [huv]; exact List.mem_append_right _ hx)
        have hvw : Word (120 :: v) := ⟨fun x hx => by
          rcases List.mem_cons.1 hx with hx | hx
          · subst hx; rfl
          · exact hvm x hx, ⟨120, v, rfl, rfl⟩, by simp; omega⟩
        unfold f4_K6 f4_m6
        rw [← hu, huv, if_pos rfl, cut_app0, Option.bind_some, cut_app1]
        have s1 : small (Nat.succ (Nat.succ u.length)) = true := decide_eq_true (by omega)
        have s2 : small ((u ++ [32, 120]).length + v.length) = true := decide_eq_true (by simp; omega)
        have s3 : small (Nat.succ u.length) = true := decide_eq_true (by omega)
        have s4 : small ((u ++ [120]).length + v.length) = true := decide_eq_true (by simp; omega)
        rw [need, if_pos s1, Option.bind_some, need, if_pos s2]
        cases b
        · simp only [Bool.not_false, if_true]
          simp only [Option.bind_some, need, s3, s4, if_true]
          have hcat : u ++ [120] ++ v = u ++ (120 :: v) := by simp
          rw [hcat]
          have hW : Word (u ++ 120 :: v) := by
            obtain ⟨c, q, hcq, hc⟩ := huw.first
            exact ⟨fun x hx => by
              rcases List.mem_append.1 hx with hx | hx
              · exact huw.all x hx
              · exact hvw.all x hx, ⟨c, q ++ 120 :: v, by rw [hcq]; rfl, hc⟩, by simp; omega⟩
          have hl1 := lex1 hW
          by_cases hlw : 20 < (u ++ 120 :: v).length
          · rw [if_pos hlw] at hl1
            exact h7 _ _ _ _ hl1 (.inl hlw)
          · rw [if_neg hlw] at hl1
            exact h7 _ _ _ _ hl1 (.inr ⟨rfl, rfl⟩)
        · simp only [Bool.not_true, Bool.false_eq_true, if_false]
          have hcat : u ++ [32, 120] ++ v = u ++ 32 :: (120 :: v) := by simp
          rw [hcat]
          exact h7 _ _ _ _ (lex2 huw hvw (by omega) (by simp; omega)) (.inr ⟨rfl, rfl⟩)
      · have e2 : le (Int.ofNat w.length) 20 = false := by simp [le]; omega
        rw [e2]
        exact h6f
    · have e1 : gt ((w.length / 2 : Nat) : Int) 0 = false := by simp [gt]; omega
      rw [if_neg (by rw [e1]; decide)]
      exact h6f
  have h3 : f4_K3 b w false = some (true, ()) := by
    unfold f4_K3 f4_m3
    exact h5
  have h4 : f4_K4 b w false = some (true, ()) := by
    unfold f4_K4 f4_m4
    exact h5
  unfold f4_K2 f4_m2
  by_cases h20 : 20 < w.length
  · have hl := lex1 hw
    rw [if_pos h20] at hl
    have e1 : gt (Int.ofNat w.length) 20 = true := by simp [gt]; omega
    rw [hl, Option.bind_some, if_pos e1]
    exact h3
  · have hl := lex1 hw
    rw [if_neg h20] at hl
    have e1 : gt (Int.ofNat w.length) 20 = false := by simp [gt]; omega
    rw [hl, Option.bind_some, if_neg (by rw [e1]; decide)]
    have e2 : nei 0 0 = false := rfl
    rw [if_neg (show ¬ nei 0 0 = true by decide), same1, Option.bind_some]
    exact h4
theorem kinds_law (xs : List Int) (b : Bool) (hx : ∀ x ∈ xs, 0 ≤ x ∧ x ≤ 255) : f4 (xs, b, ()) = some (true, ()) := by
  show f4_m0 f4_K1 xs b = _
  unfold f4_m0
  have hw : Word [119] := ⟨fun x hx => by simp at hx; subst hx; rfl, ⟨119, [], rfl, rfl⟩, by decide⟩
  have key : ∀ ys : List Int, (∀ x ∈ ys, 0 ≤ x ∧ x ≤ 255) → ys.length ≤ 40 → f4_K1 b [119] ys (Int.ofNat ys.length) 0 = some (true, ()) := fun ys hy hl =>
    K1_true (fun _ _ => True) b ys hy hl (fun w hw => K2_true b hw) 0 [119] 18446744073709551616 hw (by simp) (Nat.zero_le _) (by omega)
  have hc : ∃ ys, cut xs 0 (if lt 40 (Int.ofNat xs.length) = true then 40 else Int.ofNat xs.length) = some ys ∧ ys.length ≤ 40 ∧ ∀ x ∈ ys, x ∈ xs := by
    by_cases h : 40 < xs.length
    · have e : lt 40 (Int.ofNat xs.length) = true := by simp [lt]; omega
      rw [if_pos e]
      refine ⟨xs.take 40, ?_, by simp; omega, fun x hx => List.mem_of_mem_take hx⟩
      unfold cut
      rw [if_pos ⟨by decide, by decide, by omega⟩]
      rfl
    · have e : lt 40 (Int.ofNat xs.length) = false := by simp [lt]; omega
      rw [if_neg (by rw [e]; decide)]
      refine ⟨xs, ?_, by omega, fun x hx => hx⟩
      unfold cut
      rw [if_pos ⟨by decide, by simp, by simp⟩]
      simp
  obtain ⟨ys, h1, h2, h3⟩ := hc
  rw [h1, Option.bind_some]
  exact key ys (fun x hx' => hx x (h3 x hx')) h2
end Go.Proofs.Lx

end

section
/- A law by its contract. -/
namespace Go.Proofs.Lx
open Go Ev Sx Go.RowKit
theorem below_of {W W' : World} (h : Blw (Bo [] [] W) W W') : Below W.heap.size W W' :=
  ⟨h.os, h.tape, h.output, h.size, fun k hk => h.block k hk (by
    rintro (h | h)
    · cases h
    · omega)⟩
theorem lok0 (W : World) : LOk (Bo [] [] W) (lx [] []) [] W := ⟨.nil, fun k h => (by cases h), fun k h => (by cases h), fun k h => .inr h, fun k h => (by cases h)⟩
/-- a law's call, when its arguments are data -/
theorem law_calls {P : Program} {f : FuncId} {ts : List TS} {ps : List Ty} {m : As ps → Option (Bool × Unit)} (h : CtOk P (fun _ => True) f ⟨⟨ts, [], ps, [.d .bool], [], 0, [.bool]⟩, m⟩) {x : As ps} (hm : m x = some (true, ())) {ss : List SV} (hA : fA ts [] (dvAs ps x) = some (ss, [])) {vs : List Value} {W : World} (hd : DenL [] [] W ss vs) :
    Calls P f vs.toArray W (fun e W' => ∃ v, e = .returned v ∧ v = .bool true ∧ Below W.heap.size W W') := by
  refine (h [] W [] x (true, ()) ss [] vs hm hA rfl (fun _ _ => trivial) (lok0 W) (fun e he => by cases he) hd).mono fun e w' he => ?_
  obtain ⟨us, rfl, pl', rr, own', h1, _, _, h4, _, _, h7⟩ := he
  have h1 : some ([SV.d .bool true], ([] : List (Nat × Ent))) = some (rr, own') := h1
  cases h1
  obtain ⟨v, q, rfl, h8, h9⟩ := h7
  cases h9
  exact ⟨_, rfl, den_bool h8, below_of h4⟩
theorem den_bytes {W : World} {a : Addr} {n c : Nat} {xs : List Int} (hn : n ≤ xs.length) (hc : n ≤ c) (h : ∀ i, i < xs.length → W.cell? (a.add i) = some (Value.int .u8 (xs.getD i 0))) : Den [] [] W (.d (.sl (.int .u8)) (xs.take n)) (.slice (some a) n c) := by
  have hl : (xs.take n).length = n := by simp; omega
  refine ⟨[.slice (some a) n c], ⟨some a, c, by rw [hl], by omega, fun hne => ?_⟩, rfl⟩
  have hpos : 0 < xs.length := by
    rcases Nat.eq_zero_or_pos xs.length with h0 | h0
    · exact absurd (by rw [List.eq_nil_of_length_eq_zero h0]; simp) hne
    · exact h0
  obtain ⟨b, o, rfl, hcell⟩ := ints_at h hpos
  refine ⟨b, o, rfl, fun i x hi => ?_⟩
  have hi2 : i < n := by have := (List.getElem?_eq_some_iff.1 hi).1; omega
  have hx : xs[i]? = some x := by rw [List.getElem?_take_of_lt hi2] at hi; exact hi
  have hcl := hcell i (by omega)
  have hlt : b < W.heap.size := by
    rcases Nat.lt_or_ge b W.heap.size with h1 | h1
    · exact h1
    · exfalso
      unfold World.cell? at hcl
      simp [Array.getElem?_eq_none h1] at hcl
  refine ⟨hlt, by simp, [.int .u8 x], rfl, fun j v hj => ?_⟩
  have hj0 : j = 0 ∧ v = .int .u8 x := by
    cases j with
    | zero => simp at hj; exact ⟨rfl, hj.symm⟩
    | succ j => simp at hj
  obtain ⟨rfl, rfl⟩ := hj0
  have hg : xs.getD i 0 = x := by simp [List.getD_eq_getElem?_getD, hx]
  rw [hg] at hcl
  show W.cell? ⟨b, o + i * 1 + 0, none⟩ = _
  simpa using hcl
end Go.Proofs.Lx

end
