/- Proved in the last of these 8 parts (this is part 7): tokens stand in the text as their Text is, in their lines, in order, with ends behind, and nothing else does but comments and blanks. Conditions: those of the given statement, and no others. -/
import Derived.Test.YtempdfdmcgolbaaDoorPartf
import Derived.Test.YtempdfdmcgolbaaDoorPartd
set_option linter.unusedVariables false
set_option linter.unusedSimpArgs false
set_option linter.unusedSectionVars false
section
/- Plain facts of lex: bytes, words, lines of words. -/
namespace Go.Proofs.Lx
open Go Ev Sx Pl
set_option maxRecDepth 10000
theorem awake13 : law13_awake () = some (true, ()) := by kernel_rfl
def isL (n : Nat) : Bool := (decide (97 ≤ n) && decide (n ≤ 122)) || (decide (65 ≤ n) && decide (n ≤ 90))
def isD (n : Nat) : Bool := decide (48 ≤ n) && decide (n ≤ 57)
def isB (n : Nat) : Bool := n == 9 || n == 13 || n == 32
def w1 (n : Nat) : Bool := isL n || n == 37
def n1 (n : Nat) : Bool := isD n || n == 45
def e1 (n : Nat) : Bool := n == 61
def wm (n : Nat) : Bool := isL n || isD n || n == 95 || n == 37
def nm (n : Nat) : Bool := isD n || n == 46 || n == 45
theorem tab {f : Int × Unit → Option (Bool × Unit)} {g : Nat → Bool} (h : ((List.range 256).all fun n => match f (Int.ofNat n, ()) with
    | some y => y.1 == g n
    | none => false) = true) (c : UInt8) : f (Int.ofNat c.toNat, ()) = some (g c.toNat, ()) := by
  have := all8 h c
  split at this
  · rename_i y hy
    rw [hy]
    have : y.1 = g c.toNat := by simpa using this
    rw [← this]
  · cases this
theorem lex_classes_c1_eq (c : UInt8) : lex_classes_c1 (Int.ofNat c.toNat, ()) = some (w1 c.toNat, ()) := tab (f := lex_classes_c1) (g := w1) (by kernel_rfl) c
theorem lex_classes_c3_eq (c : UInt8) : lex_classes_c3 (Int.ofNat c.toNat, ()) = some (n1 c.toNat, ()) := tab (f := lex_classes_c3) (g := n1) (by kernel_rfl) c
theorem lex_classes_c5_eq (c : UInt8) : lex_classes_c5 (Int.ofNat c.toNat, ()) = some (e1 c.toNat, ()) := tab (f := lex_classes_c5) (g := e1) (by kernel_rfl) c
theorem lex_classes_c2_eq (c : UInt8) : lex_classes_c2 (Int.ofNat c.toNat, ()) = some (wm c.toNat, ()) := tab (f := lex_classes_c2) (g := wm) (by kernel_rfl) c
theorem lex_classes_c4_eq (c : UInt8) : lex_classes_c4 (Int.ofNat c.toNat, ()) = some (nm c.toNat, ()) := tab (f := lex_classes_c4) (g := nm) (by kernel_rfl) c
theorem excl (c : UInt8) : (w1 c.toNat = true → n1 c.toNat = false ∧ e1 c.toNat = false ∧ isB c.toNat = false ∧ c.toNat ≠ 35 ∧ c.toNat ≠ 10) := by
  have := all8 (p := fun n => !(w1 n) || (!(n1 n) && !(e1 n) && !(isB n) && n != 35 && n != 10)) (by kernel_rfl) c
  intro h
  simp [h] at this
  exact ⟨this.1.1.1.1, this.1.1.1.2, this.1.1.2, this.1.2, this.2⟩
theorem wm_not (c : UInt8) (h : wm c.toNat = true) : c.toNat ≠ 35 ∧ c.toNat ≠ 10 := by
  have := all8 (p := fun n => !(wm n) || (n != 35 && n != 10)) (by kernel_rfl) c
  simp [h] at this
  exact this
theorem w1_wm (c : UInt8) (h : w1 c.toNat = true) : wm c.toNat = true := by
  have := all8 (p := fun n => !(w1 n) || wm n) (by kernel_rfl) c
  simpa [h] using this
def asc : List Bool := (List.range 256).map isB
theorem strings_makeASCIISet_eq : strings_makeASCIISet ([9, 13, 32], ()) = some (asc, true, ()) := by kernel_rfl
theorem asc_at (c : UInt8) : at? asc (Int.ofNat c.toNat) = some (isB c.toNat) := by
  have := all8 (p := fun n => asc[n]? == some (isB n)) (by kernel_rfl) c
  unfold at?
  rw [if_pos (by simp)]
  simpa using this
theorem strings_trimLeftASCII_loop : ∀ (s : List UInt8) (n : Nat), s.length < n → loopF (fun (self : (List UInt8) × (List Bool) → Option (As [.str, .sl .bool])) (s : (List UInt8) × (List Bool)) => strings_trimLeftASCII_m1 (fun s as' => self (s, as')) s.1 s.2) n (s, asc) = some (s.dropWhile (fun c => isB c.toNat), asc, ())
  | s, 0, h => by omega
  | [], n + 1, h => rfl
  | c :: q, n + 1, h => by
    have ih := strings_trimLeftASCII_loop q n (by simp at h; omega)
    have h1 : gt (Int.ofNat (c :: q).length) 0 = true := by simp [gt]; try omega
    have h2 : lt (Int.ofNat c.toNat) 256 = true := by have := c.toNat_lt; simp [lt]; omega
    rw [loopF]
    unfold strings_trimLeftASCII_m1
    simp only [h1, if_true, at_zero, Option.bind_some, need, h2, asc_at, cut_one, List.dropWhile_cons]
    cases hb : isB c.toNat
    · rfl
    · simp only [Bool.not_true, Bool.false_eq_true, if_false, if_true]
      exact ih
theorem strings_TrimLeft_step (s : List UInt8) : strings_TrimLeft (s, [9, 13, 32], ()) = if eqs s [] = true then some (s, ()) else (strings_makeASCIISet ([9, 13, 32], ())).bind fun y => need (eqi 256 (Int.ofNat y.1.length)) (need (eqi 256 (Int.ofNat (y.1.length * 1))) (if y.2.1 = true then (strings_trimLeftASCII (s, y.1, ())).bind fun y => some (y.1, ()) else (strings_trimLeftUnicode (s, [9, 13, 32], ())).bind fun y => some (y.1, ()))) := rfl
theorem strings_TrimLeft_eq {s : List UInt8} (h : s.length < 1000000) : strings_TrimLeft (s, [9, 13, 32], ()) = some (s.dropWhile (fun c => isB c.toNat), ()) := by
  have h63 : strings_trimLeftASCII (s, asc, ()) = some (s.dropWhile (fun c => isB c.toNat), asc, ()) := strings_trimLeftASCII_loop s _ (by omega)
  rw [strings_TrimLeft_step]
  by_cases hs : s = []
  · subst hs; rfl
  · have e1 : eqs s [] = false := by simp [eqs, hs]
    have e5 : eqi 256 (Int.ofNat asc.length) = true := by kernel_rfl
    have e6 : eqi 256 (Int.ofNat (asc.length * 1)) = true := by kernel_rfl
    rw [e1, strings_makeASCIISet_eq, Option.bind_some]
    simp only [Bool.false_eq_true, if_false, need, e5, e6, if_true]
    rw [h63]
    rfl
/-! ### the rest of a word -/
theorem lex_line_c1_step (g : Int → List UInt8 → Option (As [.str, .str])) (n : Int) (t : List UInt8) : lex_line_c1_w_m1 (lex_line_c1_w_K2 g) g n t = if lt n (Int.ofNat t.length) = true then (at? t n).bind fun c => (lex_classes_c2 (Int.ofNat c.toNat, ())).bind fun y => if y.1 = true then g (add .i64 n 1) t else lex_line_c1_w_m3 n t else lex_line_c1_w_m3 n t := rfl
theorem m3_app (p q : List UInt8) : lex_line_c1_w_m3 (p.length : Int) (p ++ q) = some (p, q, ()) := by
  unfold lex_line_c1_w_m3
  rw [cut_app0, Option.bind_some, cut_app1, Option.bind_some]
theorem lex_line_c1_loop : ∀ (q p : List UInt8) (n : Nat), q.length < n → p.length + q.length < 1000000 →
    loopF (fun (self : Int × List UInt8 → Option (As [.str, .str])) (s : Int × List UInt8) => lex_line_c1_w_m1 (lex_line_c1_w_K2 (fun n t1 => self (n, t1))) (fun n t1 => self (n, t1)) s.1 s.2) n ((p.length : Int), p ++ q) =
      some (p ++ q.takeWhile (fun c => wm c.toNat), q.dropWhile (fun c => wm c.toNat), ())
  | q, p, 0, h, _ => by omega
  | [], p, n + 1, h, hl => by
    have h1 : lt (p.length : Int) (Int.ofNat (p ++ []).length) = false := by simp [lt]
    refine (lex_line_c1_step _ _ _).trans ?_
    rw [if_neg (by rw [h1]; decide), m3_app]
    simp
  | c :: q, p, n + 1, h, hl => by
    have h1 : lt (p.length : Int) (Int.ofNat (p ++ c :: q).length) = true := by simp [lt]; omega
    have ih := lex_line_c1_loop q (p ++ [c]) n (by simp at h; omega) (by simp at hl ⊢; omega)
    refine (lex_line_c1_step _ _ _).trans ?_
    rw [if_pos h1, at_app, Option.bind_some, lex_classes_c2_eq, Option.bind_some]
    cases hb : wm c.toNat
    · simp only [Bool.false_eq_true, if_false, m3_app, List.takeWhile_cons, List.dropWhile_cons, hb, List.append_nil]
    · have ha : add .i64 (p.length : Int) 1 = ((p ++ [c]).length : Int) := by
        unfold add
        rw [w64 (by omega) (by simp at hl; omega)]
        simp
      have e : p ++ c :: q = (p ++ [c]) ++ q := by simp
      simp only [if_true, ha, List.takeWhile_cons, List.dropWhile_cons, hb]
      rw [e, ih]
      simp
theorem lex_line_c1_eq (c : UInt8) (q : List UInt8) (h : q.length < 100000) : lex_line_c1_w (c :: q, ()) = some (c :: q.takeWhile (fun c => wm c.toNat), q.dropWhile (fun c => wm c.toNat), ()) :=
  lex_line_c1_loop q [c] 18446744073709551616 (by omega) (by simp; omega)
end Go.Proofs.Lx

end

section
/- Lines of words. -/
namespace Go.Proofs.Lx
open Go Ev Sx Pl
set_option maxRecDepth 10000
abbrev TL := List (Int × List UInt8 × (Int × Int) × Int)
abbrev RL := As [.sl (.pr (.int .u8) (.pr .str (.pr (.pr (.int .i64) (.int .u8)) (.int .i64)))), .int .i64]
/-- the loop of line -/
abbrev lineB (self : Int × List UInt8 × TL → Option RL) (s : Int × List UInt8 × TL) : Option RL :=
  lex_line_m1 (lex_line_K2) (lex_line_K3 (fun at' text l => self (at', text, l))) (fun at' text l => self (at', text, l)) s.1 s.2.1 s.2.2
theorem amb_word (J : Int → Int → List UInt8 → TL → Option RL) (j2 : Int → TL → Option RL) (j3 : Int → List UInt8 → TL → Int → List UInt8 → Int → Int → Int → Option RL) (self1 : Int → List UInt8 → TL → Option RL) (a : Int) (t : List UInt8) (c : UInt8) (q : List UInt8) (l : TL)
    (ht : strings_TrimLeft (t, [9, 13, 32], ()) = some (c :: q, ())) (hc : w1 c.toNat = true) : lex_line_m1 j2 j3 self1 a t l = j3 a (c :: q) l 1 [] 0 0 a := by
  obtain ⟨h2, h3, _⟩ := excl c hc
  have e1 : lex_classes_c1 (Int.ofNat c.toNat, ()) = some (true, ()) := by rw [lex_classes_c1_eq, hc]
  have e2 : lex_classes_c3 (Int.ofNat c.toNat, ()) = some (false, ()) := by rw [lex_classes_c3_eq, h2]
  have e3 : lex_classes_c5 (Int.ofNat c.toNat, ()) = some (false, ()) := by rw [lex_classes_c5_eq, h3]
  have e4 : eqs (c :: q) [] = false := rfl
  have hr : ∀ x, eqAs lex_line_s.rs x x = true := eqAs_refl _
  unfold lex_line_m1
  rw [ht, Option.bind_some]
  simp only [e4, Bool.false_eq_true, if_false, at_zero, Option.bind_some]
  rw [e1, e2, e3]
  simp only [Option.bind_some, Bool.false_eq_true, if_false, if_true]
  rw [amb2 hr]
  exact amb3 hr _
theorem K3_word (u1 : Int → List UInt8 → TL → Option RL) (a : Int) (c : UInt8) (q : List UInt8) (l : TL) (hq : q.length < 100000) :
    lex_line_K3 u1 a (c :: q) l 1 [] 0 0 a = if 20 < (c :: q.takeWhile (fun c => wm c.toNat)).length then some ([], 133, ()) else need (small (l.length + 1)) (u1 a (q.dropWhile (fun c => wm c.toNat)) (l ++ [(1, c :: q.takeWhile (fun c => wm c.toNat), (0, 0), a)])) := by
  unfold lex_line_K3 lex_line_m3
  have h1 : eqi 1 1 = true := rfl
  rw [if_pos h1, lex_line_c1_eq c q hq, Option.bind_some]
  generalize c :: q.takeWhile (fun c => wm c.toNat) = u
  unfold lex_word lex_word_m0
  by_cases h : 20 < u.length
  · have h2 : gt (Int.ofNat u.length) 20 = true := by simp [gt]; omega
    simp only [h2, if_true, Option.bind_some, if_pos h]
    rfl
  · have h2 : gt (Int.ofNat u.length) 20 = false := by simp [gt]; omega
    simp only [h2, Bool.false_eq_true, if_false, Option.bind_some, if_neg h]
    rfl
theorem line_word (self : Int × List UInt8 × TL → Option RL) (a : Int) (t : List UInt8) (c : UInt8) (q : List UInt8) (l : TL) (ht : strings_TrimLeft (t, [9, 13, 32], ()) = some (c :: q, ())) (hc : w1 c.toNat = true) (hq : q.length < 100000) :
    lineB self (a, t, l) = if 20 < (c :: q.takeWhile (fun c => wm c.toNat)).length then some ([], 133, ()) else need (small (l.length + 1)) (self (a, q.dropWhile (fun c => wm c.toNat), l ++ [(1, c :: q.takeWhile (fun c => wm c.toNat), (0, 0), a)])) := by
  refine (amb_word (fun _ _ _ _ => none) _ _ _ a t c q l ht hc).trans ?_
  exact K3_word _ a c q l hq
theorem line_end (self : Int × List UInt8 × TL → Option RL) (a : Int) (l : TL) (h : 0 < l.length) (h2 : l.length < 1000) : lineB self (a, [], l) = some (l ++ [(4, [], (0, 0), a)], 0, ()) := by
  have h19 : strings_TrimLeft ([], [9, 13, 32], ()) = some ([], ()) := rfl
  show lex_line_m1 _ _ _ a [] l = _
  unfold lex_line_m1
  rw [h19, Option.bind_some]
  have e : eqs ([] : List UInt8) [] = true := rfl
  rw [if_pos e]
  unfold lex_line_K2 lex_line_m2
  have h3 : gt (Int.ofNat l.length) 0 = true := by simp [gt]; omega
  have h4 : small (l.length + 1) = true := decide_eq_true (by omega)
  simp only [h3, if_true, h4, need]
  rfl
theorem index_nb (c : UInt8) : ∀ s : List UInt8, (∀ b ∈ s, b ≠ c) → Go.Lib.indexByte s c = -1
  | [], _ => rfl
  | b :: q, h => by
    have hb : (b == c) = false := by simpa using h b (List.mem_cons_self ..)
    have ih := index_nb c q (fun x hx => h x (List.mem_cons_of_mem _ hx))
    unfold Go.Lib.indexByte
    rw [hb, ih]
    rfl
theorem line_in (t : List UInt8) (n : Int) (h : ∀ b ∈ t, b ≠ 35) : lex_line (t, n, ()) = loopF lineB 18446744073709551616 (n, t, []) := by
  show lex_line_m0 lex_line_K1 t n = _
  unfold lex_line_m0
  have e1 : eqs [35] t = false := by
    cases t with
    | nil => rfl
    | cons a q =>
      have := h a (List.mem_cons_self ..)
      simp [eqs]
      intro e
      exact absurd e.symm this
  have e2 : ge (Go.Lib.indexByte t 35) 0 = false := by rw [index_nb 35 t h]; rfl
  simp only [e1, e2, Bool.false_eq_true, if_false]
  rfl
/-- a word -/
structure Word (w : List UInt8) : Prop where
  all : ∀ b ∈ w, wm b.toNat = true
  first : ∃ c q, w = c :: q ∧ w1 c.toNat = true
  len : w.length < 1000
theorem tw_all {p : UInt8 → Bool} : ∀ {q r : List UInt8}, (∀ b ∈ q, p b = true) → (q ++ r).takeWhile p = q ++ r.takeWhile p ∧ (q ++ r).dropWhile p = r.dropWhile p
  | [], r, h => ⟨rfl, rfl⟩
  | a :: q, r, h => by
    obtain ⟨h1, h2⟩ := tw_all (q := q) (r := r) (fun x hx => h x (List.mem_cons_of_mem _ hx))
    have := h a (List.mem_cons_self ..)
    simp [this, h1, h2]
theorem Word.strings_TrimLeft {w r : List UInt8} (h : Word w) (hr : r.length < 2000) : ∃ c q, w = c :: q ∧ w1 c.toNat = true ∧ Lx.strings_TrimLeft (w ++ r, [9, 13, 32], ()) = some (c :: (q ++ r), ()) ∧ (∀ b ∈ q, wm b.toNat = true) := by
  obtain ⟨c, q, rfl, hc⟩ := h.first
  obtain ⟨_, _, hb, _⟩ := excl c hc
  refine ⟨c, q, rfl, hc, ?_, fun b hb => h.all b (List.mem_cons_of_mem _ hb)⟩
  rw [strings_TrimLeft_eq (by have := h.len; simp at this ⊢; omega)]
  simp [hb]
theorem Word.no {w : List UInt8} (h : Word w) : (∀ b ∈ w, b ≠ 35) ∧ (∀ b ∈ w, b ≠ 10) := by
  constructor
  · intro b hb e
    subst e
    exact absurd (h.all _ hb) (by decide)
  · intro b hb e
    subst e
    exact absurd (h.all _ hb) (by decide)
theorem word_step {w r : List UInt8} (h : Word w) (hr : r.length < 2000) (hb : ∀ c q, r = c :: q → wm c.toNat = false) (self : Int × List UInt8 × TL → Option RL) (a : Int) (l : TL) (hl : l.length < 1000) (pre : List UInt8) (hp : ∀ b ∈ pre, isB b.toNat = true) (hpl : pre.length < 10) :
    lineB self (a, pre ++ (w ++ r), l) = if 20 < w.length then some ([], 133, ()) else self (a, r, l ++ [(1, w, (0, 0), a)]) := by
  obtain ⟨c, q, rfl, hc, h19, hq⟩ := h.strings_TrimLeft hr
  have h19' : Lx.strings_TrimLeft (pre ++ (c :: q ++ r), [9, 13, 32], ()) = some (c :: (q ++ r), ()) := by
    have hlen := h.len
    rw [strings_TrimLeft_eq (by simp at hlen ⊢; omega)] at h19 ⊢
    rw [(tw_all hp).2]
    exact h19
  have hlen := h.len
  rw [line_word self a _ c (q ++ r) l h19' hc (by simp at hlen ⊢; omega)]
  obtain ⟨t1, t2⟩ := tw_all (p := fun c => wm c.toNat) (q := q) (r := r) hq
  have t3 : r.takeWhile (fun c => wm c.toNat) = [] ∧ r.dropWhile (fun c => wm c.toNat) = r := by
    cases r with
    | nil => exact ⟨rfl, rfl⟩
    | cons x y => simp [hb x y rfl]
  rw [t1, t2, t3.1, t3.2, List.append_nil]
  have h4 : small (l.length + 1) = true := decide_eq_true (by omega)
  simp only [need, h4, if_true]
theorem line1 {w : List UInt8} (h : Word w) (n : Int) : lex_line (w, n, ()) = if 20 < w.length then some ([], 133, ()) else some ([(1, w, (0, 0), n), (4, [], (0, 0), n)], 0, ()) := by
  rw [line_in w n h.no.1]
  have e := word_step (r := []) h (by simp) (fun c q e => by cases e) (loopF lineB 18446744073709551615) n [] (by simp) [] (fun b hb => by cases hb) (by simp)
  rw [List.append_nil, List.nil_append] at e
  refine e.trans ?_
  split
  · rfl
  · exact line_end (loopF lineB 18446744073709551614) n [(1, w, (0, 0), n)] (by simp) (by simp)
theorem line2 {u w : List UInt8} (hu : Word u) (hw : Word w) (h1 : u.length ≤ 20) (h2 : w.length ≤ 20) (n : Int) : lex_line (u ++ 32 :: w, n, ()) = some ([(1, u, (0, 0), n), (1, w, (0, 0), n), (4, [], (0, 0), n)], 0, ()) := by
  rw [line_in _ n (fun b hb => by
    rcases List.mem_append.1 hb with hb | hb
    · exact hu.no.1 b hb
    · rcases List.mem_cons.1 hb with hb | hb
      · subst hb; decide
      · exact hw.no.1 b hb)]
  have e := word_step (r := 32 :: w) hu (by simp; omega) (fun c q e => by cases e; rfl) (loopF lineB 18446744073709551615) n [] (by simp) [] (fun b hb => by cases hb) (by simp)
  rw [List.nil_append] at e
  refine e.trans ?_
  rw [if_neg (by omega)]
  have e2 := word_step (r := []) hw (by simp) (fun c q e => by cases e) (loopF lineB 18446744073709551614) n [(1, u, (0, 0), n)] (by simp) [32] (fun b hb => by simp at hb; subst hb; rfl) (by simp)
  rw [List.append_nil] at e2
  refine e2.trans ?_
  rw [if_neg (by omega)]
  exact line_end (loopF lineB 18446744073709551613) n [(1, u, (0, 0), n), (1, w, (0, 0), n)] (by simp) (by simp)
end Go.Proofs.Lx

end

section
/- Decimals: the program's reader and the document's are one. -/
namespace Go.Proofs.Lx
open Go Ev Sx Pl
set_option maxRecDepth 10000
/-! ### digits -/
def dg (c : UInt8) : Bool := isD c.toNat
def digs (s : List UInt8) : Bool := s.all dg && s != []
def dvn (n : Int) (q : List UInt8) : Int := q.foldl (fun n c => 10 * n + ((c.toNat : Int) - 48)) n
theorem dvn_nil (n : Int) : dvn n [] = n := rfl
theorem dvn_cons (n : Int) (c : UInt8) (q : List UInt8) : dvn n (c :: q) = dvn (10 * n + ((c.toNat : Int) - 48)) q := rfl
theorem dvn_app (n : Int) (p q : List UInt8) : dvn n (p ++ q) = dvn (dvn n p) q := List.foldl_append ..
theorem dg_iff {c : UInt8} : dg c = true ↔ 48 ≤ c.toNat ∧ c.toNat ≤ 57 := by simp [dg, isD]
theorem dvn_ge : ∀ {q : List UInt8} {n : Int}, (∀ c ∈ q, dg c = true) → 0 ≤ n → n ≤ dvn n q
  | [], n, _, _ => Int.le_refl _
  | c :: q, n, h, hn => by
    have hc := dg_iff.1 (h c (List.mem_cons_self ..))
    have := dvn_ge (q := q) (n := 10 * n + ((c.toNat : Int) - 48)) (fun x hx => h x (List.mem_cons_of_mem _ hx)) (by omega)
    rw [dvn_cons]
    omega
theorem allDigits_eq {s : List UInt8} (h : s.length < 1000000) : units_allDigits (s, ()) = some (digs s, ()) := by
  have key : ∀ (n : Nat) (st : List UInt8 × Int × Int), (∃ i : Nat, st = (s, Int.ofNat s.length, (i : Int)) ∧ i ≤ s.length) → (s.length - st.2.2.toNat < n) →
      loopF (fun (self : (List UInt8) × Int × Int → Option (As [.bool])) (s : (List UInt8) × Int × Int) => units_allDigits_m1 (units_allDigits_K2 (fun a b c => self (a, b, c))) units_allDigits_K3 (fun a b c => self (a, b, c)) s.1 s.2.1 s.2.2) n st = some ((s.drop st.2.2.toNat).all dg && s != [], ()) := by
    refine loopF_eq (σ := List UInt8 × Int × Int) (μ := fun st => s.length - st.2.2.toNat) (G := fun st => some ((s.drop st.2.2.toNat).all dg && s != [], ())) ?_
    rintro self st ⟨i, rfl, hi⟩ ih
    simp only [Int.toNat_natCast] at ih ⊢
    unfold units_allDigits_m1
    cases hd : s.drop i with
    | nil =>
      have := drop_nil hd
      rw [if_neg (by rw [lt_iff, ofNat_eq]; omega)]
      unfold units_allDigits_K3 units_allDigits_m3
      rfl
    | cons c r =>
      obtain ⟨h1, h2, h3⟩ := drop_succ hd
      rw [if_pos (by rw [lt_iff, ofNat_eq]; omega), at_drop hd]
      simp only [Option.bind_some]
      have hgo : dg c = true → units_allDigits_K2 (fun a b c => self (a, b, c)) s (Int.ofNat s.length) (i : Int) false = some ((c :: r).all dg && s != [], ()) := fun hc => by
        unfold units_allDigits_K2 units_allDigits_m2
        rw [if_neg (by decide), succ64 (by omega)]
        have := ih (s, Int.ofNat s.length, ((i + 1 : Nat) : Int)) ⟨i + 1, rfl, by omega⟩ (by simp; omega)
        refine this.trans ?_
        simp [h1, hc]
      have hno : dg c = false → units_allDigits_K2 (fun a b c => self (a, b, c)) s (Int.ofNat s.length) (i : Int) true = some ((c :: r).all dg && s != [], ()) := fun hc => by
        unfold units_allDigits_K2 units_allDigits_m2
        rw [if_pos rfl]
        simp [hc]
      by_cases hc : dg c = true
      · have := dg_iff.1 hc
        rw [if_neg (by rw [lt_iff, ofNat_eq]; omega)]
        have e : gt (Int.ofNat c.toNat) 57 = false := by simp [gt]; omega
        rw [e]
        exact hgo hc
      · have hc' : dg c = false := by simpa using hc
        have h4 : ¬ (48 ≤ c.toNat ∧ c.toNat ≤ 57) := fun h => hc (dg_iff.2 h)
        by_cases h5 : c.toNat < 48
        · rw [if_pos (by rw [lt_iff, ofNat_eq]; omega)]
          exact hno hc'
        · rw [if_neg (by rw [lt_iff, ofNat_eq]; omega)]
          have e : gt (Int.ofNat c.toNat) 57 = true := by simp [gt]; omega
          rw [e]
          exact hno hc'
  have := key 18446744073709551616 (s, Int.ofNat s.length, 0) ⟨0, rfl, by omega⟩ (by simp; omega)
  refine this.trans ?_
  simp [digs]
/-- without the noughts at the end -/
def stripz : List UInt8 → List UInt8
  | [] => []
  | c :: q => match stripz q with
    | [] => if c = 48 then [] else [c]
    | r => c :: r
theorem stripz_snoc0 (q : List UInt8) : stripz (q ++ [48]) = stripz q := by
  induction q with
  | nil => rfl
  | cons c q ih => show (match stripz (q ++ [48]) with | [] => _ | r => _) = _; rw [ih]; rfl
theorem stripz_snoc {c : UInt8} (q : List UInt8) (h : c ≠ 48) : stripz (q ++ [c]) = q ++ [c] := by
  induction q with
  | nil => show (if c = 48 then [] else [c]) = _; rw [if_neg h]; rfl
  | cons a q ih =>
    show (match stripz (q ++ [c]) with | [] => _ | r => _) = _
    rw [ih]
    cases q <;> rfl
theorem snoc_cases {α : Type} (q : List α) : q = [] ∨ ∃ p c, q = p ++ [c] := by
  rcases List.eq_nil_or_concat q with h | ⟨p, c, h⟩
  · exact .inl h
  · exact .inr ⟨p, c, by simpa using h⟩
theorem trimRight_eq {s : List UInt8} (h : s.length < 1000000) : strings_trimRightByte (s, 48, ()) = some (stripz s, ()) := by
  have key : ∀ (n : Nat) (st : List UInt8 × Int), (st.2 = 48 ∧ st.1.length < 1000000) → st.1.length < n →
      loopF (fun (self : (List UInt8) × Int → Option (As [.str])) (s : (List UInt8) × Int) => strings_trimRightByte_m1 (strings_trimRightByte_K2 (fun a b => self (a, b))) (fun a b => self (a, b)) s.1 s.2) n st = some (stripz st.1, ()) := by
    refine loopF_eq (σ := List UInt8 × Int) (μ := fun st => st.1.length) (G := fun st => some (stripz st.1, ())) ?_
    rintro self ⟨s, c⟩ ⟨rfl, hl⟩ ih
    unfold strings_trimRightByte_m1
    rcases snoc_cases s with rfl | ⟨p, c, rfl⟩
    · rfl
    · simp at hl
      have hn : Int.ofNat (p ++ [c]).length = ((p.length + 1 : Nat) : Int) := by simp
      rw [if_pos (by rw [gt_iff, hn]; omega)]
      have h1 : sub .i64 (Int.ofNat (p ++ [c]).length) 1 = (p.length : Int) := by rw [hn, sub64 (by omega) (by omega)]; omega
      simp only [h1, at_app, Option.bind_some]
      unfold strings_trimRightByte_K2 strings_trimRightByte_m2
      by_cases hc : c = 48
      · subst hc
        rw [if_pos (show eqi (Int.ofNat (UInt8.toNat 48)) 48 = true from rfl), h1, cut_app0]
        have := ih (p, 48) ⟨rfl, by show p.length < _; omega⟩ (by simp)
        refine Eq.trans this ?_
        simp [stripz_snoc0]
      · have : eqi (Int.ofNat c.toNat) 48 = false := by
          simp [eqi]
          intro e
          apply hc
          apply UInt8.toNat_inj.1
          have : (48 : UInt8).toNat = 48 := rfl
          omega
        rw [this, if_neg (by decide)]
        simp [stripz_snoc p hc]
  exact key 18446744073709551616 (s, 48) ⟨rfl, h⟩ (by show s.length < _; omega)
/-! ### the program's reader -/
abbrev PR := (Int × Int) × Bool
def parsePieces (neg : Bool) (w r : List UInt8) (pt : Bool) : PR :=
  if digs w = false ∨ (1 < w.length ∧ w[0]? = some 48) then ((0, 0), false)
  else if pt = true ∧ (digs r = false ∨ 6 < r.length) then ((0, 0), false)
  else if 1000000000000 < dvn (dvn 0 w) (stripz r) then ((0, 0), false)
  else ((if neg then -(dvn (dvn 0 w) (stripz r)) else dvn (dvn 0 w) (stripz r), ((stripz r).length : Int)), true)
theorem byte_val {c : UInt8} (h : dg c = true) : cvt .i64 (sub .u8 (Int.ofNat c.toNat) 48) = (c.toNat : Int) - 48 := by
  have := dg_iff.1 h
  have e : sub .u8 (Int.ofNat c.toNat) 48 = (c.toNat : Int) - 48 := by unfold sub; rw [ofNat_eq, wu8 (by omega) (by omega)]
  rw [e, cvt64 (by omega) (by omega)]
abbrev P4 := Bool × List UInt8 × Int × List UInt8 × List UInt8 × List UInt8 × Int × Int × Int × Int × Int
theorem parse_K4 (u3 : Bool → List UInt8 → Int → List UInt8 → List UInt8 → Int → Int → Int → Option (As [.pr (.int .i64) (.int .u8), .bool])) (neg : Bool) (rest part a b : List UInt8) (n t : Int) (hd : ∀ c ∈ part, dg c = true) (hl : part.length < 1000000) (hn0 : 0 ≤ n) (hn1 : n ≤ 1000000000000) :
    units_Parse_K4 u3 neg rest n part a b t (Int.ofNat part.length) 0 0 0 = if 1000000000000 < dvn n part then some ((0, 0), false, ()) else u3 neg rest (dvn n part) a b (add .i64 t 1) 0 0 := by
  have key : ∀ (n : Nat) (st : P4), (∃ (i : Nat) (m : Int), st = (neg, rest, m, part, a, b, t, Int.ofNat part.length, (i : Int), 0, 0) ∧ i ≤ part.length ∧ 0 ≤ m ∧ m ≤ 1000000000000) → part.length - st.2.2.2.2.2.2.2.2.1.toNat < n →
      loopF (fun (self : P4 → Option (As [.pr (.int .i64) (.int .u8), .bool])) (s : P4) => units_Parse_m4 u3 (fun negative rest n part t54 t54_2 t55 t59 t60 t2 t2_2 => self (negative, rest, n, part, t54, t54_2, t55, t59, t60, t2, t2_2)) s.1 s.2.1 s.2.2.1 s.2.2.2.1 s.2.2.2.2.1 s.2.2.2.2.2.1 s.2.2.2.2.2.2.1 s.2.2.2.2.2.2.2.1 s.2.2.2.2.2.2.2.2.1 s.2.2.2.2.2.2.2.2.2.1 s.2.2.2.2.2.2.2.2.2.2) n st =
        if 1000000000000 < dvn st.2.2.1 (part.drop st.2.2.2.2.2.2.2.2.1.toNat) then some ((0, 0), false, ()) else u3 neg rest (dvn st.2.2.1 (part.drop st.2.2.2.2.2.2.2.2.1.toNat)) a b (add .i64 t 1) 0 0 := by
    refine loopF_eq (σ := P4) (μ := fun st => part.length - st.2.2.2.2.2.2.2.2.1.toNat) (G := fun st => if 1000000000000 < dvn st.2.2.1 (part.drop st.2.2.2.2.2.2.2.2.1.toNat) then some ((0, 0), false, ()) else u3 neg rest (dvn st.2.2.1 (part.drop st.2.2.2.2.2.2.2.2.1.toNat)) a b (add .i64 t 1) 0 0) ?_
    rintro self st ⟨i, m, rfl, hi, hm0, hm1⟩ ih
    simp only [Int.toNat_natCast] at ih ⊢
    unfold units_Parse_m4
    cases hdr : part.drop i with
    | nil =>
      have := drop_nil hdr
      rw [if_neg (by rw [lt_iff, ofNat_eq]; omega), dvn_nil, if_neg (by omega)]
    | cons c r =>
      obtain ⟨h1, h2, h3⟩ := drop_succ hdr
      have hc : dg c = true := hd c (List.mem_of_mem_drop (by rw [hdr]; exact List.mem_cons_self ..))
      have hcv := dg_iff.1 hc
      rw [if_pos (by rw [lt_iff, ofNat_eq]; omega), at_drop hdr, Option.bind_some, byte_val hc, mul64 (by omega) (by omega), add64 (by omega) (by omega), dvn_cons, succ64 (by omega)]
      have hr : ∀ x ∈ r, dg x = true := fun x hx => hd x (List.mem_of_mem_drop (by rw [hdr]; exact List.mem_cons_of_mem _ hx))
      have hge := dvn_ge (q := r) (n := 10 * m + ((c.toNat : Int) - 48)) hr (by omega)
      by_cases hgt : 1000000000000 < 10 * m + ((c.toNat : Int) - 48)
      · rw [if_pos (by rw [gt_iff]; omega), if_pos (by omega)]
      · rw [if_neg (by rw [gt_iff]; omega)]
        have := ih (neg, rest, 10 * m + ((c.toNat : Int) - 48), part, a, b, t, Int.ofNat part.length, ((i + 1 : Nat) : Int), 0, 0) ⟨i + 1, _, rfl, by omega, by omega, by omega⟩ (by simp; omega)
        refine this.trans ?_
        simp only [Int.toNat_natCast, h1]
  have := key 18446744073709551616 (neg, rest, n, part, a, b, t, Int.ofNat part.length, 0, 0, 0) ⟨0, n, rfl, by omega, hn0, hn1⟩ (by simp; omega)
  refine this.trans ?_
  simp
theorem K3_step (n : Nat) (neg : Bool) (rest : List UInt8) (m : Int) (a b : List UInt8) (t : Int) : 
    loopF (fun (self : (Bool) × (List UInt8) × (Int) × (List UInt8) × (List UInt8) × (Int) × (Int) × (Int) → Option (As [.pr (.int .i64) (.int .u8), .bool])) (s : (Bool) × (List UInt8) × (Int) × (List UInt8) × (List UInt8) × (Int) × (Int) × (Int)) => units_Parse_m3 (units_Parse_K4 (fun negative rest n t54 t54_2 t55 t2 t2_2 => self (negative, rest, n, t54, t54_2, t55, t2, t2_2))) (units_Parse_K5) (fun negative rest n t54 t54_2 t55 t2 t2_2 => self (negative, rest, n, t54, t54_2, t55, t2, t2_2)) s.1 s.2.1 s.2.2.1 s.2.2.2.1 s.2.2.2.2.1 s.2.2.2.2.2.1 s.2.2.2.2.2.2.1 s.2.2.2.2.2.2.2) (n + 1) (neg, rest, m, a, b, t, 0, 0) =
    if lt t 2 = true then if eqi t 1 = true then units_Parse_K4 (fun neg rest m a b t x y => loopF (fun (self : (Bool) × (List UInt8) × (Int) × (List UInt8) × (List UInt8) × (Int) × (Int) × (Int) → Option (As [.pr (.int .i64) (.int .u8), .bool])) (s : (Bool) × (List UInt8) × (Int) × (List UInt8) × (List UInt8) × (Int) × (Int) × (Int)) => units_Parse_m3 (units_Parse_K4 (fun negative rest n t54 t54_2 t55 t2 t2_2 => self (negative, rest, n, t54, t54_2, t55, t2, t2_2))) (units_Parse_K5) (fun negative rest n t54 t54_2 t55 t2 t2_2 => self (negative, rest, n, t54, t54_2, t55, t2, t2_2)) s.1 s.2.1 s.2.2.1 s.2.2.2.1 s.2.2.2.2.1 s.2.2.2.2.2.1 s.2.2.2.2.2.2.1 s.2.2.2.2.2.2.2) n (neg, rest, m, a, b, t, x, y)) neg rest m b a b t (Int.ofNat b.length) 0 0 0 else if eqi t 0 = true then units_Parse_K4 (fun neg rest m a b t x y => loopF (fun (self : (Bool) × (List UInt8) × (Int) × (List UInt8) × (List UInt8) × (Int) × (Int) × (Int) → Option (As [.pr (.int .i64) (.int .u8), .bool])) (s : (Bool) × (List UInt8) × (Int) × (List UInt8) × (List UInt8) × (Int) × (Int) × (Int)) => units_Parse_m3 (units_Parse_K4 (fun negative rest n t54 t54_2 t55 t2 t2_2 => self (negative, rest, n, t54, t54_2, t55, t2, t2_2))) (units_Parse_K5) (fun negative rest n t54 t54_2 t55 t2 t2_2 => self (negative, rest, n, t54, t54_2, t55, t2, t2_2)) s.1 s.2.1 s.2.2.1 s.2.2.2.1 s.2.2.2.2.1 s.2.2.2.2.2.1 s.2.2.2.2.2.2.1 s.2.2.2.2.2.2.2) n (neg, rest, m, a, b, t, x, y)) neg rest m a a b t (Int.ofNat a.length) 0 0 0 else none else units_Parse_K5 neg rest m 0 0 := rfl
theorem parse_K3 (neg : Bool) (w r : List UInt8) (hw : ∀ c ∈ w, dg c = true) (hr : ∀ c ∈ r, dg c = true) (hwl : w.length < 1000000) (hrl : r.length < 256) :
    units_Parse_K3 neg r 0 w r 0 0 0 = if 1000000000000 < dvn (dvn 0 w) r then some ((0, 0), false, ()) else some ((if neg then -(dvn (dvn 0 w) r) else dvn (dvn 0 w) r, (r.length : Int)), true, ()) := by
  have h0 : (0 : Int) ≤ dvn 0 w := dvn_ge hw (Int.le_refl _)
  have h1 : dvn 0 w ≤ dvn (dvn 0 w) r := dvn_ge hr h0
  refine (K3_step 18446744073709551615 neg r 0 w r 0).trans ?_
  rw [if_pos (by decide), if_neg (by decide), if_pos (by decide), parse_K4 _ _ _ _ _ _ _ _ hw hwl (by decide) (by decide)]
  by_cases hb : 1000000000000 < dvn 0 w
  · rw [if_pos hb, if_pos (by omega)]
  · rw [if_neg hb, show add .i64 0 1 = 1 from rfl]
    refine (K3_step 18446744073709551614 neg r _ w r 1).trans ?_
    rw [if_pos (by decide), if_pos (by decide), parse_K4 _ _ _ _ _ _ _ _ hr (by omega) h0 (by omega)]
    by_cases hb2 : 1000000000000 < dvn (dvn 0 w) r
    · rw [if_pos hb2, if_pos hb2]
    · rw [if_neg hb2, if_neg hb2, show add .i64 1 1 = 2 from rfl]
      refine (K3_step 18446744073709551613 neg r _ w r 2).trans ?_
      rw [if_neg (by decide)]
      unfold units_Parse_K5 units_Parse_m5 units_Parse_K6 units_Parse_m6
      have e : Int.ofNat (r.length % 256) = (r.length : Int) := by rw [Nat.mod_eq_of_lt hrl]; rfl
      rw [e]
      cases neg
      · rfl
      · rw [if_pos rfl, neg64 (by omega) (by omega)]
        rfl
theorem stripz_len : ∀ r : List UInt8, (stripz r).length ≤ r.length
  | [] => Nat.le_refl _
  | c :: q => by
    have ih := stripz_len q
    show (match stripz q with | [] => _ | r => _ : List UInt8).length ≤ _
    cases h : stripz q with
    | nil => dsimp only; split <;> simp
    | cons a b => rw [h] at ih; simp at ih ⊢; omega
theorem stripz_mem : ∀ {r : List UInt8} {c : UInt8}, c ∈ stripz r → c ∈ r
  | a :: q, c, h => by
    have ih := @stripz_mem q c
    change c ∈ (match stripz q with | [] => _ | r => _ : List UInt8) at h
    cases hq : stripz q with
    | nil =>
      rw [hq] at h
      dsimp only at h
      split at h
      · cases h
      · simp at h; simp [h]
    | cons x y =>
      rw [hq] at h ih
      rcases List.mem_cons.1 h with h | h
      · simp [h]
      · exact List.mem_cons_of_mem _ (ih h)
theorem digs_iff {s : List UInt8} : digs s = true ↔ (∀ c ∈ s, dg c = true) ∧ s ≠ [] := by simp [digs, List.all_eq_true]
/-- from where the pieces are known -/
theorem parse_K1 (neg : Bool) (w r : List UInt8) (pt bad : Bool) (hwl : w.length < 1000000) (hrl : r.length < 1000000) (hpt : pt = false → r = [])
    (hbad : bad = true ↔ (digs w = false ∨ (1 < w.length ∧ w[0]? = some 48))) : units_Parse_K1 neg w r pt bad 0 0 = some ((parsePieces neg w r pt).1, (parsePieces neg w r pt).2, ()) := by
  unfold units_Parse_K1 units_Parse_m1 parsePieces
  by_cases hb : bad = true
  · rw [if_pos hb, if_pos (hbad.1 hb)]
  · rw [if_neg hb, if_neg (fun h => hb (hbad.2 h))]
    have hw : digs w = true := by
      cases h : digs w
      · exact absurd (hbad.2 (.inl h)) hb
      · rfl
    have hwd := digs_iff.1 hw
    have fin : (∀ c ∈ r, dg c = true) → r.length ≤ 6 → units_Parse_K2 neg w r false 0 0 = some ((if 1000000000000 < dvn (dvn 0 w) (stripz r) then ((0, 0), false) else ((if neg then -(dvn (dvn 0 w) (stripz r)) else dvn (dvn 0 w) (stripz r), ((stripz r).length : Int)), true) : PR).1, (if 1000000000000 < dvn (dvn 0 w) (stripz r) then ((0, 0), false) else ((if neg then -(dvn (dvn 0 w) (stripz r)) else dvn (dvn 0 w) (stripz r), ((stripz r).length : Int)), true) : PR).2, ()) := fun hr h6 => by
      unfold units_Parse_K2 units_Parse_m2
      rw [if_neg (by decide)]
      have go : units_Parse_K3 neg (stripz r) 0 w (stripz r) 0 0 0 = some ((if 1000000000000 < dvn (dvn 0 w) (stripz r) then ((0, 0), false) else ((if neg then -(dvn (dvn 0 w) (stripz r)) else dvn (dvn 0 w) (stripz r), ((stripz r).length : Int)), true) : PR).1, (if 1000000000000 < dvn (dvn 0 w) (stripz r) then ((0, 0), false) else ((if neg then -(dvn (dvn 0 w) (stripz r)) else dvn (dvn 0 w) (stripz r), ((stripz r).length : Int)), true) : PR).2, ()) := by
        rw [parse_K3 neg w (stripz r) hwd.1 (fun c hc => hr c (stripz_mem hc)) hwl (by have := stripz_len r; omega)]
        split <;> rfl
      by_cases hre : r = []
      · subst hre
        rw [if_pos (by decide)]
        exact go
      · rw [if_neg (by rw [eqs_iff]; exact hre), trimRight_eq hrl, Option.bind_some]
        exact go
    cases pt
    · rw [if_neg (by decide), if_neg (by simp)]
      rw [hpt rfl] at fin ⊢
      exact fin (fun c h => by cases h) (by simp)
    · rw [if_pos rfl, allDigits_eq hrl, Option.bind_some]
      by_cases hr : digs r = true
      · rw [if_neg (by simp [hr])]
        by_cases h6 : 6 < r.length
        · have e : gt (Int.ofNat r.length) 6 = true := by rw [gt_iff, ofNat_eq]; omega
          rw [e, if_pos ⟨rfl, .inr h6⟩]
          rfl
        · have e : gt (Int.ofNat r.length) 6 = false := by simp [gt]; omega
          rw [e, if_neg (by simp [hr]; omega)]
          exact fin (digs_iff.1 hr).1 (by omega)
      · have hr' : digs r = false := by simpa using hr
        rw [if_pos (by simp [hr']), if_pos ⟨rfl, .inl hr'⟩]
        rfl
/-- the number that a text without a sign says -/
def parseT (neg : Bool) (t : List UInt8) : PR := parsePieces neg (t.takeWhile (· != 46)) ((t.dropWhile (· != 46)).drop 1) (t.contains 46)
def parseS (s : List UInt8) : PR := if s.head? = some 45 then parseT true (s.drop 1) else parseT false s
theorem tw_no {c : UInt8} {s : List UInt8} (h : c ∉ s) : s.takeWhile (· != c) = s ∧ s.dropWhile (· != c) = [] ∧ s.contains c = false := by
  induction s with
  | nil => exact ⟨rfl, rfl, rfl⟩
  | cons b q ih =>
    have hb : b ≠ c := fun e => h (by simp [e])
    obtain ⟨h1, h2, h3⟩ := ih (fun hm => h (List.mem_cons_of_mem _ hm))
    have hb' : (b != c) = true := by simp [hb]
    refine ⟨by simp [hb', h1], by simp [hb', h2], ?_⟩
    simp only [List.contains_cons, h3, Bool.or_false]
    simp
    exact fun e => hb e.symm
theorem tw_yes {c : UInt8} {p q : List UInt8} (h : c ∉ p) : (p ++ c :: q).takeWhile (· != c) = p ∧ (p ++ c :: q).dropWhile (· != c) = c :: q ∧ (p ++ c :: q).contains c = true := by
  induction p with
  | nil => simp
  | cons b r ih =>
    have hb : b ≠ c := fun e => h (by simp [e])
    obtain ⟨h1, h2, h3⟩ := ih (fun hm => h (List.mem_cons_of_mem _ hm))
    have hb' : (b != c) = true := by simp [hb]
    refine ⟨by simp [hb', h1], by simp [hb', h2], ?_⟩
    simp
theorem parseT_no {neg : Bool} {t : List UInt8} (h : (46 : UInt8) ∉ t) : parseT neg t = parsePieces neg t [] false := by
  obtain ⟨h1, h2, h3⟩ := tw_no h
  unfold parseT
  rw [h1, h2, h3]
  rfl
theorem parseT_yes {neg : Bool} {p q : List UInt8} (h : (46 : UInt8) ∉ p) : parseT neg (p ++ 46 :: q) = parsePieces neg p q true := by
  obtain ⟨h1, h2, h3⟩ := tw_yes (q := q) h
  simp only [parseT, h1, h2, h3]
  simp
theorem bad_iff {w : List UInt8} (c : UInt8) (q : List UInt8) (e : w = c :: q) (h : digs w = true) (hl : 1 < w.length) : eqi (Int.ofNat c.toNat) 48 = true ↔ (digs w = false ∨ (1 < w.length ∧ w[0]? = some 48)) := by
  subst e
  simp [h, eqi] at hl ⊢
  constructor
  · intro h2
    refine ⟨hl, UInt8.toNat_inj.1 ?_⟩
    have : (48 : UInt8).toNat = 48 := rfl
    omega
  · rintro ⟨_, rfl⟩; rfl
theorem hasPrefix_eq {s p : List UInt8} : istringslite_HasPrefix (s, p, ()) = some (decide (p <+: s), ()) := by
  show (if ge (Int.ofNat s.length) (Int.ofNat p.length) = true then _ else _) = _
  by_cases h : p.length ≤ s.length
  · rw [if_pos (by rw [ge_iff, ofNat_eq, ofNat_eq]; omega), ofNat_eq, cut_to h, Option.bind_some]
    congr 2
    rw [Bool.eq_iff_iff, eqs_iff, decide_eq_true_iff, List.prefix_iff_eq_take]
    exact ⟨fun h => h.symm, fun h => h.symm⟩
  · rw [if_neg (by rw [ge_iff, ofNat_eq, ofNat_eq]; omega)]
    congr 2
    symm
    rw [decide_eq_false_iff_not]
    intro hp
    exact h hp.length_le
theorem cutPrefix_eq {s p : List UInt8} : strings_CutPrefix (s, p, ()) = some (if p <+: s then (s.drop p.length, true, ()) else (s, false, ())) := by
  show (istringslite_CutPrefix (s, p, ())).bind _ = _
  have : istringslite_CutPrefix (s, p, ()) = some (if p <+: s then (s.drop p.length, true, ()) else (s, false, ())) := by
    show (istringslite_HasPrefix (s, p, ())).bind _ = _
    rw [hasPrefix_eq, Option.bind_some]
    by_cases h : p <+: s
    · rw [if_neg (by simp [h]), if_pos h, ofNat_eq, cut_from h.length_le, Option.bind_some]
    · rw [if_pos (by simp [h]), if_neg h]
  rw [this, Option.bind_some]
theorem parse_eq {s : List UInt8} (hl : s.length < 1000000) : units_Parse (s, ()) = some ((parseS s).1, (parseS s).2, ()) := by
  show units_Parse_m0 units_Parse_K1 s = _
  have go : ∀ (neg : Bool) (t : List UInt8), t.length < 1000000 →
      (if eqs [46] t = true then (cut t 1 (Int.ofNat t.length)).bind fun y_1 => (units_allDigits ([], ())).bind fun y_2 => if (!y_2.1) = true then units_Parse_K1 neg [] y_1 true true 0 0 else units_Parse_K1 neg [] y_1 true false 0 0
       else if ge (Go.Lib.indexByte t 46) 0 = true then (cut t 0 (Go.Lib.indexByte t 46)).bind fun y_1 => (cut t (add .i64 (Go.Lib.indexByte t 46) 1) (Int.ofNat t.length)).bind fun y_2 => (units_allDigits (y_1, ())).bind fun y_3 => if (!y_3.1) = true then units_Parse_K1 neg y_1 y_2 true true 0 0 else if gt (Int.ofNat y_1.length) 1 = true then (at? y_1 0).bind fun c => units_Parse_K1 neg y_1 y_2 true (eqi (Int.ofNat c.toNat) 48) 0 0 else units_Parse_K1 neg y_1 y_2 true false 0 0
       else (units_allDigits (t, ())).bind fun y_1 => if (!y_1.1) = true then units_Parse_K1 neg t [] false true 0 0 else if gt (Int.ofNat t.length) 1 = true then (at? t 0).bind fun c => units_Parse_K1 neg t [] false (eqi (Int.ofNat c.toNat) 48) 0 0 else units_Parse_K1 neg t [] false false 0 0) = some ((parseT neg t).1, (parseT neg t).2, ()) := by
    intro neg t ht
    have side : ∀ (w r : List UInt8) (pt : Bool), w.length < 1000000 → r.length < 1000000 → (pt = false → r = []) → ((units_allDigits (w, ())).bind fun y_1 => if (!y_1.1) = true then units_Parse_K1 neg w r pt true 0 0 else if gt (Int.ofNat w.length) 1 = true then (at? w 0).bind fun c => units_Parse_K1 neg w r pt (eqi (Int.ofNat c.toNat) 48) 0 0 else units_Parse_K1 neg w r pt false 0 0) = some ((parsePieces neg w r pt).1, (parsePieces neg w r pt).2, ()) := by
      intro w r pt hw hr hp
      rw [allDigits_eq hw, Option.bind_some]
      by_cases hd : digs w = true
      · rw [if_neg (by simp [hd])]
        by_cases h1 : 1 < w.length
        · rw [if_pos (by rw [gt_iff, ofNat_eq]; omega)]
          cases w with
          | nil => simp at h1
          | cons c q => exact parse_K1 neg (c :: q) r pt _ hw hr hp (bad_iff c q rfl hd h1)
        · rw [if_neg (by rw [gt_iff, ofNat_eq]; omega)]
          exact parse_K1 neg w r pt false hw hr hp (by simp [hd]; omega)
      · have hd' : digs w = false := by simpa using hd
        rw [if_pos (by simp [hd'])]
        exact parse_K1 neg w r pt true hw hr hp (by simp [hd'])
    by_cases he : t = [46]
    · subst he
      rw [if_pos (by decide), show cut ([46] : List UInt8) 1 (Int.ofNat [(46 : UInt8)].length) = some [] from rfl, Option.bind_some, allDigits_eq (by simp), Option.bind_some, if_pos (by decide)]
      exact parse_K1 neg [] [] true true (by simp) (by simp) (by simp) (by simp [digs])
    · rw [if_neg (by rw [eqs_iff]; exact fun h => he h.symm)]
      rcases split_at 46 t with h46 | ⟨p, q, rfl, h46⟩
      · rw [index_no 46 t h46, if_neg (by decide), parseT_no h46]
        exact side t [] false ht (by simp) (fun _ => rfl)
      · simp at ht
        rw [index_yes 46 p q h46, if_pos (by rw [ge_iff]; omega), cut_app0, Option.bind_some, succ64 (by omega), cut_from (by simp), Option.bind_some, parseT_yes h46]
        have : (p ++ 46 :: q).drop (p.length + 1) = q := by simp
        rw [this]
        exact side p q true (by omega) (by omega) (by simp)
  unfold units_Parse_m0
  rw [cutPrefix_eq]
  cases s with
  | nil =>
    rw [if_neg (by simp), Option.bind_some]
    exact go false [] (by simp)
  | cons a q =>
    by_cases ha : a = 45
    · subst ha
      have : parseS (45 :: q) = parseT true q := by simp [parseS]
      rw [this, if_pos (by simp), Option.bind_some]
      exact go true q (by simp at hl; omega)
    · have : parseS (a :: q) = parseT false (a :: q) := by simp [parseS, ha]
      rw [this, if_neg (by simp; intro e; exact ha e.symm), Option.bind_some]
      exact go false (a :: q) hl
end Go.Proofs.Lx

end

section
/- The document's reader of decimals. -/
namespace Go.Proofs.Lx
open Go Ev Sx Pl
set_option maxRecDepth 10000
def rf (z : Bool) : List UInt8 → Int → Bool → Nat → Nat → Option (Int × Nat)
  | [], n, pt, bh, ah => if ah = 0 ∨ (pt = true ∧ bh = 0) ∨ 6 < bh then none else some (n, bh)
  | c :: q, n, pt, bh, ah =>
    if c = 46 ∧ pt = false ∧ 0 < ah then rf z q n true bh ah
    else if dg c = false ∨ (ah = 1 ∧ z = true ∧ pt = false) ∨ 100000000000000000 < n then none
    else rf z q (10 * n + ((c.toNat : Int) - 48)) pt (if pt then bh + 1 else bh) (if pt then ah else ah + 1)
def refEnd (below : Bool) : Option (Int × Nat) → Option (As [.pr (.int .i64) (.int .u8), .bool])
  | none => some ((0, 0), false, ())
  | some (n, b) => ref12_Parse_K8 below n (b : Int) false 0 0
theorem eqi_byte {c : UInt8} (k : UInt8) {m : Int} (hm : m = (k.toNat : Int) := by rfl) : eqi (Int.ofNat c.toNat) m = true ↔ c = k := by
  subst hm
  simp only [eqi, beq_iff_eq, ofNat_eq]
  constructor
  · intro h; apply UInt8.toNat_inj.1; omega
  · rintro rfl; rfl
abbrev R3 := List UInt8 × Bool × Int × Bool × Int × Int × Int × Int × Int
abbrev RP := As [.pr (.int .i64) (.int .u8), .bool]
abbrev refB (self : R3 → Option RP) (s : R3) : Option RP := ref12_Parse_m3 (ref12_Parse_K4 (fun s below n point behind ahead i t2 t2_2 => self (s, below, n, point, behind, ahead, i, t2, t2_2))) (ref12_Parse_K5) (fun s below n point behind ahead i t2 t2_2 => self (s, below, n, point, behind, ahead, i, t2, t2_2)) s.1 s.2.1 s.2.2.1 s.2.2.2.1 s.2.2.2.2.1 s.2.2.2.2.2.1 s.2.2.2.2.2.2.1 s.2.2.2.2.2.2.2.1 s.2.2.2.2.2.2.2.2
theorem ref_K7 (self : R3 → Option RP) (s : List UInt8) (below : Bool) (n : Int) (pt : Bool) (bh ah i : Nat) (c : UInt8) (hc : dg c = true) (hi : at? s (i : Int) = some c) (h0 : 0 ≤ n) (hl : i < 1000000) (hb : bh < 1000000) (ha : ah < 1000000) :
    ref12_Parse_K7 (fun s below n point behind ahead i t2 t2_2 => self (s, below, n, point, behind, ahead, i, t2, t2_2)) s below n pt (bh : Int) (ah : Int) (i : Int) false 0 0 =
      if 100000000000000000 < n then some ((0, 0), false, ()) else self (s, below, 10 * n + ((c.toNat : Int) - 48), pt, ((if pt then bh + 1 else bh : Nat) : Int), ((if pt then ah else ah + 1 : Nat) : Int), ((i + 1 : Nat) : Int), 0, 0) := by
  unfold ref12_Parse_K7 ref12_Parse_m7
  rw [if_neg (by decide)]
  by_cases hn : 100000000000000000 < n
  · rw [if_pos (by rw [gt_iff]; exact hn), if_pos hn]
  · have := dg_iff.1 hc
    rw [if_neg (by rw [gt_iff]; exact hn), if_neg hn, hi, Option.bind_some, byte_val hc, mul64 (by omega) (by omega), add64 (by omega) (by omega), succ64 (by omega), succ64 (by omega)]
    unfold ref12_Parse_K6 ref12_Parse_m6
    rw [succ64 (by omega), show n * 10 = 10 * n by omega]
    cases pt <;> rfl
theorem ref_loop (s : List UInt8) (below : Bool) (hs : s.length < 1000000) : ∀ (k : Nat) (st : R3),
    (∃ (n : Int) (pt : Bool) (bh ah i : Nat), st = (s, below, n, pt, (bh : Int), (ah : Int), (i : Int), 0, 0) ∧ i ≤ s.length ∧ bh ≤ i ∧ ah ≤ i ∧ 0 ≤ n) → s.length - st.2.2.2.2.2.2.1.toNat < k →
      loopF refB k st = refEnd below (rf (decide (s[0]? = some 48)) (s.drop st.2.2.2.2.2.2.1.toNat) st.2.2.1 st.2.2.2.1 st.2.2.2.2.1.toNat st.2.2.2.2.2.1.toNat) := by
  refine loopF_eq (σ := R3) (μ := fun st => s.length - st.2.2.2.2.2.2.1.toNat) (G := fun st => refEnd below (rf (decide (s[0]? = some 48)) (s.drop st.2.2.2.2.2.2.1.toNat) st.2.2.1 st.2.2.2.1 st.2.2.2.2.1.toNat st.2.2.2.2.2.1.toNat)) ?_
  rintro self st ⟨n, pt, bh, ah, i, rfl, hi, hb, ha, hn⟩ ih
  simp only [Int.toNat_natCast] at ih ⊢
  show ref12_Parse_m3 _ _ _ s below n pt (bh : Int) (ah : Int) (i : Int) 0 0 = _
  unfold ref12_Parse_m3
  cases hd : s.drop i with
  | nil =>
    have := drop_nil hd
    rw [if_neg (by rw [lt_iff, ofNat_eq]; omega)]
    unfold ref12_Parse_K5 ref12_Parse_m5 rf
    by_cases h0 : ah = 0
    · subst h0
      rw [if_pos (by decide), if_pos (.inl rfl)]
      rfl
    · rw [if_neg (by rw [eqi_iff]; omega)]
      have h6 : ref12_Parse_K8 below n (bh : Int) (gt (bh : Int) 6) 0 0 = refEnd below (if 6 < bh then none else some (n, bh)) := by
        by_cases h : 6 < bh
        · rw [if_pos h, show gt (bh : Int) 6 = true by rw [gt_iff]; omega]; rfl
        · rw [if_neg h, show gt (bh : Int) 6 = false by simp [gt]; omega]; rfl
      cases pt
      · rw [if_neg (by decide), h6]
        congr 1
        simp [h0]
      · rw [if_pos rfl]
        by_cases hb0 : bh = 0
        · subst hb0
          rw [if_pos (by decide), if_pos (by simp)]
          rfl
        · rw [if_neg (by rw [eqi_iff]; omega), h6]
          congr 1
          simp [h0, hb0]
  | cons c r =>
    obtain ⟨h1, h2, h3⟩ := drop_succ hd
    have hat := at_drop hd
    rw [if_pos (by rw [lt_iff, ofNat_eq]; omega), hat, Option.bind_some]
    have next : ∀ (n' : Int) (pt' : Bool) (bh' ah' : Nat), bh' ≤ i + 1 → ah' ≤ i + 1 → 0 ≤ n' → self (s, below, n', pt', (bh' : Int), (ah' : Int), ((i + 1 : Nat) : Int), 0, 0) = refEnd below (rf (decide (s[0]? = some 48)) r n' pt' bh' ah') := fun n' pt' bh' ah' x1 x2 x3 => by
      have := ih (s, below, n', pt', (bh' : Int), (ah' : Int), ((i + 1 : Nat) : Int), 0, 0) ⟨n', pt', bh', ah', i + 1, rfl, by omega, x1, x2, x3⟩ (by simp; omega)
      refine this.trans ?_
      simp [h1]
    -- a byte that is no point that counts
    have dig : ¬ (c = 46 ∧ pt = false ∧ 0 < ah) → ref12_Parse_K4 (fun s below n point behind ahead i t2 t2_2 => self (s, below, n, point, behind, ahead, i, t2, t2_2)) s below n pt (bh : Int) (ah : Int) (i : Int) false 0 0 = refEnd below (rf (decide (s[0]? = some 48)) (c :: r) n pt bh ah) := fun hno => by
      unfold ref12_Parse_K4 ref12_Parse_m4
      rw [if_neg (by decide), hat, Option.bind_some, Option.bind_some]
      unfold rf
      rw [if_neg hno]
      have bad : ref12_Parse_K7 (fun s below n point behind ahead i t2 t2_2 => self (s, below, n, point, behind, ahead, i, t2, t2_2)) s below n pt (bh : Int) (ah : Int) (i : Int) true 0 0 = some ((0, 0), false, ()) := rfl
      by_cases hc : dg c = true
      · have hcv := dg_iff.1 hc
        rw [if_neg (by rw [lt_iff, ofNat_eq]; omega), if_neg (by rw [gt_iff, ofNat_eq]; omega)]
        have good := ref_K7 self s below n pt bh ah i c hc hat hn (by omega) (by omega) (by omega)
        have fine : ¬ (ah = 1 ∧ s[0]? = some 48 ∧ pt = false) → (if 100000000000000000 < n then some ((0, 0), false, ()) else self (s, below, 10 * n + ((c.toNat : Int) - 48), pt, ((if pt then bh + 1 else bh : Nat) : Int), ((if pt then ah else ah + 1 : Nat) : Int), ((i + 1 : Nat) : Int), 0, 0)) =
            refEnd below (if dg c = false ∨ (ah = 1 ∧ (decide (s[0]? = some 48)) = true ∧ pt = false) ∨ 100000000000000000 < n then none else rf (decide (s[0]? = some 48)) r (10 * n + ((c.toNat : Int) - 48)) pt (if pt then bh + 1 else bh) (if pt then ah else ah + 1)) := fun hz => by
          by_cases hn1 : 100000000000000000 < n
          · rw [if_pos hn1, if_pos (.inr (.inr hn1))]
            rfl
          · have hno2 : ¬ (dg c = false ∨ (ah = 1 ∧ (decide (s[0]? = some 48)) = true ∧ pt = false) ∨ 100000000000000000 < n) := by
              rintro (h | h | h)
              · rw [hc] at h; cases h
              · exact hz ⟨h.1, of_decide_eq_true h.2.1, h.2.2⟩
              · exact hn1 h
            rw [if_neg hn1, if_neg hno2]
            exact next _ pt (if pt then bh + 1 else bh) (if pt then ah else ah + 1) (by split <;> omega) (by split <;> omega) (by omega)
        by_cases ha1 : ah = 1
        · rw [if_pos (by rw [eqi_iff]; omega)]
          obtain ⟨c0, q0, hs0⟩ : ∃ c0 q0, s = c0 :: q0 := by
            cases s with
            | nil => simp at h2
            | cons c0 q0 => exact ⟨c0, q0, rfl⟩
          have hz0 : s[0]? = some c0 := by rw [hs0]; rfl
          rw [show at? s 0 = some c0 by rw [hs0]; rfl, Option.bind_some]
          by_cases h48 : c0 = 48
          · rw [if_pos ((eqi_byte 48).2 h48)]
            cases pt
            · show ref12_Parse_K7 _ s below n false _ _ _ true 0 0 = _
              rw [bad, if_pos (.inr (.inl ⟨ha1, by rw [hz0, h48]; decide, rfl⟩))]
              rfl
            · show ref12_Parse_K7 _ s below n true _ _ _ false 0 0 = _
              rw [good]
              exact fine (by simp)
          · rw [if_neg (fun h => h48 ((eqi_byte 48).1 h)), good]
            exact fine (fun h => by rw [hz0] at h; exact h48 (Option.some.inj h.2.1))
        · rw [if_neg (by rw [eqi_iff]; omega), good]
          exact fine (fun h => ha1 h.1)
      · have hc' : dg c = false := by simpa using hc
        have h4 : ¬ (48 ≤ c.toNat ∧ c.toNat ≤ 57) := fun h => hc (dg_iff.2 h)
        have hyes : dg c = false ∨ (ah = 1 ∧ (decide (s[0]? = some 48)) = true ∧ pt = false) ∨ 100000000000000000 < n := .inl hc'
        rw [if_pos hyes]
        by_cases h5 : c.toNat < 48
        · rw [if_pos (by rw [lt_iff, ofNat_eq]; omega), bad]
          rfl
        · rw [if_neg (by rw [lt_iff, ofNat_eq]; omega), if_pos (by rw [gt_iff, ofNat_eq]; omega), bad]
          rfl
    by_cases h46 : c = 46
    · rw [if_pos ((eqi_byte 46).2 h46)]
      cases pt
      · rw [if_pos (by decide)]
        by_cases h0 : 0 < ah
        · rw [show gt (ah : Int) 0 = true by rw [gt_iff]; omega]
          unfold ref12_Parse_K4 ref12_Parse_m4
          rw [if_pos rfl]
          unfold ref12_Parse_K6 ref12_Parse_m6 rf
          rw [if_pos ⟨h46, rfl, h0⟩, succ64 (by omega)]
          exact next _ _ _ _ (by omega) (by omega) hn
        · rw [show gt (ah : Int) 0 = false by simp [gt]; omega]
          exact dig (fun h => h0 h.2.2)
      · rw [if_neg (by decide)]
        exact dig (by simp)
    · rw [if_neg (fun h => h46 ((eqi_byte 46).1 h))]
      exact dig (fun h => h46 h.1)
end Go.Proofs.Lx

end

section
/- The two readers of decimals are one. -/
namespace Go.Proofs.Lx
open Go Ev Sx Pl
set_option maxRecDepth 10000
theorem rf_bound {z : Bool} : ∀ {q : List UInt8} {n : Int} {pt : Bool} {bh ah : Nat} {N : Int} {B : Nat}, rf z q n pt bh ah = some (N, B) → n ≤ 1000000000000000009 → N ≤ 1000000000000000009 ∧ B ≤ 6
  | [], n, pt, bh, ah, N, B, h, hn => by
    unfold rf at h
    split at h
    · cases h
    · rename_i h1
      cases h
      exact ⟨hn, by omega⟩
  | c :: q, n, pt, bh, ah, N, B, h, hn => by
    unfold rf at h
    split at h
    · exact rf_bound h hn
    · split at h
      · cases h
      · rename_i h1 h2
        have hc : dg c = true := by
          cases hd : dg c
          · exact absurd (.inl hd) h2
          · rfl
        have := dg_iff.1 hc
        exact rf_bound h (by omega)
theorem dg46 : dg 46 = false := rfl
/-- digits behind a point -/
theorem rf_frac {z : Bool} : ∀ {r : List UInt8} {n : Int} {bh ah : Nat}, 0 < ah → 0 ≤ n →
    ((∀ c ∈ r, dg c = true) → (rf z r n true bh ah = none ∨ rf z r n true bh ah = (if bh + r.length = 0 ∨ 6 < bh + r.length then none else some (dvn n r, bh + r.length))) ∧ (dvn n r ≤ 1000000000000000000 → rf z r n true bh ah = (if bh + r.length = 0 ∨ 6 < bh + r.length then none else some (dvn n r, bh + r.length)))) ∧
    ((¬ ∀ c ∈ r, dg c = true) → rf z r n true bh ah = none)
  | [], n, bh, ah, ha, hn => by
    have e : rf z [] n true bh ah = (if bh + ([] : List UInt8).length = 0 ∨ 6 < bh + ([] : List UInt8).length then none else some (dvn n [], bh + ([] : List UInt8).length)) := by
      show (if ah = 0 ∨ (true = true ∧ bh = 0) ∨ 6 < bh then none else some (n, bh)) = (if bh + 0 = 0 ∨ 6 < bh + 0 then none else some (n, bh))
      by_cases h : bh = 0 ∨ 6 < bh
      · rw [if_pos (h.elim (fun h => .inr (.inl ⟨rfl, h⟩)) (fun h => .inr (.inr h))), if_pos (by omega)]
      · rw [if_neg (by omega), if_neg (by omega)]
    exact ⟨fun _ => ⟨.inr e, fun _ => e⟩, fun h => absurd (fun c hc => by cases hc) h⟩
  | c :: r, n, bh, ah, ha, hn => by
    have h0 : ¬ (c = 46 ∧ true = false ∧ 0 < ah) := by simp
    by_cases hc : dg c = true
    · have hcv := dg_iff.1 hc
      obtain ⟨i1, i2⟩ := rf_frac (z := z) (r := r) (n := 10 * n + ((c.toNat : Int) - 48)) (bh := bh + 1) (ah := ah) ha (by omega)
      have e2 : bh + (c :: r).length = bh + 1 + r.length := by simp; omega
      by_cases hg : 100000000000000000 < n
      · have e : rf z (c :: r) n true bh ah = none := by
          unfold rf
          rw [if_neg h0, if_pos (.inr (.inr hg))]
        refine ⟨fun ha => ⟨.inl e, fun hle => ?_⟩, fun _ => e⟩
        have := dvn_ge (q := r) (n := 10 * n + ((c.toNat : Int) - 48)) (fun x hx => ha x (List.mem_cons_of_mem _ hx)) (by omega)
        rw [dvn_cons] at hle
        omega
      · have e : rf z (c :: r) n true bh ah = rf z r (10 * n + ((c.toNat : Int) - 48)) true (bh + 1) ah := by
          conv => lhs; unfold rf
          rw [if_neg h0, if_neg (by simp [hc]; omega)]
          rfl
        rw [e, e2, dvn_cons]
        refine ⟨fun ha => i1 (fun x hx => ha x (List.mem_cons_of_mem _ hx)), fun hn => i2 (fun hall => hn fun x hx => ?_)⟩
        rcases List.mem_cons.1 hx with rfl | hx
        · exact hc
        · exact hall x hx
    · have hc' : dg c = false := by simpa using hc
      have e : rf z (c :: r) n true bh ah = none := by
        unfold rf
        rw [if_neg h0, if_pos (.inl hc')]
      exact ⟨fun h => absurd (h c (List.mem_cons_self ..)) hc, fun _ => e⟩
/-- digits ahead of a point -/
theorem rf_whole {z : Bool} {tail : List UInt8} : ∀ {w : List UInt8} {n : Int} {ah : Nat}, 46 ∉ w → 0 ≤ n →
    ((∀ c ∈ w, dg c = true) → ¬ (z = true ∧ ah ≤ 1 ∧ 2 ≤ ah + w.length ∧ w ≠ []) → (rf z (w ++ tail) n false 0 ah = none ∨ rf z (w ++ tail) n false 0 ah = rf z tail (dvn n w) false 0 (ah + w.length)) ∧ (dvn n w ≤ 1000000000000000000 → rf z (w ++ tail) n false 0 ah = rf z tail (dvn n w) false 0 (ah + w.length))) ∧
    (((¬ ∀ c ∈ w, dg c = true) ∨ (z = true ∧ ah ≤ 1 ∧ 2 ≤ ah + w.length ∧ w ≠ [])) → rf z (w ++ tail) n false 0 ah = none)
  | [], n, ah, h46, hn => ⟨fun _ _ => ⟨.inr rfl, fun _ => rfl⟩, fun h => by
    rcases h with h | h
    · exact absurd (fun c hc => by cases hc) h
    · exact absurd rfl h.2.2.2⟩
  | c :: w, n, ah, h46, hn => by
    have hc46 : c ≠ 46 := fun e => h46 (by simp [e])
    have h0 : ¬ (c = 46 ∧ false = false ∧ 0 < ah) := fun h => hc46 h.1
    by_cases hc : dg c = true
    · have hcv := dg_iff.1 hc
      obtain ⟨i1, i2⟩ := rf_whole (z := z) (tail := tail) (w := w) (n := 10 * n + ((c.toNat : Int) - 48)) (ah := ah + 1) (fun h => h46 (List.mem_cons_of_mem _ h)) (by omega)
      have e2 : ah + (c :: w).length = ah + 1 + w.length := by simp; omega
      by_cases hz : ah = 1 ∧ z = true
      · have e : rf z (c :: w ++ tail) n false 0 ah = none := by
          show rf z (c :: (w ++ tail)) n false 0 ah = none
          unfold rf
          rw [if_neg h0, if_pos (.inr (.inl ⟨hz.1, hz.2, rfl⟩))]
        exact ⟨fun _ h => absurd ⟨hz.2, by omega, by simp; omega, by simp⟩ h, fun _ => e⟩
      · by_cases hg : 100000000000000000 < n
        · have e : rf z (c :: w ++ tail) n false 0 ah = none := by
            show rf z (c :: (w ++ tail)) n false 0 ah = none
            unfold rf
            rw [if_neg h0, if_pos (.inr (.inr hg))]
          refine ⟨fun ha _ => ⟨.inl e, fun hle => ?_⟩, fun _ => e⟩
          have := dvn_ge (q := w) (n := 10 * n + ((c.toNat : Int) - 48)) (fun x hx => ha x (List.mem_cons_of_mem _ hx)) (by omega)
          rw [dvn_cons] at hle
          omega
        · have e : rf z (c :: w ++ tail) n false 0 ah = rf z (w ++ tail) (10 * n + ((c.toNat : Int) - 48)) false 0 (ah + 1) := by
            show rf z (c :: (w ++ tail)) n false 0 ah = _
            conv => lhs; unfold rf
            have hno : ¬ (dg c = false ∨ (ah = 1 ∧ z = true ∧ false = false) ∨ 100000000000000000 < n) := by
              rintro (h | h | h)
              · rw [hc] at h; cases h
              · exact hz ⟨h.1, h.2.1⟩
              · exact hg h
            rw [if_neg h0, if_neg hno]
            rfl
          rw [e, e2, dvn_cons]
          refine ⟨fun ha hnz => i1 (fun x hx => ha x (List.mem_cons_of_mem _ hx)) (fun h => hnz ⟨h.1, by omega, by omega, by simp⟩), fun h => i2 ?_⟩
          rcases h with h | h
          · refine .inl (fun hall => h fun x hx => ?_)
            rcases List.mem_cons.1 hx with rfl | hx
            · exact hc
            · exact hall x hx
          · have hne : ah ≠ 1 := fun e => hz ⟨e, h.1⟩
            refine .inr ⟨h.1, by have := h.2.1; omega, by have := h.2.2.1; omega, fun hw => ?_⟩
            subst hw
            have := h.2.2.1
            exact hz ⟨by simp at this; omega, h.1⟩
    · have hc' : dg c = false := by simpa using hc
      have e : rf z (c :: w ++ tail) n false 0 ah = none := by
        show rf z (c :: (w ++ tail)) n false 0 ah = none
        unfold rf
        rw [if_neg h0, if_pos (.inl hc')]
      exact ⟨fun h => absurd (h c (List.mem_cons_self ..)) hc, fun _ => e⟩
/-! ### noughts off -/
def st0 : Nat → Int → Int × Nat
  | 0, n => (n, 0)
  | d + 1, n => if n.tmod 10 = 0 then st0 d (n.tdiv 10) else (n, d + 1)
def ofS (n : Int) (d : Nat) : PR := if 6 < (st0 d n).2 ∨ 1000000000000 < (st0 d n).1 ∨ (st0 d n).1 < -1000000000000 then ((0, 0), false) else (((st0 d n).1, ((st0 d n).2 : Int)), true)
theorem st0_le : ∀ (d : Nat) (n : Int), (st0 d n).2 ≤ d ∧ (-9223372036854775807 ≤ n ∧ n ≤ 9223372036854775807 → -9223372036854775807 ≤ (st0 d n).1 ∧ (st0 d n).1 ≤ 9223372036854775807)
  | 0, n => ⟨Nat.le_refl _, id⟩
  | d + 1, n => by
    unfold st0
    split
    · obtain ⟨h1, h2⟩ := st0_le d (n.tdiv 10)
      refine ⟨by omega, fun h => h2 ?_⟩
      rcases Int.le_total 0 n with h0 | h0
      · rw [Int.tdiv_eq_ediv_of_nonneg h0]; omega
      · have : n.tdiv 10 = -((-n).tdiv 10) := by rw [Int.neg_tdiv, Int.neg_neg]
        rw [this, Int.tdiv_eq_ediv_of_nonneg (by omega)]
        omega
    · exact ⟨Nat.le_refl _, id⟩
theorem of_eq {n : Int} {d : Nat} (hd : d < 256) (h1 : -9223372036854775807 ≤ n) (h2 : n ≤ 9223372036854775807) : ref12_Of (n, (d : Int), ()) = some ((ofS n d).1, (ofS n d).2, ()) := by
  have key : ∀ (k : Nat) (st : Int × Int × Int × Int), (∃ (m : Int) (e : Nat), st = (m, (e : Int), 0, 0) ∧ e < 256 ∧ -9223372036854775807 ≤ m ∧ m ≤ 9223372036854775807) → st.2.1.toNat < k →
      loopF (fun (self : Int × Int × Int × Int → Option RP) (s : Int × Int × Int × Int) => ref12_Of_m1 (ref12_Of_K2 (fun a b c d => self (a, b, c, d))) (fun a b c d => self (a, b, c, d)) s.1 s.2.1 s.2.2.1 s.2.2.2) k st = some ((ofS st.1 st.2.1.toNat).1, (ofS st.1 st.2.1.toNat).2, ()) := by
    refine loopF_eq (σ := Int × Int × Int × Int) (μ := fun st => st.2.1.toNat) (G := fun st => some ((ofS st.1 st.2.1.toNat).1, (ofS st.1 st.2.1.toNat).2, ())) ?_
    rintro self st ⟨m, e, rfl, he, hm1, hm2⟩ ih
    simp only [Int.toNat_natCast] at ih ⊢
    unfold ref12_Of_m1
    have fin : st0 e m = (m, e) → ref12_Of_K2 (fun a b c d => self (a, b, c, d)) m (e : Int) false 0 0 = some ((ofS m e).1, (ofS m e).2, ()) := fun hs => by
      unfold ref12_Of_K2 ref12_Of_m2 ref12_Of_K3 ref12_Of_m3 ofS
      rw [hs, if_neg (by decide)]
      have bad : ref12_Of_K4 m (e : Int) true 0 0 = some ((0, 0), false, ()) := rfl
      by_cases h6 : 6 < e
      · rw [if_pos (by rw [gt_iff]; omega), bad, if_pos (.inl h6)]
      · rw [if_neg (by rw [gt_iff]; omega)]
        by_cases hb : 1000000000000 < m
        · rw [if_pos (by rw [gt_iff]; omega), bad, if_pos (.inr (.inl hb))]
        · rw [if_neg (by rw [gt_iff]; omega)]
          by_cases hs : m < -1000000000000
          · rw [show lt m (-1000000000000) = true by rw [lt_iff]; exact hs, bad, if_pos (.inr (.inr hs))]
          · rw [show lt m (-1000000000000) = false by simp [lt]; omega, if_neg (by dsimp only; omega)]
            unfold ref12_Of_K4 ref12_Of_m4
            rw [if_neg (by decide)]
            have : cvt .u8 (e : Int) = (e : Int) := wu8 (by omega) (by omega)
            rw [this]
    cases e with
    | zero =>
      rw [if_neg (by decide)]
      exact fin rfl
    | succ e =>
      rw [if_pos (by rw [gt_iff]; omega)]
      by_cases hr : m.tmod 10 = 0
      · have e1 : eqi (rem m 10) 0 = true := by rw [eqi_iff]; exact hr
        rw [e1]
        unfold ref12_Of_K2 ref12_Of_m2
        rw [if_pos rfl]
        have hq : -9223372036854775807 ≤ m.tdiv 10 ∧ m.tdiv 10 ≤ 9223372036854775807 := by
          rcases Int.le_total 0 m with h0 | h0
          · rw [Int.tdiv_eq_ediv_of_nonneg h0]; omega
          · have : m.tdiv 10 = -((-m).tdiv 10) := by rw [Int.neg_tdiv, Int.neg_neg]
            rw [this, Int.tdiv_eq_ediv_of_nonneg (by omega)]
            omega
        have e2 : quo .i64 m 10 = m.tdiv 10 := w64 (by omega) (by omega)
        have e3 : sub .i64 ((e + 1 : Nat) : Int) 1 = (e : Int) := by rw [sub64 (by omega) (by omega)]; omega
        rw [e2, e3]
        have := ih (m.tdiv 10, (e : Int), 0, 0) ⟨_, e, rfl, by omega, hq.1, hq.2⟩ (by simp)
        refine this.trans ?_
        simp only [Int.toNat_natCast, ofS]
        have e4 : st0 (e + 1) m = st0 e (m.tdiv 10) := by
          show (if m.tmod 10 = 0 then _ else _) = _
          rw [if_pos hr]
        rw [e4]
      · have e1 : eqi (rem m 10) 0 = false := by simpa [eqi, rem] using hr
        rw [e1]
        refine fin ?_
        unfold st0
        rw [if_neg hr]
  have := key 18446744073709551616 (n, (d : Int), 0, 0) ⟨n, d, rfl, hd, h1, h2⟩ (by simp; omega)
  refine Eq.trans this ?_
  simp
theorem st0_val (sg : Bool) (x : Int) (hx : 0 ≤ x) : ∀ (k : Nat) (r : List UInt8), r.length = k → (∀ c ∈ r, dg c = true) →
    st0 k (if sg then -(dvn x r) else dvn x r) = ((if sg then -(dvn x (stripz r)) else dvn x (stripz r)), (stripz r).length)
  | 0, r, hl, _ => by
    have : r = [] := List.eq_nil_of_length_eq_zero hl
    subst this
    rfl
  | k + 1, r, hl, hd => by
    rcases snoc_cases r with rfl | ⟨p, c, rfl⟩
    · simp at hl
    · simp at hl
      have hc := hd c (by simp)
      have hcv := dg_iff.1 hc
      have hp : ∀ c ∈ p, dg c = true := fun a ha => hd a (by simp [ha])
      have hge := dvn_ge (n := x) hp hx
      have e : dvn x (p ++ [c]) = 10 * dvn x p + ((c.toNat : Int) - 48) := by rw [dvn_app]; rfl
      have hmod : ∀ y : Int, 0 ≤ y → (if sg then -y else y).tmod 10 = (if sg then -(y % 10) else y % 10) := fun y hy => by
        cases sg
        · exact Int.tmod_eq_emod_of_nonneg hy
        · show (-y).tmod 10 = -(y % 10)
          rw [Int.neg_tmod, Int.tmod_eq_emod_of_nonneg hy]
      have hdiv : ∀ y : Int, 0 ≤ y → (if sg then -y else y).tdiv 10 = (if sg then -(y / 10) else y / 10) := fun y hy => by
        cases sg
        · exact Int.tdiv_eq_ediv_of_nonneg hy
        · show (-y).tdiv 10 = -(y / 10)
          rw [Int.neg_tdiv, Int.tdiv_eq_ediv_of_nonneg hy]
      unfold st0
      rw [e, hmod _ (by omega), hdiv _ (by omega)]
      have m1 : (10 * dvn x p + ((c.toNat : Int) - 48)) % 10 = (c.toNat : Int) - 48 := by omega
      have d1 : (10 * dvn x p + ((c.toNat : Int) - 48)) / 10 = dvn x p := by omega
      rw [m1, d1]
      by_cases h48 : c = 48
      · subst h48
        rw [if_pos (by cases sg <;> rfl), stripz_snoc0]
        exact st0_val sg x hx k p hl hp
      · have : c.toNat ≠ 48 := fun h => h48 (UInt8.toNat_inj.1 h)
        rw [if_neg (by cases sg <;> simp <;> omega), stripz_snoc p h48, e]
        simp [hl]
/-! ### the two are one -/
theorem dvn_strip : ∀ (r : List UInt8) (x : Int), (∀ c ∈ r, dg c = true) → 0 ≤ x → dvn x r ≤ dvn x (stripz r) * 10 ^ (r.length - (stripz r).length) ∧ 0 ≤ dvn x (stripz r) := by
  intro r
  generalize hk : r.length = k
  induction k generalizing r with
  | zero => 
    intro x _ hx
    have : r = [] := List.eq_nil_of_length_eq_zero hk
    subst this
    exact ⟨by simp [stripz], hx⟩
  | succ k ih =>
    intro x hd hx
    rcases snoc_cases r with rfl | ⟨p, c, rfl⟩
    · simp at hk
    · simp at hk
      have hp : ∀ c ∈ p, dg c = true := fun a ha => hd a (by simp [ha])
      by_cases h48 : c = 48
      · subst h48
        obtain ⟨i1, i2⟩ := ih p hk x hp hx
        rw [stripz_snoc0]
        refine ⟨?_, i2⟩
        have e : dvn x (p ++ [48]) = 10 * dvn x p := by rw [dvn_app]; show 10 * dvn x p + ((48 : Int) - 48) = _; omega
        have hlen := stripz_len p
        have e2 : k + 1 - (stripz p).length = (k - (stripz p).length) + 1 := by omega
        rw [e, e2, Int.pow_succ]
        have : dvn x (stripz p) * (10 ^ (k - (stripz p).length) * 10) = 10 * (dvn x (stripz p) * 10 ^ (k - (stripz p).length)) := by rw [← Int.mul_assoc, Int.mul_comm]
        omega
      · rw [stripz_snoc p h48]
        have hge := dvn_ge (n := x) hd hx
        refine ⟨by simp [hk], by omega⟩
theorem refEnd_some (below : Bool) (w r : List UInt8) (hw : ∀ c ∈ w, dg c = true) (hr : ∀ c ∈ r, dg c = true) (h6 : r.length ≤ 6) (hN : dvn (dvn 0 w) r ≤ 1000000000000000009) :
    refEnd below (some (dvn (dvn 0 w) r, r.length)) = some ((if 1000000000000 < dvn (dvn 0 w) (stripz r) then ((0, 0), false) else ((if below then -(dvn (dvn 0 w) (stripz r)) else dvn (dvn 0 w) (stripz r), ((stripz r).length : Int)), true) : PR).1, (if 1000000000000 < dvn (dvn 0 w) (stripz r) then ((0, 0), false) else ((if below then -(dvn (dvn 0 w) (stripz r)) else dvn (dvn 0 w) (stripz r), ((stripz r).length : Int)), true) : PR).2, ()) := by
  have h0 : (0 : Int) ≤ dvn 0 w := dvn_ge hw (Int.le_refl _)
  have h1 := dvn_ge (n := dvn 0 w) hr h0
  have h2 := dvn_ge (q := stripz r) (n := dvn 0 w) (fun c hc => hr c (stripz_mem hc)) h0
  have hsl := stripz_len r
  have hv := st0_val below (dvn 0 w) h0 r.length r rfl hr
  have key : ofS (if below then -(dvn (dvn 0 w) r) else dvn (dvn 0 w) r) r.length = (if 1000000000000 < dvn (dvn 0 w) (stripz r) then ((0, 0), false) else ((if below then -(dvn (dvn 0 w) (stripz r)) else dvn (dvn 0 w) (stripz r), ((stripz r).length : Int)), true) : PR) := by
    unfold ofS
    rw [hv]
    dsimp only
    by_cases hb : 1000000000000 < dvn (dvn 0 w) (stripz r)
    · rw [if_pos hb]
      cases below
      · rw [if_pos (.inr (.inl hb))]
      · rw [if_pos (.inr (.inr (by simp; omega)))]
    · rw [if_neg hb]
      cases below
      · rw [if_neg (by simp; omega)]
      · rw [if_neg (by simp; omega)]
  rw [← key]
  show ref12_Parse_m8 ref12_Parse_K9 below _ (r.length : Int) false 0 0 = _
  unfold ref12_Parse_m8
  rw [if_neg (by decide)]
  cases below
  · rw [if_neg (by decide)]
    unfold ref12_Parse_K9 ref12_Parse_m9
    rw [of_eq (by omega) (by omega) (by omega), Option.bind_some]
    rfl
  · rw [if_pos rfl, neg64 (by omega) (by omega)]
    unfold ref12_Parse_K9 ref12_Parse_m9
    rw [of_eq (by omega) (by omega) (by omega), Option.bind_some]
    rfl
theorem big_strip {w r : List UInt8} (hw : ∀ c ∈ w, dg c = true) (hr : ∀ c ∈ r, dg c = true) (h6 : r.length ≤ 6) (hN : 1000000000000000000 < dvn (dvn 0 w) r) : 1000000000000 < dvn (dvn 0 w) (stripz r) := by
  have h0 : (0 : Int) ≤ dvn 0 w := dvn_ge hw (Int.le_refl _)
  obtain ⟨h1, h2⟩ := dvn_strip r (dvn 0 w) hr h0
  have hp : (10 : Int) ^ (r.length - (stripz r).length) ≤ 10 ^ 6 := by
    have h' : r.length - (stripz r).length ≤ 6 := by omega
    generalize r.length - (stripz r).length = j at h'
    match j, h' with
    | 0, _ => decide
    | 1, _ => decide
    | 2, _ => decide
    | 3, _ => decide
    | 4, _ => decide
    | 5, _ => decide
    | 6, _ => decide
  have := Int.mul_le_mul_of_nonneg_left hp h2
  have e : (10 : Int) ^ 6 = 1000000 := by decide
  rw [e] at this
  omega
theorem refT (below : Bool) (t : List UInt8) : refEnd below (rf (decide (t[0]? = some 48)) t 0 false 0 0) = some ((parseT below t).1, (parseT below t).2, ()) := by
  -- the pieces
  have main : ∀ (w r : List UInt8) (pt : Bool) (tail : List UInt8), 46 ∉ w → (pt = false → r = [] ∧ tail = []) → (pt = true → tail = 46 :: r) → t = w ++ tail → refEnd below (rf (decide (t[0]? = some 48)) t 0 false 0 0) = some ((parsePieces below w r pt).1, (parsePieces below w r pt).2, ()) := by
    intro w r pt tail h46 hf ht he
    generalize hz : decide (t[0]? = some 48) = z
    obtain ⟨p1, p2⟩ := rf_whole (z := z) (tail := tail) (w := w) (n := 0) (ah := 0) h46 (Int.le_refl _)
    rw [← he] at p1 p2
    unfold parsePieces
    have hbadw : (digs w = false ∨ (1 < w.length ∧ w[0]? = some 48)) → rf z t 0 false 0 0 = none := fun h => by
      by_cases hw : w = []
      · subst hw
        simp at he
        subst he
        cases pt
        · rw [(hf rfl).2]; rfl
        · rw [ht rfl]
          unfold rf
          rw [if_neg (by simp), if_pos (.inl rfl)]
      · apply p2
        by_cases hall : ∀ c ∈ w, dg c = true
        · right
          have hd : digs w = true := digs_iff.2 ⟨hall, hw⟩
          rcases h with h | h
          · rw [hd] at h; cases h
          · refine ⟨?_, by omega, by omega, hw⟩
            rw [← hz, he]
            cases w with
            | nil => exact absurd rfl hw
            | cons a b => simpa using h.2
        · exact .inl hall
    by_cases hbw : digs w = false ∨ (1 < w.length ∧ w[0]? = some 48)
    · rw [if_pos hbw, hbadw hbw]
      rfl
    · rw [if_neg hbw]
      have hdw : digs w = true := by
        cases h : digs w
        · exact absurd (.inl h) hbw
        · rfl
      obtain ⟨hw, hwne⟩ := digs_iff.1 hdw
      have hwl : 0 < w.length := List.length_pos_iff.2 hwne
      have h0 : (0 : Int) ≤ dvn 0 w := dvn_ge hw (Int.le_refl _)
      obtain ⟨q1, q2⟩ := p1 hw (fun h => by
        refine hbw (.inr ⟨by have := h.2.2.1; omega, ?_⟩)
        have := h.1
        rw [← hz, he] at this
        cases w with
        | nil => exact absurd rfl hwne
        | cons a b => simpa using this)
      rw [Nat.zero_add] at q1 q2
      -- the end, when all are digits
      have fin : (∀ c ∈ r, dg c = true) → r.length ≤ 6 → ((rf z t 0 false 0 0 = none ∧ 1000000000000000000 < dvn (dvn 0 w) r) ∨ rf z t 0 false 0 0 = some (dvn (dvn 0 w) r, r.length)) → refEnd below (rf z t 0 false 0 0) = some ((if 1000000000000 < dvn (dvn 0 w) (stripz r) then ((0, 0), false) else ((if below then -(dvn (dvn 0 w) (stripz r)) else dvn (dvn 0 w) (stripz r), ((stripz r).length : Int)), true) : PR).1, (if 1000000000000 < dvn (dvn 0 w) (stripz r) then ((0, 0), false) else ((if below then -(dvn (dvn 0 w) (stripz r)) else dvn (dvn 0 w) (stripz r), ((stripz r).length : Int)), true) : PR).2, ()) := fun hr h6 h => by
        rcases h with ⟨h, hN⟩ | h
        · rw [h, if_pos (big_strip hw hr h6 hN)]
          rfl
        · have := rf_bound h (by decide)
          rw [h]
          exact refEnd_some below w r hw hr h6 this.1
      cases pt
      · obtain ⟨rfl, rfl⟩ := hf rfl
        rw [if_neg (by simp)]
        refine fin (fun c hc => by cases hc) (by simp) ?_
        have e : rf z [] (dvn 0 w) false 0 w.length = some (dvn 0 w, 0) := by
          unfold rf
          rw [if_neg (by simp; omega)]
        rw [e] at q1 q2
        by_cases hN : dvn 0 w ≤ 1000000000000000000
        · exact .inr (q2 hN)
        · rcases q1 with h | h
          · exact .inl ⟨h, by rw [dvn_nil]; omega⟩
          · exact .inr h
      · have htl := ht rfl
        subst htl
        have e : rf z (46 :: r) (dvn 0 w) false 0 w.length = rf z r (dvn 0 w) true 0 w.length := by
          conv => lhs; unfold rf
          rw [if_pos ⟨rfl, rfl, hwl⟩]
        rw [e] at q1 q2
        obtain ⟨f1, f2⟩ := rf_frac (z := z) (r := r) (n := dvn 0 w) (bh := 0) (ah := w.length) hwl h0
        rw [Nat.zero_add] at f1
        have nn : rf z r (dvn 0 w) true 0 w.length = none → rf z t 0 false 0 0 = none := fun h => by
          rcases q1 with h' | h'
          · exact h'
          · rw [h', h]
        by_cases hr : digs r = false ∨ 6 < r.length
        · rw [if_pos ⟨rfl, hr⟩]
          have : rf z t 0 false 0 0 = none := by
            apply nn
            by_cases hall : ∀ c ∈ r, dg c = true
            · obtain ⟨g1, g2⟩ := f1 hall
              have hc : r.length = 0 ∨ 6 < r.length := by
                rcases hr with hr | hr
                · left
                  by_cases hne : r = []
                  · simp [hne]
                  · rw [digs_iff.2 ⟨hall, hne⟩] at hr; cases hr
                · exact .inr hr
              rw [if_pos hc] at g1
              exact g1.elim id id
            · exact f2 hall
          rw [this]
          rfl
        · rw [if_neg (fun h => hr h.2)]
          have hdr : digs r = true := by
            cases h : digs r
            · exact absurd (.inl h) hr
            · rfl
          obtain ⟨hrd, hrne⟩ := digs_iff.1 hdr
          have h6 : r.length ≤ 6 := by omega
          have hpos : 0 < r.length := List.length_pos_iff.2 hrne
          obtain ⟨g1, g2⟩ := f1 hrd
          rw [if_neg (by omega)] at g1 g2
          have hge := dvn_ge (n := dvn 0 w) hrd h0
          refine fin hrd h6 ?_
          by_cases hN : dvn (dvn 0 w) r ≤ 1000000000000000000
          · right
            rw [q2 (by omega), g2 hN]
          · rcases g1 with h | h
            · exact .inl ⟨nn h, by omega⟩
            · rcases q1 with h' | h'
              · exact .inl ⟨h', by omega⟩
              · right
                rw [h', h]
  rcases split_at 46 t with h46 | ⟨p, q, e, h46⟩
  · rw [parseT_no h46]
    exact main t [] false [] h46 (fun _ => ⟨rfl, rfl⟩) (fun h => by cases h) (by simp)
  · rw [e, parseT_yes h46, ← e]
    exact main p q true (46 :: q) h46 (fun h => by cases h) (fun _ => rfl) e
theorem refParse_eq {s : List UInt8} (hl : s.length < 1000000) : ref12_Parse (s, ()) = some ((parseS s).1, (parseS s).2, ()) := by
  have go : ∀ (t : List UInt8) (below : Bool), t.length < 1000000 → ref12_Parse_K2 t below 0 0 = some ((parseT below t).1, (parseT below t).2, ()) := fun t below ht => by
    rw [← refT]
    have := ref_loop t below ht 18446744073709551616 (t, below, 0, false, 0, 0, 0, 0, 0) ⟨0, false, 0, 0, 0, rfl, by omega, by omega, by omega, by omega⟩ (by simp; omega)
    exact this
  show ref12_Parse_m0 ref12_Parse_K1 s = _
  unfold ref12_Parse_m0
  cases s with
  | nil =>
    rw [if_neg (by decide)]
    exact go [] false (by simp)
  | cons a q =>
    rw [if_pos (by rw [gt_iff, ofNat_eq]; simp), at_zero, Option.bind_some]
    by_cases ha : a = 45
    · rw [(eqi_byte 45).2 ha]
      unfold ref12_Parse_K1 ref12_Parse_m1
      rw [if_pos rfl, cut_one, Option.bind_some]
      have : parseS (a :: q) = parseT true q := by simp [parseS, ha]
      rw [this]
      exact go q true (by simp at hl; omega)
    · have : eqi (Int.ofNat a.toNat) 45 = false := by
        cases h : eqi (Int.ofNat a.toNat) 45
        · rfl
        · exact absurd ((eqi_byte 45).1 h) ha
      rw [this]
      unfold ref12_Parse_K1 ref12_Parse_m1
      rw [if_neg (by decide)]
      have : parseS (a :: q) = parseT false (a :: q) := by simp [parseS, ha]
      rw [this]
      exact go (a :: q) false hl
end Go.Proofs.Lx

end

section
/- Lex, as the document has it: tokens, lines, texts. -/
namespace Go.Proofs.Lx
open Go Ev Sx Pl
set_option maxRecDepth 10000
abbrev Tk1 := Int × List UInt8 × (Int × Int) × Int
def kd (c : UInt8) : Int := if w1 c.toNat then 1 else if n1 c.toNat then 2 else if e1 c.toNat then 3 else 0
theorem excl3 (c : UInt8) : (w1 c.toNat = true → n1 c.toNat = false ∧ e1 c.toNat = false) ∧ (n1 c.toNat = true → e1 c.toNat = false) := by
  have := all8 (p := fun n => (!(w1 n) || (!(n1 n) && !(e1 n))) && (!(n1 n) || !(e1 n))) (by kernel_rfl) c
  constructor
  · intro h; simp [h] at this; exact this.1
  · intro h; simp [h] at this; exact this.2
theorem amb_kind (j2 : Int → TL → Option RL) (j3 : Int → List UInt8 → TL → Int → List UInt8 → Int → Int → Int → Option RL) (self1 : Int → List UInt8 → TL → Option RL) (a : Int) (t : List UInt8) (c : UInt8) (q : List UInt8) (l : TL)
    (ht : strings_TrimLeft (t, [9, 13, 32], ()) = some (c :: q, ())) : lex_line_m1 j2 j3 self1 a t l = j3 a (c :: q) l (kd c) [] 0 0 a := by
  have e4 : eqs (c :: q) [] = false := rfl
  have hr : ∀ x, eqAs lex_line_s.rs x x = true := eqAs_refl _
  obtain ⟨x1, x2⟩ := excl3 c
  unfold lex_line_m1 kd
  rw [ht, Option.bind_some]
  have e1 : lex_classes_c1 (Int.ofNat c.toNat, ()) = some (w1 c.toNat, ()) := lex_classes_c1_eq c
  have e2 : lex_classes_c3 (Int.ofNat c.toNat, ()) = some (n1 c.toNat, ()) := lex_classes_c3_eq c
  have e3 : lex_classes_c5 (Int.ofNat c.toNat, ()) = some (Lx.e1 c.toNat, ()) := lex_classes_c5_eq c
  simp only [e4, Bool.false_eq_true, if_false, at_zero, Option.bind_some]
  rw [e1, e2, e3]
  simp only [Option.bind_some]
  cases hw : w1 c.toNat
  · cases hn : n1 c.toNat
    · cases he : Lx.e1 c.toNat
      · simp only [Bool.false_eq_true, if_false, if_true]
        rw [amb2 hr]
        exact amb3 hr _
      · simp only [Bool.false_eq_true, if_false, if_true]
        rw [amb2 hr]
        exact amb3 hr _
    · have he := x2 hn
      rw [he]
      simp only [Bool.false_eq_true, if_false, if_true]
      rw [amb2 hr]
      exact amb3 hr _
  · obtain ⟨hn, he⟩ := x1 hw
    rw [hn, he]
    simp only [Bool.false_eq_true, if_false, if_true]
    rw [amb2 hr]
    exact amb3 hr _
/-- the rest of a token -/
def moreK (k : Int) (n : Nat) : Bool := if k = 1 then wm n else if k = 2 then nm n else false
theorem c1n_step (g : Int → List UInt8 → Option (As [.str, .str])) (n : Int) (t : List UInt8) : lex_line_c1_n_m1 (lex_line_c1_n_K2 g) g n t = if lt n (Int.ofNat t.length) = true then (at? t n).bind fun c => (lex_classes_c4 (Int.ofNat c.toNat, ())).bind fun y => if y.1 = true then g (add .i64 n 1) t else lex_line_c1_n_m3 n t else lex_line_c1_n_m3 n t := rfl
theorem c1n_app (p q : List UInt8) : lex_line_c1_n_m3 (p.length : Int) (p ++ q) = some (p, q, ()) := by
  unfold lex_line_c1_n_m3
  rw [cut_app0, Option.bind_some, cut_app1, Option.bind_some]
theorem c1n_loop : ∀ (q p : List UInt8) (n : Nat), q.length < n → p.length + q.length < 1000000 →
    loopF (fun (self : Int × List UInt8 → Option (As [.str, .str])) (s : Int × List UInt8) => lex_line_c1_n_m1 (lex_line_c1_n_K2 (fun n t1 => self (n, t1))) (fun n t1 => self (n, t1)) s.1 s.2) n ((p.length : Int), p ++ q) =
      some (p ++ q.takeWhile (fun c => nm c.toNat), q.dropWhile (fun c => nm c.toNat), ())
  | q, p, 0, h, _ => by omega
  | [], p, n + 1, h, hl => by
    have h1 : lt (p.length : Int) (Int.ofNat (p ++ []).length) = false := by simp [lt]
    refine (c1n_step _ _ _).trans ?_
    rw [if_neg (by rw [h1]; decide), c1n_app]
    simp
  | c :: q, p, n + 1, h, hl => by
    have h1 : lt (p.length : Int) (Int.ofNat (p ++ c :: q).length) = true := by simp [lt]; omega
    have ih := c1n_loop q (p ++ [c]) n (by simp at h; omega) (by simp at hl ⊢; omega)
    refine (c1n_step _ _ _).trans ?_
    rw [if_pos h1, at_app, Option.bind_some, lex_classes_c4_eq, Option.bind_some]
    cases hb : nm c.toNat
    · simp only [Bool.false_eq_true, if_false, c1n_app, List.takeWhile_cons, List.dropWhile_cons, hb, List.append_nil]
    · have ha : add .i64 (p.length : Int) 1 = ((p ++ [c]).length : Int) := by
        unfold add
        rw [w64 (by omega) (by simp at hl; omega)]
        simp
      have e : p ++ c :: q = (p ++ [c]) ++ q := by simp
      simp only [if_true, ha, List.takeWhile_cons, List.dropWhile_cons, hb]
      rw [e, ih]
      simp
theorem c1n_eq (c : UInt8) (q : List UInt8) (h : q.length < 100000) : lex_line_c1_n (c :: q, ()) = some (c :: q.takeWhile (fun c => nm c.toNat), q.dropWhile (fun c => nm c.toNat), ()) :=
  c1n_loop q [c] 18446744073709551616 (by omega) (by simp; omega)
theorem c1e_eq (c : UInt8) (q : List UInt8) : lex_line_c1_e (c :: q, ()) = some ([c], q, ()) := by
  have hm3 : lex_line_c1_e_m3 1 (c :: q) = some ([c], q, ()) := by
    unfold lex_line_c1_e_m3
    have h1 : cut (c :: q) 0 1 = some [c] := cut_app0 [c] q
    rw [h1, Option.bind_some, cut_one, Option.bind_some]
  have step : ∀ (g : Int → List UInt8 → Option (As [.str, .str])), lex_line_c1_e_m1 (lex_line_c1_e_K2 g) g 1 (c :: q) = some ([c], q, ()) := fun g => by
    unfold lex_line_c1_e_m1
    have hK : lex_line_c1_e_K2 g 1 false (c :: q) = some ([c], q, ()) := by
      unfold lex_line_c1_e_K2 lex_line_c1_e_m2
      rw [if_neg (by decide)]
      exact hm3
    have hf : ∀ x, lex_classes_c6 (x, ()) = some (false, ()) := fun x => rfl
    cases q with
    | nil => rw [if_neg (by simp [lt])]; exact hK
    | cons d r =>
      rw [if_pos (by rw [lt_iff, ofNat_eq]; simp; omega), show at? (c :: d :: r) 1 = some d from rfl, Option.bind_some, hf, Option.bind_some]
      exact hK
  exact step _
/-- a token, and what is behind it; or what is wrong -/
def tokS (a : Int) (c : UInt8) (q : List UInt8) : Int ⊕ (Tk1 × List UInt8) :=
  if w1 c.toNat then (if 20 < (c :: q.takeWhile (fun c => wm c.toNat)).length then .inl 133 else .inr ((1, c :: q.takeWhile (fun c => wm c.toNat), (0, 0), a), q.dropWhile (fun c => wm c.toNat)))
  else if n1 c.toNat then (if (parseS (c :: q.takeWhile (fun c => nm c.toNat))).2 = true then .inr ((2, c :: q.takeWhile (fun c => nm c.toNat), (parseS (c :: q.takeWhile (fun c => nm c.toNat))).1, a), q.dropWhile (fun c => nm c.toNat)) else .inl 132)
  else if e1 c.toNat then .inr ((3, [c], (0, 0), a), q)
  else .inl 131
theorem tokS_len {a : Int} {c : UInt8} {q : List UInt8} {t : Tk1} {r : List UInt8} (h : tokS a c q = .inr (t, r)) : r.length ≤ q.length := by
  have hd : ∀ p : UInt8 → Bool, (q.dropWhile p).length ≤ q.length := fun p => (List.dropWhile_suffix p).length_le
  unfold tokS at h
  split at h
  · split at h
    · cases h
    · cases h; exact hd _
  · split at h
    · split at h
      · cases h; exact hd _
      · cases h
    · split at h
      · cases h; exact Nat.le_refl _
      · cases h
theorem line_tok (self : Int × List UInt8 × TL → Option RL) (a : Int) (t : List UInt8) (c : UInt8) (q : List UInt8) (l : TL) (ht : strings_TrimLeft (t, [9, 13, 32], ()) = some (c :: q, ())) (hq : q.length < 100000) (hl : l.length < 1000000) :
    lineB self (a, t, l) = match tokS a c q with
      | .inl e => some ([], e, ())
      | .inr (tk, r) => self (a, r, l ++ [tk]) := by
  refine (amb_kind _ _ _ a t c q l ht).trans ?_
  have hs : small (l.length + 1) = true := small_iff.2 (by omega)
  unfold lex_line_K3 lex_line_m3 kd tokS
  cases hw : w1 c.toNat
  · cases hn : n1 c.toNat
    · cases he : Lx.e1 c.toNat
      · rfl
      · simp only [Bool.false_eq_true, if_false, if_true]
        rw [if_neg (by decide), if_neg (by decide), if_pos (by decide), c1e_eq, Option.bind_some]
        unfold lex_classes_c7 lex_classes_c7_m0
        simp only [Option.bind_some]
        rw [if_neg (by decide), need_t hs]
    · simp only [Bool.false_eq_true, if_false, if_true]
      rw [if_neg (by decide), if_pos (by decide), c1n_eq c q hq, Option.bind_some]
      have hlen : (c :: q.takeWhile (fun c => nm c.toNat)).length < 1000000 := by
        have := (List.takeWhile_prefix (l := q) (fun c => nm c.toNat)).length_le
        simp; omega
      generalize c :: q.takeWhile (fun c => nm c.toNat) = u at hlen ⊢
      unfold lex_number lex_number_m0
      simp only
      rw [parse_eq hlen, Option.bind_some]
      cases hp : (parseS u).2
      · simp only [Bool.not_false, if_true, Option.bind_some, Bool.false_eq_true, if_false]
        rw [if_pos (by decide)]
      · simp only [Bool.not_true, if_true, Option.bind_some, Bool.false_eq_true, if_false]
        rw [if_neg (by decide), need_t hs]
  · simp only [if_true]
    rw [if_pos (by decide), lex_line_c1_eq c q hq, Option.bind_some]
    generalize c :: q.takeWhile (fun c => wm c.toNat) = u
    unfold lex_word lex_word_m0
    by_cases h : 20 < u.length
    · have h2 : gt (Int.ofNat u.length) 20 = true := by simp [gt]; omega
      simp only [h2, if_true, Option.bind_some, if_pos h]
      rw [if_pos (by decide)]
    · have h2 : gt (Int.ofNat u.length) 20 = false := by simp [gt]; omega
      simp only [h2, Bool.false_eq_true, if_false, Option.bind_some, if_neg h]
      rw [if_neg (by decide), need_t hs]
/-- the tokens of what is left of a line -/
def lineT (a : Int) (s : List UInt8) (l : TL) : TL × Int :=
  match h : s.dropWhile (fun c => isB c.toNat) with
  | [] => (if l = [] then [] else l ++ [(4, [], (0, 0), a)], 0)
  | c :: q => match h2 : tokS a c q with
    | .inl e => ([], e)
    | .inr (t, r) => lineT a r (l ++ [t])
termination_by s.length
decreasing_by
  have h1 := tokS_len h2
  have h3 := (List.dropWhile_suffix (l := s) (fun c => isB c.toNat)).length_le
  rw [h] at h3
  simp at h3
  omega
theorem lineT_nil {a : Int} {s : List UInt8} {l : TL} (h : s.dropWhile (fun c => isB c.toNat) = []) : lineT a s l = (if l = [] then [] else l ++ [(4, [], (0, 0), a)], 0) := by
  rw [lineT]
  split
  · rfl
  · rename_i h2; rw [h] at h2; cases h2
theorem lineT_err {a : Int} {s : List UInt8} {l : TL} {c : UInt8} {q : List UInt8} {e : Int} (h : s.dropWhile (fun c => isB c.toNat) = c :: q) (h2 : tokS a c q = .inl e) : lineT a s l = ([], e) := by
  rw [lineT]
  split
  · rename_i h3; rw [h] at h3; cases h3
  · rename_i c' q' h3
    rw [h] at h3
    cases h3
    split
    · rename_i e' h4; rw [h2] at h4; cases h4; rfl
    · rename_i h4; rw [h2] at h4; cases h4
theorem lineT_tok {a : Int} {s : List UInt8} {l : TL} {c : UInt8} {q : List UInt8} {t : Tk1} {r : List UInt8} (h : s.dropWhile (fun c => isB c.toNat) = c :: q) (h2 : tokS a c q = .inr (t, r)) : lineT a s l = lineT a r (l ++ [t]) := by
  rw [lineT]
  split
  · rename_i h3; rw [h] at h3; cases h3
  · rename_i c' q' h3
    rw [h] at h3
    cases h3
    split
    · rename_i e' h4; rw [h2] at h4; cases h4
    · rename_i t' r' h4; rw [h2] at h4; cases h4; rfl
theorem line_loop : ∀ (n : Nat) (st : Int × List UInt8 × TL), (st.2.1.length < 90000 ∧ st.2.2.length + st.2.1.length < 100000) → st.2.1.length < n → loopF lineB n st = some ((lineT st.1 st.2.1 st.2.2).1, (lineT st.1 st.2.1 st.2.2).2, ()) := by
  refine loopF_eq (σ := Int × List UInt8 × TL) (μ := fun st => st.2.1.length) (G := fun st => some ((lineT st.1 st.2.1 st.2.2).1, (lineT st.1 st.2.1 st.2.2).2, ())) ?_
  rintro self ⟨a, s, l⟩ ⟨h1, h2⟩ ih
  simp only at h1 h2 ih ⊢
  have h3 := (List.dropWhile_suffix (l := s) (fun c => isB c.toNat)).length_le
  have ht := strings_TrimLeft_eq (s := s) (by omega)
  cases hd : s.dropWhile (fun c => isB c.toNat) with
  | nil =>
    rw [lineT_nil hd]
    rw [hd] at ht
    show lex_line_m1 _ _ _ a s l = _
    unfold lex_line_m1
    rw [ht, Option.bind_some, if_pos (by decide)]
    unfold lex_line_K2 lex_line_m2
    cases l with
    | nil => rfl
    | cons x y =>
      rw [if_pos (by rw [gt_iff, ofNat_eq]; simp), need_small (by simp at h2 ⊢; omega)]
      rfl
  | cons c q =>
    rw [hd] at ht h3
    simp at h3
    rw [line_tok self a s c q l ht (by omega) (by omega)]
    cases h4 : tokS a c q with
    | inl e => rw [lineT_err hd h4]
    | inr p =>
      obtain ⟨t, r⟩ := p
      rw [lineT_tok hd h4]
      have h5 := tokS_len h4
      exact ih (a, r, l ++ [t]) ⟨by show r.length < _; omega, by show (l ++ [t]).length + r.length < _; simp; omega⟩ (by show r.length < _; omega)
/-- what is ahead of a comment -/
def uncom (s : List UInt8) : List UInt8 := s.takeWhile (· != 35)
theorem line_eq (s : List UInt8) (n : Int) (h : s.length < 80000) : lex_line (s, n, ()) = some ((lineT n (uncom s) []).1, (lineT n (uncom s) []).2, ()) := by
  show lex_line_m0 lex_line_K1 s n = _
  unfold lex_line_m0
  have go : ∀ t : List UInt8, t.length < 80000 → lex_line_K1 n t [] = some ((lineT n t []).1, (lineT n t []).2, ()) := fun t ht => line_loop 18446744073709551616 (n, t, []) ⟨by show t.length < _; omega, by show ([] : TL).length + t.length < _; simp; omega⟩ (by show t.length < _; omega)
  by_cases he : s = [35]
  · subst he
    rw [if_pos (by decide), show cut ([35] : List UInt8) 1 (Int.ofNat [(35 : UInt8)].length) = some [] from rfl, Option.bind_some]
    exact go [] (by simp)
  · rw [if_neg (by rw [eqs_iff]; exact fun h => he h.symm)]
    rcases split_at 35 s with h35 | ⟨p, q, rfl, h35⟩
    · rw [index_no 35 s h35, if_neg (by decide)]
      have : uncom s = s := (tw_no h35).1
      rw [this]
      exact go s h
    · simp at h
      rw [index_yes 35 p q h35, if_pos (by rw [ge_iff]; omega), cut_app0, Option.bind_some, succ64 (by omega), cut_from (by simp), Option.bind_some]
      have : uncom (p ++ 35 :: q) = p := (tw_yes h35).1
      rw [this]
      exact go p (by omega)
end Go.Proofs.Lx

end

section
/- LexKinds, as a plain law. -/
namespace Go.Proofs.Lx
open Go Ev Sx Pl
set_option maxRecDepth 10000
abbrev LR := As [.sl (.pr (.int .u8) (.pr .str (.pr (.pr (.int .i64) (.int .u8)) (.int .i64)))), .pr (.int .i64) (.int .i64)]
abbrev lexB (self : (List UInt8) × Int × Int × Int × TL → Option LR) (s : (List UInt8) × Int × Int × Int × TL) : Option LR :=
  lex_Lex_m1 (lex_Lex_K2) (fun text n t3 t3_2 l => self (text, n, t3, t3_2, l)) s.1 s.2.1 s.2.2.1 s.2.2.2.1 s.2.2.2.2
theorem lex_step (self : (List UInt8) × Int × Int × Int × TL → Option LR) (t : List UInt8) (n : Int) (l : TL) (hne : t ≠ []) (h10 : ∀ b ∈ t, b ≠ 10) {tk : TL} {e : Int} (h : lex_line (t, n, ()) = some (tk, e, ())) :
    lexB self (t, n, 0, 0, l) = if nei e 0 = true then some ([], (e, n), ()) else need (small (l.length + tk.length)) (self ([], add .i64 n 1, 0, 0, l ++ tk)) := by
  show lex_Lex_m1 _ _ t n 0 0 l = _
  unfold lex_Lex_m1
  have e1 : nes t [] = true := by simp [nes, hne]
  have e2 : eqs [10] t = false := by
    cases t with
    | nil => exact absurd rfl hne
    | cons a q =>
      have := h10 a (List.mem_cons_self ..)
      simp [eqs]
      intro e
      exact absurd e.symm this
  have e3 : ge (Go.Lib.indexByte t 10) 0 = false := by rw [index_nb 10 t h10]; rfl
  simp only [e1, e2, e3, Bool.false_eq_true, if_false, if_true]
  rw [h, Option.bind_some]
theorem lex_end (self : (List UInt8) × Int × Int × Int × TL → Option LR) (n : Int) (l : TL) : lexB self ([], n, 0, 0, l) = some (l, (0, 0), ()) := rfl
theorem lex_in (t : List UInt8) : lex_Lex_K1 t 1 0 0 [] = loopF lexB (18446744073709551614 + 1 + 1) (t, 1, 0, 0, []) := rfl
theorem lex_one {t : List UInt8} (hne : t ≠ []) (h10 : ∀ b ∈ t, b ≠ 10) (hl : t.length ≤ 8192) {tk : TL} {e : Int} (h : lex_line (t, 1, ()) = some (tk, e, ())) (htk : tk.length < 1000) :
    lex_Lex (t, ()) = if nei e 0 = true then some ([], (e, 1), ()) else some (tk, (0, 0), ()) := by
  show lex_Lex_m0 lex_Lex_K1 t = _
  unfold lex_Lex_m0
  have e1 : gt (Int.ofNat t.length) 8192 = false := by simp [gt]; omega
  simp only [e1, Bool.false_eq_true, if_false]
  rw [lex_in, loopF_succ, lex_step _ t 1 [] hne h10 h]
  split
  · rfl
  · have h4 : small (([] : TL).length + tk.length) = true := decide_eq_true (by simp; omega)
    rw [need, if_pos h4, loopF_succ, lex_end, List.nil_append]
theorem lex1 {w : List UInt8} (h : Word w) : lex_Lex (w, ()) = if 20 < w.length then some ([], (133, 1), ()) else some ([(1, w, (0, 0), 1), (4, [], (0, 0), 1)], (0, 0), ()) := by
  have hne : w ≠ [] := by obtain ⟨c, q, rfl, _⟩ := h.first; simp
  have hl := h.len
  by_cases h20 : 20 < w.length
  · have := line1 h 1
    rw [if_pos h20] at this
    rw [lex_one hne h.no.2 (by omega) this (by simp), if_pos h20]
    rfl
  · have := line1 h 1
    rw [if_neg h20] at this
    rw [lex_one hne h.no.2 (by omega) this (by simp), if_neg h20]
    rfl
theorem lex2 {u w : List UInt8} (hu : Word u) (hw : Word w) (h1 : u.length ≤ 20) (h2 : w.length ≤ 20) : lex_Lex (u ++ 32 :: w, ()) = some ([(1, u, (0, 0), 1), (1, w, (0, 0), 1), (4, [], (0, 0), 1)], (0, 0), ()) := by
  rw [lex_one (by simp) (fun b hb => by
    rcases List.mem_append.1 hb with hb | hb
    · exact hu.no.2 b hb
    · rcases List.mem_cons.1 hb with hb | hb
      · subst hb; decide
      · exact hw.no.2 b hb) (by simp; omega) (line2 hu hw h1 h2 1) (by simp)]
  rfl
theorem same1 (w : List UInt8) : law13_same ([(1, w, (0, 0), 1), (4, [], (0, 0), 1)], [(1, w, (0, 0), 1), (4, [], (0, 0), 1)], ()) = some (true, ()) := by
  have e : eqs w w = true := by simp [eqs]
  have e2 : eqi 1 1 = true := rfl
  have s1 : ∀ g : TL → TL → Int → Int → Option (As [.bool]), law13_same_m1 g [(1, w, (0, 0), 1), (4, [], (0, 0), 1)] [(1, w, (0, 0), 1), (4, [], (0, 0), 1)] 2 0 = if (!(eqs w w && true)) = true then some (false, ()) else g [(1, w, (0, 0), 1), (4, [], (0, 0), 1)] [(1, w, (0, 0), 1), (4, [], (0, 0), 1)] 2 1 := fun g => by
    unfold law13_same_m1
    rw [if_pos (show lt 0 2 = true from rfl)]
    rw [show at? ([(1, w, (0, 0), 1), (4, [], (0, 0), 1)] : TL) 0 = some (1, w, (0, 0), 1) from rfl, Option.bind_some, Option.bind_some]
    rfl
  refine (s1 (fun a b x y => loopF (fun self s => law13_same_m1 (fun a b x y => self (a, b, x, y)) s.1 s.2.1 s.2.2.1 s.2.2.2) 18446744073709551615 (a, b, x, y))).trans ?_
  rw [e]
  rfl
/-- a byte of the law's words -/
theorem pick_wm {c : UInt8} (h : c ∈ ([97, 98, 122, 65, 90, 37, 48, 57, 95] : List UInt8)) : wm c.toNat = true := by
  simp at h
  rcases h with rfl | rfl | rfl | rfl | rfl | rfl | rfl | rfl | rfl <;> rfl
theorem cut_pick {y : Int} (h0 : 0 ≤ y) (h1 : y ≤ 255) : ∃ c, cut ([97, 98, 122, 65, 90, 37, 48, 57, 95] : List UInt8) (rem (cvt .i64 y) 9) (add .i64 (rem (cvt .i64 y) 9) 1) = some [c] ∧ wm c.toNat = true := by
  have hc : cvt .i64 y = y := w64 (by omega) (by omega)
  rw [hc]
  obtain ⟨k, hk⟩ : ∃ k : Nat, y.tmod 9 = k ∧ k < 9 := ⟨(y.tmod 9).toNat, by have := Int.tmod_nonneg 9 h0; have := Int.tmod_lt_of_pos y (show (0 : Int) < 9 by decide); omega⟩
  unfold rem
  rw [hk.1]
  have ha : add .i64 (k : Int) 1 = ((k + 1 : Nat) : Int) := by unfold add; rw [w64 (by omega) (by omega)]; simp
  rw [ha]
  have : ∀ k, k < 9 → ∃ c, cut ([97, 98, 122, 65, 90, 37, 48, 57, 95] : List UInt8) ((k : Nat) : Int) ((k + 1 : Nat) : Int) = some [c] ∧ wm c.toNat = true := by
    intro k hk
    match k, hk with
    | 0, _ => exact ⟨97, rfl, rfl⟩
    | 1, _ => exact ⟨98, rfl, rfl⟩
    | 2, _ => exact ⟨122, rfl, rfl⟩
    | 3, _ => exact ⟨65, rfl, rfl⟩
    | 4, _ => exact ⟨90, rfl, rfl⟩
    | 5, _ => exact ⟨37, rfl, rfl⟩
    | 6, _ => exact ⟨48, rfl, rfl⟩
    | 7, _ => exact ⟨57, rfl, rfl⟩
    | 8, _ => exact ⟨95, rfl, rfl⟩
  exact this k hk.2
theorem Word.snoc {w : List UInt8} (h : Word w) {c : UInt8} (hc : wm c.toNat = true) (hl : w.length < 900) : Word (w ++ [c]) := by
  obtain ⟨c0, q, rfl, h1⟩ := h.first
  exact ⟨fun b hb => by
    rcases List.mem_append.1 hb with hb | hb
    · exact h.all b hb
    · simp at hb; subst hb; exact hc, ⟨c0, q ++ [c], rfl, h1⟩, by simp at hl ⊢; omega⟩
theorem law13_LexKinds_step (g : Bool → List UInt8 → List Int → Int → Int → Option (As [.bool])) (b : Bool) (w : List UInt8) (xs : List Int) (m k : Int) : law13_LexKinds_m1 (law13_LexKinds_K2) g b w xs m k = if lt k m = true then (at? xs k).bind fun y => (cut ([97, 98, 122, 65, 90, 37, 48, 57, 95] : List UInt8) (rem (cvt .i64 y) 9) (add .i64 (rem (cvt .i64 y) 9) 1)).bind fun y => need (small (w.length + y.length)) (g b (w ++ y) xs m (add .i64 k 1)) else law13_LexKinds_K2 b w := rfl
theorem K1_true (P : Bool → List UInt8 → Prop) (b : Bool) (xs : List Int) (hx : ∀ x ∈ xs, 0 ≤ x ∧ x ≤ 255) (hxl : xs.length ≤ 40) (hK : ∀ w, Word w → law13_LexKinds_K2 b w = some (true, ())) :
    ∀ (k : Nat) (w : List UInt8) (n : Nat), Word w → w.length ≤ 50 + (xs.length - k) * 0 + k → k ≤ xs.length → xs.length - k < n →
      loopF (fun (self : (Bool) × (List UInt8) × (List Int) × (Int) × (Int) → Option (As [.bool])) (s : (Bool) × (List UInt8) × (List Int) × (Int) × (Int)) => law13_LexKinds_m1 (law13_LexKinds_K2) (fun blank word t19 t20 t21 => self (blank, word, t19, t20, t21)) s.1 s.2.1 s.2.2.1 s.2.2.2.1 s.2.2.2.2) n (b, w, xs, Int.ofNat xs.length, (k : Int)) = some (true, ())
  | k, w, 0, hw, hwl, hk, hn => by omega
  | k, w, n + 1, hw, hwl, hk, hn => by
    rw [loopF_succ, law13_LexKinds_step]
    by_cases hlt : k < xs.length
    · have e1 : lt (k : Int) (Int.ofNat xs.length) = true := by simp [lt]; omega
      have e2 : at? xs (k : Int) = some xs[k] := by simp [at?, hlt]
      obtain ⟨c, hc, hwm⟩ := cut_pick (hx xs[k] (List.getElem_mem hlt)).1 (hx xs[k] (List.getElem_mem hlt)).2
      have e3 : small (w.length + [c].length) = true := decide_eq_true (by simp; omega)
      have e4 : add .i64 (k : Int) 1 = ((k + 1 : Nat) : Int) := by unfold add; rw [w64 (by omega) (by omega)]; simp
      rw [if_pos e1, e2, Option.bind_some, hc, Option.bind_some, need, if_pos e3, e4]
      exact K1_true P b xs hx hxl hK (k + 1) (w ++ [c]) n (hw.snoc hwm (by omega)) (by simp; omega) (by omega) (by omega)
    · have e1 : lt (k : Int) (Int.ofNat xs.length) = false := by simp [lt]; omega
      rw [if_neg (by rw [e1]; decide)]
      exact hK w hw
theorem K2_true (b : Bool) {w : List UInt8} (hw : Word w) : law13_LexKinds_K2 b w = some (true, ()) := by
  have hlen := hw.len
  have hend : law13_LexKinds_K8 false = some (true, ()) := by
    unfold law13_LexKinds_K8 law13_LexKinds_m8
    rw [awake13]
    rfl
  have h7 : ∀ (t : List UInt8) (want : Int) (tk : TL) (e : Int × Int), lex_Lex (t, ()) = some (tk, e, ()) → (20 < t.length ∨ (e.1 = 0 ∧ (tk.length : Int) = want)) → law13_LexKinds_K7 t want = some (true, ()) := fun t want tk e h1 h2 => by
    unfold law13_LexKinds_K7 law13_LexKinds_m7
    rw [h1, Option.bind_some]
    by_cases hl : t.length ≤ 20
    · have e1 : le (Int.ofNat t.length) 20 = true := by simp [le]; omega
      rcases h2 with h2 | ⟨h2, h3⟩
      · omega
      · have e2 : nei e.1 0 = false := by simp [nei, h2]
        have e3 : nei (Int.ofNat tk.length) want = false := by simp [nei, ← h3]
        simp only [e1, e2, e3, if_true, Bool.false_eq_true, if_false]
        exact hend
    · have e1 : le (Int.ofNat t.length) 20 = false := by simp [le]; omega
      simp only [e1, Bool.false_eq_true, if_false]
      exact hend
  have h5 : law13_LexKinds_K5 b w = some (true, ()) := by
    have hq : quo .i64 (Int.ofNat w.length) 2 = ((w.length / 2 : Nat) : Int) := by
      unfold quo
      have : (Int.ofNat w.length).tdiv 2 = ((w.length / 2 : Nat) : Int) := by simp [Int.ofNat_tdiv]
      rw [this, w64 (by omega) (by omega)]
    have h6 : ∀ x, law13_LexKinds_K6 b w ((w.length / 2 : Nat) : Int) x = some (true, ()) ∨ x = true := fun x => by
      cases x
      · left
        unfold law13_LexKinds_K6 law13_LexKinds_m6
        rw [if_neg (by decide), awake13]
        rfl
      · exact .inr rfl
    have h6f : law13_LexKinds_K6 b w ((w.length / 2 : Nat) : Int) false = some (true, ()) := (h6 false).resolve_right (by decide)
    unfold law13_LexKinds_K5 law13_LexKinds_m5
    rw [hq]
    by_cases h0 : 0 < w.length / 2
    · have e1 : gt ((w.length / 2 : Nat) : Int) 0 = true := by simp [gt]; omega
      rw [if_pos e1]
      by_cases h20 : w.length ≤ 20
      · have e2 : le (Int.ofNat w.length) 20 = true := by simp [le]; omega
        rw [e2]
        obtain ⟨u, v, huv, hu⟩ : ∃ u v, w = u ++ v ∧ u.length = w.length / 2 := ⟨w.take (w.length / 2), w.drop (w.length / 2), by simp, by simp; omega⟩
        obtain ⟨c, q, hcq, hc⟩ := hw.first
        have huw : Word u := by
          refine ⟨fun x hx => hw.all x (by rw [huv]; exact List.mem_append_left _ hx), ?_, by omega⟩
          cases u with
          | nil => simp at hu; omega
          | cons a u' =>
            rw [huv] at hcq
            injection hcq with h1 h2
            exact ⟨a, u', rfl, by rw [h1]; exact hc⟩
        have hvl : v.length ≤ 19 := by have := congrArg List.length huv; simp at this; omega
        have hvm : ∀ x ∈ v, wm x.toNat = true := fun x hx => hw.all x (by rw [huv]; exact List.mem_append_right _ hx)
        have hvw : Word (120 :: v) := ⟨fun x hx => by
          rcases List.mem_cons.1 hx with hx | hx
          · subst hx; rfl
          · exact hvm x hx, ⟨120, v, rfl, rfl⟩, by simp; omega⟩
        unfold law13_LexKinds_K6 law13_LexKinds_m6
        rw [← hu, huv, if_pos rfl, cut_app0, Option.bind_some, cut_app1]
        have s1 : small (Nat.succ (Nat.succ u.length)) = true := decide_eq_true (by omega)
        have s2 : small ((u ++ [32, 120]).length + v.length) = true := decide_eq_true (by simp; omega)
        have s3 : small (Nat.succ u.length) = true := decide_eq_true (by omega)
        have s4 : small ((u ++ [120]).length + v.length) = true := decide_eq_true (by simp; omega)
        rw [need, if_pos s1, Option.bind_some, need, if_pos s2]
        cases b
        · simp only [Bool.not_false, if_true]
          simp only [Option.bind_some, need, s3, s4, if_true]
          have hcat : u ++ [120] ++ v = u ++ (120 :: v) := by simp
          rw [hcat]
          have hW : Word (u ++ 120 :: v) := by
            obtain ⟨c, q, hcq, hc⟩ := huw.first
            exact ⟨fun x hx => by
              rcases List.mem_append.1 hx with hx | hx
              · exact huw.all x hx
              · exact hvw.all x hx, ⟨c, q ++ 120 :: v, by rw [hcq]; rfl, hc⟩, by simp; omega⟩
          have hl1 := lex1 hW
          by_cases hlw : 20 < (u ++ 120 :: v).length
          · rw [if_pos hlw] at hl1
            exact h7 _ _ _ _ hl1 (.inl hlw)
          · rw [if_neg hlw] at hl1
            exact h7 _ _ _ _ hl1 (.inr ⟨rfl, rfl⟩)
        · simp only [Bool.not_true, Bool.false_eq_true, if_false]
          have hcat : u ++ [32, 120] ++ v = u ++ 32 :: (120 :: v) := by simp
          rw [hcat]
          exact h7 _ _ _ _ (lex2 huw hvw (by omega) (by simp; omega)) (.inr ⟨rfl, rfl⟩)
      · have e2 : le (Int.ofNat w.length) 20 = false := by simp [le]; omega
        rw [e2]
        exact h6f
    · have e1 : gt ((w.length / 2 : Nat) : Int) 0 = false := by simp [gt]; omega
      rw [if_neg (by rw [e1]; decide)]
      exact h6f
  have h3 : law13_LexKinds_K3 b w false = some (true, ()) := by
    unfold law13_LexKinds_K3 law13_LexKinds_m3
    exact h5
  have h4 : law13_LexKinds_K4 b w false = some (true, ()) := by
    unfold law13_LexKinds_K4 law13_LexKinds_m4
    exact h5
  unfold law13_LexKinds_K2 law13_LexKinds_m2
  by_cases h20 : 20 < w.length
  · have hl := lex1 hw
    rw [if_pos h20] at hl
    have e1 : gt (Int.ofNat w.length) 20 = true := by simp [gt]; omega
    rw [hl, Option.bind_some, if_pos e1]
    exact h3
  · have hl := lex1 hw
    rw [if_neg h20] at hl
    have e1 : gt (Int.ofNat w.length) 20 = false := by simp [gt]; omega
    rw [hl, Option.bind_some, if_neg (by rw [e1]; decide)]
    have e2 : nei 0 0 = false := rfl
    rw [if_neg (show ¬ nei 0 0 = true by decide), same1, Option.bind_some]
    exact h4
theorem kinds_law (xs : List Int) (b : Bool) (hx : ∀ x ∈ xs, 0 ≤ x ∧ x ≤ 255) : law13_LexKinds (xs, b, ()) = some (true, ()) := by
  show law13_LexKinds_m0 law13_LexKinds_K1 xs b = _
  unfold law13_LexKinds_m0
  have hw : Word [119] := ⟨fun x hx => by simp at hx; subst hx; rfl, ⟨119, [], rfl, rfl⟩, by decide⟩
  have key : ∀ ys : List Int, (∀ x ∈ ys, 0 ≤ x ∧ x ≤ 255) → ys.length ≤ 40 → law13_LexKinds_K1 b [119] ys (Int.ofNat ys.length) 0 = some (true, ()) := fun ys hy hl =>
    K1_true (fun _ _ => True) b ys hy hl (fun w hw => K2_true b hw) 0 [119] 18446744073709551616 hw (by simp) (Nat.zero_le _) (by omega)
  have hc : ∃ ys, cut xs 0 (if lt 40 (Int.ofNat xs.length) = true then 40 else Int.ofNat xs.length) = some ys ∧ ys.length ≤ 40 ∧ ∀ x ∈ ys, x ∈ xs := by
    by_cases h : 40 < xs.length
    · have e : lt 40 (Int.ofNat xs.length) = true := by simp [lt]; omega
      rw [if_pos e]
      refine ⟨xs.take 40, ?_, by simp; omega, fun x hx => List.mem_of_mem_take hx⟩
      unfold cut
      rw [if_pos ⟨by decide, by decide, by omega⟩]
      rfl
    · have e : lt 40 (Int.ofNat xs.length) = false := by simp [lt]; omega
      rw [if_neg (by rw [e]; decide)]
      refine ⟨xs, ?_, by omega, fun x hx => hx⟩
      unfold cut
      rw [if_pos ⟨by decide, by simp, by simp⟩]
      simp
  obtain ⟨ys, h1, h2, h3⟩ := hc
  rw [h1, Option.bind_some]
  exact key ys (fun x hx' => hx x (h3 x hx')) h2
end Go.Proofs.Lx

end

section
/- Texts: the program's way by lines, and the document's by bytes. -/
namespace Go.Proofs.Lx
open Go Ev Sx Pl
set_option maxRecDepth 10000
def lfirst (s : List UInt8) : List UInt8 := s.takeWhile (· != 10)
def lrest (s : List UInt8) : List UInt8 := (s.dropWhile (· != 10)).drop 1
theorem lrest_len {s : List UInt8} (h : s ≠ []) : (lrest s).length < s.length := by
  have h3 := (List.dropWhile_suffix (l := s) (· != 10)).length_le
  have hp := List.length_pos_iff.2 h
  unfold lrest
  simp
  omega
/-- by lines -/
def lexS (n : Int) (s : List UInt8) (l : TL) : TL × (Int × Int) :=
  if h : s = [] then (l, (0, 0)) else if (lineT n (uncom (lfirst s)) []).2 ≠ 0 then ([], ((lineT n (uncom (lfirst s)) []).2, n)) else lexS (n + 1) (lrest s) (l ++ (lineT n (uncom (lfirst s)) []).1)
termination_by s.length
decreasing_by exact lrest_len h
def tkEnd (n : Int) : Tk1 := (4, [], (0, 0), n)
/-- by bytes -/
def refS (n : Int) (s : List UInt8) (sm : Bool) (out : TL) : TL × (Int × Int) :=
  match hs : s with
  | [] => (if sm then out ++ [tkEnd n] else out, (0, 0))
  | c :: q => if c = 10 then refS (n + 1) q false (if sm then out ++ [tkEnd n] else out)
    else if c = 35 then refS n (q.dropWhile (· != 10)) sm out
    else if isB c.toNat = true then refS n q sm out
    else match h : tokS n c q with
      | .inl e => ([], (e, n))
      | .inr (t, r) => refS n r true (out ++ [t])
termination_by s.length
decreasing_by
  · simp
  · have := (List.dropWhile_suffix (l := q) (· != 10)).length_le
    simp; omega
  · simp
  · have := tokS_len h
    simp; omega
theorem refS_nil {n : Int} {sm : Bool} {out : TL} : refS n [] sm out = (if sm then out ++ [tkEnd n] else out, (0, 0)) := by rw [refS]
theorem refS_nl {n : Int} {q : List UInt8} {sm : Bool} {out : TL} : refS n (10 :: q) sm out = refS (n + 1) q false (if sm then out ++ [tkEnd n] else out) := by rw [refS]; simp
theorem refS_com {n : Int} {q : List UInt8} {sm : Bool} {out : TL} : refS n (35 :: q) sm out = refS n (q.dropWhile (· != 10)) sm out := by rw [refS]; simp
theorem refS_bl {n : Int} {c : UInt8} {q : List UInt8} {sm : Bool} {out : TL} (h : isB c.toNat = true) : refS n (c :: q) sm out = refS n q sm out := by
  have h1 : c ≠ 10 := fun e => by subst e; cases h
  have h2 : c ≠ 35 := fun e => by subst e; cases h
  rw [refS, if_neg h1, if_neg h2, if_pos h]
theorem refS_tok {n : Int} {c : UInt8} {q : List UInt8} {sm : Bool} {out : TL} (h1 : c ≠ 10) (h2 : c ≠ 35) (h3 : isB c.toNat = false) : refS n (c :: q) sm out = match tokS n c q with
      | .inl e => ([], (e, n))
      | .inr (t, r) => refS n r true (out ++ [t]) := by
  rw [refS, if_neg h1, if_neg h2, if_neg (by rw [h3]; decide)]
  split
  · rename_i h; rw [h]
  · rename_i h; rw [h]
theorem tokS_err {a : Int} {c : UInt8} {q : List UInt8} {e : Int} (h : tokS a c q = .inl e) : e ≠ 0 := by
  unfold tokS at h
  split at h
  · split at h
    · cases h; decide
    · cases h
  · split at h
    · split at h
      · cases h
      · cases h; decide
    · split at h
      · cases h
      · cases h; decide
theorem uncom_cons {c : UInt8} (h : c ≠ 35) (u : List UInt8) : uncom (c :: u) = c :: uncom u := by simp [uncom, h]
/-- a token does not see a comment, nor another line -/
theorem tw_far {p : UInt8 → Bool} (h35 : p 35 = false) (h10 : p 10 = false) {tail : List UInt8} (ht : ∀ c q, tail = c :: q → c = 10) : ∀ u : List UInt8,
    (u ++ tail).takeWhile p = (uncom u).takeWhile p ∧ (u ++ tail).dropWhile p = u.dropWhile p ++ tail ∧ uncom (u.dropWhile p) = (uncom u).dropWhile p
  | [] => by
    cases tail with
    | nil => exact ⟨rfl, rfl, rfl⟩
    | cons c q => obtain rfl := ht c q rfl; simp [h10, uncom]
  | c :: u => by
    obtain ⟨i1, i2, i3⟩ := tw_far h35 h10 ht u
    by_cases hc : c = 35
    · subst hc
      simp [h35, uncom]
    · rw [uncom_cons hc]
      cases hp : p c
      · simp [hp, uncom_cons hc]
      · simp [hp, i1, i2, i3]
theorem tokS_far {a : Int} {c : UInt8} {u tail : List UInt8} (ht : ∀ c q, tail = c :: q → c = 10) :
    (∃ e, tokS a c (u ++ tail) = .inl e ∧ tokS a c (uncom u) = .inl e) ∨ ∃ t r, tokS a c (u ++ tail) = .inr (t, r ++ tail) ∧ tokS a c (uncom u) = .inr (t, uncom r) ∧ r.length ≤ u.length := by
  have hw := tw_far (p := fun c => wm c.toNat) rfl rfl ht u
  have hn := tw_far (p := fun c => nm c.toNat) rfl rfl ht u
  have hd : ∀ p : UInt8 → Bool, (u.dropWhile p).length ≤ u.length := fun p => (List.dropWhile_suffix p).length_le
  unfold tokS
  rw [hw.1, hn.1, hw.2.1, hn.2.1, ← hw.2.2, ← hn.2.2]
  split
  · split
    · exact .inl ⟨_, rfl, rfl⟩
    · exact .inr ⟨_, _, rfl, rfl, hd _⟩
  · split
    · split
      · exact .inr ⟨_, _, rfl, rfl, hd _⟩
      · exact .inl ⟨_, rfl, rfl⟩
    · split
      · exact .inr ⟨_, _, rfl, rfl, Nat.le_refl _⟩
      · exact .inl ⟨_, rfl, rfl⟩
theorem lineT_bl {a : Int} {c : UInt8} {s : List UInt8} {l : TL} (h : isB c.toNat = true) : lineT a (c :: s) l = lineT a s l := by
  have e : (c :: s).dropWhile (fun c => isB c.toNat) = s.dropWhile (fun c => isB c.toNat) := by simp [h]
  cases hd : s.dropWhile (fun c => isB c.toNat) with
  | nil => rw [lineT_nil (e.trans hd), lineT_nil hd]
  | cons x q =>
    cases ht : tokS a x q with
    | inl er => rw [lineT_err (e.trans hd) ht, lineT_err hd ht]
    | inr p => obtain ⟨t, r⟩ := p; rw [lineT_tok (e.trans hd) ht, lineT_tok hd ht]
theorem not_blank_head {c : UInt8} {s : List UInt8} (h : isB c.toNat = false) : (c :: s).dropWhile (fun c => isB c.toNat) = c :: s := by simp [h]
/-- one line, by bytes -/
theorem refS_line (n : Int) (L : TL) {tail : List UInt8} (ht : ∀ c q, tail = c :: q → c = 10) : ∀ (k : Nat) (u : List UInt8) (l : TL), u.length ≤ k → 10 ∉ u →
    refS n (u ++ tail) (decide (l ≠ [])) (L ++ l) = if (lineT n (uncom u) l).2 ≠ 0 then ([], ((lineT n (uncom u) l).2, n)) else (match tail with
      | [] => (L ++ (lineT n (uncom u) l).1, (0, 0))
      | _ :: rest => refS (n + 1) rest false (L ++ (lineT n (uncom u) l).1)) := by
  have atEnd : ∀ (l : TL), refS n tail (decide (l ≠ [])) (L ++ l) = if (lineT n [] l).2 ≠ 0 then ([], ((lineT n [] l).2, n)) else (match tail with
      | [] => (L ++ (lineT n [] l).1, (0, 0))
      | _ :: rest => refS (n + 1) rest false (L ++ (lineT n [] l).1)) := fun l => by
    have e : lineT n [] l = (if l = [] then [] else l ++ [tkEnd n], 0) := lineT_nil rfl
    rw [e, if_neg (by simp)]
    have e2 : (if decide (l ≠ []) = true then L ++ l ++ [tkEnd n] else L ++ l) = L ++ (if l = [] then [] else l ++ [tkEnd n]) := by
      by_cases hl : l = []
      · simp [hl]
      · simp [hl]
    cases tail with
    | nil => rw [refS_nil, e2]
    | cons c q =>
      obtain rfl := ht c q rfl
      rw [refS_nl, e2]
  intro k
  induction k with
  | zero =>
    intro u l hu h10
    have : u = [] := List.eq_nil_of_length_eq_zero (by omega)
    subst this
    exact atEnd l
  | succ k ih =>
    intro u l hu h10
    cases u with
    | nil => exact atEnd l
    | cons c u =>
      have hc10 : c ≠ 10 := fun e => h10 (by simp [e])
      have h10' : (10 : UInt8) ∉ u := fun h => h10 (List.mem_cons_of_mem _ h)
      simp at hu
      by_cases hc : c = 35
      · subst hc
        have e1 : uncom (35 :: u) = [] := by simp [uncom]
        have e2 : (u ++ tail).dropWhile (· != 10) = tail := by
          cases tail with
          | nil => rw [List.append_nil]; exact (tw_no h10').2.1
          | cons x q => obtain rfl := ht x q rfl; exact (tw_yes h10').2.1
        rw [List.cons_append, refS_com, e2, e1]
        exact atEnd l
      · rw [uncom_cons hc, List.cons_append]
        cases hb : isB c.toNat
        · rw [refS_tok hc10 hc hb]
          rcases tokS_far (a := n) (c := c) (u := u) ht with ⟨e, h1, h2⟩ | ⟨t, r, h1, h2, h3⟩
          · rw [h1, lineT_err (not_blank_head hb) h2, if_pos (tokS_err h2)]
          · rw [h1, lineT_tok (not_blank_head hb) h2]
            have hr10 : (10 : UInt8) ∉ r := fun hm => h10' (by
              have : ∃ p, u = p ++ r := by
                unfold tokS at h1
                have hs : ∀ p : UInt8 → Bool, p 10 = false → p 35 = false → (u ++ tail).dropWhile p = r ++ tail → ∃ q, u = q ++ r := fun p hp1 hp2 he => by
                  rw [(tw_far hp2 hp1 ht u).2.1] at he
                  have := List.append_cancel_right he
                  exact ⟨u.takeWhile p, by rw [← this]; exact (List.takeWhile_append_dropWhile).symm⟩
                split at h1
                · split at h1
                  · cases h1
                  · injection h1 with h1; injection h1 with _ h1; exact hs _ rfl rfl h1
                · split at h1
                  · split at h1
                    · injection h1 with h1; injection h1 with _ h1; exact hs _ rfl rfl h1
                    · cases h1
                  · split at h1
                    · injection h1 with h1; injection h1 with _ h1
                      exact ⟨[], (List.append_cancel_right h1)⟩
                    · cases h1
              obtain ⟨p, hp⟩ := this
              rw [hp]
              exact List.mem_append_right _ hm)
            have := ih r (l ++ [t]) (by omega) hr10
            have e1 : decide (l ++ [t] ≠ []) = true := by simp
            rw [e1, ← List.append_assoc] at this
            exact this
        · rw [refS_bl hb, lineT_bl hb]
          exact ih u l (by omega) h10'
theorem refS_lexS : ∀ (k : Nat) (s : List UInt8) (n : Int) (l : TL), s.length ≤ k → refS n s false l = lexS n s l := by
  intro k
  induction k with
  | zero =>
    intro s n l hs
    have : s = [] := List.eq_nil_of_length_eq_zero (by omega)
    subst this
    rw [refS_nil, lexS, dif_pos rfl]
    rfl
  | succ k ih =>
    intro s n l hs
    by_cases hne : s = []
    · subst hne
      rw [refS_nil, lexS, dif_pos rfl]
      rfl
    · rw [lexS, dif_neg hne]
      have hlen := lrest_len hne
      rcases split_at 10 s with h10 | ⟨p, q, rfl, h10⟩
      · have e1 : lfirst s = s := (tw_no h10).1
        have e2 : lrest s = [] := by unfold lrest; rw [(tw_no h10).2.1]; rfl
        have := refS_line n l (tail := []) (fun c q h => by cases h) s.length s [] (Nat.le_refl _) h10
        simp only [List.append_nil, ne_eq, not_true, decide_false] at this
        rw [e1, e2, this]
        by_cases he : (lineT n (uncom s) []).2 = 0
        · rw [if_neg (by simpa using he), if_neg (by simpa using he), lexS, dif_pos rfl]
        · rw [if_pos he, if_pos he]
      · have e1 : lfirst (p ++ 10 :: q) = p := (tw_yes h10).1
        have e2 : lrest (p ++ 10 :: q) = q := by unfold lrest; rw [(tw_yes h10).2.1]; rfl
        have := refS_line n l (tail := 10 :: q) (fun c q h => by cases h; rfl) p.length p [] (Nat.le_refl _) h10
        simp only [List.append_nil, ne_eq, not_true, decide_false] at this
        rw [e1, e2, this]
        by_cases he : (lineT n (uncom p) []).2 = 0
        · rw [if_neg (by simpa using he), if_neg (by simpa using he)]
          rw [e2] at hlen
          exact ih q (n + 1) _ (by omega)
        · rw [if_pos he, if_pos he]
end Go.Proofs.Lx

end

section
/- The program's lexer, by lines. -/
namespace Go.Proofs.Lx
open Go Ev Sx Pl
set_option maxRecDepth 10000
theorem lineT_len (a : Int) : ∀ (k : Nat) (s : List UInt8) (l : TL), s.length ≤ k → (lineT a s l).1.length ≤ l.length + s.length + 1 := by
  intro k
  induction k with
  | zero =>
    intro s l hs
    have : s = [] := List.eq_nil_of_length_eq_zero (by omega)
    subst this
    rw [lineT_nil rfl]
    dsimp only
    split <;> simp
  | succ k ih =>
    intro s l hs
    have h3 := (List.dropWhile_suffix (l := s) (fun c => isB c.toNat)).length_le
    cases hd : s.dropWhile (fun c => isB c.toNat) with
    | nil =>
      rw [lineT_nil hd]
      dsimp only
      split
      · simp
      · simp
    | cons c q =>
      rw [hd] at h3
      simp at h3
      cases ht : tokS a c q with
      | inl e => rw [lineT_err hd ht]; simp
      | inr p =>
        obtain ⟨t, r⟩ := p
        rw [lineT_tok hd ht]
        have h4 := tokS_len ht
        have := ih r (l ++ [t]) (by omega)
        simp at this
        omega
theorem uncom_len (s : List UInt8) : (uncom s).length ≤ s.length := (List.takeWhile_prefix _).length_le
theorem lexS_step {n : Int} {s : List UInt8} {l : TL} (h : s ≠ []) : lexS n s l = if (lineT n (uncom (lfirst s)) []).2 ≠ 0 then ([], ((lineT n (uncom (lfirst s)) []).2, n)) else lexS (n + 1) (lrest s) (l ++ (lineT n (uncom (lfirst s)) []).1) := by
  rw [lexS, dif_neg h]
theorem lex_loop : ∀ (k : Nat) (st : List UInt8 × Int × Int × Int × TL), (st.1.length ≤ 20000 ∧ 0 ≤ st.2.1 ∧ st.2.1 + st.1.length ≤ 100000 ∧ st.2.2.1 = 0 ∧ st.2.2.2.1 = 0 ∧ st.2.2.2.2.length + 2 * st.1.length ≤ 100000) → st.1.length < k →
    loopF lexB k st = some ((lexS st.2.1 st.1 st.2.2.2.2).1, (lexS st.2.1 st.1 st.2.2.2.2).2, ()) := by
  refine loopF_eq (σ := List UInt8 × Int × Int × Int × TL) (μ := fun st => st.1.length) (G := fun st => some ((lexS st.2.1 st.1 st.2.2.2.2).1, (lexS st.2.1 st.1 st.2.2.2.2).2, ())) ?_
  rintro self ⟨s, n, x, y, l⟩ ⟨h1, h2, h3, rfl, rfl, h4⟩ ih
  simp only at h1 h2 h3 h4 ih ⊢
  show lex_Lex_m1 _ _ s n 0 0 l = _
  by_cases hne : s = []
  · subst hne
    rw [lexS, dif_pos rfl]
    rfl
  · have hlen := lrest_len hne
    have hpos := List.length_pos_iff.2 hne
    unfold lex_Lex_m1
    rw [if_pos (by rw [nes_iff]; exact hne), lexS_step hne]
    have hadd : add .i64 n 1 = n + 1 := add64 (by omega) (by omega)
    have go : ∀ (f r : List UInt8), lfirst s = f → lrest s = r → f.length ≤ s.length → f.length + r.length ≤ s.length → ((lex_line (f, n, ())).bind fun y => if nei y.2.1 0 = true then some ([], (y.2.1, n), ()) else need (small (l.length + y.1.length)) (self (r, add .i64 n 1, 0, 0, l ++ y.1))) =
        some ((if (lineT n (uncom (lfirst s)) []).2 ≠ 0 then (([] : TL), ((lineT n (uncom (lfirst s)) []).2, n)) else lexS (n + 1) (lrest s) (l ++ (lineT n (uncom (lfirst s)) []).1)).1, (if (lineT n (uncom (lfirst s)) []).2 ≠ 0 then (([] : TL), ((lineT n (uncom (lfirst s)) []).2, n)) else lexS (n + 1) (lrest s) (l ++ (lineT n (uncom (lfirst s)) []).1)).2, ()) := by
      intro f r ef er hf hfr
      rw [ef, er, line_eq f n (by omega), Option.bind_some]
      rw [er] at hlen
      have hb := lineT_len n _ (uncom f) [] (Nat.le_refl _)
      have hu := uncom_len f
      simp at hb
      by_cases he : (lineT n (uncom f) []).2 = 0
      · rw [if_neg (by rw [nei_iff]; simpa using he), if_neg (by simpa using he), need_small (by simp; omega), hadd]
        exact ih (r, n + 1, 0, 0, l ++ (lineT n (uncom f) []).1) ⟨by show r.length ≤ _; omega, by show 0 ≤ n + 1; omega, by show n + 1 + (r.length : Int) ≤ _; omega, rfl, rfl, by show (l ++ _).length + 2 * r.length ≤ _; simp; omega⟩ (by show r.length < _; omega)
      · rw [if_pos (by rw [nei_iff]; exact he), if_pos he]
    by_cases he : s = [10]
    · subst he
      rw [if_pos (by decide), show cut ([10] : List UInt8) 1 (Int.ofNat [(10 : UInt8)].length) = some [] from rfl, Option.bind_some]
      exact go [] [] rfl rfl (by simp) (by simp)
    · rw [if_neg (by rw [eqs_iff]; exact fun h => he h.symm)]
      rcases split_at 10 s with h10 | ⟨p, q, rfl, h10⟩
      · rw [index_no 10 s h10, if_neg (by decide)]
        exact go s [] (tw_no h10).1 (by unfold lrest; rw [(tw_no h10).2.1]; rfl) (Nat.le_refl _) (by simp)
      · simp at h1 h3 h4
        rw [index_yes 10 p q h10, if_pos (by rw [ge_iff]; omega), cut_app0, Option.bind_some, succ64 (by omega), cut_from (by simp), Option.bind_some]
        have : (p ++ 10 :: q).drop (p.length + 1) = q := by simp
        rw [this]
        exact go p q (tw_yes h10).1 (by unfold lrest; rw [(tw_yes h10).2.1]; rfl) (by simp) (by simp)
def lexR (s : List UInt8) : TL × (Int × Int) := if 8192 < s.length then ([], (130, 0)) else lexS 1 s []
theorem lex_eq (s : List UInt8) : lex_Lex (s, ()) = some ((lexR s).1, (lexR s).2, ()) := by
  show lex_Lex_m0 lex_Lex_K1 s = _
  unfold lex_Lex_m0 lexR
  by_cases h : 8192 < s.length
  · rw [if_pos (by rw [gt_iff, ofNat_eq]; omega), if_pos h]
  · rw [if_neg (by rw [gt_iff, ofNat_eq]; omega), if_neg h]
    exact lex_loop 18446744073709551616 (s, 1, 0, 0, []) ⟨by show s.length ≤ _; omega, by show (0 : Int) ≤ 1; decide, by show (1 : Int) + s.length ≤ _; omega, rfl, rfl, by show ([] : TL).length + 2 * s.length ≤ _; simp; omega⟩ (by show s.length < _; omega)
/-! ### the document's -/
abbrev RefSt := List UInt8 × Int × Bool × Int × Int × Int × TL
abbrev RLx := As [.sl (.pr (.int .u8) (.pr .str (.pr (.pr (.int .i64) (.int .u8)) (.int .i64)))), .pr (.int .i64) (.int .i64)]
abbrev U1 := List UInt8 → Int → Bool → Int → Int → Int → TL → Option RLx
abbrev refLB (self : RefSt → Option RLx) (s : RefSt) : Option RLx := ref13_Lex_m1 (ref13_Lex_K2 (fun text line some' i t3 t3_2 out => self (text, line, some', i, t3, t3_2, out))) (ref13_Lex_K3) (fun text line some' i t3 t3_2 out => self (text, line, some', i, t3, t3_2, out)) s.1 s.2.1 s.2.2.1 s.2.2.2.1 s.2.2.2.2.1 s.2.2.2.2.2.1 s.2.2.2.2.2.2
/-- the rest of a comment -/
theorem ref_com (u1 : U1) (text : List UInt8) (line : Int) (sm : Bool) (out : TL) (hl : text.length < 1000000) : ∀ (k : Nat) (st : List UInt8 × Int × Bool × Int × Int × Int × TL),
    (∃ i : Nat, st = (text, line, sm, (i : Int), 0, 0, out) ∧ i < text.length) → text.length - st.2.2.2.1.toNat < k →
    loopF (fun (self : RefSt → Option RLx) (s : RefSt) => ref13_Lex_m5 (ref13_Lex_K8 u1 (fun text line some' i t3 t3_2 out => self (text, line, some', i, t3, t3_2, out))) u1 (fun text line some' i t3 t3_2 out => self (text, line, some', i, t3, t3_2, out)) s.1 s.2.1 s.2.2.1 s.2.2.2.1 s.2.2.2.2.1 s.2.2.2.2.2.1 s.2.2.2.2.2.2) k st =
      u1 text line sm ((text.length - ((text.drop (st.2.2.2.1.toNat + 1)).dropWhile (· != 10)).length : Nat) : Int) 0 0 out := by
  refine loopF_eq (σ := RefSt) (μ := fun st => text.length - st.2.2.2.1.toNat) (G := fun st => u1 text line sm ((text.length - ((text.drop (st.2.2.2.1.toNat + 1)).dropWhile (· != 10)).length : Nat) : Int) 0 0 out) ?_
  rintro self st ⟨i, rfl, hi⟩ ih
  simp only [Int.toNat_natCast] at ih ⊢
  unfold ref13_Lex_m5
  have h1 : add .i64 (i : Int) 1 = ((i + 1 : Nat) : Int) := succ64 (by omega)
  rw [h1]
  have stop : ref13_Lex_K8 u1 (fun text line some' i t3 t3_2 out => self (text, line, some', i, t3, t3_2, out)) text line sm (i : Int) false 0 0 out = u1 text line sm ((i + 1 : Nat) : Int) 0 0 out := by
    unfold ref13_Lex_K8 ref13_Lex_m8 ref13_Lex_K7 ref13_Lex_m7
    rw [if_neg (by decide), h1]
  cases hd : text.drop (i + 1) with
  | nil =>
    have := drop_nil hd
    rw [if_neg (by rw [lt_iff, ofNat_eq]; omega), stop]
    have e : i + 1 = text.length := by omega
    simp [e]
  | cons c r =>
    obtain ⟨d1, d2, d3⟩ := drop_succ hd
    rw [if_pos (by rw [lt_iff, ofNat_eq]; omega), at_drop hd, Option.bind_some]
    by_cases hc : c = 10
    · have e : nei (Int.ofNat c.toNat) 10 = false := by subst hc; rfl
      rw [e, stop]
      have : ((c :: r).dropWhile (· != 10)) = c :: r := by simp [hc]
      rw [this]
      have e3 : text.length - (c :: r).length = i + 1 := by simp; omega
      rw [e3]
    · have e : nei (Int.ofNat c.toNat) 10 = true := by
        rw [nei_iff]
        intro h
        exact hc ((eqi_byte 10).1 (eqi_iff.2 h))
      rw [e]
      unfold ref13_Lex_K8 ref13_Lex_m8
      rw [if_pos rfl, h1]
      have := ih (text, line, sm, ((i + 1 : Nat) : Int), 0, 0, out) ⟨i + 1, rfl, by omega⟩ (by simp; omega)
      refine this.trans ?_
      have e2 : ((c :: r).dropWhile (· != 10)) = r.dropWhile (· != 10) := by simp [hc]
      simp only [Int.toNat_natCast]
      rw [d1, e2]
theorem letter_eq (c : UInt8) : ref13_letter (Int.ofNat c.toNat, ()) = some (w1 c.toNat, ()) := tab (f := ref13_letter) (g := w1) (by kernel_rfl) c
theorem digit_eq (c : UInt8) : ref13_digit (Int.ofNat c.toNat, ()) = some (isD c.toNat, ()) := tab (f := ref13_digit) (g := isD) (by kernel_rfl) c
theorem goes1_eq (c : UInt8) : ref13_goes (1, Int.ofNat c.toNat, ()) = some (wm c.toNat, ()) := tab (f := fun x => ref13_goes (1, x.1, ())) (g := wm) (by kernel_rfl) c
theorem goes2_eq (c : UInt8) : ref13_goes (2, Int.ofNat c.toNat, ()) = some (nm c.toNat, ()) := tab (f := fun x => ref13_goes (2, x.1, ())) (g := nm) (by kernel_rfl) c
/-- the rest of a token -/
abbrev TokSt := List UInt8 × Int × Int × Int × Int × TL × Int × List UInt8 × Int × Int × Int
theorem ref_more (u1 : U1) (text : List UInt8) (line : Int) (out : TL) (k : Int) (hk : k = 1 ∨ k = 2 ∨ k = 3) (hl : text.length < 1000000) (n : Int) : ∀ (m : Nat) (st : TokSt),
    (∃ (i : Nat) (t : List UInt8), st = (text, line, (i : Int), 0, 0, out, k, t, 0, 0, n) ∧ i < text.length ∧ t.length + text.length ≤ 2000000 + i) → text.length - st.2.2.1.toNat < m →
    loopF (fun (self : TokSt → Option RLx) (s : TokSt) => ref13_Lex_m12 (ref13_Lex_K13 u1 (fun text line i t3 t3_2 out t t_2 t_3 t_4 t_5 => self (text, line, i, t3, t3_2, out, t, t_2, t_3, t_4, t_5))) u1 (fun text line i t3 t3_2 out t t_2 t_3 t_4 t_5 => self (text, line, i, t3, t3_2, out, t, t_2, t_3, t_4, t_5)) s.1 s.2.1 s.2.2.1 s.2.2.2.1 s.2.2.2.2.1 s.2.2.2.2.2.1 s.2.2.2.2.2.2.1 s.2.2.2.2.2.2.2.1 s.2.2.2.2.2.2.2.2.1 s.2.2.2.2.2.2.2.2.2.1 s.2.2.2.2.2.2.2.2.2.2) m st =
      ref13_Lex_K14 u1 text line ((st.2.2.1.toNat + ((text.drop (st.2.2.1.toNat + 1)).takeWhile (fun c => moreK k c.toNat)).length : Nat) : Int) 0 0 out k (st.2.2.2.2.2.2.2.1 ++ (text.drop (st.2.2.1.toNat + 1)).takeWhile (fun c => moreK k c.toNat)) 0 0 n := by
  refine loopF_eq (σ := TokSt) (μ := fun st => text.length - st.2.2.1.toNat) (G := fun st => ref13_Lex_K14 u1 text line ((st.2.2.1.toNat + ((text.drop (st.2.2.1.toNat + 1)).takeWhile (fun c => moreK k c.toNat)).length : Nat) : Int) 0 0 out k (st.2.2.2.2.2.2.2.1 ++ (text.drop (st.2.2.1.toNat + 1)).takeWhile (fun c => moreK k c.toNat)) 0 0 n) ?_
  rintro self st ⟨i, t, rfl, hi, ht⟩ ih
  simp only [Int.toNat_natCast] at ih ⊢
  unfold ref13_Lex_m12
  have h1 : add .i64 (i : Int) 1 = ((i + 1 : Nat) : Int) := succ64 (by omega)
  have h2 : add .i64 ((i + 1 : Nat) : Int) 1 = ((i + 2 : Nat) : Int) := succ64 (by omega)
  rw [h1]
  have stop : (text.drop (i + 1)).takeWhile (fun c => moreK k c.toNat) = [] → ref13_Lex_K13 u1 (fun text line i t3 t3_2 out t t_2 t_3 t_4 t_5 => self (text, line, i, t3, t3_2, out, t, t_2, t_3, t_4, t_5)) text line (i : Int) false 0 0 out k t 0 0 n = ref13_Lex_K14 u1 text line ((i + ((text.drop (i + 1)).takeWhile (fun c => moreK k c.toNat)).length : Nat) : Int) 0 0 out k (t ++ (text.drop (i + 1)).takeWhile (fun c => moreK k c.toNat)) 0 0 n := fun h => by
    unfold ref13_Lex_K13 ref13_Lex_m13
    rw [if_neg (by decide), h]
    simp
  by_cases h3 : k = 3
  · subst h3
    rw [if_neg (by decide)]
    apply stop
    cases text.drop (i + 1) with
    | nil => rfl
    | cons c r => rfl
  · rw [if_pos (by rw [nei_iff]; exact h3)]
    cases hd : text.drop (i + 1) with
    | nil =>
      have := drop_nil hd
      rw [if_neg (by rw [lt_iff, ofNat_eq]; omega)]
      rw [hd] at stop
      exact stop rfl
    | cons c r =>
      obtain ⟨d1, d2, d3⟩ := drop_succ hd
      rw [if_pos (by rw [lt_iff, ofNat_eq]; omega), at_drop hd, Option.bind_some]
      have hg : ref13_goes (k, Int.ofNat c.toNat, ()) = some (moreK k c.toNat, ()) := by
        rcases hk with rfl | rfl | rfl
        · exact goes1_eq c
        · exact goes2_eq c
        · exact absurd rfl h3
      rw [hg, Option.bind_some]
      cases hm : moreK k c.toNat
      · rw [hd] at stop
        exact stop (by simp [hm])
      · unfold ref13_Lex_K13 ref13_Lex_m13
        rw [if_pos rfl, h1, h2, cut_nat (by omega) (by omega)]
        have hcut : (text.take (i + 2)).drop (i + 1) = [c] := by
          rw [List.drop_take, hd]
          have : i + 2 - (i + 1) = 1 := by omega
          rw [this]
          rfl
        rw [hcut, Option.bind_some, need_small (by simp; omega)]
        have := ih (text, line, ((i + 1 : Nat) : Int), 0, 0, out, k, t ++ [c], 0, 0, n) ⟨i + 1, t ++ [c], rfl, by omega, by simp; omega⟩ (by simp; omega)
        refine this.trans ?_
        simp only [Int.toNat_natCast]
        rw [d1]
        simp only [List.takeWhile_cons, hm, if_true, List.length_cons, List.append_assoc, List.singleton_append]
        have : i + 1 + (r.takeWhile (fun c => moreK k c.toNat)).length = i + ((r.takeWhile (fun c => moreK k c.toNat)).length + 1) := by omega
        rw [this]
theorem drop_takeWhile (p : UInt8 → Bool) : ∀ q : List UInt8, q.drop (q.takeWhile p).length = q.dropWhile p
  | [] => rfl
  | c :: q => by
    cases h : p c
    · simp [h]
    · simp [h, drop_takeWhile p q]
/-- where a token ends -/
theorem drop_tw {text : List UInt8} {i : Nat} {c : UInt8} {q : List UInt8} (h : text.drop i = c :: q) (p : UInt8 → Bool) : text.drop (i + (q.takeWhile p).length + 1) = q.dropWhile p := by
  have h1 := (drop_succ h).1
  have : i + (q.takeWhile p).length + 1 = i + 1 + (q.takeWhile p).length := by omega
  rw [this, ← List.drop_drop, h1, drop_takeWhile]
def refG (text : List UInt8) (i : Nat) (n : Int) (sm : Bool) (out : TL) : TL × (Int × Int) := if text.length < i then (out, (0, 0)) else refS n (text.drop i) sm out
def pkR (x : TL × (Int × Int)) : Option RLx := some (x.1, x.2, ())
theorem isB_iff (c : UInt8) : isB c.toNat = true ↔ c = 9 ∨ c = 13 ∨ c = 32 := by
  have := all8 (p := fun n => isB n == (n == 9 || n == 13 || n == 32)) (by kernel_rfl) c
  rw [eq_of_beq this]
  simp only [Bool.or_eq_true, beq_iff_eq]
  constructor
  · rintro ((h | h) | h)
    · exact .inl (UInt8.toNat_inj.1 h)
    · exact .inr (.inl (UInt8.toNat_inj.1 h))
    · exact .inr (.inr (UInt8.toNat_inj.1 h))
  · rintro (rfl | rfl | rfl)
    · exact .inl (.inl rfl)
    · exact .inl (.inr rfl)
    · exact .inr rfl
theorem n1_iff (c : UInt8) : n1 c.toNat = (isD c.toNat || decide (c = 45)) := by
  have e : decide (c = 45) = (c.toNat == 45) := by
    rw [Bool.eq_iff_iff, decide_eq_true_iff, beq_iff_eq]
    exact ⟨fun h => by rw [h]; rfl, fun h => UInt8.toNat_inj.1 h⟩
  rw [e]
  rfl
theorem e1_iff (c : UInt8) : e1 c.toNat = decide (c = 61) := by
  have e : decide (c = 61) = (c.toNat == 61) := by
    rw [Bool.eq_iff_iff, decide_eq_true_iff, beq_iff_eq]
    exact ⟨fun h => by rw [h]; rfl, fun h => UInt8.toNat_inj.1 h⟩
  rw [e]
  rfl
theorem ref_main (text : List UInt8) (hl : text.length < 100000) : ∀ (k : Nat) (st : RefSt),
    (∃ (i : Nat) (n : Int) (sm : Bool) (out : TL), st = (text, n, sm, (i : Int), 0, 0, out) ∧ i ≤ text.length + 1 ∧ 0 ≤ n ∧ n ≤ i + 1 ∧ out.length ≤ 2 * i) → text.length + 1 - st.2.2.2.1.toNat < k →
      loopF refLB k st = pkR (refG text st.2.2.2.1.toNat st.2.1 st.2.2.1 st.2.2.2.2.2.2) := by
  refine loopF_eq (σ := RefSt) (μ := fun st => text.length + 1 - st.2.2.2.1.toNat) (G := fun st => pkR (refG text st.2.2.2.1.toNat st.2.1 st.2.2.1 st.2.2.2.2.2.2)) ?_
  rintro self st ⟨i, n, sm, out, rfl, hi, hn0, hn1, ho⟩ ih
  simp only [Int.toNat_natCast] at ih ⊢
  show ref13_Lex_m1 _ _ _ text n sm (i : Int) 0 0 out = _
  have next : ∀ (j : Nat) (n' : Int) (sm' : Bool) (out' : TL), i < j → j ≤ text.length + 1 → 0 ≤ n' → n' ≤ j + 1 → out'.length ≤ 2 * j → self (text, n', sm', (j : Int), 0, 0, out') = pkR (refG text j n' sm' out') := fun j n' sm' out' x1 x2 x3 x4 x5 => by
    have := ih (text, n', sm', (j : Int), 0, 0, out') ⟨j, n', sm', out', rfl, x2, x3, x4, x5⟩ (by simp; omega)
    simpa using this
  have hs : small (out.length + 1) = true := small_iff.2 (by omega)
  -- behind a line
  have nl : ∀ (j : Nat), j = i → j ≤ text.length → ref13_Lex_K2 (fun text line some' i t3 t3_2 out => self (text, line, some', i, t3, t3_2, out)) text n sm (j : Int) true 0 0 out = pkR (refG text (j + 1) (n + 1) false (if sm then out ++ [tkEnd n] else out)) := fun j hj hjl => by
    subst hj
    unfold ref13_Lex_K2 ref13_Lex_m2
    rw [if_pos rfl]
    have k4 : ∀ o : TL, o.length ≤ 2 * (j + 1) → ref13_Lex_K4 (fun text line some' i t3 t3_2 out => self (text, line, some', i, t3, t3_2, out)) text n (j : Int) 0 0 o = pkR (refG text (j + 1) (n + 1) false o) := fun o ho' => by
      unfold ref13_Lex_K4 ref13_Lex_m4 ref13_Lex_K7 ref13_Lex_m7
      rw [add64 (a := n) (by omega) (by omega), succ64 (by omega)]
      exact next (j + 1) (n + 1) false o (by omega) (by omega) (by omega) (by omega) ho'
    cases sm
    · exact k4 out (by omega)
    · rw [if_pos rfl, need_t hs]
      exact k4 (out ++ [tkEnd n]) (by simp; omega)
  unfold ref13_Lex_m1
  by_cases hlt : text.length < i
  · rw [if_neg (by rw [le_iff, ofNat_eq]; omega)]
    unfold refG
    rw [if_pos hlt]
    rfl
  · rw [if_pos (by rw [le_iff, ofNat_eq]; omega)]
    cases hd : text.drop i with
    | nil =>
      have := drop_nil hd
      have hie : i = text.length := by omega
      rw [if_pos (by rw [eqi_iff, ofNat_eq]; omega), nl i rfl (by omega)]
      have e1 : ∀ o, refG text (i + 1) (n + 1) false o = (o, (0, 0)) := fun o => by unfold refG; rw [if_pos (by omega)]
      have e2 : refG text i n sm out = refS n [] sm out := by unfold refG; rw [if_neg hlt, hd]
      rw [e1, e2, refS_nil]
    | cons c q =>
      obtain ⟨d1, d2, d3⟩ := drop_succ hd
      have hat := at_drop hd
      rw [if_neg (by rw [eqi_iff, ofNat_eq]; omega), hat, Option.bind_some]
      have hG : refG text i n sm out = refS n (c :: q) sm out := by unfold refG; rw [if_neg hlt, hd]
      rw [hG]
      have hG1 : ∀ n' sm' out', refG text (i + 1) n' sm' out' = refS n' q sm' out' := fun n' sm' out' => by unfold refG; rw [if_neg (by omega), d1]
      by_cases h10 : c = 10
      · rw [(eqi_byte 10).2 h10, nl i rfl (by omega), hG1, h10, refS_nl]
      · have e10 : eqi (Int.ofNat c.toNat) 10 = false := by
          cases h : eqi (Int.ofNat c.toNat) 10
          · rfl
          · exact absurd ((eqi_byte 10).1 h) h10
        rw [e10]
        unfold ref13_Lex_K2 ref13_Lex_m2
        rw [if_neg (by decide), hat, Option.bind_some]
        by_cases h35 : c = 35
        · rw [if_pos ((eqi_byte 35).2 h35), h35, refS_com]
          have hcom := ref_com (fun text line some' i t3 t3_2 out => self (text, line, some', i, t3, t3_2, out)) text n sm out (by omega) 18446744073709551616 (text, n, sm, (i : Int), 0, 0, out) ⟨i, rfl, d2⟩ (by simp; omega)
          refine Eq.trans hcom ?_
          simp only [Int.toNat_natCast]
          rw [d1]
          have hsl := (List.dropWhile_suffix (l := q) (· != 10)).length_le
          have hsuf : text.drop (text.length - (q.dropWhile (· != 10)).length) = q.dropWhile (· != 10) := by
            have h1 := (List.dropWhile_suffix (l := q) (· != 10))
            have h2 : (q.dropWhile (· != 10)) <:+ text := h1.trans (by rw [← d1]; exact List.drop_suffix _ _)
            exact (List.suffix_iff_eq_drop.1 h2).symm
          rw [next _ n sm out (by omega) (by omega) hn0 (by omega) (by omega)]
          unfold refG
          rw [if_neg (by omega), hsuf]
        · rw [if_neg (fun h => h35 ((eqi_byte 35).1 h))]
          unfold ref13_Lex_K6 ref13_Lex_m6
          -- blanks
          have blank : isB c.toNat = true → ref13_Lex_K9 (fun text line some' i t3 t3_2 out => self (text, line, some', i, t3, t3_2, out)) text n sm (i : Int) (Int.ofNat c.toNat) true 0 0 out = pkR (refS n (c :: q) sm out) := fun hb => by
            unfold ref13_Lex_K9 ref13_Lex_m9 ref13_Lex_K7 ref13_Lex_m7
            rw [if_pos rfl, succ64 (by omega)]
            refine (next (i + 1) n sm out (by omega) (by omega) hn0 (by omega) (by omega)).trans ?_
            rw [hG1, refS_bl hb]
          by_cases h9 : c = 9
          · rw [if_pos ((eqi_byte 9).2 h9)]
            exact blank ((isB_iff c).2 (.inl h9))
          · rw [if_neg (fun h => h9 ((eqi_byte 9).1 h))]
            by_cases h13 : c = 13
            · rw [if_pos ((eqi_byte 13).2 h13)]
              exact blank ((isB_iff c).2 (.inr (.inl h13)))
            · rw [if_neg (fun h => h13 ((eqi_byte 13).1 h))]
              by_cases h32 : c = 32
              · rw [(eqi_byte 32).2 h32]
                exact blank ((isB_iff c).2 (.inr (.inr h32)))
              · have e32 : eqi (Int.ofNat c.toNat) 32 = false := by
                  cases h : eqi (Int.ofNat c.toNat) 32
                  · rfl
                  · exact absurd ((eqi_byte 32).1 h) h32
                have hb : isB c.toNat = false := by
                  cases h : isB c.toNat
                  · rfl
                  · rcases (isB_iff c).1 h with h | h | h
                    · exact absurd h h9
                    · exact absurd h h13
                    · exact absurd h h32
                rw [e32, refS_tok h10 h35 hb]
                unfold ref13_Lex_K9 ref13_Lex_m9
                rw [if_neg (by decide), letter_eq, Option.bind_some]
                -- a token of a kind
                have K10 : ∀ k : Int, (k = 1 ∨ k = 2 ∨ k = 3) → ref13_Lex_K10 (fun text line some' i t3 t3_2 out => self (text, line, some', i, t3, t3_2, out)) text n (i : Int) 0 0 out k [] 0 0 n = ref13_Lex_K14 (fun text line some' i t3 t3_2 out => self (text, line, some', i, t3, t3_2, out)) text n ((i + (q.takeWhile (fun c => moreK k c.toNat)).length : Nat) : Int) 0 0 out k (c :: q.takeWhile (fun c => moreK k c.toNat)) 0 0 n := fun k hk => by
                  unfold ref13_Lex_K10 ref13_Lex_m10
                  rw [succ64 (by omega), cut_nat (by omega) (by omega)]
                  have hcut : (text.take (i + 1)).drop i = [c] := by
                    rw [List.drop_take, hd]
                    have : i + 1 - i = 1 := by omega
                    rw [this]
                    rfl
                  rw [hcut, Option.bind_some]
                  have := ref_more (fun text line some' i t3 t3_2 out => self (text, line, some', i, t3, t3_2, out)) text n out k hk (by omega) n 18446744073709551616 (text, n, (i : Int), 0, 0, out, k, [c], 0, 0, n) ⟨i, [c], rfl, d2, by simp; omega⟩ (by simp; omega)
                  refine Eq.trans this ?_
                  simp only [Int.toNat_natCast]
                  rw [d1]
                  rfl
                have K16 : ∀ (k : Int) (t : List UInt8) (x y : Int) (r : List UInt8) (j : Nat), j < text.length → i ≤ j → text.drop (j + 1) = r → ref13_Lex_K16 (fun text line some' i t3 t3_2 out => self (text, line, some', i, t3, t3_2, out)) text n (j : Int) 0 0 out k t x y n = pkR (refS n r true (out ++ [(k, t, (x, y), n)])) := fun k t x y r j hj hij hr => by
                  unfold ref13_Lex_K16 ref13_Lex_m16 ref13_Lex_K7 ref13_Lex_m7
                  rw [need_t hs, succ64 (by omega)]
                  refine (next (j + 1) n true _ (by omega) (by omega) hn0 (by omega) (by simp; omega)).trans ?_
                  unfold refG
                  rw [if_neg (by omega), hr]
                have htwl : ∀ p : UInt8 → Bool, (q.takeWhile p).length ≤ q.length := fun p => (List.takeWhile_prefix p).length_le
                cases hw : w1 c.toNat
                · rw [if_neg (by decide), digit_eq, Option.bind_some]
                  have num : n1 c.toNat = true → ref13_Lex_K11 (fun text line some' i t3 t3_2 out => self (text, line, some', i, t3, t3_2, out)) text n (i : Int) (Int.ofNat c.toNat) true 0 0 out 0 [] 0 0 n = pkR (match tokS n c q with
      | .inl e => ([], (e, n))
      | .inr (t, r) => refS n r true (out ++ [t])) := fun hn => by
                    unfold ref13_Lex_K11 ref13_Lex_m11
                    rw [if_pos rfl, K10 2 (.inr (.inl rfl))]
                    have hmk : (fun c : UInt8 => moreK 2 c.toNat) = fun c => nm c.toNat := rfl
                    rw [hmk]
                    unfold ref13_Lex_K14 ref13_Lex_m14 ref13_Lex_K15 ref13_Lex_m15 tokS
                    rw [if_neg (by decide), if_neg (by decide), if_pos (by decide), hw, hn]
                    have hlen : (c :: q.takeWhile (fun c => nm c.toNat)).length < 1000000 := by
                      have := htwl (fun c => nm c.toNat)
                      simp; omega
                    rw [refParse_eq hlen, Option.bind_some]
                    simp only [Bool.false_eq_true, if_false, if_true]
                    cases hp : (parseS (c :: q.takeWhile (fun c => nm c.toNat))).2
                    · rfl
                    · simp only [Bool.not_true, Bool.false_eq_true, if_false, if_true]
                      exact K16 2 _ _ _ _ (i + (q.takeWhile (fun c => nm c.toNat)).length) (by have := htwl (fun c => nm c.toNat); omega) (by omega) (drop_tw hd _)
                  have other : n1 c.toNat = false → ref13_Lex_K11 (fun text line some' i t3 t3_2 out => self (text, line, some', i, t3, t3_2, out)) text n (i : Int) (Int.ofNat c.toNat) false 0 0 out 0 [] 0 0 n = pkR (match tokS n c q with
      | .inl e => ([], (e, n))
      | .inr (t, r) => refS n r true (out ++ [t])) := fun hn => by
                    unfold ref13_Lex_K11 ref13_Lex_m11
                    rw [if_neg (by decide)]
                    unfold tokS
                    rw [hw, hn, e1_iff]
                    simp only [Bool.false_eq_true, if_false]
                    by_cases h61 : c = 61
                    · rw [if_pos ((eqi_byte 61).2 h61), if_pos (decide_eq_true h61), K10 3 (.inr (.inr rfl))]
                      have hmk : q.takeWhile (fun c : UInt8 => moreK 3 c.toNat) = [] := by
                        cases q with
                        | nil => rfl
                        | cons a b => rfl
                      rw [hmk]
                      unfold ref13_Lex_K14 ref13_Lex_m14 ref13_Lex_K15 ref13_Lex_m15
                      rw [if_neg (by decide), if_neg (by decide), if_neg (by decide)]
                      exact K16 3 [c] 0 0 q (i + 0) (by omega) (by omega) d1
                    · rw [if_neg (fun h => h61 ((eqi_byte 61).1 h)), if_neg (by simpa using h61)]
                      rfl
                  cases hD : isD c.toNat
                  · rw [if_neg (by decide)]
                    by_cases h45 : c = 45
                    · rw [(eqi_byte 45).2 h45]
                      exact num (by rw [n1_iff, hD, h45]; rfl)
                    · have : eqi (Int.ofNat c.toNat) 45 = false := by
                        cases h : eqi (Int.ofNat c.toNat) 45
                        · rfl
                        · exact absurd ((eqi_byte 45).1 h) h45
                      rw [this]
                      exact other (by rw [n1_iff, hD]; simp [h45])
                  · rw [if_pos rfl]
                    exact num (by rw [n1_iff, hD]; rfl)
                · rw [if_pos rfl, K10 1 (.inl rfl)]
                  have hmk : (fun c : UInt8 => moreK 1 c.toNat) = fun c => wm c.toNat := rfl
                  rw [hmk]
                  unfold ref13_Lex_K14 ref13_Lex_m14 tokS
                  rw [if_pos (by decide), hw]
                  simp only [if_true]
                  unfold ref13_Lex_K15 ref13_Lex_m15
                  by_cases h20 : 20 < (c :: q.takeWhile (fun c => wm c.toNat)).length
                  · rw [show gt (Int.ofNat (c :: q.takeWhile (fun c => wm c.toNat)).length) 20 = true by rw [gt_iff, ofNat_eq]; omega, if_pos rfl, if_pos h20]
                    rfl
                  · rw [show gt (Int.ofNat (c :: q.takeWhile (fun c => wm c.toNat)).length) 20 = false by simp only [gt, ofNat_eq, decide_eq_false_iff_not]; omega, if_neg (by decide), if_neg (by decide), if_neg h20]
                    exact K16 1 _ 0 0 _ (i + (q.takeWhile (fun c => wm c.toNat)).length) (by have := htwl (fun c => wm c.toNat); omega) (by omega) (drop_tw hd _)
theorem ref_eq (s : List UInt8) : ref13_Lex (s, ()) = some ((lexR s).1, (lexR s).2, ()) := by
  show ref13_Lex_m0 ref13_Lex_K1 s = _
  unfold ref13_Lex_m0 lexR
  by_cases h : 8192 < s.length
  · rw [if_pos (by rw [gt_iff, ofNat_eq]; omega), if_pos h]
  · rw [if_neg (by rw [gt_iff, ofNat_eq]; omega), if_neg h, ← refS_lexS s.length s 1 [] (Nat.le_refl _)]
    have := ref_main s (by omega) 18446744073709551616 (s, 1, false, ((0 : Nat) : Int), 0, 0, []) ⟨0, 1, false, [], rfl, by omega, by decide, by decide, by simp⟩ (by simp; omega)
    refine Eq.trans this ?_
    simp [refG, pkR]
end Go.Proofs.Lx

end

section
/- LexTells, as a plain law. -/
namespace Go.Proofs.Lx
open Go Ev Sx Pl
set_option maxRecDepth 10000
abbrev SmSt := TL × TL × Int × Int
theorem same_refl (l : TL) (hl : l.length < 1000000) : law13_same (l, l, ()) = some (true, ()) := by
  show (if nei (Int.ofNat l.length) (Int.ofNat l.length) = true then _ else _) = _
  rw [if_neg (by rw [nei_iff]; simp)]
  have key : ∀ (n : Nat) (st : SmSt), (∃ i : Nat, st = (l, l, Int.ofNat l.length, (i : Int)) ∧ i ≤ l.length) → l.length - st.2.2.2.toNat < n →
      loopF (fun (self : SmSt → Option (As [.bool])) (s : SmSt) => law13_same_m1 (fun a b t12 t13 => self (a, b, t12, t13)) s.1 s.2.1 s.2.2.1 s.2.2.2) n st = some (true, ()) := by
    refine loopF_eq (σ := SmSt) (μ := fun st => l.length - st.2.2.2.toNat) (G := fun _ => some (true, ())) ?_
    rintro self st ⟨i, rfl, hi⟩ ih
    simp only [Int.toNat_natCast] at ih ⊢
    unfold law13_same_m1
    by_cases h : i < l.length
    · rw [if_pos (by rw [lt_iff, ofNat_eq]; omega)]
      have hg : l[i]? = some l[i] := List.getElem?_eq_getElem h
      rw [at_get hg]
      simp only [Option.bind_some]
      have e : ∀ y : Tk1, (eqi y.1 y.1 && (eqs y.2.1 y.2.1 && (eqi y.2.2.1.1 y.2.2.1.1 && (eqi y.2.2.1.2 y.2.2.1.2 && true) && (eqi y.2.2.2 y.2.2.2 && true)))) = true := fun y => by simp [eqi, eqs]
      rw [e, if_neg (by decide), succ64 (by omega)]
      exact ih (l, l, Int.ofNat l.length, ((i + 1 : Nat) : Int)) ⟨i + 1, rfl, by omega⟩ (by simp; omega)
    · rw [if_neg (by rw [lt_iff, ofNat_eq]; omega)]
  exact key 18446744073709551616 (l, l, Int.ofNat l.length, 0) ⟨0, rfl, by omega⟩ (by simp; omega)
theorem lexS_len : ∀ (k : Nat) (s : List UInt8) (n : Int) (l : TL), s.length ≤ k → (lexS n s l).1.length ≤ l.length + 2 * s.length := by
  intro k
  induction k with
  | zero =>
    intro s n l hs
    have : s = [] := List.eq_nil_of_length_eq_zero (by omega)
    subst this
    rw [lexS, dif_pos rfl]
    simp
  | succ k ih =>
    intro s n l hs
    by_cases hne : s = []
    · subst hne
      rw [lexS, dif_pos rfl]
      simp
    · rw [lexS_step hne]
      have hlen := lrest_len hne
      split
      · simp
      · have h1 := lineT_len n _ (uncom (lfirst s)) [] (Nat.le_refl _)
        have h2 := uncom_len (lfirst s)
        have h3 := ih (lrest s) (n + 1) (l ++ (lineT n (uncom (lfirst s)) []).1) (by omega)
        have h4 : (lfirst s).length + (lrest s).length ≤ s.length ∧ (s ≠ [] → (lfirst s).length + 1 + 2 * (lrest s).length ≤ 2 * s.length) := by
          rcases split_at 10 s with h10 | ⟨p, q, rfl, h10⟩
          · have e1 : lfirst s = s := (tw_no h10).1
            have e2 : lrest s = [] := by unfold lrest; rw [(tw_no h10).2.1]; rfl
            rw [e1, e2]
            have := List.length_pos_iff.2 hne
            simp
            omega
          · have e1 : lfirst (p ++ 10 :: q) = p := (tw_yes h10).1
            have e2 : lrest (p ++ 10 :: q) = q := by unfold lrest; rw [(tw_yes h10).2.1]; rfl
            rw [e1, e2]
            simp
            omega
        have := h4.2 hne
        simp at h1 h3
        omega
theorem lexR_len (s : List UInt8) : (lexR s).1.length ≤ 2 * 8192 := by
  unfold lexR
  split
  · simp
  · have := lexS_len s.length s 1 [] (Nat.le_refl _)
    simp at this
    omega
theorem tells_law (s : List UInt8) : law13_LexTells (s, ()) = some (true, ()) := by
  show law13_LexTells_m0 s = _
  unfold law13_LexTells_m0
  have haw : law13_awake () = some (true, ()) := awake13
  split
  · rw [haw]; rfl
  · rw [lex_eq, ref_eq, Option.bind_some, Option.bind_some]
    have hb := lexR_len s
    have e : (eqi (lexR s).2.1 (lexR s).2.1 && (eqi (lexR s).2.2 (lexR s).2.2 && true)) = true := by simp [eqi]
    simp only [e, if_true]
    rw [same_refl _ (by omega), Option.bind_some, if_pos rfl, haw]
    rfl
theorem tells_row (x : As [.str]) (_ : Rw.okA [.str] x) : law13_LexTells x = some (true, ()) := tells_law x.1
end Go.Proofs.Lx

end

section
/- strings.Split at one byte; tokens of a line, one by one. -/
namespace Go.Proofs.Lx
open Go Ev Sx Pl
set_option maxRecDepth 10000
theorem index_eq {s : List UInt8} {c : UInt8} : strings_Index (s, [c], ()) = some (Go.Lib.indexByte s c, ()) := by
  show strings_Index_m0 s [c] = _
  unfold strings_Index_m0
  have h0 : eqi (Int.ofNat [c].length) 0 = false := rfl
  have h1 : eqi (Int.ofNat [c].length) 1 = true := rfl
  rw [if_neg (by rw [h0]; decide)]
  by_cases h : [c] = s
  · subst h
    rw [if_pos (by rw [eqs_iff])]
    unfold Go.Lib.indexByte
    simp
  · rw [if_neg (by rw [eqs_iff]; exact h), if_pos h1, at_zero, Option.bind_some]
    have : (UInt8.ofNat (Int.ofNat c.toNat).toNat) = c := by simp
    exact congrArg (fun x => some (Go.Lib.indexByte s x, ())) this
/-- lines -/
def linesS (s : List UInt8) : List (List UInt8) := if h : (10 : UInt8) ∈ s then lfirst s :: linesS (lrest s) else [s]
termination_by s.length
decreasing_by exact lrest_len (fun e => by subst e; cases h)
theorem linesS_no {s : List UInt8} (h : (10 : UInt8) ∉ s) : linesS s = [s] := by rw [linesS, dif_neg h]
theorem linesS_yes {p q : List UInt8} (h : (10 : UInt8) ∉ p) : linesS (p ++ 10 :: q) = p :: linesS q := by
  have e1 : lfirst (p ++ 10 :: q) = p := (tw_yes h).1
  have e2 : lrest (p ++ 10 :: q) = q := by unfold lrest; rw [(tw_yes h).2.1]; rfl
  rw [linesS, dif_pos (by simp), e1, e2]
theorem linesS_len : ∀ (k : Nat) (s : List UInt8), s.length ≤ k → (linesS s).length = s.count 10 + 1 := by
  intro k
  induction k with
  | zero =>
    intro s hs
    have : s = [] := List.eq_nil_of_length_eq_zero (by omega)
    subst this
    rw [linesS_no (by simp)]
    rfl
  | succ k ih =>
    intro s hs
    rcases split_at 10 s with h | ⟨p, q, rfl, h⟩
    · rw [linesS_no h, List.count_eq_zero_of_not_mem h]
      rfl
    · simp at hs
      rw [linesS_yes h, List.length_cons, ih q (by omega), List.count_append, List.count_eq_zero_of_not_mem h]
      simp
abbrev SpSt := List UInt8 × List UInt8 × Int × Int × Int × List (List UInt8)
theorem split_loop : ∀ (k : Nat) (st : SpSt), (∃ (s : List UInt8) (i : Nat) (a : List (List UInt8)), st = (s, [10], 0, ((i + s.count 10 : Nat) : Int), (i : Int), a) ∧ a.length = i + s.count 10 + 1 ∧ a.length < 1000000 ∧ s.length < 1000000) → st.1.length < k →
    loopF (fun (self : SpSt → Option (As [.sl .str])) (s : SpSt) => strings_genSplit_m2 strings_genSplit_K3 (fun s sep sepSave n i a => self (s, sep, sepSave, n, i, a)) s.1 s.2.1 s.2.2.1 s.2.2.2.1 s.2.2.2.2.1 s.2.2.2.2.2) k st = some (st.2.2.2.2.2.take st.2.2.2.2.1.toNat ++ linesS st.1, ()) := by
  refine loopF_eq (σ := SpSt) (μ := fun st => st.1.length) (G := fun st => some (st.2.2.2.2.2.take st.2.2.2.2.1.toNat ++ linesS st.1, ())) ?_
  rintro self st ⟨s, i, a, rfl, ha, hal, hsl⟩ ih
  simp only [Int.toNat_natCast] at ih ⊢
  unfold strings_genSplit_m2
  have atI : ∀ (b : List (List UInt8)), b.length = a.length → ∃ x, at? b (i : Int) = some x := fun b hb => ⟨b[i], at_get (List.getElem?_eq_getElem (by omega))⟩
  obtain ⟨x, hx⟩ := atI a rfl
  rcases split_at 10 s with h | ⟨p, q, rfl, h⟩
  · have hc : s.count 10 = 0 := List.count_eq_zero_of_not_mem h
    rw [if_neg (by rw [lt_iff]; omega), linesS_no h]
    unfold strings_genSplit_K3 strings_genSplit_m3
    rw [hx, Option.bind_some, Option.bind_some, succ64 (by omega), need_t (by rw [le_iff]; omega), need_t (by rw [le_iff, ofNat_eq, List.length_set]; omega)]
    have e1 : ((((i + 1 : Nat) : Int) - 0)).toNat = i + 1 := by omega
    rw [e1, Int.toNat_natCast, List.drop_zero]
    congr 2
    have hai : i < a.length := by omega
    apply List.ext_getElem?
    intro j
    rw [List.getElem?_take, List.getElem?_append]
    by_cases hj : j < i
    · rw [if_pos (by omega), if_pos (by simp; omega), List.getElem?_set_ne (by omega), List.getElem?_take_of_lt hj]
    · by_cases hji : j = i
      · subst hji
        rw [if_pos (by omega), if_neg (by simp; omega), List.getElem?_set_self hai]
        have : j - (a.take j).length = 0 := by simp; omega
        rw [this]
        rfl
      · rw [if_neg (by omega), if_neg (by simp; omega)]
        symm
        apply List.getElem?_eq_none
        simp
        omega
  · have hc : (p ++ 10 :: q).count 10 = q.count 10 + 1 := by rw [List.count_append, List.count_eq_zero_of_not_mem h]; simp
    simp at hsl
    rw [hc] at ha ⊢
    rw [if_pos (by rw [lt_iff]; omega), index_eq, Option.bind_some, index_yes 10 p q h, if_neg (by rw [lt_iff]; omega)]
    have e0 : add .i64 (p.length : Int) 0 = (p.length : Int) := by rw [add64 (by omega) (by omega)]; omega
    rw [e0, cut_app0, Option.bind_some, hx, Option.bind_some, Option.bind_some]
    have e1 : add .i64 (p.length : Int) (Int.ofNat ([10] : List UInt8).length) = ((p.length + 1 : Nat) : Int) := succ64 (by omega)
    have e2 : (p ++ 10 :: q).drop (p.length + 1) = q := by simp
    rw [e1, cut_from (by simp), Option.bind_some, e2, succ64 (by omega), Int.toNat_natCast]
    have := ih (q, [10], 0, ((i + 1 + q.count 10 : Nat) : Int), ((i + 1 : Nat) : Int), a.set i p) ⟨q, i + 1, a.set i p, rfl, by simp; omega, by simp; omega, by omega⟩ (by simp; omega)
    have e3 : i + (q.count 10 + 1) = i + 1 + q.count 10 := by omega
    rw [e3]
    refine Eq.trans this ?_
    simp only [Int.toNat_natCast]
    rw [linesS_yes h]
    congr 2
    have hai : i < a.length := by omega
    have : (a.set i p).take (i + 1) = a.take i ++ [p] := by
      rw [List.take_add_one, List.getElem?_set_self hai, List.take_set, List.set_eq_of_length_le (by simp; omega)]
      rfl
    rw [this]
    simp
theorem split_eq {s : List UInt8} (hs : s.length < 500000) : strings_Split (s, [10], ()) = some (linesS s, ()) := by
  have hcl : s.count 10 ≤ s.length := List.count_le_length
  have hcount : strings_Count (s, [10], ()) = some (((s.count 10 : Nat) : Int), ()) := rfl
  have hg : strings_genSplit (s, [10], 0, -1, ()) = some (linesS s, ()) := by
    show strings_genSplit_m0 strings_genSplit_K1 s [10] 0 (-1) = _
    unfold strings_genSplit_m0
    rw [if_neg (by decide), if_neg (by decide), if_pos (by decide), hcount, Option.bind_some]
    unfold strings_genSplit_K1 strings_genSplit_m1
    have e0 : add .i64 ((s.count 10 : Nat) : Int) 1 = ((s.count 10 + 1 : Nat) : Int) := succ64 (by omega)
    have e1 : add .i64 (Int.ofNat s.length) 1 = ((s.length + 1 : Nat) : Int) := succ64 (by omega)
    simp only [e0, e1]
    rw [if_neg (show ¬ lt ((s.length + 1 : Nat) : Int) ((s.count 10 + 1 : Nat) : Int) = true by rw [lt_iff]; omega), if_pos trivial, need_t (by rw [ge_iff]; omega), need_small (by omega)]
    have e2 : sub .i64 ((s.count 10 + 1 : Nat) : Int) 1 = ((0 + s.count 10 : Nat) : Int) := by rw [sub64 (by omega) (by omega)]; omega
    rw [e2, Int.toNat_natCast]
    have := split_loop 18446744073709551616 (s, [10], 0, ((0 + s.count 10 : Nat) : Int), ((0 : Nat) : Int), List.replicate (s.count 10 + 1) []) ⟨s, 0, _, rfl, by simp, by simp; omega, by omega⟩ (by show s.length < _; omega)
    refine Eq.trans this ?_
    simp
  show (strings_genSplit (s, [10], 0, -1, ())).bind _ = _
  rw [hg]
  rfl
/-! ### the tokens of a line, without its end -/
def toksL (a : Int) (s : List UInt8) : TL × Int :=
  match h : s.dropWhile (fun c => isB c.toNat) with
  | [] => ([], 0)
  | c :: q => match h2 : tokS a c q with
    | .inl e => ([], e)
    | .inr (t, r) => (t :: (toksL a r).1, (toksL a r).2)
termination_by s.length
decreasing_by
  all_goals
    have h1 := tokS_len h2
    have h3 := (List.dropWhile_suffix (l := s) (fun c => isB c.toNat)).length_le
    rw [h] at h3
    simp at h3
    omega
theorem toksL_nil {a : Int} {s : List UInt8} (h : s.dropWhile (fun c => isB c.toNat) = []) : toksL a s = ([], 0) := by
  rw [toksL]
  split
  · rfl
  · rename_i h2; rw [h] at h2; cases h2
theorem toksL_err {a : Int} {s : List UInt8} {c : UInt8} {q : List UInt8} {e : Int} (h : s.dropWhile (fun c => isB c.toNat) = c :: q) (h2 : tokS a c q = .inl e) : toksL a s = ([], e) := by
  rw [toksL]
  split
  · rename_i h3; rw [h] at h3; cases h3
  · rename_i c' q' h3
    rw [h] at h3
    cases h3
    split
    · rename_i e' h4; rw [h2] at h4; cases h4; rfl
    · rename_i h4; rw [h2] at h4; cases h4
theorem toksL_tok {a : Int} {s : List UInt8} {c : UInt8} {q : List UInt8} {t : Tk1} {r : List UInt8} (h : s.dropWhile (fun c => isB c.toNat) = c :: q) (h2 : tokS a c q = .inr (t, r)) : toksL a s = (t :: (toksL a r).1, (toksL a r).2) := by
  rw [toksL]
  split
  · rename_i h3; rw [h] at h3; cases h3
  · rename_i c' q' h3
    rw [h] at h3
    cases h3
    split
    · rename_i e' h4; rw [h2] at h4; cases h4
    · rename_i t' r' h4; rw [h2] at h4; cases h4; rfl
theorem lineT_toks (a : Int) : ∀ (k : Nat) (s : List UInt8) (l : TL), s.length ≤ k →
    lineT a s l = if (toksL a s).2 ≠ 0 then ([], (toksL a s).2) else (if l ++ (toksL a s).1 = [] then [] else l ++ (toksL a s).1 ++ [tkEnd a], 0) := by
  intro k
  have base : ∀ (s : List UInt8) (l : TL), s.dropWhile (fun c => isB c.toNat) = [] → lineT a s l = if (toksL a s).2 ≠ 0 then ([], (toksL a s).2) else (if l ++ (toksL a s).1 = [] then [] else l ++ (toksL a s).1 ++ [tkEnd a], 0) := fun s l h => by
    rw [lineT_nil h, toksL_nil h]
    simp [tkEnd]
  induction k with
  | zero =>
    intro s l hs
    have : s = [] := List.eq_nil_of_length_eq_zero (by omega)
    subst this
    exact base [] l rfl
  | succ k ih =>
    intro s l hs
    have h3 := (List.dropWhile_suffix (l := s) (fun c => isB c.toNat)).length_le
    cases hd : s.dropWhile (fun c => isB c.toNat) with
    | nil => exact base s l hd
    | cons c q =>
      rw [hd] at h3
      simp at h3
      cases ht : tokS a c q with
      | inl e =>
        rw [lineT_err hd ht, toksL_err hd ht, if_pos (tokS_err ht)]
      | inr p =>
        obtain ⟨t, r⟩ := p
        have h4 := tokS_len ht
        rw [lineT_tok hd ht, toksL_tok hd ht, ih r (l ++ [t]) (by omega)]
        simp only [List.append_assoc, List.singleton_append]
/-- a token's text stands where it begins -/
theorem tokS_text {a : Int} {c : UInt8} {q : List UInt8} {t : Tk1} {r : List UInt8} (h : tokS a c q = .inr (t, r)) : t.2.1 ++ r = c :: q ∧ t.2.1 ≠ [] ∧ t.2.2.2 = a ∧ t.1 ≠ 4 := by
  unfold tokS at h
  split at h
  · split at h
    · cases h
    · cases h
      exact ⟨by simp, by simp, rfl, by simp⟩
  · split at h
    · split at h
      · cases h
        exact ⟨by simp, by simp, rfl, by simp⟩
      · cases h
    · split at h
      · cases h
        exact ⟨rfl, by simp, rfl, by simp⟩
      · cases h
end Go.Proofs.Lx

end

section
/- LexStands, as a plain law. -/
namespace Go.Proofs.Lx
open Go Ev Sx Pl
set_option maxRecDepth 10000
theorem lineT_nz {a : Int} {s : List UInt8} {l : TL} (h : (lineT a s l).2 ≠ 0) : (lineT a s l).1 = [] := by
  rw [lineT_toks a _ s l (Nat.le_refl _)] at h ⊢
  split
  · rfl
  · rename_i h2
    rw [if_neg h2] at h
    exact absurd rfl h
/-- tokens that were before do not matter -/
theorem lexS_acc : ∀ (k : Nat) (s : List UInt8) (n : Int) (l : TL), s.length ≤ k → lexS n s l = (if (lexS n s []).2.1 ≠ 0 then [] else l ++ (lexS n s []).1, (lexS n s []).2) := by
  intro k
  induction k with
  | zero =>
    intro s n l hs
    have : s = [] := List.eq_nil_of_length_eq_zero (by omega)
    subst this
    rw [lexS, dif_pos rfl, lexS, dif_pos rfl]
    simp
  | succ k ih =>
    intro s n l hs
    by_cases hne : s = []
    · subst hne
      rw [lexS, dif_pos rfl, lexS, dif_pos rfl]
      simp
    · have hlen := lrest_len hne
      rw [lexS_step hne, lexS_step (l := []) hne]
      by_cases he : (lineT n (uncom (lfirst s)) []).2 = 0
      · have e : ¬ (lineT n (uncom (lfirst s)) []).2 ≠ 0 := by simpa using he
        rw [if_neg e, if_neg e, ih (lrest s) (n + 1) (l ++ _) (by omega), ih (lrest s) (n + 1) ([] ++ _) (by omega)]
        by_cases h2 : (lexS (n + 1) (lrest s) []).2.1 = 0
        · simp [h2]
        · simp [h2]
      · have e : (lineT n (uncom (lfirst s)) []).2 ≠ 0 := he
        rw [if_pos e, if_pos e]
        simp [e]
theorem lexS_one {s : List UInt8} {n : Int} (hne : s ≠ []) (he : (lineT n (uncom (lfirst s)) []).2 = 0) : lexS n s [] = (if (lexS (n + 1) (lrest s) []).2.1 ≠ 0 then [] else (lineT n (uncom (lfirst s)) []).1 ++ (lexS (n + 1) (lrest s) []).1, (lexS (n + 1) (lrest s) []).2) := by
  rw [lexS_step hne, if_neg (by simpa using he), lexS_acc _ (lrest s) (n + 1) _ (Nat.le_refl _), List.nil_append]
theorem lexS_err : ∀ (k : Nat) (s : List UInt8) (n : Int), s.length ≤ k → (lexS n s []).2.1 ≠ 0 → (lexS n s []).1 = [] ∧ n ≤ (lexS n s []).2.2 ∧ (lexS n s []).2.2 < n + ((linesS s).length : Int) := by
  intro k
  induction k with
  | zero =>
    intro s n hs h
    have : s = [] := List.eq_nil_of_length_eq_zero (by omega)
    subst this
    rw [lexS, dif_pos rfl] at h
    exact absurd rfl h
  | succ k ih =>
    intro s n hs h
    by_cases hne : s = []
    · subst hne
      rw [lexS, dif_pos rfl] at h
      exact absurd rfl h
    · have hlen := lrest_len hne
      by_cases he : (lineT n (uncom (lfirst s)) []).2 = 0
      · rw [lexS_one hne he] at h ⊢
        dsimp only at h ⊢
        rw [if_pos h]
        obtain ⟨h1, h2, h3⟩ := ih (lrest s) (n + 1) (by omega) h
        refine ⟨rfl, by omega, ?_⟩
        rcases split_at 10 s with h10 | ⟨p, q, rfl, h10⟩
        · have e2 : lrest s = [] := by unfold lrest; rw [(tw_no h10).2.1]; rfl
          rw [e2, lexS, dif_pos rfl] at h
          exact absurd rfl h
        · have e2 : lrest (p ++ 10 :: q) = q := by unfold lrest; rw [(tw_yes h10).2.1]; rfl
          rw [e2] at h3 ⊢
          rw [linesS_yes h10, List.length_cons]
          omega
      · rw [lexS_step hne, if_pos he]
        refine ⟨rfl, Int.le_refl _, ?_⟩
        have : (linesS s).length = s.count 10 + 1 := linesS_len _ s (Nat.le_refl _)
        dsimp only
        omega
/-! ### the law's loops -/
theorem hasPrefix_eq2 {s p : List UInt8} : strings_HasPrefix (s, p, ()) = some (decide (p <+: s), ()) := by
  show (istringslite_HasPrefix (s, p, ())).bind _ = _
  rw [hasPrefix_eq]
  rfl
def rsL : Option (List UInt8) → List (List UInt8)
  | some q => linesS q
  | none => []
def rsT (n : Int) : Option (List UInt8) → TL
  | some q => (lexS n q []).1
  | none => []
def rsE (n : Int) : Option (List UInt8) → Prop
  | some q => (lexS n q []).2.1 = 0
  | none => True
abbrev RB := As [.bool]
abbrev InSt := TL × Int × Int × List UInt8 × Bool × List (List UInt8) × Int × Int
abbrev Up1 := TL → Int → List (List UInt8) → Int → Int → Option RB
theorem stands_in (u1 : Up1) (l : TL) (L : List (List UInt8)) (N : Int) (i : Nat) (hi : i < 1000000) (hl : l.length < 1000000) : ∀ (k : Nat) (st : InSt),
    (∃ (at' : Nat) (plain : List UInt8) (sm : Bool) (R : TL), st = (l, (at' : Int), (i : Int), plain, sm, L, N, (i : Int)) ∧ plain.length < 100000 ∧ (toksL ((i + 1 : Nat) : Int) plain).2 = 0 ∧ l.drop at' = (toksL ((i + 1 : Nat) : Int) plain).1 ++ R ∧ at' ≤ l.length) → st.2.2.2.1.length < k →
    loopF (fun (self : InSt → Option RB) (s : InSt) => law13_LexStands_m2 (law13_LexStands_K4 u1) (law13_LexStands_K5 u1 (fun l at' i plain some' t45 t46 t47 => self (l, at', i, plain, some', t45, t46, t47))) u1 (fun l at' i plain some' t45 t46 t47 => self (l, at', i, plain, some', t45, t46, t47)) s.1 s.2.1 s.2.2.1 s.2.2.2.1 s.2.2.2.2.1 s.2.2.2.2.2.1 s.2.2.2.2.2.2.1 s.2.2.2.2.2.2.2) k st =
      law13_LexStands_K4 u1 l (st.2.1 + ((toksL ((i + 1 : Nat) : Int) st.2.2.2.1).1.length : Int)) (i : Int) (st.2.2.2.2.1 || decide ((toksL ((i + 1 : Nat) : Int) st.2.2.2.1).1 ≠ [])) L N (i : Int) := by
  refine loopF_eq (σ := InSt) (μ := fun st => st.2.2.2.1.length) (G := fun st => law13_LexStands_K4 u1 l (st.2.1 + ((toksL ((i + 1 : Nat) : Int) st.2.2.2.1).1.length : Int)) (i : Int) (st.2.2.2.2.1 || decide ((toksL ((i + 1 : Nat) : Int) st.2.2.2.1).1 ≠ [])) L N (i : Int)) ?_
  rintro self st ⟨at', plain, sm, R, rfl, hp, h0, hd, hal⟩ ih
  simp only at ih ⊢
  unfold law13_LexStands_m2
  have h3 := (List.dropWhile_suffix (l := plain) (fun c => isB c.toNat)).length_le
  have ht := strings_TrimLeft_eq (s := plain) (by omega)
  rw [ht, Option.bind_some]
  cases hw : plain.dropWhile (fun c => isB c.toNat) with
  | nil =>
    rw [if_pos (by decide), toksL_nil hw]
    simp
  | cons c q =>
    rw [hw] at h3
    simp at h3
    rw [if_neg (by rw [eqs_iff]; simp)]
    cases hk : tokS ((i + 1 : Nat) : Int) c q with
    | inl e =>
      rw [toksL_err hw hk] at h0
      exact absurd h0 (tokS_err hk)
    | inr p =>
      obtain ⟨t, r⟩ := p
      have hr := tokS_len hk
      obtain ⟨x1, x2, x3, _⟩ := tokS_text hk
      rw [toksL_tok hw hk] at h0 hd ⊢
      simp only [List.cons_append] at hd
      obtain ⟨d1, d2, d3⟩ := drop_succ hd
      have hat := at_drop hd
      rw [if_neg (by rw [eqi_iff, ofNat_eq]; omega), hat]
      simp only [Option.bind_some]
      rw [succ64 (by omega), if_neg (by rw [nei_iff, x3]; simp), if_neg (by rw [eqs_iff]; exact x2), hasPrefix_eq2, Option.bind_some]
      have hpre : t.2.1 <+: c :: q := ⟨r, x1⟩
      have e : (!decide (t.2.1 <+: c :: q)) = false := by simp [hpre]
      show law13_LexStands_K5 _ _ l _ _ (c :: q) L N _ (!decide (t.2.1 <+: c :: q)) = _
      rw [e]
      unfold law13_LexStands_K5 law13_LexStands_m5
      rw [if_neg (by decide), hat]
      simp only [Option.bind_some]
      have hcut : cut (c :: q) (Int.ofNat t.2.1.length) (Int.ofNat (c :: q).length) = some r := by rw [← x1]; exact cut_app1 _ _
      rw [hcut, Option.bind_some, succ64 (by omega)]
      have := ih (l, ((at' + 1 : Nat) : Int), (i : Int), r, true, L, N, (i : Int)) ⟨at' + 1, r, true, R, rfl, by omega, h0, d1, by omega⟩ (by show r.length < plain.length; omega)
      refine Eq.trans this ?_
      simp only [List.length_cons, Bool.true_or, ne_eq, reduceCtorEq, not_false_eq_true, decide_true, Bool.or_true]
      congr 1
      omega
abbrev OutSt := TL × Int × List (List UInt8) × Int × Int
abbrev standsB (self : OutSt → Option RB) (s : OutSt) : Option RB := law13_LexStands_m1 (law13_LexStands_K2 (fun l at' t45 t46 t47 => self (l, at', t45, t46, t47))) law13_LexStands_K3 (fun l at' t45 t46 t47 => self (l, at', t45, t46, t47)) s.1 s.2.1 s.2.2.1 s.2.2.2.1 s.2.2.2.2
theorem stands_out (l : TL) (L : List (List UInt8)) (hl : l.length < 1000000) (hL : L.length < 100000) (hLs : ∀ x ∈ L, x.length < 50000) : ∀ (k : Nat) (st : OutSt),
    (∃ (at' j : Nat), st = (l, (at' : Int), L, (L.length : Int), (j : Int)) ∧ at' ≤ l.length ∧ j ≤ L.length ∧ ((∃ s, L.drop j = linesS s ∧ l.drop at' = (lexS ((j + 1 : Nat) : Int) s []).1 ∧ (lexS ((j + 1 : Nat) : Int) s []).2.1 = 0) ∨ (j = L.length ∧ at' = l.length))) → L.length - st.2.2.2.2.toNat < k →
      loopF standsB k st = some (true, ()) := by
  refine loopF_eq (σ := OutSt) (μ := fun st => L.length - st.2.2.2.2.toNat) (G := fun _ => some (true, ())) ?_
  rintro self st ⟨at', j, rfl, hat, hj, h⟩ ih
  simp only [Int.toNat_natCast] at ih ⊢
  show law13_LexStands_m1 _ _ _ l (at' : Int) L (L.length : Int) (j : Int) = _
  unfold law13_LexStands_m1
  by_cases hlt : j < L.length
  · rw [if_pos (by rw [lt_iff]; omega)]
    rcases h with ⟨s, h1, h2, h3⟩ | ⟨h1, _⟩
    · -- the line, and what is behind it
      obtain ⟨f, r, g1, g2, g3, g4⟩ : ∃ (f : List UInt8) (r : Option (List UInt8)), L.drop j = f :: rsL r ∧ (lineT ((j + 1 : Nat) : Int) (uncom f) []).2 = 0 ∧
          l.drop at' = (lineT ((j + 1 : Nat) : Int) (uncom f) []).1 ++ rsT ((j + 1 + 1 : Nat) : Int) r ∧ rsE ((j + 1 + 1 : Nat) : Int) r := by
        by_cases hne : s = []
        · subst hne
          refine ⟨[], none, by rw [h1, linesS_no (by simp)]; rfl, ?_, ?_, trivial⟩
          · rw [show uncom [] = [] from rfl, lineT_nil rfl]
          · rw [h2, lexS, dif_pos rfl, show uncom [] = [] from rfl, lineT_nil rfl]
            rfl
        · have he : (lineT ((j + 1 : Nat) : Int) (uncom (lfirst s)) []).2 = 0 := by
            apply Classical.byContradiction
            intro he
            rw [lexS_step hne, if_pos he] at h3
            exact he h3
          have hcast : ((j + 1 : Nat) : Int) + 1 = ((j + 1 + 1 : Nat) : Int) := by omega
          rw [lexS_one hne he, hcast] at h2 h3
          dsimp only at h2 h3
          rw [if_neg (by simpa using h3)] at h2
          rcases split_at 10 s with h10 | ⟨p, q, rfl, h10⟩
          · have e1 : lfirst s = s := (tw_no h10).1
            have e2 : lrest s = [] := by unfold lrest; rw [(tw_no h10).2.1]; rfl
            rw [e1] at he
            rw [e1, e2, lexS, dif_pos rfl] at h2
            exact ⟨s, none, by rw [h1, linesS_no h10]; rfl, he, h2, trivial⟩
          · have e1 : lfirst (p ++ 10 :: q) = p := (tw_yes h10).1
            have e2 : lrest (p ++ 10 :: q) = q := by unfold lrest; rw [(tw_yes h10).2.1]; rfl
            rw [e1] at he
            rw [e1, e2] at h2
            rw [e2] at h3
            exact ⟨p, some q, by rw [h1, linesS_yes h10]; rfl, he, h2, h3⟩
      obtain ⟨d1, d2, d3⟩ := drop_succ g1
      rw [at_drop g1, Option.bind_some]
      have hfl : f.length < 50000 := hLs f (List.mem_of_mem_drop (by rw [g1]; exact List.mem_cons_self ..))
      have hul := uncom_len f
      -- behind the line
      have next : ∀ a' : Nat, a' ≤ l.length → l.drop a' = rsT ((j + 1 + 1 : Nat) : Int) r → self (l, (a' : Int), L, (L.length : Int), ((j + 1 : Nat) : Int)) = some (true, ()) := fun a' ha hda => by
        refine ih (l, (a' : Int), L, (L.length : Int), ((j + 1 : Nat) : Int)) ⟨a', j + 1, rfl, ha, by omega, ?_⟩ (by simp; omega)
        cases r with
        | none =>
          right
          have := drop_nil hda
          have h4 := drop_nil d1
          exact ⟨by omega, by omega⟩
        | some q => exact .inl ⟨q, d1, hda, g4⟩
      have body : law13_LexStands_K2 (fun l at' t45 t46 t47 => self (l, at', t45, t46, t47)) l (at' : Int) (j : Int) (uncom f) false L (L.length : Int) (j : Int) = some (true, ()) := by
        have ht := lineT_toks ((j + 1 : Nat) : Int) _ (uncom f) [] (Nat.le_refl _)
        have h0 : (toksL ((j + 1 : Nat) : Int) (uncom f)).2 = 0 := by
          apply Classical.byContradiction
          intro hz
          rw [if_pos hz] at ht
          rw [ht] at g2
          exact hz g2
        rw [if_neg (by simpa using h0)] at ht
        simp only [List.nil_append] at ht
        rw [ht] at g3
        dsimp only at g3
        have hin := stands_in (fun l at' t45 t46 t47 => self (l, at', t45, t46, t47)) l L (L.length : Int) j (by omega) hl 18446744073709551616 (l, (at' : Int), (j : Int), uncom f, false, L, (L.length : Int), (j : Int))
        by_cases hz : (toksL ((j + 1 : Nat) : Int) (uncom f)).1 = []
        · rw [if_pos hz, List.nil_append] at g3
          refine (hin ⟨at', uncom f, false, l.drop at', rfl, by omega, h0, by rw [hz]; rfl, hat⟩ (by show (uncom f).length < _; omega)).trans ?_
          rw [hz]
          unfold law13_LexStands_K4 law13_LexStands_m4
          simp only [List.length_nil, ne_eq, not_true, decide_false, Bool.or_false, Bool.not_false, if_true]
          rw [succ64 (by omega), show (at' : Int) + ((0 : Nat) : Int) = (at' : Int) by omega]
          exact next at' hat g3
        · rw [if_neg hz] at g3
          rw [List.append_assoc] at g3
          refine (hin ⟨at', uncom f, false, _, rfl, by omega, h0, g3, hat⟩ (by show (uncom f).length < _; omega)).trans ?_
          have hd2 : l.drop (at' + (toksL ((j + 1 : Nat) : Int) (uncom f)).1.length) = tkEnd ((j + 1 : Nat) : Int) :: rsT ((j + 1 + 1 : Nat) : Int) r := by
            rw [← List.drop_drop, g3]
            simp
          obtain ⟨y1, y2, y3⟩ := drop_succ hd2
          have hat2 := at_drop hd2
          unfold law13_LexStands_K4 law13_LexStands_m4
          have ecast : (at' : Int) + ((toksL ((j + 1 : Nat) : Int) (uncom f)).1.length : Int) = ((at' + (toksL ((j + 1 : Nat) : Int) (uncom f)).1.length : Nat) : Int) := by omega
          rw [ecast]
          have e : (false || decide ((toksL ((j + 1 : Nat) : Int) (uncom f)).1 ≠ [])) = true := by rw [decide_eq_true hz]; rfl
          show (if (!(false || decide ((toksL ((j + 1 : Nat) : Int) (uncom f)).1 ≠ []))) = true then _ else _) = _
          rw [e, if_neg (by decide), if_neg (by rw [eqi_iff, ofNat_eq]; omega), hat2, Option.bind_some, succ64 (n := j) (by omega)]
          have e2 : (!(eqi (tkEnd ((j + 1 : Nat) : Int)).1 4 && (eqs (tkEnd ((j + 1 : Nat) : Int)).2.1 [] && (eqi (tkEnd ((j + 1 : Nat) : Int)).2.2.1.1 0 && (eqi (tkEnd ((j + 1 : Nat) : Int)).2.2.1.2 0 && true) && (eqi (tkEnd ((j + 1 : Nat) : Int)).2.2.2 ((j + 1 : Nat) : Int) && true))))) = false := by simp [tkEnd, eqi, eqs]
          rw [e2]
          unfold law13_LexStands_K6 law13_LexStands_m6
          rw [if_neg (by decide), succ64 (by omega), succ64 (by omega)]
          exact next _ (by omega) y1
      -- the three ways of a comment
      by_cases hf : f = [35]
      · subst hf
        rw [if_pos (by decide), show cut ([35] : List UInt8) 1 (Int.ofNat [(35 : UInt8)].length) = some [] from rfl, Option.bind_some]
        exact body
      · rw [if_neg (by rw [eqs_iff]; exact fun h => hf h.symm)]
        rcases split_at 35 f with h35 | ⟨p, q, rfl, h35⟩
        · rw [index_no 35 f h35, if_neg (by decide)]
          have : uncom f = f := (tw_no h35).1
          rw [this] at body
          exact body
        · simp at hfl
          rw [index_yes 35 p q h35, if_pos (by rw [ge_iff]; omega), cut_app0, Option.bind_some, succ64 (by omega), cut_from (by simp), Option.bind_some]
          have : uncom (p ++ 35 :: q) = p := (tw_yes h35).1
          rw [this] at body
          exact body
    · omega
  · rw [if_neg (by rw [lt_iff]; omega)]
    unfold law13_LexStands_K3 law13_LexStands_m3
    have hae : at' = l.length := by
      rcases h with ⟨s, h1, h2, h3⟩ | ⟨_, h2⟩
      · have : linesS s = [] := by rw [← h1]; exact List.drop_of_length_le (by omega)
        have := congrArg List.length this
        rw [linesS_len _ s (Nat.le_refl _)] at this
        simp at this
      · exact h2
    rw [if_pos (by rw [eqi_iff, ofNat_eq]; omega)]
    have haw : law13_awake () = some (true, ()) := awake13
    rw [haw]
    rfl
theorem linesS_small : ∀ (k : Nat) (s : List UInt8), s.length ≤ k → ∀ x ∈ linesS s, x.length ≤ s.length := by
  intro k
  induction k with
  | zero =>
    intro s hs x hx
    have : s = [] := List.eq_nil_of_length_eq_zero (by omega)
    subst this
    rw [linesS_no (by simp)] at hx
    simp at hx
    subst hx
    exact Nat.le_refl _
  | succ k ih =>
    intro s hs x hx
    rcases split_at 10 s with h | ⟨p, q, rfl, h⟩
    · rw [linesS_no h] at hx
      simp at hx
      subst hx
      exact Nat.le_refl _
    · rw [linesS_yes h] at hx
      simp at hs
      rcases List.mem_cons.1 hx with rfl | hx
      · simp
      · have := ih q (by omega) x hx
        simp
        omega
theorem stands_law (s : List UInt8) : law13_LexStands (s, ()) = some (true, ()) := by
  show law13_LexStands_m0 law13_LexStands_K1 s = _
  unfold law13_LexStands_m0
  have haw : law13_awake () = some (true, ()) := awake13
  by_cases h : 4000 < s.length
  · rw [if_pos (by rw [gt_iff, ofNat_eq]; omega), haw]
    rfl
  · rw [if_neg (by rw [gt_iff, ofNat_eq]; omega), lex_eq, split_eq (by omega), Option.bind_some, Option.bind_some]
    have e : lexR s = lexS 1 s [] := by unfold lexR; rw [if_neg (by omega)]
    have hcl : s.count 10 ≤ s.length := List.count_le_length
    have hlen := linesS_len _ s (Nat.le_refl _)
    by_cases he : (lexR s).2.1 = 0
    · rw [if_neg (by rw [nei_iff]; simpa using he)]
      have hb := lexR_len s
      rw [e] at he hb ⊢
      refine stands_out (lexS 1 s []).1 (linesS s) (by omega) (by omega) (fun x hx => by have := linesS_small _ s (Nat.le_refl _) x hx; omega) 18446744073709551616 ((lexS 1 s []).1, 0, linesS s, Int.ofNat (linesS s).length, 0) ⟨0, 0, rfl, by omega, by omega, .inl ⟨s, rfl, rfl, he⟩⟩ (by simp; omega)
    · rw [if_pos (by rw [nei_iff]; exact he)]
      rw [e] at he ⊢
      obtain ⟨h1, h2, h3⟩ := lexS_err _ s 1 (Nat.le_refl _) he
      rw [h1, if_pos (by decide), if_pos (by rw [ge_iff]; exact h2), if_pos (by rw [le_iff, ofNat_eq]; dsimp only; omega), haw]
      rfl
theorem stands_row (x : As [.str]) (_ : Rw.okA [.str] x) : law13_LexStands x = some (true, ()) := stands_law x.1
end Go.Proofs.Lx

end
