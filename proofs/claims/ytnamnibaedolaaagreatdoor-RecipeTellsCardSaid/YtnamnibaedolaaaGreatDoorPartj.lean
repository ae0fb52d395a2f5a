/- Proved in the last of these 12 parts (this is part 10): the law RecipeTells of chapter 14 returns true at every text and every two recipes. Conditions: those of the given statement, and no others. -/
import Derived.Test.YtnamnibaedolaaaGreatDoorParti
import Derived.Test.YtnamnibaedolaaaGreatDoorParte
set_option linter.unusedVariables false
set_option linter.unusedSimpArgs false
set_option linter.unusedSectionVars false
section
namespace Go.Proofs.Lx
open Go Ev Sx Pl
set_option maxRecDepth 10000
def lfirst (s : List UInt8) : List UInt8 := s.takeWhile (· != 10)
def lrest (s : List UInt8) : List UInt8 := (s.dropWhile (· != 10)).drop 1
theorem lrest_len {s : List UInt8} (h : s ≠ []) : (lrest s).length < s.length := by
  have h3 := (List.dropWhile_suffix (l := s) (· != 10)).length_le
  have hp := List.length_pos_iff.2 h
  unfold lrest
  simp
  omega
def lexS (n : Int) (s : List UInt8) (l : TL) : TL × (Int × Int) :=
  if h : s = [] then (l, (0, 0)) else if (lineT n (uncom (lfirst s)) []).2 ≠ 0 then ([], ((lineT n (uncom (lfirst s)) []).2, n)) else lexS (n + 1) (lrest s) (l ++ (lineT n (uncom (lfirst s)) []).1)
termination_by s.length
decreasing_by exact lrest_len h
def tkEnd (n : Int) : Tk1 := (4, [], (0, 0), n)
def refS (n : Int) (s : List UInt8) (sm : Bool) (out : TL) : TL × (Int × Int) :=
  match hs : s with
  | [] => (if sm then out ++ [tkEnd n] else out, (0, 0))
  | c :: q => if c = 10 then refS (n + 1) q false (if sm then out ++ [tkEnd n] else out)
    else if c = 35 then refS n (q.dropWhile (· != 10)) sm out
    else if isB c.toNat = true then refS n q sm out
    else match h : tokS n c q with
      | .inl e => ([], (e, n))
      | .inr (t, r) => refS n r true (out ++ [t])
termination_by s.length
decreasing_by
  · simp
  · have := (List.dropWhile_suffix (l := q) (· != 10)).length_le
    simp; omega
  · simp
  · have := tokS_len h
    simp; omega
theorem refS_nil {n : Int} {sm : Bool} {out : TL} : refS n [] sm out = (if sm then out ++ [tkEnd n] else out, (0, 0)) := by rw [refS]
theorem refS_nl {n : Int} {q : List UInt8} {sm : Bool} {out : TL} : refS n (10 :: q) sm out = refS (n + 1) q false (if sm then out ++ [tkEnd n] else out) := by rw [refS]; simp
theorem refS_com {n : Int} {q : List UInt8} {sm : Bool} {out : TL} : refS n (35 :: q) sm out = refS n (q.dropWhile (· != 10)) sm out := by rw [refS]; simp
theorem refS_bl {n : Int} {c : UInt8} {q : List UInt8} {sm : Bool} {out : TL} (h : isB c.toNat = true) : refS n (c :: q) sm out = refS n q sm out := by
  have h1 : c ≠ 10 := fun e => by subst e; cases h
  have h2 : c ≠ 35 := fun e => by subst e; cases h
  rw [refS, if_neg h1, if_neg h2, if_pos h]
theorem refS_tok {n : Int} {c : UInt8} {q : List UInt8} {sm : Bool} {out : TL} (h1 : c ≠ 10) (h2 : c ≠ 35) (h3 : isB c.toNat = false) : refS n (c :: q) sm out = match tokS n c q with
      | .inl e => ([], (e, n))
      | .inr (t, r) => refS n r true (out ++ [t]) := by
  rw [refS, if_neg h1, if_neg h2, if_neg (by rw [h3]; decide)]
  split
  · rename_i h; rw [h]
  · rename_i h; rw [h]
theorem tokS_err {a : Int} {c : UInt8} {q : List UInt8} {e : Int} (h : tokS a c q = .inl e) : e ≠ 0 := by
  unfold tokS at h
  split at h
  · split at h
    · cases h; decide
    · cases h
  · split at h
    · split at h
      · cases h
      · cases h; decide
    · split at h
      · cases h
      · cases h; decide
theorem uncom_cons {c : UInt8} (h : c ≠ 35) (u : List UInt8) : uncom (c :: u) = c :: uncom u := by simp [uncom, h]
theorem tw_far {p : UInt8 -> Bool} (h35 : p 35 = false) (h10 : p 10 = false) {tail : List UInt8} (ht : ∀ c q, tail = c :: q -> c = 10) : ∀ u : List UInt8,
    (u ++ tail).takeWhile p = (uncom u).takeWhile p ∧ (u ++ tail).dropWhile p = u.dropWhile p ++ tail ∧ uncom (u.dropWhile p) = (uncom u).dropWhile p
  | [] => by
    cases tail with
    | nil => exact ⟨rfl, rfl, rfl⟩
    | cons c q => obtain rfl := ht c q rfl; simp [h10, uncom]
  | c :: u => by
    obtain ⟨i1, i2, i3⟩ := tw_far h35 h10 ht u
    by_cases hc : c = 35
    · subst hc
      simp [h35, uncom]
    · rw [uncom_cons hc]
      cases hp : p c
      · simp [hp, uncom_cons hc]
      · simp [hp, i1, i2, i3]
theorem tokS_far {a : Int} {c : UInt8} {u tail : List UInt8} (ht : ∀ c q, tail = c :: q -> c = 10) :
    (∃ e, tokS a c (u ++ tail) = .inl e ∧ tokS a c (uncom u) = .inl e) ∨ ∃ t r, tokS a c (u ++ tail) = .inr (t, r ++ tail) ∧ tokS a c (uncom u) = .inr (t, uncom r) ∧ r.length ≤ u.length := by
  have hw := tw_far (p := fun c => wm c.toNat) rfl rfl ht u
  have hn := tw_far (p := fun c => nm c.toNat) rfl rfl ht u
  have hd : ∀ p : UInt8 -> Bool, (u.dropWhile p).length ≤ u.length := fun p => (List.dropWhile_suffix p).length_le
  unfold tokS
  rw [hw.1, hn.1, hw.2.1, hn.2.1, <- hw.2.2, <- hn.2.2]
  split
  · split
    · exact .inl ⟨_, rfl, rfl⟩
    · exact .inr ⟨_, _, rfl, rfl, hd _⟩
  · split
    · split
      · exact .inr ⟨_, _, rfl, rfl, hd _⟩
      · exact .inl ⟨_, rfl, rfl⟩
    · split
      · exact .inr ⟨_, _, rfl, rfl, Nat.le_refl _⟩
      · exact .inl ⟨_, rfl, rfl⟩
theorem lineT_bl {a : Int} {c : UInt8} {s : List UInt8} {l : TL} (h : isB c.toNat = true) : lineT a (c :: s) l = lineT a s l := by
  have e : (c :: s).dropWhile (fun c => isB c.toNat) = s.dropWhile (fun c => isB c.toNat) := by simp [h]
  cases hd : s.dropWhile (fun c => isB c.toNat) with
  | nil => rw [lineT_nil (e.trans hd), lineT_nil hd]
  | cons x q =>
    cases ht : tokS a x q with
    | inl er => rw [lineT_err (e.trans hd) ht, lineT_err hd ht]
    | inr p => obtain ⟨t, r⟩ := p; rw [lineT_tok (e.trans hd) ht, lineT_tok hd ht]
theorem not_blank_head {c : UInt8} {s : List UInt8} (h : isB c.toNat = false) : (c :: s).dropWhile (fun c => isB c.toNat) = c :: s := by simp [h]
theorem refS_line (n : Int) (L : TL) {tail : List UInt8} (ht : ∀ c q, tail = c :: q -> c = 10) : ∀ (k : Nat) (u : List UInt8) (l : TL), u.length ≤ k -> 10 ∉ u ->
    refS n (u ++ tail) (decide (l ≠ [])) (L ++ l) = if (lineT n (uncom u) l).2 ≠ 0 then ([], ((lineT n (uncom u) l).2, n)) else (match tail with
      | [] => (L ++ (lineT n (uncom u) l).1, (0, 0))
      | _ :: rest => refS (n + 1) rest false (L ++ (lineT n (uncom u) l).1)) := by
  have atEnd : ∀ (l : TL), refS n tail (decide (l ≠ [])) (L ++ l) = if (lineT n [] l).2 ≠ 0 then ([], ((lineT n [] l).2, n)) else (match tail with
      | [] => (L ++ (lineT n [] l).1, (0, 0))
      | _ :: rest => refS (n + 1) rest false (L ++ (lineT n [] l).1)) := fun l => by
    have e : lineT n [] l = (if l = [] then [] else l ++ [tkEnd n], 0) := lineT_nil rfl
    rw [e, if_neg (by simp)]
    have e2 : (if decide (l ≠ []) = true then L ++ l ++ [tkEnd n] else L ++ l) = L ++ (if l = [] then [] else l ++ [tkEnd n]) := by
      by_cases hl : l = []
      · simp [hl]
      · simp [hl]
    cases tail with
    | nil => rw [refS_nil, e2]
    | cons c q =>
      obtain rfl := ht c q rfl
      rw [refS_nl, e2]
  intro k
  induction k with
  | zero =>
    intro u l hu h10
    have : u = [] := List.eq_nil_of_length_eq_zero (by omega)
    subst this
    exact atEnd l
  | succ k ih =>
    intro u l hu h10
    cases u with
    | nil => exact atEnd l
    | cons c u =>
      have hc10 : c ≠ 10 := fun e => h10 (by simp [e])
      have h10' : (10 : UInt8) ∉ u := fun h => h10 (List.mem_cons_of_mem _ h)
      simp at hu
      by_cases hc : c = 35
      · subst hc
        have e1 : uncom (35 :: u) = [] := by simp [uncom]
        have e2 : (u ++ tail).dropWhile (· != 10) = tail := by
          cases tail with
          | nil => rw [List.append_nil]; exact (tw_no h10').2.1
          | cons x q => obtain rfl := ht x q rfl; exact (tw_yes h10').2.1
        rw [List.cons_append, refS_com, e2, e1]
        exact atEnd l
      · rw [uncom_cons hc, List.cons_append]
        cases hb : isB c.toNat
        · rw [refS_tok hc10 hc hb]
          rcases tokS_far (a := n) (c := c) (u := u) ht with ⟨e, h1, h2⟩ | ⟨t, r, h1, h2, h3⟩
          · rw [h1, lineT_err (not_blank_head hb) h2, if_pos (tokS_err h2)]
          · rw [h1, lineT_tok (not_blank_head hb) h2]
            have hr10 : (10 : UInt8) ∉ r := fun hm => h10' (by
              have : ∃ p, u = p ++ r := by
                unfold tokS at h1
                have hs : ∀ p : UInt8 -> Bool, p 10 = false -> p 35 = false -> (u ++ tail).dropWhile p = r ++ tail -> ∃ q, u = q ++ r := fun p hp1 hp2 he => by
                  rw [(tw_far hp2 hp1 ht u).2.1] at he
                  have := List.append_cancel_right he
                  exact ⟨u.takeWhile p, by rw [<- this]; exact (List.takeWhile_append_dropWhile).symm⟩
                split at h1
                · split at h1
                  · cases h1
                  · injection h1 with h1; injection h1 with _ h1; exact hs _ rfl rfl h1
                · split at h1
                  · split at h1
                    · injection h1 with h1; injection h1 with _ h1; exact hs _ rfl rfl h1
                    · cases h1
                  · split at h1
                    · injection h1 with h1; injection h1 with _ h1
                      exact ⟨[], (List.append_cancel_right h1)⟩
                    · cases h1
              obtain ⟨p, hp⟩ := this
              rw [hp]
              exact List.mem_append_right _ hm)
            have := ih r (l ++ [t]) (by omega) hr10
            have e1 : decide (l ++ [t] ≠ []) = true := by simp
            rw [e1, <- List.append_assoc] at this
            exact this
        · rw [refS_bl hb, lineT_bl hb]
          exact ih u l (by omega) h10'
theorem refS_lexS : ∀ (k : Nat) (s : List UInt8) (n : Int) (l : TL), s.length ≤ k -> refS n s false l = lexS n s l := by
  intro k
  induction k with
  | zero =>
    intro s n l hs
    have : s = [] := List.eq_nil_of_length_eq_zero (by omega)
    subst this
    rw [refS_nil, lexS, dif_pos rfl]
    rfl
  | succ k ih =>
    intro s n l hs
    by_cases hne : s = []
    · subst hne
      rw [refS_nil, lexS, dif_pos rfl]
      rfl
    · rw [lexS, dif_neg hne]
      have hlen := lrest_len hne
      rcases split_at 10 s with h10 | ⟨p, q, rfl, h10⟩
      · have e1 : lfirst s = s := (tw_no h10).1
        have e2 : lrest s = [] := by unfold lrest; rw [(tw_no h10).2.1]; rfl
        have := refS_line n l (tail := []) (fun c q h => by cases h) s.length s [] (Nat.le_refl _) h10
        simp only [List.append_nil, ne_eq, not_true, decide_false] at this
        rw [e1, e2, this]
        by_cases he : (lineT n (uncom s) []).2 = 0
        · rw [if_neg (by simpa using he), if_neg (by simpa using he), lexS, dif_pos rfl]
        · rw [if_pos he, if_pos he]
      · have e1 : lfirst (p ++ 10 :: q) = p := (tw_yes h10).1
        have e2 : lrest (p ++ 10 :: q) = q := by unfold lrest; rw [(tw_yes h10).2.1]; rfl
        have := refS_line n l (tail := 10 :: q) (fun c q h => by cases h; rfl) p.length p [] (Nat.le_refl _) h10
        simp only [List.append_nil, ne_eq, not_true, decide_false] at this
        rw [e1, e2, this]
        by_cases he : (lineT n (uncom p) []).2 = 0
        · rw [if_neg (by simpa using he), if_neg (by simpa using he)]
          rw [e2] at hlen
          exact ih q (n + 1) _ (by omega)
        · rw [if_pos he, if_pos he]
end Go.Proofs.Lx
end
section
namespace Go.Proofs.Lx
open Go Ev Sx Pl
set_option maxRecDepth 10000
theorem lineT_len (a : Int) : ∀ (k : Nat) (s : List UInt8) (l : TL), s.length ≤ k -> (lineT a s l).1.length ≤ l.length + s.length + 1 := by
  intro k
  induction k with
  | zero =>
    intro s l hs
    have : s = [] := List.eq_nil_of_length_eq_zero (by omega)
    subst this
    rw [lineT_nil rfl]
    dsimp only
    split <;> simp
  | succ k ih =>
    intro s l hs
    have h3 := (List.dropWhile_suffix (l := s) (fun c => isB c.toNat)).length_le
    cases hd : s.dropWhile (fun c => isB c.toNat) with
    | nil =>
      rw [lineT_nil hd]
      dsimp only
      split
      · simp
      · simp
    | cons c q =>
      rw [hd] at h3
      simp at h3
      cases ht : tokS a c q with
      | inl e => rw [lineT_err hd ht]; simp
      | inr p =>
        obtain ⟨t, r⟩ := p
        rw [lineT_tok hd ht]
        have h4 := tokS_len ht
        have := ih r (l ++ [t]) (by omega)
        simp at this
        omega
theorem uncom_len (s : List UInt8) : (uncom s).length ≤ s.length := (List.takeWhile_prefix _).length_le
theorem lexS_step {n : Int} {s : List UInt8} {l : TL} (h : s ≠ []) : lexS n s l = if (lineT n (uncom (lfirst s)) []).2 ≠ 0 then ([], ((lineT n (uncom (lfirst s)) []).2, n)) else lexS (n + 1) (lrest s) (l ++ (lineT n (uncom (lfirst s)) []).1) := by
  rw [lexS, dif_neg h]
theorem qsk_ : ∀ (k : Nat) (st : List UInt8 × Int × Int × Int × TL), (st.1.length ≤ 20000 ∧ 0 ≤ st.2.1 ∧ st.2.1 + st.1.length ≤ 100000 ∧ st.2.2.1 = 0 ∧ st.2.2.2.1 = 0 ∧ st.2.2.2.2.length + 2 * st.1.length ≤ 100000) -> st.1.length < k ->
    loopF lexB k st = some ((lexS st.2.1 st.1 st.2.2.2.2).1, (lexS st.2.1 st.1 st.2.2.2.2).2, ()) := by
  refine loopF_eq (σ := List UInt8 × Int × Int × Int × TL) (μ := fun st => st.1.length) (G := fun st => some ((lexS st.2.1 st.1 st.2.2.2.2).1, (lexS st.2.1 st.1 st.2.2.2.2).2, ())) ?_
  rintro self ⟨s, n, x, y, l⟩ ⟨h1, h2, h3, rfl, rfl, h4⟩ ih
  simp only at h1 h2 h3 h4 ih ⊢
  show qai_ _ _ s n 0 0 l = _
  by_cases hne : s = []
  · subst hne
    rw [lexS, dif_pos rfl]
    rfl
  · have hlen := lrest_len hne
    have hpos := List.length_pos_iff.2 hne
    unfold qai_
    rw [if_pos (by rw [nes_iff]; exact hne), lexS_step hne]
    have hadd : add .i64 n 1 = n + 1 := add64 (by omega) (by omega)
    have go : ∀ (f r : List UInt8), lfirst s = f -> lrest s = r -> f.length ≤ s.length -> f.length + r.length ≤ s.length -> ((q6n_ (f, n, ())).bind fun y => if nei y.2.1 0 = true then some ([], (y.2.1, n), ()) else need (small (l.length + y.1.length)) (self (r, add .i64 n 1, 0, 0, l ++ y.1))) =
        some ((if (lineT n (uncom (lfirst s)) []).2 ≠ 0 then (([] : TL), ((lineT n (uncom (lfirst s)) []).2, n)) else lexS (n + 1) (lrest s) (l ++ (lineT n (uncom (lfirst s)) []).1)).1, (if (lineT n (uncom (lfirst s)) []).2 ≠ 0 then (([] : TL), ((lineT n (uncom (lfirst s)) []).2, n)) else lexS (n + 1) (lrest s) (l ++ (lineT n (uncom (lfirst s)) []).1)).2, ()) := by
      intro f r ef er hf hfr
      rw [ef, er, line_eq f n (by omega), Option.bind_some]
      rw [er] at hlen
      have hb := lineT_len n _ (uncom f) [] (Nat.le_refl _)
      have hu := uncom_len f
      simp at hb
      by_cases he : (lineT n (uncom f) []).2 = 0
      · rw [if_neg (by rw [ql_]; simpa using he), if_neg (by simpa using he), qi_ (by simp; omega), hadd]
        exact ih (r, n + 1, 0, 0, l ++ (lineT n (uncom f) []).1) ⟨by show r.length ≤ _; omega, by show 0 ≤ n + 1; omega, by show n + 1 + (r.length : Int) ≤ _; omega, rfl, rfl, by show (l ++ _).length + 2 * r.length ≤ _; simp; omega⟩ (by show r.length < _; omega)
      · rw [if_pos (by rw [ql_]; exact he), if_pos he]
    by_cases he : s = [10]
    · subst he
      rw [if_pos (by decide), show cut ([10] : List UInt8) 1 (Int.ofNat [(10 : UInt8)].length) = some [] from rfl, Option.bind_some]
      exact go [] [] rfl rfl (by simp) (by simp)
    · rw [if_neg (by rw [q3x_]; exact fun h => he h.symm)]
      rcases split_at 10 s with h10 | ⟨p, q, rfl, h10⟩
      · rw [index_no 10 s h10, if_neg (by decide)]
        exact go s [] (tw_no h10).1 (by unfold lrest; rw [(tw_no h10).2.1]; rfl) (Nat.le_refl _) (by simp)
      · simp at h1 h3 h4
        rw [index_yes 10 p q h10, if_pos (by rw [ge_iff]; omega), cut_app0, Option.bind_some, q1a_ (by omega), cut_from (by simp), Option.bind_some]
        have : (p ++ 10 :: q).drop (p.length + 1) = q := by simp
        rw [this]
        exact go p q (tw_yes h10).1 (by unfold lrest; rw [(tw_yes h10).2.1]; rfl) (by simp) (by simp)
def lexR (s : List UInt8) : TL × (Int × Int) := if 8192 < s.length then ([], (130, 0)) else lexS 1 s []
theorem lex_eq (s : List UInt8) : qga_ (s, ()) = some ((lexR s).1, (lexR s).2, ()) := by
  show qby_ qd4_ s = _
  unfold qby_ lexR
  by_cases h : 8192 < s.length
  · rw [if_pos (by rw [q1w_, q0_]; omega), if_pos h]
  · rw [if_neg (by rw [q1w_, q0_]; omega), if_neg h]
    exact qsk_ 18446744073709551616 (s, 1, 0, 0, []) ⟨by show s.length ≤ _; omega, by show (0 : Int) ≤ 1; decide, by show (1 : Int) + s.length ≤ _; omega, rfl, rfl, by show ([] : TL).length + 2 * s.length ≤ _; simp; omega⟩ (by show s.length < _; omega)
abbrev RefSt := List UInt8 × Int × Bool × Int × Int × Int × TL
abbrev RLx := As [.sl (.pr (.int .u8) (.pr .str (.pr (.pr (.int .i64) (.int .u8)) (.int .i64)))), .pr (.int .i64) (.int .i64)]
abbrev U1 := List UInt8 -> Int -> Bool -> Int -> Int -> Int -> TL -> Option RLx
abbrev refLB (self : RefSt -> Option RLx) (s : RefSt) : Option RLx := qbn_ (q7r_ (fun text line some' i t3 t3_2 out => self (text, line, some', i, t3, t3_2, out))) (qfd_) (fun text line some' i t3 t3_2 out => self (text, line, some', i, t3, t3_2, out)) s.1 s.2.1 s.2.2.1 s.2.2.2.1 s.2.2.2.2.1 s.2.2.2.2.2.1 s.2.2.2.2.2.2
theorem ref_com (u1 : U1) (text : List UInt8) (line : Int) (sm : Bool) (out : TL) (hl : text.length < 1000000) : ∀ (k : Nat) (st : List UInt8 × Int × Bool × Int × Int × Int × TL),
    (∃ i : Nat, st = (text, line, sm, (i : Int), 0, 0, out) ∧ i < text.length) -> text.length - st.2.2.2.1.toNat < k ->
    loopF (fun (self : RefSt -> Option RLx) (s : RefSt) => qfb_ (q7w_ u1 (fun text line some' i t3 t3_2 out => self (text, line, some', i, t3, t3_2, out))) u1 (fun text line some' i t3 t3_2 out => self (text, line, some', i, t3, t3_2, out)) s.1 s.2.1 s.2.2.1 s.2.2.2.1 s.2.2.2.2.1 s.2.2.2.2.2.1 s.2.2.2.2.2.2) k st =
      u1 text line sm ((text.length - ((text.drop (st.2.2.2.1.toNat + 1)).dropWhile (· != 10)).length : Nat) : Int) 0 0 out := by
  refine loopF_eq (σ := RefSt) (μ := fun st => text.length - st.2.2.2.1.toNat) (G := fun st => u1 text line sm ((text.length - ((text.drop (st.2.2.2.1.toNat + 1)).dropWhile (· != 10)).length : Nat) : Int) 0 0 out) ?_
  rintro self st ⟨i, rfl, hi⟩ ih
  simp only [Int.toNat_natCast] at ih ⊢
  unfold qfb_
  have h1 : add .i64 (i : Int) 1 = ((i + 1 : Nat) : Int) := q1a_ (by omega)
  rw [h1]
  have stop : q7w_ u1 (fun text line some' i t3 t3_2 out => self (text, line, some', i, t3, t3_2, out)) text line sm (i : Int) false 0 0 out = u1 text line sm ((i + 1 : Nat) : Int) 0 0 out := by
    unfold q7w_ qfh_ q3c_ q9d_
    rw [if_neg (by decide), h1]
  cases hd : text.drop (i + 1) with
  | nil =>
    have := drop_nil hd
    rw [if_neg (by rw [qb_, q0_]; omega), stop]
    have e : i + 1 = text.length := by omega
    simp [e]
  | cons c r =>
    obtain ⟨d1, d2, d3⟩ := drop_succ hd
    rw [if_pos (by rw [qb_, q0_]; omega), at_drop hd, Option.bind_some]
    by_cases hc : c = 10
    · have e : nei (Int.ofNat c.toNat) 10 = false := by subst hc; rfl
      rw [e, stop]
      have : ((c :: r).dropWhile (· != 10)) = c :: r := by simp [hc]
      rw [this]
      have e3 : text.length - (c :: r).length = i + 1 := by simp; omega
      rw [e3]
    · have e : nei (Int.ofNat c.toNat) 10 = true := by
        rw [ql_]
        intro h
        exact hc ((q34_ 10).1 (qn_.2 h))
      rw [e]
      unfold q7w_ qfh_
      rw [if_pos rfl, h1]
      have := ih (text, line, sm, ((i + 1 : Nat) : Int), 0, 0, out) ⟨i + 1, rfl, by omega⟩ (by simp; omega)
      refine this.trans ?_
      have e2 : ((c :: r).dropWhile (· != 10)) = r.dropWhile (· != 10) := by simp [hc]
      simp only [Int.toNat_natCast]
      rw [d1, e2]
theorem letter_eq (c : UInt8) : q9y_ (Int.ofNat c.toNat, ()) = some (w1 c.toNat, ()) := tab (f := q9y_) (g := w1) (by kernel_rfl) c
theorem digit_eq (c : UInt8) : q90_ (Int.ofNat c.toNat, ()) = some (isD c.toNat, ()) := tab (f := q90_) (g := isD) (by kernel_rfl) c
theorem goes1_eq (c : UInt8) : q8k_ (1, Int.ofNat c.toNat, ()) = some (wm c.toNat, ()) := tab (f := fun x => q8k_ (1, x.1, ())) (g := wm) (by kernel_rfl) c
theorem goes2_eq (c : UInt8) : q8k_ (2, Int.ofNat c.toNat, ()) = some (nm c.toNat, ()) := tab (f := fun x => q8k_ (2, x.1, ())) (g := nm) (by kernel_rfl) c
abbrev TokSt := List UInt8 × Int × Int × Int × Int × TL × Int × List UInt8 × Int × Int × Int
theorem ref_more (u1 : U1) (text : List UInt8) (line : Int) (out : TL) (k : Int) (hk : k = 1 ∨ k = 2 ∨ k = 3) (hl : text.length < 1000000) (n : Int) : ∀ (m : Nat) (st : TokSt),
    (∃ (i : Nat) (t : List UInt8), st = (text, line, (i : Int), 0, 0, out, k, t, 0, 0, n) ∧ i < text.length ∧ t.length + text.length ≤ 2000000 + i) -> text.length - st.2.2.1.toNat < m ->
    loopF (fun (self : TokSt -> Option RLx) (s : TokSt) => qea_ (q6j_ u1 (fun text line i t3 t3_2 out t t_2 t_3 t_4 t_5 => self (text, line, i, t3, t3_2, out, t, t_2, t_3, t_4, t_5))) u1 (fun text line i t3 t3_2 out t t_2 t_3 t_4 t_5 => self (text, line, i, t3, t3_2, out, t, t_2, t_3, t_4, t_5)) s.1 s.2.1 s.2.2.1 s.2.2.2.1 s.2.2.2.2.1 s.2.2.2.2.2.1 s.2.2.2.2.2.2.1 s.2.2.2.2.2.2.2.1 s.2.2.2.2.2.2.2.2.1 s.2.2.2.2.2.2.2.2.2.1 s.2.2.2.2.2.2.2.2.2.2) m st =
      q4d_ u1 text line ((st.2.2.1.toNat + ((text.drop (st.2.2.1.toNat + 1)).takeWhile (fun c => moreK k c.toNat)).length : Nat) : Int) 0 0 out k (st.2.2.2.2.2.2.2.1 ++ (text.drop (st.2.2.1.toNat + 1)).takeWhile (fun c => moreK k c.toNat)) 0 0 n := by
  refine loopF_eq (σ := TokSt) (μ := fun st => text.length - st.2.2.1.toNat) (G := fun st => q4d_ u1 text line ((st.2.2.1.toNat + ((text.drop (st.2.2.1.toNat + 1)).takeWhile (fun c => moreK k c.toNat)).length : Nat) : Int) 0 0 out k (st.2.2.2.2.2.2.2.1 ++ (text.drop (st.2.2.1.toNat + 1)).takeWhile (fun c => moreK k c.toNat)) 0 0 n) ?_
  rintro self st ⟨i, t, rfl, hi, ht⟩ ih
  simp only [Int.toNat_natCast] at ih ⊢
  unfold qea_
  have h1 : add .i64 (i : Int) 1 = ((i + 1 : Nat) : Int) := q1a_ (by omega)
  have h2 : add .i64 ((i + 1 : Nat) : Int) 1 = ((i + 2 : Nat) : Int) := q1a_ (by omega)
  rw [h1]
  have stop : (text.drop (i + 1)).takeWhile (fun c => moreK k c.toNat) = [] -> q6j_ u1 (fun text line i t3 t3_2 out t t_2 t_3 t_4 t_5 => self (text, line, i, t3, t3_2, out, t, t_2, t_3, t_4, t_5)) text line (i : Int) false 0 0 out k t 0 0 n = q4d_ u1 text line ((i + ((text.drop (i + 1)).takeWhile (fun c => moreK k c.toNat)).length : Nat) : Int) 0 0 out k (t ++ (text.drop (i + 1)).takeWhile (fun c => moreK k c.toNat)) 0 0 n := fun h => by
    unfold q6j_ qdt_
    rw [if_neg (by decide), h]
    simp
  by_cases h3 : k = 3
  · subst h3
    rw [if_neg (by decide)]
    apply stop
    cases text.drop (i + 1) with
    | nil => rfl
    | cons c r => rfl
  · rw [if_pos (by rw [ql_]; exact h3)]
    cases hd : text.drop (i + 1) with
    | nil =>
      have := drop_nil hd
      rw [if_neg (by rw [qb_, q0_]; omega)]
      rw [hd] at stop
      exact stop rfl
    | cons c r =>
      obtain ⟨d1, d2, d3⟩ := drop_succ hd
      rw [if_pos (by rw [qb_, q0_]; omega), at_drop hd, Option.bind_some]
      have hg : q8k_ (k, Int.ofNat c.toNat, ()) = some (moreK k c.toNat, ()) := by
        rcases hk with rfl | rfl | rfl
        · exact goes1_eq c
        · exact goes2_eq c
        · exact absurd rfl h3
      rw [hg, Option.bind_some]
      cases hm : moreK k c.toNat
      · rw [hd] at stop
        exact stop (by simp [hm])
      · unfold q6j_ qdt_
        rw [if_pos rfl, h1, h2, cut_nat (by omega) (by omega)]
        have hcut : (text.take (i + 2)).drop (i + 1) = [c] := by
          rw [List.drop_take, hd]
          have : i + 2 - (i + 1) = 1 := by omega
          rw [this]
          rfl
        rw [hcut, Option.bind_some, qi_ (by simp; omega)]
        have := ih (text, line, ((i + 1 : Nat) : Int), 0, 0, out, k, t ++ [c], 0, 0, n) ⟨i + 1, t ++ [c], rfl, by omega, by simp; omega⟩ (by simp; omega)
        refine this.trans ?_
        simp only [Int.toNat_natCast]
        rw [d1]
        simp only [List.takeWhile_cons, hm, if_true, List.length_cons, List.append_assoc, List.singleton_append]
        have : i + 1 + (r.takeWhile (fun c => moreK k c.toNat)).length = i + ((r.takeWhile (fun c => moreK k c.toNat)).length + 1) := by omega
        rw [this]
theorem drop_takeWhile (p : UInt8 -> Bool) : ∀ q : List UInt8, q.drop (q.takeWhile p).length = q.dropWhile p
  | [] => rfl
  | c :: q => by
    cases h : p c
    · simp [h]
    · simp [h, drop_takeWhile p q]
theorem drop_tw {text : List UInt8} {i : Nat} {c : UInt8} {q : List UInt8} (h : text.drop i = c :: q) (p : UInt8 -> Bool) : text.drop (i + (q.takeWhile p).length + 1) = q.dropWhile p := by
  have h1 := (drop_succ h).1
  have : i + (q.takeWhile p).length + 1 = i + 1 + (q.takeWhile p).length := by omega
  rw [this, <- List.drop_drop, h1, drop_takeWhile]
def refG (text : List UInt8) (i : Nat) (n : Int) (sm : Bool) (out : TL) : TL × (Int × Int) := if text.length < i then (out, (0, 0)) else refS n (text.drop i) sm out
def pkR (x : TL × (Int × Int)) : Option RLx := some (x.1, x.2, ())
theorem isB_iff (c : UInt8) : isB c.toNat = true ↔ c = 9 ∨ c = 13 ∨ c = 32 := by
  have := all8 (p := fun n => isB n == (n == 9 || n == 13 || n == 32)) (by kernel_rfl) c
  rw [eq_of_beq this]
  simp only [Bool.or_eq_true, beq_iff_eq]
  constructor
  · rintro ((h | h) | h)
    · exact .inl (UInt8.toNat_inj.1 h)
    · exact .inr (.inl (UInt8.toNat_inj.1 h))
    · exact .inr (.inr (UInt8.toNat_inj.1 h))
  · rintro (rfl | rfl | rfl)
    · exact .inl (.inl rfl)
    · exact .inl (.inr rfl)
    · exact .inr rfl
theorem n1_iff (c : UInt8) : n1 c.toNat = (isD c.toNat || decide (c = 45)) := by
  have e : decide (c = 45) = (c.toNat == 45) := by
    rw [Bool.eq_iff_iff, decide_eq_true_iff, beq_iff_eq]
    exact ⟨fun h => by rw [h]; rfl, fun h => UInt8.toNat_inj.1 h⟩
  rw [e]
  rfl
theorem e1_iff (c : UInt8) : e1 c.toNat = decide (c = 61) := by
  have e : decide (c = 61) = (c.toNat == 61) := by
    rw [Bool.eq_iff_iff, decide_eq_true_iff, beq_iff_eq]
    exact ⟨fun h => by rw [h]; rfl, fun h => UInt8.toNat_inj.1 h⟩
  rw [e]
  rfl
theorem ref_main (text : List UInt8) (hl : text.length < 100000) : ∀ (k : Nat) (st : RefSt),
    (∃ (i : Nat) (n : Int) (sm : Bool) (out : TL), st = (text, n, sm, (i : Int), 0, 0, out) ∧ i ≤ text.length + 1 ∧ 0 ≤ n ∧ n ≤ i + 1 ∧ out.length ≤ 2 * i) -> text.length + 1 - st.2.2.2.1.toNat < k ->
      loopF refLB k st = pkR (refG text st.2.2.2.1.toNat st.2.1 st.2.2.1 st.2.2.2.2.2.2) := by
  refine loopF_eq (σ := RefSt) (μ := fun st => text.length + 1 - st.2.2.2.1.toNat) (G := fun st => pkR (refG text st.2.2.2.1.toNat st.2.1 st.2.2.1 st.2.2.2.2.2.2)) ?_
  rintro self st ⟨i, n, sm, out, rfl, hi, hn0, hn1, ho⟩ ih
  simp only [Int.toNat_natCast] at ih ⊢
  show qbn_ _ _ _ text n sm (i : Int) 0 0 out = _
  have next : ∀ (j : Nat) (n' : Int) (sm' : Bool) (out' : TL), i < j -> j ≤ text.length + 1 -> 0 ≤ n' -> n' ≤ j + 1 -> out'.length ≤ 2 * j -> self (text, n', sm', (j : Int), 0, 0, out') = pkR (refG text j n' sm' out') := fun j n' sm' out' x1 x2 x3 x4 x5 => by
    have := ih (text, n', sm', (j : Int), 0, 0, out') ⟨j, n', sm', out', rfl, x2, x3, x4, x5⟩ (by simp; omega)
    simpa using this
  have hs : small (out.length + 1) = true := small_iff.2 (by omega)
  have nl : ∀ (j : Nat), j = i -> j ≤ text.length -> q7r_ (fun text line some' i t3 t3_2 out => self (text, line, some', i, t3, t3_2, out)) text n sm (j : Int) true 0 0 out = pkR (refG text (j + 1) (n + 1) false (if sm then out ++ [tkEnd n] else out)) := fun j hj hjl => by
    subst hj
    unfold q7r_ qf5_
    rw [if_pos rfl]
    have k4 : ∀ o : TL, o.length ≤ 2 * (j + 1) -> qbk_ (fun text line some' i t3 t3_2 out => self (text, line, some', i, t3, t3_2, out)) text n (j : Int) 0 0 o = pkR (refG text (j + 1) (n + 1) false o) := fun o ho' => by
      unfold qbk_ qhq_ q3c_ q9d_
      rw [add64 (a := n) (by omega) (by omega), q1a_ (by omega)]
      exact next (j + 1) (n + 1) false o (by omega) (by omega) (by omega) (by omega) ho'
    cases sm
    · exact k4 out (by omega)
    · rw [if_pos rfl, need_t hs]
      exact k4 (out ++ [tkEnd n]) (by simp; omega)
  unfold qbn_
  by_cases hlt : text.length < i
  · rw [if_neg (by rw [le_iff, q0_]; omega)]
    unfold refG
    rw [if_pos hlt]
    rfl
  · rw [if_pos (by rw [le_iff, q0_]; omega)]
    cases hd : text.drop i with
    | nil =>
      have := drop_nil hd
      have hie : i = text.length := by omega
      rw [if_pos (by rw [qn_, q0_]; omega), nl i rfl (by omega)]
      have e1 : ∀ o, refG text (i + 1) (n + 1) false o = (o, (0, 0)) := fun o => by unfold refG; rw [if_pos (by omega)]
      have e2 : refG text i n sm out = refS n [] sm out := by unfold refG; rw [if_neg hlt, hd]
      rw [e1, e2, refS_nil]
    | cons c q =>
      obtain ⟨d1, d2, d3⟩ := drop_succ hd
      have hat := at_drop hd
      rw [if_neg (by rw [qn_, q0_]; omega), hat, Option.bind_some]
      have hG : refG text i n sm out = refS n (c :: q) sm out := by unfold refG; rw [if_neg hlt, hd]
      rw [hG]
      have hG1 : ∀ n' sm' out', refG text (i + 1) n' sm' out' = refS n' q sm' out' := fun n' sm' out' => by unfold refG; rw [if_neg (by omega), d1]
      by_cases h10 : c = 10
      · rw [(q34_ 10).2 h10, nl i rfl (by omega), hG1, h10, refS_nl]
      · have e10 : eqi (Int.ofNat c.toNat) 10 = false := by
          cases h : eqi (Int.ofNat c.toNat) 10
          · rfl
          · exact absurd ((q34_ 10).1 h) h10
        rw [e10]
        unfold q7r_ qf5_
        rw [if_neg (by decide), hat, Option.bind_some]
        by_cases h35 : c = 35
        · rw [if_pos ((q34_ 35).2 h35), h35, refS_com]
          have hcom := ref_com (fun text line some' i t3 t3_2 out => self (text, line, some', i, t3, t3_2, out)) text n sm out (by omega) 18446744073709551616 (text, n, sm, (i : Int), 0, 0, out) ⟨i, rfl, d2⟩ (by simp; omega)
          refine Eq.trans hcom ?_
          simp only [Int.toNat_natCast]
          rw [d1]
          have hsl := (List.dropWhile_suffix (l := q) (· != 10)).length_le
          have hsuf : text.drop (text.length - (q.dropWhile (· != 10)).length) = q.dropWhile (· != 10) := by
            have h1 := (List.dropWhile_suffix (l := q) (· != 10))
            have h2 : (q.dropWhile (· != 10)) <:+ text := h1.trans (by rw [<- d1]; exact List.drop_suffix _ _)
            exact (List.suffix_iff_eq_drop.1 h2).symm
          rw [next _ n sm out (by omega) (by omega) hn0 (by omega) (by omega)]
          unfold refG
          rw [if_neg (by omega), hsuf]
        · rw [if_neg (fun h => h35 ((q34_ 35).1 h))]
          unfold qf4_ qhk_
          have blank : isB c.toNat = true -> q9b_ (fun text line some' i t3 t3_2 out => self (text, line, some', i, t3, t3_2, out)) text n sm (i : Int) (Int.ofNat c.toNat) true 0 0 out = pkR (refS n (c :: q) sm out) := fun hb => by
            unfold q9b_ qfn_ q3c_ q9d_
            rw [if_pos rfl, q1a_ (by omega)]
            refine (next (i + 1) n sm out (by omega) (by omega) hn0 (by omega) (by omega)).trans ?_
            rw [hG1, refS_bl hb]
          by_cases h9 : c = 9
          · rw [if_pos ((q34_ 9).2 h9)]
            exact blank ((isB_iff c).2 (.inl h9))
          · rw [if_neg (fun h => h9 ((q34_ 9).1 h))]
            by_cases h13 : c = 13
            · rw [if_pos ((q34_ 13).2 h13)]
              exact blank ((isB_iff c).2 (.inr (.inl h13)))
            · rw [if_neg (fun h => h13 ((q34_ 13).1 h))]
              by_cases h32 : c = 32
              · rw [(q34_ 32).2 h32]
                exact blank ((isB_iff c).2 (.inr (.inr h32)))
              · have e32 : eqi (Int.ofNat c.toNat) 32 = false := by
                  cases h : eqi (Int.ofNat c.toNat) 32
                  · rfl
                  · exact absurd ((q34_ 32).1 h) h32
                have hb : isB c.toNat = false := by
                  cases h : isB c.toNat
                  · rfl
                  · rcases (isB_iff c).1 h with h | h | h
                    · exact absurd h h9
                    · exact absurd h h13
                    · exact absurd h h32
                rw [e32, refS_tok h10 h35 hb]
                unfold q9b_ qfn_
                rw [if_neg (by decide), letter_eq, Option.bind_some]
                have K10 : ∀ k : Int, (k = 1 ∨ k = 2 ∨ k = 3) -> q6o_ (fun text line some' i t3 t3_2 out => self (text, line, some', i, t3, t3_2, out)) text n (i : Int) 0 0 out k [] 0 0 n = q4d_ (fun text line some' i t3 t3_2 out => self (text, line, some', i, t3, t3_2, out)) text n ((i + (q.takeWhile (fun c => moreK k c.toNat)).length : Nat) : Int) 0 0 out k (c :: q.takeWhile (fun c => moreK k c.toNat)) 0 0 n := fun k hk => by
                  unfold q6o_ qgw_
                  rw [q1a_ (by omega), cut_nat (by omega) (by omega)]
                  have hcut : (text.take (i + 1)).drop i = [c] := by
                    rw [List.drop_take, hd]
                    have : i + 1 - i = 1 := by omega
                    rw [this]
                    rfl
                  rw [hcut, Option.bind_some]
                  have := ref_more (fun text line some' i t3 t3_2 out => self (text, line, some', i, t3, t3_2, out)) text n out k hk (by omega) n 18446744073709551616 (text, n, (i : Int), 0, 0, out, k, [c], 0, 0, n) ⟨i, [c], rfl, d2, by simp; omega⟩ (by simp; omega)
                  refine Eq.trans this ?_
                  simp only [Int.toNat_natCast]
                  rw [d1]
                  rfl
                have K16 : ∀ (k : Int) (t : List UInt8) (x y : Int) (r : List UInt8) (j : Nat), j < text.length -> i ≤ j -> text.drop (j + 1) = r -> qan_ (fun text line some' i t3 t3_2 out => self (text, line, some', i, t3, t3_2, out)) text n (j : Int) 0 0 out k t x y n = pkR (refS n r true (out ++ [(k, t, (x, y), n)])) := fun k t x y r j hj hij hr => by
                  unfold qan_ qh5_ q3c_ q9d_
                  rw [need_t hs, q1a_ (by omega)]
                  refine (next (j + 1) n true _ (by omega) (by omega) hn0 (by omega) (by simp; omega)).trans ?_
                  unfold refG
                  rw [if_neg (by omega), hr]
                have htwl : ∀ p : UInt8 -> Bool, (q.takeWhile p).length ≤ q.length := fun p => (List.takeWhile_prefix p).length_le
                cases hw : w1 c.toNat
                · rw [if_neg (by decide), digit_eq, Option.bind_some]
                  have num : n1 c.toNat = true -> q6m_ (fun text line some' i t3 t3_2 out => self (text, line, some', i, t3, t3_2, out)) text n (i : Int) (Int.ofNat c.toNat) true 0 0 out 0 [] 0 0 n = pkR (match tokS n c q with
      | .inl e => ([], (e, n))
      | .inr (t, r) => refS n r true (out ++ [t])) := fun hn => by
                    unfold q6m_ qe8_
                    rw [if_pos rfl, K10 2 (.inr (.inl rfl))]
                    have hmk : (fun c : UInt8 => moreK 2 c.toNat) = fun c => nm c.toNat := rfl
                    rw [hmk]
                    unfold q4d_ qao_ q8h_ qau_ tokS
                    rw [if_neg (by decide), if_neg (by decide), if_pos (by decide), hw, hn]
                    have hlen : (c :: q.takeWhile (fun c => nm c.toNat)).length < 1000000 := by
                      have := htwl (fun c => nm c.toNat)
                      simp; omega
                    rw [refParse_eq hlen, Option.bind_some]
                    simp only [Bool.false_eq_true, if_false, if_true]
                    cases hp : (parseS (c :: q.takeWhile (fun c => nm c.toNat))).2
                    · rfl
                    · simp only [Bool.not_true, Bool.false_eq_true, if_false, if_true]
                      exact K16 2 _ _ _ _ (i + (q.takeWhile (fun c => nm c.toNat)).length) (by have := htwl (fun c => nm c.toNat); omega) (by omega) (drop_tw hd _)
                  have other : n1 c.toNat = false -> q6m_ (fun text line some' i t3 t3_2 out => self (text, line, some', i, t3, t3_2, out)) text n (i : Int) (Int.ofNat c.toNat) false 0 0 out 0 [] 0 0 n = pkR (match tokS n c q with
      | .inl e => ([], (e, n))
      | .inr (t, r) => refS n r true (out ++ [t])) := fun hn => by
                    unfold q6m_ qe8_
                    rw [if_neg (by decide)]
                    unfold tokS
                    rw [hw, hn, e1_iff]
                    simp only [Bool.false_eq_true, if_false]
                    by_cases h61 : c = 61
                    · rw [if_pos ((q34_ 61).2 h61), if_pos (decide_eq_true h61), K10 3 (.inr (.inr rfl))]
                      have hmk : q.takeWhile (fun c : UInt8 => moreK 3 c.toNat) = [] := by
                        cases q with
                        | nil => rfl
                        | cons a b => rfl
                      rw [hmk]
                      unfold q4d_ qao_ q8h_ qau_
                      rw [if_neg (by decide), if_neg (by decide), if_neg (by decide)]
                      exact K16 3 [c] 0 0 q (i + 0) (by omega) (by omega) d1
                    · rw [if_neg (fun h => h61 ((q34_ 61).1 h)), if_neg (by simpa using h61)]
                      rfl
                  cases hD : isD c.toNat
                  · rw [if_neg (by decide)]
                    by_cases h45 : c = 45
                    · rw [(q34_ 45).2 h45]
                      exact num (by rw [n1_iff, hD, h45]; rfl)
                    · have : eqi (Int.ofNat c.toNat) 45 = false := by
                        cases h : eqi (Int.ofNat c.toNat) 45
                        · rfl
                        · exact absurd ((q34_ 45).1 h) h45
                      rw [this]
                      exact other (by rw [n1_iff, hD]; simp [h45])
                  · rw [if_pos rfl]
                    exact num (by rw [n1_iff, hD]; rfl)
                · rw [if_pos rfl, K10 1 (.inl rfl)]
                  have hmk : (fun c : UInt8 => moreK 1 c.toNat) = fun c => wm c.toNat := rfl
                  rw [hmk]
                  unfold q4d_ qao_ tokS
                  rw [if_pos (by decide), hw]
                  simp only [if_true]
                  unfold q8h_ qau_
                  by_cases h20 : 20 < (c :: q.takeWhile (fun c => wm c.toNat)).length
                  · rw [show gt (Int.ofNat (c :: q.takeWhile (fun c => wm c.toNat)).length) 20 = true by rw [q1w_, q0_]; omega, if_pos rfl, if_pos h20]
                    rfl
                  · rw [show gt (Int.ofNat (c :: q.takeWhile (fun c => wm c.toNat)).length) 20 = false by simp only [gt, q0_, decide_eq_false_iff_not]; omega, if_neg (by decide), if_neg (by decide), if_neg h20]
                    exact K16 1 _ 0 0 _ (i + (q.takeWhile (fun c => wm c.toNat)).length) (by have := htwl (fun c => wm c.toNat); omega) (by omega) (drop_tw hd _)
theorem ref_eq (s : List UInt8) : qeu_ (s, ()) = some ((lexR s).1, (lexR s).2, ()) := by
  show qfi_ qfc_ s = _
  unfold qfi_ lexR
  by_cases h : 8192 < s.length
  · rw [if_pos (by rw [q1w_, q0_]; omega), if_pos h]
  · rw [if_neg (by rw [q1w_, q0_]; omega), if_neg h, <- refS_lexS s.length s 1 [] (Nat.le_refl _)]
    have := ref_main s (by omega) 18446744073709551616 (s, 1, false, ((0 : Nat) : Int), 0, 0, []) ⟨0, 1, false, [], rfl, by omega, by decide, by decide, by simp⟩ (by simp; omega)
    refine Eq.trans this ?_
    simp [refG, pkR]
end Go.Proofs.Lx
end
section
namespace Go.Proofs.Lx
open Go Ev Sx Pl
set_option maxRecDepth 100000
abbrev dd (n : Nat) : List UInt8 := Lib.decDigits n
theorem dd_small {n : Nat} (h : n < 10) : dd n = [UInt8.ofNat (48 + n)] := by rw [dd, Lib.decDigits, dif_pos h]
theorem dd_big {n : Nat} (h : ¬ n < 10) : dd n = dd (n / 10) ++ [UInt8.ofNat (48 + n % 10)] := by
  conv => lhs; rw [dd, Lib.decDigits, dif_neg h]
theorem dd_ne (n : Nat) : dd n ≠ [] := by
  by_cases h : n < 10
  · rw [dd_small h]; simp
  · rw [dd_big h]; simp
theorem dd_len {n k : Nat} (hk : 1 ≤ k) (h : n < 10 ^ k) : (dd n).length ≤ k := by
  induction n using Nat.strongRecOn generalizing k with
  | ind n ih =>
    by_cases h1 : n < 10
    · rw [dd_small h1]
      exact hk
    · rw [dd_big h1]
      obtain ⟨j, rfl⟩ : ∃ j, k = j + 2 := ⟨k - 2, by
        have : k ≠ 1 := fun e => by subst e; omega
        omega⟩
      have := ih (n / 10) (by omega) (k := j + 1) (by omega) (by rw [Nat.pow_succ] at h; omega)
      simp
      omega
def fx : Nat -> Nat -> List UInt8
  | 0, _ => []
  | k + 1, m => fx k (m / 10) ++ [UInt8.ofNat (48 + m % 10)]
theorem fx_len : ∀ k m, (fx k m).length = k
  | 0, _ => rfl
  | k + 1, m => by rw [fx, List.length_append, fx_len k]; rfl
theorem fx_zero : ∀ k, fx k 0 = List.replicate k 48
  | 0 => rfl
  | k + 1 => by
    rw [fx, Nat.zero_div, fx_zero k, List.replicate_succ']
    rfl
theorem pad_fx : ∀ (k m : Nat), 1 ≤ k -> m < 10 ^ k -> List.replicate (k - (dd m).length) 48 ++ dd m = fx k m
  | 0, _, h, _ => by omega
  | k + 1, m, _, h => by
    by_cases h1 : m < 10
    · rw [dd_small h1, fx, Nat.div_eq_of_lt h1, fx_zero, Nat.mod_eq_of_lt h1]
      rfl
    · have hk : 1 ≤ k := by
        rcases Nat.eq_zero_or_pos k with e | e
        · subst e; simp at h; omega
        · exact e
      have ih := pad_fx k (m / 10) hk (by rw [Nat.pow_succ] at h; omega)
      rw [dd_big h1, fx, <- ih, List.length_append, List.append_assoc]
      congr 2
      show k + 1 - ((dd (m / 10)).length + 1) = _
      omega
end Go.Proofs.Lx
end
section
namespace Go.Proofs.Lx
open Go Ev Sx Pl
set_option maxRecDepth 100000
structure RtD (d : Int × Int) (sg : Bool) (n D : Nat) : Prop where
  e1 : d.1 = if sg then -(n : Int) else (n : Int)
  e2 : d.2 = (D : Int)
  nz : sg = true -> n ≠ 0
  le : n ≤ 1000000000000
  d6 : D ≤ 6
  tz : D ≠ 0 -> n % 10 ≠ 0
def shw (sg : Bool) (n D : Nat) : List UInt8 := (if sg then [45] else []) ++ dd (n / 10 ^ D) ++ (if D = 0 then [] else 46 :: fx D (n % 10 ^ D))
end Go.Proofs.Lx
end
section
namespace Go.Proofs.Lx
open Go Ev Sx Pl
set_option maxRecDepth 10000
def lowN (n : Nat) : Bool := decide (97 ≤ n) && decide (n ≤ 122)
def namN (n : Nat) : Bool := lowN n || isD n || n == 95
theorem lower_eq (c : UInt8) : q67_ (Int.ofNat c.toNat, ()) = some (lowN c.toNat, ()) := tab (f := q67_) (g := lowN) (by kernel_rfl) c
theorem rdigit_eq (c : UInt8) : q7x_ (Int.ofNat c.toNat, ()) = some (isD c.toNat, ()) := tab (f := q7x_) (g := isD) (by kernel_rfl) c
abbrev sRec : List UInt8 := [114, 101, 99, 105, 112, 101]
abbrev sSlv : List UInt8 := [115, 108, 97, 118, 101]
abbrev sEnd : List UInt8 := [101, 110, 100]
def nameB (s : List UInt8) : Bool := s != [] && decide (s.length ≤ 20) && lowN (s.headD 0).toNat && s.all (fun c => namN c.toNat) && s != sRec && s != sSlv && s != sEnd
theorem goL_all {α R : Type} {p : α -> Bool} {r0 : Option R} {fin : Unit -> Option R} : ∀ xs : List α, goL (fun a c k => if p c = true then k a else r0) fin xs () = if xs.all p = true then fin () else r0
  | [] => rfl
  | x :: q => by
    show (if p x = true then goL _ fin q () else r0) = _
    rw [goL_all q, List.all_cons]
    cases p x <;> simp
theorem nes_iff {a b : List UInt8} : nes a b = true ↔ a ≠ b := by simp [nes]
theorem eqs_f {a b : List UInt8} (h : a ≠ b) : eqs a b = false := by
  rw [Bool.eq_false_iff]
  exact fun e => h (q3x_.1 e)
theorem nes_val (a b : List UInt8) : nes a b = (a != b) := by
  by_cases h : a = b
  · subst h
    simp [nes]
  · rw [nes_iff.2 h]
    simp [h]
theorem at_head {α : Type} {s : List α} (h : s ≠ []) (z : α) : at? s 0 = some (s.headD z) := by
  cases s with
  | nil => exact absurd rfl h
  | cons a q => rfl
theorem name_eq {s : List UInt8} : q2c_ (s, ()) = some (nameB s, ()) := by
  show qbr_ q9f_ s = _
  unfold qbr_
  have K1t : q9f_ s true = some (false, ()) := rfl
  by_cases h0 : s = []
  · rw [if_pos (q3x_.2 h0), K1t, h0]
    rfl
  · rw [if_neg (fun e => h0 (q3x_.1 e))]
    by_cases h1 : 20 < s.length
    · rw [if_pos (q1w_.2 (by rw [q0_]; omega)), K1t]
      have : nameB s = false := by unfold nameB; rw [decide_eq_false (show ¬ s.length ≤ 20 by omega)]; simp
      rw [this]
    · rw [if_neg (fun e => h1 (by have := q1w_.1 e; rw [q0_] at this; omega)), at_head h0 0, Option.bind_some, lower_eq, Option.bind_some]
      cases h2 : lowN (s.headD 0).toNat with
      | false =>
        rw [show (!(false, ()).1) = true from rfl, K1t]
        have : nameB s = false := by unfold nameB; rw [h2]; simp
        rw [this]
      | true =>
        show q9s_ s (Int.ofNat s.length) 0 = _
        unfold q9s_
        refine (loop_go (xs := s) (mk := fun i (_ : Unit) => (s, Int.ofNat s.length, (i : Int))) (body := fun a c k => if namN c.toNat = true then k a else some (false, ())) (fin := fun _ => q7g_ s) ?_ ?_ s.length 0 () _ (by omega) (by omega)).trans ?_
        · intro self i acc c hc
          have hi := (List.getElem?_eq_some_iff.1 hc).1
          show q77_ (q78_ fun s t18 t19 => self (s, t18, t19)) q7g_ _ s (Int.ofNat s.length) (i : Int) = _
          unfold q77_
          have K3f : q78_ (fun s t18 t19 => self (s, t18, t19)) s (Int.ofNat s.length) (i : Int) false = self (s, Int.ofNat s.length, ((i + 1 : Nat) : Int)) := by
            show qcm_ _ s (Int.ofNat s.length) (i : Int) false = _
            unfold qcm_
            rw [if_neg Bool.false_ne_true, q1a_ (by omega)]
          rw [if_pos (by rw [qb_, q0_]; omega), at_get hc, Option.bind_some, lower_eq, Option.bind_some]
          unfold namN
          cases e1 : lowN c.toNat with
          | true => rw [if_neg (by decide), K3f]; rfl
          | false =>
            rw [if_pos (by rfl), Option.bind_some, rdigit_eq, Option.bind_some]
            cases e2 : isD c.toNat with
            | true => rw [if_neg (by decide), K3f]; rfl
            | false =>
              rw [if_pos (by rfl), Option.bind_some]
              by_cases e3 : c.toNat = 95
              · have : nei (Int.ofNat c.toNat) 95 = false := by rw [Bool.eq_false_iff]; exact fun e => ql_.1 e (by rw [e3]; rfl)
                rw [this, K3f, if_pos (by simp [e3])]
              · have : nei (Int.ofNat c.toNat) 95 = true := ql_.2 (fun e => e3 (by have e : (c.toNat : Int) = 95 := e; omega))
                rw [this, if_neg (by simp [e3])]
                rfl
        · intro self acc
          show q77_ (q78_ fun s t18 t19 => self (s, t18, t19)) q7g_ _ s (Int.ofNat s.length) (s.length : Int) = _
          unfold q77_
          rw [if_neg (by rw [qb_, q0_]; omega)]
        · rw [List.drop_zero, goL_all]
          show (if (s.all fun c => namN c.toNat) = true then qbs_ s else some (false, ())) = _
          unfold qbs_ nameB
          rw [h2, decide_eq_true (show s.length ≤ 20 by omega), nes_val, nes_val, nes_val]
          have e0 : (s != []) = true := by simpa using h0
          rw [e0]
          cases (s.all fun c => namN c.toNat) <;> cases (s != sRec) <;> cases (s != sSlv) <;> rfl
theorem rname_eq {s : List UInt8} (hl : s.length ≤ 1000000) : q61_ (s, ()) = some (nameB s, ()) := by
  show qe1_ q8a_ s = _
  unfold qe1_
  have K1t : q8a_ s true = some (false, ()) := rfl
  by_cases h0 : s = []
  · rw [if_pos (qb_.2 (by rw [h0]; decide)), K1t, h0]
    rfl
  · have hpos : 0 < s.length := List.length_pos_iff.2 h0
    rw [if_neg (fun e => by have := qb_.1 e; rw [q0_] at this; omega)]
    have nf : nameB s = false -> (q8a_ s true = some (nameB s, ())) := fun e => by rw [K1t, e]
    by_cases h1 : 20 < s.length
    · rw [if_pos (q1w_.2 (by rw [q0_]; omega))]
      exact nf (by unfold nameB; rw [decide_eq_false (show ¬ s.length ≤ 20 by omega)]; simp)
    · rw [if_neg (fun e => h1 (by have := q1w_.1 e; rw [q0_] at this; omega))]
      by_cases a1 : s = sRec
      · rw [if_pos (q3x_.2 a1)]
        exact nf (by rw [a1]; rfl)
      · rw [if_neg (fun e => a1 (q3x_.1 e))]
        by_cases a2 : s = sSlv
        · rw [if_pos (q3x_.2 a2)]
          exact nf (by rw [a2]; rfl)
        · rw [if_neg (fun e => a2 (q3x_.1 e))]
          by_cases a3 : s = sEnd
          · rw [if_pos (q3x_.2 a3)]
            exact nf (by rw [a3]; rfl)
          · rw [if_neg (fun e => a3 (q3x_.1 e)), at_head h0 0, Option.bind_some, Option.bind_some]
            by_cases b1 : (s.headD 0).toNat < 97
            · rw [if_pos (qb_.2 (by show ((s.headD 0).toNat : Int) < 97; omega))]
              exact nf (by unfold nameB lowN; rw [decide_eq_false (show ¬ 97 ≤ (s.headD 0).toNat by omega)]; simp)
            · rw [if_neg (fun e => b1 (by have e : ((s.headD 0).toNat : Int) < 97 := qb_.1 e; omega))]
              by_cases b2 : 122 < (s.headD 0).toNat
              · have : gt (Int.ofNat (s.headD 0).toNat) 122 = true := q1w_.2 (by show (122 : Int) < ((s.headD 0).toNat : Int); omega)
                rw [this]
                exact nf (by unfold nameB lowN; rw [decide_eq_false (show ¬ (s.headD 0).toNat ≤ 122 by omega)]; simp)
              · have : gt (Int.ofNat (s.headD 0).toNat) 122 = false := by
                  rw [Bool.eq_false_iff]
                  exact fun e => b2 (by have e : (122 : Int) < ((s.headD 0).toNat : Int) := q1w_.1 e; omega)
                rw [this]
                show qap_ s 0 = _
                unfold qap_
                refine (loop_go (xs := s) (mk := fun i (_ : Unit) => (s, (i : Int))) (body := fun a c k => if namN c.toNat = true then k a else some (false, ())) (fin := fun _ => some (true, ())) ?_ ?_ s.length 0 () _ (by omega) (by omega)).trans ?_
                · intro self i acc c hc
                  have hi := (List.getElem?_eq_some_iff.1 hc).1
                  show q88_ (q5n_ fun s i => self (s, i)) _ s (i : Int) = _
                  unfold q88_
                  have K3f : q5n_ (fun s i => self (s, i)) s (i : Int) false = self (s, ((i + 1 : Nat) : Int)) := by
                    show qdx_ _ s (i : Int) false = _
                    unfold qdx_
                    rw [if_neg Bool.false_ne_true, q1a_ (by omega)]
                  have K3t : q5n_ (fun s i => self (s, i)) s (i : Int) true = some (false, ()) := rfl
                  have K3 : ∀ b, q5n_ (fun s i => self (s, i)) s (i : Int) b = if b = false then self (s, ((i + 1 : Nat) : Int)) else some (false, ()) := fun b => by cases b; exact K3f; exact K3t
                  rw [if_pos (by rw [qb_, q0_]; omega), at_get hc, Option.bind_some]
                  simp only [K3]
                  have g1 : ∀ k : Int, ge (Int.ofNat c.toNat) k = decide (k ≤ (c.toNat : Int)) := fun k => rfl
                  have g2 : ∀ k : Int, le (Int.ofNat c.toNat) k = decide ((c.toNat : Int) ≤ k) := fun k => rfl
                  have g3 : nei (Int.ofNat c.toNat) 95 = decide ((c.toNat : Int) ≠ 95) := by apply Bool.eq_iff_iff.2; rw [ql_, decide_eq_true_iff]; rfl
                  rw [g1, g1, g2, g2, g3]
                  unfold namN lowN isD
                  have q1 : ((97 : Int) ≤ (c.toNat : Int)) = (97 ≤ c.toNat) := by apply propext; omega
                  have q2 : ((c.toNat : Int) ≤ 122) = (c.toNat ≤ 122) := by apply propext; omega
                  have q3 : ((48 : Int) ≤ (c.toNat : Int)) = (48 ≤ c.toNat) := by apply propext; omega
                  have q4 : ((c.toNat : Int) ≤ 57) = (c.toNat ≤ 57) := by apply propext; omega
                  have q5 : ((c.toNat : Int) ≠ 95) = (c.toNat ≠ 95) := by apply propext; omega
                  simp only [q1, q2, q3, q4, q5]
                  by_cases p1 : 97 ≤ c.toNat <;> by_cases p2 : c.toNat ≤ 122 <;> by_cases p3 : 48 ≤ c.toNat <;> by_cases p4 : c.toNat ≤ 57 <;> by_cases p5 : c.toNat = 95 <;> simp [p1, p2, p3, p4, p5] <;> omega
                · intro self acc
                  show q88_ (q5n_ fun s i => self (s, i)) _ s (s.length : Int) = _
                  unfold q88_
                  rw [if_neg (by rw [qb_, q0_]; omega)]
                · rw [List.drop_zero, goL_all]
                  have e0 : (s != []) = true := by simpa using h0
                  have e1 : (s != sRec) = true := by simpa using a1
                  have e2 : (s != sSlv) = true := by simpa using a2
                  have e3 : (s != sEnd) = true := by simpa using a3
                  have e4 : lowN (s.headD 0).toNat = true := by unfold lowN; rw [decide_eq_true (show 97 ≤ (s.headD 0).toNat by omega), decide_eq_true (show (s.headD 0).toNat ≤ 122 by omega)]; rfl
                  unfold nameB
                  rw [e0, e1, e2, e3, e4, decide_eq_true (show s.length ≤ 20 by omega)]
                  cases (s.all fun c => namN c.toNat) <;> rfl
end Go.Proofs.Lx
end
section
namespace Go.Proofs.Lx
open Go Ev Sx Pl
set_option maxRecDepth 10000
def toksL (a : Int) (s : List UInt8) : TL × Int :=
  match h : s.dropWhile (fun c => isB c.toNat) with
  | [] => ([], 0)
  | c :: q => match h2 : tokS a c q with
    | .inl e => ([], e)
    | .inr (t, r) => (t :: (toksL a r).1, (toksL a r).2)
termination_by s.length
decreasing_by
  all_goals
    have h1 := tokS_len h2
    have h3 := (List.dropWhile_suffix (l := s) (fun c => isB c.toNat)).length_le
    rw [h] at h3
    simp at h3
    omega
theorem toksL_nil {a : Int} {s : List UInt8} (h : s.dropWhile (fun c => isB c.toNat) = []) : toksL a s = ([], 0) := by
  rw [toksL]
  split
  · rfl
  · rename_i h2; rw [h] at h2; cases h2
theorem toksL_err {a : Int} {s : List UInt8} {c : UInt8} {q : List UInt8} {e : Int} (h : s.dropWhile (fun c => isB c.toNat) = c :: q) (h2 : tokS a c q = .inl e) : toksL a s = ([], e) := by
  rw [toksL]
  split
  · rename_i h3; rw [h] at h3; cases h3
  · rename_i c' q' h3
    rw [h] at h3
    cases h3
    split
    · rename_i e' h4; rw [h2] at h4; cases h4; rfl
    · rename_i h4; rw [h2] at h4; cases h4
theorem toksL_tok {a : Int} {s : List UInt8} {c : UInt8} {q : List UInt8} {t : Tk1} {r : List UInt8} (h : s.dropWhile (fun c => isB c.toNat) = c :: q) (h2 : tokS a c q = .inr (t, r)) : toksL a s = (t :: (toksL a r).1, (toksL a r).2) := by
  rw [toksL]
  split
  · rename_i h3; rw [h] at h3; cases h3
  · rename_i c' q' h3
    rw [h] at h3
    cases h3
    split
    · rename_i e' h4; rw [h2] at h4; cases h4
    · rename_i t' r' h4; rw [h2] at h4; cases h4; rfl
theorem lineT_toks (a : Int) : ∀ (k : Nat) (s : List UInt8) (l : TL), s.length ≤ k ->
    lineT a s l = if (toksL a s).2 ≠ 0 then ([], (toksL a s).2) else (if l ++ (toksL a s).1 = [] then [] else l ++ (toksL a s).1 ++ [tkEnd a], 0) := by
  intro k
  have base : ∀ (s : List UInt8) (l : TL), s.dropWhile (fun c => isB c.toNat) = [] -> lineT a s l = if (toksL a s).2 ≠ 0 then ([], (toksL a s).2) else (if l ++ (toksL a s).1 = [] then [] else l ++ (toksL a s).1 ++ [tkEnd a], 0) := fun s l h => by
    rw [lineT_nil h, toksL_nil h]
    simp [tkEnd]
  induction k with
  | zero =>
    intro s l hs
    have : s = [] := List.eq_nil_of_length_eq_zero (by omega)
    subst this
    exact base [] l rfl
  | succ k ih =>
    intro s l hs
    have h3 := (List.dropWhile_suffix (l := s) (fun c => isB c.toNat)).length_le
    cases hd : s.dropWhile (fun c => isB c.toNat) with
    | nil => exact base s l hd
    | cons c q =>
      rw [hd] at h3
      simp at h3
      cases ht : tokS a c q with
      | inl e =>
        rw [lineT_err hd ht, toksL_err hd ht, if_pos (tokS_err ht)]
      | inr p =>
        obtain ⟨t, r⟩ := p
        have h4 := tokS_len ht
        rw [lineT_tok hd ht, toksL_tok hd ht, ih r (l ++ [t]) (by omega)]
        simp only [List.append_assoc, List.singleton_append]
end Go.Proofs.Lx
end
section
namespace Go.Proofs.Lx
open Go Ev Sx Pl
set_option maxRecDepth 10000
theorem lexS_acc : ∀ (k : Nat) (s : List UInt8) (n : Int) (l : TL), s.length ≤ k -> lexS n s l = (if (lexS n s []).2.1 ≠ 0 then [] else l ++ (lexS n s []).1, (lexS n s []).2) := by
  intro k
  induction k with
  | zero =>
    intro s n l hs
    have : s = [] := List.eq_nil_of_length_eq_zero (by omega)
    subst this
    rw [lexS, dif_pos rfl, lexS, dif_pos rfl]
    simp
  | succ k ih =>
    intro s n l hs
    by_cases hne : s = []
    · subst hne
      rw [lexS, dif_pos rfl, lexS, dif_pos rfl]
      simp
    · have hlen := lrest_len hne
      rw [lexS_step hne, lexS_step (l := []) hne]
      by_cases he : (lineT n (uncom (lfirst s)) []).2 = 0
      · have e : ¬ (lineT n (uncom (lfirst s)) []).2 ≠ 0 := by simpa using he
        rw [if_neg e, if_neg e, ih (lrest s) (n + 1) (l ++ _) (by omega), ih (lrest s) (n + 1) ([] ++ _) (by omega)]
        by_cases h2 : (lexS (n + 1) (lrest s) []).2.1 = 0
        · simp [h2]
        · simp [h2]
      · have e : (lineT n (uncom (lfirst s)) []).2 ≠ 0 := he
        rw [if_pos e, if_pos e]
        simp [e]
theorem lexS_one {s : List UInt8} {n : Int} (hne : s ≠ []) (he : (lineT n (uncom (lfirst s)) []).2 = 0) : lexS n s [] = (if (lexS (n + 1) (lrest s) []).2.1 ≠ 0 then [] else (lineT n (uncom (lfirst s)) []).1 ++ (lexS (n + 1) (lrest s) []).1, (lexS (n + 1) (lrest s) []).2) := by
  rw [lexS_step hne, if_neg (by simpa using he), lexS_acc _ (lrest s) (n + 1) _ (Nat.le_refl _), List.nil_append]
end Go.Proofs.Lx
end
section
namespace Go.Proofs.Lx
open Go Ev Sx Pl
set_option maxRecDepth 10000
def unitB (s : List UInt8) : Bool := decide (s.length ≤ 20) && match s with
  | [] => true
  | c :: q => w1 c.toNat && q.all (fun c => wm c.toNat)
structure GoodT (a : Int) (t : Tk1) : Prop where
  k : t.1 ≠ 4
  l : t.2.2.2 = a
  w : t.1 = 1 -> unitB t.2.1 = true ∧ t.2.1 ≠ []
  n : t.1 = 2 -> parseS t.2.1 = (t.2.2.1, true)
theorem tw_mem {p : UInt8 -> Bool} : ∀ (q : List UInt8), (q.takeWhile p).all p = true
  | [] => rfl
  | c :: q => by
    rw [List.takeWhile_cons]
    split
    · rename_i h
      rw [List.all_cons, h, tw_mem q]
      rfl
    · rfl
theorem tokS_good {a : Int} {c : UInt8} {q : List UInt8} {t : Tk1} {r : List UInt8} (h : tokS a c q = .inr (t, r)) : GoodT a t := by
  unfold tokS at h
  split at h
  · rename_i h1
    split at h
    · cases h
    · rename_i h2
      cases h
      refine ⟨(by decide : (1 : Int) ≠ 4), rfl, fun _ => ⟨?_, List.cons_ne_nil _ _⟩, fun e => absurd e (by decide : (1 : Int) ≠ 2)⟩
      show (decide ((c :: q.takeWhile (fun c => wm c.toNat)).length ≤ 20) && (w1 c.toNat && (q.takeWhile (fun c => wm c.toNat)).all (fun c => wm c.toNat))) = true
      rw [h1, tw_mem, decide_eq_true (by omega)]
      rfl
  · split at h
    · split at h
      · rename_i h2
        cases h
        exact ⟨(by decide : (2 : Int) ≠ 4), rfl, fun e => absurd e (by decide : (2 : Int) ≠ 1), fun _ => Prod.ext rfl h2⟩
      · cases h
    · split at h
      · cases h
        exact ⟨(by decide : (3 : Int) ≠ 4), rfl, fun e => absurd e (by decide : (3 : Int) ≠ 1), fun e => absurd e (by decide : (3 : Int) ≠ 2)⟩
      · cases h
theorem toks_good (a : Int) : ∀ (k : Nat) (s : List UInt8), s.length ≤ k -> ∀ t ∈ (toksL a s).1, GoodT a t
  | 0, s, h, t, ht => by
    have : s = [] := List.eq_nil_of_length_eq_zero (by omega)
    subst this
    rw [toksL_nil rfl] at ht
    cases ht
  | k + 1, s, h, t, ht => by
    match hd : s.dropWhile (fun c => isB c.toNat) with
    | [] => rw [toksL_nil hd] at ht; cases ht
    | c :: q =>
      have h3 := (List.dropWhile_suffix (l := s) (fun c => isB c.toNat)).length_le
      rw [hd] at h3
      simp at h3
      match h2 : tokS a c q with
      | .inl e => rw [toksL_err hd h2] at ht; cases ht
      | .inr (t', r) =>
        have h1 := tokS_len h2
        rw [toksL_tok hd h2] at ht
        rcases List.mem_cons.1 ht with ht | ht
        · subst ht; exact tokS_good h2
        · exact toks_good a k r (by omega) t ht
structure RowsT (l : TL) (rs : List (TL × Int)) : Prop where
  e : l = rs.flatMap fun p => p.1 ++ [tkEnd p.2]
  g : ∀ p ∈ rs, p.1 ≠ [] ∧ ∀ t ∈ p.1, GoodT p.2 t
theorem line_rows (a : Int) (s : List UInt8) (h : (lineT a s []).2 = 0) : ∃ rs, RowsT (lineT a s []).1 rs := by
  have e := lineT_toks a s.length s [] (Nat.le_refl _)
  rw [List.nil_append] at e
  by_cases h1 : (toksL a s).2 ≠ 0
  · rw [if_pos h1] at e
    rw [e] at h
    exact absurd h h1
  · rw [if_neg h1] at e
    by_cases h2 : (toksL a s).1 = []
    · rw [if_pos h2] at e
      rw [e]
      exact ⟨[], ⟨rfl, fun p hp => by cases hp⟩⟩
    · rw [if_neg h2] at e
      rw [e]
      refine ⟨[((toksL a s).1, a)], ⟨by simp, fun p hp => ?_⟩⟩
      rw [List.mem_singleton] at hp
      subst hp
      exact ⟨h2, toks_good a _ s (Nat.le_refl _)⟩
theorem RowsT.app {l l' : TL} {rs rs' : List (TL × Int)} (h : RowsT l rs) (h' : RowsT l' rs') : RowsT (l ++ l') (rs ++ rs') :=
  ⟨by rw [h.e, h'.e, List.flatMap_append], fun p hp => by
    rcases List.mem_append.1 hp with hp | hp
    · exact h.g p hp
    · exact h'.g p hp⟩
theorem lexS_rows : ∀ (k : Nat) (s : List UInt8) (n : Int), s.length ≤ k -> (lexS n s []).2.1 = 0 -> ∃ rs, RowsT (lexS n s []).1 rs
  | 0, s, n, h, _ => by
    have : s = [] := List.eq_nil_of_length_eq_zero (by omega)
    subst this
    rw [lexS, dif_pos rfl]
    exact ⟨[], ⟨rfl, fun p hp => by cases hp⟩⟩
  | k + 1, s, n, h, he => by
    by_cases hs : s = []
    · rw [hs, lexS, dif_pos rfl]
      exact ⟨[], ⟨rfl, fun p hp => by cases hp⟩⟩
    · by_cases h1 : (lineT n (uncom (lfirst s)) []).2 = 0
      · have e := lexS_one hs h1
        rw [e] at he ⊢
        have he : (lexS (n + 1) (lrest s) []).2.1 = 0 := he
        have hlt := lrest_len hs
        obtain ⟨rs, hr⟩ := lexS_rows k (lrest s) (n + 1) (by omega) he
        obtain ⟨rs0, hr0⟩ := line_rows n _ h1
        rw [he, if_neg (by decide)]
        exact ⟨_, hr0.app hr⟩
      · rw [lexS_step hs, if_pos h1] at he
        exact absurd he h1
theorem lexR_rows {s : List UInt8} (h : (lexR s).2.1 = 0) : ∃ rs, RowsT (lexR s).1 rs := by
  unfold lexR at h ⊢
  split
  · rename_i h1
    rw [if_pos h1] at h
    exact absurd h (by decide : (130 : Int) ≠ 0)
  · rename_i h1
    rw [if_neg h1] at h
    exact lexS_rows _ s 1 (Nat.le_refl _) h
theorem unit_eq {s : List UInt8} : qdg_ (s, ()) = some (unitB s, ()) := by
  show qc5_ q7k_ s = _
  unfold qc5_
  by_cases h1 : 20 < s.length
  · rw [if_pos (q1w_.2 (by rw [q0_]; omega))]
    have : unitB s = false := by unfold unitB; rw [decide_eq_false (show ¬ s.length ≤ 20 by omega)]; rfl
    rw [this]
  · rw [if_neg (fun e => h1 (by have := q1w_.1 e; rw [q0_] at this; omega))]
    have stp : ∀ (self : (List UInt8) × (Int) × (Int) -> Option (As [.bool])) (i : Nat) (c : UInt8), s[i]? = some c ->
        q79_ (q74_ fun s t10 t11 => self (s, t10, t11)) (fun s t10 t11 => self (s, t10, t11)) s (Int.ofNat s.length) (i : Int) =
        if (if i = 0 then w1 c.toNat else wm c.toNat) = true then self (s, Int.ofNat s.length, ((i + 1 : Nat) : Int)) else some (false, ()) := fun self i c hc => by
      have hi := (List.getElem?_eq_some_iff.1 hc).1
      unfold q79_
      have K3 : ∀ b, q9l_ (fun s t10 t11 => self (s, t10, t11)) s (Int.ofNat s.length) (i : Int) b = if b = true then some (false, ()) else self (s, Int.ofNat s.length, ((i + 1 : Nat) : Int)) := fun b => by
        show qc7_ _ s (Int.ofNat s.length) (i : Int) b = _
        unfold qc7_
        rw [q1a_ (by omega)]
      have K2 : ∀ b, q74_ (fun s t10 t11 => self (s, t10, t11)) s (i : Int) (Int.ofNat c.toNat) b (Int.ofNat s.length) (i : Int) = if (b || (decide (i ≠ 0) && (isD c.toNat || c.toNat == 95))) = true then self (s, Int.ofNat s.length, ((i + 1 : Nat) : Int)) else some (false, ()) := fun b => by
        show qcj_ (q9l_ fun s t10 t11 => self (s, t10, t11)) _ s (i : Int) (Int.ofNat c.toNat) b (Int.ofNat s.length) (i : Int) = _
        unfold qcj_
        simp only [K3]
        cases b with
        | true => rfl
        | false =>
          rw [if_pos (by rfl)]
          by_cases h0 : i = 0
          · rw [if_pos (qn_.2 (by omega)), decide_eq_false (show ¬ i ≠ 0 by omega)]
            rfl
          · rw [if_neg (fun e => h0 (by have := qn_.1 e; omega)), decide_eq_true h0, rdigit_eq, Option.bind_some]
            cases e2 : isD c.toNat with
            | true => rfl
            | false =>
              rw [if_pos (by rfl)]
              have g3 : nei (Int.ofNat c.toNat) 95 = !(c.toNat == 95) := by
                apply Bool.eq_iff_iff.2
                rw [ql_]
                simp
                omega
              rw [g3]
              cases (c.toNat == 95) <;> rfl
      rw [if_pos (by rw [qb_, q0_]; omega), at_get hc, Option.bind_some, lower_eq, Option.bind_some]
      simp only [K2]
      have g1 : ge (Int.ofNat c.toNat) 65 = decide (65 ≤ c.toNat) := by
        show decide ((65 : Int) ≤ (c.toNat : Int)) = _
        apply Bool.eq_iff_iff.2; simp; omega
      have g2 : le (Int.ofNat c.toNat) 90 = decide (c.toNat ≤ 90) := by
        show decide ((c.toNat : Int) ≤ 90) = _
        apply Bool.eq_iff_iff.2; simp; omega
      have g3 : eqi (Int.ofNat c.toNat) 37 = (c.toNat == 37) := by
        apply Bool.eq_iff_iff.2
        rw [qn_]
        simp
        omega
      rw [g1, g2, g3]
      have hw : w1 c.toNat = (lowN c.toNat || (decide (65 ≤ c.toNat) && decide (c.toNat ≤ 90)) || c.toNat == 37) := by unfold w1 isL lowN; rfl
      have hm : wm c.toNat = (w1 c.toNat || isD c.toNat || c.toNat == 95) := by
        unfold wm w1
        cases isL c.toNat <;> cases isD c.toNat <;> cases (c.toNat == 95) <;> cases (c.toNat == 37) <;> rfl
      rw [hm, hw]
      by_cases h0 : i = 0
      · rw [if_pos h0, decide_eq_false (show ¬ i ≠ 0 by omega)]
        cases lowN c.toNat <;> cases decide (65 ≤ c.toNat) <;> cases decide (c.toNat ≤ 90) <;> cases (c.toNat == 37) <;> rfl
      · rw [if_neg h0, decide_eq_true h0]
        cases lowN c.toNat <;> cases decide (65 ≤ c.toNat) <;> cases decide (c.toNat ≤ 90) <;> cases (c.toNat == 37) <;> cases isD c.toNat <;> cases (c.toNat == 95) <;> rfl
    have fin : ∀ (self : (List UInt8) × (Int) × (Int) -> Option (As [.bool])), q79_ (q74_ fun s t10 t11 => self (s, t10, t11)) (fun s t10 t11 => self (s, t10, t11)) s (Int.ofNat s.length) (s.length : Int) = some (true, ()) := fun self => by
      unfold q79_
      rw [if_neg (by rw [qb_, q0_]; omega)]
    show q7k_ s (Int.ofNat s.length) 0 = _
    unfold q7k_
    match s, h1, stp, fin with
    | [], _, stp, fin => rfl
    | c :: q, h1, stp, fin =>
      rw [show (18446744073709551616 : Nat) = 18446744073709551615 + 1 from rfl, q1t_]
      refine (stp _ 0 c rfl).trans ?_
      rw [if_pos rfl]
      have hu : unitB (c :: q) = (w1 c.toNat && q.all (fun c => wm c.toNat)) := by
        unfold unitB
        rw [decide_eq_true (show (c :: q).length ≤ 20 by omega)]
        rfl
      rw [hu]
      cases hc : w1 c.toNat with
      | false => rfl
      | true =>
        rw [if_pos rfl]
        refine (loop_go (xs := q) (mk := fun i (_ : Unit) => (c :: q, Int.ofNat (c :: q).length, ((i + 1 : Nat) : Int))) (body := fun a x k => if wm x.toNat = true then k a else some (false, ())) (fin := fun _ => some (true, ())) ?_ ?_ q.length 0 () _ (by omega) (by rw [List.length_cons] at h1; omega)).trans ?_
        · intro self i acc x hx
          have := stp self (i + 1) x (by simpa using hx)
          rw [if_neg (show ¬ i + 1 = 0 by omega)] at this
          exact this
        · intro self acc
          exact fin self
        · rw [List.drop_zero, goL_all]
          cases (q.all fun c => wm c.toNat) <;> rfl
theorem word_of {s : List UInt8} (h : unitB s = true) (hne : s ≠ []) : Word s := by
  unfold unitB at h
  match s, hne with
  | c :: q, _ =>
    simp only [Bool.and_eq_true, decide_eq_true_eq] at h
    refine ⟨fun b hb => ?_, ⟨c, q, rfl, h.2.1⟩, by have := h.1; omega⟩
    rcases List.mem_cons.1 hb with hb | hb
    · subst hb; exact w1_wm _ h.2.1
    · exact List.all_eq_true.1 h.2.2 b hb
theorem rword_eq {s : List UInt8} (hne : s ≠ []) : qhg_ (s, ()) = some (unitB s, ()) := by
  show qh2_ s = _
  unfold qh2_
  rw [ref_eq, Option.bind_some]
  dsimp only
  by_cases hu : unitB s = true
  · have hw := word_of hu hne
    have h20 : s.length ≤ 20 := by
      unfold unitB at hu
      simp only [Bool.and_eq_true, decide_eq_true_eq] at hu
      exact hu.1
    have e := lex1 hw
    rw [if_neg (by omega), lex_eq] at e
    have e := Option.some.inj e
    have e1 : (lexR s).1 = [(1, s, (0, 0), 1), (4, [], (0, 0), 1)] := congrArg Prod.fst e
    have e2 : (lexR s).2 = (0, 0) := congrArg (fun x => x.2.1) e
    rw [e1, e2, hu]
    show some (eqs s s, ()) = _
    rw [q3x_.2 rfl]
  · have hf : unitB s = false := by simpa using hu
    rw [hf]
    by_cases he : (lexR s).2.1 = 0
    · rw [if_pos (qn_.2 he)]
      by_cases hl : (lexR s).1.length = 2
      · rw [if_pos (qn_.2 (by rw [q0_, hl]; rfl))]
        obtain ⟨rs, hr⟩ := lexR_rows he
        match hx : (lexR s).1, hl with
        | [t, u], _ =>
          rw [at_zero, Option.bind_some]
          by_cases hk : t.1 = 1
          · rw [if_pos (qn_.2 hk), Option.bind_some]
            have hne2 : t.2.1 ≠ s := fun e => by
              have hmem : t ∈ rs.flatMap fun p => p.1 ++ [tkEnd p.2] := by rw [<- hr.e, hx]; exact List.mem_cons_self ..
              obtain ⟨p, hp, ht⟩ := List.mem_flatMap.1 hmem
              rcases List.mem_append.1 ht with ht | ht
              · have := ((hr.g p hp).2 t ht).w hk
                rw [e, hf] at this
                exact Bool.false_ne_true this.1
              · rw [List.mem_singleton] at ht
                rw [ht] at hk
                exact absurd hk (by decide : (4 : Int) ≠ 1)
            show some (eqs t.2.1 s, ()) = _
            rw [eqs_f hne2]
          · rw [if_neg (fun e => hk (qn_.1 e))]
      · rw [if_neg (fun e => hl (by have := qn_.1 e; rw [q0_] at this; omega))]
    · rw [if_neg (fun e => he (qn_.1 e))]
end Go.Proofs.Lx
end
section
namespace Go.Proofs.Lx
open Go Ev Sx Pl
set_option maxRecDepth 100000
theorem qnat {i d : Nat} (hi : i < 4611686018427387904) : quo .i64 (i : Int) (d : Int) = ((i / d : Nat) : Int) := by
  unfold quo
  have e : ((i : Int)).tdiv (d : Int) = ((i / d : Nat) : Int) := rfl
  have h := Nat.div_le_self i d
  rw [e]
  generalize i / d = q at h ⊢
  exact w64 (by omega) (by omega)
theorem rnat {i d : Nat} : rem (i : Int) (d : Int) = ((i % d : Nat) : Int) := rfl
theorem power_eq : ∀ {D : Nat}, D ≤ 6 -> qdk_ ((D : Int), ()) = some (((10 ^ D : Nat) : Int), ())
  | 0, _ => by kernel_rfl
  | 1, _ => by kernel_rfl
  | 2, _ => by kernel_rfl
  | 3, _ => by kernel_rfl
  | 4, _ => by kernel_rfl
  | 5, _ => by kernel_rfl
  | 6, _ => by kernel_rfl
  | _ + 7, h => by omega
theorem repeat_eq : ∀ {k : Nat}, k ≤ 7 -> strings_Repeat ([48], (k : Int), ()) = some (List.replicate k 48, ())
  | 0, _ => by kernel_rfl
  | 1, _ => by kernel_rfl
  | 2, _ => by kernel_rfl
  | 3, _ => by kernel_rfl
  | 4, _ => by kernel_rfl
  | 5, _ => by kernel_rfl
  | 6, _ => by kernel_rfl
  | 7, _ => by kernel_rfl
  | _ + 8, h => by omega
theorem fint_eq {n : Nat} (h : n ≤ 1000000000000) : q6v_ ((n : Int), 10, ()) = some (dd n, ()) := by
  have e : q8u_ ((n : Int), 10, ()) = some (dd n, ()) := by
    show (if (-9223372036854775808 ≤ (n : Int) ∧ (n : Int) ≤ 9223372036854775807) ∧ (10 : Int) = 10 then some (itF (n : Int), ()) else none) = _
    rw [if_pos ⟨⟨by omega, by omega⟩, rfl⟩, itF, if_neg (by omega), Int.toNat_natCast, dF_eq 19 n (by omega)]
  show Option.bind (q8u_ ((n : Int), 10, ())) _ = _
  rw [e]
  rfl
theorem RtD.right {d : Int × Int} {sg : Bool} {n D : Nat} (h : RtD d sg n D) : q8y_ (d, ()) = some (true, ()) := by
  obtain ⟨x, y⟩ := d
  have e1 : x = if sg then -(n : Int) else (n : Int) := h.e1
  have e2 : y = (D : Int) := h.e2
  have hle := h.le
  have h6 := h.d6
  show q9q_ (x, y) = _
  unfold q9q_
  dsimp only
  have b1 : -1000000000000 ≤ x ∧ x ≤ 1000000000000 := by
    rw [e1]
    split <;> omega
  rw [if_pos (ge_iff.2 b1.1), if_pos (le_iff.2 b1.2), if_pos (by rw [le_iff]; omega)]
  by_cases h0 : D = 0
  · rw [if_pos (by rw [qn_]; omega)]
  · rw [if_neg (by rw [qn_]; omega)]
    have hz := h.tz h0
    have : nei (rem x 10) 0 = true := by
      rw [ql_]
      unfold rem
      rw [e1]
      cases sg with
      | true =>
        rw [if_pos rfl, Int.neg_tmod]
        show -((n % 10 : Nat) : Int) ≠ 0
        omega
      | false =>
        show ((n % 10 : Nat) : Int) ≠ 0
        omega
    rw [this]
theorem show_K1 {sign : List UInt8} {n D : Nat} {d : Int × Int} (he : d.2 = (D : Int)) (hle : n ≤ 1000000000000) (h6 : D ≤ 6) (hs : sign.length ≤ 1) :
    q8e_ (n : Int) sign d = some (sign ++ dd (n / 10 ^ D) ++ (if D = 0 then [] else 46 :: fx D (n % 10 ^ D)), ()) := by
  obtain ⟨x, y⟩ := d
  have he : y = (D : Int) := he
  subst he
  unfold q8e_ qh3_
  dsimp only
  have ec : cvt .i64 (D : Int) = (D : Int) := cvt64 (by omega) (by omega)
  have hp : 0 < 10 ^ D := Nat.pow_pos (by omega)
  have hq : n / 10 ^ D ≤ 1000000000000 := Nat.le_trans (Nat.div_le_self _ _) hle
  have hm : n % 10 ^ D ≤ 1000000000000 := Nat.le_trans (Nat.mod_le _ _) hle
  have hlq : (dd (n / 10 ^ D)).length ≤ 13 := dd_len (by omega) (by omega)
  have hml : n % 10 ^ D < 10 ^ D := Nat.mod_lt _ hp
  rw [ec, power_eq h6, Option.bind_some]
  dsimp only
  rw [need_t (by rw [ql_]; omega), qnat (by omega), fint_eq hq, Option.bind_some]
  dsimp only
  rw [qi_ (by omega)]
  by_cases h0 : D = 0
  · rw [if_pos (by rw [qn_]; omega), if_pos h0, List.append_nil]
  · have hl : (dd (n % 10 ^ D)).length ≤ D := dd_len (by omega) hml
    rw [if_neg (by rw [qn_]; omega), if_neg h0, need_t (by rw [ql_]; omega), rnat, fint_eq hm, Option.bind_some]
    dsimp only
    have es : sub .i64 (D : Int) (Int.ofNat (dd (n % 10 ^ D)).length) = ((D - (dd (n % 10 ^ D)).length : Nat) : Int) := by
      rw [q0_, sub64 (by omega) (by omega)]
      omega
    rw [qi_ (by simp; omega), es, repeat_eq (by omega), Option.bind_some]
    dsimp only
    rw [qi_ (by simp; omega), qi_ (by simp; omega), <- pad_fx D _ (by omega) hml]
    simp
theorem show_eq {d : Int × Int} {sg : Bool} {n D : Nat} (h : RtD d sg n D) : qab_ (d, ()) = some (shw sg n D, ()) := by
  show qe0_ q8e_ d = _
  unfold qe0_ shw
  have hle := h.le
  rw [h.right, Option.bind_some, if_neg (by decide)]
  cases sg with
  | true =>
    have e1 : d.1 = -(n : Int) := h.e1
    have hn := h.nz rfl
    have en : neg .i64 d.1 = (n : Int) := by rw [e1, neg64 (by omega) (by omega)]; omega
    rw [if_pos (by rw [qb_]; omega), en, show_K1 h.e2 h.le h.d6 (by decide)]
    rfl
  | false =>
    have e1 : d.1 = (n : Int) := h.e1
    rw [if_neg (by rw [qb_]; omega), e1, show_K1 h.e2 h.le h.d6 (by decide)]
    rfl
theorem rtd_of {x : Int} {D : Nat} (hx : -1000000000000 ≤ x ∧ x ≤ 1000000000000) (h6 : D ≤ 6) (hz : D ≠ 0 -> x.tmod 10 ≠ 0) : ∃ sg n, RtD (x, (D : Int)) sg n D := by
  rcases Int.lt_or_le x 0 with h | h
  · obtain ⟨n, rfl⟩ : ∃ n : Nat, x = -(n : Int) := ⟨x.natAbs, by omega⟩
    refine ⟨true, n, rfl, rfl, fun _ => by omega, by omega, h6, fun h0 e => hz h0 ?_⟩
    rw [Int.neg_tmod]
    show -((n % 10 : Nat) : Int) = 0
    omega
  · obtain ⟨n, rfl⟩ := Int.eq_ofNat_of_zero_le h
    refine ⟨false, n, rfl, rfl, fun e => (by cases e), by omega, h6, fun h0 e => hz h0 ?_⟩
    show ((n % 10 : Nat) : Int) = 0
    omega
end Go.Proofs.Lx
end
section
namespace Go.Proofs.Lx
open Go Ev Sx Pl
set_option maxRecDepth 100000
def qf7_  := (fun (self : (List UInt8) × (List UInt8) × (Int × Int) -> Option (As [.str])) (s : (List UInt8) × (List UInt8) × (Int × Int)) => q89_ (q5k_) (fun sign s d => self (sign, s, d)) s.1 s.2.1 s.2.2)
theorem qhi_  (self : (List UInt8) × (List UInt8) × (Int × Int) -> Option (As [.str])) (sign : List UInt8) (s : List UInt8) (d : Int × Int) : qf7_ self (sign, s, d) = q89_ (q5k_) (fun sign s d => self (sign, s, d)) sign s d := rfl
theorem qjy_  (sign : List UInt8) (s : List UInt8) (d : Int × Int) : qdu_ sign s d = loopF (qf7_) 18446744073709551616 (sign, s, d) := rfl
theorem digits_eq {n : Nat} (h : n ≤ 1000000000000) : q9k_ ((n : Int), ()) = some (dd n, ()) := by
  show (if 0 ≤ (n : Int) ∧ (n : Int) ≤ 9223372036854775807 then some (dF 19 (n : Int).toNat, ()) else none) = _
  rw [if_pos ⟨by omega, by omega⟩, Int.toNat_natCast, dF_eq 19 n (by omega)]
theorem dd_split : ∀ (D n : Nat), 10 ^ D ≤ n -> dd n = dd (n / 10 ^ D) ++ fx D (n % 10 ^ D)
  | 0, n, _ => by simp [fx]
  | D + 1, n, h => by
    rw [Nat.pow_succ] at h
    have hp : 0 < 10 ^ D := Nat.pow_pos (by omega)
    rw [dd_big (by omega), dd_split D (n / 10) (by omega), fx, List.append_assoc]
    have e1 : n / 10 / 10 ^ D = n / 10 ^ (D + 1) := by rw [Nat.div_div_eq_div_mul, Nat.pow_succ, Nat.mul_comm]
    have e2 : n % 10 ^ (D + 1) / 10 = n / 10 % 10 ^ D := by
      rw [Nat.pow_succ, Nat.mul_comm (10 ^ D) 10, Nat.mod_mul_right_div_self]
    have e3 : n % 10 ^ (D + 1) % 10 = n % 10 := by
      rw [Nat.pow_succ, Nat.mul_comm (10 ^ D) 10, Nat.mod_mul_right_mod]
    rw [e1, e2, e3]
theorem dd_pad {D n : Nat} (hD : 1 ≤ D) : List.replicate (D + 1 - (dd n).length) 48 ++ dd n = dd (n / 10 ^ D) ++ fx D (n % 10 ^ D) := by
  by_cases h : 10 ^ D ≤ n
  · have hs := dd_split D n h
    have hl : D + 1 ≤ (dd n).length := by
      have hne := dd_ne (n / 10 ^ D)
      have : 0 < (dd (n / 10 ^ D)).length := List.length_pos_iff.2 hne
      rw [hs, List.length_append, fx_len]
      omega
    rw [show D + 1 - (dd n).length = 0 by omega]
    exact hs
  · have hlt : n < 10 ^ D := by omega
    have hl := dd_len hD hlt
    rw [Nat.div_eq_of_lt hlt, Nat.mod_eq_of_lt hlt, <- pad_fx D n hD hlt, show D + 1 - (dd n).length = (D - (dd n).length) + 1 by omega, List.replicate_succ]
    have : dd 0 = [48] := by rw [dd_small (by decide)]; rfl
    rw [this]
    rfl
theorem show_K3 {sign p q : List UInt8} {d : Int × Int} {D : Nat} (hd : d.2 = (D : Int)) (hq : q.length = D) (h6 : D ≤ 6) (hp : p.length ≤ 1000) (hs : sign.length ≤ 1) :
    q5k_ sign (p ++ q) d = some (sign ++ p ++ 46 :: q, ()) := by
  unfold q5k_ qgz_
  have e1 : Sx.sub .i64 (Int.ofNat (p ++ q).length) (cvt .i64 d.2) = (p.length : Int) := by
    have : Int.ofNat (p ++ q).length = ((p.length + D : Nat) : Int) := by simp [hq]
    rw [this, hd, cvt64 (by omega) (by omega), sub64 (by omega) (by omega)]
    omega
  rw [e1, cut_app0, Option.bind_some, cut_app1]
  have l1 : (sign ++ p).length ≤ 1001 := by simp; omega
  have l2 : (sign ++ p ++ [46]).length ≤ 1002 := by simp; omega
  rw [qi_ (by omega), qi_ (by omega), Option.bind_some, qi_ (by omega)]
  simp
theorem rshow_loop {sign : List UInt8} {d : Int × Int} {D : Nat} (hd : d.2 = (D : Int)) (h6 : D ≤ 6) (hs : sign.length ≤ 1) : ∀ (r N : Nat) (s : List UInt8), s.length + r ≤ 1000 -> (r = 0 ∨ s.length + r = D + 1) -> D < s.length + r ->
    loopF qf7_ (N + r + 1) (sign, s, d) = q5k_ sign (List.replicate r 48 ++ s) d
  | 0, N, s, hl, _, h => by
    rw [q1t_, qhi_]
    unfold q89_
    have e : Int.ofNat s.length = (s.length : Int) := rfl
    rw [if_neg (by rw [le_iff, hd, cvt64 (by omega) (by omega), e]; omega)]
    rfl
  | r + 1, N, s, hl, hr, h => by
    rw [q1t_, qhi_]
    unfold q89_
    have e : Int.ofNat s.length = (s.length : Int) := rfl
    rw [if_pos (by rw [le_iff, hd, cvt64 (by omega) (by omega), e]; omega), qi_ (by omega)]
    have := rshow_loop hd h6 hs r N (48 :: s) (by simp; omega) (by right; simp; omega) (by simp; omega)
    refine Eq.trans this ?_
    rw [List.replicate_succ']
    simp
theorem rshow_eq {d : Int × Int} {sg : Bool} {n D : Nat} (h : RtD d sg n D) : qbq_ (d, ()) = some (shw sg n D, ()) := by
  have hle := h.le
  have h6 := h.d6
  have h2 := h.e2
  have hlen : (dd n).length ≤ 13 := dd_len (by decide) (by omega)
  show qam_ q6l_ d = _
  have e0 : qam_ q6l_ d = q6l_ (n : Int) (if sg then [45] else []) d := by
    unfold qam_
    have e1 := h.e1
    cases sg with
    | true =>
      have := h.nz rfl
      have e : d.1 = -(n : Int) := e1
      rw [if_pos (by rw [qb_]; omega), neg64 (by omega) (by omega)]
      have : -d.1 = (n : Int) := by omega
      rw [this]
      rfl
    | false =>
      have e : d.1 = (n : Int) := e1
      rw [if_neg (by rw [qb_]; omega), e]
      rfl
  rw [e0]
  have hs : (if sg then [45] else [] : List UInt8).length ≤ 1 := by cases sg <;> simp
  unfold shw
  generalize (if sg then [45] else [] : List UInt8) = sign at hs ⊢
  unfold q6l_ qgy_
  rw [digits_eq hle, Option.bind_some]
  dsimp only
  by_cases h0 : D = 0
  · subst h0
    rw [if_pos (by rw [qn_, h2]; rfl), qi_ (by omega), if_pos rfl]
    simp
  · rw [if_neg (by rw [qn_, h2]; omega), qjy_, if_neg h0]
    have := rshow_loop (sign := sign) h2 h6 hs (D + 1 - (dd n).length) (18446744073709551615 - (D + 1 - (dd n).length)) (dd n) (by omega) (by omega) (by omega)
    rw [show 18446744073709551615 - (D + 1 - (dd n).length) + (D + 1 - (dd n).length) + 1 = 18446744073709551616 by omega] at this
    refine Eq.trans this ?_
    rw [dd_pad (by omega)]
    have hl2 : (dd (n / 10 ^ D)).length ≤ 13 := dd_len (by decide) (by have := Nat.div_le_self n (10 ^ D); omega)
    exact show_K3 h2 (fx_len _ _) h6 (by omega) hs
def rgt (d : Int × Int) : Bool := decide (-1000000000000 ≤ d.1 ∧ d.1 ≤ 1000000000000 ∧ d.2 ≤ 6 ∧ (d.2 = 0 ∨ d.1.tmod 10 ≠ 0))
theorem right_eq (d : Int × Int) : q8y_ (d, ()) = some (rgt d, ()) := by
  obtain ⟨x, y⟩ := d
  show q9q_ (x, y) = _
  unfold q9q_ rgt
  dsimp only
  by_cases h1 : -1000000000000 ≤ x
  · rw [if_pos (ge_iff.2 h1)]
    by_cases h2 : x ≤ 1000000000000
    · rw [if_pos (le_iff.2 h2)]
      by_cases h3 : y ≤ 6
      · rw [if_pos (le_iff.2 h3)]
        by_cases h4 : y = 0
        · rw [if_pos (qn_.2 h4), decide_eq_true ⟨h1, h2, h3, Or.inl h4⟩]
        · rw [if_neg (fun e => h4 (qn_.1 e))]
          by_cases h5 : x.tmod 10 = 0
          · have e : nei (rem x 10) 0 = false := by
              cases q : nei (rem x 10) 0 with
              | true => exact absurd h5 (ql_.1 q)
              | false => rfl
            rw [e, decide_eq_false]
            rintro ⟨_, _, _, h | h⟩
            · exact h4 h
            · exact h h5
          · rw [ql_.2 (show rem x 10 ≠ 0 from h5), decide_eq_true ⟨h1, h2, h3, Or.inr h5⟩]
      · rw [if_neg (fun e => h3 (le_iff.1 e)), decide_eq_false (fun h => h3 h.2.2.1)]
    · rw [if_neg (fun e => h2 (le_iff.1 e)), decide_eq_false (fun h => h2 h.2.1)]
  · rw [if_neg (fun e => h1 (ge_iff.1 e)), decide_eq_false (fun h => h1 h.1)]
theorem rright_eq (d : Int × Int) : qgs_ (d, ()) = some (rgt d, ()) := right_eq d
theorem rgt_rt {d : Int × Int} (h : rgt d = true) (h0 : 0 ≤ d.2) : ∃ sg n D, RtD d sg n D := by
  obtain ⟨x, y⟩ := d
  obtain ⟨h1, h2, h3, h4⟩ := of_decide_eq_true h
  have h0 : 0 ≤ y := h0
  have h3 : y ≤ 6 := h3
  obtain ⟨sg, n, hr⟩ := rtd_of (D := y.toNat) ⟨h1, h2⟩ (by omega) (fun e => by
    rcases h4 with h4 | h4
    · have h4 : y = 0 := h4
      omega
    · exact h4)
  rw [Int.toNat_of_nonneg h0] at hr
  exact ⟨sg, n, _, hr⟩
end Go.Proofs.Lx
end
section
namespace Go.Proofs.Lx
open Go Ev Sx Pl
set_option maxRecDepth 10000
abbrev TSet := List UInt8 × (Int × Int) × List UInt8 × Int
abbrev TPart := List UInt8 × Int × List TSet
abbrev TRec := List UInt8 × List TPart
def setB (s : TSet) : Bool := nameB s.1 && (rgt s.2.1 && unitB s.2.2.1)
def partB (p : TPart) : Bool := nameB p.1 && (decide (p.2.2.length ≤ 64) && p.2.2.all setB)
def rightB (r : TRec) : Bool := nameB r.1 && (decide (r.2.length ≤ 8) && r.2.all partB)
theorem loop_all {σ R α : Type} {F : (σ -> Option R) -> σ -> Option R} {mk : Nat -> σ} {xs : List α} {p : α -> Bool} {r0 fin : Option R}
    (hs : ∀ self i x, xs[i]? = some x -> F self (mk i) = if p x = true then self (mk (i + 1)) else r0) (he : ∀ self, F self (mk xs.length) = fin) {n : Nat} (h : xs.length < n) :
    loopF F n (mk 0) = if xs.all p = true then fin else r0 := by
  have := loop_go (xs := xs) (mk := fun i (_ : Unit) => mk i) (body := fun a x k => if p x = true then k a else r0) (fin := fun _ => fin) (fun self i acc x hx => hs self i x hx) (fun self _ => he self) xs.length 0 () n (by omega) h
  rw [List.drop_zero, goL_all] at this
  exact this
theorem gtn {n k : Nat} : gt (Int.ofNat n) (k : Int) = !decide (n ≤ k) := by
  apply Bool.eq_iff_iff.2
  rw [q1w_, q0_]
  simp
theorem right_eq' {r : TRec} (h1 : r.2.length ≤ 1000000) (h2 : ∀ p ∈ r.2, p.2.2.length ≤ 1000000) : q7q_ (r, ()) = some (rightB r, ()) := by
  show qba_ q8o_ r = _
  unfold qba_
  have K1 : ∀ b, q8o_ b r = if b = true then some (false, ()) else q6i_ r.2 (Int.ofNat r.2.length) 0 := fun b => rfl
  rw [name_eq, Option.bind_some]
  have e8 : gt (Int.ofNat r.2.length) 8 = !decide (r.2.length ≤ 8) := gtn (k := 8)
  simp only [K1, e8]
  have K2 : q6i_ r.2 (Int.ofNat r.2.length) 0 = if r.2.all partB = true then some (true, ()) else some (false, ()) := by
    unfold q6i_
    refine loop_all (xs := r.2) (mk := fun i => (r.2, Int.ofNat r.2.length, (i : Int))) (p := partB) ?_ ?_ (by omega)
    · intro self i p hp
      have hi := (List.getElem?_eq_some_iff.1 hp).1
      have hps := h2 p (List.mem_of_getElem? hp)
      show q6a_ (q8n_ fun t18 t19 t20 => self (t18, t19, t20)) _ r.2 (Int.ofNat r.2.length) (i : Int) = _
      unfold q6a_
      rw [if_pos (by rw [qb_, q0_]; omega), at_get hp, Option.bind_some, name_eq, Option.bind_some]
      have K4 : q6e_ (fun t18 t19 t20 => self (t18, t19, t20)) r.2 (Int.ofNat r.2.length) (i : Int) p.2.2 (Int.ofNat p.2.2.length) 0 = if p.2.2.all setB = true then self (r.2, Int.ofNat r.2.length, ((i + 1 : Nat) : Int)) else some (false, ()) := by
        unfold q6e_
        refine loop_all (xs := p.2.2) (mk := fun k => (r.2, Int.ofNat r.2.length, (i : Int), p.2.2, Int.ofNat p.2.2.length, (k : Int))) (p := setB) ?_ ?_ (by omega)
        · intro self4 k s hs
          have hk := (List.getElem?_eq_some_iff.1 hs).1
          show q6c_ (q8m_ (fun t18 t19 t20 => self (t18, t19, t20)) fun t18 t19 t20 t35 t36 t37 => self4 (t18, t19, t20, t35, t36, t37)) _ _ r.2 (Int.ofNat r.2.length) (i : Int) p.2.2 (Int.ofNat p.2.2.length) (k : Int) = _
          unfold q6c_
          have K5 : ∀ b, q8m_ (fun t18 t19 t20 => self (t18, t19, t20)) (fun t18 t19 t20 t35 t36 t37 => self4 (t18, t19, t20, t35, t36, t37)) r.2 (Int.ofNat r.2.length) (i : Int) p.2.2 (Int.ofNat p.2.2.length) (k : Int) b = if b = true then some (false, ()) else self4 (r.2, Int.ofNat r.2.length, (i : Int), p.2.2, Int.ofNat p.2.2.length, ((k + 1 : Nat) : Int)) := fun b => by
            show qb9_ _ _ r.2 (Int.ofNat r.2.length) (i : Int) p.2.2 (Int.ofNat p.2.2.length) (k : Int) b = _
            unfold qb9_
            rw [q1a_ (by omega)]
          rw [if_pos (by rw [qb_, q0_]; omega), at_get hs, Option.bind_some, name_eq, Option.bind_some, right_eq, Option.bind_some, unit_eq, Option.bind_some]
          simp only [K5]
          unfold setB
          cases nameB s.1 <;> cases rgt s.2.1 <;> cases unitB s.2.2.1 <;> rfl
        · intro self4
          show q6c_ _ _ _ r.2 (Int.ofNat r.2.length) (i : Int) p.2.2 (Int.ofNat p.2.2.length) (p.2.2.length : Int) = _
          unfold q6c_
          rw [if_neg (by rw [qb_, q0_]; omega), q1a_ (by omega)]
      have K3 : ∀ b, q8n_ (fun t18 t19 t20 => self (t18, t19, t20)) r.2 (Int.ofNat r.2.length) (i : Int) b p = if b = true then some (false, ()) else if p.2.2.all setB = true then self (r.2, Int.ofNat r.2.length, ((i + 1 : Nat) : Int)) else some (false, ()) := fun b => by
        show qbb_ (q6e_ fun t18 t19 t20 => self (t18, t19, t20)) _ r.2 (Int.ofNat r.2.length) (i : Int) b p = _
        unfold qbb_
        rw [K4]
      have e64 : gt (Int.ofNat p.2.2.length) 64 = !decide (p.2.2.length ≤ 64) := gtn (k := 64)
      simp only [K3, e64]
      unfold partB
      cases nameB p.1 <;> cases decide (p.2.2.length ≤ 64) <;> cases p.2.2.all setB <;> rfl
    · intro self
      show q6a_ _ _ r.2 (Int.ofNat r.2.length) (r.2.length : Int) = _
      unfold q6a_
      rw [if_neg (by rw [qb_, q0_]; omega)]
  rw [K2]
  unfold rightB
  cases nameB r.1 <;> cases decide (r.2.length ≤ 8) <;> cases r.2.all partB <;> rfl
theorem rright_eq' {r : TRec} (h0 : r.1.length ≤ 1000000) (h1 : r.2.length ≤ 1000000) (h2 : ∀ p ∈ r.2, p.2.2.length ≤ 1000000 ∧ p.1.length ≤ 1000000 ∧ ∀ s ∈ p.2.2, s.1.length ≤ 1000000) : q71_ (r, ()) = some (rightB r, ()) := by
  show qd3_ q9u_ r = _
  unfold qd3_
  have K1 : ∀ b, q9u_ b r = if b = true then some (false, ()) else q7l_ 0 r := fun b => rfl
  rw [rname_eq h0, Option.bind_some]
  have e8 : gt (Int.ofNat r.2.length) 8 = !decide (r.2.length ≤ 8) := gtn (k := 8)
  simp only [K1, e8]
  have K2 : q7l_ 0 r = if r.2.all partB = true then some (true, ()) else some (false, ()) := by
    unfold q7l_
    refine loop_all (xs := r.2) (mk := fun i => ((i : Int), r)) (p := partB) ?_ ?_ (by omega)
    · intro self i p hp
      have hi := (List.getElem?_eq_some_iff.1 hp).1
      have hps := h2 p (List.mem_of_getElem? hp)
      show q7o_ (q9x_ fun i r => self (i, r)) _ (i : Int) r = _
      unfold q7o_
      rw [if_pos (by rw [qb_, q0_]; omega), at_get hp, Option.bind_some, rname_eq hps.2.1, Option.bind_some]
      have K4 : q7a_ (fun i r => self (i, r)) (i : Int) 0 r p = if p.2.2.all setB = true then self (((i + 1 : Nat) : Int), r) else some (false, ()) := by
        unfold q7a_
        refine loop_all (xs := p.2.2) (mk := fun k => ((i : Int), (k : Int), r, p)) (p := setB) ?_ ?_ (by omega)
        · intro self4 k s hs
          have hk := (List.getElem?_eq_some_iff.1 hs).1
          show q7p_ (q9z_ (fun i r => self (i, r)) fun i k r p => self4 (i, k, r, p)) _ _ _ (i : Int) (k : Int) r p = _
          unfold q7p_
          have K5 : ∀ b, q9z_ (fun i r => self (i, r)) (fun i k r p => self4 (i, k, r, p)) (i : Int) (k : Int) b r p = if b = true then some (false, ()) else self4 ((i : Int), ((k + 1 : Nat) : Int), r, p) := fun b => by
            show qck_ _ _ (i : Int) (k : Int) b r p = _
            unfold qck_
            rw [q1a_ (by omega)]
          rw [if_pos (by rw [qb_, q0_]; omega), at_get hs, Option.bind_some, rname_eq (hps.2.2 s (List.mem_of_getElem? hs)), Option.bind_some, rright_eq, Option.bind_some]
          simp only [K5]
          unfold setB
          by_cases hu : s.2.2.1 = []
          · rw [if_neg (fun e => nes_iff.1 e hu), hu]
            have : unitB [] = true := rfl
            rw [this]
            cases nameB s.1 <;> cases rgt s.2.1 <;> rfl
          · rw [if_pos (nes_iff.2 hu), rword_eq hu, Option.bind_some]
            cases nameB s.1 <;> cases rgt s.2.1 <;> cases unitB s.2.2.1 <;> rfl
        · intro self4
          show q7p_ _ (qcl_ fun i r => self (i, r)) _ _ (i : Int) (p.2.2.length : Int) r p = _
          unfold q7p_
          rw [if_neg (by rw [qb_, q0_]; omega)]
          show qbv_ _ (i : Int) r = _
          unfold qbv_
          rw [q1a_ (by omega)]
      have K3 : ∀ b, q9x_ (fun i r => self (i, r)) (i : Int) b r p = if b = true then some (false, ()) else if p.2.2.all setB = true then self (((i + 1 : Nat) : Int), r) else some (false, ()) := fun b => by
        show qcp_ (q7a_ fun i r => self (i, r)) _ (i : Int) b r p = _
        unfold qcp_
        rw [K4]
      have e64 : gt (Int.ofNat p.2.2.length) 64 = !decide (p.2.2.length ≤ 64) := gtn (k := 64)
      simp only [K3, e64]
      unfold partB
      cases nameB p.1 <;> cases decide (p.2.2.length ≤ 64) <;> cases p.2.2.all setB <;> rfl
    · intro self
      show q7o_ _ _ (r.2.length : Int) r = _
      unfold q7o_
      rw [if_neg (by rw [qb_, q0_]; omega)]
  rw [K2]
  unfold rightB
  cases nameB r.1 <;> cases decide (r.2.length ≤ 8) <;> cases r.2.all partB <;> rfl
end Go.Proofs.Lx
end
section
namespace Go.Proofs.Lx
open Go Ev Sx Pl
set_option maxRecDepth 10000
def headB (ts : TL) (w : List UInt8) : Bool := match ts with
  | [x, y] => eqi x.1 1 && (eqs x.2.1 w && (eqi y.1 1 && nameB y.2.1))
  | _ => false
def isEnd (ts : TL) : Bool := match ts with
  | [x] => eqi x.1 1 && eqs x.2.1 sEnd
  | _ => false
def setOf (a : Int) (ts : TL) : Option TSet := match ts with
  | [x, y, z] => if x.1 = 1 ∧ nameB x.2.1 = true ∧ y.1 = 3 ∧ z.1 = 2 then some (x.2.1, z.2.2.1, [], a) else none
  | [x, y, z, u] => if x.1 = 1 ∧ nameB x.2.1 = true ∧ y.1 = 3 ∧ z.1 = 2 ∧ u.1 = 1 then some (x.2.1, z.2.2.1, u.2.1, a) else none
  | _ => none
abbrev PRes := TRec × (Int × Int)
def pFail (e a : Int) : PRes := (([], []), (e, a))
def second (ts : TL) : List UInt8 := match ts with
  | _ :: y :: _ => y.2.1
  | _ => []
def pB : List (TL × Int) -> Bool -> List UInt8 -> Bool -> List TPart -> List UInt8 -> Int -> List TSet -> PRes
  | [], w, nm, oo, o, ol, ol2, o2 => if w = true then pFail 140 0 else ((nm, if oo = true then o ++ [(ol, ol2, o2)] else o), (0, 0))
  | (ts, a) :: rs, true, nm, oo, o, ol, ol2, o2 =>
    if isEnd ts = true then pB rs false nm oo o ol ol2 o2 else match setOf a ts with
      | none => pFail 140 a
      | some s => if o2.length = 64 then pFail 130 a else pB rs true nm oo o ol ol2 (o2 ++ [s])
  | (ts, a) :: rs, false, nm, oo, o, ol, ol2, o2 =>
    if headB ts sSlv = false then pFail 140 a else if (if oo = true then o.length + 1 else o.length) = 8 then pFail 130 a
    else pB rs true nm true (if oo = true then o ++ [(ol, ol2, o2)] else o) (second ts) a []
def pS : List (TL × Int) -> PRes
  | [] => pFail 140 0
  | (ts, a) :: rs => if headB ts sRec = false then pFail 140 a else pB rs false (second ts) false [] [] 0 []
def parseR (s : List UInt8) (rs : List (TL × Int)) : PRes := if (lexR s).2.1 = 0 then pS rs else (([], []), (lexR s).2)
abbrev RPs := Option (As [.pr .str (.sl QCT0), .pr (.int .i64) (.int .i64)])
def pR (p : PRes) : RPs := some (p.1, p.2, ())
theorem at_1 {α : Type} (x y : α) (q : List α) : at? (x :: y :: q) 1 = some y := rfl
theorem at_2 {α : Type} (x y z : α) (q : List α) : at? (x :: y :: z :: q) 2 = some z := rfl
theorem at_3 {α : Type} (x y z u : α) (q : List α) : at? (x :: y :: z :: u :: q) 3 = some u := rfl
theorem needT {β : Type} {k : Option β} : need true k = k := rfl
theorem names_eq {ts : TL} {w : List UInt8} : qbo_ (ts, w, ()) = some (headB ts w, ()) := by
  show qf8_ ts w = _
  unfold qf8_
  match ts with
  | [] => rfl
  | [x] => rfl
  | [x, y] =>
    rw [if_pos (show eqi (Int.ofNat [x, y].length) 2 = true from rfl), at_zero, at_1]
    simp only [Option.bind_some]
    unfold headB
    dsimp only
    cases eqi x.1 1
    · rfl
    · cases eqs x.2.1 w
      · rfl
      · cases hy : eqi y.1 1
        · rfl
        · rw [name_eq]
          rfl
  | x :: y :: z :: q =>
    rw [if_neg (show ¬ eqi (Int.ofNat (x :: y :: z :: q).length) 2 = true by rw [qn_, q0_]; simp only [List.length_cons]; omega)]
    rfl
theorem says_eq {ts : TL} {w : List UInt8} {a : Int} (hg : ∀ t ∈ ts, GoodT a t) : qf9_ (ts, w, ()) = some (headB ts w, ()) := by
  show qh1_ ts w = _
  unfold qh1_
  match ts with
  | [] => rfl
  | [x] => rfl
  | [x, y] =>
    rw [if_pos (show eqi (Int.ofNat [x, y].length) 2 = true from rfl), at_zero, at_1]
    simp only [Option.bind_some]
    unfold headB
    dsimp only
    cases eqi x.1 1
    · rfl
    · cases eqs x.2.1 w
      · rfl
      · cases hy : eqi y.1 1
        · rfl
        · have h1 := ((hg y (by simp)).w (qn_.1 hy)).1
          have h2 : y.2.1.length ≤ 20 := by
            unfold unitB at h1
            simp only [Bool.and_eq_true, decide_eq_true_eq] at h1
            exact h1.1
          rw [rname_eq (by omega)]
          rfl
  | x :: y :: z :: q =>
    rw [if_neg (show ¬ eqi (Int.ofNat (x :: y :: z :: q).length) 2 = true by rw [qn_, q0_]; simp only [List.length_cons]; omega)]
    rfl
def parseT2 (j2 : List UInt8 -> Int × Int -> Int -> List UInt8 -> Bool -> List (List UInt8 × Int × List QCT1) -> List UInt8 -> Int -> List QCT1 -> Option (As [.pr .str (.sl QCT0), .pr (.int .i64) (.int .i64)])) (self1 : List QCT2 -> Int -> List QCT2 -> Int -> Int -> List UInt8 -> Int × Int -> Int -> List UInt8 -> Bool -> List (List UInt8 × Int × List QCT1) -> List UInt8 -> Int -> List QCT1 -> Option (As [.pr .str (.sl QCT0), .pr (.int .i64) (.int .i64)])) (tokens : List QCT2) (from' : Int) (t23 : List QCT2) (t24 t25 : Int) (t2 : List UInt8) (t3 : Int × Int) (p : Int) (p_2 : List UInt8) (o_o : Bool) (o : List (List UInt8 × Int × List QCT1)) (o_l : List UInt8) (o_l_2 : Int) (o_2 : List QCT1) (y : QCT2) (y_1 : List QCT2) : Option (As [.pr .str (.sl QCT0), .pr (.int .i64) (.int .i64)]) :=
  if nei (Int.ofNat (List.length y_1)) 3 = true then if nei (Int.ofNat (List.length y_1)) 4 = true then some (([], []), (140, y.snd.snd.snd), ()) else Option.bind (at? y_1 0) fun (y_2 : Int × List UInt8 × (Int × Int) × Int) => if nei y_2.fst 1 = true then some (([], []), (140, y.snd.snd.snd), ()) else Option.bind (at? y_1 0) fun (y_3 : Int × List UInt8 × (Int × Int) × Int) => Option.bind (q2c_ (y_3.snd.fst, ())) fun (y_4 : Bool × Unit) => if (!y_4.fst) = true then some (([], []), (140, y.snd.snd.snd), ()) else Option.bind (at? y_1 1) fun (y_5 : Int × List UInt8 × (Int × Int) × Int) => if nei y_5.fst 3 = true then some (([], []), (140, y.snd.snd.snd), ()) else Option.bind (at? y_1 2) fun (y_6 : Int × List UInt8 × (Int × Int) × Int) => if nei y_6.fst 2 = true then some (([], []), (140, y.snd.snd.snd), ()) else Option.bind (at? y_1 0) fun (y_7 : Int × List UInt8 × (Int × Int) × Int) => Option.bind (at? y_1 2) fun (y_8 : Int × List UInt8 × (Int × Int) × Int) => Option.bind (at? y_1 0) fun (y_9 : Int × List UInt8 × (Int × Int) × Int) => if eqi (Int.ofNat (List.length y_1)) 4 = true then Option.bind (at? y_1 3) fun (y_10 : Int × List UInt8 × (Int × Int) × Int) => if nei y_10.fst 1 = true then some (([], []), (140, y.snd.snd.snd), ()) else Option.bind (at? y_1 3) fun (y_11 : Int × List UInt8 × (Int × Int) × Int) => need o_o (need (eqi (Sx.sub .i64 (if o_o = true then Int.ofNat (List.length o + 1) else Int.ofNat (List.length o)) 1) (Int.ofNat (List.length o))) (need o_o (need (eqi (Sx.sub .i64 (if o_o = true then Int.ofNat (List.length o + 1) else Int.ofNat (List.length o)) 1) (Int.ofNat (List.length o))) (if eqi (Int.ofNat (List.length o_2)) 64 = true then some (([], []), (130, y.snd.snd.snd), ()) else need o_o (need (eqi (Sx.sub .i64 (if o_o = true then Int.ofNat (List.length o + 1) else Int.ofNat (List.length o)) 1) (Int.ofNat (List.length o))) (need (small (List.length o_2 + Nat.succ 0)) (need o_o (need (eqi (Sx.sub .i64 (if o_o = true then Int.ofNat (List.length o + 1) else Int.ofNat (List.length o)) 1) (Int.ofNat (List.length o))) (self1 tokens (add .i64 t25 1) t23 t24 (add .i64 t25 1) t2 t3 p p_2 true o o_l o_l_2 (o_2 ++ [(y_7.snd.fst, y_8.snd.snd.fst, y_11.snd.fst, y_9.snd.snd.snd)])))))))))) else need o_o (need (eqi (Sx.sub .i64 (if o_o = true then Int.ofNat (List.length o + 1) else Int.ofNat (List.length o)) 1) (Int.ofNat (List.length o))) (need o_o (need (eqi (Sx.sub .i64 (if o_o = true then Int.ofNat (List.length o + 1) else Int.ofNat (List.length o)) 1) (Int.ofNat (List.length o))) (if eqi (Int.ofNat (List.length o_2)) 64 = true then some (([], []), (130, y.snd.snd.snd), ()) else need o_o (need (eqi (Sx.sub .i64 (if o_o = true then Int.ofNat (List.length o + 1) else Int.ofNat (List.length o)) 1) (Int.ofNat (List.length o))) (need (small (List.length o_2 + Nat.succ 0)) (need o_o (need (eqi (Sx.sub .i64 (if o_o = true then Int.ofNat (List.length o + 1) else Int.ofNat (List.length o)) 1) (Int.ofNat (List.length o))) (self1 tokens (add .i64 t25 1) t23 t24 (add .i64 t25 1) t2 t3 p p_2 true o o_l o_l_2 (o_2 ++ [(y_7.snd.fst, y_8.snd.snd.fst, [], y_9.snd.snd.snd)])))))))))) else Option.bind (at? y_1 0) fun (y_2 : Int × List UInt8 × (Int × Int) × Int) => if nei y_2.fst 1 = true then some (([], []), (140, y.snd.snd.snd), ()) else Option.bind (at? y_1 0) fun (y_3 : Int × List UInt8 × (Int × Int) × Int) => Option.bind (q2c_ (y_3.snd.fst, ())) fun (y_4 : Bool × Unit) => if (!y_4.fst) = true then some (([], []), (140, y.snd.snd.snd), ()) else Option.bind (at? y_1 1) fun (y_5 : Int × List UInt8 × (Int × Int) × Int) => if nei y_5.fst 3 = true then some (([], []), (140, y.snd.snd.snd), ()) else Option.bind (at? y_1 2) fun (y_6 : Int × List UInt8 × (Int × Int) × Int) => if nei y_6.fst 2 = true then some (([], []), (140, y.snd.snd.snd), ()) else Option.bind (at? y_1 0) fun (y_7 : Int × List UInt8 × (Int × Int) × Int) => Option.bind (at? y_1 2) fun (y_8 : Int × List UInt8 × (Int × Int) × Int) => Option.bind (at? y_1 0) fun (y_9 : Int × List UInt8 × (Int × Int) × Int) => if eqi (Int.ofNat (List.length y_1)) 4 = true then Option.bind (at? y_1 3) fun (y_10 : Int × List UInt8 × (Int × Int) × Int) => if nei y_10.fst 1 = true then some (([], []), (140, y.snd.snd.snd), ()) else Option.bind (at? y_1 3) fun (y_11 : Int × List UInt8 × (Int × Int) × Int) => need o_o (need (eqi (Sx.sub .i64 (if o_o = true then Int.ofNat (List.length o + 1) else Int.ofNat (List.length o)) 1) (Int.ofNat (List.length o))) (need o_o (need (eqi (Sx.sub .i64 (if o_o = true then Int.ofNat (List.length o + 1) else Int.ofNat (List.length o)) 1) (Int.ofNat (List.length o))) (if eqi (Int.ofNat (List.length o_2)) 64 = true then some (([], []), (130, y.snd.snd.snd), ()) else need o_o (need (eqi (Sx.sub .i64 (if o_o = true then Int.ofNat (List.length o + 1) else Int.ofNat (List.length o)) 1) (Int.ofNat (List.length o))) (need (small (List.length o_2 + Nat.succ 0)) (need o_o (need (eqi (Sx.sub .i64 (if o_o = true then Int.ofNat (List.length o + 1) else Int.ofNat (List.length o)) 1) (Int.ofNat (List.length o))) (self1 tokens (add .i64 t25 1) t23 t24 (add .i64 t25 1) t2 t3 p p_2 true o o_l o_l_2 (o_2 ++ [(y_7.snd.fst, y_8.snd.snd.fst, y_11.snd.fst, y_9.snd.snd.snd)])))))))))) else need o_o (need (eqi (Sx.sub .i64 (if o_o = true then Int.ofNat (List.length o + 1) else Int.ofNat (List.length o)) 1) (Int.ofNat (List.length o))) (need o_o (need (eqi (Sx.sub .i64 (if o_o = true then Int.ofNat (List.length o + 1) else Int.ofNat (List.length o)) 1) (Int.ofNat (List.length o))) (if eqi (Int.ofNat (List.length o_2)) 64 = true then some (([], []), (130, y.snd.snd.snd), ()) else need o_o (need (eqi (Sx.sub .i64 (if o_o = true then Int.ofNat (List.length o + 1) else Int.ofNat (List.length o)) 1) (Int.ofNat (List.length o))) (need (small (List.length o_2 + Nat.succ 0)) (need o_o (need (eqi (Sx.sub .i64 (if o_o = true then Int.ofNat (List.length o + 1) else Int.ofNat (List.length o)) 1) (Int.ofNat (List.length o))) (self1 tokens (add .i64 t25 1) t23 t24 (add .i64 t25 1) t2 t3 p p_2 true o o_l o_l_2 (o_2 ++ [(y_7.snd.fst, y_8.snd.snd.fst, [], y_9.snd.snd.snd)]))))))))))
theorem sub_len {o : List TPart} (h : o.length ≤ 8) : eqi (Sx.sub .i64 (if true = true then Int.ofNat (o.length + 1) else Int.ofNat o.length) 1) (Int.ofNat o.length) = true := by
  rw [if_pos rfl, q0_, sub64 (by omega) (by omega), qn_, q0_]
  omega
theorem e64 {l : List TSet} : eqi (Int.ofNat l.length) 64 = true ↔ l.length = 64 := by
  rw [qn_, q0_]
  omega
def stepR (a : Int) (o2 : List TSet) (r : Option TSet) (k : TSet -> RPs) : RPs := match r with
  | none => pR (pFail 140 a)
  | some s => if o2.length = 64 then pR (pFail 130 a) else k s
section
variable {j2 : List UInt8 -> Int × Int -> Int -> List UInt8 -> Bool -> List TPart -> List UInt8 -> Int -> List TSet -> RPs}
  {self1 : TL -> Int -> TL -> Int -> Int -> List UInt8 -> Int × Int -> Int -> List UInt8 -> Bool -> List TPart -> List UInt8 -> Int -> List TSet -> RPs}
  {tokens t23 : TL} {d t24 t25 : Int} {t2 : List UInt8} {t3 : Int × Int} {nm : List UInt8} {o : List TPart} {ol : List UInt8} {ol2 : Int} {o2 : List TSet} {a : Int}
theorem T_eq {ts : TL} (hg : ∀ t ∈ ts, GoodT a t) (ho : o.length ≤ 8) (h2 : o2.length ≤ 64) :
    parseT2 j2 self1 tokens d t23 t24 t25 t2 t3 2 nm true o ol ol2 o2 (tkEnd a) ts = stepR a o2 (setOf a ts) fun s => self1 tokens (add .i64 t25 1) t23 t24 (add .i64 t25 1) t2 t3 2 nm true o ol ol2 (o2 ++ [s]) := by
  have hs := sub_len ho
  unfold parseT2
  match ts with
  | [] => rfl
  | [x] => rfl
  | [x, y] => rfl
  | [x, y, z] =>
    have hl : x.2.2.2 = a := (hg x (by simp)).l
    rw [if_neg (show ¬ nei (Int.ofNat [x, y, z].length) 3 = true from fun e => ql_.1 e rfl), at_zero, at_1, at_2]
    rw [Option.bind_some]
    by_cases h1 : x.1 = 1
    · rw [if_neg (fun e => ql_.1 e h1), Option.bind_some, name_eq, Option.bind_some]
      by_cases h2 : nameB x.2.1 = true
      · rw [if_neg (by rw [h2]; decide), Option.bind_some]
        by_cases h3 : y.1 = 3
        · rw [if_neg (fun e => ql_.1 e h3), Option.bind_some]
          by_cases h4 : z.1 = 2
          · rw [if_neg (fun e => ql_.1 e h4), Option.bind_some, Option.bind_some, Option.bind_some, if_neg (show ¬ eqi (Int.ofNat [x, y, z].length) 4 = true from fun e => absurd (qn_.1 e) (by rw [q0_]; simp)), needT, need_t hs, needT, need_t hs]
            have e : setOf a [x, y, z] = some (x.2.1, z.2.2.1, [], a) := if_pos ⟨h1, h2, h3, h4⟩
            rw [e]
            unfold stepR
            dsimp only
            by_cases h6 : o2.length = 64
            · rw [if_pos (e64.2 h6), if_pos h6]
              rfl
            · rw [if_neg (fun e => h6 (e64.1 e)), if_neg h6, needT, need_t hs, qi_ (by omega), needT, need_t hs, hl]
          · rw [if_pos (ql_.2 h4)]
            have e : setOf a [x, y, z] = none := if_neg (fun e => h4 e.2.2.2)
            rw [e]
            rfl
        · rw [if_pos (ql_.2 h3)]
          have e : setOf a [x, y, z] = none := if_neg (fun e => h3 e.2.2.1)
          rw [e]
          rfl
      · rw [if_pos (by rw [Bool.eq_false_iff.2 h2]; decide)]
        have e : setOf a [x, y, z] = none := if_neg (fun e => h2 e.2.1)
        rw [e]
        rfl
    · rw [if_pos (ql_.2 h1)]
      have e : setOf a [x, y, z] = none := if_neg (fun e => h1 e.1)
      rw [e]
      rfl
  | [x, y, z, u] =>
    have hl : x.2.2.2 = a := (hg x (by simp)).l
    rw [if_pos (show nei (Int.ofNat [x, y, z, u].length) 3 = true from rfl), if_neg (show ¬ nei (Int.ofNat [x, y, z, u].length) 4 = true from fun e => ql_.1 e rfl), at_zero, at_1, at_2, at_3]
    rw [Option.bind_some]
    by_cases h1 : x.1 = 1
    · rw [if_neg (fun e => ql_.1 e h1), Option.bind_some, name_eq, Option.bind_some]
      by_cases h2 : nameB x.2.1 = true
      · rw [if_neg (by rw [h2]; decide), Option.bind_some]
        by_cases h3 : y.1 = 3
        · rw [if_neg (fun e => ql_.1 e h3), Option.bind_some]
          by_cases h4 : z.1 = 2
          · rw [if_neg (fun e => ql_.1 e h4), Option.bind_some, Option.bind_some, Option.bind_some, if_pos (show eqi (Int.ofNat [x, y, z, u].length) 4 = true from rfl), Option.bind_some]
            by_cases h5 : u.1 = 1
            · rw [if_neg (fun e => ql_.1 e h5), Option.bind_some, needT, need_t hs, needT, need_t hs]
              have e : setOf a [x, y, z, u] = some (x.2.1, z.2.2.1, u.2.1, a) := if_pos ⟨h1, h2, h3, h4, h5⟩
              rw [e]
              unfold stepR
              dsimp only
              by_cases h6 : o2.length = 64
              · rw [if_pos (e64.2 h6), if_pos h6]
                rfl
              · rw [if_neg (fun e => h6 (e64.1 e)), if_neg h6, needT, need_t hs, qi_ (by omega), needT, need_t hs, hl]
            · rw [if_pos (ql_.2 h5)]
              have e : setOf a [x, y, z, u] = none := if_neg (fun e => h5 e.2.2.2.2)
              rw [e]
              rfl
          · rw [if_pos (ql_.2 h4)]
            have e : setOf a [x, y, z, u] = none := if_neg (fun e => h4 e.2.2.2.1)
            rw [e]
            rfl
        · rw [if_pos (ql_.2 h3)]
          have e : setOf a [x, y, z, u] = none := if_neg (fun e => h3 e.2.2.1)
          rw [e]
          rfl
      · rw [if_pos (by rw [Bool.eq_false_iff.2 h2]; decide)]
        have e : setOf a [x, y, z, u] = none := if_neg (fun e => h2 e.2.1)
        rw [e]
        rfl
    · rw [if_pos (ql_.2 h1)]
      have e : setOf a [x, y, z, u] = none := if_neg (fun e => h1 e.1)
      rw [e]
      rfl
  | x :: y :: z :: u :: v :: q =>
    have hl : Int.ofNat (x :: y :: z :: u :: v :: q).length = (q.length : Int) + 5 := by rw [q0_]; simp only [List.length_cons]; omega
    rw [if_pos (show nei (Int.ofNat (x :: y :: z :: u :: v :: q).length) 3 = true by rw [ql_, hl]; omega), if_pos (show nei (Int.ofNat (x :: y :: z :: u :: v :: q).length) 4 = true by rw [ql_, hl]; omega)]
    rfl
theorem step2 {ts : TL} (hlt : lt t25 t24 = true) (hy : at? t23 t25 = some (tkEnd a)) (hc : cut tokens d t25 = some ts) (hg : ∀ t ∈ ts, GoodT a t) (ho : o.length ≤ 8) (h2 : o2.length ≤ 64) :
    q23_ j2 self1 tokens d t23 t24 t25 t2 t3 2 nm true o ol ol2 o2 = if isEnd ts = true then self1 tokens (add .i64 t25 1) t23 t24 (add .i64 t25 1) t2 t3 1 nm true o ol ol2 o2
      else stepR a o2 (setOf a ts) fun s => self1 tokens (add .i64 t25 1) t23 t24 (add .i64 t25 1) t2 t3 2 nm true o ol ol2 (o2 ++ [s]) := by
  rw [<- T_eq (j2 := j2) (d := d) hg ho h2]
  unfold q23_
  rw [if_pos hlt, hy, Option.bind_some, if_neg (show ¬ nei (tkEnd a).1 4 = true from fun e => ql_.1 e rfl), if_pos (show eqi 2 2 = true from rfl), hc, Option.bind_some]
  match ts with
  | [] => rfl
  | [x] =>
    rw [if_pos (show eqi (Int.ofNat [x].length) 1 = true from rfl), at_zero, Option.bind_some]
    have he : isEnd [x] = (eqi x.1 1 && eqs x.2.1 sEnd) := rfl
    rw [he]
    by_cases h1 : eqi x.1 1 = true
    · rw [if_pos h1, Option.bind_some]
      by_cases h3 : eqs x.2.1 sEnd = true
      · rw [if_pos h3, if_pos (show (eqi x.1 1 && eqs x.2.1 sEnd) = true by rw [h1, h3]; rfl)]
      · rw [if_neg h3, if_neg (show ¬ (eqi x.1 1 && eqs x.2.1 sEnd) = true by rw [h1, Bool.eq_false_iff.2 h3]; decide)]
        rfl
    · rw [if_neg h1, if_neg (show ¬ (eqi x.1 1 && eqs x.2.1 sEnd) = true by rw [Bool.eq_false_iff.2 h1]; simp)]
      rfl
  | x :: y :: q =>
    rw [if_neg (show ¬ eqi (Int.ofNat (x :: y :: q).length) 1 = true by rw [qn_, q0_]; simp only [List.length_cons]; omega)]
    rfl
end
end Go.Proofs.Lx
end
section
namespace Go.Proofs.Lx
open Go Ev Sx Pl
set_option maxRecDepth 10000
def flat (rs : List (TL × Int)) : TL := rs.flatMap fun p => p.1 ++ [tkEnd p.2]
theorem flat_cons (p : TL × Int) (rs : List (TL × Int)) : flat (p :: rs) = p.1 ++ tkEnd p.2 :: flat rs := by
  unfold flat
  rw [List.flatMap_cons, List.append_assoc]
  rfl
def lenB (oo : Bool) (o : List TPart) : Nat := if oo = true then o.length + 1 else o.length
theorem len_eq (oo : Bool) (o : List TPart) : (if oo = true then Int.ofNat (o.length + 1) else Int.ofNat o.length) = ((lenB oo o : Nat) : Int) := by
  unfold lenB
  cases oo <;> rfl
theorem all_len (oo : Bool) (o : List TPart) (c : TPart) : (if oo = true then o ++ [c] else o).length = lenB oo o := by
  unfold lenB
  cases oo
  · rfl
  · rw [if_pos rfl, if_pos rfl, List.length_append]
    rfl
theorem head_two {ts : TL} {w : List UInt8} (h : headB ts w = true) : ∃ x y, ts = [x, y] := by
  match ts with
  | [] => cases h
  | [x] => cases h
  | [x, y] => exact ⟨x, y, rfl⟩
  | x :: y :: z :: q => cases h
section
variable {j2 : List UInt8 -> Int × Int -> Int -> List UInt8 -> Bool -> List TPart -> List UInt8 -> Int -> List TSet -> RPs}
  {self1 : TL -> Int -> TL -> Int -> Int -> List UInt8 -> Int × Int -> Int -> List UInt8 -> Bool -> List TPart -> List UInt8 -> Int -> List TSet -> RPs}
  {tokens t23 : TL} {d t24 t25 : Int} {t2 : List UInt8} {t3 : Int × Int} {nm : List UInt8} {oo : Bool} {o : List TPart} {ol : List UInt8} {ol2 : Int} {o2 : List TSet} {a : Int}
theorem step1 {ts : TL} (hlt : lt t25 t24 = true) (hy : at? t23 t25 = some (tkEnd a)) (hc : cut tokens d t25 = some ts) (hg : ∀ t ∈ ts, GoodT a t) (ho : lenB oo o ≤ 8) :
    q23_ j2 self1 tokens d t23 t24 t25 t2 t3 1 nm oo o ol ol2 o2 = if headB ts sSlv = false then pR (pFail 140 a) else if lenB oo o = 8 then pR (pFail 130 a)
      else self1 tokens (add .i64 t25 1) t23 t24 (add .i64 t25 1) t2 t3 2 nm true (if oo = true then o ++ [(ol, ol2, o2)] else o) (second ts) a [] := by
  unfold q23_
  rw [if_pos hlt, hy, Option.bind_some, if_neg (show ¬ nei (tkEnd a).1 4 = true from fun e => ql_.1 e rfl), if_neg (show ¬ eqi 1 2 = true by decide), if_pos (show eqi 1 1 = true from rfl), hc, Option.bind_some, show ([115, 108, 97, 118, 101] : List UInt8) = sSlv from rfl, names_eq, Option.bind_some]
  cases hh : headB ts sSlv with
  | false => rfl
  | true =>
    rw [if_neg (show ¬ (!true) = true by decide), if_neg (show ¬ true = false by decide)]
    obtain ⟨x, y, rfl⟩ := head_two hh
    have hl : y.2.2.2 = a := (hg y (by simp)).l
    rw [len_eq]
    by_cases h8 : lenB oo o = 8
    · rw [if_pos (show eqi ((lenB oo o : Nat) : Int) 8 = true by rw [qn_]; omega), if_pos h8]
      rfl
    · rw [if_neg (show ¬ eqi ((lenB oo o : Nat) : Int) 8 = true by rw [qn_]; omega), if_neg h8, at_1, Option.bind_some, Option.bind_some, all_len, qi_ (by omega), hl]
      rfl
theorem step0 {ts : TL} (hlt : lt t25 t24 = true) (hy : at? t23 t25 = some (tkEnd a)) (hc : cut tokens d t25 = some ts) :
    q23_ j2 self1 tokens d t23 t24 t25 t2 t3 0 nm oo o ol ol2 o2 = if headB ts sRec = false then pR (pFail 140 a)
      else self1 tokens (add .i64 t25 1) t23 t24 (add .i64 t25 1) t2 t3 1 (second ts) oo o ol ol2 o2 := by
  unfold q23_
  rw [if_pos hlt, hy, Option.bind_some, if_neg (show ¬ nei (tkEnd a).1 4 = true from fun e => ql_.1 e rfl), if_neg (show ¬ eqi 0 2 = true by decide), if_neg (show ¬ eqi 0 1 = true by decide), if_pos (show eqi 0 0 = true from rfl), hc, Option.bind_some, show ([114, 101, 99, 105, 112, 101] : List UInt8) = sRec from rfl, names_eq, Option.bind_some]
  cases hh : headB ts sRec with
  | false => rfl
  | true =>
    rw [if_neg (show ¬ (!true) = true by decide), if_neg (show ¬ true = false by decide)]
    obtain ⟨x, y, rfl⟩ := head_two hh
    rw [at_1, Option.bind_some]
    rfl
theorem stepE (hlt : lt t25 t24 = true) {y : Tk1} (hy : at? t23 t25 = some y) (h : y.1 ≠ 4) {p : Int} :
    q23_ j2 self1 tokens d t23 t24 t25 t2 t3 p nm oo o ol ol2 o2 = self1 tokens d t23 t24 (add .i64 t25 1) t2 t3 p nm oo o ol ol2 o2 := by
  unfold q23_
  rw [if_pos hlt, hy, Option.bind_some, if_pos (ql_.2 h)]
end
abbrev PSt := TL × Int × TL × Int × Int × List UInt8 × (Int × Int) × Int × List UInt8 × Bool × List TPart × List UInt8 × Int × List TSet
def rpF (self : PSt -> RPs) (s : PSt) : RPs := q23_ (q8l_) (fun tokens from' t23 t24 t25 t2 t3 p p_2 o_o o o_l o_l_2 o_2 => self (tokens, from', t23, t24, t25, t2, t3, p, p_2, o_o, o, o_l, o_l_2, o_2)) s.1 s.2.1 s.2.2.1 s.2.2.2.1 s.2.2.2.2.1 s.2.2.2.2.2.1 s.2.2.2.2.2.2.1 s.2.2.2.2.2.2.2.1 s.2.2.2.2.2.2.2.2.1 s.2.2.2.2.2.2.2.2.2.1 s.2.2.2.2.2.2.2.2.2.2.1 s.2.2.2.2.2.2.2.2.2.2.2.1 s.2.2.2.2.2.2.2.2.2.2.2.2.1 s.2.2.2.2.2.2.2.2.2.2.2.2.2
theorem rp_K1 (tokens : TL) (from' : Int) (t23 : TL) (t24 t25 : Int) (t2 : List UInt8) (t3 : Int × Int) (p : Int) (p_2 : List UInt8) (o_o : Bool) (o : List TPart) (o_l : List UInt8) (o_l_2 : Int) (o_2 : List TSet) :
    q8s_ tokens from' t23 t24 t25 t2 t3 p p_2 o_o o o_l o_l_2 o_2 = loopF rpF 18446744073709551616 (tokens, from', t23, t24, t25, t2, t3, p, p_2, o_o, o, o_l, o_l_2, o_2) := rfl
theorem rp_F (self : PSt -> RPs) (tokens : TL) (from' : Int) (t23 : TL) (t24 t25 : Int) (t2 : List UInt8) (t3 : Int × Int) (p : Int) (p_2 : List UInt8) (o_o : Bool) (o : List TPart) (o_l : List UInt8) (o_l_2 : Int) (o_2 : List TSet) :
    rpF self (tokens, from', t23, t24, t25, t2, t3, p, p_2, o_o, o, o_l, o_l_2, o_2) = q23_ (q8l_) (fun tokens from' t23 t24 t25 t2 t3 p p_2 o_o o o_l o_l_2 o_2 => self (tokens, from', t23, t24, t25, t2, t3, p, p_2, o_o, o, o_l, o_l_2, o_2)) tokens from' t23 t24 t25 t2 t3 p p_2 o_o o o_l o_l_2 o_2 := rfl
theorem skip {tokens : TL} {t2 : List UInt8} {t3 : Int × Int} {p : Int} {nm : List UInt8} {oo : Bool} {o : List TPart} {ol : List UInt8} {ol2 : Int} {o2 : List TSet} (hl : tokens.length < 1000000) {d : Int} {rest : TL} : ∀ (q : TL) (i n : Nat), tokens.drop i = q ++ rest -> (∀ t ∈ q, t.1 ≠ 4) ->
    loopF rpF (q.length + n) (tokens, d, tokens, Int.ofNat tokens.length, (i : Int), t2, t3, p, nm, oo, o, ol, ol2, o2) = loopF rpF n (tokens, d, tokens, Int.ofNat tokens.length, ((i + q.length : Nat) : Int), t2, t3, p, nm, oo, o, ol, ol2, o2)
  | [], i, n, _, _ => by rw [List.length_nil, Nat.zero_add, Nat.add_zero]
  | t :: q, i, n, h, hk => by
    have hd := drop_succ (r := q ++ rest) h
    rw [List.length_cons, show q.length + 1 + n = (q.length + n) + 1 by omega, q1t_, rp_F, stepE (by rw [qb_, q0_]; omega) (at_drop h) (hk t List.mem_cons_self), q1a_ (by omega)]
    show loopF rpF (q.length + n) (tokens, d, tokens, Int.ofNat tokens.length, ((i + 1 : Nat) : Int), t2, t3, p, nm, oo, o, ol, ol2, o2) = _
    rw [skip hl q (i + 1) n hd.1 (fun x hx => hk x (List.mem_cons_of_mem _ hx)), show i + 1 + q.length = i + (q.length + 1) by omega]
theorem drop_row {tokens : TL} {d : Nat} {ts : TL} {a : Int} {rest : TL} (h : tokens.drop d = ts ++ tkEnd a :: rest) :
    tokens.drop (d + ts.length) = tkEnd a :: rest ∧ tokens.drop (d + ts.length + 1) = rest ∧ d + ts.length < tokens.length ∧ cut tokens (d : Int) ((d + ts.length : Nat) : Int) = some ts := by
  have h1 : tokens.drop (d + ts.length) = tkEnd a :: rest := by
    rw [<- List.drop_drop, h, List.drop_left]
  have h2 := drop_succ h1
  refine ⟨h1, h2.1, h2.2.1, ?_⟩
  rw [cut_nat (by omega) (by omega), List.drop_take, h, show d + ts.length - d = ts.length by omega, List.take_left]
theorem pr_loop {tokens : TL} {t2 : List UInt8} {t3 : Int × Int} (hl : tokens.length < 1000000) : ∀ (rs : List (TL × Int)) (d : Nat) (w : Bool) (nm : List UInt8) (oo : Bool) (o : List TPart) (ol : List UInt8) (ol2 : Int) (o2 : List TSet) (n : Nat),
    d ≤ tokens.length -> tokens.drop d = flat rs -> (∀ p ∈ rs, ∀ t ∈ p.1, GoodT p.2 t) -> (w = true -> oo = true) -> lenB oo o ≤ 8 -> o2.length ≤ 64 -> (flat rs).length < n ->
    loopF rpF n (tokens, (d : Int), tokens, Int.ofNat tokens.length, (d : Int), t2, t3, if w = true then 2 else 1, nm, oo, o, ol, ol2, o2) = pR (pB rs w nm oo o ol ol2 o2)
  | [], d, w, nm, oo, o, ol, ol2, o2, n, hdl, h, hg, hw, ho, h2, hn => by
    have hd : tokens.length = d := by
      have := congrArg List.length h
      rw [List.length_drop] at this
      have h0 : (flat []).length = 0 := rfl
      omega
    match n, hn with
    | n + 1, _ =>
      rw [q1t_, rp_F]
      unfold q23_
      rw [if_neg (by rw [qb_, q0_]; omega)]
      show qb7_ t2 t3 _ nm oo o ol ol2 o2 = _
      unfold qb7_
      cases w <;> rfl
  | (ts, a) :: rs, d, w, nm, oo, o, ol, ol2, o2, n, hdl, h, hg, hw, ho, h2, hn => by
    rw [flat_cons] at h hn
    have h : tokens.drop d = ts ++ tkEnd a :: flat rs := h
    have hr := drop_row h
    have hgt := hg (ts, a) List.mem_cons_self
    have hgr : ∀ p ∈ rs, ∀ t ∈ p.1, GoodT p.2 t := fun p hp => hg p (List.mem_cons_of_mem _ hp)
    rw [List.length_append, List.length_cons] at hn
    have hn : ts.length + ((flat rs).length + 1) < n := hn
    obtain ⟨m, rfl⟩ : ∃ m, n = ts.length + (m + 1) := ⟨n - ts.length - 1, by omega⟩
    rw [skip hl ts d (m + 1) h (fun t ht => (hgt t ht).k), q1t_, rp_F]
    have hlt : lt ((d + ts.length : Nat) : Int) (Int.ofNat tokens.length) = true := by rw [qb_, q0_]; omega
    have hat := at_drop hr.1
    have hm : (flat rs).length < m := by omega
    cases w with
    | true =>
      have hoo := hw rfl
      subst hoo
      have ho8 : o.length ≤ 8 := by unfold lenB at ho; rw [if_pos rfl] at ho; omega
      rw [if_pos rfl, step2 hlt hat hr.2.2.2 hgt ho8 h2, q1a_ (by omega)]
      unfold pB
      cases he : isEnd ts with
      | true =>
        rw [if_pos rfl, if_pos rfl]
        exact pr_loop hl rs (d + ts.length + 1) false nm true o ol ol2 o2 m (by omega) hr.2.1 hgr (fun e => by cases e) ho h2 hm
      | false =>
        rw [if_neg (by decide), if_neg (by decide)]
        cases hs : setOf a ts with
        | none => rfl
        | some s =>
          unfold stepR
          dsimp only
          by_cases h64 : o2.length = 64
          · rw [if_pos h64, if_pos h64]
          · rw [if_neg h64, if_neg h64]
            exact pr_loop hl rs (d + ts.length + 1) true nm true o ol ol2 (o2 ++ [s]) m (by omega) hr.2.1 hgr (fun _ => rfl) ho (by rw [List.length_append]; simp; omega) hm
    | false =>
      rw [if_neg (show ¬ false = true by decide), step1 hlt hat hr.2.2.2 hgt ho, q1a_ (by omega)]
      unfold pB
      by_cases hh : headB ts sSlv = false
      · rw [if_pos hh, if_pos hh]
      · rw [if_neg hh, if_neg hh]
        by_cases h8 : lenB oo o = 8
        · rw [if_pos h8, if_pos (show (if oo = true then o.length + 1 else o.length) = 8 from h8)]
        · rw [if_neg h8, if_neg (show ¬ (if oo = true then o.length + 1 else o.length) = 8 from h8)]
          exact pr_loop hl rs (d + ts.length + 1) true nm true (if oo = true then o ++ [(ol, ol2, o2)] else o) (second ts) a [] m (by omega) hr.2.1 hgr (fun _ => rfl) (by
            show (if true = true then (if oo = true then o ++ [(ol, ol2, o2)] else o).length + 1 else _) ≤ 8
            rw [if_pos rfl, all_len]; omega) (by simp) hm
theorem lexS_len : ∀ (k : Nat) (s : List UInt8) (n : Int) (l : TL), s.length ≤ k -> (lexS n s l).1.length ≤ l.length + 2 * s.length
  | 0, s, n, l, h => by
    have : s = [] := List.eq_nil_of_length_eq_zero (by omega)
    subst this
    rw [lexS, dif_pos rfl]
    simp
  | k + 1, s, n, l, h => by
    by_cases hs : s = []
    · rw [hs, lexS, dif_pos rfl]
      simp
    · rw [lexS_step hs]
      have hlt := lrest_len hs
      split
      · simp
      · have h1 := lexS_len k (lrest s) (n + 1) (l ++ (lineT n (uncom (lfirst s)) []).1) (by omega)
        have h2 := lineT_len n (uncom (lfirst s)).length (uncom (lfirst s)) [] (Nat.le_refl _)
        have h3 := uncom_len (lfirst s)
        have h4 : (lfirst s).length + (lrest s).length ≤ s.length := by
          have e := congrArg List.length (List.takeWhile_append_dropWhile (p := (· != (10 : UInt8))) (l := s))
          rw [List.length_append] at e
          unfold lfirst lrest
          rw [List.length_drop]
          omega
        rw [List.length_append] at h1
        rw [List.length_nil] at h2
        omega
theorem lexR_len (s : List UInt8) : (lexR s).1.length ≤ 20000 := by
  unfold lexR
  split
  · simp
  · have := lexS_len s.length s 1 [] (Nat.le_refl _)
    rw [List.length_nil] at this
    omega
theorem pS_cons (ts : TL) (a : Int) (rs : List (TL × Int)) : pS ((ts, a) :: rs) = if headB ts sRec = false then pFail 140 a else pB rs false (second ts) false [] [] 0 [] := rfl
theorem lexS_zero : ∀ (k : Nat) (s : List UInt8) (n : Int) (l : TL), s.length ≤ k -> (lexS n s l).2.1 = 0 -> (lexS n s l).2.2 = 0
  | 0, s, n, l, h, _ => by
    have : s = [] := List.eq_nil_of_length_eq_zero (by omega)
    subst this
    rw [lexS, dif_pos rfl]
  | k + 1, s, n, l, h, he => by
    by_cases hs : s = []
    · rw [hs, lexS, dif_pos rfl]
    · have hlt := lrest_len hs
      rw [lexS_step hs] at he ⊢
      by_cases h1 : (lineT n (uncom (lfirst s)) []).2 ≠ 0
      · rw [if_pos h1] at he
        exact absurd he h1
      · rw [if_neg h1] at he ⊢
        exact lexS_zero k _ _ _ (by omega) he
theorem lexR_zero {s : List UInt8} (h : (lexR s).2.1 = 0) : (lexR s).2.2 = 0 := by
  unfold lexR at h ⊢
  split
  · rfl
  · rename_i h1
    rw [if_neg h1] at h
    exact lexS_zero _ s 1 [] (Nat.le_refl _) h
theorem rparse_eq {s : List UInt8} {rs : List (TL × Int)} (h : (lexR s).2.1 = 0 -> RowsT (lexR s).1 rs) : q69_ (s, ()) = pR (parseR s rs) := by
  show qbc_ q8s_ s = _
  unfold qbc_ parseR
  rw [lex_eq, Option.bind_some]
  dsimp only
  by_cases h0 : (lexR s).2.1 = 0
  · have hr := h h0
    have h1 := lexR_zero h0
    rw [if_neg (by rw [h0, h1]; decide), if_pos h0]
    have hl := lexR_len s
    rw [rp_K1]
    have hf : (lexR s).1 = flat rs := hr.e
    match rs, hf, hr with
    | [], hf, hr =>
      have hz : (lexR s).1 = [] := hf
      rw [hz, q1t_, rp_F]
      rfl
    | (ts, a) :: rs, hf, hr =>
      rw [flat_cons] at hf
      have hgt := (hr.g (ts, a) List.mem_cons_self).2
      have hd : (lexR s).1.drop 0 = ts ++ tkEnd a :: flat rs := hf
      have hrw := drop_row hd
      have hlen := congrArg List.length hf
      rw [List.length_append, List.length_cons] at hlen
      have hlen : (lexR s).1.length = ts.length + ((flat rs).length + 1) := hlen
      rw [show (18446744073709551616 : Nat) = ts.length + ((18446744073709551616 - ts.length - 1) + 1) by omega]
      refine (skip (by omega) (d := 0) ts 0 _ hd (fun t ht => (hgt t ht).k)).trans ?_
      have hc : cut (lexR s).1 0 ((0 + ts.length : Nat) : Int) = some ts := hrw.2.2.2
      rw [q1t_, rp_F, step0 (by rw [qb_, q0_]; omega) (at_drop hrw.1) hc, q1a_ (by omega)]
      rw [pS_cons]
      by_cases hh : headB ts sRec = false
      · rw [if_pos hh, if_pos hh]
      · rw [if_neg hh, if_neg hh]
        exact pr_loop (by omega) rs (0 + ts.length + 1) false (second ts) false [] [] 0 [] _ (by omega) hrw.2.1 (fun p hp => (hr.g p (List.mem_cons_of_mem _ hp)).2) (fun e => by cases e) (by decide) (by simp) (by omega)
  · have e : eqi (lexR s).2.1 0 = false := by
      cases q : eqi (lexR s).2.1 0 with
      | true => exact absurd (qn_.1 q) h0
      | false => rfl
    rw [if_pos (by rw [e]; rfl), if_neg h0]
    rfl
end Go.Proofs.Lx
end
section
namespace Go.Proofs.Lx
open Go Ev Sx Pl
set_option maxRecDepth 10000
def fewS (s : TSet) : Bool := decide (s.1.length ≤ 40) && decide (s.2.2.1.length ≤ 40)
def fewP (p : TPart) : Bool := (decide (p.2.2.length ≤ 70) && decide (p.1.length ≤ 40)) && p.2.2.all fewS
def fewB (r : TRec) : Bool := (decide (r.2.length ≤ 12) && decide (r.1.length ≤ 40)) && r.2.all fewP
theorem few_eq {r : TRec} : qev_ (r, ()) = some (fewB r, ()) := by
  show qfg_ qbp_ r = _
  unfold qfg_
  have K1 : ∀ b, qbp_ b r = if b = true then some (false, ()) else q9o_ r.2 (Int.ofNat r.2.length) 0 := fun b => rfl
  have e12 : gt (Int.ofNat r.2.length) 12 = !decide (r.2.length ≤ 12) := gtn (k := 12)
  have e40 : gt (Int.ofNat r.1.length) 40 = !decide (r.1.length ≤ 40) := gtn (k := 40)
  simp only [K1, e12, e40]
  unfold fewB
  by_cases h12 : ¬ r.2.length ≤ 12
  · rw [decide_eq_false h12]; rfl
  have h12 : r.2.length ≤ 12 := by omega
  have K2 : q9o_ r.2 (Int.ofNat r.2.length) 0 = if r.2.all fewP = true then some (true, ()) else some (false, ()) := by
    unfold q9o_
    refine loop_all (xs := r.2) (mk := fun i => (r.2, Int.ofNat r.2.length, (i : Int))) (p := fewP) ?_ ?_ (by omega)
    · intro self i p hp
      have hi := (List.getElem?_eq_some_iff.1 hp).1
      show q9g_ (qbj_ fun t18 t19 t20 => self (t18, t19, t20)) _ r.2 (Int.ofNat r.2.length) (i : Int) = _
      unfold q9g_
      rw [if_pos (by rw [qb_, q0_]; omega), at_get hp, Option.bind_some]
      have e70 : gt (Int.ofNat p.2.2.length) 70 = !decide (p.2.2.length ≤ 70) := gtn (k := 70)
      have e40 : gt (Int.ofNat p.1.length) 40 = !decide (p.1.length ≤ 40) := gtn (k := 40)
      have K3 : ∀ b, qbj_ (fun t18 t19 t20 => self (t18, t19, t20)) r.2 (Int.ofNat r.2.length) (i : Int) b p = if b = true then some (false, ()) else q9v_ (fun t18 t19 t20 => self (t18, t19, t20)) r.2 (Int.ofNat r.2.length) (i : Int) p.2.2 (Int.ofNat p.2.2.length) 0 := fun b => rfl
      simp only [K3, e70, e40]
      unfold fewP
      by_cases h70 : ¬ p.2.2.length ≤ 70
      · rw [decide_eq_false h70]; cases decide (p.1.length ≤ 40) <;> rfl
      have h70 : p.2.2.length ≤ 70 := by omega
      have K4 : q9v_ (fun t18 t19 t20 => self (t18, t19, t20)) r.2 (Int.ofNat r.2.length) (i : Int) p.2.2 (Int.ofNat p.2.2.length) 0 = if p.2.2.all fewS = true then self (r.2, Int.ofNat r.2.length, ((i + 1 : Nat) : Int)) else some (false, ()) := by
        unfold q9v_
        refine loop_all (xs := p.2.2) (mk := fun k => (r.2, Int.ofNat r.2.length, (i : Int), p.2.2, Int.ofNat p.2.2.length, (k : Int))) (p := fewS) ?_ ?_ (by omega)
        · intro self4 k s hs
          have hk := (List.getElem?_eq_some_iff.1 hs).1
          show qa0_ (qbi_ (fun t18 t19 t20 => self (t18, t19, t20)) fun t18 t19 t20 t35 t36 t37 => self4 (t18, t19, t20, t35, t36, t37)) _ _ r.2 (Int.ofNat r.2.length) (i : Int) p.2.2 (Int.ofNat p.2.2.length) (k : Int) = _
          unfold qa0_
          have K5 : ∀ b, qbi_ (fun t18 t19 t20 => self (t18, t19, t20)) (fun t18 t19 t20 t35 t36 t37 => self4 (t18, t19, t20, t35, t36, t37)) r.2 (Int.ofNat r.2.length) (i : Int) p.2.2 (Int.ofNat p.2.2.length) (k : Int) b = if b = true then some (false, ()) else self4 (r.2, Int.ofNat r.2.length, (i : Int), p.2.2, Int.ofNat p.2.2.length, ((k + 1 : Nat) : Int)) := fun b => by
            show qfo_ _ _ r.2 (Int.ofNat r.2.length) (i : Int) p.2.2 (Int.ofNat p.2.2.length) (k : Int) b = _
            unfold qfo_
            rw [q1a_ (by omega)]
          rw [if_pos (by rw [qb_, q0_]; omega), at_get hs, Option.bind_some]
          have f1 : gt (Int.ofNat s.1.length) 40 = !decide (s.1.length ≤ 40) := gtn (k := 40)
          have f2 : gt (Int.ofNat s.2.2.1.length) 40 = !decide (s.2.2.1.length ≤ 40) := gtn (k := 40)
          simp only [K5, f1, f2]
          unfold fewS
          cases decide (s.1.length ≤ 40) <;> cases decide (s.2.2.1.length ≤ 40) <;> rfl
        · intro self4
          show qa0_ _ _ _ r.2 (Int.ofNat r.2.length) (i : Int) p.2.2 (Int.ofNat p.2.2.length) (p.2.2.length : Int) = _
          unfold qa0_
          rw [if_neg (by rw [qb_, q0_]; omega), q1a_ (by omega)]
      rw [K4, decide_eq_true h70]
      cases decide (p.1.length ≤ 40) <;> cases p.2.2.all fewS <;> rfl
    · intro self
      show q9g_ _ _ r.2 (Int.ofNat r.2.length) (r.2.length : Int) = _
      unfold q9g_
      rw [if_neg (by rw [qb_, q0_]; omega)]
  rw [K2, decide_eq_true h12]
  cases decide (r.1.length ≤ 40) <;> cases r.2.all fewP <;> rfl
theorem few_len {r : TRec} (h : fewB r = true) : r.2.length ≤ 12 ∧ r.1.length ≤ 40 ∧ ∀ p ∈ r.2, p.2.2.length ≤ 70 ∧ p.1.length ≤ 40 ∧ ∀ s ∈ p.2.2, s.1.length ≤ 40 ∧ s.2.2.1.length ≤ 40 := by
  unfold fewB at h
  simp only [Bool.and_eq_true, decide_eq_true_eq, List.all_eq_true] at h
  refine ⟨h.1.1, h.1.2, fun p hp => ?_⟩
  have h2 := h.2 p hp
  unfold fewP at h2
  simp only [Bool.and_eq_true, decide_eq_true_eq, List.all_eq_true] at h2
  refine ⟨h2.1.1, h2.1.2, fun s hs => ?_⟩
  have h3 := h2.2 s hs
  unfold fewS at h3
  simp only [Bool.and_eq_true, decide_eq_true_eq] at h3
  exact h3
theorem nameB_len {s : List UInt8} (h : nameB s = true) : s.length ≤ 20 := by
  unfold nameB at h
  simp only [Bool.and_eq_true, decide_eq_true_eq] at h
  exact h.1.1.1.1.1.2
theorem unitB_len {s : List UInt8} (h : unitB s = true) : s.length ≤ 20 := by
  unfold unitB at h
  simp only [Bool.and_eq_true, decide_eq_true_eq] at h
  exact h.1
def shwd (d : Int × Int) : List UInt8 := ((qab_ (d, ())).getD ([], ())).1
theorem shw_len {sg : Bool} {n D : Nat} (hn : n ≤ 1000000000000) (h6 : D ≤ 6) : (shw sg n D).length ≤ 30 := by
  unfold shw
  have hl : (dd (n / 10 ^ D)).length ≤ 13 := dd_len (by decide) (by have := Nat.div_le_self n (10 ^ D); omega)
  have h1 : (if sg then [45] else [] : List UInt8).length ≤ 1 := by cases sg <;> simp
  have h2 : (if D = 0 then [] else 46 :: fx D (n % 10 ^ D) : List UInt8).length ≤ 7 := by
    split
    · simp
    · rw [List.length_cons, fx_len]; omega
  rw [List.length_append, List.length_append]
  omega
theorem shwd_eq {d : Int × Int} {sg : Bool} {n D : Nat} (h : RtD d sg n D) : shwd d = shw sg n D := by
  unfold shwd
  rw [show_eq h]
  rfl
theorem shows {d : Int × Int} (h : rgt d = true) (h0 : 0 ≤ d.2) : qab_ (d, ()) = some (shwd d, ()) ∧ qbq_ (d, ()) = some (shwd d, ()) ∧ (shwd d).length ≤ 30 := by
  obtain ⟨sg, n, D, hr⟩ := rgt_rt h h0
  rw [shwd_eq hr]
  exact ⟨show_eq hr, rshow_eq hr, shw_len hr.le hr.d6⟩
def lnB (ws : List (List UInt8)) : List UInt8 := joinF [32] ws ++ [10]
def setW (s : TSet) : List (List UInt8) := if s.2.2.1 = [] then [32 :: 32 :: s.1, [61], shwd s.2.1] else [32 :: 32 :: s.1, [61], shwd s.2.1, s.2.2.1]
def setT (s : TSet) : List UInt8 := lnB (setW s)
def partT (p : TPart) : List UInt8 := lnB [sSlv, p.1] ++ p.2.2.flatMap setT ++ lnB [sEnd]
def printS (r : TRec) : List UInt8 := lnB [sRec, r.1] ++ r.2.flatMap partT
abbrev bi (l : List UInt8) : List Int := l.map fun b => Int.ofNat b.toNat
theorem u8s_bi : ∀ l : List UInt8, Ev.u8s (bi l) = true
  | [] => rfl
  | c :: q => by
    have := c.toNat_lt
    show (decide (0 ≤ Int.ofNat c.toNat ∧ Int.ofNat c.toNat ≤ 255) && Ev.u8s (bi q)) = true
    rw [u8s_bi q, decide_eq_true (by rw [q0_]; omega)]
    rfl
theorem toS_bi : ∀ l : List UInt8, Sx.toS (bi l) = l
  | [] => rfl
  | c :: q => by
    have h := toS_bi q
    show UInt8.ofNat (Int.ofNat c.toNat).toNat :: Sx.toS (bi q) = _
    rw [h]
    congr 1
    simp
structure SetOk (s : TSet) : Prop where
  n : s.1.length ≤ 20
  u : s.2.2.1.length ≤ 20
  r : rgt s.2.1 = true
  d : 0 ≤ s.2.1.2
theorem join_val {ws : List (List UInt8)} (h : ws.length ≤ 10) (h2 : (joinF [32] ws).length ≤ 1000) : strings_Join (ws, [32], ()) = some (joinF [32] ws, ()) := by
  unfold strings_Join
  rw [if_pos ⟨by show ws.length ≤ _; omega, by show (joinF [32] ws).length ≤ _; omega⟩]
theorem line_go {R : Type} {k : List Int -> Option R} {acc : List UInt8} {ws : List (List UInt8)} (h : ws.length ≤ 10) (h2 : (joinF [32] ws).length ≤ 1000) (ha : acc.length ≤ 2000000) :
    (Option.bind (strings_Join (ws, [32], ())) fun (y : List UInt8 × Unit) => need (small (List.length (bi acc) + List.length y.fst)) (need (small (List.length (bi acc ++ List.map (fun (b : UInt8) => Int.ofNat (UInt8.toNat b)) y.fst) + 1)) (k (bi acc ++ List.map (fun (b : UInt8) => Int.ofNat (UInt8.toNat b)) y.fst ++ [10])))) = k (bi (acc ++ lnB ws)) := by
  rw [join_val h h2, Option.bind_some]
  have l1 : (bi acc).length = acc.length := List.length_map _
  have l2 : (bi acc ++ bi (joinF [32] ws)).length = acc.length + (joinF [32] ws).length := by rw [List.length_append, List.length_map, List.length_map]
  rw [qi_ (by show (bi acc).length + (joinF [32] ws).length ≤ _; omega), qi_ (by show (bi acc ++ bi (joinF [32] ws)).length + 1 ≤ _; omega)]
  congr 1
  unfold lnB bi
  simp
theorem setW_len {s : TSet} (h : SetOk s) : (setW s).length ≤ 10 ∧ (joinF [32] (setW s)).length ≤ 100 := by
  have h1 := h.n
  have h2 := h.u
  have h3 := (shows h.r h.d).2.2
  unfold setW
  split
  · refine ⟨by simp, ?_⟩
    simp only [joinF, List.length_append, List.length_cons, List.length_nil]
    omega
  · refine ⟨by simp, ?_⟩
    simp only [joinF, List.length_append, List.length_cons, List.length_nil]
    omega
theorem lnB_len {ws : List (List UInt8)} : (lnB ws).length = (joinF [32] ws).length + 1 := by unfold lnB; simp
theorem print_K2 {u1 : List TPart -> Int -> Int -> List Int -> Option (As [.str, .bool])} {r : List TPart} {p : TPart} {i : Nat} {acc : List UInt8} (hi : i < 1000) (hl : p.2.2.length ≤ 64) (hp : ∀ s ∈ p.2.2, SetOk s) (ha : acc.length ≤ 1000000) :
    q5b_ u1 r (Int.ofNat r.length) (i : Int) p.2.2 (Int.ofNat p.2.2.length) 0 (bi acc) = u1 r (Int.ofNat r.length) ((i + 1 : Nat) : Int) (bi (acc ++ p.2.2.flatMap setT ++ lnB [sEnd])) ∧ (acc ++ p.2.2.flatMap setT).length ≤ acc.length + p.2.2.length * 101 := by
  have hlen : ∀ l : List TSet, (∀ s ∈ l, SetOk s) -> (l.flatMap setT).length ≤ l.length * 101 := by
    intro l
    induction l with
    | nil => intro _; simp
    | cons s q ih =>
      intro h
      have := ih fun x hx => h x (List.mem_cons_of_mem _ hx)
      have h1 := (setW_len (h s List.mem_cons_self)).2
      rw [List.flatMap_cons, List.length_append, List.length_cons]
      unfold setT at this ⊢
      rw [lnB_len]
      omega
  refine ⟨?_, by rw [List.length_append]; have := hlen _ hp; omega⟩
  unfold q5b_
  refine (loop_idx (σ := (List TPart) × (Int) × (Int) × (List TSet) × (Int) × (Int) × (List Int)) (xs := p.2.2) (mk := fun k acc => (r, Int.ofNat r.length, (i : Int), p.2.2, Int.ofNat p.2.2.length, (k : Int), bi acc)) (stp := fun acc s => acc ++ setT s)
    (fin := fun acc => u1 r (Int.ofNat r.length) ((i + 1 : Nat) : Int) (bi (acc ++ lnB [sEnd]))) (Inv := fun k acc => acc.length ≤ 1000000 + k * 101) ?_ ?_ ?_ p.2.2.length 0 acc _ (by omega) (by omega) (by omega)).trans ?_
  · intro self k acc s hs hI
    have hk := (List.getElem?_eq_some_iff.1 hs).1
    have hs' := hp s (List.mem_of_getElem? hs)
    have hsw := shows hs'.r hs'.d
    have h1 := hs'.n
    show q6d_ (q6b_ u1 fun t21 t22 t23 t33 t34 t35 o => self (t21, t22, t23, t33, t34, t35, o)) _ _ _ r (Int.ofNat r.length) (i : Int) p.2.2 (Int.ofNat p.2.2.length) (k : Int) (bi acc) = _
    unfold q6d_
    have K4 : ∀ ws : List (List UInt8), ws.length ≤ 10 -> (joinF [32] ws).length ≤ 1000 -> q6b_ u1 (fun t21 t22 t23 t33 t34 t35 o => self (t21, t22, t23, t33, t34, t35, o)) r (Int.ofNat r.length) (i : Int) p.2.2 (Int.ofNat p.2.2.length) (k : Int) (bi acc) ws = self (r, Int.ofNat r.length, (i : Int), p.2.2, Int.ofNat p.2.2.length, ((k + 1 : Nat) : Int), bi (acc ++ lnB ws)) := by
      intro ws hw1 hw2
      unfold q6b_ qff_
      rw [q1a_ (by omega)]
      exact line_go (k := fun o => self (r, Int.ofNat r.length, (i : Int), p.2.2, Int.ofNat p.2.2.length, ((k + 1 : Nat) : Int), o)) hw1 hw2 (by omega)
    have hw := setW_len hs'
    rw [if_pos (by rw [qb_, q0_]; omega), at_get hs, Option.bind_some, qi_ (by omega), hsw.1, Option.bind_some]
    unfold setT
    by_cases hu : s.2.2.1 = []
    · rw [if_neg (fun e => nes_iff.1 e hu)]
      have e : setW s = [32 :: 32 :: s.1, [61], shwd s.2.1] := if_pos hu
      rw [e] at hw ⊢
      exact K4 _ hw.1 (Nat.le_trans hw.2 (by decide))
    · rw [if_pos (nes_iff.2 hu), qi_ (by decide)]
      have e : setW s = [32 :: 32 :: s.1, [61], shwd s.2.1, s.2.2.1] := if_neg hu
      rw [e] at hw ⊢
      exact K4 _ hw.1 (Nat.le_trans hw.2 (by decide))
  · intro k acc s hs hI
    have h1 := (setW_len (hp s (List.mem_of_getElem? hs))).2
    show (acc ++ setT s).length ≤ 1000000 + (k + 1) * 101
    rw [List.length_append]
    unfold setT
    rw [lnB_len]
    have : acc.length ≤ 1000000 + k * 101 := hI
    omega
  · intro self acc hI
    have hI : acc.length ≤ 1000000 + p.2.2.length * 101 := hI
    show q6d_ _ (q8t_ u1) _ _ r (Int.ofNat r.length) (i : Int) p.2.2 (Int.ofNat p.2.2.length) (p.2.2.length : Int) (bi acc) = _
    unfold q6d_
    rw [if_neg (by rw [qb_, q0_]; omega)]
    unfold q8t_ qex_
    rw [q1a_ (by omega)]
    exact line_go (k := fun o => u1 r (Int.ofNat r.length) ((i + 1 : Nat) : Int) o) (ws := [sEnd]) (by simp) (by decide) (by omega)
  · rw [List.drop_zero, foldl_app]
structure PartOk (p : TPart) : Prop where
  n : p.1.length ≤ 20
  l : p.2.2.length ≤ 64
  s : ∀ s ∈ p.2.2, SetOk s
theorem partT_len {p : TPart} (h : PartOk p) : (partT p).length ≤ 7000 := by
  have h1 := (print_K2 (u1 := fun _ _ _ _ => none) (r := []) (i := 0) (acc := []) (by omega) h.l h.s (by simp)).2
  rw [List.nil_append] at h1
  have h2 := h.n
  have h3 := h.l
  unfold partT
  rw [List.length_append, List.length_append, lnB_len, lnB_len]
  simp only [joinF, List.length_append, List.length_cons, List.length_nil]
  rw [List.length_nil] at h1
  omega
structure RecOk (r : TRec) : Prop where
  n : r.1.length ≤ 20
  l : r.2.length ≤ 8
  p : ∀ p ∈ r.2, PartOk p
theorem rec_ok {r : TRec} (h : rightB r = true) (hd : ∀ p ∈ r.2, ∀ s ∈ p.2.2, 0 ≤ s.2.1.2) : RecOk r := by
  unfold rightB at h
  simp only [Bool.and_eq_true, decide_eq_true_eq, List.all_eq_true] at h
  refine ⟨nameB_len h.1, h.2.1, fun p hp => ?_⟩
  have h2 := h.2.2 p hp
  unfold partB at h2
  simp only [Bool.and_eq_true, decide_eq_true_eq, List.all_eq_true] at h2
  refine ⟨nameB_len h2.1, h2.2.1, fun s hs => ?_⟩
  have h3 := h2.2.2 s hs
  unfold setB at h3
  simp only [Bool.and_eq_true] at h3
  exact ⟨nameB_len h3.1, unitB_len h3.2.2, h3.2.1, hd p hp s hs⟩
theorem print_yes {r : TRec} (h : rightB r = true) (hd : ∀ p ∈ r.2, ∀ s ∈ p.2.2, 0 ≤ s.2.1.2) (hl : r.2.length ≤ 1000000) (hl2 : ∀ p ∈ r.2, p.2.2.length ≤ 1000000) : q7t_ (r, ()) = some (printS r, true, ()) := by
  have ho := rec_ok h hd
  have hn := ho.n
  show q6h_ q5f_ r = _
  unfold q6h_
  rw [right_eq' hl hl2, h, Option.bind_some, if_neg (by decide)]
  have hj : (joinF [32] [sRec, r.1]).length ≤ 100 := by
    simp only [joinF, List.length_append, List.length_cons, List.length_nil]
    omega
  rw [show ([114, 101, 99, 105, 112, 101] : List UInt8) = sRec from rfl, join_val (by simp) (by omega), Option.bind_some]
  have l2 : (bi (joinF [32] [sRec, r.1])).length = (joinF [32] [sRec, r.1]).length := List.length_map _
  rw [qi_ (by show 0 + (joinF [32] [sRec, r.1]).length ≤ _; omega), qi_ (by show (bi (joinF [32] [sRec, r.1])).length + 1 ≤ _; omega)]
  have e1 : (bi (joinF [32] [sRec, r.1]) ++ [10] : List Int) = bi (lnB [sRec, r.1]) := by unfold lnB bi; simp
  show q5f_ r.2 (Int.ofNat r.2.length) 0 (bi (joinF [32] [sRec, r.1]) ++ [10]) = _
  rw [e1]
  unfold q5f_
  have hl8 := ho.l
  refine (loop_idx (σ := (List TPart) × (Int) × (Int) × (List Int)) (xs := r.2) (mk := fun k acc => (r.2, Int.ofNat r.2.length, (k : Int), bi acc)) (stp := fun acc p => acc ++ partT p)
    (fin := fun acc => some (acc, true, ())) (Inv := fun k acc => acc.length ≤ 1000 + k * 7000) ?_ ?_ ?_ r.2.length 0 (lnB [sRec, r.1]) _ (by omega) (by omega) (by rw [lnB_len]; omega)).trans ?_
  · intro self k acc p hp hI
    have hI : acc.length ≤ 1000 + k * 7000 := hI
    have hk := (List.getElem?_eq_some_iff.1 hp).1
    have hpo := ho.p p (List.mem_of_getElem? hp)
    have hpn := hpo.n
    show q6g_ (q5b_ fun t21 t22 t23 o => self (t21, t22, t23, o)) _ _ r.2 (Int.ofNat r.2.length) (k : Int) (bi acc) = _
    unfold q6g_
    rw [if_pos (by rw [qb_, q0_]; omega), at_get hp, Option.bind_some]
    have hj : (joinF [32] [sSlv, p.1]).length ≤ 100 := by
      simp only [joinF, List.length_append, List.length_cons, List.length_nil]
      omega
    refine (line_go (k := fun o => q5b_ (fun t21 t22 t23 o => self (t21, t22, t23, o)) r.2 (Int.ofNat r.2.length) (k : Int) p.2.2 (Int.ofNat p.2.2.length) 0 o) (ws := [sSlv, p.1]) (by simp) (by omega) (by omega)).trans ?_
    rw [(print_K2 (by omega) hpo.l hpo.s (by rw [List.length_append, lnB_len]; omega)).1]
    unfold partT
    rw [List.append_assoc, List.append_assoc, List.append_assoc]
  · intro k acc p hp hI
    have hI : acc.length ≤ 1000 + k * 7000 := hI
    have := partT_len (ho.p p (List.mem_of_getElem? hp))
    show (acc ++ partT p).length ≤ 1000 + (k + 1) * 7000
    rw [List.length_append]
    omega
  · intro self acc hI
    have hI : acc.length ≤ 1000 + r.2.length * 7000 := hI
    show q6g_ _ q8q_ _ r.2 (Int.ofNat r.2.length) (r.2.length : Int) (bi acc) = _
    unfold q6g_
    rw [if_neg (by rw [qb_, q0_]; omega)]
    unfold q8q_ qez_
    have l1 : (bi acc).length = acc.length := List.length_map _
    rw [need_t (qn_.2 rfl), qi_ (by rw [l1]; omega), need_t (u8s_bi acc), toS_bi]
  · rw [List.drop_zero, foldl_app]
    rfl
theorem print_no {r : TRec} (h : rightB r = false) (hl : r.2.length ≤ 1000000) (hl2 : ∀ p ∈ r.2, p.2.2.length ≤ 1000000) : q7t_ (r, ()) = some ([], false, ()) := by
  show q6h_ q5f_ r = _
  unfold q6h_
  rw [right_eq' hl hl2, h, Option.bind_some, if_pos (by decide)]
theorem setT_no {s : TSet} (h : s.2.2.1 = []) (acc : List UInt8) : acc ++ [32, 32] ++ s.1 ++ [32, 61, 32] ++ shwd s.2.1 ++ [10] = acc ++ setT s := by
  unfold setT setW lnB
  rw [if_pos h]
  simp [joinF]
theorem setT_yes {s : TSet} (h : ¬ s.2.2.1 = []) (acc : List UInt8) : acc ++ [32, 32] ++ s.1 ++ [32, 61, 32] ++ shwd s.2.1 ++ [32] ++ s.2.2.1 ++ [10] = acc ++ setT s := by
  unfold setT setW lnB
  rw [if_neg h]
  simp [joinF]
theorem setT_len {s : TSet} (h : SetOk s) : (setT s).length ≤ 101 := by
  have := (setW_len h).2
  unfold setT
  rw [lnB_len]
  omega
theorem rprint_K2 {u1 : List UInt8 -> Int -> TRec -> Option (As [.str])} {r : TRec} {p : TPart} {i : Nat} {acc : List UInt8} (hi : i < 1000) (hl : p.2.2.length ≤ 64) (hp : ∀ s ∈ p.2.2, SetOk s) (ha : acc.length ≤ 1000000) :
    q7d_ u1 acc (i : Int) 0 r p = u1 (acc ++ p.2.2.flatMap setT ++ lnB [sEnd]) ((i + 1 : Nat) : Int) r := by
  unfold q7d_
  refine (loop_idx (σ := (List UInt8) × (Int) × (Int) × TRec × TPart) (xs := p.2.2) (mk := fun k acc => (acc, (i : Int), (k : Int), r, p)) (stp := fun acc s => acc ++ setT s)
    (fin := fun acc => u1 (acc ++ lnB [sEnd]) ((i + 1 : Nat) : Int) r) (Inv := fun k acc => acc.length ≤ 1000000 + k * 101) ?_ ?_ ?_ p.2.2.length 0 acc _ (by omega) (by omega) (by omega)).trans ?_
  · intro self k acc s hs hI
    have hI : acc.length ≤ 1000000 + k * 101 := hI
    have hk := (List.getElem?_eq_some_iff.1 hs).1
    have hs' := hp s (List.mem_of_getElem? hs)
    have hsw := shows hs'.r hs'.d
    have h1 := hs'.n
    have h2 := hs'.u
    have h3 := hsw.2.2
    show q75_ (q7i_ u1 fun s i k r p => self (s, i, k, r, p)) _ _ _ acc (i : Int) (k : Int) r p = _
    unfold q75_
    have K3 : ∀ t : List UInt8, t.length ≤ 2000000 -> q7i_ u1 (fun s i k r p => self (s, i, k, r, p)) t (i : Int) (k : Int) r p = self (t ++ [10], (i : Int), ((k + 1 : Nat) : Int), r, p) := by
      intro t ht
      unfold q7i_ qg1_
      rw [q1a_ (by omega), qi_ (by omega)]
    have l1 : (acc ++ [32, 32]).length = acc.length + 2 := by simp
    have l2 : (acc ++ [32, 32] ++ s.1).length = acc.length + 2 + s.1.length := by rw [List.length_append, l1]
    have l3 : (acc ++ [32, 32] ++ s.1 ++ [32, 61, 32]).length = acc.length + 2 + s.1.length + 3 := by rw [List.length_append, l2]; rfl
    have l4 : (acc ++ [32, 32] ++ s.1 ++ [32, 61, 32] ++ shwd s.2.1).length = acc.length + 2 + s.1.length + 3 + (shwd s.2.1).length := by rw [List.length_append, l3]
    have l5 : (acc ++ [32, 32] ++ s.1 ++ [32, 61, 32] ++ shwd s.2.1 ++ [32]).length = acc.length + 2 + s.1.length + 3 + (shwd s.2.1).length + 1 := by rw [List.length_append, l4]; rfl
    have l6 : (acc ++ [32, 32] ++ s.1 ++ [32, 61, 32] ++ shwd s.2.1 ++ [32] ++ s.2.2.1).length = acc.length + 2 + s.1.length + 3 + (shwd s.2.1).length + 1 + s.2.2.1.length := by rw [List.length_append, l5]
    rw [if_pos (by rw [qb_, q0_]; omega), at_get hs, Option.bind_some, qi_ (by omega), qi_ (by omega), qi_ (by omega), hsw.2.1, Option.bind_some]
    dsimp only
    rw [qi_ (by omega)]
    by_cases hu : s.2.2.1 = []
    · rw [if_neg (fun e => nes_iff.1 e hu), K3 _ (by omega), setT_no hu]
    · rw [if_pos (nes_iff.2 hu), qi_ (by omega), qi_ (by omega), K3 _ (by omega), setT_yes hu]
  · intro k acc s hs hI
    have hI : acc.length ≤ 1000000 + k * 101 := hI
    have h1 := setT_len (hp s (List.mem_of_getElem? hs))
    show (acc ++ setT s).length ≤ 1000000 + (k + 1) * 101
    rw [List.length_append]
    omega
  · intro self acc hI
    have hI : acc.length ≤ 1000000 + p.2.2.length * 101 := hI
    show q75_ _ (qdb_ u1) _ _ acc (i : Int) (p.2.2.length : Int) r p = _
    unfold q75_
    rw [if_neg (by rw [qb_, q0_]; omega)]
    show qc6_ (qd6_ u1) u1 acc (i : Int) r = _
    unfold qc6_
    rw [qi_ (by omega)]
    show qcz_ u1 (acc ++ [101, 110, 100, 10]) (i : Int) r = _
    unfold qcz_
    rw [q1a_ (by omega)]
    rfl
  · rw [List.drop_zero, foldl_app]
theorem rprint_eq {r : TRec} (ho : RecOk r) : qdh_ (r, ()) = some (printS r, ()) := by
  have hn := ho.n
  show qd8_ q9w_ r = _
  unfold qd8_
  rw [qi_ (by omega), qi_ (by omega)]
  have e1 : (114 :: 101 :: 99 :: 105 :: 112 :: 101 :: 32 :: (r.1 ++ [10]) : List UInt8) = lnB [sRec, r.1] := by unfold lnB; simp [joinF]
  rw [e1]
  unfold q9w_
  have hl8 := ho.l
  have h0 : (lnB [sRec, r.1]).length ≤ 100 := by
    rw [lnB_len]
    simp only [joinF, List.length_append, List.length_cons, List.length_nil]
    omega
  refine (loop_idx (σ := (List UInt8) × (Int) × TRec) (xs := r.2) (mk := fun k acc => (acc, (k : Int), r)) (stp := fun acc p => acc ++ partT p)
    (fin := fun acc => some (acc, ())) (Inv := fun k acc => acc.length ≤ 1000 + k * 7000) ?_ ?_ ?_ r.2.length 0 (lnB [sRec, r.1]) _ (by omega) (by omega) (by omega)).trans ?_
  · intro self k acc p hp hI
    have hI : acc.length ≤ 1000 + k * 7000 := hI
    have hk := (List.getElem?_eq_some_iff.1 hp).1
    have hpo := ho.p p (List.mem_of_getElem? hp)
    have hpn := hpo.n
    show q7c_ (q7d_ fun s i r => self (s, i, r)) _ acc (k : Int) r = _
    unfold q7c_
    have l1 : (acc ++ [115, 108, 97, 118, 101, 32]).length = acc.length + 6 := by simp
    have l2 : (acc ++ [115, 108, 97, 118, 101, 32] ++ p.1).length = acc.length + 6 + p.1.length := by rw [List.length_append, l1]
    rw [if_pos (by rw [qb_, q0_]; omega), at_get hp, Option.bind_some, qi_ (by omega), qi_ (by omega), qi_ (by omega)]
    have e2 : acc ++ [115, 108, 97, 118, 101, 32] ++ p.1 ++ [10] = acc ++ lnB [sSlv, p.1] := by unfold lnB; simp [joinF]
    have l3 : (acc ++ lnB [sSlv, p.1]).length ≤ 1000000 := by
      rw [<- e2, List.length_append, l2]
      show acc.length + 6 + p.1.length + 1 ≤ _
      omega
    rw [e2, rprint_K2 (by omega) hpo.l hpo.s l3]
    unfold partT
    rw [List.append_assoc, List.append_assoc, List.append_assoc]
  · intro k acc p hp hI
    have hI : acc.length ≤ 1000 + k * 7000 := hI
    have := partT_len (ho.p p (List.mem_of_getElem? hp))
    show (acc ++ partT p).length ≤ 1000 + (k + 1) * 7000
    rw [List.length_append]
    omega
  · intro self acc hI
    show q7c_ _ _ acc (r.2.length : Int) r = _
    unfold q7c_
    rw [if_neg (by rw [qb_, q0_]; omega)]
  · rw [List.drop_zero, foldl_app]
    rfl
end Go.Proofs.Lx
end
section
namespace Go.Proofs.Lx
open Go Ev Sx Pl
set_option maxRecDepth 10000
abbrev RwSt := TL × Int × Int × List TL
def rwF (self : RwSt -> Option (As [.sl (.sl QAT1)])) (s : RwSt) : Option (As [.sl (.sl QAT1)]) := q6k_ (q6q_ (fun l from' i out => self (l, from', i, out))) (fun l from' i out => self (l, from', i, out)) s.1 s.2.1 s.2.2.1 s.2.2.2
theorem rw_K1 (l : TL) (d i : Int) (out : List TL) : qaw_ l d i out = loopF rwF 18446744073709551616 (l, d, i, out) := rfl
theorem rw_F (self : RwSt -> Option (As [.sl (.sl QAT1)])) (l : TL) (d i : Int) (out : List TL) : rwF self (l, d, i, out) = q6k_ (q6q_ (fun l from' i out => self (l, from', i, out))) (fun l from' i out => self (l, from', i, out)) l d i out := rfl
theorem rw_skip {l : TL} (hl : l.length < 1000000) {d : Int} {rest : TL} {out : List TL} : ∀ (q : TL) (i n : Nat), l.drop i = q ++ rest -> (∀ t ∈ q, t.1 ≠ 4) ->
    loopF rwF (q.length + n) (l, d, (i : Int), out) = loopF rwF n (l, d, ((i + q.length : Nat) : Int), out)
  | [], i, n, _, _ => by rw [List.length_nil, Nat.zero_add, Nat.add_zero]
  | t :: q, i, n, h, hk => by
    have hd := drop_succ (r := q ++ rest) h
    rw [List.length_cons, show q.length + 1 + n = (q.length + n) + 1 by omega, q1t_, rw_F]
    unfold q6k_
    rw [if_pos (by rw [qb_, q0_]; omega), at_drop h, Option.bind_some, if_neg (fun e => hk t List.mem_cons_self (qn_.1 e))]
    unfold q6q_ qef_
    rw [q1a_ (by omega)]
    show loopF rwF (q.length + n) (l, d, ((i + 1 : Nat) : Int), out) = _
    rw [rw_skip hl q (i + 1) n hd.1 (fun x hx => hk x (List.mem_cons_of_mem _ hx)), show i + 1 + q.length = i + (q.length + 1) by omega]
theorem rw_loop {l : TL} (hl : l.length < 1000000) : ∀ (rs : List (TL × Int)) (d : Nat) (out : List TL) (n : Nat), d ≤ l.length -> l.drop d = flat rs -> (∀ p ∈ rs, ∀ t ∈ p.1, GoodT p.2 t) -> out.length + (flat rs).length < 1000000 -> (flat rs).length < n ->
    loopF rwF n (l, (d : Int), (d : Int), out) = some (out ++ rs.map Prod.fst, ())
  | [], d, out, n, hdl, h, hg, ho, hn => by
    have hd : l.length = d := by
      have := congrArg List.length h
      rw [List.length_drop] at this
      have h0 : (flat []).length = 0 := rfl
      omega
    match n, hn with
    | n + 1, _ =>
      rw [q1t_, rw_F]
      unfold q6k_
      rw [if_neg (by rw [qb_, q0_]; omega)]
      simp
  | (ts, a) :: rs, d, out, n, hdl, h, hg, ho, hn => by
    rw [flat_cons] at h hn ho
    have h : l.drop d = ts ++ tkEnd a :: flat rs := h
    have hr := drop_row h
    have hgt := hg (ts, a) List.mem_cons_self
    have hgr : ∀ p ∈ rs, ∀ t ∈ p.1, GoodT p.2 t := fun p hp => hg p (List.mem_cons_of_mem _ hp)
    rw [List.length_append, List.length_cons] at hn ho
    have hn : ts.length + ((flat rs).length + 1) < n := hn
    have ho : out.length + (ts.length + ((flat rs).length + 1)) < 1000000 := ho
    obtain ⟨m, rfl⟩ : ∃ m, n = ts.length + (m + 1) := ⟨n - ts.length - 1, by omega⟩
    rw [rw_skip hl ts d (m + 1) h (fun t ht => (hgt t ht).k), q1t_, rw_F]
    unfold q6k_
    rw [if_pos (by rw [qb_, q0_]; omega), at_drop hr.1, Option.bind_some, if_pos (show eqi (tkEnd a).1 4 = true from rfl), hr.2.2.2, Option.bind_some, qi_ (by omega)]
    unfold q6q_ qef_
    rw [q1a_ (by omega)]
    show loopF rwF m (l, ((d + ts.length + 1 : Nat) : Int), ((d + ts.length + 1 : Nat) : Int), out ++ [ts]) = _
    rw [rw_loop hl rs (d + ts.length + 1) (out ++ [ts]) m (by omega) hr.2.1 hgr (by rw [List.length_append]; simp; omega) (by omega)]
    simp
theorem rows_eq {l : TL} (hl : l.length < 1000000) {rs : List (TL × Int)} (h : l = flat rs) (hg : ∀ p ∈ rs, ∀ t ∈ p.1, GoodT p.2 t) : qfe_ (l, ()) = some (rs.map Prod.fst, ()) := by
  show qeb_ qaw_ l = _
  unfold qeb_
  rw [rw_K1]
  have := congrArg List.length h
  refine (rw_loop hl rs 0 [] _ (by omega) h hg (by rw [List.length_nil]; omega) (by omega)).trans ?_
  rw [List.nil_append]
abbrev U14 := List TL -> Bool -> Int -> List UInt8 -> Int × Int -> List UInt8 -> Bool -> List TPart -> List UInt8 -> Int -> List TSet -> RPs
section
variable {u1 : U14} {all : List TL} {i : Nat} {t2 : List UInt8} {t3 : Int × Int} {nm : List UInt8} {oo : Bool} {o : List TPart} {ol : List UInt8} {ol2 : Int} {o2 : List TSet} {a : Int}
theorem K5_t {ts : TL} : q57_ u1 all true (i : Int) ts a true t2 t3 nm true o ol ol2 o2 = pR (pFail 140 a) := rfl
theorem K6_eq {s : TSet} (hi : i < 1000000) (ho : o.length ≤ 8) (h2 : o2.length ≤ 64) : q9c_ u1 all true (i : Int) (Sx.sub .i64 (if true = true then Int.ofNat (o.length + 1) else Int.ofNat o.length) 1) t2 t3 nm true o ol ol2 o2 s = u1 all true ((i + 1 : Nat) : Int) t2 t3 nm true o ol ol2 (o2 ++ [s]) := by
  have hs := sub_len ho
  unfold q9c_ qg7_
  rw [needT, need_t hs, needT, need_t hs, qi_ (by omega), needT, need_t hs, needT, need_t hs]
  unfold q2t_ q5t_
  rw [q1a_ (by omega)]
theorem K5_3 {x y z : Tk1} (hi : i < 1000000) (ho : o.length ≤ 8) (h2 : o2.length ≤ 64) : q57_ u1 all true (i : Int) [x, y, z] a false t2 t3 nm true o ol ol2 o2 = stepR a o2 (some (x.2.1, z.2.2.1, [], a)) fun s => u1 all true ((i + 1 : Nat) : Int) t2 t3 nm true o ol ol2 (o2 ++ [s]) := by
  have hs := sub_len ho
  unfold q57_ qch_
  rw [if_neg (by decide), needT, need_t hs, needT, need_t hs]
  unfold stepR
  dsimp only
  by_cases h6 : o2.length = 64
  · rw [if_pos (e64.2 h6), if_pos h6]
    rfl
  · rw [if_neg (fun e => h6 (e64.1 e)), if_neg h6, at_zero, Option.bind_some, at_2, Option.bind_some, if_neg (show ¬ eqi (Int.ofNat [x, y, z].length) 4 = true from fun e => absurd (qn_.1 e) (by rw [q0_]; simp)), K6_eq hi ho h2]
theorem K5_4 {x y z u : Tk1} (hi : i < 1000000) (ho : o.length ≤ 8) (h2 : o2.length ≤ 64) : q57_ u1 all true (i : Int) [x, y, z, u] a false t2 t3 nm true o ol ol2 o2 = stepR a o2 (some (x.2.1, z.2.2.1, u.2.1, a)) fun s => u1 all true ((i + 1 : Nat) : Int) t2 t3 nm true o ol ol2 (o2 ++ [s]) := by
  have hs := sub_len ho
  unfold q57_ qch_
  rw [if_neg (by decide), needT, need_t hs, needT, need_t hs]
  unfold stepR
  dsimp only
  by_cases h6 : o2.length = 64
  · rw [if_pos (e64.2 h6), if_pos h6]
    rfl
  · rw [if_neg (fun e => h6 (e64.1 e)), if_neg h6, at_zero, Option.bind_some, at_2, Option.bind_some, if_pos (show eqi (Int.ofNat [x, y, z, u].length) 4 = true from rfl), at_3, Option.bind_some, K6_eq hi ho h2]
theorem K3_eq {ts : TL} (hg : ∀ t ∈ ts, GoodT a t) (hi : i < 1000000) (ho : o.length ≤ 8) (h2 : o2.length ≤ 64) :
    q50_ u1 all true (i : Int) ts a false t2 t3 nm true o ol ol2 o2 = stepR a o2 (setOf a ts) fun s => u1 all true ((i + 1 : Nat) : Int) t2 t3 nm true o ol ol2 (o2 ++ [s]) := by
  unfold q50_ qg8_
  rw [if_neg (show ¬ false = true by decide)]
  match ts with
  | [] => rfl
  | [x] => rfl
  | [x, y] => rfl
  | [x, y, z] =>
    rw [if_neg (show ¬ lt (Int.ofNat [x, y, z].length) 3 = true from fun e => absurd (qb_.1 e) (by rw [q0_]; simp)), if_neg (show ¬ gt (Int.ofNat [x, y, z].length) 4 = true from fun e => absurd (q1w_.1 e) (by rw [q0_]; simp)), at_zero, at_1, at_2, Option.bind_some]
    by_cases h1 : x.1 = 1
    · rw [if_neg (fun e => ql_.1 e h1), Option.bind_some, rname_eq (by have := unitB_len ((hg x (by simp)).w h1).1; omega), Option.bind_some]
      by_cases h2' : nameB x.2.1 = true
      · rw [if_neg (by rw [h2']; decide), Option.bind_some]
        by_cases h3 : y.1 = 3
        · rw [if_neg (fun e => ql_.1 e h3), Option.bind_some]
          by_cases h4 : z.1 = 2
          · rw [if_neg (fun e => ql_.1 e h4), if_neg (show ¬ eqi (Int.ofNat [x, y, z].length) 4 = true from fun e => absurd (qn_.1 e) (by rw [q0_]; simp)), K5_3 hi ho h2]
            have e : setOf a [x, y, z] = some (x.2.1, z.2.2.1, [], a) := if_pos ⟨h1, h2', h3, h4⟩
            rw [e]
          · rw [if_pos (ql_.2 h4), K5_t]
            have e : setOf a [x, y, z] = none := if_neg (fun e => h4 e.2.2.2)
            rw [e]
            rfl
        · rw [if_pos (ql_.2 h3), K5_t]
          have e : setOf a [x, y, z] = none := if_neg (fun e => h3 e.2.2.1)
          rw [e]
          rfl
      · rw [if_pos (by rw [Bool.eq_false_iff.2 h2']; decide), K5_t]
        have e : setOf a [x, y, z] = none := if_neg (fun e => h2' e.2.1)
        rw [e]
        rfl
    · rw [if_pos (ql_.2 h1), K5_t]
      have e : setOf a [x, y, z] = none := if_neg (fun e => h1 e.1)
      rw [e]
      rfl
  | [x, y, z, u] =>
    rw [if_neg (show ¬ lt (Int.ofNat [x, y, z, u].length) 3 = true from fun e => absurd (qb_.1 e) (by rw [q0_]; simp)), if_neg (show ¬ gt (Int.ofNat [x, y, z, u].length) 4 = true from fun e => absurd (q1w_.1 e) (by rw [q0_]; simp)), at_zero, at_1, at_2, at_3, Option.bind_some]
    by_cases h1 : x.1 = 1
    · rw [if_neg (fun e => ql_.1 e h1), Option.bind_some, rname_eq (by have := unitB_len ((hg x (by simp)).w h1).1; omega), Option.bind_some]
      by_cases h2' : nameB x.2.1 = true
      · rw [if_neg (by rw [h2']; decide), Option.bind_some]
        by_cases h3 : y.1 = 3
        · rw [if_neg (fun e => ql_.1 e h3), Option.bind_some]
          by_cases h4 : z.1 = 2
          · rw [if_neg (fun e => ql_.1 e h4), if_pos (show eqi (Int.ofNat [x, y, z, u].length) 4 = true from rfl), Option.bind_some]
            by_cases h5 : u.1 = 1
            · have e : setOf a [x, y, z, u] = some (x.2.1, z.2.2.1, u.2.1, a) := if_pos ⟨h1, h2', h3, h4, h5⟩
              have e5 : nei u.1 1 = false := by rw [h5]; rfl
              rw [e, e5, K5_4 hi ho h2]
            · rw [ql_.2 h5, K5_t]
              have e : setOf a [x, y, z, u] = none := if_neg (fun e => h5 e.2.2.2.2)
              rw [e]
              rfl
          · rw [if_pos (ql_.2 h4), K5_t]
            have e : setOf a [x, y, z, u] = none := if_neg (fun e => h4 e.2.2.2.1)
            rw [e]
            rfl
        · rw [if_pos (ql_.2 h3), K5_t]
          have e : setOf a [x, y, z, u] = none := if_neg (fun e => h3 e.2.2.1)
          rw [e]
          rfl
      · rw [if_pos (by rw [Bool.eq_false_iff.2 h2']; decide), K5_t]
        have e : setOf a [x, y, z, u] = none := if_neg (fun e => h2' e.2.1)
        rw [e]
        rfl
    · rw [if_pos (ql_.2 h1), K5_t]
      have e : setOf a [x, y, z, u] = none := if_neg (fun e => h1 e.1)
      rw [e]
      rfl
  | x :: y :: z :: u :: v :: q =>
    have hl : Int.ofNat (x :: y :: z :: u :: v :: q).length = (q.length : Int) + 5 := by rw [q0_]; simp only [List.length_cons]; omega
    rw [if_neg (show ¬ lt (Int.ofNat (x :: y :: z :: u :: v :: q).length) 3 = true by rw [qb_, hl]; omega), if_pos (show gt (Int.ofNat (x :: y :: z :: u :: v :: q).length) 4 = true by rw [q1w_, hl]; omega)]
    rfl
theorem rstep2 {j4 : Bool -> List UInt8 -> Int × Int -> List UInt8 -> Bool -> List TPart -> List UInt8 -> Int -> List TSet -> RPs} {ts : TL} (hat : all[i]? = some ts) (hne : ts ≠ []) (hg : ∀ t ∈ ts, GoodT a t) (hi : i < 1000000) (ho : o.length ≤ 8) (h2 : o2.length ≤ 64) :
    q4h_ (q2t_ u1) (q50_ u1) j4 u1 all true (i : Int) t2 t3 nm true o ol ol2 o2 = if isEnd ts = true then u1 all false ((i + 1 : Nat) : Int) t2 t3 nm true o ol ol2 o2
      else stepR a o2 (setOf a ts) fun s => u1 all true ((i + 1 : Nat) : Int) t2 t3 nm true o ol ol2 (o2 ++ [s]) := by
  have hlt := (List.getElem?_eq_some_iff.1 hat).1
  rw [<- K3_eq (u1 := u1) (all := all) (i := i) (t2 := t2) (t3 := t3) (nm := nm) (ol := ol) (ol2 := ol2) hg hi ho h2]
  unfold q4h_
  rw [if_pos (by rw [qb_, q0_]; omega), at_get hat, Option.bind_some]
  match ts, hne with
  | x :: q, _ =>
    have hl : x.2.2.2 = a := (hg x (by simp)).l
    rw [at_zero, Option.bind_some, if_neg (show ¬ (!true) = true by decide), hl]
    match q with
    | [] =>
      rw [if_pos (show eqi (Int.ofNat [x].length) 1 = true from rfl), Option.bind_some]
      have he : isEnd [x] = (eqi x.1 1 && eqs x.2.1 sEnd) := rfl
      rw [he]
      by_cases h1 : eqi x.1 1 = true
      · rw [if_pos h1, Option.bind_some]
        by_cases h3 : eqs x.2.1 sEnd = true
        · rw [h3, if_pos (show (eqi x.1 1 && true) = true by rw [h1]; rfl)]
          show q5t_ u1 all false (i : Int) t2 t3 nm true o ol ol2 o2 = _
          unfold q5t_
          rw [q1a_ (by omega)]
        · rw [Bool.eq_false_iff.2 h3, if_neg (show ¬ (eqi x.1 1 && false) = true by rw [h1]; decide)]
      · rw [if_neg h1, if_neg (show ¬ (eqi x.1 1 && eqs x.2.1 sEnd) = true by rw [Bool.eq_false_iff.2 h1]; simp)]
    | y :: q =>
      rw [if_neg (show ¬ eqi (Int.ofNat (x :: y :: q).length) 1 = true by rw [qn_, q0_]; simp only [List.length_cons]; omega), if_neg (show ¬ isEnd (x :: y :: q) = true by intro e; cases e)]
theorem rstep1 {j3 : List TL -> Bool -> Int -> TL -> Int -> Bool -> List UInt8 -> Int × Int -> List UInt8 -> Bool -> List TPart -> List UInt8 -> Int -> List TSet -> RPs} {j4 : Bool -> List UInt8 -> Int × Int -> List UInt8 -> Bool -> List TPart -> List UInt8 -> Int -> List TSet -> RPs} {ts : TL} (hat : all[i]? = some ts) (hne : ts ≠ []) (hg : ∀ t ∈ ts, GoodT a t) (hi : i < 1000000) (ho : lenB oo o ≤ 8) :
    q4h_ (q2t_ u1) j3 j4 u1 all false (i : Int) t2 t3 nm oo o ol ol2 o2 = if headB ts sSlv = false then pR (pFail 140 a) else if lenB oo o = 8 then pR (pFail 130 a)
      else u1 all true ((i + 1 : Nat) : Int) t2 t3 nm true (if oo = true then o ++ [(ol, ol2, o2)] else o) (second ts) a [] := by
  have hlt := (List.getElem?_eq_some_iff.1 hat).1
  unfold q4h_
  rw [if_pos (by rw [qb_, q0_]; omega), at_get hat, Option.bind_some]
  match ts, hne with
  | x :: q, _ =>
    have hl : x.2.2.2 = a := (hg x (by simp)).l
    rw [at_zero, Option.bind_some, if_pos (show (!false) = true from rfl), show ([115, 108, 97, 118, 101] : List UInt8) = sSlv from rfl, says_eq hg, Option.bind_some, hl]
    cases hh : headB (x :: q) sSlv with
    | false => rfl
    | true =>
      rw [if_neg (show ¬ (!true) = true by decide), if_neg (show ¬ true = false by decide)]
      obtain ⟨x', y, e⟩ := head_two hh
      cases e
      rw [len_eq]
      by_cases h8 : lenB oo o = 8
      · rw [if_pos (show eqi ((lenB oo o : Nat) : Int) 8 = true by rw [qn_]; omega), if_pos h8]
        rfl
      · rw [if_neg (show ¬ eqi ((lenB oo o : Nat) : Int) 8 = true by rw [qn_]; omega), if_neg h8, at_1, Option.bind_some, all_len, qi_ (by omega)]
        show q5t_ u1 all true (i : Int) t2 t3 nm true _ _ a [] = _
        unfold q5t_
        rw [q1a_ (by omega)]
        rfl
end
abbrev R14 := (List TL) × (Bool) × (Int) × (List UInt8) × (Int × Int) × (List UInt8) × (Bool) × (List TPart) × (List UInt8) × (Int) × (List TSet)
def r14F (self : R14 -> RPs) (s : R14) : RPs := q4h_ (q2t_ (fun all openV i t2 t3 r o_o o o_l o_l_2 o_2 => self (all, openV, i, t2, t3, r, o_o, o, o_l, o_l_2, o_2))) (q50_ (fun all openV i t2 t3 r o_o o o_l o_l_2 o_2 => self (all, openV, i, t2, t3, r, o_o, o, o_l, o_l_2, o_2))) (q9n_) (fun all openV i t2 t3 r o_o o o_l o_l_2 o_2 => self (all, openV, i, t2, t3, r, o_o, o, o_l, o_l_2, o_2)) s.1 s.2.1 s.2.2.1 s.2.2.2.1 s.2.2.2.2.1 s.2.2.2.2.2.1 s.2.2.2.2.2.2.1 s.2.2.2.2.2.2.2.1 s.2.2.2.2.2.2.2.2.1 s.2.2.2.2.2.2.2.2.2.1 s.2.2.2.2.2.2.2.2.2.2
theorem r14_K1 (all : List TL) (openV : Bool) (i : Int) (t2 : List UInt8) (t3 : Int × Int) (r : List UInt8) (o_o : Bool) (o : List TPart) (o_l : List UInt8) (o_l_2 : Int) (o_2 : List TSet) :
    qa2_ all openV i t2 t3 r o_o o o_l o_l_2 o_2 = loopF r14F 18446744073709551616 (all, openV, i, t2, t3, r, o_o, o, o_l, o_l_2, o_2) := rfl
theorem r14_F (self : R14 -> RPs) (all : List TL) (openV : Bool) (i : Int) (t2 : List UInt8) (t3 : Int × Int) (r : List UInt8) (o_o : Bool) (o : List TPart) (o_l : List UInt8) (o_l_2 : Int) (o_2 : List TSet) :
    r14F self (all, openV, i, t2, t3, r, o_o, o, o_l, o_l_2, o_2) = q4h_ (q2t_ (fun all openV i t2 t3 r o_o o o_l o_l_2 o_2 => self (all, openV, i, t2, t3, r, o_o, o, o_l, o_l_2, o_2))) (q50_ (fun all openV i t2 t3 r o_o o o_l o_l_2 o_2 => self (all, openV, i, t2, t3, r, o_o, o, o_l, o_l_2, o_2))) (q9n_) (fun all openV i t2 t3 r o_o o o_l o_l_2 o_2 => self (all, openV, i, t2, t3, r, o_o, o, o_l, o_l_2, o_2)) all openV i t2 t3 r o_o o o_l o_l_2 o_2 := rfl
theorem r14_loop {all : List TL} {t2 : List UInt8} {t3 : Int × Int} (hl : all.length < 1000000) : ∀ (rs : List (TL × Int)) (i : Nat) (w : Bool) (nm : List UInt8) (oo : Bool) (o : List TPart) (ol : List UInt8) (ol2 : Int) (o2 : List TSet) (n : Nat),
    i ≤ all.length -> all.drop i = rs.map Prod.fst -> (∀ p ∈ rs, p.1 ≠ [] ∧ ∀ t ∈ p.1, GoodT p.2 t) -> (w = true -> oo = true) -> lenB oo o ≤ 8 -> o2.length ≤ 64 -> rs.length < n ->
    loopF r14F n (all, w, (i : Int), t2, t3, nm, oo, o, ol, ol2, o2) = pR (pB rs w nm oo o ol ol2 o2)
  | [], i, w, nm, oo, o, ol, ol2, o2, n, hdl, h, hg, hw, ho, h2, hn => by
    have hd : all.length = i := by
      have := congrArg List.length h
      rw [List.length_drop] at this
      have h0 : (List.map Prod.fst ([] : List (TL × Int))).length = 0 := rfl
      omega
    match n, hn with
    | n + 1, _ =>
      rw [q1t_, r14_F]
      unfold q4h_
      rw [if_neg (by rw [qb_, q0_]; omega)]
      show qco_ w t2 t3 nm oo o ol ol2 o2 = _
      unfold qco_
      cases w <;> rfl
  | (ts, a) :: rs, i, w, nm, oo, o, ol, ol2, o2, n, hdl, h, hg, hw, ho, h2, hn => by
    rw [List.map_cons] at h
    have h : all.drop i = ts :: rs.map Prod.fst := h
    have hr := drop_succ h
    obtain ⟨hne, hgt⟩ := hg (ts, a) List.mem_cons_self
    have hgr : ∀ p ∈ rs, p.1 ≠ [] ∧ ∀ t ∈ p.1, GoodT p.2 t := fun p hp => hg p (List.mem_cons_of_mem _ hp)
    rw [List.length_cons] at hn
    obtain ⟨m, rfl⟩ : ∃ m, n = m + 1 := ⟨n - 1, by omega⟩
    have hat : all[i]? = some ts := by
      have := congrArg (·[0]?) h
      simpa using this
    rw [q1t_, r14_F]
    cases w with
    | true =>
      have hoo := hw rfl
      subst hoo
      have ho8 : o.length ≤ 8 := by unfold lenB at ho; rw [if_pos rfl] at ho; omega
      rw [rstep2 hat hne hgt (by omega) ho8 h2]
      unfold pB
      cases he : isEnd ts with
      | true =>
        rw [if_pos rfl, if_pos rfl]
        exact r14_loop hl rs (i + 1) false nm true o ol ol2 o2 m (by omega) hr.1 hgr (fun e => by cases e) ho h2 (by omega)
      | false =>
        rw [if_neg (by decide), if_neg (by decide)]
        cases hs : setOf a ts with
        | none => rfl
        | some s =>
          unfold stepR
          dsimp only
          by_cases h64 : o2.length = 64
          · rw [if_pos h64, if_pos h64]
          · rw [if_neg h64, if_neg h64]
            exact r14_loop hl rs (i + 1) true nm true o ol ol2 (o2 ++ [s]) m (by omega) hr.1 hgr (fun _ => rfl) ho (by rw [List.length_append]; simp; omega) (by omega)
    | false =>
      rw [rstep1 hat hne hgt (by omega) ho]
      unfold pB
      by_cases hh : headB ts sSlv = false
      · rw [if_pos hh, if_pos hh]
      · rw [if_neg hh, if_neg hh]
        by_cases h8 : lenB oo o = 8
        · rw [if_pos h8, if_pos (show (if oo = true then o.length + 1 else o.length) = 8 from h8)]
        · rw [if_neg h8, if_neg (show ¬ (if oo = true then o.length + 1 else o.length) = 8 from h8)]
          exact r14_loop hl rs (i + 1) true nm true (if oo = true then o ++ [(ol, ol2, o2)] else o) (second ts) a [] m (by omega) hr.1 hgr (fun _ => rfl) (by
            show (if true = true then (if oo = true then o ++ [(ol, ol2, o2)] else o).length + 1 else _) ≤ 8
            rw [if_pos rfl, all_len]; omega) (by simp) (by omega)
theorem flat_len : ∀ rs : List (TL × Int), rs.length ≤ (flat rs).length
  | [] => Nat.le_refl _
  | p :: rs => by
    have := flat_len rs
    rw [flat_cons, List.length_append, List.length_cons, List.length_cons]
    omega
theorem dparse_eq {s : List UInt8} {rs : List (TL × Int)} (h : (lexR s).2.1 = 0 -> RowsT (lexR s).1 rs) : qdf_ (s, ()) = pR (parseR s rs) := by
  show qcd_ qa2_ s = _
  unfold qcd_ parseR
  rw [ref_eq, Option.bind_some]
  dsimp only
  by_cases h0 : (lexR s).2.1 = 0
  · have hr := h h0
    rw [if_neg (fun e => ql_.1 e h0), if_pos h0]
    have hl := lexR_len s
    have hf : (lexR s).1 = flat rs := hr.e
    have hfl := flat_len rs
    rw [<- hf] at hfl
    rw [rows_eq (by omega) hf (fun p hp => (hr.g p hp).2), Option.bind_some]
    dsimp only
    match rs, hf, hr, hfl with
    | [], hf, hr, hfl => rfl
    | (ts, a) :: rs, hf, hr, hfl =>
      obtain ⟨hne, hgt⟩ := hr.g (ts, a) List.mem_cons_self
      have hgt : ∀ t ∈ ts, GoodT a t := hgt
      have hne : ts ≠ [] := hne
      rw [List.length_cons] at hfl
      rw [List.map_cons]
      show (if eqi (Int.ofNat (ts :: rs.map Prod.fst).length) 0 = true then _ else _) = _
      rw [if_neg (show ¬ eqi (Int.ofNat (ts :: rs.map Prod.fst).length) 0 = true by rw [qn_, q0_, List.length_cons]; omega), at_zero, Option.bind_some, show ([114, 101, 99, 105, 112, 101] : List UInt8) = sRec from rfl, says_eq hgt, Option.bind_some, Option.bind_some, Option.bind_some, pS_cons]
      cases hh : headB ts sRec with
      | false =>
        rw [if_pos (show (!false) = true from rfl), if_pos rfl]
        match ts, hne with
        | x :: q, _ =>
          have hl : x.2.2.2 = a := (hgt x (by simp)).l
          rw [at_zero, Option.bind_some, hl]
          rfl
      | true =>
        rw [if_neg (show ¬ (!true) = true by decide), if_neg (show ¬ true = false by decide)]
        obtain ⟨x, y, rfl⟩ := head_two hh
        rw [at_1, Option.bind_some, r14_K1]
        exact r14_loop (by rw [List.length_cons, List.length_map]; omega) rs 1 false y.2.1 false [] [] 0 [] _ (by rw [List.length_cons]; omega) rfl (fun p hp => hr.g p (List.mem_cons_of_mem _ hp)) (fun e => by cases e) (by decide) (by simp) (by omega)
  · rw [if_pos (ql_.2 h0), if_neg h0]
    rfl
end Go.Proofs.Lx
end
section
namespace Pl
open Go Ev Sx
theorem loop_dt {σ R : Type} {F : (σ -> Option R) -> σ -> Option R} {mk : Nat -> σ} {N : Nat} {r : Option R} (hs : ∀ self i, i < N -> F self (mk i) = self (mk (i + 1))) (he : ∀ self, F self (mk N) = r) :
    ∀ (k i n : Nat), i + k = N -> k < n -> loopF F n (mk i) = r
  | _, _, 0, _, h => by omega
  | 0, i, n + 1, h, _ => by
    have : i = N := by omega
    subst this
    rw [q1t_, he]
  | k + 1, i, n + 1, h, hn => by rw [q1t_, hs _ _ (by omega), loop_dt hs he k (i + 1) n (by omega) (by omega)]
end Pl
end
