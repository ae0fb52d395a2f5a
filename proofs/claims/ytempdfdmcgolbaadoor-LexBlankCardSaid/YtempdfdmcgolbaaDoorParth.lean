/- Proved in the last of these 9 parts (this is part 8): blanks between tokens, comments at lines' ends and lines that have no token say nothing but the numbers of lines. Conditions: those of the given statement, and no others. -/
import Derived.Test.YtempdfdmcgolbaaDoorPartg
import Derived.Test.YtempdfdmcgolbaaDoorPartd
set_option linter.unusedVariables false
set_option linter.unusedSimpArgs false
set_option linter.unusedSectionVars false
section
/- LexKinds, as a plain law. -/
namespace Go.Proofs.Lx
open Go Ev Sx Pl
set_option maxRecDepth 10000
abbrev LR := As [.sl (.pr (.int .u8) (.pr .str (.pr (.pr (.int .i64) (.int .u8)) (.int .i64)))), .pr (.int .i64) (.int .i64)]
abbrev lexB (self : (List UInt8) × Int × Int × Int × TL → Option LR) (s : (List UInt8) × Int × Int × Int × TL) : Option LR :=
  lex_Lex_m1 (lex_Lex_K2) (fun text n t3 t3_2 l => self (text, n, t3, t3_2, l)) s.1 s.2.1 s.2.2.1 s.2.2.2.1 s.2.2.2.2
theorem lex_step (self : (List UInt8) × Int × Int × Int × TL → Option LR) (t : List UInt8) (n : Int) (l : TL) (hne : t ≠ []) (h10 : ∀ b ∈ t, b ≠ 10) {tk : TL} {e : Int} (h : lex_line (t, n, ()) = some (tk, e, ())) :
    lexB self (t, n, 0, 0, l) = if nei e 0 = true then some ([], (e, n), ()) else need (small (l.length + tk.length)) (self ([], add .i64 n 1, 0, 0, l ++ tk)) := by
  show lex_Lex_m1 _ _ t n 0 0 l = _
  unfold lex_Lex_m1
  have e1 : nes t [] = true := by simp [nes, hne]
  have e2 : eqs [10] t = false := by
    cases t with
    | nil => exact absurd rfl hne
    | cons a q =>
      have := h10 a (List.mem_cons_self ..)
      simp [eqs]
      intro e
      exact absurd e.symm this
  have e3 : ge (Go.Lib.indexByte t 10) 0 = false := by rw [index_nb 10 t h10]; rfl
  simp only [e1, e2, e3, Bool.false_eq_true, if_false, if_true]
  rw [h, Option.bind_some]
theorem lex_end (self : (List UInt8) × Int × Int × Int × TL → Option LR) (n : Int) (l : TL) : lexB self ([], n, 0, 0, l) = some (l, (0, 0), ()) := rfl
theorem lex_in (t : List UInt8) : lex_Lex_K1 t 1 0 0 [] = loopF lexB (18446744073709551614 + 1 + 1) (t, 1, 0, 0, []) := rfl
theorem lex_one {t : List UInt8} (hne : t ≠ []) (h10 : ∀ b ∈ t, b ≠ 10) (hl : t.length ≤ 8192) {tk : TL} {e : Int} (h : lex_line (t, 1, ()) = some (tk, e, ())) (htk : tk.length < 1000) :
    lex_Lex (t, ()) = if nei e 0 = true then some ([], (e, 1), ()) else some (tk, (0, 0), ()) := by
  show lex_Lex_m0 lex_Lex_K1 t = _
  unfold lex_Lex_m0
  have e1 : gt (Int.ofNat t.length) 8192 = false := by simp [gt]; omega
  simp only [e1, Bool.false_eq_true, if_false]
  rw [lex_in, loopF_succ, lex_step _ t 1 [] hne h10 h]
  split
  · rfl
  · have h4 : small (([] : TL).length + tk.length) = true := decide_eq_true (by simp; omega)
    rw [need, if_pos h4, loopF_succ, lex_end, List.nil_append]
theorem lex1 {w : List UInt8} (h : Word w) : lex_Lex (w, ()) = if 20 < w.length then some ([], (133, 1), ()) else some ([(1, w, (0, 0), 1), (4, [], (0, 0), 1)], (0, 0), ()) := by
  have hne : w ≠ [] := by obtain ⟨c, q, rfl, _⟩ := h.first; simp
  have hl := h.len
  by_cases h20 : 20 < w.length
  · have := line1 h 1
    rw [if_pos h20] at this
    rw [lex_one hne h.no.2 (by omega) this (by simp), if_pos h20]
    rfl
  · have := line1 h 1
    rw [if_neg h20] at this
    rw [lex_one hne h.no.2 (by omega) this (by simp), if_neg h20]
    rfl
theorem lex2 {u w : List UInt8} (hu : Word u) (hw : Word w) (h1 : u.length ≤ 20) (h2 : w.length ≤ 20) : lex_Lex (u ++ 32 :: w, ()) = some ([(1, u, (0, 0), 1), (1, w, (0, 0), 1), (4, [], (0, 0), 1)], (0, 0), ()) := by
  rw [lex_one (by simp) (fun b hb => by
    rcases List.mem_append.1 hb with hb | hb
    · exact hu.no.2 b hb
    · rcases List.mem_cons.1 hb with hb | hb
      · subst hb; decide
      · exact hw.no.2 b hb) (by simp; omega) (line2 hu hw h1 h2 1) (by simp)]
  rfl
theorem same1 (w : List UInt8) : law13_same ([(1, w, (0, 0), 1), (4, [], (0, 0), 1)], [(1, w, (0, 0), 1), (4, [], (0, 0), 1)], ()) = some (true, ()) := by
  have e : eqs w w = true := by simp [eqs]
  have e2 : eqi 1 1 = true := rfl
  have s1 : ∀ g : TL → TL → Int → Int → Option (As [.bool]), law13_same_m1 g [(1, w, (0, 0), 1), (4, [], (0, 0), 1)] [(1, w, (0, 0), 1), (4, [], (0, 0), 1)] 2 0 = if (!(eqs w w && true)) = true then some (false, ()) else g [(1, w, (0, 0), 1), (4, [], (0, 0), 1)] [(1, w, (0, 0), 1), (4, [], (0, 0), 1)] 2 1 := fun g => by
    unfold law13_same_m1
    rw [if_pos (show lt 0 2 = true from rfl)]
    rw [show at? ([(1, w, (0, 0), 1), (4, [], (0, 0), 1)] : TL) 0 = some (1, w, (0, 0), 1) from rfl, Option.bind_some, Option.bind_some]
    rfl
  refine (s1 (fun a b x y => loopF (fun self s => law13_same_m1 (fun a b x y => self (a, b, x, y)) s.1 s.2.1 s.2.2.1 s.2.2.2) 18446744073709551615 (a, b, x, y))).trans ?_
  rw [e]
  rfl
/-- a byte of the law's words -/
theorem pick_wm {c : UInt8} (h : c ∈ ([97, 98, 122, 65, 90, 37, 48, 57, 95] : List UInt8)) : wm c.toNat = true := by
  simp at h
  rcases h with rfl | rfl | rfl | rfl | rfl | rfl | rfl | rfl | rfl <;> rfl
theorem cut_pick {y : Int} (h0 : 0 ≤ y) (h1 : y ≤ 255) : ∃ c, cut ([97, 98, 122, 65, 90, 37, 48, 57, 95] : List UInt8) (rem (cvt .i64 y) 9) (add .i64 (rem (cvt .i64 y) 9) 1) = some [c] ∧ wm c.toNat = true := by
  have hc : cvt .i64 y = y := w64 (by omega) (by omega)
  rw [hc]
  obtain ⟨k, hk⟩ : ∃ k : Nat, y.tmod 9 = k ∧ k < 9 := ⟨(y.tmod 9).toNat, by have := Int.tmod_nonneg 9 h0; have := Int.tmod_lt_of_pos y (show (0 : Int) < 9 by decide); omega⟩
  unfold rem
  rw [hk.1]
  have ha : add .i64 (k : Int) 1 = ((k + 1 : Nat) : Int) := by unfold add; rw [w64 (by omega) (by omega)]; simp
  rw [ha]
  have : ∀ k, k < 9 → ∃ c, cut ([97, 98, 122, 65, 90, 37, 48, 57, 95] : List UInt8) ((k : Nat) : Int) ((k + 1 : Nat) : Int) = some [c] ∧ wm c.toNat = true := by
    intro k hk
    match k, hk with
    | 0, _ => exact ⟨97, rfl, rfl⟩
    | 1, _ => exact ⟨98, rfl, rfl⟩
    | 2, _ => exact ⟨122, rfl, rfl⟩
    | 3, _ => exact ⟨65, rfl, rfl⟩
    | 4, _ => exact ⟨90, rfl, rfl⟩
    | 5, _ => exact ⟨37, rfl, rfl⟩
    | 6, _ => exact ⟨48, rfl, rfl⟩
    | 7, _ => exact ⟨57, rfl, rfl⟩
    | 8, _ => exact ⟨95, rfl, rfl⟩
  exact this k hk.2
theorem Word.snoc {w : List UInt8} (h : Word w) {c : UInt8} (hc : wm c.toNat = true) (hl : w.length < 900) : Word (w ++ [c]) := by
  obtain ⟨c0, q, rfl, h1⟩ := h.first
  exact ⟨fun b hb => by
    rcases List.mem_append.1 hb with hb | hb
    · exact h.all b hb
    · simp at hb; subst hb; exact hc, ⟨c0, q ++ [c], rfl, h1⟩, by simp at hl ⊢; omega⟩
theorem law13_LexKinds_step (g : Bool → List UInt8 → List Int → Int → Int → Option (As [.bool])) (b : Bool) (w : List UInt8) (xs : List Int) (m k : Int) : law13_LexKinds_m1 (law13_LexKinds_K2) g b w xs m k = if lt k m = true then (at? xs k).bind fun y => (cut ([97, 98, 122, 65, 90, 37, 48, 57, 95] : List UInt8) (rem (cvt .i64 y) 9) (add .i64 (rem (cvt .i64 y) 9) 1)).bind fun y => need (small (w.length + y.length)) (g b (w ++ y) xs m (add .i64 k 1)) else law13_LexKinds_K2 b w := rfl
theorem K1_true (P : Bool → List UInt8 → Prop) (b : Bool) (xs : List Int) (hx : ∀ x ∈ xs, 0 ≤ x ∧ x ≤ 255) (hxl : xs.length ≤ 40) (hK : ∀ w, Word w → law13_LexKinds_K2 b w = some (true, ())) :
    ∀ (k : Nat) (w : List UInt8) (n : Nat), Word w → w.length ≤ 50 + (xs.length - k) * 0 + k → k ≤ xs.length → xs.length - k < n →
      loopF (fun (self : (Bool) × (List UInt8) × (List Int) × (Int) × (Int) → Option (As [.bool])) (s : (Bool) × (List UInt8) × (List Int) × (Int) × (Int)) => law13_LexKinds_m1 (law13_LexKinds_K2) (fun blank word t19 t20 t21 => self (blank, word, t19, t20, t21)) s.1 s.2.1 s.2.2.1 s.2.2.2.1 s.2.2.2.2) n (b, w, xs, Int.ofNat xs.length, (k : Int)) = some (true, ())
  | k, w, 0, hw, hwl, hk, hn => by omega
  | k, w, n + 1, hw, hwl, hk, hn => by
    rw [loopF_succ, law13_LexKinds_step]
    by_cases hlt : k < xs.length
    · have e1 : lt (k : Int) (Int.ofNat xs.length) = true := by simp [lt]; omega
      have e2 : at? xs (k : Int) = some xs[k] := by simp [at?, hlt]
      obtain ⟨c, hc, hwm⟩ := cut_pick (hx xs[k] (List.getElem_mem hlt)).1 (hx xs[k] (List.getElem_mem hlt)).2
      have e3 : small (w.length + [c].length) = true := decide_eq_true (by simp; omega)
      have e4 : add .i64 (k : Int) 1 = ((k + 1 : Nat) : Int) := by unfold add; rw [w64 (by omega) (by omega)]; simp
      rw [if_pos e1, e2, Option.bind_some, hc, Option.bind_some, need, if_pos e3, e4]
      exact K1_true P b xs hx hxl hK (k + 1) (w ++ [c]) n (hw.snoc hwm (by omega)) (by simp; omega) (by omega) (by omega)
    · have e1 : lt (k : Int) (Int.ofNat xs.length) = false := by simp [lt]; omega
      rw [if_neg (by rw [e1]; decide)]
      exact hK w hw
theorem K2_true (b : Bool) {w : List UInt8} (hw : Word w) : law13_LexKinds_K2 b w = some (true, ()) := by
  have hlen := hw.len
  have hend : law13_LexKinds_K8 false = some (true, ()) := by
    unfold law13_LexKinds_K8 law13_LexKinds_m8
    rw [awake13]
    rfl
  have h7 : ∀ (t : List UInt8) (want : Int) (tk : TL) (e : Int × Int), lex_Lex (t, ()) = some (tk, e, ()) → (20 < t.length ∨ (e.1 = 0 ∧ (tk.length : Int) = want)) → law13_LexKinds_K7 t want = some (true, ()) := fun t want tk e h1 h2 => by
    unfold law13_LexKinds_K7 law13_LexKinds_m7
    rw [h1, Option.bind_some]
    by_cases hl : t.length ≤ 20
    · have e1 : le (Int.ofNat t.length) 20 = true := by simp [le]; omega
      rcases h2 with h2 | ⟨h2, h3⟩
      · omega
      · have e2 : nei e.1 0 = false := by simp [nei, h2]
        have e3 : nei (Int.ofNat tk.length) want = false := by simp [nei, ← h3]
        simp only [e1, e2, e3, if_true, Bool.false_eq_true, if_false]
        exact hend
    · have e1 : le (Int.ofNat t.length) 20 = false := by simp [le]; omega
      simp only [e1, Bool.false_eq_true, if_false]
      exact hend
  have h5 : law13_LexKinds_K5 b w = some (true, ()) := by
    have hq : quo .i64 (Int.ofNat w.length) 2 = ((w.length / 2 : Nat) : Int) := by
      unfold quo
      have : (Int.ofNat w.length).tdiv 2 = ((w.length / 2 : Nat) : Int) := by simp [Int.ofNat_tdiv]
      rw [this, w64 (by omega) (by omega)]
    have h6 : ∀ x, law13_LexKinds_K6 b w ((w.length / 2 : Nat) : Int) x = some (true, ()) ∨ x = true := fun x => by
      cases x
      · left
        unfold law13_LexKinds_K6 law13_LexKinds_m6
        rw [if_neg (by decide), awake13]
        rfl
      · exact .inr rfl
    have h6f : law13_LexKinds_K6 b w ((w.length / 2 : Nat) : Int) false = some (true, ()) := (h6 false).resolve_right (by decide)
    unfold law13_LexKinds_K5 law13_LexKinds_m5
    rw [hq]
    by_cases h0 : 0 < w.length / 2
    · have e1 : gt ((w.length / 2 : Nat) : Int) 0 = true := by simp [gt]; omega
      rw [if_pos e1]
      by_cases h20 : w.length ≤ 20
      · have e2 : le (Int.ofNat w.length) 20 = true := by simp [le]; omega
        rw [e2]
        obtain ⟨u, v, huv, hu⟩ : ∃ u v, w = u ++ v ∧ u.length = w.length / 2 := ⟨w.take (w.length / 2), w.drop (w.length / 2), by simp, by simp; omega⟩
        obtain ⟨c, q, hcq, hc⟩ := hw.first
        have huw : Word u := by
          refine ⟨fun x hx => hw.all x (by rw [huv]; exact List.mem_append_left _ hx), ?_, by omega⟩
          cases u with
          | nil => simp at hu; omega
          | cons a u' =>
            rw [huv] at hcq
            injection hcq with h1 h2
            exact ⟨a, u', rfl, by rw [h1]; exact hc⟩
        have hvl : v.length ≤ 19 := by have := congrArg List.length huv; simp at this; omega
        have hvm : ∀ x ∈ v, wm x.toNat = true := fun x hx => hw.all x (by rw [huv]; exact List.mem_append_right _ hx)
        have hvw : Word (120 :: v) := ⟨fun x hx => by
          rcases List.mem_cons.1 hx with hx | hx
          · subst hx; rfl
          · exact hvm x hx, ⟨120, v, rfl, rfl⟩, by simp; omega⟩
        unfold law13_LexKinds_K6 law13_LexKinds_m6
        rw [← hu, huv, if_pos rfl, cut_app0, Option.bind_some, cut_app1]
        have s1 : small (Nat.succ (Nat.succ u.length)) = true := decide_eq_true (by omega)
        have s2 : small ((u ++ [32, 120]).length + v.length) = true := decide_eq_true (by simp; omega)
        have s3 : small (Nat.succ u.length) = true := decide_eq_true (by omega)
        have s4 : small ((u ++ [120]).length + v.length) = true := decide_eq_true (by simp; omega)
        rw [need, if_pos s1, Option.bind_some, need, if_pos s2]
        cases b
        · simp only [Bool.not_false, if_true]
          simp only [Option.bind_some, need, s3, s4, if_true]
          have hcat : u ++ [120] ++ v = u ++ (120 :: v) := by simp
          rw [hcat]
          have hW : Word (u ++ 120 :: v) := by
            obtain ⟨c, q, hcq, hc⟩ := huw.first
            exact ⟨fun x hx => by
              rcases List.mem_append.1 hx with hx | hx
              · exact huw.all x hx
              · exact hvw.all x hx, ⟨c, q ++ 120 :: v, by rw [hcq]; rfl, hc⟩, by simp; omega⟩
          have hl1 := lex1 hW
          by_cases hlw : 20 < (u ++ 120 :: v).length
          · rw [if_pos hlw] at hl1
            exact h7 _ _ _ _ hl1 (.inl hlw)
          · rw [if_neg hlw] at hl1
            exact h7 _ _ _ _ hl1 (.inr ⟨rfl, rfl⟩)
        · simp only [Bool.not_true, Bool.false_eq_true, if_false]
          have hcat : u ++ [32, 120] ++ v = u ++ 32 :: (120 :: v) := by simp
          rw [hcat]
          exact h7 _ _ _ _ (lex2 huw hvw (by omega) (by simp; omega)) (.inr ⟨rfl, rfl⟩)
      · have e2 : le (Int.ofNat w.length) 20 = false := by simp [le]; omega
        rw [e2]
        exact h6f
    · have e1 : gt ((w.length / 2 : Nat) : Int) 0 = false := by simp [gt]; omega
      rw [if_neg (by rw [e1]; decide)]
      exact h6f
  have h3 : law13_LexKinds_K3 b w false = some (true, ()) := by
    unfold law13_LexKinds_K3 law13_LexKinds_m3
    exact h5
  have h4 : law13_LexKinds_K4 b w false = some (true, ()) := by
    unfold law13_LexKinds_K4 law13_LexKinds_m4
    exact h5
  unfold law13_LexKinds_K2 law13_LexKinds_m2
  by_cases h20 : 20 < w.length
  · have hl := lex1 hw
    rw [if_pos h20] at hl
    have e1 : gt (Int.ofNat w.length) 20 = true := by simp [gt]; omega
    rw [hl, Option.bind_some, if_pos e1]
    exact h3
  · have hl := lex1 hw
    rw [if_neg h20] at hl
    have e1 : gt (Int.ofNat w.length) 20 = false := by simp [gt]; omega
    rw [hl, Option.bind_some, if_neg (by rw [e1]; decide)]
    have e2 : nei 0 0 = false := rfl
    rw [if_neg (show ¬ nei 0 0 = true by decide), same1, Option.bind_some]
    exact h4
theorem kinds_law (xs : List Int) (b : Bool) (hx : ∀ x ∈ xs, 0 ≤ x ∧ x ≤ 255) : law13_LexKinds (xs, b, ()) = some (true, ()) := by
  show law13_LexKinds_m0 law13_LexKinds_K1 xs b = _
  unfold law13_LexKinds_m0
  have hw : Word [119] := ⟨fun x hx => by simp at hx; subst hx; rfl, ⟨119, [], rfl, rfl⟩, by decide⟩
  have key : ∀ ys : List Int, (∀ x ∈ ys, 0 ≤ x ∧ x ≤ 255) → ys.length ≤ 40 → law13_LexKinds_K1 b [119] ys (Int.ofNat ys.length) 0 = some (true, ()) := fun ys hy hl =>
    K1_true (fun _ _ => True) b ys hy hl (fun w hw => K2_true b hw) 0 [119] 18446744073709551616 hw (by simp) (Nat.zero_le _) (by omega)
  have hc : ∃ ys, cut xs 0 (if lt 40 (Int.ofNat xs.length) = true then 40 else Int.ofNat xs.length) = some ys ∧ ys.length ≤ 40 ∧ ∀ x ∈ ys, x ∈ xs := by
    by_cases h : 40 < xs.length
    · have e : lt 40 (Int.ofNat xs.length) = true := by simp [lt]; omega
      rw [if_pos e]
      refine ⟨xs.take 40, ?_, by simp; omega, fun x hx => List.mem_of_mem_take hx⟩
      unfold cut
      rw [if_pos ⟨by decide, by decide, by omega⟩]
      rfl
    · have e : lt 40 (Int.ofNat xs.length) = false := by simp [lt]; omega
      rw [if_neg (by rw [e]; decide)]
      refine ⟨xs, ?_, by omega, fun x hx => hx⟩
      unfold cut
      rw [if_pos ⟨by decide, by simp, by simp⟩]
      simp
  obtain ⟨ys, h1, h2, h3⟩ := hc
  rw [h1, Option.bind_some]
  exact key ys (fun x hx' => hx x (h3 x hx')) h2
end Go.Proofs.Lx

end

section
/- Texts: the program's way by lines, and the document's by bytes. -/
namespace Go.Proofs.Lx
open Go Ev Sx Pl
set_option maxRecDepth 10000
def lfirst (s : List UInt8) : List UInt8 := s.takeWhile (· != 10)
def lrest (s : List UInt8) : List UInt8 := (s.dropWhile (· != 10)).drop 1
theorem lrest_len {s : List UInt8} (h : s ≠ []) : (lrest s).length < s.length := by
  have h3 := (List.dropWhile_suffix (l := s) (· != 10)).length_le
  have hp := List.length_pos_iff.2 h
  unfold lrest
  simp
  omega
/-- by lines -/
def lexS (n : Int) (s : List UInt8) (l : TL) : TL × (Int × Int) :=
  if h : s = [] then (l, (0, 0)) else if (lineT n (uncom (lfirst s)) []).2 ≠ 0 then ([], ((lineT n (uncom (lfirst s)) []).2, n)) else lexS (n + 1) (lrest s) (l ++ (lineT n (uncom (lfirst s)) []).1)
termination_by s.length
decreasing_by exact lrest_len h
def tkEnd (n : Int) : Tk1 := (4, [], (0, 0), n)
/-- by bytes -/
def refS (n : Int) (s : List UInt8) (sm : Bool) (out : TL) : TL × (Int × Int) :=
  match hs : s with
  | [] => (if sm then out ++ [tkEnd n] else out, (0, 0))
  | c :: q => if c = 10 then refS (n + 1) q false (if sm then out ++ [tkEnd n] else out)
    else if c = 35 then refS n (q.dropWhile (· != 10)) sm out
    else if isB c.toNat = true then refS n q sm out
    else match h : tokS n c q with
      | .inl e => ([], (e, n))
      | .inr (t, r) => refS n r true (out ++ [t])
termination_by s.length
decreasing_by
  · simp
  · have := (List.dropWhile_suffix (l := q) (· != 10)).length_le
    simp; omega
  · simp
  · have := tokS_len h
    simp; omega
theorem refS_nil {n : Int} {sm : Bool} {out : TL} : refS n [] sm out = (if sm then out ++ [tkEnd n] else out, (0, 0)) := by rw [refS]
theorem refS_nl {n : Int} {q : List UInt8} {sm : Bool} {out : TL} : refS n (10 :: q) sm out = refS (n + 1) q false (if sm then out ++ [tkEnd n] else out) := by rw [refS]; simp
theorem refS_com {n : Int} {q : List UInt8} {sm : Bool} {out : TL} : refS n (35 :: q) sm out = refS n (q.dropWhile (· != 10)) sm out := by rw [refS]; simp
theorem refS_bl {n : Int} {c : UInt8} {q : List UInt8} {sm : Bool} {out : TL} (h : isB c.toNat = true) : refS n (c :: q) sm out = refS n q sm out := by
  have h1 : c ≠ 10 := fun e => by subst e; cases h
  have h2 : c ≠ 35 := fun e => by subst e; cases h
  rw [refS, if_neg h1, if_neg h2, if_pos h]
theorem refS_tok {n : Int} {c : UInt8} {q : List UInt8} {sm : Bool} {out : TL} (h1 : c ≠ 10) (h2 : c ≠ 35) (h3 : isB c.toNat = false) : refS n (c :: q) sm out = match tokS n c q with
      | .inl e => ([], (e, n))
      | .inr (t, r) => refS n r true (out ++ [t]) := by
  rw [refS, if_neg h1, if_neg h2, if_neg (by rw [h3]; decide)]
  split
  · rename_i h; rw [h]
  · rename_i h; rw [h]
theorem tokS_err {a : Int} {c : UInt8} {q : List UInt8} {e : Int} (h : tokS a c q = .inl e) : e ≠ 0 := by
  unfold tokS at h
  split at h
  · split at h
    · cases h; decide
    · cases h
  · split at h
    · split at h
      · cases h
      · cases h; decide
    · split at h
      · cases h
      · cases h; decide
theorem uncom_cons {c : UInt8} (h : c ≠ 35) (u : List UInt8) : uncom (c :: u) = c :: uncom u := by simp [uncom, h]
/-- a token does not see a comment, nor another line -/
theorem tw_far {p : UInt8 → Bool} (h35 : p 35 = false) (h10 : p 10 = false) {tail : List UInt8} (ht : ∀ c q, tail = c :: q → c = 10) : ∀ u : List UInt8,
    (u ++ tail).takeWhile p = (uncom u).takeWhile p ∧ (u ++ tail).dropWhile p = u.dropWhile p ++ tail ∧ uncom (u.dropWhile p) = (uncom u).dropWhile p
  | [] => by
    cases tail with
    | nil => exact ⟨rfl, rfl, rfl⟩
    | cons c q => obtain rfl := ht c q rfl; simp [h10, uncom]
  | c :: u => by
    obtain ⟨i1, i2, i3⟩ := tw_far h35 h10 ht u
    by_cases hc : c = 35
    · subst hc
      simp [h35, uncom]
    · rw [uncom_cons hc]
      cases hp : p c
      · simp [hp, uncom_cons hc]
      · simp [hp, i1, i2, i3]
theorem tokS_far {a : Int} {c : UInt8} {u tail : List UInt8} (ht : ∀ c q, tail = c :: q → c = 10) :
    (∃ e, tokS a c (u ++ tail) = .inl e ∧ tokS a c (uncom u) = .inl e) ∨ ∃ t r, tokS a c (u ++ tail) = .inr (t, r ++ tail) ∧ tokS a c (uncom u) = .inr (t, uncom r) ∧ r.length ≤ u.length := by
  have hw := tw_far (p := fun c => wm c.toNat) rfl rfl ht u
  have hn := tw_far (p := fun c => nm c.toNat) rfl rfl ht u
  have hd : ∀ p : UInt8 → Bool, (u.dropWhile p).length ≤ u.length := fun p => (List.dropWhile_suffix p).length_le
  unfold tokS
  rw [hw.1, hn.1, hw.2.1, hn.2.1, ← hw.2.2, ← hn.2.2]
  split
  · split
    · exact .inl ⟨_, rfl, rfl⟩
    · exact .inr ⟨_, _, rfl, rfl, hd _⟩
  · split
    · split
      · exact .inr ⟨_, _, rfl, rfl, hd _⟩
      · exact .inl ⟨_, rfl, rfl⟩
    · split
      · exact .inr ⟨_, _, rfl, rfl, Nat.le_refl _⟩
      · exact .inl ⟨_, rfl, rfl⟩
theorem lineT_bl {a : Int} {c : UInt8} {s : List UInt8} {l : TL} (h : isB c.toNat = true) : lineT a (c :: s) l = lineT a s l := by
  have e : (c :: s).dropWhile (fun c => isB c.toNat) = s.dropWhile (fun c => isB c.toNat) := by simp [h]
  cases hd : s.dropWhile (fun c => isB c.toNat) with
  | nil => rw [lineT_nil (e.trans hd), lineT_nil hd]
  | cons x q =>
    cases ht : tokS a x q with
    | inl er => rw [lineT_err (e.trans hd) ht, lineT_err hd ht]
    | inr p => obtain ⟨t, r⟩ := p; rw [lineT_tok (e.trans hd) ht, lineT_tok hd ht]
theorem not_blank_head {c : UInt8} {s : List UInt8} (h : isB c.toNat = false) : (c :: s).dropWhile (fun c => isB c.toNat) = c :: s := by simp [h]
/-- one line, by bytes -/
theorem refS_line (n : Int) (L : TL) {tail : List UInt8} (ht : ∀ c q, tail = c :: q → c = 10) : ∀ (k : Nat) (u : List UInt8) (l : TL), u.length ≤ k → 10 ∉ u →
    refS n (u ++ tail) (decide (l ≠ [])) (L ++ l) = if (lineT n (uncom u) l).2 ≠ 0 then ([], ((lineT n (uncom u) l).2, n)) else (match tail with
      | [] => (L ++ (lineT n (uncom u) l).1, (0, 0))
      | _ :: rest => refS (n + 1) rest false (L ++ (lineT n (uncom u) l).1)) := by
  have atEnd : ∀ (l : TL), refS n tail (decide (l ≠ [])) (L ++ l) = if (lineT n [] l).2 ≠ 0 then ([], ((lineT n [] l).2, n)) else (match tail with
      | [] => (L ++ (lineT n [] l).1, (0, 0))
      | _ :: rest => refS (n + 1) rest false (L ++ (lineT n [] l).1)) := fun l => by
    have e : lineT n [] l = (if l = [] then [] else l ++ [tkEnd n], 0) := lineT_nil rfl
    rw [e, if_neg (by simp)]
    have e2 : (if decide (l ≠ []) = true then L ++ l ++ [tkEnd n] else L ++ l) = L ++ (if l = [] then [] else l ++ [tkEnd n]) := by
      by_cases hl : l = []
      · simp [hl]
      · simp [hl]
    cases tail with
    | nil => rw [refS_nil, e2]
    | cons c q =>
      obtain rfl := ht c q rfl
      rw [refS_nl, e2]
  intro k
  induction k with
  | zero =>
    intro u l hu h10
    have : u = [] := List.eq_nil_of_length_eq_zero (by omega)
    subst this
    exact atEnd l
  | succ k ih =>
    intro u l hu h10
    cases u with
    | nil => exact atEnd l
    | cons c u =>
      have hc10 : c ≠ 10 := fun e => h10 (by simp [e])
      have h10' : (10 : UInt8) ∉ u := fun h => h10 (List.mem_cons_of_mem _ h)
      simp at hu
      by_cases hc : c = 35
      · subst hc
        have e1 : uncom (35 :: u) = [] := by simp [uncom]
        have e2 : (u ++ tail).dropWhile (· != 10) = tail := by
          cases tail with
          | nil => rw [List.append_nil]; exact (tw_no h10').2.1
          | cons x q => obtain rfl := ht x q rfl; exact (tw_yes h10').2.1
        rw [List.cons_append, refS_com, e2, e1]
        exact atEnd l
      · rw [uncom_cons hc, List.cons_append]
        cases hb : isB c.toNat
        · rw [refS_tok hc10 hc hb]
          rcases tokS_far (a := n) (c := c) (u := u) ht with ⟨e, h1, h2⟩ | ⟨t, r, h1, h2, h3⟩
          · rw [h1, lineT_err (not_blank_head hb) h2, if_pos (tokS_err h2)]
          · rw [h1, lineT_tok (not_blank_head hb) h2]
            have hr10 : (10 : UInt8) ∉ r := fun hm => h10' (by
              have : ∃ p, u = p ++ r := by
                unfold tokS at h1
                have hs : ∀ p : UInt8 → Bool, p 10 = false → p 35 = false → (u ++ tail).dropWhile p = r ++ tail → ∃ q, u = q ++ r := fun p hp1 hp2 he => by
                  rw [(tw_far hp2 hp1 ht u).2.1] at he
                  have := List.append_cancel_right he
                  exact ⟨u.takeWhile p, by rw [← this]; exact (List.takeWhile_append_dropWhile).symm⟩
                split at h1
                · split at h1
                  · cases h1
                  · injection h1 with h1; injection h1 with _ h1; exact hs _ rfl rfl h1
                · split at h1
                  · split at h1
                    · injection h1 with h1; injection h1 with _ h1; exact hs _ rfl rfl h1
                    · cases h1
                  · split at h1
                    · injection h1 with h1; injection h1 with _ h1
                      exact ⟨[], (List.append_cancel_right h1)⟩
                    · cases h1
              obtain ⟨p, hp⟩ := this
              rw [hp]
              exact List.mem_append_right _ hm)
            have := ih r (l ++ [t]) (by omega) hr10
            have e1 : decide (l ++ [t] ≠ []) = true := by simp
            rw [e1, ← List.append_assoc] at this
            exact this
        · rw [refS_bl hb, lineT_bl hb]
          exact ih u l (by omega) h10'
theorem refS_lexS : ∀ (k : Nat) (s : List UInt8) (n : Int) (l : TL), s.length ≤ k → refS n s false l = lexS n s l := by
  intro k
  induction k with
  | zero =>
    intro s n l hs
    have : s = [] := List.eq_nil_of_length_eq_zero (by omega)
    subst this
    rw [refS_nil, lexS, dif_pos rfl]
    rfl
  | succ k ih =>
    intro s n l hs
    by_cases hne : s = []
    · subst hne
      rw [refS_nil, lexS, dif_pos rfl]
      rfl
    · rw [lexS, dif_neg hne]
      have hlen := lrest_len hne
      rcases split_at 10 s with h10 | ⟨p, q, rfl, h10⟩
      · have e1 : lfirst s = s := (tw_no h10).1
        have e2 : lrest s = [] := by unfold lrest; rw [(tw_no h10).2.1]; rfl
        have := refS_line n l (tail := []) (fun c q h => by cases h) s.length s [] (Nat.le_refl _) h10
        simp only [List.append_nil, ne_eq, not_true, decide_false] at this
        rw [e1, e2, this]
        by_cases he : (lineT n (uncom s) []).2 = 0
        · rw [if_neg (by simpa using he), if_neg (by simpa using he), lexS, dif_pos rfl]
        · rw [if_pos he, if_pos he]
      · have e1 : lfirst (p ++ 10 :: q) = p := (tw_yes h10).1
        have e2 : lrest (p ++ 10 :: q) = q := by unfold lrest; rw [(tw_yes h10).2.1]; rfl
        have := refS_line n l (tail := 10 :: q) (fun c q h => by cases h; rfl) p.length p [] (Nat.le_refl _) h10
        simp only [List.append_nil, ne_eq, not_true, decide_false] at this
        rw [e1, e2, this]
        by_cases he : (lineT n (uncom p) []).2 = 0
        · rw [if_neg (by simpa using he), if_neg (by simpa using he)]
          rw [e2] at hlen
          exact ih q (n + 1) _ (by omega)
        · rw [if_pos he, if_pos he]
end Go.Proofs.Lx

end

section
/- The program's lexer, by lines. -/
namespace Go.Proofs.Lx
open Go Ev Sx Pl
set_option maxRecDepth 10000
theorem lineT_len (a : Int) : ∀ (k : Nat) (s : List UInt8) (l : TL), s.length ≤ k → (lineT a s l).1.length ≤ l.length + s.length + 1 := by
  intro k
  induction k with
  | zero =>
    intro s l hs
    have : s = [] := List.eq_nil_of_length_eq_zero (by omega)
    subst this
    rw [lineT_nil rfl]
    dsimp only
    split <;> simp
  | succ k ih =>
    intro s l hs
    have h3 := (List.dropWhile_suffix (l := s) (fun c => isB c.toNat)).length_le
    cases hd : s.dropWhile (fun c => isB c.toNat) with
    | nil =>
      rw [lineT_nil hd]
      dsimp only
      split
      · simp
      · simp
    | cons c q =>
      rw [hd] at h3
      simp at h3
      cases ht : tokS a c q with
      | inl e => rw [lineT_err hd ht]; simp
      | inr p =>
        obtain ⟨t, r⟩ := p
        rw [lineT_tok hd ht]
        have h4 := tokS_len ht
        have := ih r (l ++ [t]) (by omega)
        simp at this
        omega
theorem uncom_len (s : List UInt8) : (uncom s).length ≤ s.length := (List.takeWhile_prefix _).length_le
theorem lexS_step {n : Int} {s : List UInt8} {l : TL} (h : s ≠ []) : lexS n s l = if (lineT n (uncom (lfirst s)) []).2 ≠ 0 then ([], ((lineT n (uncom (lfirst s)) []).2, n)) else lexS (n + 1) (lrest s) (l ++ (lineT n (uncom (lfirst s)) []).1) := by
  rw [lexS, dif_neg h]
theorem lex_loop : ∀ (k : Nat) (st : List UInt8 × Int × Int × Int × TL), (st.1.length ≤ 20000 ∧ 0 ≤ st.2.1 ∧ st.2.1 + st.1.length ≤ 100000 ∧ st.2.2.1 = 0 ∧ st.2.2.2.1 = 0 ∧ st.2.2.2.2.length + 2 * st.1.length ≤ 100000) → st.1.length < k →
    loopF lexB k st = some ((lexS st.2.1 st.1 st.2.2.2.2).1, (lexS st.2.1 st.1 st.2.2.2.2).2, ()) := by
  refine loopF_eq (σ := List UInt8 × Int × Int × Int × TL) (μ := fun st => st.1.length) (G := fun st => some ((lexS st.2.1 st.1 st.2.2.2.2).1, (lexS st.2.1 st.1 st.2.2.2.2).2, ())) ?_
  rintro self ⟨s, n, x, y, l⟩ ⟨h1, h2, h3, rfl, rfl, h4⟩ ih
  simp only at h1 h2 h3 h4 ih ⊢
  show lex_Lex_m1 _ _ s n 0 0 l = _
  by_cases hne : s = []
  · subst hne
    rw [lexS, dif_pos rfl]
    rfl
  · have hlen := lrest_len hne
    have hpos := List.length_pos_iff.2 hne
    unfold lex_Lex_m1
    rw [if_pos (by rw [nes_iff]; exact hne), lexS_step hne]
    have hadd : add .i64 n 1 = n + 1 := add64 (by omega) (by omega)
    have go : ∀ (f r : List UInt8), lfirst s = f → lrest s = r → f.length ≤ s.length → f.length + r.length ≤ s.length → ((lex_line (f, n, ())).bind fun y => if nei y.2.1 0 = true then some ([], (y.2.1, n), ()) else need (small (l.length + y.1.length)) (self (r, add .i64 n 1, 0, 0, l ++ y.1))) =
        some ((if (lineT n (uncom (lfirst s)) []).2 ≠ 0 then (([] : TL), ((lineT n (uncom (lfirst s)) []).2, n)) else lexS (n + 1) (lrest s) (l ++ (lineT n (uncom (lfirst s)) []).1)).1, (if (lineT n (uncom (lfirst s)) []).2 ≠ 0 then (([] : TL), ((lineT n (uncom (lfirst s)) []).2, n)) else lexS (n + 1) (lrest s) (l ++ (lineT n (uncom (lfirst s)) []).1)).2, ()) := by
      intro f r ef er hf hfr
      rw [ef, er, line_eq f n (by omega), Option.bind_some]
      rw [er] at hlen
      have hb := lineT_len n _ (uncom f) [] (Nat.le_refl _)
      have hu := uncom_len f
      simp at hb
      by_cases he : (lineT n (uncom f) []).2 = 0
      · rw [if_neg (by rw [nei_iff]; simpa using he), if_neg (by simpa using he), need_small (by simp; omega), hadd]
        exact ih (r, n + 1, 0, 0, l ++ (lineT n (uncom f) []).1) ⟨by show r.length ≤ _; omega, by show 0 ≤ n + 1; omega, by show n + 1 + (r.length : Int) ≤ _; omega, rfl, rfl, by show (l ++ _).length + 2 * r.length ≤ _; simp; omega⟩ (by show r.length < _; omega)
      · rw [if_pos (by rw [nei_iff]; exact he), if_pos he]
    by_cases he : s = [10]
    · subst he
      rw [if_pos (by decide), show cut ([10] : List UInt8) 1 (Int.ofNat [(10 : UInt8)].length) = some [] from rfl, Option.bind_some]
      exact go [] [] rfl rfl (by simp) (by simp)
    · rw [if_neg (by rw [eqs_iff]; exact fun h => he h.symm)]
      rcases split_at 10 s with h10 | ⟨p, q, rfl, h10⟩
      · rw [index_no 10 s h10, if_neg (by decide)]
        exact go s [] (tw_no h10).1 (by unfold lrest; rw [(tw_no h10).2.1]; rfl) (Nat.le_refl _) (by simp)
      · simp at h1 h3 h4
        rw [index_yes 10 p q h10, if_pos (by rw [ge_iff]; omega), cut_app0, Option.bind_some, succ64 (by omega), cut_from (by simp), Option.bind_some]
        have : (p ++ 10 :: q).drop (p.length + 1) = q := by simp
        rw [this]
        exact go p q (tw_yes h10).1 (by unfold lrest; rw [(tw_yes h10).2.1]; rfl) (by simp) (by simp)
def lexR (s : List UInt8) : TL × (Int × Int) := if 8192 < s.length then ([], (130, 0)) else lexS 1 s []
theorem lex_eq (s : List UInt8) : lex_Lex (s, ()) = some ((lexR s).1, (lexR s).2, ()) := by
  show lex_Lex_m0 lex_Lex_K1 s = _
  unfold lex_Lex_m0 lexR
  by_cases h : 8192 < s.length
  · rw [if_pos (by rw [gt_iff, ofNat_eq]; omega), if_pos h]
  · rw [if_neg (by rw [gt_iff, ofNat_eq]; omega), if_neg h]
    exact lex_loop 18446744073709551616 (s, 1, 0, 0, []) ⟨by show s.length ≤ _; omega, by show (0 : Int) ≤ 1; decide, by show (1 : Int) + s.length ≤ _; omega, rfl, rfl, by show ([] : TL).length + 2 * s.length ≤ _; simp; omega⟩ (by show s.length < _; omega)
/-! ### the document's -/
abbrev RefSt := List UInt8 × Int × Bool × Int × Int × Int × TL
abbrev RLx := As [.sl (.pr (.int .u8) (.pr .str (.pr (.pr (.int .i64) (.int .u8)) (.int .i64)))), .pr (.int .i64) (.int .i64)]
abbrev U1 := List UInt8 → Int → Bool → Int → Int → Int → TL → Option RLx
abbrev refLB (self : RefSt → Option RLx) (s : RefSt) : Option RLx := ref13_Lex_m1 (ref13_Lex_K2 (fun text line some' i t3 t3_2 out => self (text, line, some', i, t3, t3_2, out))) (ref13_Lex_K3) (fun text line some' i t3 t3_2 out => self (text, line, some', i, t3, t3_2, out)) s.1 s.2.1 s.2.2.1 s.2.2.2.1 s.2.2.2.2.1 s.2.2.2.2.2.1 s.2.2.2.2.2.2
/-- the rest of a comment -/
theorem ref_com (u1 : U1) (text : List UInt8) (line : Int) (sm : Bool) (out : TL) (hl : text.length < 1000000) : ∀ (k : Nat) (st : List UInt8 × Int × Bool × Int × Int × Int × TL),
    (∃ i : Nat, st = (text, line, sm, (i : Int), 0, 0, out) ∧ i < text.length) → text.length - st.2.2.2.1.toNat < k →
    loopF (fun (self : RefSt → Option RLx) (s : RefSt) => ref13_Lex_m5 (ref13_Lex_K8 u1 (fun text line some' i t3 t3_2 out => self (text, line, some', i, t3, t3_2, out))) u1 (fun text line some' i t3 t3_2 out => self (text, line, some', i, t3, t3_2, out)) s.1 s.2.1 s.2.2.1 s.2.2.2.1 s.2.2.2.2.1 s.2.2.2.2.2.1 s.2.2.2.2.2.2) k st =
      u1 text line sm ((text.length - ((text.drop (st.2.2.2.1.toNat + 1)).dropWhile (· != 10)).length : Nat) : Int) 0 0 out := by
  refine loopF_eq (σ := RefSt) (μ := fun st => text.length - st.2.2.2.1.toNat) (G := fun st => u1 text line sm ((text.length - ((text.drop (st.2.2.2.1.toNat + 1)).dropWhile (· != 10)).length : Nat) : Int) 0 0 out) ?_
  rintro self st ⟨i, rfl, hi⟩ ih
  simp only [Int.toNat_natCast] at ih ⊢
  unfold ref13_Lex_m5
  have h1 : add .i64 (i : Int) 1 = ((i + 1 : Nat) : Int) := succ64 (by omega)
  rw [h1]
  have stop : ref13_Lex_K8 u1 (fun text line some' i t3 t3_2 out => self (text, line, some', i, t3, t3_2, out)) text line sm (i : Int) false 0 0 out = u1 text line sm ((i + 1 : Nat) : Int) 0 0 out := by
    unfold ref13_Lex_K8 ref13_Lex_m8 ref13_Lex_K7 ref13_Lex_m7
    rw [if_neg (by decide), h1]
  cases hd : text.drop (i + 1) with
  | nil =>
    have := drop_nil hd
    rw [if_neg (by rw [lt_iff, ofNat_eq]; omega), stop]
    have e : i + 1 = text.length := by omega
    simp [e]
  | cons c r =>
    obtain ⟨d1, d2, d3⟩ := drop_succ hd
    rw [if_pos (by rw [lt_iff, ofNat_eq]; omega), at_drop hd, Option.bind_some]
    by_cases hc : c = 10
    · have e : nei (Int.ofNat c.toNat) 10 = false := by subst hc; rfl
      rw [e, stop]
      have : ((c :: r).dropWhile (· != 10)) = c :: r := by simp [hc]
      rw [this]
      have e3 : text.length - (c :: r).length = i + 1 := by simp; omega
      rw [e3]
    · have e : nei (Int.ofNat c.toNat) 10 = true := by
        rw [nei_iff]
        intro h
        exact hc ((eqi_byte 10).1 (eqi_iff.2 h))
      rw [e]
      unfold ref13_Lex_K8 ref13_Lex_m8
      rw [if_pos rfl, h1]
      have := ih (text, line, sm, ((i + 1 : Nat) : Int), 0, 0, out) ⟨i + 1, rfl, by omega⟩ (by simp; omega)
      refine this.trans ?_
      have e2 : ((c :: r).dropWhile (· != 10)) = r.dropWhile (· != 10) := by simp [hc]
      simp only [Int.toNat_natCast]
      rw [d1, e2]
theorem letter_eq (c : UInt8) : ref13_letter (Int.ofNat c.toNat, ()) = some (w1 c.toNat, ()) := tab (f := ref13_letter) (g := w1) (by kernel_rfl) c
theorem digit_eq (c : UInt8) : ref13_digit (Int.ofNat c.toNat, ()) = some (isD c.toNat, ()) := tab (f := ref13_digit) (g := isD) (by kernel_rfl) c
theorem goes1_eq (c : UInt8) : ref13_goes (1, Int.ofNat c.toNat, ()) = some (wm c.toNat, ()) := tab (f := fun x => ref13_goes (1, x.1, ())) (g := wm) (by kernel_rfl) c
theorem goes2_eq (c : UInt8) : ref13_goes (2, Int.ofNat c.toNat, ()) = some (nm c.toNat, ()) := tab (f := fun x => ref13_goes (2, x.1, ())) (g := nm) (by kernel_rfl) c
/-- the rest of a token -/
abbrev TokSt := List UInt8 × Int × Int × Int × Int × TL × Int × List UInt8 × Int × Int × Int
theorem ref_more (u1 : U1) (text : List UInt8) (line : Int) (out : TL) (k : Int) (hk : k = 1 ∨ k = 2 ∨ k = 3) (hl : text.length < 1000000) (n : Int) : ∀ (m : Nat) (st : TokSt),
    (∃ (i : Nat) (t : List UInt8), st = (text, line, (i : Int), 0, 0, out, k, t, 0, 0, n) ∧ i < text.length ∧ t.length + text.length ≤ 2000000 + i) → text.length - st.2.2.1.toNat < m →
    loopF (fun (self : TokSt → Option RLx) (s : TokSt) => ref13_Lex_m12 (ref13_Lex_K13 u1 (fun text line i t3 t3_2 out t t_2 t_3 t_4 t_5 => self (text, line, i, t3, t3_2, out, t, t_2, t_3, t_4, t_5))) u1 (fun text line i t3 t3_2 out t t_2 t_3 t_4 t_5 => self (text, line, i, t3, t3_2, out, t, t_2, t_3, t_4, t_5)) s.1 s.2.1 s.2.2.1 s.2.2.2.1 s.2.2.2.2.1 s.2.2.2.2.2.1 s.2.2.2.2.2.2.1 s.2.2.2.2.2.2.2.1 s.2.2.2.2.2.2.2.2.1 s.2.2.2.2.2.2.2.2.2.1 s.2.2.2.2.2.2.2.2.2.2) m st =
      ref13_Lex_K14 u1 text line ((st.2.2.1.toNat + ((text.drop (st.2.2.1.toNat + 1)).takeWhile (fun c => moreK k c.toNat)).length : Nat) : Int) 0 0 out k (st.2.2.2.2.2.2.2.1 ++ (text.drop (st.2.2.1.toNat + 1)).takeWhile (fun c => moreK k c.toNat)) 0 0 n := by
  refine loopF_eq (σ := TokSt) (μ := fun st => text.length - st.2.2.1.toNat) (G := fun st => ref13_Lex_K14 u1 text line ((st.2.2.1.toNat + ((text.drop (st.2.2.1.toNat + 1)).takeWhile (fun c => moreK k c.toNat)).length : Nat) : Int) 0 0 out k (st.2.2.2.2.2.2.2.1 ++ (text.drop (st.2.2.1.toNat + 1)).takeWhile (fun c => moreK k c.toNat)) 0 0 n) ?_
  rintro self st ⟨i, t, rfl, hi, ht⟩ ih
  simp only [Int.toNat_natCast] at ih ⊢
  unfold ref13_Lex_m12
  have h1 : add .i64 (i : Int) 1 = ((i + 1 : Nat) : Int) := succ64 (by omega)
  have h2 : add .i64 ((i + 1 : Nat) : Int) 1 = ((i + 2 : Nat) : Int) := succ64 (by omega)
  rw [h1]
  have stop : (text.drop (i + 1)).takeWhile (fun c => moreK k c.toNat) = [] → ref13_Lex_K13 u1 (fun text line i t3 t3_2 out t t_2 t_3 t_4 t_5 => self (text, line, i, t3, t3_2, out, t, t_2, t_3, t_4, t_5)) text line (i : Int) false 0 0 out k t 0 0 n = ref13_Lex_K14 u1 text line ((i + ((text.drop (i + 1)).takeWhile (fun c => moreK k c.toNat)).length : Nat) : Int) 0 0 out k (t ++ (text.drop (i + 1)).takeWhile (fun c => moreK k c.toNat)) 0 0 n := fun h => by
    unfold ref13_Lex_K13 ref13_Lex_m13
    rw [if_neg (by decide), h]
    simp
  by_cases h3 : k = 3
  · subst h3
    rw [if_neg (by decide)]
    apply stop
    cases text.drop (i + 1) with
    | nil => rfl
    | cons c r => rfl
  · rw [if_pos (by rw [nei_iff]; exact h3)]
    cases hd : text.drop (i + 1) with
    | nil =>
      have := drop_nil hd
      rw [if_neg (by rw [lt_iff, ofNat_eq]; omega)]
      rw [hd] at stop
      exact stop rfl
    | cons c r =>
      obtain ⟨d1, d2, d3⟩ := drop_succ hd
      rw [if_pos (by rw [lt_iff, ofNat_eq]; omega), at_drop hd, Option.bind_some]
      have hg : ref13_goes (k, Int.ofNat c.toNat, ()) = some (moreK k c.toNat, ()) := by
        rcases hk with rfl | rfl | rfl
        · exact goes1_eq c
        · exact goes2_eq c
        · exact absurd rfl h3
      rw [hg, Option.bind_some]
      cases hm : moreK k c.toNat
      · rw [hd] at stop
        exact stop (by simp [hm])
      · unfold ref13_Lex_K13 ref13_Lex_m13
        rw [if_pos rfl, h1, h2, cut_nat (by omega) (by omega)]
        have hcut : (text.take (i + 2)).drop (i + 1) = [c] := by
          rw [List.drop_take, hd]
          have : i + 2 - (i + 1) = 1 := by omega
          rw [this]
          rfl
        rw [hcut, Option.bind_some, need_small (by simp; omega)]
        have := ih (text, line, ((i + 1 : Nat) : Int), 0, 0, out, k, t ++ [c], 0, 0, n) ⟨i + 1, t ++ [c], rfl, by omega, by simp; omega⟩ (by simp; omega)
        refine this.trans ?_
        simp only [Int.toNat_natCast]
        rw [d1]
        simp only [List.takeWhile_cons, hm, if_true, List.length_cons, List.append_assoc, List.singleton_append]
        have : i + 1 + (r.takeWhile (fun c => moreK k c.toNat)).length = i + ((r.takeWhile (fun c => moreK k c.toNat)).length + 1) := by omega
        rw [this]
theorem drop_takeWhile (p : UInt8 → Bool) : ∀ q : List UInt8, q.drop (q.takeWhile p).length = q.dropWhile p
  | [] => rfl
  | c :: q => by
    cases h : p c
    · simp [h]
    · simp [h, drop_takeWhile p q]
/-- where a token ends -/
theorem drop_tw {text : List UInt8} {i : Nat} {c : UInt8} {q : List UInt8} (h : text.drop i = c :: q) (p : UInt8 → Bool) : text.drop (i + (q.takeWhile p).length + 1) = q.dropWhile p := by
  have h1 := (drop_succ h).1
  have : i + (q.takeWhile p).length + 1 = i + 1 + (q.takeWhile p).length := by omega
  rw [this, ← List.drop_drop, h1, drop_takeWhile]
def refG (text : List UInt8) (i : Nat) (n : Int) (sm : Bool) (out : TL) : TL × (Int × Int) := if text.length < i then (out, (0, 0)) else refS n (text.drop i) sm out
def pkR (x : TL × (Int × Int)) : Option RLx := some (x.1, x.2, ())
theorem isB_iff (c : UInt8) : isB c.toNat = true ↔ c = 9 ∨ c = 13 ∨ c = 32 := by
  have := all8 (p := fun n => isB n == (n == 9 || n == 13 || n == 32)) (by kernel_rfl) c
  rw [eq_of_beq this]
  simp only [Bool.or_eq_true, beq_iff_eq]
  constructor
  · rintro ((h | h) | h)
    · exact .inl (UInt8.toNat_inj.1 h)
    · exact .inr (.inl (UInt8.toNat_inj.1 h))
    · exact .inr (.inr (UInt8.toNat_inj.1 h))
  · rintro (rfl | rfl | rfl)
    · exact .inl (.inl rfl)
    · exact .inl (.inr rfl)
    · exact .inr rfl
theorem n1_iff (c : UInt8) : n1 c.toNat = (isD c.toNat || decide (c = 45)) := by
  have e : decide (c = 45) = (c.toNat == 45) := by
    rw [Bool.eq_iff_iff, decide_eq_true_iff, beq_iff_eq]
    exact ⟨fun h => by rw [h]; rfl, fun h => UInt8.toNat_inj.1 h⟩
  rw [e]
  rfl
theorem e1_iff (c : UInt8) : e1 c.toNat = decide (c = 61) := by
  have e : decide (c = 61) = (c.toNat == 61) := by
    rw [Bool.eq_iff_iff, decide_eq_true_iff, beq_iff_eq]
    exact ⟨fun h => by rw [h]; rfl, fun h => UInt8.toNat_inj.1 h⟩
  rw [e]
  rfl
theorem ref_main (text : List UInt8) (hl : text.length < 100000) : ∀ (k : Nat) (st : RefSt),
    (∃ (i : Nat) (n : Int) (sm : Bool) (out : TL), st = (text, n, sm, (i : Int), 0, 0, out) ∧ i ≤ text.length + 1 ∧ 0 ≤ n ∧ n ≤ i + 1 ∧ out.length ≤ 2 * i) → text.length + 1 - st.2.2.2.1.toNat < k →
      loopF refLB k st = pkR (refG text st.2.2.2.1.toNat st.2.1 st.2.2.1 st.2.2.2.2.2.2) := by
  refine loopF_eq (σ := RefSt) (μ := fun st => text.length + 1 - st.2.2.2.1.toNat) (G := fun st => pkR (refG text st.2.2.2.1.toNat st.2.1 st.2.2.1 st.2.2.2.2.2.2)) ?_
  rintro self st ⟨i, n, sm, out, rfl, hi, hn0, hn1, ho⟩ ih
  simp only [Int.toNat_natCast] at ih ⊢
  show ref13_Lex_m1 _ _ _ text n sm (i : Int) 0 0 out = _
  have next : ∀ (j : Nat) (n' : Int) (sm' : Bool) (out' : TL), i < j → j ≤ text.length + 1 → 0 ≤ n' → n' ≤ j + 1 → out'.length ≤ 2 * j → self (text, n', sm', (j : Int), 0, 0, out') = pkR (refG text j n' sm' out') := fun j n' sm' out' x1 x2 x3 x4 x5 => by
    have := ih (text, n', sm', (j : Int), 0, 0, out') ⟨j, n', sm', out', rfl, x2, x3, x4, x5⟩ (by simp; omega)
    simpa using this
  have hs : small (out.length + 1) = true := small_iff.2 (by omega)
  -- behind a line
  have nl : ∀ (j : Nat), j = i → j ≤ text.length → ref13_Lex_K2 (fun text line some' i t3 t3_2 out => self (text, line, some', i, t3, t3_2, out)) text n sm (j : Int) true 0 0 out = pkR (refG text (j + 1) (n + 1) false (if sm then out ++ [tkEnd n] else out)) := fun j hj hjl => by
    subst hj
    unfold ref13_Lex_K2 ref13_Lex_m2
    rw [if_pos rfl]
    have k4 : ∀ o : TL, o.length ≤ 2 * (j + 1) → ref13_Lex_K4 (fun text line some' i t3 t3_2 out => self (text, line, some', i, t3, t3_2, out)) text n (j : Int) 0 0 o = pkR (refG text (j + 1) (n + 1) false o) := fun o ho' => by
      unfold ref13_Lex_K4 ref13_Lex_m4 ref13_Lex_K7 ref13_Lex_m7
      rw [add64 (a := n) (by omega) (by omega), succ64 (by omega)]
      exact next (j + 1) (n + 1) false o (by omega) (by omega) (by omega) (by omega) ho'
    cases sm
    · exact k4 out (by omega)
    · rw [if_pos rfl, need_t hs]
      exact k4 (out ++ [tkEnd n]) (by simp; omega)
  unfold ref13_Lex_m1
  by_cases hlt : text.length < i
  · rw [if_neg (by rw [le_iff, ofNat_eq]; omega)]
    unfold refG
    rw [if_pos hlt]
    rfl
  · rw [if_pos (by rw [le_iff, ofNat_eq]; omega)]
    cases hd : text.drop i with
    | nil =>
      have := drop_nil hd
      have hie : i = text.length := by omega
      rw [if_pos (by rw [eqi_iff, ofNat_eq]; omega), nl i rfl (by omega)]
      have e1 : ∀ o, refG text (i + 1) (n + 1) false o = (o, (0, 0)) := fun o => by unfold refG; rw [if_pos (by omega)]
      have e2 : refG text i n sm out = refS n [] sm out := by unfold refG; rw [if_neg hlt, hd]
      rw [e1, e2, refS_nil]
    | cons c q =>
      obtain ⟨d1, d2, d3⟩ := drop_succ hd
      have hat := at_drop hd
      rw [if_neg (by rw [eqi_iff, ofNat_eq]; omega), hat, Option.bind_some]
      have hG : refG text i n sm out = refS n (c :: q) sm out := by unfold refG; rw [if_neg hlt, hd]
      rw [hG]
      have hG1 : ∀ n' sm' out', refG text (i + 1) n' sm' out' = refS n' q sm' out' := fun n' sm' out' => by unfold refG; rw [if_neg (by omega), d1]
      by_cases h10 : c = 10
      · rw [(eqi_byte 10).2 h10, nl i rfl (by omega), hG1, h10, refS_nl]
      · have e10 : eqi (Int.ofNat c.toNat) 10 = false := by
          cases h : eqi (Int.ofNat c.toNat) 10
          · rfl
          · exact absurd ((eqi_byte 10).1 h) h10
        rw [e10]
        unfold ref13_Lex_K2 ref13_Lex_m2
        rw [if_neg (by decide), hat, Option.bind_some]
        by_cases h35 : c = 35
        · rw [if_pos ((eqi_byte 35).2 h35), h35, refS_com]
          have hcom := ref_com (fun text line some' i t3 t3_2 out => self (text, line, some', i, t3, t3_2, out)) text n sm out (by omega) 18446744073709551616 (text, n, sm, (i : Int), 0, 0, out) ⟨i, rfl, d2⟩ (by simp; omega)
          refine Eq.trans hcom ?_
          simp only [Int.toNat_natCast]
          rw [d1]
          have hsl := (List.dropWhile_suffix (l := q) (· != 10)).length_le
          have hsuf : text.drop (text.length - (q.dropWhile (· != 10)).length) = q.dropWhile (· != 10) := by
            have h1 := (List.dropWhile_suffix (l := q) (· != 10))
            have h2 : (q.dropWhile (· != 10)) <:+ text := h1.trans (by rw [← d1]; exact List.drop_suffix _ _)
            exact (List.suffix_iff_eq_drop.1 h2).symm
          rw [next _ n sm out (by omega) (by omega) hn0 (by omega) (by omega)]
          unfold refG
          rw [if_neg (by omega), hsuf]
        · rw [if_neg (fun h => h35 ((eqi_byte 35).1 h))]
          unfold ref13_Lex_K6 ref13_Lex_m6
          -- blanks
          have blank : isB c.toNat = true → ref13_Lex_K9 (fun text line some' i t3 t3_2 out => self (text, line, some', i, t3, t3_2, out)) text n sm (i : Int) (Int.ofNat c.toNat) true 0 0 out = pkR (refS n (c :: q) sm out) := fun hb => by
            unfold ref13_Lex_K9 ref13_Lex_m9 ref13_Lex_K7 ref13_Lex_m7
            rw [if_pos rfl, succ64 (by omega)]
            refine (next (i + 1) n sm out (by omega) (by omega) hn0 (by omega) (by omega)).trans ?_
            rw [hG1, refS_bl hb]
          by_cases h9 : c = 9
          · rw [if_pos ((eqi_byte 9).2 h9)]
            exact blank ((isB_iff c).2 (.inl h9))
          · rw [if_neg (fun h => h9 ((eqi_byte 9).1 h))]
            by_cases h13 : c = 13
            · rw [if_pos ((eqi_byte 13).2 h13)]
              exact blank ((isB_iff c).2 (.inr (.inl h13)))
            · rw [if_neg (fun h => h13 ((eqi_byte 13).1 h))]
              by_cases h32 : c = 32
              · rw [(eqi_byte 32).2 h32]
                exact blank ((isB_iff c).2 (.inr (.inr h32)))
              · have e32 : eqi (Int.ofNat c.toNat) 32 = false := by
                  cases h : eqi (Int.ofNat c.toNat) 32
                  · rfl
                  · exact absurd ((eqi_byte 32).1 h) h32
                have hb : isB c.toNat = false := by
                  cases h : isB c.toNat
                  · rfl
                  · rcases (isB_iff c).1 h with h | h | h
                    · exact absurd h h9
                    · exact absurd h h13
                    · exact absurd h h32
                rw [e32, refS_tok h10 h35 hb]
                unfold ref13_Lex_K9 ref13_Lex_m9
                rw [if_neg (by decide), letter_eq, Option.bind_some]
                -- a token of a kind
                have K10 : ∀ k : Int, (k = 1 ∨ k = 2 ∨ k = 3) → ref13_Lex_K10 (fun text line some' i t3 t3_2 out => self (text, line, some', i, t3, t3_2, out)) text n (i : Int) 0 0 out k [] 0 0 n = ref13_Lex_K14 (fun text line some' i t3 t3_2 out => self (text, line, some', i, t3, t3_2, out)) text n ((i + (q.takeWhile (fun c => moreK k c.toNat)).length : Nat) : Int) 0 0 out k (c :: q.takeWhile (fun c => moreK k c.toNat)) 0 0 n := fun k hk => by
                  unfold ref13_Lex_K10 ref13_Lex_m10
                  rw [succ64 (by omega), cut_nat (by omega) (by omega)]
                  have hcut : (text.take (i + 1)).drop i = [c] := by
                    rw [List.drop_take, hd]
                    have : i + 1 - i = 1 := by omega
                    rw [this]
                    rfl
                  rw [hcut, Option.bind_some]
                  have := ref_more (fun text line some' i t3 t3_2 out => self (text, line, some', i, t3, t3_2, out)) text n out k hk (by omega) n 18446744073709551616 (text, n, (i : Int), 0, 0, out, k, [c], 0, 0, n) ⟨i, [c], rfl, d2, by simp; omega⟩ (by simp; omega)
                  refine Eq.trans this ?_
                  simp only [Int.toNat_natCast]
                  rw [d1]
                  rfl
                have K16 : ∀ (k : Int) (t : List UInt8) (x y : Int) (r : List UInt8) (j : Nat), j < text.length → i ≤ j → text.drop (j + 1) = r → ref13_Lex_K16 (fun text line some' i t3 t3_2 out => self (text, line, some', i, t3, t3_2, out)) text n (j : Int) 0 0 out k t x y n = pkR (refS n r true (out ++ [(k, t, (x, y), n)])) := fun k t x y r j hj hij hr => by
                  unfold ref13_Lex_K16 ref13_Lex_m16 ref13_Lex_K7 ref13_Lex_m7
                  rw [need_t hs, succ64 (by omega)]
                  refine (next (j + 1) n true _ (by omega) (by omega) hn0 (by omega) (by simp; omega)).trans ?_
                  unfold refG
                  rw [if_neg (by omega), hr]
                have htwl : ∀ p : UInt8 → Bool, (q.takeWhile p).length ≤ q.length := fun p => (List.takeWhile_prefix p).length_le
                cases hw : w1 c.toNat
                · rw [if_neg (by decide), digit_eq, Option.bind_some]
                  have num : n1 c.toNat = true → ref13_Lex_K11 (fun text line some' i t3 t3_2 out => self (text, line, some', i, t3, t3_2, out)) text n (i : Int) (Int.ofNat c.toNat) true 0 0 out 0 [] 0 0 n = pkR (match tokS n c q with
      | .inl e => ([], (e, n))
      | .inr (t, r) => refS n r true (out ++ [t])) := fun hn => by
                    unfold ref13_Lex_K11 ref13_Lex_m11
                    rw [if_pos rfl, K10 2 (.inr (.inl rfl))]
                    have hmk : (fun c : UInt8 => moreK 2 c.toNat) = fun c => nm c.toNat := rfl
                    rw [hmk]
                    unfold ref13_Lex_K14 ref13_Lex_m14 ref13_Lex_K15 ref13_Lex_m15 tokS
                    rw [if_neg (by decide), if_neg (by decide), if_pos (by decide), hw, hn]
                    have hlen : (c :: q.takeWhile (fun c => nm c.toNat)).length < 1000000 := by
                      have := htwl (fun c => nm c.toNat)
                      simp; omega
                    rw [refParse_eq hlen, Option.bind_some]
                    simp only [Bool.false_eq_true, if_false, if_true]
                    cases hp : (parseS (c :: q.takeWhile (fun c => nm c.toNat))).2
                    · rfl
                    · simp only [Bool.not_true, Bool.false_eq_true, if_false, if_true]
                      exact K16 2 _ _ _ _ (i + (q.takeWhile (fun c => nm c.toNat)).length) (by have := htwl (fun c => nm c.toNat); omega) (by omega) (drop_tw hd _)
                  have other : n1 c.toNat = false → ref13_Lex_K11 (fun text line some' i t3 t3_2 out => self (text, line, some', i, t3, t3_2, out)) text n (i : Int) (Int.ofNat c.toNat) false 0 0 out 0 [] 0 0 n = pkR (match tokS n c q with
      | .inl e => ([], (e, n))
      | .inr (t, r) => refS n r true (out ++ [t])) := fun hn => by
                    unfold ref13_Lex_K11 ref13_Lex_m11
                    rw [if_neg (by decide)]
                    unfold tokS
                    rw [hw, hn, e1_iff]
                    simp only [Bool.false_eq_true, if_false]
                    by_cases h61 : c = 61
                    · rw [if_pos ((eqi_byte 61).2 h61), if_pos (decide_eq_true h61), K10 3 (.inr (.inr rfl))]
                      have hmk : q.takeWhile (fun c : UInt8 => moreK 3 c.toNat) = [] := by
                        cases q with
                        | nil => rfl
                        | cons a b => rfl
                      rw [hmk]
                      unfold ref13_Lex_K14 ref13_Lex_m14 ref13_Lex_K15 ref13_Lex_m15
                      rw [if_neg (by decide), if_neg (by decide), if_neg (by decide)]
                      exact K16 3 [c] 0 0 q (i + 0) (by omega) (by omega) d1
                    · rw [if_neg (fun h => h61 ((eqi_byte 61).1 h)), if_neg (by simpa using h61)]
                      rfl
                  cases hD : isD c.toNat
                  · rw [if_neg (by decide)]
                    by_cases h45 : c = 45
                    · rw [(eqi_byte 45).2 h45]
                      exact num (by rw [n1_iff, hD, h45]; rfl)
                    · have : eqi (Int.ofNat c.toNat) 45 = false := by
                        cases h : eqi (Int.ofNat c.toNat) 45
                        · rfl
                        · exact absurd ((eqi_byte 45).1 h) h45
                      rw [this]
                      exact other (by rw [n1_iff, hD]; simp [h45])
                  · rw [if_pos rfl]
                    exact num (by rw [n1_iff, hD]; rfl)
                · rw [if_pos rfl, K10 1 (.inl rfl)]
                  have hmk : (fun c : UInt8 => moreK 1 c.toNat) = fun c => wm c.toNat := rfl
                  rw [hmk]
                  unfold ref13_Lex_K14 ref13_Lex_m14 tokS
                  rw [if_pos (by decide), hw]
                  simp only [if_true]
                  unfold ref13_Lex_K15 ref13_Lex_m15
                  by_cases h20 : 20 < (c :: q.takeWhile (fun c => wm c.toNat)).length
                  · rw [show gt (Int.ofNat (c :: q.takeWhile (fun c => wm c.toNat)).length) 20 = true by rw [gt_iff, ofNat_eq]; omega, if_pos rfl, if_pos h20]
                    rfl
                  · rw [show gt (Int.ofNat (c :: q.takeWhile (fun c => wm c.toNat)).length) 20 = false by simp only [gt, ofNat_eq, decide_eq_false_iff_not]; omega, if_neg (by decide), if_neg (by decide), if_neg h20]
                    exact K16 1 _ 0 0 _ (i + (q.takeWhile (fun c => wm c.toNat)).length) (by have := htwl (fun c => wm c.toNat); omega) (by omega) (drop_tw hd _)
theorem ref_eq (s : List UInt8) : ref13_Lex (s, ()) = some ((lexR s).1, (lexR s).2, ()) := by
  show ref13_Lex_m0 ref13_Lex_K1 s = _
  unfold ref13_Lex_m0 lexR
  by_cases h : 8192 < s.length
  · rw [if_pos (by rw [gt_iff, ofNat_eq]; omega), if_pos h]
  · rw [if_neg (by rw [gt_iff, ofNat_eq]; omega), if_neg h, ← refS_lexS s.length s 1 [] (Nat.le_refl _)]
    have := ref_main s (by omega) 18446744073709551616 (s, 1, false, ((0 : Nat) : Int), 0, 0, []) ⟨0, 1, false, [], rfl, by omega, by decide, by decide, by simp⟩ (by simp; omega)
    refine Eq.trans this ?_
    simp [refG, pkR]
end Go.Proofs.Lx

end

section
/- LexTells, as a plain law. -/
namespace Go.Proofs.Lx
open Go Ev Sx Pl
set_option maxRecDepth 10000
abbrev SmSt := TL × TL × Int × Int
theorem same_refl (l : TL) (hl : l.length < 1000000) : law13_same (l, l, ()) = some (true, ()) := by
  show (if nei (Int.ofNat l.length) (Int.ofNat l.length) = true then _ else _) = _
  rw [if_neg (by rw [nei_iff]; simp)]
  have key : ∀ (n : Nat) (st : SmSt), (∃ i : Nat, st = (l, l, Int.ofNat l.length, (i : Int)) ∧ i ≤ l.length) → l.length - st.2.2.2.toNat < n →
      loopF (fun (self : SmSt → Option (As [.bool])) (s : SmSt) => law13_same_m1 (fun a b t12 t13 => self (a, b, t12, t13)) s.1 s.2.1 s.2.2.1 s.2.2.2) n st = some (true, ()) := by
    refine loopF_eq (σ := SmSt) (μ := fun st => l.length - st.2.2.2.toNat) (G := fun _ => some (true, ())) ?_
    rintro self st ⟨i, rfl, hi⟩ ih
    simp only [Int.toNat_natCast] at ih ⊢
    unfold law13_same_m1
    by_cases h : i < l.length
    · rw [if_pos (by rw [lt_iff, ofNat_eq]; omega)]
      have hg : l[i]? = some l[i] := List.getElem?_eq_getElem h
      rw [at_get hg]
      simp only [Option.bind_some]
      have e : ∀ y : Tk1, (eqi y.1 y.1 && (eqs y.2.1 y.2.1 && (eqi y.2.2.1.1 y.2.2.1.1 && (eqi y.2.2.1.2 y.2.2.1.2 && true) && (eqi y.2.2.2 y.2.2.2 && true)))) = true := fun y => by simp [eqi, eqs]
      rw [e, if_neg (by decide), succ64 (by omega)]
      exact ih (l, l, Int.ofNat l.length, ((i + 1 : Nat) : Int)) ⟨i + 1, rfl, by omega⟩ (by simp; omega)
    · rw [if_neg (by rw [lt_iff, ofNat_eq]; omega)]
  exact key 18446744073709551616 (l, l, Int.ofNat l.length, 0) ⟨0, rfl, by omega⟩ (by simp; omega)
theorem lexS_len : ∀ (k : Nat) (s : List UInt8) (n : Int) (l : TL), s.length ≤ k → (lexS n s l).1.length ≤ l.length + 2 * s.length := by
  intro k
  induction k with
  | zero =>
    intro s n l hs
    have : s = [] := List.eq_nil_of_length_eq_zero (by omega)
    subst this
    rw [lexS, dif_pos rfl]
    simp
  | succ k ih =>
    intro s n l hs
    by_cases hne : s = []
    · subst hne
      rw [lexS, dif_pos rfl]
      simp
    · rw [lexS_step hne]
      have hlen := lrest_len hne
      split
      · simp
      · have h1 := lineT_len n _ (uncom (lfirst s)) [] (Nat.le_refl _)
        have h2 := uncom_len (lfirst s)
        have h3 := ih (lrest s) (n + 1) (l ++ (lineT n (uncom (lfirst s)) []).1) (by omega)
        have h4 : (lfirst s).length + (lrest s).length ≤ s.length ∧ (s ≠ [] → (lfirst s).length + 1 + 2 * (lrest s).length ≤ 2 * s.length) := by
          rcases split_at 10 s with h10 | ⟨p, q, rfl, h10⟩
          · have e1 : lfirst s = s := (tw_no h10).1
            have e2 : lrest s = [] := by unfold lrest; rw [(tw_no h10).2.1]; rfl
            rw [e1, e2]
            have := List.length_pos_iff.2 hne
            simp
            omega
          · have e1 : lfirst (p ++ 10 :: q) = p := (tw_yes h10).1
            have e2 : lrest (p ++ 10 :: q) = q := by unfold lrest; rw [(tw_yes h10).2.1]; rfl
            rw [e1, e2]
            simp
            omega
        have := h4.2 hne
        simp at h1 h3
        omega
theorem lexR_len (s : List UInt8) : (lexR s).1.length ≤ 2 * 8192 := by
  unfold lexR
  split
  · simp
  · have := lexS_len s.length s 1 [] (Nat.le_refl _)
    simp at this
    omega
theorem tells_law (s : List UInt8) : law13_LexTells (s, ()) = some (true, ()) := by
  show law13_LexTells_m0 s = _
  unfold law13_LexTells_m0
  have haw : law13_awake () = some (true, ()) := awake13
  split
  · rw [haw]; rfl
  · rw [lex_eq, ref_eq, Option.bind_some, Option.bind_some]
    have hb := lexR_len s
    have e : (eqi (lexR s).2.1 (lexR s).2.1 && (eqi (lexR s).2.2 (lexR s).2.2 && true)) = true := by simp [eqi]
    simp only [e, if_true]
    rw [same_refl _ (by omega), Option.bind_some, if_pos rfl, haw]
    rfl
theorem tells_row (x : As [.str]) (_ : Rw.okA [.str] x) : law13_LexTells x = some (true, ()) := tells_law x.1
end Go.Proofs.Lx

end

section
/- strings.Split at one byte; tokens of a line, one by one. -/
namespace Go.Proofs.Lx
open Go Ev Sx Pl
set_option maxRecDepth 10000
theorem index_eq {s : List UInt8} {c : UInt8} : strings_Index (s, [c], ()) = some (Go.Lib.indexByte s c, ()) := by
  show strings_Index_m0 s [c] = _
  unfold strings_Index_m0
  have h0 : eqi (Int.ofNat [c].length) 0 = false := rfl
  have h1 : eqi (Int.ofNat [c].length) 1 = true := rfl
  rw [if_neg (by rw [h0]; decide)]
  by_cases h : [c] = s
  · subst h
    rw [if_pos (by rw [eqs_iff])]
    unfold Go.Lib.indexByte
    simp
  · rw [if_neg (by rw [eqs_iff]; exact h), if_pos h1, at_zero, Option.bind_some]
    have : (UInt8.ofNat (Int.ofNat c.toNat).toNat) = c := by simp
    exact congrArg (fun x => some (Go.Lib.indexByte s x, ())) this
/-- lines -/
def linesS (s : List UInt8) : List (List UInt8) := if h : (10 : UInt8) ∈ s then lfirst s :: linesS (lrest s) else [s]
termination_by s.length
decreasing_by exact lrest_len (fun e => by subst e; cases h)
theorem linesS_no {s : List UInt8} (h : (10 : UInt8) ∉ s) : linesS s = [s] := by rw [linesS, dif_neg h]
theorem linesS_yes {p q : List UInt8} (h : (10 : UInt8) ∉ p) : linesS (p ++ 10 :: q) = p :: linesS q := by
  have e1 : lfirst (p ++ 10 :: q) = p := (tw_yes h).1
  have e2 : lrest (p ++ 10 :: q) = q := by unfold lrest; rw [(tw_yes h).2.1]; rfl
  rw [linesS, dif_pos (by simp), e1, e2]
theorem linesS_len : ∀ (k : Nat) (s : List UInt8), s.length ≤ k → (linesS s).length = s.count 10 + 1 := by
  intro k
  induction k with
  | zero =>
    intro s hs
    have : s = [] := List.eq_nil_of_length_eq_zero (by omega)
    subst this
    rw [linesS_no (by simp)]
    rfl
  | succ k ih =>
    intro s hs
    rcases split_at 10 s with h | ⟨p, q, rfl, h⟩
    · rw [linesS_no h, List.count_eq_zero_of_not_mem h]
      rfl
    · simp at hs
      rw [linesS_yes h, List.length_cons, ih q (by omega), List.count_append, List.count_eq_zero_of_not_mem h]
      simp
abbrev SpSt := List UInt8 × List UInt8 × Int × Int × Int × List (List UInt8)
theorem split_loop : ∀ (k : Nat) (st : SpSt), (∃ (s : List UInt8) (i : Nat) (a : List (List UInt8)), st = (s, [10], 0, ((i + s.count 10 : Nat) : Int), (i : Int), a) ∧ a.length = i + s.count 10 + 1 ∧ a.length < 1000000 ∧ s.length < 1000000) → st.1.length < k →
    loopF (fun (self : SpSt → Option (As [.sl .str])) (s : SpSt) => strings_genSplit_m2 strings_genSplit_K3 (fun s sep sepSave n i a => self (s, sep, sepSave, n, i, a)) s.1 s.2.1 s.2.2.1 s.2.2.2.1 s.2.2.2.2.1 s.2.2.2.2.2) k st = some (st.2.2.2.2.2.take st.2.2.2.2.1.toNat ++ linesS st.1, ()) := by
  refine loopF_eq (σ := SpSt) (μ := fun st => st.1.length) (G := fun st => some (st.2.2.2.2.2.take st.2.2.2.2.1.toNat ++ linesS st.1, ())) ?_
  rintro self st ⟨s, i, a, rfl, ha, hal, hsl⟩ ih
  simp only [Int.toNat_natCast] at ih ⊢
  unfold strings_genSplit_m2
  have atI : ∀ (b : List (List UInt8)), b.length = a.length → ∃ x, at? b (i : Int) = some x := fun b hb => ⟨b[i], at_get (List.getElem?_eq_getElem (by omega))⟩
  obtain ⟨x, hx⟩ := atI a rfl
  rcases split_at 10 s with h | ⟨p, q, rfl, h⟩
  · have hc : s.count 10 = 0 := List.count_eq_zero_of_not_mem h
    rw [if_neg (by rw [lt_iff]; omega), linesS_no h]
    unfold strings_genSplit_K3 strings_genSplit_m3
    rw [hx, Option.bind_some, Option.bind_some, succ64 (by omega), need_t (by rw [le_iff]; omega), need_t (by rw [le_iff, ofNat_eq, List.length_set]; omega)]
    have e1 : ((((i + 1 : Nat) : Int) - 0)).toNat = i + 1 := by omega
    rw [e1, Int.toNat_natCast, List.drop_zero]
    congr 2
    have hai : i < a.length := by omega
    apply List.ext_getElem?
    intro j
    rw [List.getElem?_take, List.getElem?_append]
    by_cases hj : j < i
    · rw [if_pos (by omega), if_pos (by simp; omega), List.getElem?_set_ne (by omega), List.getElem?_take_of_lt hj]
    · by_cases hji : j = i
      · subst hji
        rw [if_pos (by omega), if_neg (by simp; omega), List.getElem?_set_self hai]
        have : j - (a.take j).length = 0 := by simp; omega
        rw [this]
        rfl
      · rw [if_neg (by omega), if_neg (by simp; omega)]
        symm
        apply List.getElem?_eq_none
        simp
        omega
  · have hc : (p ++ 10 :: q).count 10 = q.count 10 + 1 := by rw [List.count_append, List.count_eq_zero_of_not_mem h]; simp
    simp at hsl
    rw [hc] at ha ⊢
    rw [if_pos (by rw [lt_iff]; omega), index_eq, Option.bind_some, index_yes 10 p q h, if_neg (by rw [lt_iff]; omega)]
    have e0 : add .i64 (p.length : Int) 0 = (p.length : Int) := by rw [add64 (by omega) (by omega)]; omega
    rw [e0, cut_app0, Option.bind_some, hx, Option.bind_some, Option.bind_some]
    have e1 : add .i64 (p.length : Int) (Int.ofNat ([10] : List UInt8).length) = ((p.length + 1 : Nat) : Int) := succ64 (by omega)
    have e2 : (p ++ 10 :: q).drop (p.length + 1) = q := by simp
    rw [e1, cut_from (by simp), Option.bind_some, e2, succ64 (by omega), Int.toNat_natCast]
    have := ih (q, [10], 0, ((i + 1 + q.count 10 : Nat) : Int), ((i + 1 : Nat) : Int), a.set i p) ⟨q, i + 1, a.set i p, rfl, by simp; omega, by simp; omega, by omega⟩ (by simp; omega)
    have e3 : i + (q.count 10 + 1) = i + 1 + q.count 10 := by omega
    rw [e3]
    refine Eq.trans this ?_
    simp only [Int.toNat_natCast]
    rw [linesS_yes h]
    congr 2
    have hai : i < a.length := by omega
    have : (a.set i p).take (i + 1) = a.take i ++ [p] := by
      rw [List.take_add_one, List.getElem?_set_self hai, List.take_set, List.set_eq_of_length_le (by simp; omega)]
      rfl
    rw [this]
    simp
theorem split_eq {s : List UInt8} (hs : s.length < 500000) : strings_Split (s, [10], ()) = some (linesS s, ()) := by
  have hcl : s.count 10 ≤ s.length := List.count_le_length
  have hcount : strings_Count (s, [10], ()) = some (((s.count 10 : Nat) : Int), ()) := rfl
  have hg : strings_genSplit (s, [10], 0, -1, ()) = some (linesS s, ()) := by
    show strings_genSplit_m0 strings_genSplit_K1 s [10] 0 (-1) = _
    unfold strings_genSplit_m0
    rw [if_neg (by decide), if_neg (by decide), if_pos (by decide), hcount, Option.bind_some]
    unfold strings_genSplit_K1 strings_genSplit_m1
    have e0 : add .i64 ((s.count 10 : Nat) : Int) 1 = ((s.count 10 + 1 : Nat) : Int) := succ64 (by omega)
    have e1 : add .i64 (Int.ofNat s.length) 1 = ((s.length + 1 : Nat) : Int) := succ64 (by omega)
    simp only [e0, e1]
    rw [if_neg (show ¬ lt ((s.length + 1 : Nat) : Int) ((s.count 10 + 1 : Nat) : Int) = true by rw [lt_iff]; omega), if_pos trivial, need_t (by rw [ge_iff]; omega), need_small (by omega)]
    have e2 : sub .i64 ((s.count 10 + 1 : Nat) : Int) 1 = ((0 + s.count 10 : Nat) : Int) := by rw [sub64 (by omega) (by omega)]; omega
    rw [e2, Int.toNat_natCast]
    have := split_loop 18446744073709551616 (s, [10], 0, ((0 + s.count 10 : Nat) : Int), ((0 : Nat) : Int), List.replicate (s.count 10 + 1) []) ⟨s, 0, _, rfl, by simp, by simp; omega, by omega⟩ (by show s.length < _; omega)
    refine Eq.trans this ?_
    simp
  show (strings_genSplit (s, [10], 0, -1, ())).bind _ = _
  rw [hg]
  rfl
/-! ### the tokens of a line, without its end -/
def toksL (a : Int) (s : List UInt8) : TL × Int :=
  match h : s.dropWhile (fun c => isB c.toNat) with
  | [] => ([], 0)
  | c :: q => match h2 : tokS a c q with
    | .inl e => ([], e)
    | .inr (t, r) => (t :: (toksL a r).1, (toksL a r).2)
termination_by s.length
decreasing_by
  all_goals
    have h1 := tokS_len h2
    have h3 := (List.dropWhile_suffix (l := s) (fun c => isB c.toNat)).length_le
    rw [h] at h3
    simp at h3
    omega
theorem toksL_nil {a : Int} {s : List UInt8} (h : s.dropWhile (fun c => isB c.toNat) = []) : toksL a s = ([], 0) := by
  rw [toksL]
  split
  · rfl
  · rename_i h2; rw [h] at h2; cases h2
theorem toksL_err {a : Int} {s : List UInt8} {c : UInt8} {q : List UInt8} {e : Int} (h : s.dropWhile (fun c => isB c.toNat) = c :: q) (h2 : tokS a c q = .inl e) : toksL a s = ([], e) := by
  rw [toksL]
  split
  · rename_i h3; rw [h] at h3; cases h3
  · rename_i c' q' h3
    rw [h] at h3
    cases h3
    split
    · rename_i e' h4; rw [h2] at h4; cases h4; rfl
    · rename_i h4; rw [h2] at h4; cases h4
theorem toksL_tok {a : Int} {s : List UInt8} {c : UInt8} {q : List UInt8} {t : Tk1} {r : List UInt8} (h : s.dropWhile (fun c => isB c.toNat) = c :: q) (h2 : tokS a c q = .inr (t, r)) : toksL a s = (t :: (toksL a r).1, (toksL a r).2) := by
  rw [toksL]
  split
  · rename_i h3; rw [h] at h3; cases h3
  · rename_i c' q' h3
    rw [h] at h3
    cases h3
    split
    · rename_i e' h4; rw [h2] at h4; cases h4
    · rename_i t' r' h4; rw [h2] at h4; cases h4; rfl
theorem lineT_toks (a : Int) : ∀ (k : Nat) (s : List UInt8) (l : TL), s.length ≤ k →
    lineT a s l = if (toksL a s).2 ≠ 0 then ([], (toksL a s).2) else (if l ++ (toksL a s).1 = [] then [] else l ++ (toksL a s).1 ++ [tkEnd a], 0) := by
  intro k
  have base : ∀ (s : List UInt8) (l : TL), s.dropWhile (fun c => isB c.toNat) = [] → lineT a s l = if (toksL a s).2 ≠ 0 then ([], (toksL a s).2) else (if l ++ (toksL a s).1 = [] then [] else l ++ (toksL a s).1 ++ [tkEnd a], 0) := fun s l h => by
    rw [lineT_nil h, toksL_nil h]
    simp [tkEnd]
  induction k with
  | zero =>
    intro s l hs
    have : s = [] := List.eq_nil_of_length_eq_zero (by omega)
    subst this
    exact base [] l rfl
  | succ k ih =>
    intro s l hs
    have h3 := (List.dropWhile_suffix (l := s) (fun c => isB c.toNat)).length_le
    cases hd : s.dropWhile (fun c => isB c.toNat) with
    | nil => exact base s l hd
    | cons c q =>
      rw [hd] at h3
      simp at h3
      cases ht : tokS a c q with
      | inl e =>
        rw [lineT_err hd ht, toksL_err hd ht, if_pos (tokS_err ht)]
      | inr p =>
        obtain ⟨t, r⟩ := p
        have h4 := tokS_len ht
        rw [lineT_tok hd ht, toksL_tok hd ht, ih r (l ++ [t]) (by omega)]
        simp only [List.append_assoc, List.singleton_append]
/-- a token's text stands where it begins -/
theorem tokS_text {a : Int} {c : UInt8} {q : List UInt8} {t : Tk1} {r : List UInt8} (h : tokS a c q = .inr (t, r)) : t.2.1 ++ r = c :: q ∧ t.2.1 ≠ [] ∧ t.2.2.2 = a ∧ t.1 ≠ 4 := by
  unfold tokS at h
  split at h
  · split at h
    · cases h
    · cases h
      exact ⟨by simp, by simp, rfl, by simp⟩
  · split at h
    · split at h
      · cases h
        exact ⟨by simp, by simp, rfl, by simp⟩
      · cases h
    · split at h
      · cases h
        exact ⟨rfl, by simp, rfl, by simp⟩
      · cases h
end Go.Proofs.Lx

end

section
/- LexStands, as a plain law. -/
namespace Go.Proofs.Lx
open Go Ev Sx Pl
set_option maxRecDepth 10000
theorem lineT_nz {a : Int} {s : List UInt8} {l : TL} (h : (lineT a s l).2 ≠ 0) : (lineT a s l).1 = [] := by
  rw [lineT_toks a _ s l (Nat.le_refl _)] at h ⊢
  split
  · rfl
  · rename_i h2
    rw [if_neg h2] at h
    exact absurd rfl h
/-- tokens that were before do not matter -/
theorem lexS_acc : ∀ (k : Nat) (s : List UInt8) (n : Int) (l : TL), s.length ≤ k → lexS n s l = (if (lexS n s []).2.1 ≠ 0 then [] else l ++ (lexS n s []).1, (lexS n s []).2) := by
  intro k
  induction k with
  | zero =>
    intro s n l hs
    have : s = [] := List.eq_nil_of_length_eq_zero (by omega)
    subst this
    rw [lexS, dif_pos rfl, lexS, dif_pos rfl]
    simp
  | succ k ih =>
    intro s n l hs
    by_cases hne : s = []
    · subst hne
      rw [lexS, dif_pos rfl, lexS, dif_pos rfl]
      simp
    · have hlen := lrest_len hne
      rw [lexS_step hne, lexS_step (l := []) hne]
      by_cases he : (lineT n (uncom (lfirst s)) []).2 = 0
      · have e : ¬ (lineT n (uncom (lfirst s)) []).2 ≠ 0 := by simpa using he
        rw [if_neg e, if_neg e, ih (lrest s) (n + 1) (l ++ _) (by omega), ih (lrest s) (n + 1) ([] ++ _) (by omega)]
        by_cases h2 : (lexS (n + 1) (lrest s) []).2.1 = 0
        · simp [h2]
        · simp [h2]
      · have e : (lineT n (uncom (lfirst s)) []).2 ≠ 0 := he
        rw [if_pos e, if_pos e]
        simp [e]
theorem lexS_one {s : List UInt8} {n : Int} (hne : s ≠ []) (he : (lineT n (uncom (lfirst s)) []).2 = 0) : lexS n s [] = (if (lexS (n + 1) (lrest s) []).2.1 ≠ 0 then [] else (lineT n (uncom (lfirst s)) []).1 ++ (lexS (n + 1) (lrest s) []).1, (lexS (n + 1) (lrest s) []).2) := by
  rw [lexS_step hne, if_neg (by simpa using he), lexS_acc _ (lrest s) (n + 1) _ (Nat.le_refl _), List.nil_append]
theorem lexS_err : ∀ (k : Nat) (s : List UInt8) (n : Int), s.length ≤ k → (lexS n s []).2.1 ≠ 0 → (lexS n s []).1 = [] ∧ n ≤ (lexS n s []).2.2 ∧ (lexS n s []).2.2 < n + ((linesS s).length : Int) := by
  intro k
  induction k with
  | zero =>
    intro s n hs h
    have : s = [] := List.eq_nil_of_length_eq_zero (by omega)
    subst this
    rw [lexS, dif_pos rfl] at h
    exact absurd rfl h
  | succ k ih =>
    intro s n hs h
    by_cases hne : s = []
    · subst hne
      rw [lexS, dif_pos rfl] at h
      exact absurd rfl h
    · have hlen := lrest_len hne
      by_cases he : (lineT n (uncom (lfirst s)) []).2 = 0
      · rw [lexS_one hne he] at h ⊢
        dsimp only at h ⊢
        rw [if_pos h]
        obtain ⟨h1, h2, h3⟩ := ih (lrest s) (n + 1) (by omega) h
        refine ⟨rfl, by omega, ?_⟩
        rcases split_at 10 s with h10 | ⟨p, q, rfl, h10⟩
        · have e2 : lrest s = [] := by unfold lrest; rw [(tw_no h10).2.1]; rfl
          rw [e2, lexS, dif_pos rfl] at h
          exact absurd rfl h
        · have e2 : lrest (p ++ 10 :: q) = q := by unfold lrest; rw [(tw_yes h10).2.1]; rfl
          rw [e2] at h3 ⊢
          rw [linesS_yes h10, List.length_cons]
          omega
      · rw [lexS_step hne, if_pos he]
        refine ⟨rfl, Int.le_refl _, ?_⟩
        have : (linesS s).length = s.count 10 + 1 := linesS_len _ s (Nat.le_refl _)
        dsimp only
        omega
/-! ### the law's loops -/
theorem hasPrefix_eq2 {s p : List UInt8} : strings_HasPrefix (s, p, ()) = some (decide (p <+: s), ()) := by
  show (istringslite_HasPrefix (s, p, ())).bind _ = _
  rw [hasPrefix_eq]
  rfl
def rsL : Option (List UInt8) → List (List UInt8)
  | some q => linesS q
  | none => []
def rsT (n : Int) : Option (List UInt8) → TL
  | some q => (lexS n q []).1
  | none => []
def rsE (n : Int) : Option (List UInt8) → Prop
  | some q => (lexS n q []).2.1 = 0
  | none => True
abbrev RB := As [.bool]
abbrev InSt := TL × Int × Int × List UInt8 × Bool × List (List UInt8) × Int × Int
abbrev Up1 := TL → Int → List (List UInt8) → Int → Int → Option RB
theorem stands_in (u1 : Up1) (l : TL) (L : List (List UInt8)) (N : Int) (i : Nat) (hi : i < 1000000) (hl : l.length < 1000000) : ∀ (k : Nat) (st : InSt),
    (∃ (at' : Nat) (plain : List UInt8) (sm : Bool) (R : TL), st = (l, (at' : Int), (i : Int), plain, sm, L, N, (i : Int)) ∧ plain.length < 100000 ∧ (toksL ((i + 1 : Nat) : Int) plain).2 = 0 ∧ l.drop at' = (toksL ((i + 1 : Nat) : Int) plain).1 ++ R ∧ at' ≤ l.length) → st.2.2.2.1.length < k →
    loopF (fun (self : InSt → Option RB) (s : InSt) => law13_LexStands_m2 (law13_LexStands_K4 u1) (law13_LexStands_K5 u1 (fun l at' i plain some' t45 t46 t47 => self (l, at', i, plain, some', t45, t46, t47))) u1 (fun l at' i plain some' t45 t46 t47 => self (l, at', i, plain, some', t45, t46, t47)) s.1 s.2.1 s.2.2.1 s.2.2.2.1 s.2.2.2.2.1 s.2.2.2.2.2.1 s.2.2.2.2.2.2.1 s.2.2.2.2.2.2.2) k st =
      law13_LexStands_K4 u1 l (st.2.1 + ((toksL ((i + 1 : Nat) : Int) st.2.2.2.1).1.length : Int)) (i : Int) (st.2.2.2.2.1 || decide ((toksL ((i + 1 : Nat) : Int) st.2.2.2.1).1 ≠ [])) L N (i : Int) := by
  refine loopF_eq (σ := InSt) (μ := fun st => st.2.2.2.1.length) (G := fun st => law13_LexStands_K4 u1 l (st.2.1 + ((toksL ((i + 1 : Nat) : Int) st.2.2.2.1).1.length : Int)) (i : Int) (st.2.2.2.2.1 || decide ((toksL ((i + 1 : Nat) : Int) st.2.2.2.1).1 ≠ [])) L N (i : Int)) ?_
  rintro self st ⟨at', plain, sm, R, rfl, hp, h0, hd, hal⟩ ih
  simp only at ih ⊢
  unfold law13_LexStands_m2
  have h3 := (List.dropWhile_suffix (l := plain) (fun c => isB c.toNat)).length_le
  have ht := strings_TrimLeft_eq (s := plain) (by omega)
  rw [ht, Option.bind_some]
  cases hw : plain.dropWhile (fun c => isB c.toNat) with
  | nil =>
    rw [if_pos (by decide), toksL_nil hw]
    simp
  | cons c q =>
    rw [hw] at h3
    simp at h3
    rw [if_neg (by rw [eqs_iff]; simp)]
    cases hk : tokS ((i + 1 : Nat) : Int) c q with
    | inl e =>
      rw [toksL_err hw hk] at h0
      exact absurd h0 (tokS_err hk)
    | inr p =>
      obtain ⟨t, r⟩ := p
      have hr := tokS_len hk
      obtain ⟨x1, x2, x3, _⟩ := tokS_text hk
      rw [toksL_tok hw hk] at h0 hd ⊢
      simp only [List.cons_append] at hd
      obtain ⟨d1, d2, d3⟩ := drop_succ hd
      have hat := at_drop hd
      rw [if_neg (by rw [eqi_iff, ofNat_eq]; omega), hat]
      simp only [Option.bind_some]
      rw [succ64 (by omega), if_neg (by rw [nei_iff, x3]; simp), if_neg (by rw [eqs_iff]; exact x2), hasPrefix_eq2, Option.bind_some]
      have hpre : t.2.1 <+: c :: q := ⟨r, x1⟩
      have e : (!decide (t.2.1 <+: c :: q)) = false := by simp [hpre]
      show law13_LexStands_K5 _ _ l _ _ (c :: q) L N _ (!decide (t.2.1 <+: c :: q)) = _
      rw [e]
      unfold law13_LexStands_K5 law13_LexStands_m5
      rw [if_neg (by decide), hat]
      simp only [Option.bind_some]
      have hcut : cut (c :: q) (Int.ofNat t.2.1.length) (Int.ofNat (c :: q).length) = some r := by rw [← x1]; exact cut_app1 _ _
      rw [hcut, Option.bind_some, succ64 (by omega)]
      have := ih (l, ((at' + 1 : Nat) : Int), (i : Int), r, true, L, N, (i : Int)) ⟨at' + 1, r, true, R, rfl, by omega, h0, d1, by omega⟩ (by show r.length < plain.length; omega)
      refine Eq.trans this ?_
      simp only [List.length_cons, Bool.true_or, ne_eq, reduceCtorEq, not_false_eq_true, decide_true, Bool.or_true]
      congr 1
      omega
abbrev OutSt := TL × Int × List (List UInt8) × Int × Int
abbrev standsB (self : OutSt → Option RB) (s : OutSt) : Option RB := law13_LexStands_m1 (law13_LexStands_K2 (fun l at' t45 t46 t47 => self (l, at', t45, t46, t47))) law13_LexStands_K3 (fun l at' t45 t46 t47 => self (l, at', t45, t46, t47)) s.1 s.2.1 s.2.2.1 s.2.2.2.1 s.2.2.2.2
theorem stands_out (l : TL) (L : List (List UInt8)) (hl : l.length < 1000000) (hL : L.length < 100000) (hLs : ∀ x ∈ L, x.length < 50000) : ∀ (k : Nat) (st : OutSt),
    (∃ (at' j : Nat), st = (l, (at' : Int), L, (L.length : Int), (j : Int)) ∧ at' ≤ l.length ∧ j ≤ L.length ∧ ((∃ s, L.drop j = linesS s ∧ l.drop at' = (lexS ((j + 1 : Nat) : Int) s []).1 ∧ (lexS ((j + 1 : Nat) : Int) s []).2.1 = 0) ∨ (j = L.length ∧ at' = l.length))) → L.length - st.2.2.2.2.toNat < k →
      loopF standsB k st = some (true, ()) := by
  refine loopF_eq (σ := OutSt) (μ := fun st => L.length - st.2.2.2.2.toNat) (G := fun _ => some (true, ())) ?_
  rintro self st ⟨at', j, rfl, hat, hj, h⟩ ih
  simp only [Int.toNat_natCast] at ih ⊢
  show law13_LexStands_m1 _ _ _ l (at' : Int) L (L.length : Int) (j : Int) = _
  unfold law13_LexStands_m1
  by_cases hlt : j < L.length
  · rw [if_pos (by rw [lt_iff]; omega)]
    rcases h with ⟨s, h1, h2, h3⟩ | ⟨h1, _⟩
    · -- the line, and what is behind it
      obtain ⟨f, r, g1, g2, g3, g4⟩ : ∃ (f : List UInt8) (r : Option (List UInt8)), L.drop j = f :: rsL r ∧ (lineT ((j + 1 : Nat) : Int) (uncom f) []).2 = 0 ∧
          l.drop at' = (lineT ((j + 1 : Nat) : Int) (uncom f) []).1 ++ rsT ((j + 1 + 1 : Nat) : Int) r ∧ rsE ((j + 1 + 1 : Nat) : Int) r := by
        by_cases hne : s = []
        · subst hne
          refine ⟨[], none, by rw [h1, linesS_no (by simp)]; rfl, ?_, ?_, trivial⟩
          · rw [show uncom [] = [] from rfl, lineT_nil rfl]
          · rw [h2, lexS, dif_pos rfl, show uncom [] = [] from rfl, lineT_nil rfl]
            rfl
        · have he : (lineT ((j + 1 : Nat) : Int) (uncom (lfirst s)) []).2 = 0 := by
            apply Classical.byContradiction
            intro he
            rw [lexS_step hne, if_pos he] at h3
            exact he h3
          have hcast : ((j + 1 : Nat) : Int) + 1 = ((j + 1 + 1 : Nat) : Int) := by omega
          rw [lexS_one hne he, hcast] at h2 h3
          dsimp only at h2 h3
          rw [if_neg (by simpa using h3)] at h2
          rcases split_at 10 s with h10 | ⟨p, q, rfl, h10⟩
          · have e1 : lfirst s = s := (tw_no h10).1
            have e2 : lrest s = [] := by unfold lrest; rw [(tw_no h10).2.1]; rfl
            rw [e1] at he
            rw [e1, e2, lexS, dif_pos rfl] at h2
            exact ⟨s, none, by rw [h1, linesS_no h10]; rfl, he, h2, trivial⟩
          · have e1 : lfirst (p ++ 10 :: q) = p := (tw_yes h10).1
            have e2 : lrest (p ++ 10 :: q) = q := by unfold lrest; rw [(tw_yes h10).2.1]; rfl
            rw [e1] at he
            rw [e1, e2] at h2
            rw [e2] at h3
            exact ⟨p, some q, by rw [h1, linesS_yes h10]; rfl, he, h2, h3⟩
      obtain ⟨d1, d2, d3⟩ := drop_succ g1
      rw [at_drop g1, Option.bind_some]
      have hfl : f.length < 50000 := hLs f (List.mem_of_mem_drop (by rw [g1]; exact List.mem_cons_self ..))
      have hul := uncom_len f
      -- behind the line
      have next : ∀ a' : Nat, a' ≤ l.length → l.drop a' = rsT ((j + 1 + 1 : Nat) : Int) r → self (l, (a' : Int), L, (L.length : Int), ((j + 1 : Nat) : Int)) = some (true, ()) := fun a' ha hda => by
        refine ih (l, (a' : Int), L, (L.length : Int), ((j + 1 : Nat) : Int)) ⟨a', j + 1, rfl, ha, by omega, ?_⟩ (by simp; omega)
        cases r with
        | none =>
          right
          have := drop_nil hda
          have h4 := drop_nil d1
          exact ⟨by omega, by omega⟩
        | some q => exact .inl ⟨q, d1, hda, g4⟩
      have body : law13_LexStands_K2 (fun l at' t45 t46 t47 => self (l, at', t45, t46, t47)) l (at' : Int) (j : Int) (uncom f) false L (L.length : Int) (j : Int) = some (true, ()) := by
        have ht := lineT_toks ((j + 1 : Nat) : Int) _ (uncom f) [] (Nat.le_refl _)
        have h0 : (toksL ((j + 1 : Nat) : Int) (uncom f)).2 = 0 := by
          apply Classical.byContradiction
          intro hz
          rw [if_pos hz] at ht
          rw [ht] at g2
          exact hz g2
        rw [if_neg (by simpa using h0)] at ht
        simp only [List.nil_append] at ht
        rw [ht] at g3
        dsimp only at g3
        have hin := stands_in (fun l at' t45 t46 t47 => self (l, at', t45, t46, t47)) l L (L.length : Int) j (by omega) hl 18446744073709551616 (l, (at' : Int), (j : Int), uncom f, false, L, (L.length : Int), (j : Int))
        by_cases hz : (toksL ((j + 1 : Nat) : Int) (uncom f)).1 = []
        · rw [if_pos hz, List.nil_append] at g3
          refine (hin ⟨at', uncom f, false, l.drop at', rfl, by omega, h0, by rw [hz]; rfl, hat⟩ (by show (uncom f).length < _; omega)).trans ?_
          rw [hz]
          unfold law13_LexStands_K4 law13_LexStands_m4
          simp only [List.length_nil, ne_eq, not_true, decide_false, Bool.or_false, Bool.not_false, if_true]
          rw [succ64 (by omega), show (at' : Int) + ((0 : Nat) : Int) = (at' : Int) by omega]
          exact next at' hat g3
        · rw [if_neg hz] at g3
          rw [List.append_assoc] at g3
          refine (hin ⟨at', uncom f, false, _, rfl, by omega, h0, g3, hat⟩ (by show (uncom f).length < _; omega)).trans ?_
          have hd2 : l.drop (at' + (toksL ((j + 1 : Nat) : Int) (uncom f)).1.length) = tkEnd ((j + 1 : Nat) : Int) :: rsT ((j + 1 + 1 : Nat) : Int) r := by
            rw [← List.drop_drop, g3]
            simp
          obtain ⟨y1, y2, y3⟩ := drop_succ hd2
          have hat2 := at_drop hd2
          unfold law13_LexStands_K4 law13_LexStands_m4
          have ecast : (at' : Int) + ((toksL ((j + 1 : Nat) : Int) (uncom f)).1.length : Int) = ((at' + (toksL ((j + 1 : Nat) : Int) (uncom f)).1.length : Nat) : Int) := by omega
          rw [ecast]
          have e : (false || decide ((toksL ((j + 1 : Nat) : Int) (uncom f)).1 ≠ [])) = true := by rw [decide_eq_true hz]; rfl
          show (if (!(false || decide ((toksL ((j + 1 : Nat) : Int) (uncom f)).1 ≠ []))) = true then _ else _) = _
          rw [e, if_neg (by decide), if_neg (by rw [eqi_iff, ofNat_eq]; omega), hat2, Option.bind_some, succ64 (n := j) (by omega)]
          have e2 : (!(eqi (tkEnd ((j + 1 : Nat) : Int)).1 4 && (eqs (tkEnd ((j + 1 : Nat) : Int)).2.1 [] && (eqi (tkEnd ((j + 1 : Nat) : Int)).2.2.1.1 0 && (eqi (tkEnd ((j + 1 : Nat) : Int)).2.2.1.2 0 && true) && (eqi (tkEnd ((j + 1 : Nat) : Int)).2.2.2 ((j + 1 : Nat) : Int) && true))))) = false := by simp [tkEnd, eqi, eqs]
          rw [e2]
          unfold law13_LexStands_K6 law13_LexStands_m6
          rw [if_neg (by decide), succ64 (by omega), succ64 (by omega)]
          exact next _ (by omega) y1
      -- the three ways of a comment
      by_cases hf : f = [35]
      · subst hf
        rw [if_pos (by decide), show cut ([35] : List UInt8) 1 (Int.ofNat [(35 : UInt8)].length) = some [] from rfl, Option.bind_some]
        exact body
      · rw [if_neg (by rw [eqs_iff]; exact fun h => hf h.symm)]
        rcases split_at 35 f with h35 | ⟨p, q, rfl, h35⟩
        · rw [index_no 35 f h35, if_neg (by decide)]
          have : uncom f = f := (tw_no h35).1
          rw [this] at body
          exact body
        · simp at hfl
          rw [index_yes 35 p q h35, if_pos (by rw [ge_iff]; omega), cut_app0, Option.bind_some, succ64 (by omega), cut_from (by simp), Option.bind_some]
          have : uncom (p ++ 35 :: q) = p := (tw_yes h35).1
          rw [this] at body
          exact body
    · omega
  · rw [if_neg (by rw [lt_iff]; omega)]
    unfold law13_LexStands_K3 law13_LexStands_m3
    have hae : at' = l.length := by
      rcases h with ⟨s, h1, h2, h3⟩ | ⟨_, h2⟩
      · have : linesS s = [] := by rw [← h1]; exact List.drop_of_length_le (by omega)
        have := congrArg List.length this
        rw [linesS_len _ s (Nat.le_refl _)] at this
        simp at this
      · exact h2
    rw [if_pos (by rw [eqi_iff, ofNat_eq]; omega)]
    have haw : law13_awake () = some (true, ()) := awake13
    rw [haw]
    rfl
theorem linesS_small : ∀ (k : Nat) (s : List UInt8), s.length ≤ k → ∀ x ∈ linesS s, x.length ≤ s.length := by
  intro k
  induction k with
  | zero =>
    intro s hs x hx
    have : s = [] := List.eq_nil_of_length_eq_zero (by omega)
    subst this
    rw [linesS_no (by simp)] at hx
    simp at hx
    subst hx
    exact Nat.le_refl _
  | succ k ih =>
    intro s hs x hx
    rcases split_at 10 s with h | ⟨p, q, rfl, h⟩
    · rw [linesS_no h] at hx
      simp at hx
      subst hx
      exact Nat.le_refl _
    · rw [linesS_yes h] at hx
      simp at hs
      rcases List.mem_cons.1 hx with rfl | hx
      · simp
      · have := ih q (by omega) x hx
        simp
        omega
theorem stands_law (s : List UInt8) : law13_LexStands (s, ()) = some (true, ()) := by
  show law13_LexStands_m0 law13_LexStands_K1 s = _
  unfold law13_LexStands_m0
  have haw : law13_awake () = some (true, ()) := awake13
  by_cases h : 4000 < s.length
  · rw [if_pos (by rw [gt_iff, ofNat_eq]; omega), haw]
    rfl
  · rw [if_neg (by rw [gt_iff, ofNat_eq]; omega), lex_eq, split_eq (by omega), Option.bind_some, Option.bind_some]
    have e : lexR s = lexS 1 s [] := by unfold lexR; rw [if_neg (by omega)]
    have hcl : s.count 10 ≤ s.length := List.count_le_length
    have hlen := linesS_len _ s (Nat.le_refl _)
    by_cases he : (lexR s).2.1 = 0
    · rw [if_neg (by rw [nei_iff]; simpa using he)]
      have hb := lexR_len s
      rw [e] at he hb ⊢
      refine stands_out (lexS 1 s []).1 (linesS s) (by omega) (by omega) (fun x hx => by have := linesS_small _ s (Nat.le_refl _) x hx; omega) 18446744073709551616 ((lexS 1 s []).1, 0, linesS s, Int.ofNat (linesS s).length, 0) ⟨0, 0, rfl, by omega, by omega, .inl ⟨s, rfl, rfl, he⟩⟩ (by simp; omega)
    · rw [if_pos (by rw [nei_iff]; exact he)]
      rw [e] at he ⊢
      obtain ⟨h1, h2, h3⟩ := lexS_err _ s 1 (Nat.le_refl _) he
      rw [h1, if_pos (by decide), if_pos (by rw [ge_iff]; exact h2), if_pos (by rw [le_iff, ofNat_eq]; dsimp only; omega), haw]
      rfl
theorem stands_row (x : As [.str]) (_ : Rw.okA [.str] x) : law13_LexStands x = some (true, ()) := stands_law x.1
end Go.Proofs.Lx

end

section
/- Blanks, comments and empty lines: texts by lines. -/
namespace Go.Proofs.Lx
open Go Ev Sx Pl
set_option maxRecDepth 10000
/-- by the lines of a text -/
def lexLines (n : Int) : List (List UInt8) → TL × (Int × Int)
  | [] => ([], (0, 0))
  | f :: r => if (lineT n (uncom f) []).2 ≠ 0 then ([], ((lineT n (uncom f) []).2, n)) else
      (if (lexLines (n + 1) r).2.1 ≠ 0 then [] else (lineT n (uncom f) []).1 ++ (lexLines (n + 1) r).1, (lexLines (n + 1) r).2)
theorem lexS_lines : ∀ (k : Nat) (s : List UInt8) (n : Int), s.length ≤ k → lexS n s [] = lexLines n (linesS s) := by
  have nil : ∀ n : Int, lexS n [] [] = lexLines n [[]] := fun n => by
    rw [lexS, dif_pos rfl]
    unfold lexLines
    rw [show uncom [] = [] from rfl, lineT_nil rfl]
    rfl
  intro k
  induction k with
  | zero =>
    intro s n hs
    have : s = [] := List.eq_nil_of_length_eq_zero (by omega)
    subst this
    rw [linesS_no (by simp)]
    exact nil n
  | succ k ih =>
    intro s n hs
    by_cases hne : s = []
    · subst hne
      rw [linesS_no (by simp)]
      exact nil n
    · have hlen := lrest_len hne
      rcases split_at 10 s with h10 | ⟨p, q, rfl, h10⟩
      · have e1 : lfirst s = s := (tw_no h10).1
        have e2 : lrest s = [] := by unfold lrest; rw [(tw_no h10).2.1]; rfl
        rw [linesS_no h10]
        unfold lexLines
        by_cases he : (lineT n (uncom s) []).2 = 0
        · rw [if_neg (by simpa using he), lexS_one hne (by rw [e1]; exact he), e1, e2, lexS, dif_pos rfl]
          rfl
        · rw [if_pos he, lexS_step hne, e1, if_pos he]
      · have e1 : lfirst (p ++ 10 :: q) = p := (tw_yes h10).1
        have e2 : lrest (p ++ 10 :: q) = q := by unfold lrest; rw [(tw_yes h10).2.1]; rfl
        rw [linesS_yes h10]
        unfold lexLines
        rw [e2] at hlen
        by_cases he : (lineT n (uncom p) []).2 = 0
        · rw [if_neg (by simpa using he), lexS_one hne (by rw [e1]; exact he), e1, e2, ih q (n + 1) (by omega)]
        · rw [if_pos he, lexS_step hne, e1, if_pos he]
/-! ### a line, decorated -/
def setL (a : Int) (t : Tk1) : Tk1 := (t.1, t.2.1, t.2.2.1, a)
theorem tokS_line (a b : Int) (c : UInt8) (q : List UInt8) : tokS b c q = match tokS a c q with
    | .inl e => .inl e
    | .inr (t, r) => .inr (setL b t, r) := by
  unfold tokS setL
  split
  · split <;> rfl
  · split
    · split <;> rfl
    · split <;> rfl
theorem tw_stop {p : UInt8 → Bool} {tail : List UInt8} (ht : ∀ c ∈ tail, p c = false) : ∀ u : List UInt8, (u ++ tail).takeWhile p = u.takeWhile p ∧ (u ++ tail).dropWhile p = u.dropWhile p ++ tail
  | [] => by
    cases tail with
    | nil => exact ⟨rfl, rfl⟩
    | cons c q => simp [ht c (List.mem_cons_self ..)]
  | c :: u => by
    obtain ⟨i1, i2⟩ := tw_stop ht u
    cases hp : p c
    · simp [hp]
    · simp [hp, i1, i2]
theorem blank_more {c : UInt8} (h : isB c.toNat = true) : wm c.toNat = false ∧ nm c.toNat = false := by
  rcases (isB_iff c).1 h with rfl | rfl | rfl <;> exact ⟨rfl, rfl⟩
theorem tokS_tail {a : Int} {c : UInt8} {q tail : List UInt8} (ht : ∀ c ∈ tail, isB c.toNat = true) : tokS a c (q ++ tail) = match tokS a c q with
    | .inl e => .inl e
    | .inr (t, r) => .inr (t, r ++ tail) := by
  have hw := tw_stop (p := fun c => wm c.toNat) (fun c hc => (blank_more (ht c hc)).1) q
  have hn := tw_stop (p := fun c => nm c.toNat) (fun c hc => (blank_more (ht c hc)).2) q
  unfold tokS
  rw [hw.1, hn.1, hw.2, hn.2]
  split
  · split <;> rfl
  · split
    · split <;> rfl
    · split <;> rfl
/-- another line's number, and blanks behind -/
theorem toksL_tail (a b : Int) {tail : List UInt8} (ht : ∀ c ∈ tail, isB c.toNat = true) : ∀ (k : Nat) (s : List UInt8), s.length ≤ k → toksL b (s ++ tail) = ((toksL a s).1.map (setL b), (toksL a s).2) := by
  have dw : ∀ s : List UInt8, (s ++ tail).dropWhile (fun c => isB c.toNat) = if s.dropWhile (fun c => isB c.toNat) = [] then [] else s.dropWhile (fun c => isB c.toNat) ++ tail := by
    intro s
    induction s with
    | nil =>
      have := (tw_all (p := fun c => isB c.toNat) (r := []) ht).2
      simpa using this
    | cons c q ih =>
      cases hb : isB c.toNat
      · simp [hb]
      · simp only [List.cons_append, List.dropWhile_cons, hb, if_true]
        exact ih
  intro k
  have base : ∀ s : List UInt8, s.dropWhile (fun c => isB c.toNat) = [] → toksL b (s ++ tail) = ((toksL a s).1.map (setL b), (toksL a s).2) := fun s h => by
    rw [toksL_nil h, toksL_nil (by rw [dw, if_pos h])]
    rfl
  induction k with
  | zero =>
    intro s hs
    have : s = [] := List.eq_nil_of_length_eq_zero (by omega)
    subst this
    exact base [] rfl
  | succ k ih =>
    intro s hs
    have h3 := (List.dropWhile_suffix (l := s) (fun c => isB c.toNat)).length_le
    cases hd : s.dropWhile (fun c => isB c.toNat) with
    | nil => exact base s hd
    | cons c q =>
      rw [hd] at h3
      simp at h3
      have hd2 : (s ++ tail).dropWhile (fun c => isB c.toNat) = c :: (q ++ tail) := by rw [dw, hd, if_neg (by simp)]; rfl
      have h1 := tokS_tail (a := b) (c := c) (q := q) ht
      rw [tokS_line a b c q] at h1
      cases hk : tokS a c q with
      | inl e =>
        rw [hk] at h1
        rw [toksL_err hd hk, toksL_err hd2 h1]
        rfl
      | inr p =>
        obtain ⟨t, r⟩ := p
        rw [hk] at h1
        have hr := tokS_len hk
        rw [toksL_tok hd hk, toksL_tok hd2 h1, ih r (by omega)]
        rfl
theorem toksL_head {a : Int} {pre s : List UInt8} (hp : ∀ c ∈ pre, isB c.toNat = true) : toksL a (pre ++ s) = toksL a s := by
  have e : (pre ++ s).dropWhile (fun c => isB c.toNat) = s.dropWhile (fun c => isB c.toNat) := (tw_all (p := fun c => isB c.toNat) hp).2
  cases hd : s.dropWhile (fun c => isB c.toNat) with
  | nil => rw [toksL_nil (e.trans hd), toksL_nil hd]
  | cons c q =>
    cases hk : tokS a c q with
    | inl er => rw [toksL_err (e.trans hd) hk, toksL_err hd hk]
    | inr p => obtain ⟨t, r⟩ := p; rw [toksL_tok (e.trans hd) hk, toksL_tok hd hk]
/-- a line that has the same tokens -/
def Dec (s d : List UInt8) : Prop := (10 : UInt8) ∉ d ∧ ∃ pre tail, uncom d = pre ++ (uncom s ++ tail) ∧ (∀ c ∈ pre, isB c.toNat = true) ∧ (∀ c ∈ tail, isB c.toNat = true)
def Ins (x : List UInt8) : Prop := (10 : UInt8) ∉ x ∧ ∀ c ∈ uncom x, isB c.toNat = true
theorem lineT_dec {s d : List UInt8} (h : Dec s d) (a b : Int) : (lineT b (uncom d) []).2 = (lineT a (uncom s) []).2 ∧ (lineT b (uncom d) []).1 = (lineT a (uncom s) []).1.map (setL b) := by
  obtain ⟨_, pre, tail, h1, h2, h3⟩ := h
  rw [lineT_toks a _ (uncom s) [] (Nat.le_refl _), lineT_toks b _ (uncom d) [] (Nat.le_refl _), h1, toksL_head h2, toksL_tail a b h3 _ (uncom s) (Nat.le_refl _)]
  dsimp only
  by_cases he : (toksL a (uncom s)).2 = 0
  · have hne : ¬ ((toksL a (uncom s)).2 ≠ 0) := by simpa using he
    rw [if_neg hne, if_neg hne]
    refine ⟨rfl, ?_⟩
    simp only [List.nil_append, List.map_eq_nil_iff]
    split
    · rfl
    · simp [tkEnd, setL]
  · rw [if_pos he, if_pos he]
    exact ⟨rfl, rfl⟩
theorem lineT_ins {x : List UInt8} (h : Ins x) (a : Int) : lineT a (uncom x) [] = ([], 0) := by
  have : (uncom x).dropWhile (fun c => isB c.toNat) = [] := by
    have := (tw_all (p := fun c => isB c.toNat) (r := []) h.2).2
    simpa using this
  rw [lineT_nil this]
  rfl
/-- lines that are put between, and lines that are decorated -/
inductive Gen : Nat → List (List UInt8) → List (List UInt8) → List Int → Prop
  | nil (p : Nat) : Gen p [] [] []
  | cons (p : Nat) (ins : List (List UInt8)) (s d : List UInt8) (Ls Ws : List (List UInt8)) (os : List Int) (h1 : ∀ x ∈ ins, Ins x) (h2 : Dec s d) (h : Gen (p + ins.length + 1) Ls Ws os) : Gen p (s :: Ls) (ins ++ d :: Ws) (((p + ins.length + 1 : Nat) : Int) :: os)
theorem Gen.snoc {p : Nat} {Ls Ws : List (List UInt8)} {os : List Int} (h : Gen p Ls Ws os) {ins : List (List UInt8)} {s d : List UInt8} (h1 : ∀ x ∈ ins, Ins x) (h2 : Dec s d) : Gen p (Ls ++ [s]) (Ws ++ (ins ++ [d])) (os ++ [((p + Ws.length + ins.length + 1 : Nat) : Int)]) := by
  induction h with
  | nil p => exact Gen.cons p ins s d [] [] [] h1 h2 (Gen.nil _)
  | cons p ins' s' d' Ls Ws os g1 g2 g ih =>
    have := Gen.cons p ins' s' d' _ _ _ g1 g2 ih
    have e : p + ins'.length + 1 + Ws.length + ins.length + 1 = p + (ins' ++ d' :: Ws).length + ins.length + 1 := by simp; omega
    rw [e] at this
    simpa using this
theorem lexLines_ins (n : Int) (r : List (List UInt8)) : ∀ (ins : List (List UInt8)), (∀ x ∈ ins, Ins x) → ∀ n : Int, lexLines n (ins ++ r) = ((if (lexLines (n + ins.length) r).2.1 ≠ 0 then [] else (lexLines (n + ins.length) r).1), (lexLines (n + ins.length) r).2) := by
  have nz : ∀ (L : List (List UInt8)) (m : Int), (lexLines m L).2.1 ≠ 0 → (lexLines m L).1 = [] := by
    intro L
    induction L with
    | nil => intro m h; exact absurd rfl h
    | cons f q ih =>
      intro m h
      unfold lexLines at h ⊢
      split
      · rfl
      · rename_i h2
        rw [if_neg h2] at h
        dsimp only at h ⊢
        rw [if_pos h]
  intro ins
  induction ins with
  | nil =>
    intro _ n
    simp only [List.nil_append, List.length_nil]
    rw [show n + ((0 : Nat) : Int) = n by omega]
    by_cases h : (lexLines n r).2.1 = 0
    · rw [if_neg (by simpa using h)]
    · rw [if_pos h, ← nz r n h]
  | cons x q ih =>
    intro hx n
    have hi := ih (fun y hy => hx y (List.mem_cons_of_mem _ hy)) (n + 1)
    show (if (lineT n (uncom x) []).2 ≠ 0 then _ else _) = _
    rw [lineT_ins (hx x (List.mem_cons_self ..))]
    rw [if_neg (by simp)]
    dsimp only
    have e : n + 1 + (q.length : Int) = n + ((x :: q).length : Int) := by simp; omega
    have ea : q.append r = q ++ r := rfl
    rw [ea, hi, e]
    dsimp only
    by_cases h : (lexLines (n + ((x :: q).length : Int)) r).2.1 = 0
    · have hn : ¬ ((lexLines (n + ((x :: q).length : Int)) r).2.1 ≠ 0) := by simpa using h
      rw [if_neg hn, if_neg hn, List.nil_append]
    · have hn : (lexLines (n + ((x :: q).length : Int)) r).2.1 ≠ 0 := h
      rw [if_pos hn, if_pos hn]
/-- the one text's answer, and the other's -/
structure Like (n : Nat) (os : List Int) (A B : TL × (Int × Int)) : Prop where
  err : A.2.1 = B.2.1
  line : A.2.1 ≠ 0 → ∃ i : Nat, A.2.2 = ((n + i : Nat) : Int) ∧ os[i]? = some B.2.2
  len : A.1.length = B.1.length
  tok : ∀ (k : Nat) (x : Tk1), A.1[k]? = some x → ∃ (i : Nat) (v : Int), x.2.2.2 = ((n + i : Nat) : Int) ∧ os[i]? = some v ∧ B.1[k]? = some (setL v x)
theorem lineT_lines (a : Int) (s : List UInt8) : ∀ t ∈ (lineT a s []).1, t.2.2.2 = a := by
  have h : ∀ (k : Nat) (s : List UInt8), s.length ≤ k → ∀ t ∈ (toksL a s).1, t.2.2.2 = a := by
    intro k
    induction k with
    | zero =>
      intro s hs t ht
      have : s = [] := List.eq_nil_of_length_eq_zero (by omega)
      subst this
      rw [toksL_nil rfl] at ht
      cases ht
    | succ k ih =>
      intro s hs t ht
      have h3 := (List.dropWhile_suffix (l := s) (fun c => isB c.toNat)).length_le
      cases hd : s.dropWhile (fun c => isB c.toNat) with
      | nil => rw [toksL_nil hd] at ht; cases ht
      | cons c q =>
        rw [hd] at h3
        simp at h3
        cases hk : tokS a c q with
        | inl e => rw [toksL_err hd hk] at ht; cases ht
        | inr p =>
          obtain ⟨t', r⟩ := p
          have hr := tokS_len hk
          rw [toksL_tok hd hk] at ht
          rcases List.mem_cons.1 ht with rfl | ht
          · exact (tokS_text hk).2.2.1
          · exact ih r (by omega) t ht
  intro t ht
  rw [lineT_toks a _ s [] (Nat.le_refl _)] at ht
  split at ht
  · cases ht
  · dsimp only at ht
    split at ht
    · cases ht
    · simp only [List.nil_append] at ht
      rcases List.mem_append.1 ht with ht | ht
      · exact h _ s (Nat.le_refl _) t ht
      · simp at ht
        subst ht
        rfl
theorem gen_like {p : Nat} {Ls Ws : List (List UInt8)} {os : List Int} (h : Gen p Ls Ws os) : ∀ n : Nat, Like n os (lexLines (n : Int) Ls) (lexLines ((p + 1 : Nat) : Int) Ws) := by
  induction h with
  | nil p => intro n; exact ⟨rfl, fun h => absurd rfl h, rfl, fun k x h => by simp [lexLines] at h⟩
  | cons p ins s d Ls Ws os h1 h2 g ih =>
    intro n
    have hi := ih (n + 1)
    rw [lexLines_ins 0 (d :: Ws) ins h1]
    have e1 : ((p + 1 : Nat) : Int) + (ins.length : Int) = ((p + ins.length + 1 : Nat) : Int) := by omega
    rw [e1]
    obtain ⟨l1, l2⟩ := lineT_dec h2 (n : Int) ((p + ins.length + 1 : Nat) : Int)
    have eA : lexLines (n : Int) (s :: Ls) = if (lineT (n : Int) (uncom s) []).2 ≠ 0 then ([], ((lineT (n : Int) (uncom s) []).2, (n : Int))) else
      (if (lexLines ((n + 1 : Nat) : Int) Ls).2.1 ≠ 0 then [] else (lineT (n : Int) (uncom s) []).1 ++ (lexLines ((n + 1 : Nat) : Int) Ls).1, (lexLines ((n + 1 : Nat) : Int) Ls).2) := by
      show (if _ then _ else _) = _
      rw [show (n : Int) + 1 = ((n + 1 : Nat) : Int) by omega]
    have eB : lexLines ((p + ins.length + 1 : Nat) : Int) (d :: Ws) = if (lineT (n : Int) (uncom s) []).2 ≠ 0 then ([], ((lineT (n : Int) (uncom s) []).2, ((p + ins.length + 1 : Nat) : Int))) else
      (if (lexLines ((p + ins.length + 1 + 1 : Nat) : Int) Ws).2.1 ≠ 0 then [] else (lineT (n : Int) (uncom s) []).1.map (setL ((p + ins.length + 1 : Nat) : Int)) ++ (lexLines ((p + ins.length + 1 + 1 : Nat) : Int) Ws).1, (lexLines ((p + ins.length + 1 + 1 : Nat) : Int) Ws).2) := by
      show (if _ then _ else _) = _
      rw [show ((p + ins.length + 1 : Nat) : Int) + 1 = ((p + ins.length + 1 + 1 : Nat) : Int) by omega, l1, l2]
    have i0 : (((p + ins.length + 1 : Nat) : Int) :: os)[0]? = some ((p + ins.length + 1 : Nat) : Int) := rfl
    by_cases he : (lineT (n : Int) (uncom s) []).2 = 0
    · have hne : ¬ ((lineT (n : Int) (uncom s) []).2 ≠ 0) := by simpa using he
      rw [if_neg hne] at eA eB
      rw [eA, eB]
      dsimp only
      by_cases hz : (lexLines ((n + 1 : Nat) : Int) Ls).2.1 = 0
      · have hz2 : (lexLines ((p + ins.length + 1 + 1 : Nat) : Int) Ws).2.1 = 0 := hi.err ▸ hz
        have hn1 : ¬ ((lexLines ((n + 1 : Nat) : Int) Ls).2.1 ≠ 0) := by simpa using hz
        have hn2 : ¬ ((lexLines ((p + ins.length + 1 + 1 : Nat) : Int) Ws).2.1 ≠ 0) := by simpa using hz2
        rw [if_neg hn1, if_neg hn2, if_neg hn2]
        refine ⟨hi.err, fun h => absurd hz h, by rw [List.length_append, List.length_append, List.length_map, hi.len], fun k x hx => ?_⟩
        rw [List.getElem?_append] at hx
        dsimp only
        rw [List.getElem?_append]
        simp only [List.length_map]
        split at hx
        · rename_i hk
          rw [if_pos hk]
          have hm := List.mem_of_getElem? hx
          refine ⟨0, _, by rw [lineT_lines _ _ x hm]; simp, i0, ?_⟩
          rw [List.getElem?_map, hx]
          rfl
        · rename_i hk
          rw [if_neg hk]
          obtain ⟨i, v, t1, t2, t3⟩ := hi.tok _ x hx
          exact ⟨i + 1, v, by rw [t1]; omega, t2, t3⟩
      · have hz2 : (lexLines ((p + ins.length + 1 + 1 : Nat) : Int) Ws).2.1 ≠ 0 := hi.err ▸ hz
        have hn1 : (lexLines ((n + 1 : Nat) : Int) Ls).2.1 ≠ 0 := hz
        rw [if_pos hn1, if_pos hz2]
        refine ⟨hi.err, fun h => ?_, rfl, fun k x hx => by simp at hx⟩
        obtain ⟨i, t1, t2⟩ := hi.line hz
        exact ⟨i + 1, by rw [t1]; omega, t2⟩
    · have hne : (lineT (n : Int) (uncom s) []).2 ≠ 0 := he
      rw [if_pos hne] at eA eB
      rw [eA, eB]
      dsimp only
      rw [if_pos hne]
      exact ⟨rfl, fun _ => ⟨0, by simp, i0⟩, rfl, fun k x hx => by simp at hx⟩
end Go.Proofs.Lx

end

section
/- LexBlank, as a plain law. -/
namespace Go.Proofs.Lx
open Go Ev Sx Pl
set_option maxRecDepth 10000
/-! ### texts of lines -/
def wideT : List (List UInt8) → List UInt8
  | [] => []
  | x :: q => x ++ 10 :: wideT q
theorem wideT_app : ∀ (a b : List (List UInt8)), wideT (a ++ b) = wideT a ++ wideT b
  | [], _ => rfl
  | x :: q, b => by
    show x ++ 10 :: wideT (q ++ b) = (x ++ 10 :: wideT q) ++ wideT b
    rw [wideT_app q b]
    simp
theorem wideT_one (x : List UInt8) : wideT [x] = x ++ [10] := rfl
theorem linesS_wide : ∀ (W : List (List UInt8)) (d : List UInt8), (∀ x ∈ W, (10 : UInt8) ∉ x) → (10 : UInt8) ∉ d → linesS (wideT W ++ d) = W ++ [d]
  | [], d, _, hd => linesS_no hd
  | x :: q, d, h, hd => by
    have e : wideT (x :: q) ++ d = x ++ 10 :: (wideT q ++ d) := by show (x ++ 10 :: wideT q) ++ d = _; simp
    rw [e, linesS_yes (h x (List.mem_cons_self ..)), linesS_wide q d (fun y hy => h y (List.mem_cons_of_mem _ hy)) hd]
    rfl
theorem Gen.no10 {p : Nat} {Ls Ws : List (List UInt8)} {os : List Int} (h : Gen p Ls Ws os) : ∀ x ∈ Ws, (10 : UInt8) ∉ x := by
  induction h with
  | nil => intro x hx; cases hx
  | cons p ins s d Ls Ws os h1 h2 g ih =>
    intro x hx
    rcases List.mem_append.1 hx with hx | hx
    · exact (h1 x hx).1
    · rcases List.mem_cons.1 hx with rfl | hx
      · exact h2.1
      · exact ih x hx
theorem Gen.lens {p : Nat} {Ls Ws : List (List UInt8)} {os : List Int} (h : Gen p Ls Ws os) : os.length = Ls.length := by
  induction h with
  | nil => rfl
  | cons p ins s d Ls Ws os h1 h2 g ih => simp [ih]
/-! ### the numbers that pick -/
theorem next_eq {m : Int} (hm : 0 < m) {how : List Int} (hh : ∀ x ∈ how, 0 ≤ x ∧ x ≤ 255) {k : Nat} (hk : k < 1000000) : ∃ r : Int, law13_LexBlank_z1 (m, (k : Int), how, ()) = some (r, ((k + 1 : Nat) : Int), how, ()) ∧ 0 ≤ r ∧ r < m := by
  show ∃ r, law13_LexBlank_z1_m0 m (k : Int) how = _ ∧ _
  unfold law13_LexBlank_z1_m0
  rw [succ64 (by omega)]
  by_cases h : how.length < k + 1
  · exact ⟨0, by rw [if_pos (by rw [gt_iff, ofNat_eq]; omega)], Int.le_refl _, hm⟩
  · have e : sub .i64 ((k + 1 : Nat) : Int) 1 = (k : Int) := by rw [sub64 (by omega) (by omega)]; omega
    have hkl : k < how.length := by omega
    have hb := hh how[k] (List.getElem_mem hkl)
    refine ⟨how[k].tmod m, ?_, Int.tmod_nonneg _ hb.1, Int.tmod_lt_of_pos _ hm⟩
    rw [if_neg (by rw [gt_iff, ofNat_eq]; omega), e, at_get (List.getElem?_eq_getElem hkl), Option.bind_some, need_t (by rw [nei_iff]; omega), cvt64 (by omega) (by omega)]
    rfl
theorem pick3 {r : Int} (h0 : 0 ≤ r) (h1 : r < 3) : ∃ x, at? ([[], [32], [9, 13]] : List (List UInt8)) r = some x ∧ (∀ c ∈ x, isB c.toNat = true) ∧ x.length ≤ 2 := by
  have : r = 0 ∨ r = 1 ∨ r = 2 := by omega
  rcases this with rfl | rfl | rfl
  · exact ⟨_, rfl, by decide, by decide⟩
  · exact ⟨_, rfl, by decide, by decide⟩
  · exact ⟨_, rfl, by decide, by decide⟩
theorem pick4 {r : Int} (h0 : 0 ≤ r) (h1 : r < 4) : ∃ x, at? ([[10], [32, 9, 10], [35, 32, 120, 32, 61, 32, 49, 10], [35, 10]] : List (List UInt8)) r = some (x ++ [10]) ∧ Ins x ∧ x.length ≤ 10 := by
  have : r = 0 ∨ r = 1 ∨ r = 2 ∨ r = 3 := by omega
  rcases this with rfl | rfl | rfl | rfl
  · exact ⟨[], rfl, ⟨by decide, by decide⟩, by decide⟩
  · exact ⟨[32, 9], rfl, ⟨by decide, by decide⟩, by decide⟩
  · exact ⟨[35, 32, 120, 32, 61, 32, 49], rfl, ⟨by decide, by decide⟩, by decide⟩
  · exact ⟨[35], rfl, ⟨by decide, by decide⟩, by decide⟩
theorem pick5 {r : Int} (h0 : 0 ≤ r) (h1 : r < 5) : ∃ x, at? ([[], [], [32], [35], [32, 35, 32, 121]] : List (List UInt8)) r = some x ∧ (10 : UInt8) ∉ x ∧ (∀ c ∈ uncom x, isB c.toNat = true) ∧ x.length ≤ 4 := by
  have : r = 0 ∨ r = 1 ∨ r = 2 ∨ r = 3 ∨ r = 4 := by omega
  rcases this with rfl | rfl | rfl | rfl | rfl
  · exact ⟨[], rfl, by decide, by decide, by decide⟩
  · exact ⟨[], rfl, by decide, by decide, by decide⟩
  · exact ⟨[32], rfl, by decide, by decide, by decide⟩
  · exact ⟨[35], rfl, by decide, by decide, by decide⟩
  · exact ⟨[32, 35, 32, 121], rfl, by decide, by decide, by decide⟩
theorem uncom_app (a b : List UInt8) : uncom (a ++ b) = if (35 : UInt8) ∈ a then uncom a else a ++ uncom b := by
  unfold uncom
  induction a with
  | nil => simp
  | cons c q ih =>
    by_cases hc : c = 35
    · subst hc; simp
    · simp only [List.cons_append, List.takeWhile_cons]
      have : (c != 35) = true := by simp [hc]
      rw [this]
      simp only [if_true, ih]
      by_cases hm : (35 : UInt8) ∈ q
      · rw [if_pos hm, if_pos (List.mem_cons_of_mem _ hm)]
      · rw [if_neg hm, if_neg (by simp [hm]; exact fun e => hc e.symm)]
theorem dec_of {pre s post : List UInt8} (h10 : (10 : UInt8) ∉ s) (hp : ∀ c ∈ pre, isB c.toNat = true) (hq10 : (10 : UInt8) ∉ post) (hq : ∀ c ∈ uncom post, isB c.toNat = true) : Dec s (pre ++ s ++ post) := by
  have hp10 : (10 : UInt8) ∉ pre := fun h => by have := hp _ h; cases this
  have hp35 : (35 : UInt8) ∉ pre := fun h => by have := hp _ h; cases this
  refine ⟨by simp [h10, hp10, hq10], pre, if (35 : UInt8) ∈ s then [] else uncom post, ?_, hp, ?_⟩
  · rw [List.append_assoc, uncom_app, if_neg hp35, uncom_app]
    congr 1
    split
    · simp
    · rename_i h35
      have : uncom s = s := (tw_no h35).1
      rw [this]
  · split
    · intro c hc; cases hc
    · exact hq
/-! ### the loops -/
theorem ambB (a : Option (As [.bool])) : amb (eqAs [Ty.bool]) [a, a] = a := amb2 (eqAs_refl _) a
abbrev BSt := List UInt8 × List UInt8 × Int × List (List UInt8) × Int × Int × List Int × Int × List Int
abbrev BU := List UInt8 → List UInt8 → Int → List (List UInt8) → Int → Int → List Int → Int → List Int → Option (As [.bool])
theorem K7_eq (u : BU) (text wide s : List UInt8) (at' : Nat) (L : List (List UInt8)) (N : Int) (j : Nat) (of : List Int) (k : Nat) (how : List Int) (hh : ∀ x ∈ how, 0 ≤ x ∧ x ≤ 255) (hk : k < 900000) (hw : wide.length < 1000000) (hs : s.length < 100000) (ha : at' < 1000000) (hj : j < 1000000) (ho : of.length < 1000000) (h10 : (10 : UInt8) ∉ s) :
    ∃ d, Dec s d ∧ d.length ≤ s.length + 6 ∧ law13_LexBlank_K7 u text wide (at' : Int) s L N (j : Int) of (k : Int) how = u text (wide ++ d) ((at' + 1 : Nat) : Int) L N ((j + 1 : Nat) : Int) (of ++ [((at' + 1 : Nat) : Int)]) ((k + 2 : Nat) : Int) how := by
  obtain ⟨r3, e3, a3, b3⟩ := next_eq (m := 3) (by decide) hh (k := k) (by omega)
  obtain ⟨r5, e5, a5, b5⟩ := next_eq (m := 5) (by decide) hh (k := k + 1) (by omega)
  obtain ⟨pre, p1, p2, p3⟩ := pick3 a3 b3
  obtain ⟨post, q1, q2, q3, q4⟩ := pick5 a5 b5
  refine ⟨pre ++ s ++ post, dec_of h10 p2 q2 q3, by simp; omega, ?_⟩
  unfold law13_LexBlank_K7 law13_LexBlank_m7
  have n1 : small (of.length + 1) = true := small_iff.2 (by omega)
  have n2 : small (pre.length + s.length) = true := small_iff.2 (by omega)
  have n3 : small ((pre ++ s).length + post.length) = true := small_iff.2 (by simp; omega)
  have n4 : small (wide.length + (pre ++ s ++ post).length) = true := small_iff.2 (by simp; omega)
  have x1 : add .i64 (at' : Int) 1 = ((at' + 1 : Nat) : Int) := succ64 (by omega)
  have x2 : add .i64 (j : Int) 1 = ((j + 1 : Nat) : Int) := succ64 (by omega)
  rw [e3]
  simp only [Option.bind_some, p1]
  rw [e5]
  simp only [Option.bind_some, q1, need, n1, n2, n3, n4, if_true, x1, x2]
  generalize u text (wide ++ (pre ++ s ++ post)) ((at' + 1 : Nat) : Int) L N ((j + 1 : Nat) : Int) (of ++ [((at' + 1 : Nat) : Int)]) ((k + 1 + 1 : Nat) : Int) how = X
  rcases X with _ | ⟨b, _⟩
  · rfl
  · cases b <;> rfl
abbrev ISt := List UInt8 × List UInt8 × Int × List UInt8 × List (List UInt8) × Int × Int × Int × Int × List Int × Int × List Int
theorem K5_true (u : BU) (text s : List UInt8) (Ws : List (List UInt8)) (L : List (List UInt8)) (N : Int) (j : Nat) (of : List Int) (how : List Int) (c K0 : Nat) (hh : ∀ x ∈ how, 0 ≤ x ∧ x ≤ 255) (hK : K0 < 100000) (hw : (wideT Ws).length < 900000) (hs : s.length < 10000) (ha : Ws.length < 100000) (hj : j < 100000) (ho : of.length < 100000) (hc : c ≤ 2) (h10 : (10 : UInt8) ∉ s)
    (hu : ∀ (ins : List (List UInt8)) (d : List UInt8) (k' : Nat), (∀ x ∈ ins, Ins x) → ins.length ≤ 2 → (wideT ins).length ≤ 22 → Dec s d → d.length ≤ s.length + 6 → k' ≤ K0 + 4 → u text (wideT (Ws ++ ins) ++ d) ((Ws.length + ins.length + 1 : Nat) : Int) L N ((j + 1 : Nat) : Int) (of ++ [((Ws.length + ins.length + 1 : Nat) : Int)]) (k' : Int) how = some (true, ())) :
    ∀ (n : Nat) (st : ISt), (∃ (ins : List (List UInt8)), st = (text, wideT (Ws ++ ins), ((Ws.length + ins.length : Nat) : Int), s, L, N, (j : Int), (c : Int), (ins.length : Int), of, ((K0 + ins.length : Nat) : Int), how) ∧ ins.length ≤ c ∧ (∀ x ∈ ins, Ins x) ∧ (wideT ins).length ≤ 11 * ins.length) → c - st.2.2.2.2.2.2.2.2.1.toNat < n →
      loopF (fun (self : ISt → Option (As [.bool])) (s : ISt) => law13_LexBlank_m5 (law13_LexBlank_K7 u) u (fun text wide at' s t30 t31 t32 t42 t43 of o o_2 => self (text, wide, at', s, t30, t31, t32, t42, t43, of, o, o_2)) s.1 s.2.1 s.2.2.1 s.2.2.2.1 s.2.2.2.2.1 s.2.2.2.2.2.1 s.2.2.2.2.2.2.1 s.2.2.2.2.2.2.2.1 s.2.2.2.2.2.2.2.2.1 s.2.2.2.2.2.2.2.2.2.1 s.2.2.2.2.2.2.2.2.2.2.1 s.2.2.2.2.2.2.2.2.2.2.2) n st = some (true, ()) := by
  refine loopF_eq (σ := ISt) (μ := fun st => c - st.2.2.2.2.2.2.2.2.1.toNat) (G := fun _ => some (true, ())) ?_
  rintro self st ⟨ins, rfl, hi, hx, hwi⟩ ih
  simp only [Int.toNat_natCast] at ih ⊢
  unfold law13_LexBlank_m5
  have hwl : (wideT (Ws ++ ins)).length ≤ 900000 + 22 := by rw [wideT_app]; simp; omega
  by_cases hlt : ins.length < c
  · rw [if_pos (by rw [lt_iff]; omega)]
    obtain ⟨r, e4, a4, b4⟩ := next_eq (m := 4) (by decide) hh (k := K0 + ins.length) (by omega)
    obtain ⟨x, p1, p2, p3⟩ := pick4 a4 b4
    rw [e4]
    simp only [Option.bind_some, p1]
    rw [need_small (by simp; omega), succ64 (by omega), succ64 (by omega)]
    have := ih (text, wideT (Ws ++ ins) ++ (x ++ [10]), ((Ws.length + ins.length + 1 : Nat) : Int), s, L, N, (j : Int), (c : Int), ((ins.length + 1 : Nat) : Int), of, ((K0 + ins.length + 1 : Nat) : Int), how) ⟨ins ++ [x], ?_, by simp; omega, ?_, ?_⟩ (by simp; omega)
    · exact this
    · have e : wideT (Ws ++ ins) ++ (x ++ [10]) = wideT (Ws ++ (ins ++ [x])) := by rw [show Ws ++ (ins ++ [x]) = (Ws ++ ins) ++ [x] by simp, wideT_app (Ws ++ ins) [x]]; rfl
      rw [e]
      simp only [List.length_append, List.length_cons, List.length_nil]
      rfl
    · intro y hy
      rcases List.mem_append.1 hy with hy | hy
      · exact hx y hy
      · simp at hy; subst hy; exact p2
    · rw [wideT_app]
      have : (wideT [x]).length = x.length + 1 := by simp [wideT]
      simp
      omega
  · rw [if_neg (by rw [lt_iff]; omega)]
    obtain ⟨d, d1, d2, d3⟩ := K7_eq u text (wideT (Ws ++ ins)) s (Ws.length + ins.length) L N j of (K0 + ins.length) how hh (by omega) (by omega) (by omega) (by omega) (by omega) (by omega) h10
    rw [d3]
    exact hu ins d _ hx (by omega) (by omega) d1 d2 (by omega)
/-! ### both are held against each other -/
abbrev CSt := TL × TL × Int × Int × List Int
theorem K8_true {n : Nat} {os : List Int} {A B : TL × (Int × Int)} (h : Like 1 os A B) (hl : A.1.length < 1000000) (hos : os.length < 1000000) : law13_LexBlank_K8 A.1 B.1 (Int.ofNat A.1.length) 0 (0 :: os) = some (true, ()) := by
  have key : ∀ (k : Nat) (st : CSt), (∃ i : Nat, st = (A.1, B.1, Int.ofNat A.1.length, (i : Int), 0 :: os) ∧ i ≤ A.1.length) → A.1.length - st.2.2.2.1.toNat < k →
      loopF (fun (self : CSt → Option (As [.bool])) (s : CSt) => law13_LexBlank_m8 (law13_LexBlank_K9 (fun a b t136 t137 of => self (a, b, t136, t137, of))) (fun a b t136 t137 of => self (a, b, t136, t137, of)) s.1 s.2.1 s.2.2.1 s.2.2.2.1 s.2.2.2.2) k st = some (true, ()) := by
    refine loopF_eq (σ := CSt) (μ := fun st => A.1.length - st.2.2.2.1.toNat) (G := fun _ => some (true, ())) ?_
    rintro self st ⟨i, rfl, hi⟩ ih
    simp only [Int.toNat_natCast] at ih ⊢
    unfold law13_LexBlank_m8
    by_cases hlt : i < A.1.length
    · rw [if_pos (by rw [lt_iff, ofNat_eq]; omega)]
      have hg : A.1[i]? = some A.1[i] := List.getElem?_eq_getElem hlt
      obtain ⟨m, v, t1, t2, t3⟩ := h.tok i _ hg
      have hm : m < os.length := (List.getElem?_eq_some_iff.1 t2).1
      rw [at_get hg]
      simp only [Option.bind_some]
      rw [if_neg (by rw [lt_iff, t1]; omega)]
      have e : ge A.1[i].2.2.2 (Int.ofNat (0 :: os).length) = false := by rw [t1]; simp only [ge, ofNat_eq, List.length_cons, decide_eq_false_iff_not]; omega
      rw [e]
      unfold law13_LexBlank_K9 law13_LexBlank_m9
      rw [if_neg (by decide)]
      have hat : at? (0 :: os) A.1[i].2.2.2 = some v := by
        rw [t1]
        refine at_get ?_
        rw [Nat.add_comm]
        exact t2
      rw [hat]
      simp only [Option.bind_some]
      rw [at_get t3]
      simp only [Option.bind_some]
      have e2 : (!(eqi A.1[i].1 (setL v A.1[i]).1 && (eqs A.1[i].2.1 (setL v A.1[i]).2.1 && (eqi A.1[i].2.2.1.1 (setL v A.1[i]).2.2.1.1 && (eqi A.1[i].2.2.1.2 (setL v A.1[i]).2.2.1.2 && true) && (eqi v (setL v A.1[i]).2.2.2 && true))))) = false := by simp [setL, eqi, eqs]
      rw [e2, if_neg (by decide), succ64 (by omega)]
      exact ih (A.1, B.1, Int.ofNat A.1.length, ((i + 1 : Nat) : Int), 0 :: os) ⟨i + 1, rfl, by omega⟩ (by simp; omega)
    · rw [if_neg (by rw [lt_iff, ofNat_eq]; omega)]
      have haw : law13_awake () = some (true, ()) := awake13
      rw [haw]
      rfl
  exact key 18446744073709551616 (A.1, B.1, Int.ofNat A.1.length, 0, 0 :: os) ⟨0, rfl, by omega⟩ (by simp; omega)
theorem K4_true {text wide : List UInt8} {os : List Int} (ht : text.length ≤ 1500) (hos : os.length < 1000000) (h : wide.length ≤ 8192 → Like 1 os (lexR text) (lexR wide)) : law13_LexBlank_K4 text wide (0 :: os) = some (true, ()) := by
  unfold law13_LexBlank_K4 law13_LexBlank_m4
  have haw : law13_awake () = some (true, ()) := awake13
  rw [lex_eq, lex_eq, Option.bind_some, Option.bind_some]
  by_cases hw : 8192 < wide.length
  · rw [if_pos (by rw [gt_iff, ofNat_eq]; omega)]
    have e : lexR wide = ([], (130, 0)) := by unfold lexR; rw [if_pos hw]
    rw [e, if_pos (by decide), haw]
    rfl
  · rw [if_neg (by rw [gt_iff, ofNat_eq]; omega)]
    have hk := h (by omega)
    have hl := lexR_len text
    rw [if_neg (by rw [nei_iff]; simpa using hk.err), if_neg (by rw [nei_iff, ofNat_eq, ofNat_eq, hk.len]; simp)]
    have fin : law13_LexBlank_K6 (lexR text).1 (lexR wide).1 false (0 :: os) = some (true, ()) := by
      unfold law13_LexBlank_K6 law13_LexBlank_m6
      rw [if_neg (by decide)]
      exact K8_true (n := 1) hk (by omega) hos
    by_cases he : (lexR text).2.1 = 0
    · rw [if_neg (by rw [nei_iff]; simpa using he)]
      exact fin
    · rw [if_pos (by rw [nei_iff]; exact he)]
      obtain ⟨i, l1, l2⟩ := hk.line he
      have hi : i < os.length := (List.getElem?_eq_some_iff.1 l2).1
      have hat : at? (0 :: os) (lexR text).2.2 = some (lexR wide).2.2 := by
        rw [l1]
        refine at_get ?_
        rw [Nat.add_comm]
        exact l2
      rw [if_neg (by rw [lt_iff, l1]; omega), if_neg (by rw [ge_iff, l1, ofNat_eq]; simp; omega), hat, Option.bind_some, Option.bind_some]
      have : nei (lexR wide).2.2 (lexR wide).2.2 = false := by simp [nei]
      rw [this]
      exact fin
theorem blank_out (text : List UInt8) (how : List Int) (hh : ∀ x ∈ how, 0 ≤ x ∧ x ≤ 255) (ht : text.length ≤ 1500) (hc : (linesS text).length ≤ 201) : ∀ (n : Nat) (st : BSt),
    (∃ (j k : Nat) (Ws : List (List UInt8)) (os : List Int) (wide : List UInt8), st = (text, wide, (Ws.length : Int), linesS text, ((linesS text).length : Int), (j : Int), 0 :: os, (k : Int), how) ∧ Gen 0 ((linesS text).take j) Ws os ∧ ((j = 0 ∧ wide = [] ∧ Ws = []) ∨ (0 < j ∧ ∃ W' d, Ws = W' ++ [d] ∧ wide = wideT W' ++ d)) ∧ wide.length ≤ 2000 * j ∧ Ws.length ≤ 3 * j ∧ k ≤ 10 * j ∧ j ≤ (linesS text).length) → (linesS text).length - st.2.2.2.2.2.1.toNat < n →
      loopF (fun (self : BSt → Option (As [.bool])) (s : BSt) => law13_LexBlank_m2 (law13_LexBlank_K3 (fun text wide at' t30 t31 t32 of o o_2 => self (text, wide, at', t30, t31, t32, of, o, o_2))) law13_LexBlank_K4 (fun text wide at' t30 t31 t32 of o o_2 => self (text, wide, at', t30, t31, t32, of, o, o_2)) s.1 s.2.1 s.2.2.1 s.2.2.2.1 s.2.2.2.2.1 s.2.2.2.2.2.1 s.2.2.2.2.2.2.1 s.2.2.2.2.2.2.2.1 s.2.2.2.2.2.2.2.2) n st = some (true, ()) := by
  refine loopF_eq (σ := BSt) (μ := fun st => (linesS text).length - st.2.2.2.2.2.1.toNat) (G := fun _ => some (true, ())) ?_
  rintro self st ⟨j, k, Ws, os, wide, rfl, hg, hcase, hwl, hWl, hkl, hjl⟩ ih
  simp only [Int.toNat_natCast] at ih ⊢
  have hos := hg.lens
  rw [List.length_take] at hos
  unfold law13_LexBlank_m2
  by_cases hlt : j < (linesS text).length
  · rw [if_pos (by rw [lt_iff]; omega)]
    obtain ⟨s, hs⟩ : ∃ s, (linesS text)[j]? = some s := ⟨_, List.getElem?_eq_getElem hlt⟩
    have hmem := List.mem_of_getElem? hs
    have hsl := linesS_small _ text (Nat.le_refl _) s hmem
    have h10 : (10 : UInt8) ∉ s := by
      have : ∀ (m : Nat) (t : List UInt8), t.length ≤ m → ∀ x ∈ linesS t, (10 : UInt8) ∉ x := by
        intro m
        induction m with
        | zero =>
          intro t ht x hx
          have : t = [] := List.eq_nil_of_length_eq_zero (by omega)
          subst this
          rw [linesS_no (by simp)] at hx
          simp at hx
          subst hx
          simp
        | succ m ih =>
          intro t ht x hx
          rcases split_at 10 t with h | ⟨p, q, rfl, h⟩
          · rw [linesS_no h] at hx
            simp at hx
            subst hx
            exact h
          · rw [linesS_yes h] at hx
            simp at ht
            rcases List.mem_cons.1 hx with rfl | hx
            · exact h
            · exact ih q (by omega) x hx
      exact this _ text (Nat.le_refl _) s hmem
    rw [at_get hs, Option.bind_some]
    have htake : (linesS text).take (j + 1) = (linesS text).take j ++ [s] := by
      rw [List.take_add_one, hs]
      rfl
    -- from where the text ends with a line
    have go : ∀ w, w = wideT Ws → law13_LexBlank_K3 (fun text wide at' t30 t31 t32 of o o_2 => self (text, wide, at', t30, t31, t32, of, o, o_2)) text w (Ws.length : Int) s (linesS text) ((linesS text).length : Int) (j : Int) (0 :: os) (k : Int) how = some (true, ()) := by
      intro w hw
      have hwlen : w.length ≤ 2000 * j + 1 := by
        rw [hw]
        rcases hcase with ⟨_, _, rfl⟩ | ⟨_, W', d, rfl, rfl⟩
        · simp [wideT]
        · rw [wideT_app, wideT_one]
          simp at hwl ⊢
          omega
      unfold law13_LexBlank_K3 law13_LexBlank_m3
      obtain ⟨c, e3, a3, b3⟩ := next_eq (m := 3) (by decide) hh (k := k) (by omega)
      rw [e3, Option.bind_some]
      obtain ⟨c', rfl⟩ : ∃ c' : Nat, c = (c' : Int) := ⟨c.toNat, by omega⟩
      have h5 := K5_true (fun text wide at' t30 t31 t32 of o o_2 => self (text, wide, at', t30, t31, t32, of, o, o_2)) text s Ws (linesS text) ((linesS text).length : Int) j (0 :: os) how c' (k + 1) hh (by omega) (by rw [← hw]; omega) (by omega) (by omega) (by omega) (by simp; omega) (by omega) h10 (fun ins d k' i1 i2 i3 i4 i5 i6 => by
        refine ih (text, wideT (Ws ++ ins) ++ d, ((Ws.length + ins.length + 1 : Nat) : Int), linesS text, ((linesS text).length : Int), ((j + 1 : Nat) : Int), 0 :: os ++ [((Ws.length + ins.length + 1 : Nat) : Int)], (k' : Int), how) ⟨j + 1, k', Ws ++ (ins ++ [d]), os ++ [((Ws.length + ins.length + 1 : Nat) : Int)], wideT (Ws ++ ins) ++ d, ?_, ?_, .inr ⟨by omega, Ws ++ ins, d, by simp, rfl⟩, ?_, ?_, ?_, ?_⟩ ?_
        · simp only [List.length_append, List.length_cons, List.length_nil, List.cons_append]
          rw [show Ws.length + (ins.length + 1) = Ws.length + ins.length + 1 by omega]
        · rw [htake]
          have := hg.snoc i1 i4
          rw [Nat.zero_add] at this
          exact this
        · rw [wideT_app]
          rw [← hw]
          simp
          omega
        · simp; omega
        · omega
        · omega
        · simp; omega)
      have := h5 18446744073709551616 (text, w, (Ws.length : Int), s, linesS text, ((linesS text).length : Int), (j : Int), (c' : Int), 0, 0 :: os, ((k + 1 : Nat) : Int), how) ⟨[], by rw [hw]; simp, by simp, by simp, by simp [wideT]⟩ (by simp; omega)
      exact this
    by_cases hj0 : 0 < j
    · rw [if_pos (by rw [gt_iff]; omega), need_small (by simp; omega)]
      refine go _ ?_
      rcases hcase with ⟨h0, _⟩ | ⟨_, W', d, rfl, rfl⟩
      · omega
      · rw [wideT_app, wideT_one]
        simp
    · rw [if_neg (by rw [gt_iff]; omega)]
      refine go _ ?_
      rcases hcase with ⟨_, rfl, rfl⟩ | ⟨h0, _⟩
      · rfl
      · omega
  · rw [if_neg (by rw [lt_iff]; omega)]
    refine K4_true ht (by omega) (fun hw8 => ?_)
    have hall : (linesS text).take j = linesS text := List.take_of_length_le (by omega)
    rw [hall] at hg
    rcases hcase with ⟨h0, _, _⟩ | ⟨_, W', d, rfl, rfl⟩
    · have := linesS_len _ text (Nat.le_refl _)
      omega
    · have hno := hg.no10
      have e1 : lexR text = lexLines ((1 : Nat) : Int) (linesS text) := by
        unfold lexR
        rw [if_neg (by omega), lexS_lines _ text 1 (Nat.le_refl _)]
        rfl
      have e2 : lexR (wideT W' ++ d) = lexLines ((0 + 1 : Nat) : Int) (W' ++ [d]) := by
        unfold lexR
        rw [if_neg (by omega), lexS_lines _ _ 1 (Nat.le_refl _), linesS_wide W' d (fun x hx => hno x (by simp [hx])) (hno d (by simp))]
        rfl
      rw [e1, e2]
      exact gen_like hg 1
theorem blank_law (s : List UInt8) (how : List Int) (hh : ∀ x ∈ how, 0 ≤ x ∧ x ≤ 255) : law13_LexBlank (s, how, ()) = some (true, ()) := by
  show law13_LexBlank_m0 law13_LexBlank_K1 s how = _
  have haw : law13_awake () = some (true, ()) := awake13
  have bad : law13_LexBlank_K1 s true how = some (true, ()) := by
    unfold law13_LexBlank_K1 law13_LexBlank_m1
    rw [if_pos rfl, haw]
    rfl
  unfold law13_LexBlank_m0
  by_cases h : 1500 < s.length
  · rw [if_pos (by rw [gt_iff, ofNat_eq]; omega)]
    exact bad
  · have hcount : strings_Count (s, [10], ()) = some (((s.count 10 : Nat) : Int), ()) := rfl
    rw [if_neg (by rw [gt_iff, ofNat_eq]; omega), hcount, Option.bind_some]
    by_cases h2 : 200 < s.count 10
    · rw [show gt ((s.count 10 : Nat) : Int) 200 = true by rw [gt_iff]; omega]
      exact bad
    · rw [show gt ((s.count 10 : Nat) : Int) 200 = false by simp [gt]; omega]
      unfold law13_LexBlank_K1 law13_LexBlank_m1
      rw [if_neg (by decide), split_eq (by omega), Option.bind_some]
      have hlen := linesS_len _ s (Nat.le_refl _)
      exact blank_out s how hh (by omega) (by omega) 18446744073709551616 (s, [], 0, linesS s, ((linesS s).length : Int), 0, [0], 0, how) ⟨0, 0, [], [], [], rfl, Gen.nil 0, .inl ⟨rfl, rfl, rfl⟩, by simp, by simp, by omega, by omega⟩ (by simp; omega)
theorem blank_row (x : As [.str, .sl (.int .u8)]) (hx : Rw.okA [.str, .sl (.int .u8)] x) : law13_LexBlank x = some (true, ()) :=
  blank_law x.1 x.2.1 fun y hy => Go.bounds_u8 (hx.2.1.2 y hy)
end Go.Proofs.Lx

end
