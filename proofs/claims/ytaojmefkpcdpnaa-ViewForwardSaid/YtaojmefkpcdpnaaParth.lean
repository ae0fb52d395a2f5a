/- Proved in the last of these 9 parts (this is part 8): record by record registers show of a job what comes behind what they showed, for any records and any numbers that wait. Conditions: those of the given statement, and no others. -/
import Derived.Test.YtaojmefkpcdpnaaPartg
import Derived.Test.YtaojmefkpcdpnaaParte
set_option linter.unusedVariables false
set_option linter.unusedSimpArgs false
set_option linter.unusedSectionVars false
section
/- What registers say, read: as plain Lean. -/
namespace Go.Proofs.Lx
open Go Ev Sx Pl
set_option maxRecDepth 100000
abbrev TLine := Int × Int × Int
abbrev TMem := List Bool × List Bool × List Int × List Int
abbrev RRd := Option (List TLine × Bool × Unit)
theorem cvt32 (x : Int) : cvt .u32 x = x % 4294967296 := by
  show IntKind.u32.wrap x = _
  simp only [IntKind.wrap, IntKind.signed, IntKind.bits]
  simp
theorem wide_eq {a b : Int} (ha : 0 ≤ a) (ha2 : a < 65536) (hb : 0 ≤ b) (hb2 : b < 65536) : words_Wide (a, b, ()) = some (65536 * a + b, ()) := by
  obtain ⟨n, rfl⟩ := Int.eq_ofNat_of_zero_le ha
  obtain ⟨m, rfl⟩ := Int.eq_ofNat_of_zero_le hb
  show words_Wide_m0 (n : Int) (m : Int) = _
  unfold words_Wide_m0
  have hs : Sx.shl .u32 (cvt .u32 (n : Int)) 16 = ((65536 * n : Nat) : Int) := by
    rw [cvt32]
    unfold Sx.shl
    have : min (16 : Int).toNat IntKind.u32.bits = 16 := by decide
    rw [this]
    show cvt .u32 _ = _
    rw [cvt32]
    omega
  rw [hs, cvt32, Int.emod_eq_of_lt (by omega) (by omega)]
  have e1 : (BitVec.ofInt IntKind.u32.bits ((65536 * n : Nat) : Int)).toNat = 65536 * n := by
    rw [BitVec.toNat_ofInt]
    have : ((2 ^ IntKind.u32.bits : Nat) : Int) = 4294967296 := by decide
    rw [this]
    omega
  have e2 : (BitVec.ofInt IntKind.u32.bits (m : Int)).toNat = m := by
    rw [BitVec.toNat_ofInt]
    have : ((2 ^ IntKind.u32.bits : Nat) : Int) = 4294967296 := by decide
    rw [this]
    omega
  have e3 : 65536 * n ||| m = 65536 * n + m := by
    have := Nat.two_pow_add_eq_or_of_lt (i := 16) (b := m) (by omega) n
    rw [show (2 : Nat) ^ 16 = 65536 from rfl] at this
    exact this.symm
  unfold bor
  rw [BitVec.toNat_or, e1, e2, e3]
  show some (cvt .u32 _, ()) = _
  rw [cvt32]
  congr 2
  omega
def quads : List Int → List TLine
  | a :: b :: c :: d :: r => (65536 * a + b, c, d) :: quads r
  | _ => []
theorem quads_nth : ∀ (i : Nat) {h : List Int} {a b c d : Int}, h[4 * i]? = some a → h[4 * i + 1]? = some b → h[4 * i + 2]? = some c → h[4 * i + 3]? = some d → (quads h)[i]? = some (65536 * a + b, c, d)
  | 0, x :: y :: z :: w :: r, a, b, c, d, h1, h2, h3, h4 => by
    simp at h1 h2 h3 h4
    subst h1 h2 h3 h4
    rfl
  | i + 1, x :: y :: z :: w :: r, a, b, c, d, h1, h2, h3, h4 => by
    show (quads r)[i]? = _
    rw [show 4 * (i + 1) = 4 * i + 4 by omega] at h1 h2 h3 h4
    exact quads_nth i (by simpa using h1) (by simpa [Nat.add_right_comm] using h2) (by simpa [Nat.add_right_comm] using h3) (by simpa [Nat.add_right_comm] using h4)
  | i, [], a, b, c, d, h1, h2, h3, h4 => by simp at h1
  | i, [x], a, b, c, d, h1, h2, h3, h4 => by simp at h2
  | i, [x, y], a, b, c, d, h1, h2, h3, h4 => by simp at h3
  | i, [x, y, z], a, b, c, d, h1, h2, h3, h4 => by simp at h4
theorem quads_len : ∀ (n : Nat) {h : List Int}, h.length = 4 * n → (quads h).length = n
  | 0, h, e => by rw [List.eq_nil_of_length_eq_zero (show h.length = 0 by omega)]; rfl
  | n + 1, x :: y :: z :: w :: r, e => by
    show (quads r).length + 1 = _
    rw [quads_len n (by simp at e; omega)]
  | n + 1, [], e => by simp at e
  | n + 1, [x], e => by simp at e; omega
  | n + 1, [x, y], e => by simp at e; omega
  | n + 1, [x, y, z], e => by simp at e; omega
def possS (x : TLine) : Bool := decide (1 ≤ x.2.1 ∧ x.2.1 ≤ 6 ∧ 1 ≤ x.2.2 ∧ x.2.2 ≤ 255)
theorem poss_eq (x : TLine) : view_possible (x, ()) = some (possS x, ()) := by
  show view_possible_m0 x = _
  unfold view_possible_m0 possS
  simp only [ge_dec, le_dec, decide_eq_true_eq]
  grind
def okL : Int → List TLine → Bool
  | _, [] => true
  | b, x :: r => decide (b < x.1) && possS x && okL x.1 r
theorem okL_cons (b : Int) (x : TLine) (r : List TLine) : okL b (x :: r) = (decide (b < x.1) && possS x && okL x.1 r) := rfl
def noR : RRd := some ([], false, ())
theorem okL_go {fin : Int × List TLine → RRd} : ∀ (r : List TLine) (b : Int) (l : List TLine), l.length + r.length ≤ 1000 → (∀ c d m, fin (c, m) = fin (d, m)) →
    goL (R := List TLine × Bool × Unit) (fun (a : Int × List TLine) (x : TLine) k => if (decide (a.1 < x.1) && possS x) = true then need (small (a.2.length + 1)) (k (x.1, a.2 ++ [x])) else noR) fin r (b, l) = if okL b r = true then fin (b, l ++ r) else noR
  | [], b, l, _, _ => by
    show fin (b, l) = _
    rw [List.append_nil]
    rfl
  | x :: r, b, l, hl, hf => by
    rw [List.length_cons] at hl
    show (if _ then need (small (l.length + 1)) (goL _ _ r (x.1, l ++ [x])) else noR) = _
    rw [okL_go r x.1 (l ++ [x]) (by rw [List.length_append, List.length_singleton]; omega) hf, need_small (by omega)]
    rw [List.append_assoc, List.singleton_append, okL_cons]
    cases hc : (decide (b < x.1) && possS x) with
    | false => rfl
    | true =>
      rw [Bool.true_and, if_pos rfl, hf x.1 b]
def readV (m : TMem) : RRd :=
  if m.1.length = 0 ∧ m.2.1.length = 0 ∧ m.2.2.2.length = 0 ∧ m.2.2.1.length = 50 then
    match m.2.2.1[0]?, m.2.2.1[1]? with
    | some a, some s => if s = (if 12 < a then 12 else a) then
        (if (okL (a - s) ((quads (m.2.2.1.drop 2)).take s.toNat) && (m.2.2.1.drop (2 + 4 * s.toNat)).all (fun x => decide (x = 0))) = true then some ((quads (m.2.2.1.drop 2)).take s.toNat, true, ()) else noR) else noR
    | _, _ => noR
  else noR
theorem zeros_eq {y : List Int} (hy : y.length ≤ 1000) (l : List TLine) : view_Read_K6 y (Int.ofNat y.length) ((0 : Nat) : Int) l = if y.all (fun x => decide (x = 0)) = true then some (l, true, ()) else noR := by
  have key : ∀ r : List Int, goL (R := List TLine × Bool × Unit) (fun (_ : Unit) (x : Int) k => if x = 0 then k () else noR) (fun _ => some (l, true, ())) r () = if r.all (fun x => decide (x = 0)) = true then some (l, true, ()) else noR := by
    intro r
    induction r with
    | nil => rfl
    | cons x r ih =>
      show (if x = 0 then goL _ _ r () else noR) = _
      rw [ih, List.all_cons]
      by_cases h : x = 0
      · rw [if_pos h, decide_eq_true h, Bool.true_and]
      · rw [if_neg h, decide_eq_false h, Bool.false_and]
        rfl
  rw [← key]
  unfold view_Read_K6
  refine loop_go (xs := y) (mk := fun i _ => (y, Int.ofNat y.length, (i : Int), l)) ?_ ?_ y.length 0 () _ (by omega) (by omega)
  · intro self i _ x hx
    have hi := (List.getElem?_eq_some_iff.1 hx).1
    show view_Read_m6 _ _ y (Int.ofNat y.length) (i : Int) l = _
    unfold view_Read_m6
    rw [if_pos (by rw [lt_iff, ofNat_eq]; omega), at_get hx, Option.bind_some, succ64 (by omega)]
    by_cases h : x = 0
    · rw [if_neg (by rw [nei_iff]; exact fun e => e h), if_pos h]
    · rw [if_pos (nei_iff.2 h), if_neg h]
      rfl
  · intro self _
    show view_Read_m6 _ _ y (Int.ofNat y.length) (y.length : Int) l = _
    unfold view_Read_m6
    rw [if_neg (by rw [lt_iff, ofNat_eq]; omega)]
    rfl
theorem vread_K2 {h : List Int} (hl : h.length = 50) (hr : ∀ x ∈ h, 0 ≤ x ∧ x < 65536) {s : Nat} (hs : s ≤ 12) (b : Int) : view_Read_K2 h (s : Int) b (s : Int) ((0 : Nat) : Int) [] =
    if (okL b ((quads (h.drop 2)).take s) && (h.drop (2 + 4 * s)).all (fun x => decide (x = 0))) = true then some ((quads (h.drop 2)).take s, true, ()) else noR := by
  have hq : (quads (h.drop 2)).length = 12 := quads_len 12 (by rw [List.length_drop]; omega)
  have hxs : ((quads (h.drop 2)).take s).length = s := by rw [List.length_take]; omega
  have k4 : ∀ l, view_Read_K4 h (s : Int) l = if (h.drop (2 + 4 * s)).all (fun x => decide (x = 0)) = true then some (l, true, ()) else noR := fun l => by
    have e0 : add .i64 2 (mul .i64 4 (s : Int)) = ((2 + 4 * s : Nat) : Int) := by
      rw [mul64 (by omega) (by omega), add64 (by omega) (by omega)]; omega
    unfold view_Read_K4 view_Read_m4
    rw [e0, cut_from (by omega), Option.bind_some]
    exact zeros_eq (by rw [List.length_drop]; omega) l
  have main : view_Read_K2 h (s : Int) b (s : Int) ((0 : Nat) : Int) [] = goL (R := List TLine × Bool × Unit) (fun (a : Int × List TLine) (x : TLine) k => if (decide (a.1 < x.1) && possS x) = true then need (small (a.2.length + 1)) (k (x.1, a.2 ++ [x])) else noR) (fun a => view_Read_K4 h (s : Int) a.2) (((quads (h.drop 2)).take s).drop 0) (b, []) := by
    unfold view_Read_K2
    refine loop_go (xs := (quads (h.drop 2)).take s) (mk := fun i (a : Int × List TLine) => (h, (s : Int), a.1, (s : Int), (i : Int), a.2)) ?_ ?_ s 0 (b, []) _ (by omega) (by omega)
    · intro self i a x hx
      obtain ⟨b, l⟩ := a
      have hi : i < s := by
        have := (List.getElem?_eq_some_iff.1 hx).1
        omega
      have g0 : h[2 + 4 * i]? = some (h[2 + 4 * i]'(by omega)) := List.getElem?_eq_getElem (by omega)
      have g1 : h[2 + 4 * i + 1]? = some (h[2 + 4 * i + 1]'(by omega)) := List.getElem?_eq_getElem (by omega)
      have g2 : h[2 + 4 * i + 2]? = some (h[2 + 4 * i + 2]'(by omega)) := List.getElem?_eq_getElem (by omega)
      have g3 : h[2 + 4 * i + 3]? = some (h[2 + 4 * i + 3]'(by omega)) := List.getElem?_eq_getElem (by omega)
      have r0 := hr _ (List.getElem_mem (l := h) (n := 2 + 4 * i) (by omega))
      have r1 := hr _ (List.getElem_mem (l := h) (n := 2 + 4 * i + 1) (by omega))
      generalize (h[2 + 4 * i]'(by omega)) = p at g0 r0
      generalize (h[2 + 4 * i + 1]'(by omega)) = q at g1 r1
      generalize (h[2 + 4 * i + 2]'(by omega)) = u at g2
      generalize (h[2 + 4 * i + 3]'(by omega)) = v at g3
      have hx2 : x = (65536 * p + q, u, v) := by
        have := quads_nth i (h := h.drop 2) (a := p) (b := q) (c := u) (d := v) (by rw [List.getElem?_drop]; exact g0) (by rw [List.getElem?_drop]; exact g1) (by rw [List.getElem?_drop]; exact g2) (by rw [List.getElem?_drop]; exact g3)
        rw [List.getElem?_take_of_lt hi, this] at hx
        exact (Option.some.inj hx).symm
      show view_Read_m2 _ _ _ h (s : Int) b (s : Int) (i : Int) l = _
      unfold view_Read_m2
      have e0 : add .i64 2 (mul .i64 4 (i : Int)) = ((2 + 4 * i : Nat) : Int) := by
        rw [mul64 (by omega) (by omega), add64 (by omega) (by omega)]; omega
      have e1 : add .i64 ((2 + 4 * i : Nat) : Int) 1 = ((2 + 4 * i + 1 : Nat) : Int) := succ64 (by omega)
      have e2 : add .i64 ((2 + 4 * i : Nat) : Int) 2 = ((2 + 4 * i + 2 : Nat) : Int) := by rw [add64 (by omega) (by omega)]; omega
      have e3 : add .i64 ((2 + 4 * i : Nat) : Int) 3 = ((2 + 4 * i + 3 : Nat) : Int) := by rw [add64 (by omega) (by omega)]; omega
      rw [if_pos (by rw [lt_iff]; omega), e0, e1, e2, e3, at_get g0, Option.bind_some, at_get g1, Option.bind_some, at_get g2, Option.bind_some, at_get g3, Option.bind_some, amb2 (eqAs_refl _), wide_eq r0.1 r0.2 r1.1 r1.2, Option.bind_some]
      dsimp only
      rw [← hx2]
      have K5 : ∀ t, view_Read_K5 (fun h shown before t55 t56 l => self (h, shown, before, t55, t56, l)) h (s : Int) (s : Int) (i : Int) t l x = if t = true then noR else need (small (l.length + 1)) (self (h, (s : Int), x.1, (s : Int), ((i + 1 : Nat) : Int), l ++ [x])) := fun t => by
        unfold view_Read_K5 view_Read_m5
        rw [succ64 (by omega)]
        rfl
      unfold view_Read_K3 view_Read_m3
      rw [poss_eq]
      show (if le x.1 b = true then view_Read_K5 _ h (s : Int) (s : Int) (i : Int) true l x else view_Read_K5 _ h (s : Int) (s : Int) (i : Int) (!possS x) l x) = _
      rw [K5, K5]
      by_cases hb : b < x.1
      · rw [if_neg (by rw [le_iff]; omega), decide_eq_true hb, Bool.true_and]
        cases possS x <;> rfl
      · rw [if_pos (by rw [le_iff]; omega), decide_eq_false hb, Bool.false_and]
        rfl
    · intro self a
      show view_Read_m2 _ _ _ h (s : Int) a.1 (s : Int) ((((quads (h.drop 2)).take s).length : Nat) : Int) a.2 = _
      unfold view_Read_m2
      rw [if_neg (by rw [lt_iff, hxs]; omega)]
  rw [main, List.drop_zero, okL_go _ _ _ (by rw [hxs, List.length_nil]; omega) (fun _ _ _ => rfl), List.nil_append, k4]
  cases okL b ((quads (h.drop 2)).take s) <;> rfl
theorem vread_eq {m : TMem} (hr : ∀ x ∈ m.2.2.1, 0 ≤ x ∧ x < 65536) (hb : m.1.length ≤ 1000000 ∧ m.2.1.length ≤ 1000000 ∧ m.2.2.1.length ≤ 1000000 ∧ m.2.2.2.length ≤ 1000000) : view_Read (m, ()) = readV m := by
  obtain ⟨c, i, h, w⟩ := m
  have hr : ∀ x ∈ h, 0 ≤ x ∧ x < 65536 := hr
  show view_Read_m0 view_Read_K1 (c, i, h, w) = _
  unfold view_Read_m0 readV
  have hn : ∀ n : Nat, nei (Int.ofNat n) 0 = true ↔ n ≠ 0 := fun n => by rw [nei_iff, ofNat_eq]; omega
  have K1t : view_Read_K1 true (c, i, h, w) = noR := rfl
  dsimp only
  by_cases h1 : c.length = 0
  · rw [if_neg (by rw [hn]; omega)]
    by_cases h2 : i.length = 0
    · rw [if_neg (by rw [hn]; omega)]
      by_cases h3 : w.length = 0
      · rw [if_neg (by rw [hn]; omega)]
        by_cases h4 : h.length = 50
        · rw [if_pos ⟨h1, h2, h3, h4⟩]
          have : nei (Int.ofNat h.length) 50 = false := by rw [h4]; rfl
          rw [this]
          have g0 : h[0]? = some (h[0]'(by omega)) := List.getElem?_eq_getElem (by omega)
          have g1 : h[1]? = some (h[1]'(by omega)) := List.getElem?_eq_getElem (by omega)
          have r0 := hr _ (List.getElem_mem (l := h) (n := 0) (by omega))
          have r1 := hr _ (List.getElem_mem (l := h) (n := 1) (by omega))
          generalize (h[0]'(by omega)) = a at g0 r0
          generalize (h[1]'(by omega)) = s at g1 r1
          rw [g0, g1]
          show view_Read_m1 view_Read_K2 false (c, i, h, w) = _
          unfold view_Read_m1
          dsimp only
          have a0 : at? h 0 = some a := at_get (i := 0) g0
          have a1 : at? h 1 = some s := at_get (i := 1) g1
          rw [if_neg (by decide), a0, a1, Option.bind_some, Option.bind_some, Option.bind_some, cvt64 (by omega) (by omega), cvt64 (by omega) (by omega)]
          by_cases hs : s = (if 12 < a then 12 else a)
          · have hmin : (if lt 12 a = true then 12 else a) = (if 12 < a then 12 else a) := by simp only [lt_iff]
            rw [hmin, ← hs, if_neg (by rw [nei_iff]; exact fun e => e rfl), if_pos rfl]
            obtain ⟨n, rfl⟩ := Int.eq_ofNat_of_zero_le r1.1
            have hn12 : (n : Int) ≤ 12 ∧ (n : Int) ≤ a := by
              rw [hs]
              split <;> omega
            have hbf : cvt .u32 (sub .i64 a (n : Int)) = a - n := by
              rw [sub64 (by omega) (by omega), cvt32, Int.emod_eq_of_lt (by omega) (by omega)]
            rw [hbf]
            exact vread_K2 h4 hr (by omega) _
          · have hmin : (if lt 12 a = true then 12 else a) = (if 12 < a then 12 else a) := by simp only [lt_iff]
            rw [hmin, if_pos (by rw [nei_iff]; exact hs), if_neg hs]
            rfl
        · rw [if_neg (fun e => h4 e.2.2.2)]
          have : nei (Int.ofNat h.length) 50 = true := by rw [nei_iff, ofNat_eq]; omega
          rw [this]
          exact K1t
      · rw [if_pos (by rw [hn]; exact h3), if_neg (fun e => h3 e.2.2.1)]
        exact K1t
    · rw [if_pos (by rw [hn]; exact h2), if_neg (fun e => h2 e.2.1)]
      exact K1t
  · rw [if_pos (by rw [hn]; exact h1), if_neg (fun e => h1 e.1)]
    exact K1t
/-- the line of a job -/
def lineT (waits : List Int) (j : TJob) : TLine := (j.1, stW waits j, j.2.1)
theorem quads_mem (waits : List Int) (k : Nat) : ∀ S : List TJob, quads (S.flatMap (lineS waits) ++ List.replicate (4 * k) 0) = S.map (lineT waits) ++ List.replicate k (0, 0, 0)
  | [] => by
    induction k with
    | zero => rfl
    | succ k ih =>
      rw [show 4 * (k + 1) = 4 * k + 4 by omega]
      show _ :: quads (List.replicate (4 * k) 0) = _
      have ih : quads (List.replicate (4 * k) 0) = List.replicate k (0, 0, 0) := ih
      rw [ih]
      rfl
  | j :: S => by
    rw [List.flatMap_cons, List.append_assoc]
    show _ :: quads (S.flatMap (lineS waits) ++ List.replicate (4 * k) 0) = _
    rw [quads_mem waits k S]
    show (65536 * (j.1 / 65536) + j.1 % 65536, stW waits j, j.2.1) :: _ = (j.1, stW waits j, j.2.1) :: _
    rw [show 65536 * (j.1 / 65536) + j.1 % 65536 = j.1 by omega]
    rfl
theorem stW_rng {waits : List Int} {j : TJob} (h1 : 1 ≤ j.2.2.2) (h2 : j.2.2.2 ≤ 5) : 1 ≤ stW waits j ∧ stW waits j ≤ 6 := by
  unfold stW
  split <;> omega
theorem okL_jobs (waits : List Int) : ∀ (S : List TJob) (b : Int), rightJ b S = true → (∀ j ∈ S, j.2.1 < 256 ∧ 0 ≤ j.2.1) → okL b (S.map (lineT waits)) = true
  | [], _, _, _ => rfl
  | j :: S, b, h, ho => by
    rw [rightJ_cons] at h
    rw [Bool.and_eq_true, decide_eq_true_eq] at h
    have hj := ho j List.mem_cons_self
    have hst := stW_rng (waits := waits) h.1.2.2.2.1 h.1.2.2.2.2
    rw [List.map_cons, okL_cons, show (lineT waits j).1 = j.1 from rfl, okL_jobs waits S j.1 h.2 (fun x hx => ho x (List.mem_cons_of_mem _ hx))]
    have hp : possS (lineT waits j) = true := by
      unfold possS lineT
      rw [decide_eq_true_eq]
      dsimp only
      have := h.1.2.1
      omega
    rw [hp, decide_eq_true (show b < j.1 from h.1.1)]
    rfl
theorem rightJ_drop {l : List TJob} {b : Int} (h : rightJ b l = true) : ∀ n : Nat, n ≤ l.length → rightJ (b + n) (l.drop n) = true := by
  induction l generalizing b with
  | nil => intro n _; rw [List.drop_nil]; rfl
  | cons j r ih =>
    intro n hn
    cases n with
    | zero => simpa using h
    | succ n =>
      have h0 := h
      rw [rightJ_cons] at h
      rw [Bool.and_eq_true, decide_eq_true_eq] at h
      have hn' : n ≤ r.length := by simpa using hn
      have := ih h.2 n hn'
      rw [List.drop_succ_cons]
      have mono : ∀ {S : List TJob} {p q : Int}, q ≤ p → rightJ p S = true → rightJ q S = true := fun {S p q} hpq hS => by
        cases S with
        | nil => rfl
        | cons x S =>
          rw [rightJ_cons] at hS ⊢
          rw [Bool.and_eq_true, decide_eq_true_eq] at hS ⊢
          exact ⟨⟨by omega, hS.1.2⟩, hS.2⟩
      exact mono (by have := h.1.1; omega) this
theorem memH_rng {l : List TJob} {waits : List Int} (ho : ∀ j ∈ l, OkJ j) : ∀ x ∈ memH l waits, 0 ≤ x ∧ x < 65536 := by
  have hn := shown_len l
  intro x hx
  unfold memH at hx
  rcases List.mem_cons.1 hx with rfl | hx
  · split <;> omega
  · rcases List.mem_cons.1 hx with rfl | hx
    · omega
    · rcases List.mem_append.1 hx with hx | hx
      · obtain ⟨j, hj, hx⟩ := List.mem_flatMap.1 hx
        have hok := ho j (List.mem_of_mem_drop hj)
        obtain ⟨o1, o2, o3, o4, o5, o6⟩ := hok
        have hst : 0 ≤ stW waits j ∧ stW waits j < 256 := by unfold stW; split <;> omega
        simp [lineS] at hx
        rcases hx with rfl | rfl | rfl | rfl <;> omega
      · have := List.eq_of_mem_replicate hx
        omega
theorem read_mem {l : List TJob} (hl : l.length ≤ 1000000) {waits : List Int} (ho : ∀ j ∈ l, OkJ j) (hr : rightJ 0 l = true) : view_Read (([], [], memH l waits, []), ()) = some ((shownS l).map (lineT waits), true, ()) := by
  have hlen := memH_len l waits
  obtain ⟨n1, n2, n3, n4⟩ := shown_len l
  rw [vread_eq (memH_rng ho) ⟨Nat.zero_le _, Nat.zero_le _, by show (memH l waits).length ≤ _; omega, Nat.zero_le _⟩]
  unfold readV
  dsimp only
  rw [if_pos ⟨rfl, rfl, rfl, hlen⟩]
  have g0 : (memH l waits)[0]? = some (if 65535 < l.length then 65535 else (l.length : Int)) := rfl
  have g1 : (memH l waits)[1]? = some ((shownS l).length : Int) := rfl
  rw [g0, g1]
  dsimp only
  have hmin : ((shownS l).length : Int) = (if 12 < (if 65535 < l.length then 65535 else (l.length : Int)) then 12 else (if 65535 < l.length then 65535 else (l.length : Int))) := by
    split <;> split <;> omega
  rw [if_pos hmin, Int.toNat_natCast]
  have e2 : (memH l waits).drop 2 = (shownS l).flatMap (lineS waits) ++ List.replicate (4 * (12 - (shownS l).length)) 0 := rfl
  have eq : (quads ((memH l waits).drop 2)).take (shownS l).length = (shownS l).map (lineT waits) := by
    rw [e2, quads_mem]
    exact List.take_left' (by rw [List.length_map])
  have ez : (memH l waits).drop (2 + 4 * (shownS l).length) = List.replicate (4 * (12 - (shownS l).length)) 0 := by
    rw [← List.drop_drop, e2]
    exact List.drop_left' (flat4 (line4 waits) _)
  have hz : ((memH l waits).drop (2 + 4 * (shownS l).length)).all (fun x => decide (x = 0)) = true := by
    rw [ez, List.all_eq_true]
    intro x hx
    rw [List.eq_of_mem_replicate hx]
    rfl
  have hk : okL ((if 65535 < l.length then 65535 else (l.length : Int)) - ((shownS l).length : Int)) ((shownS l).map (lineT waits)) = true := by
    refine okL_jobs waits _ _ ?_ (fun j hj => ?_)
    · have := rightJ_drop hr (l.length - 12) (by omega)
      have mono : ∀ {S : List TJob} {p q : Int}, q ≤ p → rightJ p S = true → rightJ q S = true := fun {S p q} hpq hS => by
        cases S with
        | nil => rfl
        | cons x S =>
          rw [rightJ_cons] at hS ⊢
          rw [Bool.and_eq_true, decide_eq_true_eq] at hS ⊢
          exact ⟨⟨by omega, hS.1.2⟩, hS.2⟩
      refine mono ?_ this
      split <;> omega
    · have := ho j (List.mem_of_mem_drop hj)
      exact ⟨this.2.2.2.1, this.2.2.1⟩
  rw [eq, hk, hz]
  rfl
end Go.Proofs.Lx

end

section
/- ViewAgrees, as a plain law. -/
namespace Go.Proofs.Lx
open Go Ev Sx Pl
set_option maxRecDepth 100000
theorem awake29 : law29_awake () = some (true, ()) := by kernel_rfl
theorem okw8 {x : Int} (h : (Lit.int .u8 x).wf = true) : 0 ≤ x ∧ x < 256 := by
  simp [Lit.wf] at h
  have e1 : IntKind.u8.min = 0 := rfl
  have e2 : IntKind.u8.max = 255 := rfl
  omega
theorem okw32 {x : Int} (h : (Lit.int .u32 x).wf = true) : 0 ≤ x ∧ x < 4294967296 := by
  simp [Lit.wf] at h
  have e1 : IntKind.u32.min = 0 := rfl
  have e2 : IntKind.u32.max = 4294967295 := rfl
  omega
end Go.Proofs.Lx

end

section
/- A record more: the ledger behind it, as plain Lean. -/
namespace Go.Proofs.Lx
open Go Ev Sx Pl
set_option maxRecDepth 100000
abbrev TRec := Int × Int × Int × Bool × List Int
abbrev TKey := Int × Bool × Int
/-! ### what comes behind what: a map of five -/
theorem dget_mem {V : Type} {kt : Ty} (ht : keyT kt = true) {k : Vl kt} {v : V} : ∀ {m : List (Vl kt × V)}, (m.map Prod.fst).Nodup → (dget kt m k = some v ↔ (k, v) ∈ m)
  | [], _ => by simp [dget]
  | (a, b) :: r, h => by
    rw [List.map_cons, List.nodup_cons] at h
    unfold dget
    by_cases hk : a = k
    · subst hk
      rw [if_pos ((keq_iff ht _ _).2 rfl)]
      have : (a, v) ∉ r := fun e => h.1 (List.mem_map.2 ⟨(a, v), e, rfl⟩)
      simp only [Option.some.injEq, List.mem_cons, Prod.mk.injEq, true_and, this, or_false]
      exact ⟨fun e => e.symm, fun e => e.symm⟩
    · rw [if_neg (fun e => hk ((keq_iff ht _ _).1 e)), dget_mem ht h.2]
      have : ¬ ((k, v) = (a, b)) := fun e => hk (by cases e; rfl)
      simp [this]
theorem dget_perm {V : Type} {kt : Ty} (ht : keyT kt = true) {m m' : List (Vl kt × V)} (hp : m.Perm m') (hn : (m'.map Prod.fst).Nodup) (k : Vl kt) : dget kt m k = dget kt m' k := by
  have hn' : (m.map Prod.fst).Nodup := (hp.map Prod.fst).nodup_iff.2 hn
  apply Option.ext
  intro v
  rw [dget_mem ht hn', dget_mem ht hn, hp.mem_iff]
def m0S : List (TKey × Int) := [((2, false, 0), 1), ((3, true, 1), 2), ((3, false, 1), 3), ((4, false, 2), 4), ((4, false, 3), 5)]
def stepS (a : Int) (b : Bool) (c : Int) : Option Int :=
  if a = 2 ∧ b = false ∧ c = 0 then some 1 else if a = 3 ∧ b = true ∧ c = 1 then some 2 else if a = 3 ∧ b = false ∧ c = 1 then some 3 else if a = 4 ∧ b = false ∧ c = 2 then some 4 else if a = 4 ∧ b = false ∧ c = 3 then some 5 else none
theorem step_m0 (a : Int) (b : Bool) (c : Int) : dget LFT5 m0S (a, b, c) = stepS a b c := by
  have e : ∀ (x : Int) (y : Bool) (z : Int), keq LFT5 (x, y, z) (a, b, c) = true ↔ (a = x ∧ b = y ∧ c = z) := fun x y z => by
    rw [keq_iff rfl]
    exact ⟨fun h => by cases h; exact ⟨rfl, rfl, rfl⟩, fun ⟨h1, h2, h3⟩ => by rw [h1, h2, h3]⟩
  unfold m0S stepS
  simp only [dget, e]
theorem step_eq {m : List (TKey × Int)} (h : m.isPerm m0S = true) (a : Int) (b : Bool) (c : Int) : dget LFT5 m (a, b, c) = stepS a b c := by
  rw [dget_perm (kt := LFT5) rfl (List.isPerm_iff.1 h) (by decide), step_m0]
def addG {R : Type} (f : List (TKey × Int) → Option R) (eq : R → R → Bool) : Option R :=
  amb eq [amb eq [amb eq [amb eq [f [((2, false, 0), 1), ((3, true, 1), 2), ((3, false, 1), 3), ((4, false, 2), 4), ((4, false, 3), 5)], f [((2, false, 0), 1), ((3, true, 1), 2), ((3, false, 1), 3), ((4, false, 3), 5), ((4, false, 2), 4)]], amb eq [amb eq [f [((2, false, 0), 1), ((3, true, 1), 2), ((4, false, 2), 4), ((3, false, 1), 3), ((4, false, 3), 5)], f [((2, false, 0), 1), ((3, true, 1), 2), ((4, false, 2), 4), ((4, false, 3), 5), ((3, false, 1), 3)]], amb eq [f [((2, false, 0), 1), ((3, true, 1), 2), ((4, false, 3), 5), ((3, false, 1), 3), ((4, false, 2), 4)], f [((2, false, 0), 1), ((3, true, 1), 2), ((4, false, 3), 5), ((4, false, 2), 4), ((3, false, 1), 3)]]]], amb eq [amb eq [amb eq [f [((2, false, 0), 1), ((3, false, 1), 3), ((3, true, 1), 2), ((4, false, 2), 4), ((4, false, 3), 5)], f [((2, false, 0), 1), ((3, false, 1), 3), ((3, true, 1), 2), ((4, false, 3), 5), ((4, false, 2), 4)]], amb eq [amb eq [f [((2, false, 0), 1), ((3, false, 1), 3), ((4, false, 2), 4), ((3, true, 1), 2), ((4, false, 3), 5)], f [((2, false, 0), 1), ((3, false, 1), 3), ((4, false, 2), 4), ((4, false, 3), 5), ((3, true, 1), 2)]], amb eq [f [((2, false, 0), 1), ((3, false, 1), 3), ((4, false, 3), 5), ((3, true, 1), 2), ((4, false, 2), 4)], f [((2, false, 0), 1), ((3, false, 1), 3), ((4, false, 3), 5), ((4, false, 2), 4), ((3, true, 1), 2)]]]], amb eq [amb eq [amb eq [f [((2, false, 0), 1), ((4, false, 2), 4), ((3, true, 1), 2), ((3, false, 1), 3), ((4, false, 3), 5)], f [((2, false, 0), 1), ((4, false, 2), 4), ((3, true, 1), 2), ((4, false, 3), 5), ((3, false, 1), 3)]], amb eq [amb eq [f [((2, false, 0), 1), ((4, false, 2), 4), ((3, false, 1), 3), ((3, true, 1), 2), ((4, false, 3), 5)], f [((2, false, 0), 1), ((4, false, 2), 4), ((3, false, 1), 3), ((4, false, 3), 5), ((3, true, 1), 2)]], amb eq [f [((2, false, 0), 1), ((4, false, 2), 4), ((4, false, 3), 5), ((3, true, 1), 2), ((3, false, 1), 3)], f [((2, false, 0), 1), ((4, false, 2), 4), ((4, false, 3), 5), ((3, false, 1), 3), ((3, true, 1), 2)]]]], amb eq [amb eq [f [((2, false, 0), 1), ((4, false, 3), 5), ((3, true, 1), 2), ((3, false, 1), 3), ((4, false, 2), 4)], f [((2, false, 0), 1), ((4, false, 3), 5), ((3, true, 1), 2), ((4, false, 2), 4), ((3, false, 1), 3)]], amb eq [amb eq [f [((2, false, 0), 1), ((4, false, 3), 5), ((3, false, 1), 3), ((3, true, 1), 2), ((4, false, 2), 4)], f [((2, false, 0), 1), ((4, false, 3), 5), ((3, false, 1), 3), ((4, false, 2), 4), ((3, true, 1), 2)]], amb eq [f [((2, false, 0), 1), ((4, false, 3), 5), ((4, false, 2), 4), ((3, true, 1), 2), ((3, false, 1), 3)], f [((2, false, 0), 1), ((4, false, 3), 5), ((4, false, 2), 4), ((3, false, 1), 3), ((3, true, 1), 2)]]]]]]], amb eq [amb eq [amb eq [amb eq [f [((3, true, 1), 2), ((2, false, 0), 1), ((3, false, 1), 3), ((4, false, 2), 4), ((4, false, 3), 5)], f [((3, true, 1), 2), ((2, false, 0), 1), ((3, false, 1), 3), ((4, false, 3), 5), ((4, false, 2), 4)]], amb eq [amb eq [f [((3, true, 1), 2), ((2, false, 0), 1), ((4, false, 2), 4), ((3, false, 1), 3), ((4, false, 3), 5)], f [((3, true, 1), 2), ((2, false, 0), 1), ((4, false, 2), 4), ((4, false, 3), 5), ((3, false, 1), 3)]], amb eq [f [((3, true, 1), 2), ((2, false, 0), 1), ((4, false, 3), 5), ((3, false, 1), 3), ((4, false, 2), 4)], f [((3, true, 1), 2), ((2, false, 0), 1), ((4, false, 3), 5), ((4, false, 2), 4), ((3, false, 1), 3)]]]], amb eq [amb eq [amb eq [f [((3, true, 1), 2), ((3, false, 1), 3), ((2, false, 0), 1), ((4, false, 2), 4), ((4, false, 3), 5)], f [((3, true, 1), 2), ((3, false, 1), 3), ((2, false, 0), 1), ((4, false, 3), 5), ((4, false, 2), 4)]], amb eq [amb eq [f [((3, true, 1), 2), ((3, false, 1), 3), ((4, false, 2), 4), ((2, false, 0), 1), ((4, false, 3), 5)], f [((3, true, 1), 2), ((3, false, 1), 3), ((4, false, 2), 4), ((4, false, 3), 5), ((2, false, 0), 1)]], amb eq [f [((3, true, 1), 2), ((3, false, 1), 3), ((4, false, 3), 5), ((2, false, 0), 1), ((4, false, 2), 4)], f [((3, true, 1), 2), ((3, false, 1), 3), ((4, false, 3), 5), ((4, false, 2), 4), ((2, false, 0), 1)]]]], amb eq [amb eq [amb eq [f [((3, true, 1), 2), ((4, false, 2), 4), ((2, false, 0), 1), ((3, false, 1), 3), ((4, false, 3), 5)], f [((3, true, 1), 2), ((4, false, 2), 4), ((2, false, 0), 1), ((4, false, 3), 5), ((3, false, 1), 3)]], amb eq [amb eq [f [((3, true, 1), 2), ((4, false, 2), 4), ((3, false, 1), 3), ((2, false, 0), 1), ((4, false, 3), 5)], f [((3, true, 1), 2), ((4, false, 2), 4), ((3, false, 1), 3), ((4, false, 3), 5), ((2, false, 0), 1)]], amb eq [f [((3, true, 1), 2), ((4, false, 2), 4), ((4, false, 3), 5), ((2, false, 0), 1), ((3, false, 1), 3)], f [((3, true, 1), 2), ((4, false, 2), 4), ((4, false, 3), 5), ((3, false, 1), 3), ((2, false, 0), 1)]]]], amb eq [amb eq [f [((3, true, 1), 2), ((4, false, 3), 5), ((2, false, 0), 1), ((3, false, 1), 3), ((4, false, 2), 4)], f [((3, true, 1), 2), ((4, false, 3), 5), ((2, false, 0), 1), ((4, false, 2), 4), ((3, false, 1), 3)]], amb eq [amb eq [f [((3, true, 1), 2), ((4, false, 3), 5), ((3, false, 1), 3), ((2, false, 0), 1), ((4, false, 2), 4)], f [((3, true, 1), 2), ((4, false, 3), 5), ((3, false, 1), 3), ((4, false, 2), 4), ((2, false, 0), 1)]], amb eq [f [((3, true, 1), 2), ((4, false, 3), 5), ((4, false, 2), 4), ((2, false, 0), 1), ((3, false, 1), 3)], f [((3, true, 1), 2), ((4, false, 3), 5), ((4, false, 2), 4), ((3, false, 1), 3), ((2, false, 0), 1)]]]]]]], amb eq [amb eq [amb eq [amb eq [f [((3, false, 1), 3), ((2, false, 0), 1), ((3, true, 1), 2), ((4, false, 2), 4), ((4, false, 3), 5)], f [((3, false, 1), 3), ((2, false, 0), 1), ((3, true, 1), 2), ((4, false, 3), 5), ((4, false, 2), 4)]], amb eq [amb eq [f [((3, false, 1), 3), ((2, false, 0), 1), ((4, false, 2), 4), ((3, true, 1), 2), ((4, false, 3), 5)], f [((3, false, 1), 3), ((2, false, 0), 1), ((4, false, 2), 4), ((4, false, 3), 5), ((3, true, 1), 2)]], amb eq [f [((3, false, 1), 3), ((2, false, 0), 1), ((4, false, 3), 5), ((3, true, 1), 2), ((4, false, 2), 4)], f [((3, false, 1), 3), ((2, false, 0), 1), ((4, false, 3), 5), ((4, false, 2), 4), ((3, true, 1), 2)]]]], amb eq [amb eq [amb eq [f [((3, false, 1), 3), ((3, true, 1), 2), ((2, false, 0), 1), ((4, false, 2), 4), ((4, false, 3), 5)], f [((3, false, 1), 3), ((3, true, 1), 2), ((2, false, 0), 1), ((4, false, 3), 5), ((4, false, 2), 4)]], amb eq [amb eq [f [((3, false, 1), 3), ((3, true, 1), 2), ((4, false, 2), 4), ((2, false, 0), 1), ((4, false, 3), 5)], f [((3, false, 1), 3), ((3, true, 1), 2), ((4, false, 2), 4), ((4, false, 3), 5), ((2, false, 0), 1)]], amb eq [f [((3, false, 1), 3), ((3, true, 1), 2), ((4, false, 3), 5), ((2, false, 0), 1), ((4, false, 2), 4)], f [((3, false, 1), 3), ((3, true, 1), 2), ((4, false, 3), 5), ((4, false, 2), 4), ((2, false, 0), 1)]]]], amb eq [amb eq [amb eq [f [((3, false, 1), 3), ((4, false, 2), 4), ((2, false, 0), 1), ((3, true, 1), 2), ((4, false, 3), 5)], f [((3, false, 1), 3), ((4, false, 2), 4), ((2, false, 0), 1), ((4, false, 3), 5), ((3, true, 1), 2)]], amb eq [amb eq [f [((3, false, 1), 3), ((4, false, 2), 4), ((3, true, 1), 2), ((2, false, 0), 1), ((4, false, 3), 5)], f [((3, false, 1), 3), ((4, false, 2), 4), ((3, true, 1), 2), ((4, false, 3), 5), ((2, false, 0), 1)]], amb eq [f [((3, false, 1), 3), ((4, false, 2), 4), ((4, false, 3), 5), ((2, false, 0), 1), ((3, true, 1), 2)], f [((3, false, 1), 3), ((4, false, 2), 4), ((4, false, 3), 5), ((3, true, 1), 2), ((2, false, 0), 1)]]]], amb eq [amb eq [f [((3, false, 1), 3), ((4, false, 3), 5), ((2, false, 0), 1), ((3, true, 1), 2), ((4, false, 2), 4)], f [((3, false, 1), 3), ((4, false, 3), 5), ((2, false, 0), 1), ((4, false, 2), 4), ((3, true, 1), 2)]], amb eq [amb eq [f [((3, false, 1), 3), ((4, false, 3), 5), ((3, true, 1), 2), ((2, false, 0), 1), ((4, false, 2), 4)], f [((3, false, 1), 3), ((4, false, 3), 5), ((3, true, 1), 2), ((4, false, 2), 4), ((2, false, 0), 1)]], amb eq [f [((3, false, 1), 3), ((4, false, 3), 5), ((4, false, 2), 4), ((2, false, 0), 1), ((3, true, 1), 2)], f [((3, false, 1), 3), ((4, false, 3), 5), ((4, false, 2), 4), ((3, true, 1), 2), ((2, false, 0), 1)]]]]]]], amb eq [amb eq [amb eq [amb eq [f [((4, false, 2), 4), ((2, false, 0), 1), ((3, true, 1), 2), ((3, false, 1), 3), ((4, false, 3), 5)], f [((4, false, 2), 4), ((2, false, 0), 1), ((3, true, 1), 2), ((4, false, 3), 5), ((3, false, 1), 3)]], amb eq [amb eq [f [((4, false, 2), 4), ((2, false, 0), 1), ((3, false, 1), 3), ((3, true, 1), 2), ((4, false, 3), 5)], f [((4, false, 2), 4), ((2, false, 0), 1), ((3, false, 1), 3), ((4, false, 3), 5), ((3, true, 1), 2)]], amb eq [f [((4, false, 2), 4), ((2, false, 0), 1), ((4, false, 3), 5), ((3, true, 1), 2), ((3, false, 1), 3)], f [((4, false, 2), 4), ((2, false, 0), 1), ((4, false, 3), 5), ((3, false, 1), 3), ((3, true, 1), 2)]]]], amb eq [amb eq [amb eq [f [((4, false, 2), 4), ((3, true, 1), 2), ((2, false, 0), 1), ((3, false, 1), 3), ((4, false, 3), 5)], f [((4, false, 2), 4), ((3, true, 1), 2), ((2, false, 0), 1), ((4, false, 3), 5), ((3, false, 1), 3)]], amb eq [amb eq [f [((4, false, 2), 4), ((3, true, 1), 2), ((3, false, 1), 3), ((2, false, 0), 1), ((4, false, 3), 5)], f [((4, false, 2), 4), ((3, true, 1), 2), ((3, false, 1), 3), ((4, false, 3), 5), ((2, false, 0), 1)]], amb eq [f [((4, false, 2), 4), ((3, true, 1), 2), ((4, false, 3), 5), ((2, false, 0), 1), ((3, false, 1), 3)], f [((4, false, 2), 4), ((3, true, 1), 2), ((4, false, 3), 5), ((3, false, 1), 3), ((2, false, 0), 1)]]]], amb eq [amb eq [amb eq [f [((4, false, 2), 4), ((3, false, 1), 3), ((2, false, 0), 1), ((3, true, 1), 2), ((4, false, 3), 5)], f [((4, false, 2), 4), ((3, false, 1), 3), ((2, false, 0), 1), ((4, false, 3), 5), ((3, true, 1), 2)]], amb eq [amb eq [f [((4, false, 2), 4), ((3, false, 1), 3), ((3, true, 1), 2), ((2, false, 0), 1), ((4, false, 3), 5)], f [((4, false, 2), 4), ((3, false, 1), 3), ((3, true, 1), 2), ((4, false, 3), 5), ((2, false, 0), 1)]], amb eq [f [((4, false, 2), 4), ((3, false, 1), 3), ((4, false, 3), 5), ((2, false, 0), 1), ((3, true, 1), 2)], f [((4, false, 2), 4), ((3, false, 1), 3), ((4, false, 3), 5), ((3, true, 1), 2), ((2, false, 0), 1)]]]], amb eq [amb eq [f [((4, false, 2), 4), ((4, false, 3), 5), ((2, false, 0), 1), ((3, true, 1), 2), ((3, false, 1), 3)], f [((4, false, 2), 4), ((4, false, 3), 5), ((2, false, 0), 1), ((3, false, 1), 3), ((3, true, 1), 2)]], amb eq [amb eq [f [((4, false, 2), 4), ((4, false, 3), 5), ((3, true, 1), 2), ((2, false, 0), 1), ((3, false, 1), 3)], f [((4, false, 2), 4), ((4, false, 3), 5), ((3, true, 1), 2), ((3, false, 1), 3), ((2, false, 0), 1)]], amb eq [f [((4, false, 2), 4), ((4, false, 3), 5), ((3, false, 1), 3), ((2, false, 0), 1), ((3, true, 1), 2)], f [((4, false, 2), 4), ((4, false, 3), 5), ((3, false, 1), 3), ((3, true, 1), 2), ((2, false, 0), 1)]]]]]]], amb eq [amb eq [amb eq [f [((4, false, 3), 5), ((2, false, 0), 1), ((3, true, 1), 2), ((3, false, 1), 3), ((4, false, 2), 4)], f [((4, false, 3), 5), ((2, false, 0), 1), ((3, true, 1), 2), ((4, false, 2), 4), ((3, false, 1), 3)]], amb eq [amb eq [f [((4, false, 3), 5), ((2, false, 0), 1), ((3, false, 1), 3), ((3, true, 1), 2), ((4, false, 2), 4)], f [((4, false, 3), 5), ((2, false, 0), 1), ((3, false, 1), 3), ((4, false, 2), 4), ((3, true, 1), 2)]], amb eq [f [((4, false, 3), 5), ((2, false, 0), 1), ((4, false, 2), 4), ((3, true, 1), 2), ((3, false, 1), 3)], f [((4, false, 3), 5), ((2, false, 0), 1), ((4, false, 2), 4), ((3, false, 1), 3), ((3, true, 1), 2)]]]], amb eq [amb eq [amb eq [f [((4, false, 3), 5), ((3, true, 1), 2), ((2, false, 0), 1), ((3, false, 1), 3), ((4, false, 2), 4)], f [((4, false, 3), 5), ((3, true, 1), 2), ((2, false, 0), 1), ((4, false, 2), 4), ((3, false, 1), 3)]], amb eq [amb eq [f [((4, false, 3), 5), ((3, true, 1), 2), ((3, false, 1), 3), ((2, false, 0), 1), ((4, false, 2), 4)], f [((4, false, 3), 5), ((3, true, 1), 2), ((3, false, 1), 3), ((4, false, 2), 4), ((2, false, 0), 1)]], amb eq [f [((4, false, 3), 5), ((3, true, 1), 2), ((4, false, 2), 4), ((2, false, 0), 1), ((3, false, 1), 3)], f [((4, false, 3), 5), ((3, true, 1), 2), ((4, false, 2), 4), ((3, false, 1), 3), ((2, false, 0), 1)]]]], amb eq [amb eq [amb eq [f [((4, false, 3), 5), ((3, false, 1), 3), ((2, false, 0), 1), ((3, true, 1), 2), ((4, false, 2), 4)], f [((4, false, 3), 5), ((3, false, 1), 3), ((2, false, 0), 1), ((4, false, 2), 4), ((3, true, 1), 2)]], amb eq [amb eq [f [((4, false, 3), 5), ((3, false, 1), 3), ((3, true, 1), 2), ((2, false, 0), 1), ((4, false, 2), 4)], f [((4, false, 3), 5), ((3, false, 1), 3), ((3, true, 1), 2), ((4, false, 2), 4), ((2, false, 0), 1)]], amb eq [f [((4, false, 3), 5), ((3, false, 1), 3), ((4, false, 2), 4), ((2, false, 0), 1), ((3, true, 1), 2)], f [((4, false, 3), 5), ((3, false, 1), 3), ((4, false, 2), 4), ((3, true, 1), 2), ((2, false, 0), 1)]]]], amb eq [amb eq [f [((4, false, 3), 5), ((4, false, 2), 4), ((2, false, 0), 1), ((3, true, 1), 2), ((3, false, 1), 3)], f [((4, false, 3), 5), ((4, false, 2), 4), ((2, false, 0), 1), ((3, false, 1), 3), ((3, true, 1), 2)]], amb eq [amb eq [f [((4, false, 3), 5), ((4, false, 2), 4), ((3, true, 1), 2), ((2, false, 0), 1), ((3, false, 1), 3)], f [((4, false, 3), 5), ((4, false, 2), 4), ((3, true, 1), 2), ((3, false, 1), 3), ((2, false, 0), 1)]], amb eq [f [((4, false, 3), 5), ((4, false, 2), 4), ((3, false, 1), 3), ((2, false, 0), 1), ((3, true, 1), 2)], f [((4, false, 3), 5), ((4, false, 2), 4), ((3, false, 1), 3), ((3, true, 1), 2), ((2, false, 0), 1)]]]]]]]]]]]
set_option maxHeartbeats 4000000 in
theorem addG_eq {R : Type} {f : List (TKey × Int) → Option R} {eq : R → R → Bool} (he : ∀ x, eq x x = true) {r : Option R} (h : ∀ m, m.isPerm m0S = true → f m = r) : addG f eq = r := by
  unfold addG
  simp only [h [((2, false, 0), 1), ((3, true, 1), 2), ((3, false, 1), 3), ((4, false, 2), 4), ((4, false, 3), 5)] rfl, h [((2, false, 0), 1), ((3, true, 1), 2), ((3, false, 1), 3), ((4, false, 3), 5), ((4, false, 2), 4)] rfl, h [((2, false, 0), 1), ((3, true, 1), 2), ((4, false, 2), 4), ((3, false, 1), 3), ((4, false, 3), 5)] rfl, h [((2, false, 0), 1), ((3, true, 1), 2), ((4, false, 2), 4), ((4, false, 3), 5), ((3, false, 1), 3)] rfl, h [((2, false, 0), 1), ((3, true, 1), 2), ((4, false, 3), 5), ((3, false, 1), 3), ((4, false, 2), 4)] rfl, h [((2, false, 0), 1), ((3, true, 1), 2), ((4, false, 3), 5), ((4, false, 2), 4), ((3, false, 1), 3)] rfl, h [((2, false, 0), 1), ((3, false, 1), 3), ((3, true, 1), 2), ((4, false, 2), 4), ((4, false, 3), 5)] rfl, h [((2, false, 0), 1), ((3, false, 1), 3), ((3, true, 1), 2), ((4, false, 3), 5), ((4, false, 2), 4)] rfl, h [((2, false, 0), 1), ((3, false, 1), 3), ((4, false, 2), 4), ((3, true, 1), 2), ((4, false, 3), 5)] rfl, h [((2, false, 0), 1), ((3, false, 1), 3), ((4, false, 2), 4), ((4, false, 3), 5), ((3, true, 1), 2)] rfl, h [((2, false, 0), 1), ((3, false, 1), 3), ((4, false, 3), 5), ((3, true, 1), 2), ((4, false, 2), 4)] rfl, h [((2, false, 0), 1), ((3, false, 1), 3), ((4, false, 3), 5), ((4, false, 2), 4), ((3, true, 1), 2)] rfl, h [((2, false, 0), 1), ((4, false, 2), 4), ((3, true, 1), 2), ((3, false, 1), 3), ((4, false, 3), 5)] rfl, h [((2, false, 0), 1), ((4, false, 2), 4), ((3, true, 1), 2), ((4, false, 3), 5), ((3, false, 1), 3)] rfl, h [((2, false, 0), 1), ((4, false, 2), 4), ((3, false, 1), 3), ((3, true, 1), 2), ((4, false, 3), 5)] rfl, h [((2, false, 0), 1), ((4, false, 2), 4), ((3, false, 1), 3), ((4, false, 3), 5), ((3, true, 1), 2)] rfl, h [((2, false, 0), 1), ((4, false, 2), 4), ((4, false, 3), 5), ((3, true, 1), 2), ((3, false, 1), 3)] rfl, h [((2, false, 0), 1), ((4, false, 2), 4), ((4, false, 3), 5), ((3, false, 1), 3), ((3, true, 1), 2)] rfl, h [((2, false, 0), 1), ((4, false, 3), 5), ((3, true, 1), 2), ((3, false, 1), 3), ((4, false, 2), 4)] rfl, h [((2, false, 0), 1), ((4, false, 3), 5), ((3, true, 1), 2), ((4, false, 2), 4), ((3, false, 1), 3)] rfl, h [((2, false, 0), 1), ((4, false, 3), 5), ((3, false, 1), 3), ((3, true, 1), 2), ((4, false, 2), 4)] rfl, h [((2, false, 0), 1), ((4, false, 3), 5), ((3, false, 1), 3), ((4, false, 2), 4), ((3, true, 1), 2)] rfl, h [((2, false, 0), 1), ((4, false, 3), 5), ((4, false, 2), 4), ((3, true, 1), 2), ((3, false, 1), 3)] rfl, h [((2, false, 0), 1), ((4, false, 3), 5), ((4, false, 2), 4), ((3, false, 1), 3), ((3, true, 1), 2)] rfl, h [((3, true, 1), 2), ((2, false, 0), 1), ((3, false, 1), 3), ((4, false, 2), 4), ((4, false, 3), 5)] rfl, h [((3, true, 1), 2), ((2, false, 0), 1), ((3, false, 1), 3), ((4, false, 3), 5), ((4, false, 2), 4)] rfl, h [((3, true, 1), 2), ((2, false, 0), 1), ((4, false, 2), 4), ((3, false, 1), 3), ((4, false, 3), 5)] rfl, h [((3, true, 1), 2), ((2, false, 0), 1), ((4, false, 2), 4), ((4, false, 3), 5), ((3, false, 1), 3)] rfl, h [((3, true, 1), 2), ((2, false, 0), 1), ((4, false, 3), 5), ((3, false, 1), 3), ((4, false, 2), 4)] rfl, h [((3, true, 1), 2), ((2, false, 0), 1), ((4, false, 3), 5), ((4, false, 2), 4), ((3, false, 1), 3)] rfl, h [((3, true, 1), 2), ((3, false, 1), 3), ((2, false, 0), 1), ((4, false, 2), 4), ((4, false, 3), 5)] rfl, h [((3, true, 1), 2), ((3, false, 1), 3), ((2, false, 0), 1), ((4, false, 3), 5), ((4, false, 2), 4)] rfl, h [((3, true, 1), 2), ((3, false, 1), 3), ((4, false, 2), 4), ((2, false, 0), 1), ((4, false, 3), 5)] rfl, h [((3, true, 1), 2), ((3, false, 1), 3), ((4, false, 2), 4), ((4, false, 3), 5), ((2, false, 0), 1)] rfl, h [((3, true, 1), 2), ((3, false, 1), 3), ((4, false, 3), 5), ((2, false, 0), 1), ((4, false, 2), 4)] rfl, h [((3, true, 1), 2), ((3, false, 1), 3), ((4, false, 3), 5), ((4, false, 2), 4), ((2, false, 0), 1)] rfl, h [((3, true, 1), 2), ((4, false, 2), 4), ((2, false, 0), 1), ((3, false, 1), 3), ((4, false, 3), 5)] rfl, h [((3, true, 1), 2), ((4, false, 2), 4), ((2, false, 0), 1), ((4, false, 3), 5), ((3, false, 1), 3)] rfl, h [((3, true, 1), 2), ((4, false, 2), 4), ((3, false, 1), 3), ((2, false, 0), 1), ((4, false, 3), 5)] rfl, h [((3, true, 1), 2), ((4, false, 2), 4), ((3, false, 1), 3), ((4, false, 3), 5), ((2, false, 0), 1)] rfl, h [((3, true, 1), 2), ((4, false, 2), 4), ((4, false, 3), 5), ((2, false, 0), 1), ((3, false, 1), 3)] rfl, h [((3, true, 1), 2), ((4, false, 2), 4), ((4, false, 3), 5), ((3, false, 1), 3), ((2, false, 0), 1)] rfl, h [((3, true, 1), 2), ((4, false, 3), 5), ((2, false, 0), 1), ((3, false, 1), 3), ((4, false, 2), 4)] rfl, h [((3, true, 1), 2), ((4, false, 3), 5), ((2, false, 0), 1), ((4, false, 2), 4), ((3, false, 1), 3)] rfl, h [((3, true, 1), 2), ((4, false, 3), 5), ((3, false, 1), 3), ((2, false, 0), 1), ((4, false, 2), 4)] rfl, h [((3, true, 1), 2), ((4, false, 3), 5), ((3, false, 1), 3), ((4, false, 2), 4), ((2, false, 0), 1)] rfl, h [((3, true, 1), 2), ((4, false, 3), 5), ((4, false, 2), 4), ((2, false, 0), 1), ((3, false, 1), 3)] rfl, h [((3, true, 1), 2), ((4, false, 3), 5), ((4, false, 2), 4), ((3, false, 1), 3), ((2, false, 0), 1)] rfl, h [((3, false, 1), 3), ((2, false, 0), 1), ((3, true, 1), 2), ((4, false, 2), 4), ((4, false, 3), 5)] rfl, h [((3, false, 1), 3), ((2, false, 0), 1), ((3, true, 1), 2), ((4, false, 3), 5), ((4, false, 2), 4)] rfl, h [((3, false, 1), 3), ((2, false, 0), 1), ((4, false, 2), 4), ((3, true, 1), 2), ((4, false, 3), 5)] rfl, h [((3, false, 1), 3), ((2, false, 0), 1), ((4, false, 2), 4), ((4, false, 3), 5), ((3, true, 1), 2)] rfl, h [((3, false, 1), 3), ((2, false, 0), 1), ((4, false, 3), 5), ((3, true, 1), 2), ((4, false, 2), 4)] rfl, h [((3, false, 1), 3), ((2, false, 0), 1), ((4, false, 3), 5), ((4, false, 2), 4), ((3, true, 1), 2)] rfl, h [((3, false, 1), 3), ((3, true, 1), 2), ((2, false, 0), 1), ((4, false, 2), 4), ((4, false, 3), 5)] rfl, h [((3, false, 1), 3), ((3, true, 1), 2), ((2, false, 0), 1), ((4, false, 3), 5), ((4, false, 2), 4)] rfl, h [((3, false, 1), 3), ((3, true, 1), 2), ((4, false, 2), 4), ((2, false, 0), 1), ((4, false, 3), 5)] rfl, h [((3, false, 1), 3), ((3, true, 1), 2), ((4, false, 2), 4), ((4, false, 3), 5), ((2, false, 0), 1)] rfl, h [((3, false, 1), 3), ((3, true, 1), 2), ((4, false, 3), 5), ((2, false, 0), 1), ((4, false, 2), 4)] rfl, h [((3, false, 1), 3), ((3, true, 1), 2), ((4, false, 3), 5), ((4, false, 2), 4), ((2, false, 0), 1)] rfl, h [((3, false, 1), 3), ((4, false, 2), 4), ((2, false, 0), 1), ((3, true, 1), 2), ((4, false, 3), 5)] rfl, h [((3, false, 1), 3), ((4, false, 2), 4), ((2, false, 0), 1), ((4, false, 3), 5), ((3, true, 1), 2)] rfl, h [((3, false, 1), 3), ((4, false, 2), 4), ((3, true, 1), 2), ((2, false, 0), 1), ((4, false, 3), 5)] rfl, h [((3, false, 1), 3), ((4, false, 2), 4), ((3, true, 1), 2), ((4, false, 3), 5), ((2, false, 0), 1)] rfl, h [((3, false, 1), 3), ((4, false, 2), 4), ((4, false, 3), 5), ((2, false, 0), 1), ((3, true, 1), 2)] rfl, h [((3, false, 1), 3), ((4, false, 2), 4), ((4, false, 3), 5), ((3, true, 1), 2), ((2, false, 0), 1)] rfl, h [((3, false, 1), 3), ((4, false, 3), 5), ((2, false, 0), 1), ((3, true, 1), 2), ((4, false, 2), 4)] rfl, h [((3, false, 1), 3), ((4, false, 3), 5), ((2, false, 0), 1), ((4, false, 2), 4), ((3, true, 1), 2)] rfl, h [((3, false, 1), 3), ((4, false, 3), 5), ((3, true, 1), 2), ((2, false, 0), 1), ((4, false, 2), 4)] rfl, h [((3, false, 1), 3), ((4, false, 3), 5), ((3, true, 1), 2), ((4, false, 2), 4), ((2, false, 0), 1)] rfl, h [((3, false, 1), 3), ((4, false, 3), 5), ((4, false, 2), 4), ((2, false, 0), 1), ((3, true, 1), 2)] rfl, h [((3, false, 1), 3), ((4, false, 3), 5), ((4, false, 2), 4), ((3, true, 1), 2), ((2, false, 0), 1)] rfl, h [((4, false, 2), 4), ((2, false, 0), 1), ((3, true, 1), 2), ((3, false, 1), 3), ((4, false, 3), 5)] rfl, h [((4, false, 2), 4), ((2, false, 0), 1), ((3, true, 1), 2), ((4, false, 3), 5), ((3, false, 1), 3)] rfl, h [((4, false, 2), 4), ((2, false, 0), 1), ((3, false, 1), 3), ((3, true, 1), 2), ((4, false, 3), 5)] rfl, h [((4, false, 2), 4), ((2, false, 0), 1), ((3, false, 1), 3), ((4, false, 3), 5), ((3, true, 1), 2)] rfl, h [((4, false, 2), 4), ((2, false, 0), 1), ((4, false, 3), 5), ((3, true, 1), 2), ((3, false, 1), 3)] rfl, h [((4, false, 2), 4), ((2, false, 0), 1), ((4, false, 3), 5), ((3, false, 1), 3), ((3, true, 1), 2)] rfl, h [((4, false, 2), 4), ((3, true, 1), 2), ((2, false, 0), 1), ((3, false, 1), 3), ((4, false, 3), 5)] rfl, h [((4, false, 2), 4), ((3, true, 1), 2), ((2, false, 0), 1), ((4, false, 3), 5), ((3, false, 1), 3)] rfl, h [((4, false, 2), 4), ((3, true, 1), 2), ((3, false, 1), 3), ((2, false, 0), 1), ((4, false, 3), 5)] rfl, h [((4, false, 2), 4), ((3, true, 1), 2), ((3, false, 1), 3), ((4, false, 3), 5), ((2, false, 0), 1)] rfl, h [((4, false, 2), 4), ((3, true, 1), 2), ((4, false, 3), 5), ((2, false, 0), 1), ((3, false, 1), 3)] rfl, h [((4, false, 2), 4), ((3, true, 1), 2), ((4, false, 3), 5), ((3, false, 1), 3), ((2, false, 0), 1)] rfl, h [((4, false, 2), 4), ((3, false, 1), 3), ((2, false, 0), 1), ((3, true, 1), 2), ((4, false, 3), 5)] rfl, h [((4, false, 2), 4), ((3, false, 1), 3), ((2, false, 0), 1), ((4, false, 3), 5), ((3, true, 1), 2)] rfl, h [((4, false, 2), 4), ((3, false, 1), 3), ((3, true, 1), 2), ((2, false, 0), 1), ((4, false, 3), 5)] rfl, h [((4, false, 2), 4), ((3, false, 1), 3), ((3, true, 1), 2), ((4, false, 3), 5), ((2, false, 0), 1)] rfl, h [((4, false, 2), 4), ((3, false, 1), 3), ((4, false, 3), 5), ((2, false, 0), 1), ((3, true, 1), 2)] rfl, h [((4, false, 2), 4), ((3, false, 1), 3), ((4, false, 3), 5), ((3, true, 1), 2), ((2, false, 0), 1)] rfl, h [((4, false, 2), 4), ((4, false, 3), 5), ((2, false, 0), 1), ((3, true, 1), 2), ((3, false, 1), 3)] rfl, h [((4, false, 2), 4), ((4, false, 3), 5), ((2, false, 0), 1), ((3, false, 1), 3), ((3, true, 1), 2)] rfl, h [((4, false, 2), 4), ((4, false, 3), 5), ((3, true, 1), 2), ((2, false, 0), 1), ((3, false, 1), 3)] rfl, h [((4, false, 2), 4), ((4, false, 3), 5), ((3, true, 1), 2), ((3, false, 1), 3), ((2, false, 0), 1)] rfl, h [((4, false, 2), 4), ((4, false, 3), 5), ((3, false, 1), 3), ((2, false, 0), 1), ((3, true, 1), 2)] rfl, h [((4, false, 2), 4), ((4, false, 3), 5), ((3, false, 1), 3), ((3, true, 1), 2), ((2, false, 0), 1)] rfl, h [((4, false, 3), 5), ((2, false, 0), 1), ((3, true, 1), 2), ((3, false, 1), 3), ((4, false, 2), 4)] rfl, h [((4, false, 3), 5), ((2, false, 0), 1), ((3, true, 1), 2), ((4, false, 2), 4), ((3, false, 1), 3)] rfl, h [((4, false, 3), 5), ((2, false, 0), 1), ((3, false, 1), 3), ((3, true, 1), 2), ((4, false, 2), 4)] rfl, h [((4, false, 3), 5), ((2, false, 0), 1), ((3, false, 1), 3), ((4, false, 2), 4), ((3, true, 1), 2)] rfl, h [((4, false, 3), 5), ((2, false, 0), 1), ((4, false, 2), 4), ((3, true, 1), 2), ((3, false, 1), 3)] rfl, h [((4, false, 3), 5), ((2, false, 0), 1), ((4, false, 2), 4), ((3, false, 1), 3), ((3, true, 1), 2)] rfl, h [((4, false, 3), 5), ((3, true, 1), 2), ((2, false, 0), 1), ((3, false, 1), 3), ((4, false, 2), 4)] rfl, h [((4, false, 3), 5), ((3, true, 1), 2), ((2, false, 0), 1), ((4, false, 2), 4), ((3, false, 1), 3)] rfl, h [((4, false, 3), 5), ((3, true, 1), 2), ((3, false, 1), 3), ((2, false, 0), 1), ((4, false, 2), 4)] rfl, h [((4, false, 3), 5), ((3, true, 1), 2), ((3, false, 1), 3), ((4, false, 2), 4), ((2, false, 0), 1)] rfl, h [((4, false, 3), 5), ((3, true, 1), 2), ((4, false, 2), 4), ((2, false, 0), 1), ((3, false, 1), 3)] rfl, h [((4, false, 3), 5), ((3, true, 1), 2), ((4, false, 2), 4), ((3, false, 1), 3), ((2, false, 0), 1)] rfl, h [((4, false, 3), 5), ((3, false, 1), 3), ((2, false, 0), 1), ((3, true, 1), 2), ((4, false, 2), 4)] rfl, h [((4, false, 3), 5), ((3, false, 1), 3), ((2, false, 0), 1), ((4, false, 2), 4), ((3, true, 1), 2)] rfl, h [((4, false, 3), 5), ((3, false, 1), 3), ((3, true, 1), 2), ((2, false, 0), 1), ((4, false, 2), 4)] rfl, h [((4, false, 3), 5), ((3, false, 1), 3), ((3, true, 1), 2), ((4, false, 2), 4), ((2, false, 0), 1)] rfl, h [((4, false, 3), 5), ((3, false, 1), 3), ((4, false, 2), 4), ((2, false, 0), 1), ((3, true, 1), 2)] rfl, h [((4, false, 3), 5), ((3, false, 1), 3), ((4, false, 2), 4), ((3, true, 1), 2), ((2, false, 0), 1)] rfl, h [((4, false, 3), 5), ((4, false, 2), 4), ((2, false, 0), 1), ((3, true, 1), 2), ((3, false, 1), 3)] rfl, h [((4, false, 3), 5), ((4, false, 2), 4), ((2, false, 0), 1), ((3, false, 1), 3), ((3, true, 1), 2)] rfl, h [((4, false, 3), 5), ((4, false, 2), 4), ((3, true, 1), 2), ((2, false, 0), 1), ((3, false, 1), 3)] rfl, h [((4, false, 3), 5), ((4, false, 2), 4), ((3, true, 1), 2), ((3, false, 1), 3), ((2, false, 0), 1)] rfl, h [((4, false, 3), 5), ((4, false, 2), 4), ((3, false, 1), 3), ((2, false, 0), 1), ((3, true, 1), 2)] rfl, h [((4, false, 3), 5), ((4, false, 2), 4), ((3, false, 1), 3), ((3, true, 1), 2), ((2, false, 0), 1)] rfl, amb2 he]
/-! ### which records are right -/
def rightX (x : TRec) : Bool := decide (1 ≤ x.1 ∧ x.1 ≤ 4 ∧ (x.1 = 2 ↔ 0 < x.2.2.1) ∧ (x.2.2.2.1 = true → x.1 = 3) ∧ (x.2.2.2.2.length = 0 ∨ x.1 = 2 ∧ x.2.2.2.2.length ≤ 8192))
theorem nvright_eq (x : TRec) : nvlog_Right (x, ()) = some (rightX x, ()) := by
  obtain ⟨k, tx, who, yes, text⟩ := x
  have hs : nvlog_shape (k, ()) = some ((decide (k = 2), decide (k = 3), decide (k = 2)), decide (1 ≤ k ∧ k ≤ 4), ()) := by
    show nvlog_shape_m0 k = _
    unfold nvlog_shape_m0
    simp only [eqi_iff, gdV, isV]
    by_cases h1 : 1 = k
    · subst h1; rfl
    · by_cases h2 : 2 = k
      · subst h2; rfl
      · by_cases h3 : 3 = k
        · subst h3; rfl
        · by_cases h4 : 4 = k
          · subst h4; rfl
          · rw [if_neg h1, if_neg h2, if_neg h3, if_neg h4, decide_eq_false (by omega), decide_eq_false (by omega), decide_eq_false (by omega)]
            rfl
  have K : ∀ t f, nvlog_Right_K1 t (k, tx, who, yes, text) f = if t = true then some (false, ()) else some (decide (text.length = 0 ∨ f.2.2 = true ∧ text.length ≤ 8192), ()) := fun t f => by
    unfold nvlog_Right_K1 nvlog_Right_m1
    cases t with
    | true => rfl
    | false =>
      simp only [Bool.false_eq_true, if_false]
      by_cases h : text.length = 0
      · rw [if_pos (by rw [eqi_iff, ofNat_eq]; omega), decide_eq_true (.inl h)]
      · rw [if_neg (by rw [eqi_iff, ofNat_eq]; omega)]
        cases f.2.2 with
        | true =>
          rw [if_pos rfl]
          by_cases hl : text.length ≤ 8192
          · rw [le_iff.2 (by rw [ofNat_eq]; omega), decide_eq_true (.inr ⟨rfl, hl⟩)]
          · rw [show le (Int.ofNat text.length) 8192 = false from decide_eq_false (by rw [ofNat_eq]; omega), decide_eq_false (fun e => e.elim h (fun e => hl e.2))]
        | false =>
          rw [if_neg (by decide), decide_eq_false (fun e => e.elim h (fun e => by cases e.1))]
  show nvlog_Right_m0 nvlog_Right_K1 (k, tx, who, yes, text) = _
  unfold nvlog_Right_m0
  dsimp only
  rw [hs, Option.bind_some]
  dsimp only
  simp only [K]
  unfold rightX
  dsimp only
  by_cases hk : 1 ≤ k ∧ k ≤ 4
  · rw [decide_eq_true hk, if_neg (by decide)]
    by_cases hw : k = 2 ↔ 0 < who
    · have : neb (decide (k = 2)) (gt who 0) = false := by
        have e : gt who 0 = decide (k = 2) := by
          rw [Bool.eq_iff_iff, gt_iff, decide_eq_true_eq]
          exact hw.symm
        rw [e]
        cases decide (k = 2) <;> rfl
      rw [this, if_neg (by decide)]
      cases yes with
      | true =>
        rw [if_pos rfl]
        by_cases h3 : k = 3
        · rw [decide_eq_true h3, if_neg (by decide)]
          congr 2
          rw [decide_eq_decide]
          simp only [decide_eq_true_eq]
          exact ⟨fun h => ⟨hk.1, hk.2, hw, fun _ => h3, h⟩, fun h => h.2.2.2.2⟩
        · rw [decide_eq_false h3, if_pos (by decide), decide_eq_false (fun h => h3 (h.2.2.2.1 rfl))]
      | false =>
        rw [if_neg (by decide), if_neg (by decide)]
        congr 2
        rw [decide_eq_decide]
        simp only [decide_eq_true_eq]
        exact ⟨fun h => ⟨hk.1, hk.2, hw, (fun e => by cases e), h⟩, fun h => h.2.2.2.2⟩
    · have : neb (decide (k = 2)) (gt who 0) = true := by
        by_cases h2 : k = 2
        · have h0 : ¬ 0 < who := fun e => hw ⟨fun _ => e, fun _ => h2⟩
          rw [decide_eq_true h2, show gt who 0 = false from decide_eq_false h0]; rfl
        · have h0 : 0 < who := by
            rcases Classical.em (0 < who) with e | e
            · exact e
            · exact absurd ⟨fun e' => absurd e' h2, fun e' => absurd e' e⟩ hw
          rw [decide_eq_false h2, show gt who 0 = true from decide_eq_true h0]; rfl
      rw [this, if_pos rfl, if_pos trivial, decide_eq_false (fun h => hw h.2.2.1)]
  · rw [decide_eq_false hk, if_pos (by decide), if_pos trivial, decide_eq_false (fun h => hk ⟨h.1, h.2.1⟩)]
/-! ### a ledger of one's own -/
theorem clone8_eq {s : List Int} (hl : s.length ≤ 1073741824) : slices_Clone_Gbyte (s, ()) = some (s, ()) := by
  show slices_Clone_Gbyte_m0 s = _
  unfold slices_Clone_Gbyte_m0
  rw [need_small (by omega)]
  by_cases h : s.length = 0
  · rw [if_pos (by rw [eqi_iff, ofNat_eq]; omega), List.eq_nil_of_length_eq_zero h]
    rfl
  · rw [if_neg (by rw [eqi_iff, ofNat_eq]; omega)]
theorem own_eq {l : List TJob} (hl : l.length ≤ 1000000) (hx : ∀ j ∈ l, j.2.2.1.length ≤ 8192) : ledger_own (l, ()) = some (l, ()) := by
  show ledger_own_m0 ledger_own_K1 l = _
  unfold ledger_own_m0
  have e : add .i64 (Int.ofNat l.length) 1 = ((l.length + 1 : Nat) : Int) := succ64 (by omega)
  have hc : capOk (Int.ofNat l.length) ((l.length + 1 : Nat) : Int) = true := by
    unfold capOk
    split
    · rfl
    · rw [decide_eq_true_eq, ofNat_eq]; omega
  rw [e, need_t hc, Int.toNat_natCast, need_small (by omega), ofNat_eq, Int.toNat_natCast]
  have e0 : List.replicate l.length ((0, 0, [], 0) : TJob) = l.take 0 ++ List.replicate (l.length - 0) (0, 0, [], 0) := by rw [List.take_zero]; rfl
  rw [e0]
  unfold ledger_own_K1
  refine loop_dt (N := l.length) (mk := fun i => (l, (l.length : Int), (i : Int), l.take i ++ List.replicate (l.length - i) ((0, 0, [], 0) : TJob))) ?_ ?_ l.length 0 _ (by omega) (by omega)
  · intro self i hi
    have hj := List.getElem?_eq_getElem hi
    show ledger_own_m1 _ l (l.length : Int) (i : Int) _ = _
    unfold ledger_own_m1
    have hr : List.replicate (l.length - i) ((0, 0, [], 0) : TJob) = (0, 0, [], 0) :: List.replicate (l.length - (i + 1)) (0, 0, [], 0) := by
      rw [show l.length - i = l.length - (i + 1) + 1 by omega]
      rfl
    have hlen : (l.take i).length = i := by rw [List.length_take]; omega
    have ha : at? (l.take i ++ List.replicate (l.length - i) ((0, 0, [], 0) : TJob)) (i : Int) = some (0, 0, [], 0) := by
      rw [hr]
      have := at_app (l.take i) ((0, 0, [], 0) : TJob) (List.replicate (l.length - (i + 1)) (0, 0, [], 0))
      rw [hlen] at this
      exact this
    rw [if_pos (by rw [lt_iff]; omega), at_get hj, Option.bind_some, clone8_eq (by have := hx _ (List.getElem_mem hi); omega), Option.bind_some, ha, Option.bind_some, Option.bind_some, succ64 (by omega), Int.toNat_natCast]
    congr 1
    have hs := set_at (l.take i) ((0, 0, [], 0) : TJob) l[i] (List.replicate (l.length - (i + 1)) (0, 0, [], 0))
    rw [hlen] at hs
    dsimp only
    rw [hr]
    show List.set _ i l[i] = _
    rw [hs, List.take_succ_eq_append_getElem hi, List.append_assoc]
    rfl
  · intro self
    show ledger_own_m1 _ l (l.length : Int) (l.length : Int) _ = _
    unfold ledger_own_m1
    rw [if_neg (by rw [lt_iff]; omega), List.take_length, Nat.sub_self, List.replicate_zero, List.append_nil]
/-! ### found, in a row of its own -/
theorem bsr_eq {l : List TJob} (hs : Rise l) (hl : l.length ≤ 1000000) (t : Int) : ∃ i : Nat, i ≤ l.length ∧ (∀ k x, l[k]? = some x → (x.1 < t ↔ k < i)) ∧ ∃ b, slices_BinarySearchFunc_Guint32_r (t, l, ()) = some ((i : Int), b, l, ()) := by
  obtain ⟨i, h1, h2⟩ := lb_ex hs t
  refine ⟨i, h1, h2, ?_⟩
  have fin : ∃ b, slices_BinarySearchFunc_Guint32_r_K2 t (Int.ofNat l.length) (i : Int) l = some ((i : Int), b, l, ()) := by
    unfold slices_BinarySearchFunc_Guint32_r_K2 slices_BinarySearchFunc_Guint32_r_m2
    by_cases hi : i < l.length
    · rw [if_pos (by rw [lt_iff, ofNat_eq]; omega), at_get (List.getElem?_eq_getElem hi), Option.bind_some, Option.bind_some, cmp_eq]
      exact ⟨_, rfl⟩
    · rw [if_neg (by rw [lt_iff, ofNat_eq]; omega)]
      exact ⟨_, rfl⟩
  obtain ⟨b, hb⟩ := fin
  refine ⟨b, ?_⟩
  show slices_BinarySearchFunc_Guint32_r_K1 t (Int.ofNat l.length) ((0 : Nat) : Int) (l.length : Int) l = _
  unfold slices_BinarySearchFunc_Guint32_r_K1
  refine loopF_eq (Inv := fun s => ∃ p q : Nat, s = (t, Int.ofNat l.length, (p : Int), (q : Int), l) ∧ p ≤ i ∧ i ≤ q ∧ q ≤ l.length) (μ := fun s => (s.2.2.2.1 - s.2.2.1).toNat) (G := fun _ => some ((i : Int), b, l, ())) ?_ _ _ ⟨0, l.length, rfl, Nat.zero_le _, h1, Nat.le_refl _⟩ (by dsimp only; omega)
  rintro self s ⟨p, q, rfl, hp, hq, hn⟩ ih
  show slices_BinarySearchFunc_Guint32_r_m1 _ _ t (Int.ofNat l.length) (p : Int) (q : Int) l = _
  unfold slices_BinarySearchFunc_Guint32_r_m1
  by_cases hpq : p < q
  · have hm : (p + q) / 2 < l.length := by omega
    have hg := List.getElem?_eq_getElem hm
    rw [if_pos (by rw [lt_iff]; omega), half64 (by omega), at_get hg, Option.bind_some, Option.bind_some, cmp_eq, Option.bind_some]
    dsimp only
    have := h2 _ _ hg
    by_cases hc : (l[(p + q) / 2]'hm).1 < t
    · rw [if_pos hc, if_pos (by decide), succ64 (by omega)]
      exact ih _ ⟨(p + q) / 2 + 1, q, rfl, by omega, hq, hn⟩ (by dsimp only; omega)
    · rw [if_neg hc]
      have e : ∀ x : Int, x = (if t < (l[(p + q) / 2]'hm).1 then 1 else 0) → ¬ (lt x 0 = true) := fun x hx => by
        rw [lt_iff, hx]
        split <;> decide
      rw [if_neg (e _ rfl)]
      exact ih _ ⟨p, (p + q) / 2, rfl, hp, by omega, by omega⟩ (by dsimp only; omega)
  · rw [if_neg (by rw [lt_iff]; omega)]
    have : p = i := by omega
    rw [this]
    exact hb
/-- the place of a job -/
def findJ (l : List TJob) (t : Int) : Option Nat := l.findIdx? (fun j => decide (j.1 = t))
theorem findJ_some {l : List TJob} {t : Int} {i : Nat} (h : findJ l t = some i) : ∃ j, l[i]? = some j ∧ j.1 = t := by
  unfold findJ at h
  obtain ⟨hi, h1, _⟩ := List.findIdx?_eq_some_iff_getElem.1 h
  exact ⟨_, List.getElem?_eq_getElem hi, by simpa using h1⟩
theorem findJ_none {l : List TJob} {t : Int} (h : findJ l t = none) : ∀ j ∈ l, j.1 ≠ t := by
  unfold findJ at h
  intro j hj
  have := List.findIdx?_eq_none_iff.1 h j hj
  simpa using this
theorem findr_eq {l : List TJob} (hs : Rise l) (hl : l.length ≤ 1000000) (t : Int) : ledger_Find_r (t, l, ()) = some (match findJ l t with | some i => ((i : Int), true, l, ()) | none => (0, false, l, ())) := by
  obtain ⟨k, h1, h2, b, h3⟩ := bsr_eq hs hl t
  show ledger_Find_r_m0 ledger_Find_r_K1 t l = _
  unfold ledger_Find_r_m0 ledger_at_r
  show Option.bind (Option.bind (slices_BinarySearchFunc_Guint32_r (t, l, ())) _) _ = _
  rw [h3, Option.bind_some, Option.bind_some]
  dsimp only
  cases hf : findJ l t with
  | some i =>
    obtain ⟨j, hj, ht⟩ := findJ_some hf
    have hi := (List.getElem?_eq_some_iff.1 hj).1
    have e : k = i := by
      have := h2 i j hj
      by_cases hk : k < l.length
      · have a1 := h2 k _ (List.getElem?_eq_getElem hk)
        rcases Nat.lt_trichotomy k i with h | h | h
        · have := rise_get hs (List.getElem?_eq_getElem hk) hj h
          omega
        · exact h
        · omega
      · omega
    subst e
    rw [if_neg (by rw [ge_iff, ofNat_eq]; omega), at_get hj, Option.bind_some, Option.bind_some, ht]
    have : nei t t = false := by simp [nei]
    rw [this]
    rfl
  | none =>
    have ht := findJ_none hf
    by_cases hk : k < l.length
    · have hg := List.getElem?_eq_getElem hk
      rw [if_neg (by rw [ge_iff, ofNat_eq]; omega), at_get hg, Option.bind_some, Option.bind_some]
      have : nei (l[k]).1 t = true := by
        rw [nei_iff]
        exact ht _ (List.getElem_mem _)
      rw [this]
      rfl
    · rw [if_pos (by rw [ge_iff, ofNat_eq]; omega)]
      rfl
/-! ### a record more -/
def lastT (l : List TJob) : Int := match l.getLast? with
  | some j => j.1
  | none => 0
def addS (l : List TJob) (x : TRec) : Option (List TJob) :=
  if rightX x = false then none
  else if x.1 = 1 then some l
  else if x.1 = 2 then (if lastT l < x.2.1 then some (l ++ [(x.2.1, x.2.2.1, x.2.2.2.2, 1)]) else none)
  else match findJ l x.2.1 with
    | none => none
    | some i => match l[i]? with
      | none => none
      | some j => (stepS x.1 x.2.2.2.1 j.2.2.2).map fun s => l.set i (j.1, j.2.1, j.2.2.1, s)
theorem put_eq {m : List (TKey × Int)} (hm : m.isPerm m0S = true) {l : List TJob} (hs : Rise l) (hl : l.length ≤ 1000000) (x : TRec) : ∃ o, ledger_put (x, l, m, ()) = some (match addS l x with | some r => (r, true, o, ()) | none => ([], false, o, ())) := by
  refine ⟨m, ?_⟩
  show ledger_put_m0 ledger_put_K1 x l m = _
  unfold ledger_put_m0 addS
  rw [nvright_eq, Option.bind_some]
  dsimp only
  cases hr : rightX x with
  | false => rfl
  | true =>
    rw [if_neg (by decide), if_neg (show ¬ (true = false) by decide)]
    unfold rightX at hr
    rw [decide_eq_true_eq] at hr
    obtain ⟨r1, r2, r3, r4, r5⟩ := hr
    by_cases h1 : x.1 = 1
    · rw [if_pos (eqi_iff.2 h1), if_pos h1]
    · rw [if_neg (fun e => h1 (eqi_iff.1 e)), if_neg h1]
      by_cases h2 : x.1 = 2
      · rw [if_pos (eqi_iff.2 h2), if_pos h2]
        have hyes : x.2.2.2.1 = false := by
          cases hy : x.2.2.2.1 with
          | false => rfl
          | true => have := r4 hy; omega
        have K1 : ledger_put_K1 (lastT l) l m x = some (match (if lastT l < x.2.1 then some (l ++ [(x.2.1, x.2.2.1, x.2.2.2.2, 1)]) else none) with | some r => (r, true, m, ()) | none => ([], false, m, ())) := by
          unfold ledger_put_K1 ledger_put_m1
          rw [step_eq hm, h2, hyes]
          show (if (!true) = true then _ else ledger_put_K2 1 (le x.2.1 (lastT l)) l m x) = _
          rw [if_neg (by decide)]
          unfold ledger_put_K2 ledger_put_m2
          by_cases hlt : lastT l < x.2.1
          · rw [if_neg (by rw [le_iff]; omega), clone8_eq (by omega), Option.bind_some, need_small (by show l.length + 1 ≤ _; omega), if_pos hlt]
          · rw [if_pos (by rw [le_iff]; omega), if_neg hlt]
        cases hg : l.getLast? with
        | none =>
          have : l = [] := List.getLast?_eq_none_iff.1 hg
          subst this
          rw [if_neg (by decide)]
          exact K1
        | some j =>
          have hne : l ≠ [] := fun e => by rw [e] at hg; cases hg
          have hpos : 0 < l.length := List.length_pos_iff.2 hne
          have hlast : lastT l = j.1 := by unfold lastT; rw [hg]
          have hat : at? l (sub .i64 (Int.ofNat l.length) 1) = some j := by
            have : sub .i64 (Int.ofNat l.length) 1 = ((l.length - 1 : Nat) : Int) := by rw [ofNat_eq, sub64 (by omega) (by omega)]; omega
            rw [this]
            exact at_get (by rw [← List.getLast?_eq_getElem?]; exact hg)
          rw [if_pos (by rw [gt_iff, ofNat_eq]; omega), hat, Option.bind_some, Option.bind_some, ← hlast]
          exact K1
      · rw [if_neg (fun e => h2 (eqi_iff.1 e)), if_neg h2, findr_eq hs hl, Option.bind_some]
        cases hf : findJ l x.2.1 with
        | none => rfl
        | some i =>
          obtain ⟨j, hj, ht⟩ := findJ_some hf
          dsimp only
          rw [if_neg (by decide), at_get hj, Option.bind_some, Option.bind_some, step_eq hm, hj]
          dsimp only
          cases hst : stepS x.1 x.2.2.2.1 j.2.2.2 with
          | none => rfl
          | some s =>
            dsimp only [isV, gdV]
            rw [if_neg (show ¬ ((!(some s).isSome) = true) from fun e => by cases e), Option.bind_some, Option.bind_some, Int.toNat_natCast]
            rfl
theorem ladd_eq {l : List TJob} (hs : Rise l) (hl : l.length ≤ 1000000) (ht : ∀ j ∈ l, j.2.2.1.length ≤ 8192) (x : TRec) : ledger_Add (l, x, ()) = some (match addS l x with | some r => (r, 0, ()) | none => ([], 230, ())) := by
  show ledger_Add_m0 l x = _
  unfold ledger_Add_m0
  rw [own_eq hl ht, Option.bind_some]
  exact addG_eq (f := fun m => Option.bind (ledger_put (x, l, m, ())) fun y => if (!y.2.1) = true then some ([], 230, ()) else some (y.1, 0, ())) (fun z => eqAs_refl ledger_Add_s.rs z) fun m hm => by
    obtain ⟨o, ho⟩ := put_eq hm hs hl x
    rw [ho, Option.bind_some]
    cases addS l x <;> rfl
end Go.Proofs.Lx

end

section
/- A record more, and what is shown: ViewForward, as a plain law. -/
namespace Go.Proofs.Lx
open Go Ev Sx Pl
set_option maxRecDepth 100000
theorem rightJ_iff : ∀ {l : List TJob} {b : Int}, rightJ b l = true ↔ Rise l ∧ ∀ j ∈ l, b < j.1 ∧ j.2.1 ≠ 0 ∧ j.2.2.1.length ≤ 8192 ∧ 1 ≤ j.2.2.2 ∧ j.2.2.2 ≤ 5
  | [], _ => by simp [rightJ]
  | j :: r, b => by
    rw [rightJ_cons, Bool.and_eq_true, decide_eq_true_eq, rightJ_iff (l := r)]
    constructor
    · rintro ⟨h1, h2, h3⟩
      refine ⟨.cons (fun x hx => (h3 x hx).1) h2, fun x hx => ?_⟩
      rcases List.mem_cons.1 hx with rfl | hx
      · exact h1
      · have := h3 x hx
        exact ⟨by omega, this.2⟩
    · rintro ⟨h1, h2⟩
      refine ⟨h2 j List.mem_cons_self, h1.of_cons, fun x hx => ⟨List.rel_of_pairwise_cons h1 hx, (h2 x (List.mem_cons_of_mem _ hx)).2⟩⟩
/-- a right ledger of right numbers -/
def Good (l : List TJob) : Prop := rightJ 0 l = true ∧ ∀ j ∈ l, OkJ j
theorem good_nil : Good [] := ⟨rfl, by simp⟩
/-- how a job may stand behind how it stood -/
def stepC (a b : Int) : Prop := b = a ∨ (a = 1 ∧ (b = 2 ∨ b = 3)) ∨ ((a = 2 ∨ a = 3) ∧ b = a + 2)
theorem stepS_C {a : Int} {b : Bool} {c s : Int} (h : stepS a b c = some s) (ha : a ≠ 2) : stepC c s ∧ 1 ≤ s ∧ s ≤ 5 := by
  unfold stepS at h
  unfold stepC
  split at h
  · omega
  · split at h
    · cases h; omega
    · split at h
      · cases h; omega
      · split at h
        · cases h; omega
        · split at h
          · cases h; omega
          · cases h
/-- each job stays in its place, and goes on -/
def Onto (l r : List TJob) : Prop := (r.length = l.length ∨ r.length = l.length + 1) ∧ ∀ (k : Nat) (j : TJob), l[k]? = some j → ∃ j', r[k]? = some j' ∧ j'.1 = j.1 ∧ j'.2.1 = j.2.1 ∧ stepC j.2.2.2 j'.2.2.2
theorem rise_map {l : List TJob} : Rise l ↔ (l.map (·.1)).Pairwise (· < ·) := List.pairwise_map.symm
theorem last_ge {l : List TJob} (h : Rise l) : ∀ j ∈ l, j.1 ≤ lastT l := by
  intro j hj
  obtain ⟨i, hi, rfl⟩ := List.getElem_of_mem hj
  have hne : l ≠ [] := fun e => by subst e; cases hj
  have hl : l.getLast? = some (l[l.length - 1]'(by omega)) := by
    rw [List.getLast?_eq_getElem?, List.getElem?_eq_getElem]
  unfold lastT
  rw [hl]
  dsimp only
  by_cases hlt : i < l.length - 1
  · have := List.pairwise_iff_getElem.1 h i (l.length - 1) hi (by omega) hlt
    omega
  · have : i = l.length - 1 := by omega
    subst this
    exact Int.le_refl _
theorem add_onto {l r : List TJob} {x : TRec} (hg : Good l) (hx : 0 ≤ x.2.1 ∧ x.2.1 < 4294967296 ∧ 0 ≤ x.2.2.1 ∧ x.2.2.1 < 256) (h : addS l x = some r) : Good r ∧ Onto l r := by
  obtain ⟨hg1, hg2⟩ := hg
  obtain ⟨hrise, hall⟩ := rightJ_iff.1 hg1
  unfold addS at h
  split at h
  · cases h
  · rename_i hr
    have hr : rightX x = true := by simpa using hr
    unfold rightX at hr
    rw [decide_eq_true_eq] at hr
    obtain ⟨r1, r2, r3, r4, r5⟩ := hr
    split at h
    · cases h
      exact ⟨⟨hg1, hg2⟩, .inl rfl, fun k j hj => ⟨j, hj, rfl, rfl, .inl rfl⟩⟩
    · split at h
      · rename_i h2
        split at h
        · rename_i hlt
          cases h
          have hlast : 0 ≤ lastT l := by
            unfold lastT
            cases hgl : l.getLast? with
            | none => exact Int.le_refl _
            | some j =>
              have := hall j (List.mem_of_getLast? hgl)
              dsimp only
              omega
          have hwho := r3.1 h2
          have htext : x.2.2.2.2.length ≤ 8192 := by
            rcases r5 with h | h
            · omega
            · exact h.2
          refine ⟨⟨rightJ_iff.2 ⟨?_, fun j hj => ?_⟩, fun j hj => ?_⟩, .inr (by simp), fun k j hj => ⟨j, ?_, rfl, rfl, .inl rfl⟩⟩
          · refine List.pairwise_append.2 ⟨hrise, List.pairwise_singleton _ _, fun a ha b hb => ?_⟩
            rw [List.mem_singleton] at hb
            subst hb
            have := last_ge hrise a ha
            show a.1 < x.2.1
            omega
          · rcases List.mem_append.1 hj with hj | hj
            · exact hall j hj
            · rw [List.mem_singleton] at hj
              subst hj
              exact ⟨by show 0 < x.2.1; omega, by show x.2.2.1 ≠ 0; omega, htext, (by decide : (1 : Int) ≤ 1), (by decide : (1 : Int) ≤ 5)⟩
          · rcases List.mem_append.1 hj with hj | hj
            · exact hg2 j hj
            · rw [List.mem_singleton] at hj
              subst hj
              exact ⟨hx.1, hx.2.1, hx.2.2.1, hx.2.2.2, (by decide : (0 : Int) ≤ 1), (by decide : (1 : Int) < 256)⟩
          · rw [List.getElem?_append_left (List.getElem?_eq_some_iff.1 hj).1]
            exact hj
        · cases h
      · rename_i h2
        cases hf : findJ l x.2.1 with
        | none => rw [hf] at h; cases h
        | some i =>
          rw [hf] at h
          obtain ⟨j, hj, ht⟩ := findJ_some hf
          dsimp only at h
          rw [hj] at h
          dsimp only at h
          obtain ⟨s, hs, rfl⟩ := Option.map_eq_some_iff.1 h
          obtain ⟨c1, c2, c3⟩ := stepS_C hs h2
          have hi := (List.getElem?_eq_some_iff.1 hj).1
          have hmem : j ∈ l := List.mem_of_getElem? hj
          have hm : (l.set i (j.1, j.2.1, j.2.2.1, s)).map (·.1) = l.map (·.1) := by
            rw [List.map_set]
            apply List.ext_getElem?
            intro n
            rw [List.getElem?_set]
            split
            · rename_i hn
              subst hn
              rw [if_pos (by rw [List.length_map]; exact hi), List.getElem?_map, hj]
              rfl
            · rfl
          refine ⟨⟨rightJ_iff.2 ⟨?_, fun y hy => ?_⟩, fun y hy => ?_⟩, .inl (by simp), fun k y hy => ?_⟩
          · rw [rise_map, hm, ← rise_map]
            exact hrise
          · rcases List.mem_or_eq_of_mem_set hy with hy | hy
            · exact hall y hy
            · subst hy
              have := hall j hmem
              exact ⟨this.1, this.2.1, this.2.2.1, c2, c3⟩
          · rcases List.mem_or_eq_of_mem_set hy with hy | hy
            · exact hg2 y hy
            · subst hy
              obtain ⟨o1, o2, o3, o4, o5, o6⟩ := hg2 j hmem
              exact ⟨o1, o2, o3, o4, by show 0 ≤ s; omega, by show s < 256; omega⟩
          · by_cases hk : i = k
            · subst hk
              rw [hj] at hy
              cases hy
              exact ⟨(j.1, j.2.1, j.2.2.1, s), by rw [List.getElem?_set_self hi], rfl, rfl, c1⟩
            · exact ⟨y, by rw [List.getElem?_set_ne hk]; exact hy, rfl, rfl, .inl rfl⟩
/-! ### the lines shown -/
def linesS (waits : List Int) (l : List TJob) : List TLine := (shownS l).map (lineT waits)
def fineL (x y : TLine) : Prop := x.1 = y.1 ∧ x.2.2 = y.2.2 ∧ (x.2.1 = y.2.1 ∨ ((x.2.1 = 1 ∨ x.2.1 = 6) ∧ (y.2.1 = 2 ∨ y.2.1 = 3)) ∨ ((x.2.1 = 2 ∨ x.2.1 = 3) ∧ y.2.1 = x.2.1 + 2)) ∧ 1 ≤ x.2.1 ∧ x.2.1 ≤ 6
theorem lines_len (waits : List Int) (l : List TJob) : (linesS waits l).length = (shownS l).length := List.length_map ..
theorem lines_onto {waits : List Int} {l r : List TJob} (hg : Good l) (h : Onto l r) {out : Nat} (ho : out = if l.length < r.length ∧ (linesS waits l).length = 12 then 1 else 0) :
    (linesS waits l).length ≤ (linesS waits r).length ∧ (linesS waits r).length ≤ (linesS waits l).length + 1 ∧ out ≤ (linesS waits l).length ∧
    ∀ (i : Nat) (x : TLine), ((linesS waits l).drop out)[i]? = some x → ∃ y, (linesS waits r)[i]? = some y ∧ fineL x y := by
  obtain ⟨hlen, hp⟩ := h
  obtain ⟨n1, n2, n3, n4⟩ := shown_len l
  obtain ⟨m1, m2, m3, m4⟩ := shown_len r
  rw [lines_len] at ho ⊢
  rw [lines_len]
  have hout : out ≤ (shownS l).length := by
    subst ho
    split <;> omega
  refine ⟨by omega, by omega, hout, fun i x hx => ?_⟩
  unfold linesS at hx
  rw [List.getElem?_drop, List.getElem?_map] at hx
  obtain ⟨j, hj, rfl⟩ := Option.map_eq_some_iff.1 hx
  have hlt := (List.getElem?_eq_some_iff.1 hj).1
  unfold shownS at hj
  rw [List.getElem?_drop] at hj
  obtain ⟨j', h1, h2, h3, h4⟩ := hp _ j hj
  have hidx : l.length - 12 + (out + i) = r.length - 12 + i := by
    subst ho
    split <;> omega
  refine ⟨lineT waits j', ?_, h2.symm, h3.symm, ?_, ?_⟩
  · unfold linesS shownS
    rw [List.getElem?_map, List.getElem?_drop, ← hidx, h1]
    rfl
  · show stW waits j = stW waits j' ∨ ((stW waits j = 1 ∨ stW waits j = 6) ∧ (stW waits j' = 2 ∨ stW waits j' = 3)) ∨ ((stW waits j = 2 ∨ stW waits j = 3) ∧ stW waits j' = stW waits j + 2)
    rcases h4 with h4 | ⟨h4, h5⟩ | ⟨h4, h5⟩
    · left
      unfold stW
      rw [h4, h2]
    · right; left
      unfold stW
      rw [if_neg (fun e : j'.2.2.2 = 1 ∧ j'.1 ∈ waits => by omega)]
      refine ⟨?_, h5⟩
      split <;> omega
    · right; right
      unfold stW
      rw [if_neg (fun e : j'.2.2.2 = 1 ∧ j'.1 ∈ waits => by omega), if_neg (fun e : j.2.2.2 = 1 ∧ j.1 ∈ waits => by omega)]
      exact ⟨h4, h5⟩
  · have := rightJ_mem hg.1 j (List.mem_of_getElem? hj)
    exact stW_rng this.2.2.1 this.2.2.2
theorem fwd_K6 (u2 : List Int → List TJob → List TRec → Int → Int → Option (Bool × Unit)) {waits : List Int} {next : List TJob} {b : List TLine} {t28 : List TRec} {t29 t30 : Int} {c : List TLine} (hc : c.length ≤ 12)
    (hf : ∀ (i : Nat) (x : TLine), c[i]? = some x → ∃ y, b[i]? = some y ∧ fineL x y) :
    law29_ViewForward_K6 u2 waits next b t28 t29 t30 c (Int.ofNat c.length) ((0 : Nat) : Int) = u2 waits next t28 t29 (add .i64 t30 1) := by
  unfold law29_ViewForward_K6
  refine loop_dt (N := c.length) (mk := fun i => (waits, next, b, t28, t29, t30, c, Int.ofNat c.length, (i : Int))) ?_ ?_ c.length 0 _ (by omega) (by omega)
  · intro self i hi
    have hx := List.getElem?_eq_getElem hi
    generalize c[i] = x at hx
    obtain ⟨y, hy, f1, f2, f3, f4, f5⟩ := hf i x hx
    show law29_ViewForward_m6 _ _ _ waits next b t28 t29 t30 c (Int.ofNat c.length) (i : Int) = _
    unfold law29_ViewForward_m6
    have K8 : law29_ViewForward_K8 u2 (fun waits next b t28 t29 t30 t94 t95 t96 => self (waits, next, b, t28, t29, t30, t94, t95, t96)) waits next b t28 t29 t30 c (Int.ofNat c.length) (i : Int) false = self (waits, next, b, t28, t29, t30, c, Int.ofNat c.length, ((i + 1 : Nat) : Int)) := by
      unfold law29_ViewForward_K8 law29_ViewForward_m8
      rw [if_neg (by decide), succ64 (by omega)]
    have K7 : law29_ViewForward_K7 u2 (fun waits next b t28 t29 t30 t94 t95 t96 => self (waits, next, b, t28, t29, t30, t94, t95, t96)) waits next b true t28 t29 t30 c (Int.ofNat c.length) (i : Int) x y = self (waits, next, b, t28, t29, t30, c, Int.ofNat c.length, ((i + 1 : Nat) : Int)) := by
      unfold law29_ViewForward_K7 law29_ViewForward_m7
      rw [if_neg (by rw [nei_iff]; exact fun e => e f1), if_neg (by rw [nei_iff]; exact fun e => e f2)]
      exact K8
    have ha : add .u16 x.2.1 2 = x.2.1 + 2 := wu16 (by omega) (by omega)
    rw [if_pos (by rw [lt_iff, ofNat_eq]; omega), at_get hx, Option.bind_some, at_get hy, Option.bind_some, ha]
    have he : (x.2.1 = 2 ∨ x.2.1 = 3) → ¬ x.2.1 = y.2.1 → eqi y.2.1 (x.2.1 + 2) = true := fun h1 h2 => by rw [eqi_iff]; omega
    simp only [eqi_iff]
    by_cases h1 : x.2.1 = y.2.1
    · rw [if_pos h1]; exact K7
    · rw [if_neg h1]
      rcases f3 with f3 | ⟨f3 | f3, f6⟩ | ⟨f3, f6⟩
      · exact absurd f3 h1
      · rw [if_pos f3]
        by_cases h2 : y.2.1 = 2
        · rw [if_pos h2]; exact K7
        · rw [if_neg h2, if_pos (by omega)]; exact K7
      · rw [if_neg (by omega), if_pos f3]
        by_cases h2 : y.2.1 = 2
        · rw [if_pos h2]; exact K7
        · rw [if_neg h2, if_pos (by omega)]; exact K7
      · rw [if_neg (by omega), if_neg (by omega), he f3 h1]
        by_cases h2 : x.2.1 = 2
        · rw [if_pos h2]; exact K7
        · rw [if_neg h2, if_pos (by omega)]; exact K7
  · intro self
    show law29_ViewForward_m6 _ _ _ waits next b t28 t29 t30 c (Int.ofNat c.length) (c.length : Int) = _
    unfold law29_ViewForward_m6
    rw [if_neg (by rw [lt_iff, ofNat_eq]; omega)]
def OkX (x : TRec) : Prop := 0 ≤ x.2.1 ∧ x.2.1 < 4294967296 ∧ 0 ≤ x.2.2.1 ∧ x.2.2.1 < 256
theorem fwd_K2 {l : List TRec} {waits : List Int} (hl : l.length ≤ 80) (hw : waits.length ≤ 60) (hx : ∀ x ∈ l, OkX x) : law29_ViewForward_K2 waits [] l (Int.ofNat l.length) ((0 : Nat) : Int) = some (true, ()) := by
  unfold law29_ViewForward_K2
  refine loopF_eq (Inv := fun s => ∃ (i : Nat) (jobs : List TJob), s = (waits, jobs, l, Int.ofNat l.length, (i : Int)) ∧ i ≤ l.length ∧ jobs.length ≤ i ∧ Good jobs) (μ := fun s => (Int.ofNat l.length - s.2.2.2.2).toNat) (G := fun _ => some (true, ())) ?_ _ _ ⟨0, [], rfl, Nat.zero_le _, Nat.le_refl _, good_nil⟩ (by dsimp only; rw [ofNat_eq]; omega)
  rintro self s ⟨i, jobs, rfl, hi, hj, hg⟩ ih
  show law29_ViewForward_m2 _ _ waits jobs l (Int.ofNat l.length) (i : Int) = _
  unfold law29_ViewForward_m2
  have aw : (Option.bind (law29_awake ()) fun (y : Bool × Unit) => some (y.1, ())) = some (true, ()) := by rw [awake29]; rfl
  by_cases hlt : i < l.length
  · have hxx := List.getElem?_eq_getElem hlt
    have hox := hx _ (List.getElem_mem hlt)
    generalize l[i] = x at hxx hox
    rw [if_pos (by rw [lt_iff, ofNat_eq]; omega), at_get hxx, Option.bind_some]
    by_cases ht : x.2.2.2.2.length ≤ 300
    · have hright := rightJ_iff.1 hg.1
      rw [if_neg (by rw [gt_iff, ofNat_eq]; omega), ladd_eq hright.1 (by omega) (fun j hj => (hright.2 j hj).2.2.1)]
      cases ha : addS jobs x with
      | none =>
        rw [Option.bind_some, if_pos (by decide), succ64 (by omega)]
        exact ih _ ⟨i + 1, jobs, rfl, by omega, by omega, hg⟩ (by dsimp only; rw [ofNat_eq]; omega)
      | some r =>
        obtain ⟨hgr, hon⟩ := add_onto hg hox ha
        have hlr : r.length ≤ i + 1 := by rcases hon.1 with h | h <;> omega
        have hout := lines_onto (waits := waits) hg hon rfl
        obtain ⟨o1, o2, o3, o4⟩ := hout
        have ea : (shownS jobs).map (lineT waits) = linesS waits jobs := rfl
        have eb : (shownS r).map (lineT waits) = linesS waits r := rfl
        rw [Option.bind_some]
        dsimp only
        rw [if_neg (by decide), vmem_eq (by omega) (by omega) hg.2, Option.bind_some]
        dsimp only
        rw [read_mem (by omega) hg.2 hg.1, Option.bind_some, vmem_eq (by omega) (by omega) hgr.2, Option.bind_some]
        dsimp only
        rw [read_mem (by omega) hgr.2 hgr.1, Option.bind_some]
        dsimp only
        rw [if_neg (by decide), if_neg (by decide), ea, eb, if_neg (by rw [lt_iff, ofNat_eq, ofNat_eq]; omega)]
        have hgt : gt (Int.ofNat (linesS waits r).length) (add .i64 (Int.ofNat (linesS waits jobs).length) 1) = false := by
          have := (shown_len jobs).1
          rw [← lines_len waits] at this
          rw [ofNat_eq, ofNat_eq, succ64 (by omega)]
          exact decide_eq_false (by omega)
        rw [hgt]
        have go : ∀ out : Nat, out = (if jobs.length < r.length ∧ (linesS waits jobs).length = 12 then 1 else 0) →
            law29_ViewForward_K5 (fun waits jobs t28 t29 t30 => self (waits, jobs, t28, t29, t30)) waits r (linesS waits jobs) (linesS waits r) (out : Int) l (Int.ofNat l.length) (i : Int) = some (true, ()) := by
          intro out he
          unfold law29_ViewForward_K5 law29_ViewForward_m5
          rw [← he] at o3 o4
          rw [cut_from o3, Option.bind_some]
          refine (fwd_K6 _ ?_ o4).trans ?_
          · have := (shown_len jobs).1
            rw [← lines_len waits] at this
            rw [List.length_drop]
            omega
          · rw [succ64 (by omega)]
            exact ih _ ⟨i + 1, r, rfl, by omega, hlr, hgr⟩ (by dsimp only; rw [ofNat_eq]; omega)
        unfold law29_ViewForward_K3 law29_ViewForward_m3
        rw [if_neg (by decide)]
        by_cases hgtl : jobs.length < r.length
        · rw [if_pos (by rw [gt_iff, ofNat_eq, ofNat_eq]; omega)]
          unfold law29_ViewForward_K4 law29_ViewForward_m4
          by_cases h12 : (linesS waits jobs).length = 12
          · rw [if_pos (by rw [eqi_iff, h12]; rfl)]
            exact go 1 (by rw [if_pos ⟨hgtl, h12⟩])
          · rw [if_neg (by rw [eqi_iff, ofNat_eq]; omega)]
            exact go 0 (by rw [if_neg (fun e => h12 e.2)])
        · rw [if_neg (by rw [gt_iff, ofNat_eq, ofNat_eq]; omega)]
          unfold law29_ViewForward_K4 law29_ViewForward_m4
          rw [if_neg (by decide)]
          exact go 0 (by rw [if_neg (fun e => hgtl e.1)])
    · rw [if_pos (by rw [gt_iff, ofNat_eq]; omega)]
      exact aw
  · rw [if_neg (by rw [lt_iff, ofNat_eq]; omega)]
    exact aw
theorem fwd_law {l : List TRec} {waits : List Int} (hx : ∀ x ∈ l, OkX x) : law29_ViewForward (l, waits, ()) = some (true, ()) := by
  have K1t : law29_ViewForward_K1 l waits true = some (true, ()) := by
    unfold law29_ViewForward_K1 law29_ViewForward_m1
    rw [if_pos rfl, awake29]
    rfl
  show law29_ViewForward_m0 law29_ViewForward_K1 l waits = _
  unfold law29_ViewForward_m0
  by_cases hl : l.length ≤ 80
  · rw [if_neg (by rw [gt_iff, ofNat_eq]; omega)]
    by_cases hw : waits.length ≤ 60
    · rw [show gt (Int.ofNat waits.length) 60 = false from decide_eq_false (by rw [ofNat_eq]; omega)]
      unfold law29_ViewForward_K1 law29_ViewForward_m1
      rw [if_neg (by decide)]
      exact fwd_K2 hl hw hx
    · rw [show gt (Int.ofNat waits.length) 60 = true from decide_eq_true (by rw [ofNat_eq]; omega)]
      exact K1t
  · rw [if_pos (by rw [gt_iff, ofNat_eq]; omega)]
    exact K1t
abbrev tRec : Ty := .pr (.int .u8) (.pr (.int .u32) (.pr (.int .u8) (.pr .bool (.sl (.int .u8)))))
theorem okX_of {x : TRec} (h : Rw.okV tRec x) : OkX x := by
  have h1 := okw32 h.2.1
  have h2 := okw8 h.2.2.1
  exact ⟨h1.1, h1.2, h2.1, h2.2⟩
theorem fwd_row (x : As [.sl tRec, .sl (.int .u32)]) (h : Rw.okA [.sl tRec, .sl (.int .u32)] x) : law29_ViewForward x = some (true, ()) :=
  fwd_law (l := x.1) (waits := x.2.1) (fun j hj => okX_of (h.1.2 j hj))
end Go.Proofs.Lx

end
