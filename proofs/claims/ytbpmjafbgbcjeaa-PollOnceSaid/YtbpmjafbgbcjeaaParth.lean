/- Proved in the last of these 9 parts (this is part 8): PollOnce, whatever its arguments, returns true and leaves them as they were, with no condition.. Conditions: those of the given statement, and no others. -/
import Derived.Test.YtbpmjafbgbcjeaaPartg
import Derived.Test.YtbpmjafbgbcjeaaPartd
set_option linter.unusedVariables false
set_option linter.unusedSimpArgs false
set_option linter.unusedSectionVars false
section
/- The bytes of requests. -/
namespace Go.Proofs.Lx
open Go Ev Sx Pl
set_option maxRecDepth 100000
/-- what a right request is -/
inductive RA : TA → Prop where
  | bits (f p n : Int) (hf : f = 1 ∨ f = 2) (h1 : 1 ≤ n) (h2 : n ≤ 2000) : RA (f, p, n, 0, [], [])
  | words (f p n : Int) (hf : f = 3 ∨ f = 4) (h1 : 1 ≤ n) (h2 : n ≤ 125) : RA (f, p, n, 0, [], [])
  | coil (p : Int) (b : Bool) : RA (5, p, 0, 0, [], [b])
  | word (p : Int) (x : Int) : RA (6, p, 0, 0, [x], [])
  | coils (p : Int) (l : List Bool) (h1 : 1 ≤ l.length) (h2 : l.length ≤ 1968) : RA (15, p, (l.length : Int), 0, [], l)
  | regs (p : Int) (l : List Int) (h1 : 1 ≤ l.length) (h2 : l.length ≤ 123) : RA (16, p, (l.length : Int), 0, l, [])
  | swap (p n t : Int) (l : List Int) (h1 : 1 ≤ l.length) (h2 : l.length ≤ 121) (h3 : 1 ≤ n) (h4 : n ≤ 125) : RA (23, p, n, t, l, [])
theorem within0 {n : Int} (h : withinV n 0 = true) : n = 0 := eqi_iff.1 h
theorem within1 {n m : Int} (hm : 0 < m) (h : withinV n m = true) : 1 ≤ n ∧ n ≤ m := by
  unfold withinV at h
  rw [if_neg (by rw [eqi_iff]; omega)] at h
  split at h
  · rename_i h1; exact ⟨ge_iff.1 h1, le_iff.1 h⟩
  · cases h
theorem len0 {α : Type} {l : List α} (h : Int.ofNat l.length = 0) : l = [] := by
  rw [ofNat_eq] at h
  exact List.eq_nil_of_length_eq_zero (by omega)
theorem len1 {α : Type} {l : List α} (h : 1 ≤ Int.ofNat l.length ∧ Int.ofNat l.length ≤ 1) : ∃ x, l = [x] := by
  rw [ofNat_eq] at h
  exact List.length_eq_one_iff.1 (by omega)
theorem rightA_RA {a : TA} (hr : rightA a = true) : RA a := by
  obtain ⟨f, p, n, t, ws, bs⟩ := a
  unfold rightA at hr
  simp only at hr
  rcases shp_cases f with ⟨hf, e⟩ | ⟨hf, e⟩ | ⟨hf, e⟩ | ⟨hf, e⟩ | ⟨hf, e⟩ | ⟨hf, e⟩ | ⟨hf, e⟩ | ⟨hf, e⟩ <;> rw [e] at hr <;> simp only [rightS, Bool.and_eq_true, Bool.false_or, Bool.true_or, Bool.not_false, Bool.not_true, true_and, and_true] at hr
  · obtain ⟨h1, h2, h3, h4⟩ := hr
    have h2 := within1 (by decide) h2
    rw [eqi_iff.1 h1, len0 (within0 h3), len0 (within0 h4)]
    exact .bits f p n hf h2.1 h2.2
  · obtain ⟨h1, h2, h3, h4⟩ := hr
    have h2 := within1 (by decide) h2
    rw [eqi_iff.1 h1, len0 (within0 h3), len0 (within0 h4)]
    exact .words f p n hf h2.1 h2.2
  · obtain ⟨h1, h2, h3, h4⟩ := hr
    obtain ⟨b, rfl⟩ := len1 (within1 (by decide) h3)
    rw [eqi_iff.1 h1, within0 h2, len0 (within0 h4), hf]
    exact .coil p b
  · obtain ⟨h1, h2, h3, h4⟩ := hr
    obtain ⟨b, rfl⟩ := len1 (within1 (by decide) h4)
    rw [eqi_iff.1 h1, within0 h2, len0 (within0 h3), hf]
    exact .word p b
  · obtain ⟨h1, h2, h3, h4, h5⟩ := hr
    have h3 := within1 (by decide) h3
    have e4 := len0 (within0 h4)
    subst e4
    rw [eqi_iff.1 h1, ← eqi_iff.1 h5, hf]
    rw [ofNat_eq] at h3
    exact .coils p bs (by omega) (by omega)
  · obtain ⟨h1, h2, h3, h4, h5⟩ := hr
    have h4 := within1 (by decide) h4
    have e3 := len0 (within0 h3)
    subst e3
    have e5 : (ws.length : Int) = n := by have := eqi_iff.1 h5; simpa using this
    rw [eqi_iff.1 h1, ← e5, hf]
    rw [ofNat_eq] at h4
    exact .regs p ws (by omega) (by omega)
  · obtain ⟨h2, h3, h4⟩ := hr
    have h2 := within1 (by decide) h2
    have h4 := within1 (by decide) h4
    rw [len0 (within0 h3), hf]
    rw [ofNat_eq] at h4
    exact .swap p n t ws (by omega) (by omega) h2.1 h2.2
  · cases hr
def askB (a : TA) : List Int :=
  if a.1 = 5 then a.1 :: two a.2.1 ++ two (if a.2.2.2.2.2.headD false = true then 65280 else 0)
  else if a.1 = 6 then a.1 :: two a.2.1 ++ a.2.2.2.2.1.flatMap two
  else if a.1 = 15 then a.1 :: two a.2.1 ++ two a.2.2.1 ++ [(packN a.2.2.2.2.2.length : Int)] ++ packS a.2.2.2.2.2
  else if a.1 = 16 then a.1 :: two a.2.1 ++ two a.2.2.1 ++ [2 * (a.2.2.2.2.1.length : Int)] ++ a.2.2.2.2.1.flatMap two
  else if a.1 = 23 then a.1 :: two a.2.1 ++ two a.2.2.1 ++ two a.2.2.2.1 ++ two (a.2.2.2.2.1.length : Int) ++ [2 * (a.2.2.2.2.1.length : Int)] ++ a.2.2.2.2.1.flatMap two
  else a.1 :: two a.2.1 ++ two a.2.2.1
theorem flat_two_len (l : List Int) : (l.flatMap two).length = 2 * l.length := by
  induction l with
  | nil => rfl
  | cons x r ih => rw [List.flatMap_cons, List.length_append, ih]; simp [two]; omega
theorem two_len (x : Int) : (two x).length = 2 := rfl
theorem askB_len {a : TA} (h : RA a) : 5 ≤ (askB a).length ∧ (askB a).length ≤ 253 := by
  cases h with
  | bits f p n hf h1 h2 => rcases hf with rfl | rfl <;> exact ⟨Nat.le.refl, (by decide : 5 ≤ 253)⟩
  | words f p n hf h1 h2 => rcases hf with rfl | rfl <;> exact ⟨Nat.le.refl, (by decide : 5 ≤ 253)⟩
  | coil p b => exact ⟨Nat.le.refl, (by decide : 5 ≤ 253)⟩
  | word p x => exact ⟨Nat.le.refl, (by decide : 5 ≤ 253)⟩
  | coils p l h1 h2 =>
    show 5 ≤ ((15 : Int) :: two p ++ two _ ++ [_] ++ packS l).length ∧ ((15 : Int) :: two p ++ two _ ++ [_] ++ packS l).length ≤ 253
    simp only [List.length_append, List.length_cons, List.length_nil, packS_len, two_len]
    unfold packN
    omega
  | regs p l h1 h2 =>
    show 5 ≤ ((16 : Int) :: two p ++ two _ ++ [_] ++ l.flatMap two).length ∧ ((16 : Int) :: two p ++ two _ ++ [_] ++ l.flatMap two).length ≤ 253
    simp only [List.length_append, List.length_cons, List.length_nil, flat_two_len, two_len]
    omega
  | swap p n t l h1 h2 h3 h4 =>
    show 5 ≤ ((23 : Int) :: two p ++ two _ ++ two _ ++ two _ ++ [_] ++ l.flatMap two).length ∧ ((23 : Int) :: two p ++ two _ ++ two _ ++ two _ ++ [_] ++ l.flatMap two).length ≤ 253
    simp only [List.length_append, List.length_cons, List.length_nil, flat_two_len, two_len]
    omega
abbrev BO := Option (As [.sl (.int .u8), .int .i64])
theorem bK0 (f p n : Int) (s1 : Int) (out : List Int) (h5 : f = 1 ∨ f = 2 ∨ f = 3 ∨ f = 4) : ask_Bytes_K1 f p n 0 [] [] s1 0 0 false false out = some (out, 0, ()) := by
  rcases h5 with rfl | rfl | rfl | rfl <;> rfl
theorem bK5 (p : Int) (b : Bool) (out : List Int) : ask_Bytes_K1 5 p 0 0 [] [b] 0 1 0 false false out = Option.bind (ask_numbers ([if b = true then 65280 else 0], out, ())) fun y => (some (y.1, 0, ()) : BO) := by
  cases b <;> rfl
theorem bK6 (p x : Int) (out : List Int) : ask_Bytes_K1 6 p 0 0 [x] [] 0 0 1 false false out = Option.bind (ask_numbers ([x], out, ())) fun y => (some (y.1, 0, ()) : BO) := rfl
theorem bK15 (p n : Int) (l : List Bool) (out : List Int) : ask_Bytes_K1 15 p n 0 [] l 1968 1968 0 false true out =
    Option.bind (ask_Pack (l, ())) fun y => need (small (out.length + 1)) (need (small ((out ++ [Int.ofNat (y.1.length % 256)]).length + y.1.length)) (some (out ++ [Int.ofNat (y.1.length % 256)] ++ y.1, 0, ()) : BO)) := rfl
theorem bK16 (p n : Int) (l : List Int) (out : List Int) : ask_Bytes_K1 16 p n 0 l [] 123 0 123 false true out =
    need (small (out.length + 1)) (Option.bind (ask_numbers (l, out ++ [cvt .u8 (mul .i64 2 (Int.ofNat l.length))], ())) fun y => (some (y.1, 0, ()) : BO)) := rfl
theorem bK23 (p n t : Int) (l : List Int) (out : List Int) : ask_Bytes_K1 23 p n t l [] 125 0 121 true false out =
    Option.bind (ask_numbers ([t, Int.ofNat (l.length % 65536)], out, ())) fun y => need (small (y.1.length + 1)) (Option.bind (ask_numbers (l, y.1 ++ [cvt .u8 (mul .i64 2 (Int.ofNat l.length))], ())) fun y => (some (y.1, 0, ()) : BO)) := rfl
theorem nums1 (x : Int) {out : List Int} (h : out.length ≤ 900000) : ask_numbers ([x], out, ()) = some (out ++ two x, ()) := by
  rw [numbers_eq (by simp; omega)]
  simp
theorem bytes_eq {a : TA} (h : OkA a) : ask_Bytes (a, ()) = if rightA a = true then some (askB a, 0, ()) else some ([], 12, ()) := by
  show ask_Bytes_m0 ask_Bytes_K1 a = _
  unfold ask_Bytes_m0
  rw [right_eq h, Option.bind_some]
  cases hr : rightA a with
  | false => rfl
  | true =>
    have hra := rightA_RA hr
    rw [if_neg (by decide), if_pos rfl, shape_eq, Option.bind_some]
    clear hr h
    have hin : ∀ f p : Int, ask_numbers ([p], [f], ()) = some (f :: two p, ()) := fun f p => nums1 p (by simp)
    have hin2 : ∀ f p n : Int, ask_numbers ([n], f :: two p, ()) = some (f :: two p ++ two n, ()) := fun f p n => nums1 n (by simp [two])
    cases hra with
    | bits f p n hf h1 h2 =>
      rcases hf with rfl | rfl <;> rw [hin, Option.bind_some, if_pos (by rfl), hin2, Option.bind_some]
      · exact bK0 1 p n 2000 _ (.inl rfl)
      · exact bK0 2 p n 2000 _ (.inr (.inl rfl))
    | words f p n hf h1 h2 =>
      rcases hf with rfl | rfl <;> rw [hin, Option.bind_some, if_pos (by rfl), hin2, Option.bind_some]
      · exact bK0 3 p n 125 _ (.inr (.inr (.inl rfl)))
      · exact bK0 4 p n 125 _ (.inr (.inr (.inr rfl)))
    | coil p b =>
      rw [hin, Option.bind_some, if_neg (by show ¬ gt 0 0 = true; decide)]
      exact (bK5 p b _).trans (by rw [nums1 _ (by simp [two]), Option.bind_some]; rfl)
    | word p x =>
      rw [hin, Option.bind_some, if_neg (by show ¬ gt 0 0 = true; decide)]
      exact (bK6 p x _).trans (by rw [nums1 _ (by simp [two]), Option.bind_some]; simp [askB])
    | coils p l h1 h2 =>
      rw [hin, Option.bind_some, if_pos (by rfl), hin2, Option.bind_some]
      refine (bK15 p _ l _).trans ?_
      rw [pack_eq (by omega), Option.bind_some, need_small (by simp [two]), need_small (by simp [two, packS_len, packN]; omega)]
      refine congrArg (fun x => some (x, 0, ())) ?_
      have e : packN l.length % 256 = packN l.length := by unfold packN; omega
      rw [packS_len, e]
      rfl
    | regs p l h1 h2 =>
      rw [hin, Option.bind_some, if_pos (by rfl), hin2, Option.bind_some]
      refine (bK16 p _ l _).trans ?_
      rw [need_small (by simp [two]), mul64 (by rw [ofNat_eq]; omega) (by rw [ofNat_eq]; omega), cvt8, numbers_eq (by simp [two]; omega), Option.bind_some]
      refine congrArg (fun x => some (x, 0, ())) ?_
      have e : (2 * Int.ofNat l.length) % 256 = 2 * (l.length : Int) := by rw [ofNat_eq]; omega
      rw [e]
      rfl
    | swap p n t l h1 h2 h3 h4 =>
      rw [hin, Option.bind_some, if_pos (by rfl), hin2, Option.bind_some]
      refine (bK23 p n t l _).trans ?_
      rw [numbers_eq (by simp [two]), Option.bind_some, need_small (by simp [two]), mul64 (by rw [ofNat_eq]; omega) (by rw [ofNat_eq]; omega), cvt8, numbers_eq (by simp [two]; omega), Option.bind_some]
      refine congrArg (fun x => some (x, 0, ())) ?_
      have e : (2 * Int.ofNat l.length) % 256 = 2 * (l.length : Int) := by rw [ofNat_eq]; omega
      have e2 : Int.ofNat (l.length % 65536) = (l.length : Int) := by rw [ofNat_eq]; omega
      rw [e, e2]
      simp [askB]
end Go.Proofs.Lx

end

section
/- Polls: what they send, by ticks, and which are the same. -/
namespace Pl
open Go Ev Sx
theorem zip_at {α β : Type} {s1 : List α} {s2 : List β} (h : s1.length = s2.length) {i : Nat} {x : α × β} (hx : (s1.zip s2)[i]? = some x) : s1[i]? = some x.1 ∧ s2[i]? = some x.2 := by
  rw [List.getElem?_zip_eq_some] at hx
  exact hx
/-- two rows are compared, element by element -/
theorem goL_eq {α : Type} [DecidableEq α] {ne : α → α → Bool} (hne : ∀ a b, ne a b = !decide (a = b)) : ∀ (s1 s2 : List α), s1.length = s2.length →
    goL (R := Bool × Unit) (fun (_ : Unit) (x : α × α) k => if ne x.1 x.2 = true then some (false, ()) else k ()) (fun _ => some (true, ())) (s1.zip s2) () = some (decide (s1 = s2), ())
  | [], [], _ => rfl
  | a :: r, b :: q, h => by
    rw [List.zip_cons_cons]
    show (if ne a b = true then some (false, ()) else goL _ _ (r.zip q) ()) = _
    rw [hne]
    by_cases e : a = b
    · subst e
      rw [if_neg (by simp), goL_eq hne r q (by simpa using h)]
      simp
    · rw [if_pos (by simp [e])]
      simp [e]
end Pl
namespace Go.Proofs.Lx
open Go Ev Sx Pl
set_option maxRecDepth 100000
theorem equalW_eq {s1 s2 : List Int} (h : s1.length ≤ 1000000) : slices_Equal_Guint16 (s1, s2, ()) = some (decide (s1 = s2), ()) := by
  show slices_Equal_Guint16_m0 slices_Equal_Guint16_K1 s1 s2 = _
  unfold slices_Equal_Guint16_m0
  by_cases hl : s1.length = s2.length
  · rw [if_neg (by rw [nei_iff, ofNat_eq, ofNat_eq]; omega)]
    unfold slices_Equal_Guint16_K1
    have hz : (s1.zip s2).length = s1.length := by rw [List.length_zip]; omega
    rw [← goL_eq (ne := nei) (fun a b => by simp [nei]; rfl) s1 s2 hl]
    refine loop_go (xs := s1.zip s2) (mk := fun i _ => (s1, s2, Int.ofNat s1.length, (i : Int))) ?_ ?_ s1.length 0 () _ (by rw [hz]; omega) (by omega)
    · intro self i acc x hx
      have hi := (List.getElem?_eq_some_iff.1 hx).1
      obtain ⟨h1, h2⟩ := zip_at hl hx
      show slices_Equal_Guint16_m1 _ s1 s2 (Int.ofNat s1.length) (i : Int) = _
      unfold slices_Equal_Guint16_m1
      rw [if_pos (by rw [lt_iff, ofNat_eq]; omega), at_get h1, Option.bind_some, at_get h2, Option.bind_some, succ64 (by omega)]
    · intro self acc
      show slices_Equal_Guint16_m1 _ s1 s2 (Int.ofNat s1.length) (((s1.zip s2).length : Nat) : Int) = _
      unfold slices_Equal_Guint16_m1
      rw [if_neg (by rw [lt_iff, ofNat_eq]; omega)]
  · rw [if_pos (by rw [nei_iff, ofNat_eq, ofNat_eq]; omega), decide_eq_false (fun e => hl (by rw [e]))]
theorem equalB_eq {s1 s2 : List Bool} (h : s1.length ≤ 1000000) : slices_Equal_Gbool (s1, s2, ()) = some (decide (s1 = s2), ()) := by
  show slices_Equal_Gbool_m0 slices_Equal_Gbool_K1 s1 s2 = _
  unfold slices_Equal_Gbool_m0
  by_cases hl : s1.length = s2.length
  · rw [if_neg (by rw [nei_iff, ofNat_eq, ofNat_eq]; omega)]
    unfold slices_Equal_Gbool_K1
    have hz : (s1.zip s2).length = s1.length := by rw [List.length_zip]; omega
    rw [← goL_eq (ne := neb) (fun a b => by cases a <;> cases b <;> rfl) s1 s2 hl]
    refine loop_go (xs := s1.zip s2) (mk := fun i _ => (s1, s2, Int.ofNat s1.length, (i : Int))) ?_ ?_ s1.length 0 () _ (by rw [hz]; omega) (by omega)
    · intro self i acc x hx
      have hi := (List.getElem?_eq_some_iff.1 hx).1
      obtain ⟨h1, h2⟩ := zip_at hl hx
      show slices_Equal_Gbool_m1 _ s1 s2 (Int.ofNat s1.length) (i : Int) = _
      unfold slices_Equal_Gbool_m1
      rw [if_pos (by rw [lt_iff, ofNat_eq]; omega), at_get h1, Option.bind_some, at_get h2, Option.bind_some, succ64 (by omega)]
    · intro self acc
      show slices_Equal_Gbool_m1 _ s1 s2 (Int.ofNat s1.length) (((s1.zip s2).length : Nat) : Int) = _
      unfold slices_Equal_Gbool_m1
      rw [if_neg (by rw [lt_iff, ofNat_eq]; omega)]
  · rw [if_pos (by rw [nei_iff, ofNat_eq, ofNat_eq]; omega), decide_eq_false (fun e => hl (by rw [e]))]
abbrev BB := Option (As [.bool])
theorem if_dec {p : Prop} [Decidable p] {b : Bool} {k : BB} {q : Bool} (h : b = true ↔ p) (hk : p → k = some (q, ())) : (if b = true then k else some (false, ())) = some (decide p && q, ()) := by
  by_cases hp : p
  · rw [if_pos (h.2 hp), hk hp, decide_eq_true hp]; rfl
  · rw [if_neg (fun e => hp (h.1 e)), decide_eq_false hp]; rfl
instance decA5 : DecidableEq (Int × Int × Int × List Int × List Bool) := inferInstance
instance decA : DecidableEq TA := inferInstance
theorem sameA_eq {a b : TA} (h1 : a.2.2.2.2.1.length ≤ 1000000) (h2 : a.2.2.2.2.2.length ≤ 1000000) : ask_Same (a, b, ()) = some (decide (a = b), ()) := by
  show ask_Same_m0 a b = _
  unfold ask_Same_m0
  rw [equalW_eq h1, Option.bind_some, equalB_eq h2, Option.bind_some]
  obtain ⟨a1, a2, a3, a4, a5, a6⟩ := a
  obtain ⟨b1, b2, b3, b4, b5, b6⟩ := b
  rw [if_dec (eqi_iff) fun _ => if_dec (eqi_iff) fun _ => if_dec (eqi_iff) fun _ => if_dec (eqi_iff) fun _ => if_dec (p := a5 = b5) (by simp) fun _ => rfl]
  refine congrArg (fun x => some (x, ())) ?_
  rw [Bool.eq_iff_iff]
  simp [Prod.ext_iff]
abbrev TP := Int × Int × Int × Int × Bool × TA × Int × Int × Int
instance decP1 : DecidableEq (TA × Int × Int × Int) := inferInstance
instance decP2 : DecidableEq (Int × Bool × TA × Int × Int × Int) := inferInstance
instance decP : DecidableEq TP := inferInstance
theorem eqb_iff {a b : Bool} : eqb a b = true ↔ a = b := by cases a <;> cases b <;> decide
theorem samep_eq {a b : TP} (h1 : a.2.2.2.2.2.1.2.2.2.2.1.length ≤ 1000000) (h2 : a.2.2.2.2.2.1.2.2.2.2.2.length ≤ 1000000) : poll_Same (a, b, ()) = some (decide (a = b), ()) := by
  show poll_Same_m0 a b = _
  unfold poll_Same_m0
  rw [sameA_eq h1 h2, Option.bind_some]
  obtain ⟨a1, a2, a3, a4, a5, a6, a7, a8, a9⟩ := a
  obtain ⟨b1, b2, b3, b4, b5, b6, b7, b8, b9⟩ := b
  rw [if_dec (eqi_iff) fun _ => if_dec (eqi_iff) fun _ => if_dec (eqi_iff) fun _ => if_dec (eqi_iff) fun _ => if_dec (eqb_iff) fun _ => if_dec (eqi_iff) fun _ => if_dec (eqi_iff) fun _ => if_dec (eqi_iff) fun _ => rfl]
  refine congrArg (fun x => some (x, ())) ?_
  rw [Bool.eq_iff_iff]
  simp only [Bool.and_eq_true, decide_eq_true_eq, Prod.ext_iff]
  constructor
  · rintro ⟨h1, h2, h3, h4, h5, h6, h7, h8, h9⟩; exact ⟨h1, h2, h3, h4, h5, h9, h6, h7, h8⟩
  · rintro ⟨h1, h2, h3, h4, h5, h9, h6, h7, h8⟩; exact ⟨h1, h2, h3, h4, h5, h6, h7, h8, h9⟩
theorem cloneW_eq {s : List Int} (h : s.length ≤ 1000000) : slices_Clone_Guint16 (s, ()) = some (s, ()) := by
  show slices_Clone_Guint16_m0 s = _
  unfold slices_Clone_Guint16_m0
  split
  · rename_i h0
    rw [len0 (eqi_iff.1 h0)]
    rfl
  · rw [need_small (by omega)]
    rfl
theorem cloneB_eq {s : List Bool} (h : s.length ≤ 1000000) : slices_Clone_Gbool (s, ()) = some (s, ()) := by
  show slices_Clone_Gbool_m0 s = _
  unfold slices_Clone_Gbool_m0
  split
  · rename_i h0
    rw [len0 (eqi_iff.1 h0)]
    rfl
  · rw [need_small (by omega)]
    rfl
theorem copied_eq {a : TA} (h1 : a.2.2.2.2.1.length ≤ 1000000) (h2 : a.2.2.2.2.2.length ≤ 1000000) : poll_copied (a, ()) = some (a, ()) := by
  show poll_copied_m0 a = _
  unfold poll_copied_m0
  rw [cloneW_eq h1, Option.bind_some, cloneB_eq h2, Option.bind_some]
theorem own_eq {p : TP} (h1 : p.2.2.2.2.2.1.2.2.2.2.1.length ≤ 1000000) (h2 : p.2.2.2.2.2.1.2.2.2.2.2.length ≤ 1000000) : poll_own (p, ()) = some (p, ()) := by
  show poll_own_m0 p = _
  unfold poll_own_m0
  rw [copied_eq h1 h2, Option.bind_some]
/-! ### frames -/
def mbapV (tx unit : Int) (pdu : List Int) : List Int := [tx / 256 % 256, tx % 256, 0, 0, 0, (pdu.length + 1 : Nat) % 256, unit] ++ pdu
theorem mbap_eq {tx unit : Int} {pdu : List Int} (h1 : 1 ≤ pdu.length) (h2 : pdu.length ≤ 253) : mbap_Pack ((tx, unit, pdu), ()) = some (mbapV tx unit pdu, 0, ()) := by
  show mbap_Pack_m0 mbap_Pack_K1 (tx, unit, pdu) = _
  unfold mbap_Pack_m0
  rw [if_neg (by rw [lt_iff]; simp only [ofNat_eq]; omega)]
  show mbap_Pack_m1 (Int.ofNat pdu.length) (gt (Int.ofNat pdu.length) 253) tx unit pdu = _
  unfold mbap_Pack_m1
  have e : add .i64 7 (Int.ofNat pdu.length) = ((7 + pdu.length : Nat) : Int) := addn64 (n := 7) (by omega)
  rw [if_neg (by rw [gt_iff, ofNat_eq]; omega), e, need_t (capOk_0 (by omega)), need_t (by rw [small_iff]; omega), need_small (by omega), need_small (by simp; omega), cvt8, cvt8, cvt8, shr8 _ _ (by decide), ofNat_eq, succ64 (by omega)]
  rfl
def frameV (link unit tx : Int) (a : TA) : List Int := if link = 2 then mbapV tx unit (askB a) else putV (unit :: askB a)
theorem tcpf_eq {unit tx : Int} {a : TA} (h : OkA a) (hr : rightA a = true) : poll_tcp_frame ((), unit, tx, a, ()) = some (mbapV tx unit (askB a), ()) := by
  show poll_tcp_frame_m0 () unit tx a = _
  unfold poll_tcp_frame_m0
  have hl := askB_len (rightA_RA hr)
  rw [bytes_eq h, if_pos hr, Option.bind_some, if_neg (by show ¬ nei 0 0 = true; decide)]
  dsimp only
  rw [mbap_eq (by omega) (by omega), Option.bind_some, if_neg (by show ¬ nei 0 0 = true; decide)]
theorem rtub_eq {unit : Int} {pdu : List Int} (hu : 1 ≤ unit) (hu2 : unit ≤ 247) (h1 : 1 ≤ pdu.length) (h2 : pdu.length ≤ 253) : rtu_Bytes (unit, pdu, ()) = some (putV (unit :: pdu), 0, ()) := by
  show rtu_Bytes_m0 rtu_Bytes_K1 unit pdu = _
  unfold rtu_Bytes_m0
  have e : rtu_isUnit (unit, ()) = some (true, ()) := by
    show rtu_isUnit_m0 unit = _
    unfold rtu_isUnit_m0
    rw [if_pos (ge_iff.2 hu), le_iff.2 hu2]
  rw [e, Option.bind_some, if_neg (by decide), if_neg (by rw [lt_iff, ofNat_eq]; omega)]
  show rtu_Bytes_m1 unit pdu (gt (Int.ofNat pdu.length) 253) = _
  unfold rtu_Bytes_m1
  rw [if_neg (by rw [gt_iff, ofNat_eq]; omega), need_small (by omega), put_eq (by simp; omega), Option.bind_some]
theorem serf_eq {unit tx : Int} {a : TA} (h : OkA a) (hr : rightA a = true) (hu : 1 ≤ unit) (hu2 : unit ≤ 247) : poll_serial_frame ((), unit, tx, a, ()) = some (putV (unit :: askB a), ()) := by
  show poll_serial_frame_m0 () unit tx a = _
  unfold poll_serial_frame_m0
  have hl := askB_len (rightA_RA hr)
  have e : rtu_Ask (unit, a, ()) = some (putV (unit :: askB a), 0, ()) := by
    show rtu_Ask_m0 unit a = _
    unfold rtu_Ask_m0
    rw [bytes_eq h, if_pos hr, Option.bind_some, if_neg (by show ¬ nei 0 0 = true; decide)]
    dsimp only
    rw [rtub_eq hu hu2 (by omega) (by omega), Option.bind_some]
  rw [e, Option.bind_some, if_neg (by show ¬ nei 0 0 = true; decide)]
/-- a poll that may be -/
structure OkP (p : TP) : Prop where
  u0 : 1 ≤ p.1
  u1 : p.1 ≤ 247
  l : p.2.1 = 1 ∨ p.2.1 = 2
  t0 : 1 ≤ p.2.2.1
  t1 : p.2.2.1 ≤ 100000
  r0 : 0 ≤ p.2.2.2.1
  r1 : p.2.2.2.1 ≤ 1000
  a : OkA p.2.2.2.2.2.1
  x0 : 0 ≤ p.2.2.2.2.2.2.1
  x1 : p.2.2.2.2.2.2.1 ≤ 65535
def nextV (link tx : Int) : Int := if link = 2 then (tx + 1) % 65536 else tx
def sentP (p : TP) : TP := (p.1, p.2.1, p.2.2.1, p.2.2.2.1, p.2.2.2.2.1, p.2.2.2.2.2.1, nextV p.2.1 p.2.2.2.2.2.2.1, p.2.2.1, p.2.2.2.2.2.2.2.2)
def sentB (p : TP) : List Int := frameV p.2.1 p.1 (nextV p.2.1 p.2.2.2.2.2.2.1) p.2.2.2.2.2.1
theorem sent_eq {p : TP} (h : OkP p) (hr : rightA p.2.2.2.2.2.1 = true) : poll_sent (p, ()) = some (sentP p, sentB p, ()) := by
  show poll_sent_m0 p = _
  unfold poll_sent_m0 sentP sentB frameV nextV
  by_cases hl : p.2.1 = 2
  · have e : poll_tcp_next ((), p.2.2.2.2.2.2.1, ()) = some ((p.2.2.2.2.2.2.1 + 1) % 65536, ()) := congrArg (fun x => some (x, ())) (wr16 _)
    rw [if_pos (eqi_iff.2 hl), e, Option.bind_some, tcpf_eq h.a hr, Option.bind_some, if_pos hl, if_pos hl]
  · have e : poll_serial_next ((), p.2.2.2.2.2.2.1, ()) = some (p.2.2.2.2.2.2.1, ()) := rfl
    rw [if_neg (fun e => hl (eqi_iff.1 e)), e, Option.bind_some, serf_eq h.a hr h.u0 h.u1, Option.bind_some, if_neg hl, if_neg hl]
theorem putV_len (b : List Int) : (putV b).length = b.length + 2 := by simp [putV]
theorem sentB_len {p : TP} (hr : rightA p.2.2.2.2.2.1 = true) : 8 ≤ (sentB p).length ∧ (sentB p).length ≤ 260 := by
  have hl := askB_len (rightA_RA hr)
  unfold sentB frameV
  split
  · simp [mbapV]; omega
  · rw [putV_len]; simp; omega
/-! ### what is done with a poll -/
def zA : TA := (0, 0, 0, 0, [], [])
def waitP (p : TP) (a : TA) : TP := (p.1, p.2.1, p.2.2.1, p.2.2.2.1, true, a, p.2.2.2.2.2.2.1, p.2.2.2.2.2.2.2.1, p.2.2.2.1)
theorem send_eq {p : TP} {a : TA} (h : OkP p) (ha : OkA a) : poll_Send (p, a, ()) =
    if p.2.2.2.2.1 = true then some (p, [], 30, ()) else if rightA a = true then some (sentP (waitP p a), sentB (waitP p a), 0, ()) else some (p, [], 12, ()) := by
  show poll_Send_m0 p a = _
  unfold poll_Send_m0
  have h1 := h.a.lw
  have h2 := h.a.lb
  have h3 := ha.lw
  have h4 := ha.lb
  rw [own_eq (by omega) (by omega), Option.bind_some, right_eq ha, Option.bind_some]
  split
  · rfl
  · cases hr : rightA a with
    | false => rfl
    | true =>
      rw [if_neg (by decide), if_pos rfl, copied_eq (by omega) (by omega), Option.bind_some]
      dsimp only
      have hw : OkP (waitP p a) := ⟨h.u0, h.u1, h.l, h.t0, h.t1, h.r0, h.r1, ha, h.x0, h.x1⟩
      have e := sent_eq hw hr
      unfold waitP at e
      rw [e]
      rfl
def dropP (p : TP) : TP := (p.1, p.2.1, p.2.2.1, p.2.2.2.1, false, zA, p.2.2.2.2.2.2.1, 0, 0)
theorem drop_eq (p : TP) : poll_Drop (p, ()) = some (dropP p, ()) := rfl
def leftP (p : TP) (n : Int) : TP := (p.1, p.2.1, p.2.2.1, p.2.2.2.1, p.2.2.2.2.1, p.2.2.2.2.2.1, p.2.2.2.2.2.2.1, n, p.2.2.2.2.2.2.2.2)
def againP (p : TP) (n m : Int) : TP := (p.1, p.2.1, p.2.2.1, p.2.2.2.1, p.2.2.2.2.1, p.2.2.2.2.2.1, p.2.2.2.2.2.2.1, n, m)
def tickV (p : TP) : TP × List Int × Bool :=
  if p.2.2.2.2.1 = true then
    if p.2.2.2.2.2.2.2.1 = 1 then
      if 0 < p.2.2.2.2.2.2.2.2 then (sentP (againP p 0 (p.2.2.2.2.2.2.2.2 - 1)), sentB (againP p 0 (p.2.2.2.2.2.2.2.2 - 1)), false)
      else (dropP p, [], true)
    else (leftP p (p.2.2.2.2.2.2.2.1 - 1), [], false)
  else (p, [], false)
theorem tick_eq {p : TP} (h : OkP p) (hr : p.2.2.2.2.1 = true → rightA p.2.2.2.2.2.1 = true ∧ 1 ≤ p.2.2.2.2.2.2.2.1 ∧ p.2.2.2.2.2.2.2.1 ≤ 100000 ∧ 0 ≤ p.2.2.2.2.2.2.2.2 ∧ p.2.2.2.2.2.2.2.2 ≤ 1000) :
    poll_Tick (p, ()) = some ((tickV p).1, (tickV p).2.1, (tickV p).2.2, ()) := by
  show poll_Tick_m0 p = _
  unfold poll_Tick_m0
  have h1 := h.a.lw
  have h2 := h.a.lb
  rw [own_eq (by omega) (by omega), Option.bind_some]
  dsimp only
  unfold tickV
  by_cases hw : p.2.2.2.2.1 = true
  · obtain ⟨q1, q2, q3, q4, q5⟩ := hr hw
    rw [if_neg (by rw [hw]; decide), if_pos hw, sub64 (by omega) (by omega)]
    by_cases hl : p.2.2.2.2.2.2.2.1 = 1
    · rw [if_neg (by rw [nei_iff]; omega), if_pos hl]
      by_cases hg : 0 < p.2.2.2.2.2.2.2.2
      · rw [if_pos (by rw [gt_iff]; omega), if_pos hg, sub64 (by omega) (by omega), hl]
        have e0 : (1 : Int) - 1 = 0 := rfl
        rw [e0]
        have hw' : OkP (againP p 0 (p.2.2.2.2.2.2.2.2 - 1)) := ⟨h.u0, h.u1, h.l, h.t0, h.t1, h.r0, h.r1, h.a, h.x0, h.x1⟩
        have e := sent_eq hw' q1
        unfold againP at e
        rw [e]
        rfl
      · rw [if_neg (by rw [gt_iff]; omega), if_neg hg, drop_eq, Option.bind_some]
        rfl
    · rw [if_pos (by rw [nei_iff]; omega), if_neg hl]
      rfl
  · have hw' : p.2.2.2.2.1 = false := by simpa using hw
    rw [if_pos (by rw [hw']; rfl), if_neg hw]
def rangesV (u l t r : Int) : Bool := decide ((1 ≤ u ∧ u ≤ 247) ∧ (l = 1 ∨ l = 2) ∧ (1 ≤ t ∧ t ≤ 100000) ∧ 0 ≤ r ∧ r ≤ 1000)
theorem ranges_eq (u l t r : Int) : poll_ranges (u, l, t, r, ()) = some (rangesV u l t r, ()) := by
  show poll_ranges_m0 u l t r = _
  unfold poll_ranges_m0 rangesV
  simp only [ge_iff, le_iff, eqi_iff]
  by_cases h1 : 1 ≤ u <;> by_cases h2 : u ≤ 247 <;> by_cases h5 : 1 ≤ t <;> by_cases h6 : t ≤ 100000 <;> by_cases h7 : 0 ≤ r <;> simp only [h1, h2, h5, h6, h7, if_true, if_false, true_and, false_and, and_false, and_true] <;>
    by_cases h3 : l = 1 <;> by_cases h4 : l = 2 <;> simp [h3, h4, le] <;> omega
def zP : TP := (0, 0, 0, 0, false, zA, 0, 0, 0)
theorem new_eq (u l t r : Int) : poll_New (u, l, t, r, ()) = if rangesV u l t r = true then some ((u, l, t, r, false, zA, 0, 0, 0), 0, ()) else some (zP, 2, ()) := by
  show poll_New_m0 u l t r = _
  unfold poll_New_m0
  rw [ranges_eq, Option.bind_some]
  cases rangesV u l t r <;> rfl
end Go.Proofs.Lx

end

section
/- Replies: which are right, their bytes, and which one bytes are. -/
namespace Pl
open Go Ev Sx
theorem shl8 {y : Int} (h0 : 0 ≤ y) (h1 : y ≤ 255) : shl .u16 (cvt .u16 y) 8 = 256 * y := by
  rw [cvt16]
  unfold shl
  have : min (8 : Int).toNat IntKind.u16.bits = 8 := by decide
  rw [this, wr16]
  omega
theorem bor_hi {a b : Int} (ha : 0 ≤ a) (ha2 : a ≤ 255) (hb : 0 ≤ b) (hb' : b ≤ 255) : bor .u16 (256 * a) b = 256 * a + b := by
  obtain ⟨n, rfl⟩ := Int.eq_ofNat_of_zero_le ha
  obtain ⟨m, rfl⟩ := Int.eq_ofNat_of_zero_le hb
  unfold bor
  rw [wr16]
  have e1 : (BitVec.ofInt IntKind.u16.bits (256 * (n : Int))).toNat = 256 * n := by
    rw [BitVec.toNat_ofInt]
    have : ((2 ^ IntKind.u16.bits : Nat) : Int) = 65536 := by decide
    rw [this]
    omega
  have e2 : (BitVec.ofInt IntKind.u16.bits (m : Int)).toNat = m := by
    rw [BitVec.toNat_ofInt]
    have : ((2 ^ IntKind.u16.bits : Nat) : Int) = 65536 := by decide
    rw [this]
    omega
  rw [BitVec.toNat_or, e1, e2]
  have e3 : 256 * n ||| m = 256 * n + m := by
    have := Nat.two_pow_add_eq_or_of_lt (i := 8) (b := m) (by omega) n
    rw [show (2 : Nat) ^ 8 = 256 from rfl] at this
    exact this.symm
  rw [e3]
  omega
theorem bor_comm {a b : Int} : bor .u16 a b = bor .u16 b a := by
  unfold bor
  rw [BitVec.or_comm]
def numV (y z : Int) : Int := bor .u16 (shl .u16 (cvt .u16 y) 8) (cvt .u16 z)
theorem numV_rng (y z : Int) : 0 ≤ numV y z ∧ numV y z < 65536 := u16_rng _
theorem numV_eq {y z : Int} (h0 : 0 ≤ y) (h1 : y ≤ 255) (h2 : 0 ≤ z) (h3 : z ≤ 255) : numV y z = 256 * y + z := by
  unfold numV
  rw [shl8 h0 h1, cvt16]
  have : z % 65536 = z := by omega
  rw [this, bor_hi h0 h1 h2 h3]
def listS (b : List Int) : List Int := (List.range (b.length / 2)).map fun i => numV (b.getD (2 * i) 0) (b.getD (2 * i + 1) 0)
end Pl
namespace Go.Proofs.Lx
open Go Ev Sx Pl
set_option maxRecDepth 100000
abbrev TR := Int × Int × List Bool × List Int × Int × Int
instance decR5 : DecidableEq (Int × List Bool × List Int × Int × Int) := inferInstance
instance decR : DecidableEq TR := inferInstance
def zR : TR := (0, 0, [], [], 0, 0)
structure SmR (r : TR) : Prop where
  b : r.2.2.1.length ≤ 100000
  w : r.2.2.2.1.length ≤ 100000
theorem zR_sm : SmR zR := ⟨by decide, by decide⟩
theorem sameR_eq {a b : TR} (h : SmR a) : reply_Same (a, b, ()) = some (decide (a = b), ()) := by
  show reply_Same_m0 a b = _
  unfold reply_Same_m0
  have h1 := h.b
  have h2 := h.w
  rw [equalW_eq (by omega), Option.bind_some, equalB_eq (by omega), Option.bind_some]
  obtain ⟨a1, a2, a3, a4, a5, a6⟩ := a
  obtain ⟨b1, b2, b3, b4, b5, b6⟩ := b
  rw [if_dec (eqi_iff) fun _ => if_dec (eqi_iff) fun _ => if_dec (eqi_iff) fun _ => if_dec (eqi_iff) fun _ => if_dec (p := a3 = b3) (by simp) fun _ => rfl]
  refine congrArg (fun x => some (x, ())) ?_
  rw [Bool.eq_iff_iff]
  simp only [Bool.and_eq_true, decide_eq_true_eq, Prod.ext_iff]
  constructor
  · rintro ⟨h1, h2, h3, h4, h5, h6⟩; exact ⟨h1, h2, h5, h6, h3, h4⟩
  · rintro ⟨h1, h2, h5, h6, h3, h4⟩; exact ⟨h1, h2, h3, h4, h5, h6⟩
/-! ### which are right -/
def exR (r : TR) : Bool := decide (r.1 < 128) && (decide (1 ≤ r.2.1) && (decide (r.2.1 ≤ 4) && decide (r = (rem r.1 128, r.2.1, [], [], 0, 0))))
def bitR (r : TR) : Bool := decide (8 ≤ r.2.2.1.length) && (decide (r.2.2.1.length ≤ 2000) && (decide (r.2.2.1.length % 8 = 0) && decide (r = (r.1, 0, r.2.2.1, [], 0, 0))))
def wordR (r : TR) : Bool := decide (1 ≤ r.2.2.2.1.length) && (decide (r.2.2.2.1.length ≤ 125) && decide (r = (r.1, 0, [], r.2.2.2.1, 0, 0)))
def obR (r : TR) : Bool := decide (r.2.2.1.length = 1) && decide (r = (r.1, 0, r.2.2.1, [], r.2.2.2.2.1, 0))
def owR (r : TR) : Bool := decide (r.2.2.2.1.length = 1) && decide (r = (r.1, 0, [], r.2.2.2.1, r.2.2.2.2.1, 0))
def ctR (k : Int) (r : TR) : Bool := decide (1 ≤ r.2.2.2.2.2) && (decide (r.2.2.2.2.2 ≤ k) && decide (r = (r.1, 0, [], [], r.2.2.2.2.1, r.2.2.2.2.2)))
theorem exR_eq {r : TR} (h : SmR r) : reply_exception_right ((), r, ()) = some (exR r, ()) := by
  show reply_exception_right_m0 () r = _
  unfold reply_exception_right_m0 exR
  have e : reply_Wrong (r.1, r.2.1, ()) = some ((rem r.1 128, r.2.1, [], [], 0, 0), ()) := rfl
  rw [e, Option.bind_some, sameR_eq h, Option.bind_some]
  rw [if_dec (lt_iff) fun _ => if_dec (ge_iff) fun _ => if_dec (le_iff) fun _ => rfl]
theorem bitR_eq {r : TR} (h : SmR r) : reply_bitList_right ((), r, ()) = some (bitR r, ()) := by
  show reply_bitList_right_m0 () r = _
  unfold reply_bitList_right_m0 bitR
  rw [sameR_eq h, Option.bind_some]
  rw [if_dec (p := 8 ≤ r.2.2.1.length) (by rw [ge_iff, ofNat_eq]; omega) fun _ => if_dec (p := r.2.2.1.length ≤ 2000) (by rw [le_iff, ofNat_eq]; omega) fun _ => if_dec (p := r.2.2.1.length % 8 = 0) (by rw [eqi_iff, ofNat_eq]; omega) fun _ => rfl]
theorem wordR_eq {r : TR} (h : SmR r) : reply_wordList_right ((), r, ()) = some (wordR r, ()) := by
  show reply_wordList_right_m0 () r = _
  unfold reply_wordList_right_m0 wordR
  rw [sameR_eq h, Option.bind_some]
  rw [if_dec (p := 1 ≤ r.2.2.2.1.length) (by rw [ge_iff, ofNat_eq]; omega) fun _ => if_dec (p := r.2.2.2.1.length ≤ 125) (by rw [le_iff, ofNat_eq]; omega) fun _ => rfl]
theorem obR_eq {r : TR} (h : SmR r) : reply_oneBit_right ((), r, ()) = some (obR r, ()) := by
  show reply_oneBit_right_m0 () r = _
  unfold reply_oneBit_right_m0 obR
  rw [sameR_eq h, Option.bind_some]
  rw [if_dec (p := r.2.2.1.length = 1) (by rw [eqi_iff, ofNat_eq]; omega) fun _ => rfl]
theorem owR_eq {r : TR} (h : SmR r) : reply_oneWord_right ((), r, ()) = some (owR r, ()) := by
  show reply_oneWord_right_m0 () r = _
  unfold reply_oneWord_right_m0 owR
  rw [sameR_eq h, Option.bind_some]
  rw [if_dec (p := r.2.2.2.1.length = 1) (by rw [eqi_iff, ofNat_eq]; omega) fun _ => rfl]
theorem ctR_eq {r : TR} {k : Int} (h : SmR r) : reply_count_right (k, r, ()) = some (ctR k r, ()) := by
  show reply_count_right_m0 k r = _
  unfold reply_count_right_m0 ctR
  rw [sameR_eq h, Option.bind_some]
  rw [if_dec (ge_iff) fun _ => if_dec (le_iff) fun _ => rfl]
def rightR (r : TR) : Bool := if nei r.2.1 0 = true then exR r else if eqi r.1 1 = true then bitR r else if eqi r.1 2 = true then bitR r else if eqi r.1 3 = true then wordR r else if eqi r.1 4 = true then wordR r else if eqi r.1 23 = true then wordR r else
  if eqi r.1 5 = true then obR r else if eqi r.1 6 = true then owR r else if eqi r.1 15 = true then ctR 1968 r else if eqi r.1 16 = true then ctR 123 r else false
theorem rightR_eq {r : TR} (h : SmR r) : reply_Right (r, ()) = some (rightR r, ()) := by
  show reply_Right_m0 r = _
  unfold reply_Right_m0 rightR
  rw [exR_eq h, bitR_eq h, wordR_eq h, obR_eq h, owR_eq h, ctR_eq h, ctR_eq h]
  simp only [Option.bind_some]
  repeat (first | rfl | split)
/-! ### their bytes -/
def exB (r : TR) : List Int := [add .u8 r.1 128, r.2.1]
def bitB (r : TR) : List Int := r.1 :: (packN r.2.2.1.length : Int) % 256 :: packS r.2.2.1
def wordB (r : TR) : List Int := [r.1, 2 * (r.2.2.2.1.length : Int) % 256] ++ r.2.2.2.1.flatMap two
def obB (r : TR) : List Int := r.1 :: two r.2.2.2.2.1 ++ two (if r.2.2.1.headD false = true then 65280 else 0)
def owB (r : TR) : List Int := r.1 :: two r.2.2.2.2.1 ++ two (r.2.2.2.1.headD 0)
def ctB (r : TR) : List Int := r.1 :: two r.2.2.2.2.1 ++ two r.2.2.2.2.2
theorem rnumbers_eq {l out : List Int} (h : out.length + 2 * l.length ≤ 1000000) : reply_numbers (l, out, ()) = some (out ++ l.flatMap two, ()) := by
  show reply_numbers_m0 reply_numbers_K1 l out = _
  unfold reply_numbers_m0 reply_numbers_K1
  refine (loop_idx (xs := l) (mk := fun i acc => (l, Int.ofNat l.length, (i : Int), acc)) (stp := fun o y => o ++ two y) (fin := fun acc => some (acc, ())) (fun i acc => acc.length ≤ out.length + 2 * i) ?_ ?_ ?_ l.length 0 out _ (by omega) (by omega) (by omega)).trans ?_
  · intro self i acc x hx hI
    have hi := (List.getElem?_eq_some_iff.1 hx).1
    show reply_numbers_m1 _ l (Int.ofNat l.length) (i : Int) acc = _
    unfold reply_numbers_m1
    rw [if_pos (by rw [lt_iff, ofNat_eq]; omega), at_get hx, Option.bind_some, need_small (by omega), two_eq, succ64 (by omega)]
  · intro i acc x hx hI
    simp [two]
    omega
  · intro self acc _
    show reply_numbers_m1 _ l (Int.ofNat l.length) (l.length : Int) acc = _
    unfold reply_numbers_m1
    rw [if_neg (by rw [lt_iff, ofNat_eq]; omega)]
  · rw [List.drop_zero, foldl_app]
theorem exB_eq (r : TR) : reply_exception_write ((), r, ()) = some (exB r, ()) := rfl
theorem bitB_eq {r : TR} (h : SmR r) : reply_bitList_write ((), r, ()) = some (bitB r, ()) := by
  show reply_bitList_write_m0 () r = _
  unfold reply_bitList_write_m0
  have hb := h.b
  rw [pack_eq hb, Option.bind_some, need_small (by rw [packS_len]; unfold packN; omega), packS_len]
  rfl
theorem wordB_eq {r : TR} (h : SmR r) : reply_wordList_write ((), r, ()) = some (wordB r, ()) := by
  show reply_wordList_write_m0 () r = _
  unfold reply_wordList_write_m0
  have hw := h.w
  rw [mul64 (by rw [ofNat_eq]; omega) (by rw [ofNat_eq]; omega), cvt8, rnumbers_eq (by simp; omega), Option.bind_some]
  rfl
theorem obB_eq {r : TR} (h : obR r = true) : reply_oneBit_write ((), r, ()) = some (obB r, ()) := by
  unfold obR at h
  rw [Bool.and_eq_true] at h
  obtain ⟨x, hx⟩ := List.length_eq_one_iff.1 (of_decide_eq_true h.1)
  show reply_oneBit_write_m0 reply_oneBit_write_K1 () r = _
  unfold reply_oneBit_write_m0
  rw [hx, at_zero, Option.bind_some]
  have key : ∀ (v : Int) (r2 : Int) (r3 : List Bool) (r4 : List Int) (r6 : Int), reply_oneBit_write_K1 v r.1 r2 r3 r4 r.2.2.2.2.1 r6 = some (r.1 :: two r.2.2.2.2.1 ++ two v, ()) := fun v r2 r3 r4 r6 => by
    unfold reply_oneBit_write_K1 reply_oneBit_write_m1
    rw [rnumbers_eq (by simp), Option.bind_some]
    simp
  unfold obB
  rw [hx]
  cases x with
  | true => rw [if_pos rfl, key]; rfl
  | false => rw [if_neg (by decide), key]; rfl
theorem amb_same {R : Type} {eq : R → R → Bool} (h : ∀ x, eq x x = true) (o : R) : amb eq [some o, some o] = some o := by
  show (if eq o o = true then some o else none) = _
  rw [if_pos (h o)]
theorem eqAs_refl : ∀ (rs : List Ty) (x : As rs), eqAs rs x x = true
  | [], _ => rfl
  | t :: r, x => by
    show (eqV t x.1 x.1 && eqAs r x.2 x.2) = true
    rw [eqV_refl, eqAs_refl r]
    rfl
theorem owB_eq {r : TR} (h : owR r = true) : reply_oneWord_write ((), r, ()) = some (owB r, ()) := by
  unfold owR at h
  rw [Bool.and_eq_true] at h
  obtain ⟨x, hx⟩ := List.length_eq_one_iff.1 (of_decide_eq_true h.1)
  show reply_oneWord_write_m0 () r = _
  unfold reply_oneWord_write_m0
  rw [hx, at_zero, Option.bind_some, rnumbers_eq (by simp), Option.bind_some, amb_same (eqAs_refl _)]
  unfold owB
  rw [hx]
  simp
theorem ctB_eq (k : Int) (r : TR) : reply_count_write (k, r, ()) = some (ctB r, ()) := by
  show reply_count_write_m0 k r = _
  unfold reply_count_write_m0
  rw [rnumbers_eq (by simp), Option.bind_some]
  simp [ctB]
/-! ### what bytes may be -/
theorem rlist_eq {b : List Int} (h : b.length ≤ 100000) : reply_list (b, ()) = some (listS b, ()) := by
  show reply_list_m0 reply_list_K1 b = _
  unfold reply_list_m0
  have hq : quo .i64 (Int.ofNat b.length) 2 = ((b.length / 2 : Nat) : Int) := quo_nat (d := 2) (by omega)
  rw [hq, need_t (by rw [ge_iff]; omega), need_t (capOk_self _), Int.toNat_natCast, need_small (by omega), List.length_replicate]
  unfold reply_list_K1 listS
  refine (loop_det (mk := fun i => (b, Int.ofNat (b.length / 2), (i : Int), (List.range i).map (fun i => numV (b.getD (2 * i) 0) (b.getD (2 * i + 1) 0)) ++ (List.replicate (b.length / 2) (0 : Int)).drop i)) (N := b.length / 2) ?_ ?_ (b.length / 2) 0 _ (by omega) (by omega))
  · intro self i hi
    show reply_list_m1 _ b (Int.ofNat (b.length / 2)) (i : Int) _ = _
    unfold reply_list_m1
    have hm : mul .i64 2 (i : Int) = ((2 * i : Nat) : Int) := by
      rw [mul64 (by omega) (by omega)]
      simp
    have h1 : b[2 * i]? = some (b[2 * i]'(by omega)) := List.getElem?_eq_getElem (by omega)
    have h2 : b[2 * i + 1]? = some (b[2 * i + 1]'(by omega)) := List.getElem?_eq_getElem (by omega)
    have ho : ((List.range i).map (fun i => numV (b.getD (2 * i) 0) (b.getD (2 * i + 1) 0)) ++ (List.replicate (b.length / 2) (0 : Int)).drop i)[i]? = some (((List.range i).map (fun i => numV (b.getD (2 * i) 0) (b.getD (2 * i + 1) 0)) ++ (List.replicate (b.length / 2) (0 : Int)).drop i)[i]'(by simp; omega)) := List.getElem?_eq_getElem (by simp; omega)
    rw [if_pos (by rw [lt_iff, ofNat_eq]; omega), hm, succ64 (by omega), at_get h1, at_get h2, at_get ho, succ64 (by omega), Int.toNat_natCast]
    simp only [Option.bind_some]
    have e : bor .u16 (shl .u16 (cvt .u16 (b[2 * i]'(by omega))) 8) (cvt .u16 (b[2 * i + 1]'(by omega))) = numV (b.getD (2 * i) 0) (b.getD (2 * i + 1) 0) := by
      rw [List.getD_eq_getElem?_getD, List.getD_eq_getElem?_getD, h1, h2]
      rfl
    rw [e, fill_step (f := fun i => numV (b.getD (2 * i) 0) (b.getD (2 * i + 1) 0)) (by simp; omega)]
  · intro self
    show reply_list_m1 _ b (Int.ofNat (b.length / 2)) ((b.length / 2 : Nat) : Int) _ = _
    unfold reply_list_m1
    rw [if_neg (by rw [lt_iff, ofNat_eq]; omega), List.drop_of_length_le (by simp), List.append_nil]
end Go.Proofs.Lx

end

section
/- Which reply bytes are; which replies fit. -/
namespace Go.Proofs.Lx
open Go Ev Sx Pl
set_option maxRecDepth 100000
theorem listS_len (b : List Int) : (listS b).length = b.length / 2 := by simp [listS]
theorem unpackS_len (b : List Int) : (unpackS b).length = 8 * b.length := by simp [unpackS]
def exC (x y : Int) : TR := (rem x 128, y, [], [], 0, 0)
def bitC (x : Int) (r : List Int) : TR := (x, 0, unpackS r, [], 0, 0)
def wordC (x : Int) (r : List Int) : TR := (x, 0, [], listS r, 0, 0)
/-- two numbers behind the function -/
def pairC (f : Int → Int → TR) (r : List Int) : TR := match listS r with
  | p :: q :: _ => f p q
  | _ => zR
def obC (x : Int) : List Int → TR := pairC fun p q => (x, 0, [eqi q 65280], [], p, 0)
def owC (x : Int) : List Int → TR := pairC fun p q => (x, 0, [], [q], p, 0)
def ctC (x : Int) : List Int → TR := pairC fun p q => (x, 0, [], [], p, q)
theorem cut_tail {α : Type} (x : α) (r : List α) : cut (x :: r) 1 (Int.ofNat (x :: r).length) = some r := cut_one x r
theorem cut_two {α : Type} (x y : α) (r : List α) : cut (x :: y :: r) 2 (Int.ofNat (x :: y :: r).length) = some r := by
  have := cut_from (xs := x :: y :: r) (i := 2) (by simp)
  simpa using this
theorem exC_eq (x y : Int) (r : List Int) : reply_exception_read ((), x :: y :: r, ()) = some (exC x y, ()) := rfl
theorem bitC_eq (x y : Int) {r : List Int} (h : r.length ≤ 1000) : reply_bitList_read ((), x :: y :: r, ()) = some (bitC x r, ()) := by
  show reply_bitList_read_m0 () (x :: y :: r) = _
  unfold reply_bitList_read_m0
  rw [at_zero, Option.bind_some, cut_two, Option.bind_some, unpack_eq (by omega), Option.bind_some]
  rfl
theorem wordC_eq (x y : Int) {r : List Int} (h : r.length ≤ 1000) : reply_wordList_read ((), x :: y :: r, ()) = some (wordC x r, ()) := by
  show reply_wordList_read_m0 () (x :: y :: r) = _
  unfold reply_wordList_read_m0
  rw [at_zero, Option.bind_some, cut_two, Option.bind_some, rlist_eq (by omega), Option.bind_some]
  rfl
theorem pair_cases (l : List Int) : (l.length < 2 ∧ ∀ (f : Int → Int → TR), (match l with | p :: q :: _ => f p q | _ => zR) = zR) ∨ ∃ p q r, l = p :: q :: r := by
  match l with
  | [] => exact .inl ⟨by decide, fun _ => rfl⟩
  | [_] => exact .inl ⟨by show 1 < 2; decide, fun _ => rfl⟩
  | p :: q :: r => exact .inr ⟨p, q, r, rfl⟩
theorem at_one {α : Type} (p q : α) (r : List α) : at? (p :: q :: r) 1 = some q := rfl
theorem obC_eq (x : Int) {r : List Int} (h : r.length ≤ 1000) : reply_oneBit_read ((), x :: r, ()) = some (obC x r, ()) := by
  show reply_oneBit_read_m0 () (x :: r) = _
  unfold reply_oneBit_read_m0 obC pairC
  rw [cut_tail, Option.bind_some, rlist_eq (by omega), Option.bind_some]
  rcases pair_cases (listS r) with ⟨h1, h2⟩ | ⟨p, q, s, h1⟩
  · dsimp only
    rw [h2, if_pos (by rw [lt_iff, ofNat_eq]; omega)]
    rfl
  · dsimp only
    rw [h1, if_neg (by rw [lt_iff, ofNat_eq]; simp; omega), at_zero, at_zero, at_one]
    rfl
theorem owC_eq (x : Int) {r : List Int} (h : r.length ≤ 1000) : reply_oneWord_read ((), x :: r, ()) = some (owC x r, ()) := by
  show reply_oneWord_read_m0 () (x :: r) = _
  unfold reply_oneWord_read_m0 owC pairC
  rw [cut_tail, Option.bind_some, rlist_eq (by omega), Option.bind_some]
  rcases pair_cases (listS r) with ⟨h1, h2⟩ | ⟨p, q, s, h1⟩
  · dsimp only
    rw [h2, if_pos (by rw [lt_iff, ofNat_eq]; omega)]
    rfl
  · dsimp only
    rw [h1, if_neg (by rw [lt_iff, ofNat_eq]; simp; omega), at_zero, at_zero, at_one]
    rfl
theorem ctC_eq (k : Int) (x : Int) {r : List Int} (h : r.length ≤ 1000) : reply_count_read (k, x :: r, ()) = some (ctC x r, ()) := by
  show reply_count_read_m0 k (x :: r) = _
  unfold reply_count_read_m0 ctC pairC
  rw [cut_tail, Option.bind_some, rlist_eq (by omega), Option.bind_some]
  rcases pair_cases (listS r) with ⟨h1, h2⟩ | ⟨p, q, s, h1⟩
  · dsimp only
    rw [h2, if_pos (by rw [lt_iff, ofNat_eq]; omega)]
    rfl
  · dsimp only
    rw [h1, if_neg (by rw [lt_iff, ofNat_eq]; simp; omega), at_zero, at_zero, at_one]
    rfl
theorem pairC_sm {f : Int → Int → TR} (h : ∀ p q, SmR (f p q)) (r : List Int) : SmR (pairC f r) := by
  unfold pairC
  split
  · exact h _ _
  · exact zR_sm
def chkV (b : List Int) (c : TR) (ok : Bool) (w : List Int) : TR × Int := if ok = true then if eqs (toS w) (toS b) = true then (c, 0) else (zR, 13) else (zR, 13)
theorem chk_eq {b : List Int} {c : TR} {ok : Bool} {w : List Int} {rd : Option (TR × Unit)} {rt : TR → Option (Bool × Unit)} {wt : TR → Option (List Int × Unit)} (h1 : rd = some (c, ())) (h2 : rt c = some (ok, ())) (h3 : ok = true → wt c = some (w, ())) :
    (Option.bind rd fun y => Option.bind (rt y.1) fun y_1 => if (!y_1.1) = true then some ((0, 0, [], [], 0, 0), 13, ()) else Option.bind (wt y.1) fun y_2 => Option.bind (bytes_Equal (y_2.1, b, ())) fun y_3 => if (!y_3.1) = true then some ((0, 0, [], [], 0, 0), 13, ()) else (some (y.1, 0, ()) : Option (TR × Int × Unit))) = some ((chkV b c ok w).1, (chkV b c ok w).2, ()) := by
  rw [h1, Option.bind_some, h2, Option.bind_some]
  unfold chkV
  cases ok with
  | false => rfl
  | true =>
    rw [if_neg (by decide), h3 rfl, Option.bind_some, if_pos rfl]
    show Option.bind (some (eqs (toS w) (toS b), ())) _ = _
    rw [Option.bind_some]
    cases eqs (toS w) (toS b) <;> rfl
theorem if_pair {c : Prop} [Decidable c] {A B : Option (TR × Int × Unit)} {a b : TR × Int} (h1 : A = some (a.1, a.2, ())) (h2 : B = some (b.1, b.2, ())) : (if c then A else B) = some ((if c then a else b).1, (if c then a else b).2, ()) := by
  by_cases h : c
  · rw [if_pos h, if_pos h, h1]
  · rw [if_neg h, if_neg h, h2]
def parseQ (x y : Int) (r : List Int) : TR × Int := if 251 < r.length then (zR, 13) else if lt x 128 = true then
      if eqi x 1 = true then chkV (x :: y :: r) (bitC x r) (bitR (bitC x r)) (bitB (bitC x r)) else if eqi x 2 = true then chkV (x :: y :: r) (bitC x r) (bitR (bitC x r)) (bitB (bitC x r)) else
      if eqi x 3 = true then chkV (x :: y :: r) (wordC x r) (wordR (wordC x r)) (wordB (wordC x r)) else if eqi x 4 = true then chkV (x :: y :: r) (wordC x r) (wordR (wordC x r)) (wordB (wordC x r)) else
      if eqi x 23 = true then chkV (x :: y :: r) (wordC x r) (wordR (wordC x r)) (wordB (wordC x r)) else if eqi x 5 = true then chkV (x :: y :: r) (obC x (y :: r)) (obR (obC x (y :: r))) (obB (obC x (y :: r))) else
      if eqi x 6 = true then chkV (x :: y :: r) (owC x (y :: r)) (owR (owC x (y :: r))) (owB (owC x (y :: r))) else if eqi x 15 = true then chkV (x :: y :: r) (ctC x (y :: r)) (ctR 1968 (ctC x (y :: r))) (ctB (ctC x (y :: r))) else
      if eqi x 16 = true then chkV (x :: y :: r) (ctC x (y :: r)) (ctR 123 (ctC x (y :: r))) (ctB (ctC x (y :: r))) else (zR, 13)
    else chkV (x :: y :: r) (exC x y) (exR (exC x y)) (exB (exC x y))
def parseR : List Int → TR × Int
  | x :: y :: r => parseQ x y r
  | _ => (zR, 13)
theorem parse_eq (b : List Int) : reply_Parse (b, ()) = some ((parseR b).1, (parseR b).2, ()) := by
  show reply_Parse_m0 reply_Parse_K1 b = _
  unfold reply_Parse_m0
  match b with
  | [] => rfl
  | [_] => rfl
  | x :: y :: r =>
    rw [if_neg (by rw [lt_iff, ofNat_eq]; simp; omega)]
    show _ = some ((parseQ x y r).1, (parseQ x y r).2, ())
    unfold reply_Parse_K1 reply_Parse_m1 parseQ
    by_cases hl : 251 < r.length
    · rw [if_pos (by rw [gt_iff, ofNat_eq]; simp; omega), if_pos hl]
      rfl
    · rw [if_neg (by rw [gt_iff, ofNat_eq]; simp; omega), if_neg hl, at_zero, Option.bind_some, Option.bind_some]
      have sb : SmR (bitC x r) := ⟨by show (unpackS r).length ≤ _; rw [unpackS_len]; omega, by show 0 ≤ 100000; decide⟩
      have sw : SmR (wordC x r) := ⟨by show 0 ≤ 100000; decide, by show (listS r).length ≤ _; rw [listS_len]; omega⟩
      have so : SmR (obC x (y :: r)) := pairC_sm (fun p q => ⟨by show 1 ≤ 100000; decide, by show 0 ≤ 100000; decide⟩) _
      have su : SmR (owC x (y :: r)) := pairC_sm (fun p q => ⟨by show 0 ≤ 100000; decide, by show 1 ≤ 100000; decide⟩) _
      have sc : SmR (ctC x (y :: r)) := pairC_sm (fun p q => ⟨by show 0 ≤ 100000; decide, by show 0 ≤ 100000; decide⟩) _
      have se : SmR (exC x y) := ⟨by show 0 ≤ 100000; decide, by show 0 ≤ 100000; decide⟩
      have hr : (y :: r).length ≤ 1000 := by simp; omega
      have kb := chk_eq (b := x :: y :: r) (rt := fun c => reply_bitList_right ((), c, ())) (wt := fun c => reply_bitList_write ((), c, ())) (bitC_eq x y (by omega)) (bitR_eq sb) (fun _ => bitB_eq sb)
      have kw := chk_eq (b := x :: y :: r) (rt := fun c => reply_wordList_right ((), c, ())) (wt := fun c => reply_wordList_write ((), c, ())) (wordC_eq x y (by omega)) (wordR_eq sw) (fun _ => wordB_eq sw)
      have ko := chk_eq (b := x :: y :: r) (rt := fun c => reply_oneBit_right ((), c, ())) (wt := fun c => reply_oneBit_write ((), c, ())) (obC_eq x hr) (obR_eq so) (fun h => obB_eq h)
      have ku := chk_eq (b := x :: y :: r) (rt := fun c => reply_oneWord_right ((), c, ())) (wt := fun c => reply_oneWord_write ((), c, ())) (owC_eq x hr) (owR_eq su) (fun h => owB_eq h)
      have kc := fun k => chk_eq (b := x :: y :: r) (rt := fun c => reply_count_right (k, c, ())) (wt := fun c => reply_count_write (k, c, ())) (ctC_eq k x hr) (ctR_eq sc) (fun _ => ctB_eq k _)
      have ke := chk_eq (b := x :: y :: r) (rt := fun c => reply_exception_right ((), c, ())) (wt := fun c => reply_exception_write ((), c, ())) (exC_eq x y r) (exR_eq se) (fun _ => exB_eq _)
      exact if_pair (if_pair kb (if_pair kb (if_pair kw (if_pair kw (if_pair kw (if_pair ko (if_pair ku (if_pair (kc _) (if_pair (kc _) rfl))))))))) ke
end Go.Proofs.Lx

end

section
/- Frames that are read; which replies are taken. -/
namespace Go.Proofs.Lx
open Go Ev Sx Pl
set_option maxRecDepth 100000
def cutV (b : List Int) : List Int × Int :=
  if b.length < 2 then ([], 10) else
  if sumV (b.take (b.length - 2)) = numV (b.getD (b.length - 1) 0) (b.getD (b.length - 2) 0) then (b.take (b.length - 2), 0) else ([], 11)
theorem fill_all {α : Type} {z : α} {n : Nat} {y : List α} (h : y.length = n) : [] ++ List.take (Int.toNat (Int.ofNat (List.length (List.replicate n z)))) y ++ List.drop (0 + List.length (List.take (Int.toNat (Int.ofNat (List.length (List.replicate n z)))) y)) (List.replicate n z) = y := by
  rw [List.length_replicate, ofNat_eq, Int.toNat_natCast, List.take_of_length_le (by omega), List.drop_of_length_le (by simp; omega)]
  simp
theorem fill_take {α : Type} {z : α} {n : Nat} {y : List α} (h : n ≤ y.length) : [] ++ List.take (Int.toNat (Int.ofNat (List.length (List.replicate n z)))) y ++ List.drop (0 + List.length (List.take (Int.toNat (Int.ofNat (List.length (List.replicate n z)))) y)) (List.replicate n z) = y.take n := by
  rw [List.length_replicate, ofNat_eq, Int.toNat_natCast, List.drop_of_length_le (by simp; omega)]
  simp
theorem ccut_eq {b : List Int} (h : b.length ≤ 100000) : crc_Cut (b, ()) = some ((cutV b).1, (cutV b).2, ()) := by
  show crc_Cut_m0 b = _
  unfold crc_Cut_m0 cutV
  by_cases h2 : b.length < 2
  · rw [if_pos (by rw [lt_iff, ofNat_eq]; omega), if_pos h2]
  · have e1 : sub .i64 (Int.ofNat b.length) 2 = ((b.length - 2 : Nat) : Int) := by
      rw [sub64 (by rw [ofNat_eq]; omega) (by rw [ofNat_eq]; omega), ofNat_eq]
      omega
    have g1 : b[b.length - 2]? = some (b[b.length - 2]'(by omega)) := List.getElem?_eq_getElem (by omega)
    have g2 : b[b.length - 2 + 1]? = some (b[b.length - 2 + 1]'(by omega)) := List.getElem?_eq_getElem (by omega)
    rw [if_neg (by rw [lt_iff, ofNat_eq]; omega), if_neg h2, e1, cut_to (by omega), Option.bind_some, succ64 (by omega), at_get g1, Option.bind_some, at_get g2, Option.bind_some, sum_eq (by simp; omega), Option.bind_some]
    have e2 : bor .u16 (cvt .u16 (b[b.length - 2]'(by omega))) (shl .u16 (cvt .u16 (b[b.length - 2 + 1]'(by omega))) 8) = numV (b.getD (b.length - 1) 0) (b.getD (b.length - 2) 0) := by
      rw [bor_comm]
      have e3 : b.length - 1 = b.length - 2 + 1 := by omega
      rw [e3, List.getD_eq_getElem?_getD, List.getD_eq_getElem?_getD, g1, g2]
      rfl
    rw [e2]
    by_cases hs : sumV (b.take (b.length - 2)) = numV (b.getD (b.length - 1) 0) (b.getD (b.length - 2) 0)
    · rw [if_neg (by rw [nei_iff]; exact fun e => e hs), if_pos hs, need_t (by rw [ge_iff]; omega), need_t (capOk_self _), Int.toNat_natCast, need_small (by omega), need_t (by rw [le_iff]; simp only [List.length_replicate, ofNat_eq]; omega), fill_take (by omega)]
    · rw [if_pos (by rw [nei_iff]; exact hs), if_neg hs]
theorem isUnit_eq (u : Int) : rtu_isUnit (u, ()) = some (decide (1 ≤ u) && decide (u ≤ 247), ()) := by
  show rtu_isUnit_m0 u = _
  unfold rtu_isUnit_m0
  rw [if_dec (ge_iff) fun _ => rfl]
  rfl
def rtuV (b : List Int) : Int × List Int × Int :=
  if b.length < 4 ∨ 256 < b.length then (0, [], 10) else
  if (cutV b).2 ≠ 0 then (0, [], (cutV b).2) else
  match (cutV b).1 with
  | [] => (0, [], 10)
  | x :: r => if (decide (1 ≤ x) && decide (x ≤ 247)) = true then (x, r, 0) else (0, [], 10)
theorem cutV_len {b : List Int} (h : (cutV b).2 = 0) : (cutV b).1.length = b.length - 2 := by
  unfold cutV at h ⊢
  split
  · rename_i h1; rw [if_pos h1] at h; cases h
  · rename_i h1
    rw [if_neg h1] at h
    split
    · simp
    · rename_i h2; rw [if_neg h2] at h; cases h
theorem rtup_eq (b : List Int) : rtu_Parse (b, ()) = some ((rtuV b).1, (rtuV b).2.1, (rtuV b).2.2, ()) := by
  show rtu_Parse_m0 rtu_Parse_K1 b = _
  have K : ∀ t, rtu_Parse_K1 b t = rtu_Parse_m1 b t := fun _ => rfl
  unfold rtu_Parse_m0 rtuV
  rw [K, K]
  by_cases h : b.length < 4
  · rw [if_pos (by rw [lt_iff, ofNat_eq]; omega), if_pos (.inl h)]
    rfl
  · rw [if_neg (by rw [lt_iff, ofNat_eq]; omega)]
    unfold rtu_Parse_m1
    by_cases h2 : 256 < b.length
    · rw [if_pos (by rw [gt_iff, ofNat_eq]; omega), if_pos (.inr h2)]
    · rw [if_neg (by rw [gt_iff, ofNat_eq]; omega), if_neg (by omega), ccut_eq (by omega), Option.bind_some]
      dsimp only
      by_cases h3 : (cutV b).2 = 0
      · rw [if_neg (by rw [nei_iff]; exact fun e => e h3), if_neg (fun e => e h3)]
        have hl := cutV_len h3
        match hc : (cutV b).1 with
        | [] => rw [hc] at hl; simp at hl; omega
        | x :: r =>
          rw [at_zero, Option.bind_some, isUnit_eq, Option.bind_some, Option.bind_some]
          show _ = some ((if (decide (1 ≤ x) && decide (x ≤ 247)) = true then (x, r, 0) else (0, [], 10)).1, (if (decide (1 ≤ x) && decide (x ≤ 247)) = true then (x, r, 0) else (0, [], 10)).2.1, (if (decide (1 ≤ x) && decide (x ≤ 247)) = true then (x, r, 0) else (0, [], 10)).2.2, ())
          cases decide (1 ≤ x) && decide (x ≤ 247) with
          | false => rfl
          | true =>
            have e : cut (x :: r) 1 (Int.ofNat (x :: r).length) = some r := cut_one x r
            rw [if_neg (by decide), e, Option.bind_some, need_t (by rw [le_iff]; omega), need_t (by rw [le_iff]; omega), if_pos rfl]
      · rw [if_pos (by rw [nei_iff]; exact h3), if_pos h3]
def serV (unit : Int) (b : List Int) : Option TR :=
  if (rtuV b).2.2 ≠ 0 then none else if (rtuV b).1 ≠ unit then none else
  if (parseR (rtuV b).2.1).2 ≠ 0 then none else some (parseR (rtuV b).2.1).1
def outF : Option TR → Option (TR × Bool × Unit)
  | some r => some (r, true, ())
  | none => some (zR, false, ())
theorem serfind_eq (unit tx : Int) (b : List Int) : poll_serial_find ((), unit, tx, b, ()) = outF (serV unit b) := by
  show poll_serial_find_m0 () unit tx b = _
  unfold poll_serial_find_m0
  have e : rtu_Reply (unit, b, ()) = if (rtuV b).2.2 ≠ 0 then some (zR, (rtuV b).2.2, ()) else if (rtuV b).1 ≠ unit then some (zR, 10, ()) else some ((parseR (rtuV b).2.1).1, (parseR (rtuV b).2.1).2, ()) := by
    show rtu_Reply_m0 unit b = _
    unfold rtu_Reply_m0
    rw [rtup_eq, Option.bind_some]
    dsimp only
    rw [parse_eq, Option.bind_some]
    simp only [nei_iff]
    repeat' split
    all_goals first | rfl | contradiction
  rw [e]
  unfold serV
  by_cases h1 : (rtuV b).2.2 = 0
  · by_cases h2 : (rtuV b).1 = unit
    · by_cases h3 : (parseR (rtuV b).2.1).2 = 0
      · simp [h1, h2, h3, nei, outF]
      · simp [h1, h2, h3, nei, outF, zR]
    · simp [h1, h2, nei, outF, zR]
  · simp [h1, nei, outF, zR]
/-! ### frames over TCP -/
def beginsV (b2 b3 b4 b5 : Int) : Bool := !nei b2 0 && (!nei b3 0 && (!nei b4 0 && (!lt b5 2 && !gt (cvt .i64 b5) 254)))
theorem bstep {self : List Int → Int → Option (As [.bool])} {b : List Int} {i y : Int} (hi : i < 5) (hl : i < Int.ofNat b.length) (hy : at? b i = some y) :
    mbap_begins_m1 (mbap_begins_K2 self) self b i = if nei y 0 = true then some (false, ()) else self b (add .i64 i 1) := by
  have e5 : eqi i 5 = false := by
    rw [← Bool.not_eq_true, eqi_iff]
    omega
  unfold mbap_begins_m1
  rw [if_pos (by rw [lt_iff]; omega), lt_iff.2 hl]
  unfold mbap_begins_K2 mbap_begins_m2
  rw [if_pos rfl, if_pos (lt_iff.2 hi), hy, Option.bind_some]
  unfold mbap_begins_K3 mbap_begins_m3
  cases nei y 0 with
  | true => rfl
  | false =>
    simp only [e5, Bool.false_eq_true, if_false]
    rfl
theorem bstep5 {self : List Int → Int → Option (As [.bool])} {b : List Int} {y : Int} (hl : 5 < Int.ofNat b.length) (hy : at? b 5 = some y) :
    mbap_begins_m1 (mbap_begins_K2 self) self b 5 = if lt y 2 = true then some (false, ()) else if gt (cvt .i64 y) 254 = true then some (false, ()) else self b 6 := by
  unfold mbap_begins_m1
  rw [if_pos (by decide), lt_iff.2 hl]
  unfold mbap_begins_K2 mbap_begins_m2
  rw [if_pos rfl, if_neg (by decide)]
  unfold mbap_begins_K3 mbap_begins_m3
  rw [if_neg (by decide), if_pos (by decide), hy, Option.bind_some, Option.bind_some]
  cases lt y 2 with
  | true => rfl
  | false => cases gt (cvt .i64 y) 254 <;> rfl
theorem bstep6 {self : List Int → Int → Option (As [.bool])} {b : List Int} : mbap_begins_m1 (mbap_begins_K2 self) self b 6 = some (true, ()) := rfl
theorem begins_eq (b0 b1 b2 b3 b4 b5 b6 b7 : Int) (r : List Int) : mbap_begins (b0 :: b1 :: b2 :: b3 :: b4 :: b5 :: b6 :: b7 :: r, ()) = some (beginsV b2 b3 b4 b5, ()) := by
  show mbap_begins_m0 mbap_begins_K1 _ = _
  unfold mbap_begins_m0 mbap_begins_K1 beginsV
  have hlen : (Int.ofNat (b0 :: b1 :: b2 :: b3 :: b4 :: b5 :: b6 :: b7 :: r).length) = (r.length : Int) + 8 := by rw [ofNat_eq]; simp; omega
  generalize hb : b0 :: b1 :: b2 :: b3 :: b4 :: b5 :: b6 :: b7 :: r = b at hlen ⊢
  have h2 : at? b 2 = some b2 := by rw [← hb]; rfl
  have h3 : at? b 3 = some b3 := by rw [← hb]; rfl
  have h4 : at? b 4 = some b4 := by rw [← hb]; rfl
  have h5 : at? b 5 = some b5 := by rw [← hb]; rfl
  have key : ∀ n : Nat, loopF (fun (self : (List Int) × (Int) → Option (As [.bool])) (s : (List Int) × (Int)) => mbap_begins_m1 (mbap_begins_K2 (fun b i => self (b, i))) (fun b i => self (b, i)) s.1 s.2) (n + 5) (b, 2) =
      some (!nei b2 0 && (!nei b3 0 && (!nei b4 0 && (!lt b5 2 && !gt (cvt .i64 b5) 254))), ()) := by
    intro n
    rw [loopF_succ]
    refine (bstep (by decide) (by rw [hlen]; omega) h2).trans ?_
    cases nei b2 0 with
    | true => rfl
    | false =>
      rw [if_neg (by decide), loopF_succ]
      refine (bstep (i := 3) (by decide) (by rw [hlen]; omega) h3).trans ?_
      cases nei b3 0 with
      | true => rfl
      | false =>
        rw [if_neg (by decide), loopF_succ]
        refine (bstep (i := 4) (by decide) (by rw [hlen]; omega) h4).trans ?_
        cases nei b4 0 with
        | true => rfl
        | false =>
          rw [if_neg (by decide), loopF_succ]
          refine (bstep5 (by rw [hlen]; omega) h5).trans ?_
          cases lt b5 2 with
          | true => rfl
          | false =>
            cases gt (cvt .i64 b5) 254 with
            | true => rfl
            | false =>
              rw [if_neg (by decide), if_neg (by decide), loopF_succ]
              exact bstep6
  exact key 18446744073709551611
def zM : Int × Int × List Int := (0, 0, [])
def mbapP : List Int → (Int × Int × List Int) × Int
  | b0 :: b1 :: b2 :: b3 :: b4 :: b5 :: b6 :: r =>
    if r = [] then (zM, 10) else if beginsV b2 b3 b4 b5 = true then if (r.length : Int) + 1 = b5 then ((numV b0 b1, b6, r), 0) else (zM, 10) else (zM, 10)
  | _ => (zM, 10)
theorem mparse_eq {b : List Int} (hl : b.length ≤ 100000) (hb : ∀ x ∈ b, 0 ≤ x ∧ x ≤ 255) : mbap_Parse (b, ()) = some ((mbapP b).1, (mbapP b).2, ()) := by
  show mbap_Parse_m0 mbap_Parse_K1 b = _
  unfold mbap_Parse_m0
  have short : b.length ≤ 7 → mbap_first (b, ()) = some (zM, 0, ()) := fun h => by
    show mbap_first_m0 mbap_first_K1 b = _
    unfold mbap_first_m0
    rw [if_pos (by rw [le_iff, ofNat_eq]; omega)]
    rfl
  have shortP : b.length ≤ 7 → mbapP b = (zM, 10) := fun h => by
    match b with
    | [] | [_] | [_, _] | [_, _, _] | [_, _, _, _] | [_, _, _, _, _] | [_, _, _, _, _, _] => rfl
    | [_, _, _, _, _, _, _] => rfl
    | _ :: _ :: _ :: _ :: _ :: _ :: _ :: _ :: _ => exact absurd h (by simp)
  by_cases hs : b.length ≤ 7
  · rw [short hs, shortP hs]
    rfl
  · match b with
    | [] | [_] | [_, _] | [_, _, _] | [_, _, _, _] | [_, _, _, _, _] | [_, _, _, _, _, _] => simp at hs
    | [_, _, _, _, _, _, _] => simp at hs
    | b0 :: b1 :: b2 :: b3 :: b4 :: b5 :: b6 :: b7 :: r =>
      have h5 := hb b5 (by simp)
      have hlr : r.length ≤ 100000 := by simp at hl; omega
      have e5 : cvt .i64 b5 = b5 := cvt64 (by omega) (by omega)
      have hF : mbap_first (b0 :: b1 :: b2 :: b3 :: b4 :: b5 :: b6 :: b7 :: r, ()) = if beginsV b2 b3 b4 b5 = true then if (r.length : Int) + 2 < b5 then some (zM, 0, ()) else some ((numV b0 b1, b6, (b7 :: r).take (b5 - 1).toNat), 6 + b5, ()) else some (zM, 0, ()) := by
        show mbap_first_m0 mbap_first_K1 _ = _
        unfold mbap_first_m0
        rw [if_neg (by rw [le_iff, ofNat_eq]; simp; omega), begins_eq, Option.bind_some]
        cases hbg : beginsV b2 b3 b4 b5 with
        | false => rfl
        | true =>
          rw [if_pos rfl]
          have h52 : 2 ≤ b5 := by
            unfold beginsV at hbg
            simp only [Bool.and_eq_true, Bool.not_eq_true', ← Bool.not_eq_true] at hbg
            have := hbg.2.2.2.1
            rw [lt_iff] at this
            omega
          show mbap_first_m1 _ false 0 0 = _
          unfold mbap_first_m1
          have g5 : at? (b0 :: b1 :: b2 :: b3 :: b4 :: b5 :: b6 :: b7 :: r) 5 = some b5 := rfl
          have ea : add .i64 6 (cvt .i64 b5) = 6 + b5 := by rw [e5, add64 (by omega) (by omega)]
          rw [if_neg (by decide), g5, Option.bind_some, ea]
          by_cases hlt : (r.length : Int) + 2 < b5
          · rw [if_pos (by rw [lt_iff, ofNat_eq]; simp; omega), if_pos hlt]
            rfl
          · have es : sub .i64 (6 + b5) 7 = (((b5 - 1).toNat : Nat) : Int) := by rw [sub64 (by omega) (by omega)]; omega
            have ec : cut (b0 :: b1 :: b2 :: b3 :: b4 :: b5 :: b6 :: b7 :: r) 7 (6 + b5) = some ((b7 :: r).take (b5 - 1).toNat) := by
              have := cut_nat (xs := b0 :: b1 :: b2 :: b3 :: b4 :: b5 :: b6 :: b7 :: r) (i := 7) (j := 7 + (b5 - 1).toNat) (by omega) (by simp; omega)
              have e : ((7 + (b5 - 1).toNat : Nat) : Int) = 6 + b5 := by omega
              rw [e, Nat.add_comm 7 (b5 - 1).toNat] at this
              exact this
            rw [if_neg (by rw [lt_iff, ofNat_eq]; simp; omega), if_neg hlt, es, need_t (by rw [ge_iff]; omega), need_t (capOk_self _), Int.toNat_natCast, need_small (by omega), ec, Option.bind_some, need_t (by rw [le_iff]; simp only [List.length_replicate, ofNat_eq]; omega)]
            have hlen : ((b7 :: r).take (b5 - 1).toNat).length = (b5 - 1).toNat := by rw [List.length_take, List.length_cons]; omega
            rw [fill_all hlen]
            rfl
      rw [hF]
      have K : ∀ (t : Bool) (y1 y2 : Int) (y3 : List Int), mbap_Parse_K1 t 0 0 y1 y2 y3 = if t = true then some (zM, 10, ()) else some ((y1, y2, y3), 0, ()) := fun t y1 y2 y3 => rfl
      show _ = some ((mbapP (b0 :: b1 :: b2 :: b3 :: b4 :: b5 :: b6 :: b7 :: r)).1, (mbapP (b0 :: b1 :: b2 :: b3 :: b4 :: b5 :: b6 :: b7 :: r)).2, ())
      unfold mbapP
      dsimp only
      have hne : ¬ (b7 :: r = []) := by simp
      rw [if_neg hne]
      cases hbg : beginsV b2 b3 b4 b5 with
      | false => rfl
      | true =>
        simp only [if_true]
        have h52 : 2 ≤ b5 := by
          unfold beginsV at hbg
          simp only [Bool.and_eq_true, Bool.not_eq_true', ← Bool.not_eq_true] at hbg
          have := hbg.2.2.2.1
          rw [lt_iff] at this
          omega
        by_cases hlt : (r.length : Int) + 2 < b5
        · have hq : ¬ (((b7 :: r).length : Int) + 1 = b5) := by simp; omega
          rw [if_pos hlt, if_neg hq]
          rfl
        · rw [if_neg hlt, Option.bind_some]
          dsimp only
          rw [if_neg (by rw [eqi_iff]; omega), K]
          by_cases he : (r.length : Int) + 2 = b5
          · have e1 : nei (6 + b5) (Int.ofNat (b0 :: b1 :: b2 :: b3 :: b4 :: b5 :: b6 :: b7 :: r).length) = false := by
              rw [← Bool.not_eq_true, nei_iff, ofNat_eq]
              simp
              omega
            have hq : ((b7 :: r).length : Int) + 1 = b5 := by simp; omega
            rw [e1, if_pos hq]
            have e2 : (b7 :: r).take (b5 - 1).toNat = b7 :: r := List.take_of_length_le (by simp; omega)
            rw [e2]
            rfl
          · have hq : ¬ (((b7 :: r).length : Int) + 1 = b5) := by simp; omega
            rw [if_neg hq, if_pos (by rw [nei_iff, ofNat_eq]; simp; omega)]
end Go.Proofs.Lx

end

section
/- Which replies fit, and what is taken. -/
namespace Go.Proofs.Lx
open Go Ev Sx Pl
set_option maxRecDepth 100000
def tcpV (unit tx : Int) (b : List Int) : Option TR :=
  if (mbapP b).2 ≠ 0 then none else if (mbapP b).1.2.1 ≠ unit then none else if (mbapP b).1.1 ≠ tx then none else
  if (parseR (mbapP b).1.2.2).2 ≠ 0 then none else some (parseR (mbapP b).1.2.2).1
theorem tcpfind_eq {b : List Int} (hl : b.length ≤ 100000) (hb : ∀ x ∈ b, 0 ≤ x ∧ x ≤ 255) (unit tx : Int) : poll_tcp_find ((), unit, tx, b, ()) = outF (tcpV unit tx b) := by
  show poll_tcp_find_m0 poll_tcp_find_K1 () unit tx b = _
  unfold poll_tcp_find_m0
  rw [mparse_eq hl hb, Option.bind_some]
  dsimp only
  have K : ∀ (t : Bool) (y1 y2 : Int) (y3 : List Int), poll_tcp_find_K1 t 0 0 0 0 y1 y2 y3 = if t = true then some (zR, false, ()) else if (parseR y3).2 ≠ 0 then some (zR, false, ()) else some ((parseR y3).1, true, ()) := fun t y1 y2 y3 => by
    unfold poll_tcp_find_K1 poll_tcp_find_m1
    rw [parse_eq, Option.bind_some]
    simp only [nei_iff]
    rfl
  rw [K, K]
  unfold tcpV
  by_cases h1 : (mbapP b).2 = 0
  · by_cases h2 : (mbapP b).1.2.1 = unit
    · by_cases h3 : (mbapP b).1.1 = tx
      · by_cases h4 : (parseR (mbapP b).1.2.2).2 = 0
        · simp [h1, h2, h3, h4, nei, outF]
        · simp [h1, h2, h3, h4, nei, outF]
      · simp [h1, h2, h3, nei, outF]
    · simp [h1, h2, nei, outF]
  · simp [h1, nei, outF]
/-! ### which fit -/
def echoV (a : TA) : Option TR :=
  if a.1 = 5 then some (5, 0, [a.2.2.2.2.2.headD false], [], a.2.1, 0) else if a.1 = 6 then some (6, 0, [], [a.2.2.2.2.1.headD 0], a.2.1, 0) else
  if a.1 = 15 ∨ a.1 = 16 then some (a.1, 0, [], [], a.2.1, a.2.2.1) else none
theorem echo_eq {a : TA} (h : OkA a) (hr : rightA a = true) : reply_Echo (a, ()) = outF (echoV a) := by
  show reply_Echo_m0 reply_Echo_K1 reply_Echo_K2 a = _
  unfold reply_Echo_m0
  rw [right_eq h, Option.bind_some, hr]
  clear h
  have hra := rightA_RA hr
  clear hr
  cases hra with
  | bits f p n hf h1 h2 => rcases hf with rfl | rfl <;> rfl
  | words f p n hf h1 h2 => rcases hf with rfl | rfl <;> rfl
  | coil p b => rfl
  | word p x => rfl
  | coils p l h1 h2 => rfl
  | regs p l h1 h2 => rfl
  | swap p n t l h1 h2 h3 h4 => rfl
theorem goL_index (v : Bool) : ∀ (s : List Bool) (n : Nat), ∃ k : Int, goL (R := Int × Unit) (fun (_ : Unit) (x : Bool × Nat) k => if eqb v x.1 = true then some ((x.2 : Int), ()) else k ()) (fun _ => some (-1, ())) (s.zipIdx n) () = some (k, ()) ∧ (0 ≤ k ↔ v ∈ s)
  | [], n => ⟨-1, rfl, by simp⟩
  | a :: r, n => by
    rw [List.zipIdx_cons]
    obtain ⟨k, h1, h2⟩ := goL_index v r (n + 1)
    by_cases e : v = a
    · refine ⟨(n : Int), ?_, by simp [e]⟩
      show (if eqb v a = true then _ else _) = _
      rw [if_pos (eqb_iff.2 e)]
    · refine ⟨k, ?_, ?_⟩
      · show (if eqb v a = true then _ else _) = _
        rw [if_neg (fun h => e (eqb_iff.1 h))]
        exact h1
      · rw [h2]
        simp [e]
theorem contains_eq {s : List Bool} (v : Bool) (h : s.length ≤ 1000000) : slices_Contains_Gbool (s, v, ()) = some (decide (v ∈ s), ()) := by
  obtain ⟨k, h1, h2⟩ := goL_index v s 0
  have e : slices_Index_Gbool (s, v, ()) = some (k, ()) := by
    rw [← h1]
    show slices_Index_Gbool_m0 slices_Index_Gbool_K1 s v = _
    unfold slices_Index_Gbool_m0 slices_Index_Gbool_K1
    have hz : (s.zipIdx 0).length = s.length := by simp
    refine loop_go (xs := s.zipIdx 0) (mk := fun i _ => (s, v, Int.ofNat s.length, (i : Int))) ?_ ?_ s.length 0 () _ (by rw [hz]; omega) (by omega)
    · intro self i acc x hx
      have hi := (List.getElem?_eq_some_iff.1 hx).1
      rw [hz] at hi
      have hx2 : s[i]? = some x.1 ∧ x.2 = i := by
        rw [List.getElem?_zipIdx] at hx
        obtain ⟨y, hy, rfl⟩ := Option.map_eq_some_iff.1 hx
        exact ⟨hy, by simp⟩
      show slices_Index_Gbool_m1 _ s v (Int.ofNat s.length) (i : Int) = _
      unfold slices_Index_Gbool_m1
      rw [if_pos (by rw [lt_iff, ofNat_eq]; omega), at_get hx2.1, Option.bind_some, succ64 (by omega), hx2.2]
    · intro self acc
      show slices_Index_Gbool_m1 _ s v (Int.ofNat s.length) (((s.zipIdx 0).length : Nat) : Int) = _
      unfold slices_Index_Gbool_m1
      rw [hz, if_neg (by rw [lt_iff, ofNat_eq]; omega)]
  show slices_Contains_Gbool_m0 s v = _
  unfold slices_Contains_Gbool_m0
  rw [e, Option.bind_some]
  refine congrArg (fun x => some (x, ())) ?_
  rw [ge_dec]
  by_cases hv : v ∈ s
  · rw [decide_eq_true hv, decide_eq_true (h2.2 hv)]
  · rw [decide_eq_false hv, decide_eq_false (fun h => hv (h2.1 h))]
def fitsV (a : TA) (r : TR) : Bool :=
  rightA a && (rightR r && (decide (a.1 = r.1) && (if r.2.1 ≠ 0 then true else match echoV a with
    | some e => decide (e = r)
    | none => if 0 < r.2.2.1.length then decide ((r.2.2.1.length : Int) = (a.2.2.1 + 7) / 8 * 8) && !decide (true ∈ r.2.2.1.drop a.2.2.1.toNat) else decide ((r.2.2.2.1.length : Int) = a.2.2.1))))
theorem fits_K {a : TA} {r : TR} (h : OkA a) (hr : rightA a = true) (hs : SmR r) (t : Bool) : reply_Fits_K1 t a.1 a.2.1 a.2.2.1 a.2.2.2.1 a.2.2.2.2.1 a.2.2.2.2.2 r.1 r.2.1 r.2.2.1 r.2.2.2.1 r.2.2.2.2.1 r.2.2.2.2.2 =
    some (!t && (if r.2.1 ≠ 0 then true else match echoV a with
    | some e => decide (e = r)
    | none => if 0 < r.2.2.1.length then decide ((r.2.2.1.length : Int) = (a.2.2.1 + 7) / 8 * 8) && !decide (true ∈ r.2.2.1.drop a.2.2.1.toNat) else decide ((r.2.2.2.1.length : Int) = a.2.2.1)), ()) := by
  unfold reply_Fits_K1 reply_Fits_m1
  cases t with
  | true => rfl
  | false =>
    rw [if_neg (by decide), Bool.not_false, Bool.true_and]
    by_cases h0 : r.2.1 = 0
    · rw [if_neg (by rw [nei_iff]; exact fun e => e h0)]
      simp only [ne_eq, h0, not_true_eq_false, if_false]
      have he : reply_Echo ((a.1, a.2.1, a.2.2.1, a.2.2.2.1, a.2.2.2.2.1, a.2.2.2.2.2), ()) = outF (echoV a) := echo_eq h hr
      rw [he]
      cases hv : echoV a with
      | some e =>
        have hse : SmR e := by
          unfold echoV at hv
          split at hv
          · cases hv; exact ⟨by show 1 ≤ 100000; decide, by show 0 ≤ 100000; decide⟩
          · split at hv
            · cases hv; exact ⟨by show 0 ≤ 100000; decide, by show 1 ≤ 100000; decide⟩
            · split at hv
              · cases hv; exact ⟨by show 0 ≤ 100000; decide, by show 0 ≤ 100000; decide⟩
              · cases hv
        have e2 := sameR_eq (b := r) hse
        rw [← h0]
        show Option.bind (reply_Same (e, r, ())) _ = _
        rw [e2]
        rfl
      | none =>
        have hm0 := h.m0
        have hm1 := h.m1
        have hb := hs.b
        have hw := hs.w
        show (if gt (Int.ofNat r.2.2.1.length) 0 = true then _ else _) = _
        by_cases hbl : 0 < r.2.2.1.length
        · rw [if_pos (by rw [gt_iff, ofNat_eq]; omega), if_pos hbl]
          obtain ⟨m, hm⟩ := Int.eq_ofNat_of_zero_le hm0
          have e1 : mul .i64 (quo .i64 (add .i64 (cvt .i64 a.2.2.1) 7) 8) 8 = (a.2.2.1 + 7) / 8 * 8 := by
            rw [hm, cvt64 (by omega) (by omega), show (7 : Int) = ((7 : Nat) : Int) from rfl, addn64 (by omega)]
            have := quo_nat (i := m + 7) (d := 8) (by omega)
            rw [show (8 : Int) = ((8 : Nat) : Int) from rfl, this, mul64 (by omega) (by omega)]
            omega
          rw [e1]
          by_cases hq : (r.2.2.1.length : Int) = (a.2.2.1 + 7) / 8 * 8
          · rw [if_pos (by rw [eqi_iff, ofNat_eq]; exact hq), decide_eq_true hq, cvt64 (by omega) (by omega), hm, cut_from (by omega), Option.bind_some, contains_eq true (by simp; omega), Option.bind_some, Int.toNat_natCast]
            rfl
          · rw [if_neg (by rw [eqi_iff, ofNat_eq]; exact hq), decide_eq_false hq]
            rfl
        · rw [if_neg (by rw [gt_iff, ofNat_eq]; omega), if_neg hbl, cvt64 (by omega) (by omega)]
          refine congrArg (fun x => some (x, ())) ?_
          rw [ofNat_eq]
          rw [Bool.eq_iff_iff, eqi_iff, decide_eq_true_eq]
    · rw [if_pos (by rw [nei_iff]; exact h0), if_pos h0]
theorem fits_eq {a : TA} {r : TR} (h : OkA a) (hs : SmR r) : reply_Fits (a, r, ()) = some (fitsV a r, ()) := by
  show reply_Fits_m0 reply_Fits_K1 a r = _
  unfold reply_Fits_m0 fitsV
  rw [right_eq h, Option.bind_some, rightR_eq hs, Option.bind_some]
  cases hr : rightA a with
  | false => rfl
  | true =>
    rw [if_neg (by decide)]
    cases hq : rightR r with
    | false => rfl
    | true =>
      rw [if_neg (by decide), fits_K h hr hs]
      refine congrArg (fun x => some (x, ())) ?_
      have e : (!nei a.1 r.1) = decide (a.1 = r.1) := by
        rw [Bool.eq_iff_iff, Bool.not_eq_true', ← Bool.not_eq_true, nei_iff, decide_eq_true_eq]
        exact Decidable.not_not
      rw [e]
      rfl
end Go.Proofs.Lx

end

section
/- What is taken by a poll. -/
namespace Go.Proofs.Lx
open Go Ev Sx Pl
set_option maxRecDepth 100000
theorem chkV_sm {b : List Int} {c : TR} {ok : Bool} {w : List Int} (h : SmR c) : SmR (chkV b c ok w).1 := by
  unfold chkV
  split
  · split
    · exact h
    · exact zR_sm
  · exact zR_sm
theorem parseR_sm (b : List Int) : SmR (parseR b).1 := by
  match b with
  | [] => exact zR_sm
  | [_] => exact zR_sm
  | x :: y :: r =>
    show SmR (parseQ x y r).1
    unfold parseQ
    by_cases hl : 251 < r.length
    · rw [if_pos hl]; exact zR_sm
    · rw [if_neg hl]
      have sb : SmR (bitC x r) := ⟨by show (unpackS r).length ≤ _; rw [unpackS_len]; omega, by show 0 ≤ 100000; decide⟩
      have sw : SmR (wordC x r) := ⟨by show 0 ≤ 100000; decide, by show (listS r).length ≤ _; rw [listS_len]; omega⟩
      have so : SmR (obC x (y :: r)) := pairC_sm (fun p q => ⟨by show 1 ≤ 100000; decide, by show 0 ≤ 100000; decide⟩) _
      have su : SmR (owC x (y :: r)) := pairC_sm (fun p q => ⟨by show 0 ≤ 100000; decide, by show 1 ≤ 100000; decide⟩) _
      have sc : SmR (ctC x (y :: r)) := pairC_sm (fun p q => ⟨by show 0 ≤ 100000; decide, by show 0 ≤ 100000; decide⟩) _
      have se : SmR (exC x y) := ⟨by show 0 ≤ 100000; decide, by show 0 ≤ 100000; decide⟩
      have step : ∀ {c : Prop} [Decidable c] {A B : TR × Int}, SmR A.1 → SmR B.1 → SmR (if c then A else B).1 := fun {c} _ {A B} h1 h2 => by
        by_cases hc : c
        · rw [if_pos hc]; exact h1
        · rw [if_neg hc]; exact h2
      exact step (step (chkV_sm sb) (step (chkV_sm sb) (step (chkV_sm sw) (step (chkV_sm sw) (step (chkV_sm sw) (step (chkV_sm so) (step (chkV_sm su) (step (chkV_sm sc) (step (chkV_sm sc) zR_sm))))))))) (chkV_sm se)
def findV (p : TP) (b : List Int) : Option TR := if p.2.1 = 2 then tcpV p.1 p.2.2.2.2.2.2.1 b else serV p.1 b
theorem findV_sm {p : TP} {b : List Int} {r : TR} (h : findV p b = some r) : SmR r := by
  unfold findV at h
  split at h
  · unfold tcpV at h
    split at h
    · cases h
    · split at h
      · cases h
      · split at h
        · cases h
        · split at h
          · cases h
          · cases h; exact parseR_sm _
  · unfold serV at h
    split at h
    · cases h
    · split at h
      · cases h
      · split at h
        · cases h
        · cases h; exact parseR_sm _
def takeV (p : TP) (b : List Int) : Option TR := if p.2.2.2.2.1 = true then (findV p b).bind fun r => if fitsV p.2.2.2.2.2.1 r = true then some r else none else none
def outT (p : TP) : Option TR → Option (TP × TR × Bool × Unit)
  | some r => some (dropP p, r, true, ())
  | none => some (p, zR, false, ())
theorem take_K {p : TP} (h : OkP p) {r : TR} (hs : SmR r) (ok : Bool) : poll_Take_K1 ok p.1 p.2.1 p.2.2.1 p.2.2.2.1 p.2.2.2.2.1 p.2.2.2.2.2.1.1 p.2.2.2.2.2.1.2.1 p.2.2.2.2.2.1.2.2.1 p.2.2.2.2.2.1.2.2.2.1 p.2.2.2.2.2.1.2.2.2.2.1 p.2.2.2.2.2.1.2.2.2.2.2
    p.2.2.2.2.2.2.1 p.2.2.2.2.2.2.2.1 p.2.2.2.2.2.2.2.2 0 0 0 0 false 0 0 0 0 0 0 0 0 0 0 0 r.1 r.2.1 r.2.2.1 r.2.2.2.1 r.2.2.2.2.1 r.2.2.2.2.2 =
    outT p (if ok = true then if fitsV p.2.2.2.2.2.1 r = true then some r else none else none) := by
  unfold poll_Take_K1 poll_Take_m1
  have h1 := h.a.lw
  have h2 := h.a.lb
  have e2 : ∀ t, poll_Take_K2 t p.1 p.2.1 p.2.2.1 p.2.2.2.1 p.2.2.2.2.1 p.2.2.2.2.2.1.1 p.2.2.2.2.2.1.2.1 p.2.2.2.2.2.1.2.2.1 p.2.2.2.2.2.1.2.2.2.1 p.2.2.2.2.2.1.2.2.2.2.1 p.2.2.2.2.2.1.2.2.2.2.2
    p.2.2.2.2.2.2.1 p.2.2.2.2.2.2.2.1 p.2.2.2.2.2.2.2.2 0 0 0 0 false 0 0 0 0 0 0 0 0 0 0 0 r.1 r.2.1 r.2.2.1 r.2.2.2.1 r.2.2.2.2.1 r.2.2.2.2.2 = if t = true then some (p, zR, false, ()) else some (dropP p, r, true, ()) := fun t => by
    unfold poll_Take_K2 poll_Take_m2
    have eo : poll_own (p, ()) = some (p, ()) := own_eq (by omega) (by omega)
    cases t with
    | true => exact (congrArg (fun q => Option.bind q fun y => some (y.1, zR, false, ())) eo).trans rfl
    | false => rfl
  rw [e2]
  have e3 : reply_Fits ((p.2.2.2.2.2.1.1, p.2.2.2.2.2.1.2.1, p.2.2.2.2.2.1.2.2.1, p.2.2.2.2.2.1.2.2.2.1, p.2.2.2.2.2.1.2.2.2.2.1, p.2.2.2.2.2.1.2.2.2.2.2), (r.1, r.2.1, r.2.2.1, r.2.2.2.1, r.2.2.2.2.1, r.2.2.2.2.2), ()) = some (fitsV p.2.2.2.2.2.1 r, ()) := fits_eq h.a hs
  rw [e3, Option.bind_some, e2]
  cases ok with
  | false => rfl
  | true => cases fitsV p.2.2.2.2.2.1 r <;> rfl
theorem take_eq {p : TP} (h : OkP p) {b : List Int} (hl : b.length ≤ 100000) (hb : ∀ x ∈ b, 0 ≤ x ∧ x ≤ 255) : poll_Take (p, b, ()) = outT p (takeV p b) := by
  show poll_Take_m0 poll_Take_K1 p b = _
  unfold poll_Take_m0
  have h1 := h.a.lw
  have h2 := h.a.lb
  rw [own_eq (by omega) (by omega), Option.bind_some, tcpfind_eq hl hb, serfind_eq]
  have key : ∀ o : Option TR, (∀ r, o = some r → SmR r) → (Option.bind (outF o) fun y => poll_Take_K1 y.2.1 p.1 p.2.1 p.2.2.1 p.2.2.2.1 p.2.2.2.2.1 p.2.2.2.2.2.1.1 p.2.2.2.2.2.1.2.1 p.2.2.2.2.2.1.2.2.1 p.2.2.2.2.2.1.2.2.2.1 p.2.2.2.2.2.1.2.2.2.2.1 p.2.2.2.2.2.1.2.2.2.2.2
      p.2.2.2.2.2.2.1 p.2.2.2.2.2.2.2.1 p.2.2.2.2.2.2.2.2 0 0 0 0 false 0 0 0 0 0 0 0 0 0 0 0 y.1.1 y.1.2.1 y.1.2.2.1 y.1.2.2.2.1 y.1.2.2.2.2.1 y.1.2.2.2.2.2) = outT p (o.bind fun r => if fitsV p.2.2.2.2.2.1 r = true then some r else none) := fun o ho => by
    cases o with
    | none => exact take_K h zR_sm false
    | some r => exact take_K h (ho r rfl) true
  have hout : ∀ o, ∃ x, outT p o = some x := fun o => by cases o <;> exact ⟨_, rfl⟩
  unfold takeV
  cases hw : p.2.2.2.2.1 with
  | false => rfl
  | true =>
    rw [if_neg (by decide), if_pos rfl]
    rw [hw] at key
    by_cases hlk : p.2.1 = 2
    · have e : findV p b = tcpV p.1 p.2.2.2.2.2.2.1 b := by unfold findV; rw [if_pos hlk]
      have kk := key (tcpV p.1 p.2.2.2.2.2.2.1 b) (fun r hr => findV_sm (e.trans hr))
      rw [e]
      obtain ⟨x, hx⟩ := hout ((tcpV p.1 p.2.2.2.2.2.2.1 b).bind fun r => if fitsV p.2.2.2.2.2.1 r = true then some r else none)
      rw [hx] at kk ⊢
      simp only [eqi_iff, hlk, if_true]
      rw [hlk] at kk
      rw [kk, amb_same (eqAs_refl _), amb_same (eqAs_refl _)]
    · have e : findV p b = serV p.1 b := by unfold findV; rw [if_neg hlk]
      have kk := key (serV p.1 b) (fun r hr => findV_sm (e.trans hr))
      rw [e]
      obtain ⟨x, hx⟩ := hout ((serV p.1 b).bind fun r => if fitsV p.2.2.2.2.2.1 r = true then some r else none)
      rw [hx] at kk ⊢
      simp only [eqi_iff, hlk, if_false]
      rw [kk, amb_same (eqAs_refl _), amb_same (eqAs_refl _)]
end Go.Proofs.Lx

end

section
/- PollNone, as a plain law. -/
namespace Pl
open Go Ev Sx
theorem ok8 {x : Int} (h : (Lit.int .u8 x).wf = true) : 0 ≤ x ∧ x ≤ 255 := by
  simp [Lit.wf] at h
  have e1 : IntKind.u8.min = 0 := rfl
  have e2 : IntKind.u8.max = 255 := rfl
  omega
theorem ok16 {x : Int} (h : (Lit.int .u16 x).wf = true) : 0 ≤ x ∧ x ≤ 65535 := by
  simp [Lit.wf] at h
  have e1 : IntKind.u16.min = 0 := rfl
  have e2 : IntKind.u16.max = 65535 := rfl
  omega
theorem ok64 {x : Int} (h : (Lit.int .i64 x).wf = true) : -9223372036854775808 ≤ x ∧ x ≤ 9223372036854775807 := by
  simp [Lit.wf] at h
  have e1 : IntKind.i64.min = -9223372036854775808 := rfl
  have e2 : IntKind.i64.max = 9223372036854775807 := rfl
  omega
end Pl
namespace Go.Proofs.Lx
open Go Ev Sx Pl
set_option maxRecDepth 100000
def fewV (ws : List Int) (bs : List Bool) : Bool := decide (ws.length ≤ 200) && decide (bs.length ≤ 2100)
theorem few_eq (ws : List Int) (bs : List Bool) : low_Few (ws, bs, ()) = some (fewV ws bs, ()) := by
  show low_Few_m0 ws bs = _
  unfold low_Few_m0 fewV
  by_cases h : ws.length ≤ 200
  · rw [if_pos (by rw [le_iff, ofNat_eq]; omega), decide_eq_true h, Bool.true_and, le_dec]
    refine congrArg (fun x => some (x, ())) ?_
    rw [ofNat_eq]
    by_cases h2 : bs.length ≤ 2100
    · rw [decide_eq_true h2, decide_eq_true (by omega)]
    · rw [decide_eq_false h2, decide_eq_false (by omega)]
  · rw [if_neg (by rw [le_iff, ofNat_eq]; omega), decide_eq_false h]
    rfl
theorem few_iff {ws : List Int} {bs : List Bool} : fewV ws bs = true ↔ ws.length ≤ 200 ∧ bs.length ≤ 2100 := by simp [fewV]
abbrev tA : Ty := .pr (.int .u8) (.pr (.int .u16) (.pr (.int .u16) (.pr (.int .u16) (.pr (.sl (.int .u16)) (.sl .bool)))))
theorem okA_of {a : TA} (h : Rw.okV tA a) (hf : fewV a.2.2.2.2.1 a.2.2.2.2.2 = true) : OkA a := by
  obtain ⟨h1, h2, h3, h4, h5, h6⟩ := h
  have hf := few_iff.1 hf
  exact ⟨(ok8 h1).1, (ok8 h1).2, (ok16 h2).1, (ok16 h2).2, (ok16 h3).1, (ok16 h3).2, (ok16 h4).1, (ok16 h4).2, fun x hx => ok16 (h5.2 x hx), by omega, by omega⟩
theorem awake22 : law22_awake () = some (true, ()) := by kernel_rfl
theorem zA_ok : OkA zA := ⟨by decide, by decide, by decide, by decide, by decide, by decide, by decide, by decide, by simp [zA], by decide, by decide⟩
theorem ranges_if {β : Type} (J : Bool → β) (u l t r : Int) : (if ge u 1 = true then if le u 247 = true then if eqi l 1 = true then if ge t 1 = true then if le t 100000 = true then if ge r 0 = true then J (le r 1000) else J false else J false else J false else
    if eqi l 2 = true then if ge t 1 = true then if le t 100000 = true then if ge r 0 = true then J (le r 1000) else J false else J false else J false else J false else J false else J false) = J (rangesV u l t r) := by
  have h := ranges_eq u l t r
  have h : poll_ranges_m0 u l t r = _ := h
  unfold poll_ranges_m0 at h
  revert h
  generalize rangesV u l t r = q
  generalize ge u 1 = b1
  generalize le u 247 = b2
  generalize eqi l 1 = b3
  generalize eqi l 2 = b4
  generalize ge t 1 = b5
  generalize le t 100000 = b6
  generalize ge r 0 = b7
  generalize le r 1000 = b8
  intro h
  cases b1 <;> cases b2 <;> cases b3 <;> cases b4 <;> cases b5 <;> cases b6 <;> cases b7 <;> cases h <;> rfl
theorem rangesV_ok {u l t r : Int} (h : rangesV u l t r = true) : OkP (u, l, t, r, false, zA, 0, 0, 0) := by
  have h := of_decide_eq_true h
  exact ⟨h.1.1, h.1.2, h.2.1, h.2.2.1.1, h.2.2.1.2, h.2.2.2.1, h.2.2.2.2, zA_ok, by show (0 : Int) ≤ 0; decide, by show (0 : Int) ≤ 65535; decide⟩
theorem none_law (unit link timeout retries : Int) (a : TA) (ticks : Int) (ha : Rw.okV tA a) (ht : 0 ≤ ticks ∧ ticks ≤ 255) : law22_PollNone (unit, link, timeout, retries, a, ticks, ()) = some (true, ()) := by
  show law22_PollNone_m0 law22_PollNone_K1 unit link timeout retries a ticks = _
  unfold law22_PollNone_m0
  rw [few_eq, Option.bind_some, awake22, Option.bind_some]
  cases hf : fewV a.2.2.2.2.1 a.2.2.2.2.2 with
  | false => rfl
  | true =>
    have hA := okA_of ha hf
    rw [if_neg (by decide), new_eq]
    cases hr : rangesV unit link timeout retries with
    | false =>
      rw [if_neg (by decide), Option.bind_some]
      refine (ranges_if (fun b => law22_PollNone_K1 ticks 2 b a.1 a.2.1 a.2.2.1 a.2.2.2.1 a.2.2.2.2.1 a.2.2.2.2.2 0 0 0 0 false 0 0 0 0 [] [] 0 0 0) unit link timeout retries).trans ?_
      rw [hr]
      show Option.bind (law22_awake ()) (fun y => some (y.1, ())) = _
      rw [awake22]
      rfl
    | true =>
      rw [if_pos rfl, Option.bind_some]
      refine (ranges_if (fun b => law22_PollNone_K1 ticks 0 b a.1 a.2.1 a.2.2.1 a.2.2.2.1 a.2.2.2.2.1 a.2.2.2.2.2 unit link timeout retries false 0 0 0 0 [] [] 0 0 0) unit link timeout retries).trans ?_
      rw [hr]
      show law22_PollNone_K3 ticks 0 a.1 a.2.1 a.2.2.1 a.2.2.2.1 a.2.2.2.2.1 a.2.2.2.2.2 unit link timeout retries false 0 0 0 0 [] [] 0 0 0 = _
      unfold law22_PollNone_K3
      have hP := rangesV_ok hr
      obtain ⟨N, rfl⟩ := Int.eq_ofNat_of_zero_le ht.1
      refine loop_det (mk := fun i => ((N : Int), (i : Int), a.1, a.2.1, a.2.2.1, a.2.2.2.1, a.2.2.2.2.1, a.2.2.2.2.2, unit, link, timeout, retries, false, 0, 0, 0, 0, [], [], 0, 0, 0)) (N := N) ?_ ?_ N 0 _ (by omega) (by omega)
      · intro self i hi
        show law22_PollNone_m3 _ _ _ (N : Int) (i : Int) a.1 a.2.1 a.2.2.1 a.2.2.2.1 a.2.2.2.2.1 a.2.2.2.2.2 unit link timeout retries false 0 0 0 0 [] [] 0 0 0 = _
        unfold law22_PollNone_m3
        have et : poll_Tick ((unit, link, timeout, retries, false, (0, 0, 0, 0, [], []), 0, 0, 0), ()) = some ((unit, link, timeout, retries, false, zA, 0, 0, 0), [], false, ()) := tick_eq hP (fun h => by cases h)
        have es : poll_Same ((unit, link, timeout, retries, false, (0, 0, 0, 0, [], []), 0, 0, 0), (unit, link, timeout, retries, false, zA, 0, 0, 0), ()) = some (true, ()) := by
          rw [samep_eq (by show 0 ≤ 1000000; decide) (by show 0 ≤ 1000000; decide)]
          simp [zA]
        rw [if_pos (by rw [lt_iff]; omega), et, Option.bind_some, if_neg (by show ¬ gt 0 0 = true; decide), if_neg (by show ¬ false = true; decide), es, Option.bind_some]
        show law22_PollNone_m4 _ (N : Int) (i : Int) false a.1 a.2.1 a.2.2.1 a.2.2.2.1 a.2.2.2.2.1 a.2.2.2.2.2 unit link timeout retries false 0 0 0 0 [] [] 0 0 0 = _
        unfold law22_PollNone_m4
        have ea : add .u8 (i : Int) 1 = ((i + 1 : Nat) : Int) := by
          unfold add
          rw [wu8 (by omega) (by omega)]
          rfl
        rw [if_neg (by decide), ea]
      · intro self
        show law22_PollNone_m3 _ _ _ (N : Int) (N : Int) a.1 a.2.1 a.2.2.1 a.2.2.2.1 a.2.2.2.2.1 a.2.2.2.2.2 unit link timeout retries false 0 0 0 0 [] [] 0 0 0 = _
        unfold law22_PollNone_m3
        rw [if_neg (by rw [lt_iff]; omega)]
        show law22_PollNone_m5 a.1 a.2.1 a.2.2.1 a.2.2.2.1 a.2.2.2.2.1 a.2.2.2.2.2 unit link timeout retries false 0 0 0 0 [] [] 0 0 0 = _
        unfold law22_PollNone_m5
        have es : poll_Send ((unit, link, timeout, retries, false, (0, 0, 0, 0, [], []), 0, 0, 0), (a.1, a.2.1, a.2.2.1, a.2.2.2.1, a.2.2.2.2.1, a.2.2.2.2.2), ()) = _ := send_eq hP hA
        have er : ask_Right ((a.1, a.2.1, a.2.2.1, a.2.2.2.1, a.2.2.2.2.1, a.2.2.2.2.2), ()) = _ := right_eq hA
        rw [es, er, if_neg (by show ¬ false = true; decide), awake22]
        cases hq : rightA a with
        | true => rfl
        | false =>
          rw [if_neg (by decide), Option.bind_some, Option.bind_some]
          have es : poll_Same ((unit, link, timeout, retries, false, (0, 0, 0, 0, [], []), 0, 0, 0), (unit, link, timeout, retries, false, zA, 0, 0, 0), ()) = some (true, ()) := by
            rw [samep_eq (by show 0 ≤ 1000000; decide) (by show 0 ≤ 1000000; decide)]
            simp [zA]
          rw [if_pos (by show eqb (eqi 12 0) false = true; decide), if_neg (by show ¬ eqi 12 0 = true; decide), if_pos (by show eqi 12 12 = true; decide), if_pos (by show eqi 0 0 = true; decide)]
          dsimp only
          rw [show zA = (0, 0, 0, 0, [], []) from rfl] at es
          rw [es]
          rfl
theorem none_row (x : As [.int .u8, .int .u8, .int .i64, .int .i64, tA, .int .u8]) (h : Rw.okA [.int .u8, .int .u8, .int .i64, .int .i64, tA, .int .u8] x) : law22_PollNone x = some (true, ()) :=
  none_law x.1 x.2.1 x.2.2.1 x.2.2.2.1 x.2.2.2.2.1 x.2.2.2.2.2.1 h.2.2.2.2.1 (ok8 h.2.2.2.2.2.1)
end Go.Proofs.Lx

end

section
/- PollOnce, as a plain law. -/
namespace Go.Proofs.Lx
open Go Ev Sx Pl
set_option maxRecDepth 100000
/-- a right poll -/
structure Vp (p : TP) : Prop extends OkP p where
  y : p.2.2.2.2.1 = true → rightA p.2.2.2.2.2.1 = true ∧ 1 ≤ p.2.2.2.2.2.2.2.1 ∧ p.2.2.2.2.2.2.2.1 ≤ p.2.2.1 ∧ 0 ≤ p.2.2.2.2.2.2.2.2 ∧ p.2.2.2.2.2.2.2.2 ≤ p.2.2.2.1
  n : p.2.2.2.2.1 = false → p.2.2.2.2.2.1 = zA ∧ p.2.2.2.2.2.2.2.1 = 0 ∧ p.2.2.2.2.2.2.2.2 = 0
theorem ranges_ok {p : TP} (h : OkP p) : rangesV p.1 p.2.1 p.2.2.1 p.2.2.2.1 = true := decide_eq_true ⟨⟨h.u0, h.u1⟩, h.l, ⟨h.t0, h.t1⟩, h.r0, h.r1⟩
theorem rightp_V {p : TP} (h : Vp p) : poll_Right (p, ()) = some (true, ()) := by
  show poll_Right_m0 p = _
  unfold poll_Right_m0
  have h1 := h.a.lw
  have h2 := h.a.lb
  have ht := h.t1
  rw [ranges_eq, ranges_ok h.toOkP, Option.bind_some, right_eq h.a, Option.bind_some]
  cases hw : p.2.2.2.2.1 with
  | false =>
    obtain ⟨e1, e2, e3⟩ := h.n hw
    have es : ask_Same (p.2.2.2.2.2.1, (0, 0, 0, 0, [], []), ()) = some (true, ()) := by
      rw [sameA_eq (by omega) (by omega), e1]
      rfl
    rw [es, e2, e3]
    rfl
  | true =>
    obtain ⟨e1, e2, e3, e4, e5⟩ := h.y hw
    rw [e1]
    show (if ge p.2.2.2.2.2.2.2.1 1 = true then _ else _) = _
    rw [if_pos (ge_iff.2 e2), if_pos (le_iff.2 e3), if_pos (ge_iff.2 e4), le_iff.2 e5]
theorem Vp.drop {p : TP} (h : Vp p) : Vp (dropP p) := ⟨⟨h.u0, h.u1, h.l, h.t0, h.t1, h.r0, h.r1, zA_ok, h.x0, h.x1⟩, fun e => (by cases e), fun _ => ⟨rfl, rfl, rfl⟩⟩
theorem nextV_rng (l : Int) {x : Int} (h0 : 0 ≤ x) (h1 : x ≤ 65535) : 0 ≤ nextV l x ∧ nextV l x ≤ 65535 := by
  unfold nextV
  split <;> omega
theorem Vp.wait {p : TP} {a : TA} (h : Vp p) (ha : OkA a) (hr : rightA a = true) : Vp (sentP (waitP p a)) :=
  ⟨⟨h.u0, h.u1, h.l, h.t0, h.t1, h.r0, h.r1, ha, (nextV_rng _ h.x0 h.x1).1, (nextV_rng _ h.x0 h.x1).2⟩, fun _ => ⟨hr, h.t0, Int.le_refl _, h.r0, Int.le_refl _⟩, fun e => (by cases e)⟩
theorem tick_V {p : TP} (h : Vp p) : poll_Tick (p, ()) = some ((tickV p).1, (tickV p).2.1, (tickV p).2.2, ()) :=
  tick_eq h.toOkP fun hw => by
    obtain ⟨e1, e2, e3, e4, e5⟩ := h.y hw
    have ht := h.t1
    have hr := h.r1
    exact ⟨e1, e2, by omega, e4, by omega⟩
theorem Vp.tick {p : TP} (h : Vp p) : Vp (tickV p).1 := by
  unfold tickV
  by_cases hw : p.2.2.2.2.1 = true
  · obtain ⟨e1, e2, e3, e4, e5⟩ := h.y hw
    rw [if_pos hw]
    by_cases hl : p.2.2.2.2.2.2.2.1 = 1
    · rw [if_pos hl]
      by_cases hg : 0 < p.2.2.2.2.2.2.2.2
      · rw [if_pos hg]
        exact ⟨⟨h.u0, h.u1, h.l, h.t0, h.t1, h.r0, h.r1, h.a, (nextV_rng _ h.x0 h.x1).1, (nextV_rng _ h.x0 h.x1).2⟩, fun _ => ⟨e1, h.t0, Int.le_refl _, by show 0 ≤ p.2.2.2.2.2.2.2.2 - 1; omega, by show p.2.2.2.2.2.2.2.2 - 1 ≤ p.2.2.2.1; omega⟩, fun e => absurd (hw.symm.trans e) (by decide)⟩
      · rw [if_neg hg]
        exact h.drop
    · rw [if_neg hl]
      exact ⟨⟨h.u0, h.u1, h.l, h.t0, h.t1, h.r0, h.r1, h.a, h.x0, h.x1⟩, fun _ => ⟨e1, by show 1 ≤ p.2.2.2.2.2.2.2.1 - 1; omega, by show p.2.2.2.2.2.2.2.1 - 1 ≤ p.2.2.1; omega, e4, e5⟩, fun e => absurd (hw.symm.trans e) (by decide)⟩
  · rw [if_neg hw]
    exact h
def tickN : Nat → TP → TP
  | 0, p => p
  | n + 1, p => (tickV (tickN n p)).1
theorem Vp.ticks {p : TP} (h : Vp p) : ∀ n, Vp (tickN n p)
  | 0 => h
  | n + 1 => (Vp.ticks h n).tick
@[reducible] def ap14 {β : Type} (f : Int → Int → Int → Int → Bool → Int → Int → Int → Int → List Int → List Bool → Int → Int → Int → β) (p : TP) : β :=
  f p.1 p.2.1 p.2.2.1 p.2.2.2.1 p.2.2.2.2.1 p.2.2.2.2.2.1.1 p.2.2.2.2.2.1.2.1 p.2.2.2.2.2.1.2.2.1 p.2.2.2.2.2.1.2.2.2.1 p.2.2.2.2.2.1.2.2.2.2.1 p.2.2.2.2.2.1.2.2.2.2.2 p.2.2.2.2.2.2.1 p.2.2.2.2.2.2.2.1 p.2.2.2.2.2.2.2.2
abbrev TO := Int × TA × List Int × Int
abbrev OS := List TO → Int → Int → Int → Int → Int → Int → Bool → Int → Int → Int → Int → List Int → List Bool → Int → Int → Int → Option (As [.bool])
section
variable {s : OS} {l : List TO} {n i : Int} {p q z : TP}
theorem once_K6 (hq : Vp q) : ap14 (ap14 (law22_PollOnce_K6 s l n i) p) q = ap14 (s l n (add .i64 i 1)) q := by
  show law22_PollOnce_m6 _ _ _ _ _ _ _ _ _ _ _ _ _ _ _ _ _ _ _ _ _ _ _ _ _ _ _ _ _ _ _ _ = _
  unfold law22_PollOnce_m6
  have e : poll_Right ((q.1, q.2.1, q.2.2.1, q.2.2.2.1, q.2.2.2.2.1, (q.2.2.2.2.2.1.1, q.2.2.2.2.2.1.2.1, q.2.2.2.2.2.1.2.2.1, q.2.2.2.2.2.1.2.2.2.1, q.2.2.2.2.2.1.2.2.2.2.1, q.2.2.2.2.2.1.2.2.2.2.2), q.2.2.2.2.2.2.1, q.2.2.2.2.2.2.2.1, q.2.2.2.2.2.2.2.2), ()) = some (true, ()) := rightp_V hq
  rw [e]
  rfl
theorem once_K3 (hq : Vp q) : ap14 (ap14 (ap14 (law22_PollOnce_K3 s l n i false) p) z) q = ap14 (s l n (add .i64 i 1)) q := once_K6 (p := p) hq
theorem once_K7 (hq : Vp q) : ap14 (ap14 (ap14 (law22_PollOnce_K7 s l n i false) p) z) q = ap14 (s l n (add .i64 i 1)) q := once_K6 (p := p) hq
/-- nothing is taken from a poll that does not wait -/
theorem take_not {b : List Int} (h : p.2.2.2.2.1 = false) : takeV p b = none := by
  unfold takeV
  rw [h]
  rfl
abbrev tup (p : TP) : TP := (p.1, p.2.1, p.2.2.1, p.2.2.2.1, p.2.2.2.2.1, (p.2.2.2.2.2.1.1, p.2.2.2.2.2.1.2.1, p.2.2.2.2.2.1.2.2.1, p.2.2.2.2.2.1.2.2.2.1, p.2.2.2.2.2.1.2.2.2.2.1, p.2.2.2.2.2.1.2.2.2.2.2), p.2.2.2.2.2.2.1, p.2.2.2.2.2.2.2.1, p.2.2.2.2.2.2.2.2)
theorem once_K4 (hq : Vp q) {b : List Int} (hl : b.length ≤ 100000) (hb : ∀ x ∈ b, 0 ≤ x ∧ x ≤ 255) {k : Bool} (hk : k = true → q.2.2.2.2.1 = false) {x1 x2 x3 x4 x5 : Int} {x6 : List Int} {x7 : List Bool} {x9 : Int} :
    ap14 (ap14 (ap14 (law22_PollOnce_K4 s k l n i false) p x1 x2 x3 x4 x5 x6 x7 b x9) z) q = ap14 (s l n (add .i64 i 1)) q := by
  have et : poll_Take (tup q, b, ()) = outT q (takeV q b) := take_eq hq.toOkP hl hb
  show (if false = true then some (false, ()) else Option.bind (poll_Take (tup q, b, ())) fun y => if k = true then ap14 (ap14 (ap14 (law22_PollOnce_K7 s l n i y.2.2.1) p) z) q else ap14 (ap14 (ap14 (law22_PollOnce_K7 s l n i false) p) z) q) = _
  rw [if_neg (by decide), et]
  cases k with
  | false =>
    have : ∃ y, outT q (takeV q b) = some y := by cases takeV q b <;> exact ⟨_, rfl⟩
    obtain ⟨y, hy⟩ := this
    rw [hy]
    exact once_K7 (p := p) (z := z) hq
  | true =>
    rw [take_not (hk rfl)]
    exact once_K7 (p := p) (z := z) hq
theorem samep_self (h : Vp p) : poll_Same (tup p, tup p, ()) = some (true, ()) := by
  have h1 := h.a.lw
  have h2 := h.a.lb
  have e : poll_Same (tup p, tup p, ()) = some (decide (tup p = tup p), ()) := samep_eq (by show p.2.2.2.2.2.1.2.2.2.2.1.length ≤ _; omega) (by show p.2.2.2.2.2.1.2.2.2.2.2.length ≤ _; omega)
  rw [e]
  simp
theorem sameA_self {a : TA} (h : OkA a) : ask_Same (a, a, ()) = some (true, ()) := by
  have h1 := h.lw
  have h2 := h.lb
  rw [sameA_eq (by omega) (by omega)]
  simp
abbrev OS8 := List TO → Int → Int → Int → Int → Int → Int → Int → Int → Bool → Int → Int → Int → Int → List Int → List Bool → Int → Int → Int → Int → Int → Int → Int → Bool → Int → Int → Int → Int → List Int → List Bool → Int → Int → Int → Option (As [.bool])
theorem once_K8 {u5 : OS8} {c j : Int} : ap14 (ap14 (ap14 (law22_PollOnce_K8 s u5 l n i c j false) p) z) q = ap14 (ap14 (u5 l n i c (add .u8 j 1)) p) q := rfl
theorem once_m5 {u5 : OS8} {c j : Int} (hz : Vp z) (hj : j < c) :
    ap14 (ap14 (law22_PollOnce_m5 (law22_PollOnce_K8 s u5) (law22_PollOnce_K6 s) s u5 l n i c j) p) z = ap14 (ap14 (u5 l n i c (add .u8 j 1)) p) (tickV z).1 := by
  have et : poll_Tick (tup z, ()) = some ((tickV z).1, (tickV z).2.1, (tickV z).2.2, ()) := tick_V hz
  unfold law22_PollOnce_m5
  dsimp only [ap14]
  rw [if_pos (lt_iff.2 hj), et, Option.bind_some]
  dsimp only
  unfold tickV
  cases hw : z.2.2.2.2.1 with
  | false =>
    have es := samep_self hz
    have e1 : gt (Int.ofNat ([] : List Int).length) 0 = false := rfl
    have e2 : poll_Same ((z.1, z.2.1, z.2.2.1, z.2.2.2.1, false, (z.2.2.2.2.2.1.1, z.2.2.2.2.2.1.2.1, z.2.2.2.2.2.1.2.2.1, z.2.2.2.2.2.1.2.2.2.1, z.2.2.2.2.2.1.2.2.2.2.1, z.2.2.2.2.2.1.2.2.2.2.2), z.2.2.2.2.2.2.1, z.2.2.2.2.2.2.2.1, z.2.2.2.2.2.2.2.2), z, ()) = some (true, ()) := by
      rw [← hw]; exact es
    simp only [Bool.false_eq_true, if_false, e1, Bool.not_false, if_true, e2, Option.bind_some, Bool.not_true]
    rfl
  | true =>
    by_cases hl : z.2.2.2.2.2.2.2.1 = 1
    · by_cases hg : 0 < z.2.2.2.2.2.2.2.2
      · obtain ⟨q1, q2, q3, q4, q5⟩ := hz.y hw
        have hlen := sentB_len (p := againP z 0 (z.2.2.2.2.2.2.2.2 - 1)) q1
        have e1 : gt (Int.ofNat (sentB (againP z 0 (z.2.2.2.2.2.2.2.2 - 1))).length) 0 = true := by rw [gt_iff, ofNat_eq]; omega
        have e2 : nei (1 : Int) 0 = true := rfl
        have e3 : nei (1 : Int) 1 = false := rfl
        simp only [if_true, hl, hg, e1, e3, Bool.false_eq_true, if_false, Bool.not_true]
        rfl
      · have e1 : gt (Int.ofNat ([] : List Int).length) 0 = false := rfl
        have e3 : nei (1 : Int) 1 = false := rfl
        have e4 : (dropP z).2.2.2.2.1 = false := rfl
        simp only [if_true, hl, hg, e1, e3, e4, Bool.false_eq_true, if_false, Bool.not_true]
        rfl
    · have e1 : gt (Int.ofNat ([] : List Int).length) 0 = false := rfl
      simp only [if_true, hl, e1, Bool.false_eq_true, if_false, Bool.not_true]
      rfl
end
end Go.Proofs.Lx

end

section
/- The loops of PollOnce, step by step. -/
namespace Go.Proofs.Lx
open Go Ev Sx Pl
set_option maxRecDepth 100000
def law22_PollOnce_K5_F (u2 : List LBT0 → Int → Int → Int → Int → Int → Int → Bool → Int → Int → Int → Int → List Int → List Bool → Int → Int → Int → Option (As [.bool])) := (fun (self : (List LBT0) × (Int) × (Int) × (Int) × (Int) × (Int) × (Int) × (Int) × (Int) × (Bool) × (Int) × (Int) × (Int) × (Int) × (List Int) × (List Bool) × (Int) × (Int) × (Int) × (Int) × (Int) × (Int) × (Int) × (Bool) × (Int) × (Int) × (Int) × (Int) × (List Int) × (List Bool) × (Int) × (Int) × (Int) → Option (As [.bool])) (s : (List LBT0) × (Int) × (Int) × (Int) × (Int) × (Int) × (Int) × (Int) × (Int) × (Bool) × (Int) × (Int) × (Int) × (Int) × (List Int) × (List Bool) × (Int) × (Int) × (Int) × (Int) × (Int) × (Int) × (Int) × (Bool) × (Int) × (Int) × (Int) × (Int) × (List Int) × (List Bool) × (Int) × (Int) × (Int)) => law22_PollOnce_m5 (law22_PollOnce_K8 u2 (fun t49 t50 t51 t183 t184 p p_2 p_3 p_4 p_5 p_6 p_7 p_8 p_9 p_10 p_11 p_12 p_13 p_14 next next_2 next_3 next_4 next_5 next_6 next_7 next_8 next_9 next_10 next_11 next_12 next_13 next_14 => self (t49, t50, t51, t183, t184, p, p_2, p_3, p_4, p_5, p_6, p_7, p_8, p_9, p_10, p_11, p_12, p_13, p_14, next, next_2, next_3, next_4, next_5, next_6, next_7, next_8, next_9, next_10, next_11, next_12, next_13, next_14))) (law22_PollOnce_K6 u2) u2 (fun t49 t50 t51 t183 t184 p p_2 p_3 p_4 p_5 p_6 p_7 p_8 p_9 p_10 p_11 p_12 p_13 p_14 next next_2 next_3 next_4 next_5 next_6 next_7 next_8 next_9 next_10 next_11 next_12 next_13 next_14 => self (t49, t50, t51, t183, t184, p, p_2, p_3, p_4, p_5, p_6, p_7, p_8, p_9, p_10, p_11, p_12, p_13, p_14, next, next_2, next_3, next_4, next_5, next_6, next_7, next_8, next_9, next_10, next_11, next_12, next_13, next_14)) s.1 s.2.1 s.2.2.1 s.2.2.2.1 s.2.2.2.2.1 s.2.2.2.2.2.1 s.2.2.2.2.2.2.1 s.2.2.2.2.2.2.2.1 s.2.2.2.2.2.2.2.2.1 s.2.2.2.2.2.2.2.2.2.1 s.2.2.2.2.2.2.2.2.2.2.1 s.2.2.2.2.2.2.2.2.2.2.2.1 s.2.2.2.2.2.2.2.2.2.2.2.2.1 s.2.2.2.2.2.2.2.2.2.2.2.2.2.1 s.2.2.2.2.2.2.2.2.2.2.2.2.2.2.1 s.2.2.2.2.2.2.2.2.2.2.2.2.2.2.2.1 s.2.2.2.2.2.2.2.2.2.2.2.2.2.2.2.2.1 s.2.2.2.2.2.2.2.2.2.2.2.2.2.2.2.2.2.1 s.2.2.2.2.2.2.2.2.2.2.2.2.2.2.2.2.2.2.1 s.2.2.2.2.2.2.2.2.2.2.2.2.2.2.2.2.2.2.2.1 s.2.2.2.2.2.2.2.2.2.2.2.2.2.2.2.2.2.2.2.2.1 s.2.2.2.2.2.2.2.2.2.2.2.2.2.2.2.2.2.2.2.2.2.1 s.2.2.2.2.2.2.2.2.2.2.2.2.2.2.2.2.2.2.2.2.2.2.1 s.2.2.2.2.2.2.2.2.2.2.2.2.2.2.2.2.2.2.2.2.2.2.2.1 s.2.2.2.2.2.2.2.2.2.2.2.2.2.2.2.2.2.2.2.2.2.2.2.2.1 s.2.2.2.2.2.2.2.2.2.2.2.2.2.2.2.2.2.2.2.2.2.2.2.2.2.1 s.2.2.2.2.2.2.2.2.2.2.2.2.2.2.2.2.2.2.2.2.2.2.2.2.2.2.1 s.2.2.2.2.2.2.2.2.2.2.2.2.2.2.2.2.2.2.2.2.2.2.2.2.2.2.2.1 s.2.2.2.2.2.2.2.2.2.2.2.2.2.2.2.2.2.2.2.2.2.2.2.2.2.2.2.2.1 s.2.2.2.2.2.2.2.2.2.2.2.2.2.2.2.2.2.2.2.2.2.2.2.2.2.2.2.2.2.1 s.2.2.2.2.2.2.2.2.2.2.2.2.2.2.2.2.2.2.2.2.2.2.2.2.2.2.2.2.2.2.1 s.2.2.2.2.2.2.2.2.2.2.2.2.2.2.2.2.2.2.2.2.2.2.2.2.2.2.2.2.2.2.2.1 s.2.2.2.2.2.2.2.2.2.2.2.2.2.2.2.2.2.2.2.2.2.2.2.2.2.2.2.2.2.2.2.2)
theorem law22_PollOnce_K5_Fe (u2 : List LBT0 → Int → Int → Int → Int → Int → Int → Bool → Int → Int → Int → Int → List Int → List Bool → Int → Int → Int → Option (As [.bool])) (self : (List LBT0) × (Int) × (Int) × (Int) × (Int) × (Int) × (Int) × (Int) × (Int) × (Bool) × (Int) × (Int) × (Int) × (Int) × (List Int) × (List Bool) × (Int) × (Int) × (Int) × (Int) × (Int) × (Int) × (Int) × (Bool) × (Int) × (Int) × (Int) × (Int) × (List Int) × (List Bool) × (Int) × (Int) × (Int) → Option (As [.bool])) (t49 : List LBT0) (t50 : Int) (t51 : Int) (t183 : Int) (t184 : Int) (p : Int) (p_2 : Int) (p_3 : Int) (p_4 : Int) (p_5 : Bool) (p_6 : Int) (p_7 : Int) (p_8 : Int) (p_9 : Int) (p_10 : List Int) (p_11 : List Bool) (p_12 : Int) (p_13 : Int) (p_14 : Int) (next : Int) (next_2 : Int) (next_3 : Int) (next_4 : Int) (next_5 : Bool) (next_6 : Int) (next_7 : Int) (next_8 : Int) (next_9 : Int) (next_10 : List Int) (next_11 : List Bool) (next_12 : Int) (next_13 : Int) (next_14 : Int) : law22_PollOnce_K5_F u2 self (t49, t50, t51, t183, t184, p, p_2, p_3, p_4, p_5, p_6, p_7, p_8, p_9, p_10, p_11, p_12, p_13, p_14, next, next_2, next_3, next_4, next_5, next_6, next_7, next_8, next_9, next_10, next_11, next_12, next_13, next_14) = law22_PollOnce_m5 (law22_PollOnce_K8 u2 (fun t49 t50 t51 t183 t184 p p_2 p_3 p_4 p_5 p_6 p_7 p_8 p_9 p_10 p_11 p_12 p_13 p_14 next next_2 next_3 next_4 next_5 next_6 next_7 next_8 next_9 next_10 next_11 next_12 next_13 next_14 => self (t49, t50, t51, t183, t184, p, p_2, p_3, p_4, p_5, p_6, p_7, p_8, p_9, p_10, p_11, p_12, p_13, p_14, next, next_2, next_3, next_4, next_5, next_6, next_7, next_8, next_9, next_10, next_11, next_12, next_13, next_14))) (law22_PollOnce_K6 u2) u2 (fun t49 t50 t51 t183 t184 p p_2 p_3 p_4 p_5 p_6 p_7 p_8 p_9 p_10 p_11 p_12 p_13 p_14 next next_2 next_3 next_4 next_5 next_6 next_7 next_8 next_9 next_10 next_11 next_12 next_13 next_14 => self (t49, t50, t51, t183, t184, p, p_2, p_3, p_4, p_5, p_6, p_7, p_8, p_9, p_10, p_11, p_12, p_13, p_14, next, next_2, next_3, next_4, next_5, next_6, next_7, next_8, next_9, next_10, next_11, next_12, next_13, next_14)) t49 t50 t51 t183 t184 p p_2 p_3 p_4 p_5 p_6 p_7 p_8 p_9 p_10 p_11 p_12 p_13 p_14 next next_2 next_3 next_4 next_5 next_6 next_7 next_8 next_9 next_10 next_11 next_12 next_13 next_14 := rfl
theorem law22_PollOnce_K5_Ke (u2 : List LBT0 → Int → Int → Int → Int → Int → Int → Bool → Int → Int → Int → Int → List Int → List Bool → Int → Int → Int → Option (As [.bool])) (t49 : List LBT0) (t50 : Int) (t51 : Int) (t183 : Int) (t184 : Int) (p : Int) (p_2 : Int) (p_3 : Int) (p_4 : Int) (p_5 : Bool) (p_6 : Int) (p_7 : Int) (p_8 : Int) (p_9 : Int) (p_10 : List Int) (p_11 : List Bool) (p_12 : Int) (p_13 : Int) (p_14 : Int) (next : Int) (next_2 : Int) (next_3 : Int) (next_4 : Int) (next_5 : Bool) (next_6 : Int) (next_7 : Int) (next_8 : Int) (next_9 : Int) (next_10 : List Int) (next_11 : List Bool) (next_12 : Int) (next_13 : Int) (next_14 : Int) : law22_PollOnce_K5 u2 t49 t50 t51 t183 t184 p p_2 p_3 p_4 p_5 p_6 p_7 p_8 p_9 p_10 p_11 p_12 p_13 p_14 next next_2 next_3 next_4 next_5 next_6 next_7 next_8 next_9 next_10 next_11 next_12 next_13 next_14 = loopF (law22_PollOnce_K5_F u2) 18446744073709551616 (t49, t50, t51, t183, t184, p, p_2, p_3, p_4, p_5, p_6, p_7, p_8, p_9, p_10, p_11, p_12, p_13, p_14, next, next_2, next_3, next_4, next_5, next_6, next_7, next_8, next_9, next_10, next_11, next_12, next_13, next_14) := rfl
def law22_PollOnce_K2_F  := (fun (self : (List LBT0) × (Int) × (Int) × (Int) × (Int) × (Int) × (Int) × (Bool) × (Int) × (Int) × (Int) × (Int) × (List Int) × (List Bool) × (Int) × (Int) × (Int) → Option (As [.bool])) (s : (List LBT0) × (Int) × (Int) × (Int) × (Int) × (Int) × (Int) × (Bool) × (Int) × (Int) × (Int) × (Int) × (List Int) × (List Bool) × (Int) × (Int) × (Int)) => law22_PollOnce_m2 (law22_PollOnce_K3 (fun t49 t50 t51 p p_2 p_3 p_4 p_5 p_6 p_7 p_8 p_9 p_10 p_11 p_12 p_13 p_14 => self (t49, t50, t51, p, p_2, p_3, p_4, p_5, p_6, p_7, p_8, p_9, p_10, p_11, p_12, p_13, p_14))) (law22_PollOnce_K4 (fun t49 t50 t51 p p_2 p_3 p_4 p_5 p_6 p_7 p_8 p_9 p_10 p_11 p_12 p_13 p_14 => self (t49, t50, t51, p, p_2, p_3, p_4, p_5, p_6, p_7, p_8, p_9, p_10, p_11, p_12, p_13, p_14))) (law22_PollOnce_K5 (fun t49 t50 t51 p p_2 p_3 p_4 p_5 p_6 p_7 p_8 p_9 p_10 p_11 p_12 p_13 p_14 => self (t49, t50, t51, p, p_2, p_3, p_4, p_5, p_6, p_7, p_8, p_9, p_10, p_11, p_12, p_13, p_14))) (law22_PollOnce_K6 (fun t49 t50 t51 p p_2 p_3 p_4 p_5 p_6 p_7 p_8 p_9 p_10 p_11 p_12 p_13 p_14 => self (t49, t50, t51, p, p_2, p_3, p_4, p_5, p_6, p_7, p_8, p_9, p_10, p_11, p_12, p_13, p_14))) (fun t49 t50 t51 p p_2 p_3 p_4 p_5 p_6 p_7 p_8 p_9 p_10 p_11 p_12 p_13 p_14 => self (t49, t50, t51, p, p_2, p_3, p_4, p_5, p_6, p_7, p_8, p_9, p_10, p_11, p_12, p_13, p_14)) s.1 s.2.1 s.2.2.1 s.2.2.2.1 s.2.2.2.2.1 s.2.2.2.2.2.1 s.2.2.2.2.2.2.1 s.2.2.2.2.2.2.2.1 s.2.2.2.2.2.2.2.2.1 s.2.2.2.2.2.2.2.2.2.1 s.2.2.2.2.2.2.2.2.2.2.1 s.2.2.2.2.2.2.2.2.2.2.2.1 s.2.2.2.2.2.2.2.2.2.2.2.2.1 s.2.2.2.2.2.2.2.2.2.2.2.2.2.1 s.2.2.2.2.2.2.2.2.2.2.2.2.2.2.1 s.2.2.2.2.2.2.2.2.2.2.2.2.2.2.2.1 s.2.2.2.2.2.2.2.2.2.2.2.2.2.2.2.2)
theorem law22_PollOnce_K2_Fe  (self : (List LBT0) × (Int) × (Int) × (Int) × (Int) × (Int) × (Int) × (Bool) × (Int) × (Int) × (Int) × (Int) × (List Int) × (List Bool) × (Int) × (Int) × (Int) → Option (As [.bool])) (t49 : List LBT0) (t50 : Int) (t51 : Int) (p : Int) (p_2 : Int) (p_3 : Int) (p_4 : Int) (p_5 : Bool) (p_6 : Int) (p_7 : Int) (p_8 : Int) (p_9 : Int) (p_10 : List Int) (p_11 : List Bool) (p_12 : Int) (p_13 : Int) (p_14 : Int) : law22_PollOnce_K2_F self (t49, t50, t51, p, p_2, p_3, p_4, p_5, p_6, p_7, p_8, p_9, p_10, p_11, p_12, p_13, p_14) = law22_PollOnce_m2 (law22_PollOnce_K3 (fun t49 t50 t51 p p_2 p_3 p_4 p_5 p_6 p_7 p_8 p_9 p_10 p_11 p_12 p_13 p_14 => self (t49, t50, t51, p, p_2, p_3, p_4, p_5, p_6, p_7, p_8, p_9, p_10, p_11, p_12, p_13, p_14))) (law22_PollOnce_K4 (fun t49 t50 t51 p p_2 p_3 p_4 p_5 p_6 p_7 p_8 p_9 p_10 p_11 p_12 p_13 p_14 => self (t49, t50, t51, p, p_2, p_3, p_4, p_5, p_6, p_7, p_8, p_9, p_10, p_11, p_12, p_13, p_14))) (law22_PollOnce_K5 (fun t49 t50 t51 p p_2 p_3 p_4 p_5 p_6 p_7 p_8 p_9 p_10 p_11 p_12 p_13 p_14 => self (t49, t50, t51, p, p_2, p_3, p_4, p_5, p_6, p_7, p_8, p_9, p_10, p_11, p_12, p_13, p_14))) (law22_PollOnce_K6 (fun t49 t50 t51 p p_2 p_3 p_4 p_5 p_6 p_7 p_8 p_9 p_10 p_11 p_12 p_13 p_14 => self (t49, t50, t51, p, p_2, p_3, p_4, p_5, p_6, p_7, p_8, p_9, p_10, p_11, p_12, p_13, p_14))) (fun t49 t50 t51 p p_2 p_3 p_4 p_5 p_6 p_7 p_8 p_9 p_10 p_11 p_12 p_13 p_14 => self (t49, t50, t51, p, p_2, p_3, p_4, p_5, p_6, p_7, p_8, p_9, p_10, p_11, p_12, p_13, p_14)) t49 t50 t51 p p_2 p_3 p_4 p_5 p_6 p_7 p_8 p_9 p_10 p_11 p_12 p_13 p_14 := rfl
theorem law22_PollOnce_K2_Ke  (t49 : List LBT0) (t50 : Int) (t51 : Int) (p : Int) (p_2 : Int) (p_3 : Int) (p_4 : Int) (p_5 : Bool) (p_6 : Int) (p_7 : Int) (p_8 : Int) (p_9 : Int) (p_10 : List Int) (p_11 : List Bool) (p_12 : Int) (p_13 : Int) (p_14 : Int) : law22_PollOnce_K2 t49 t50 t51 p p_2 p_3 p_4 p_5 p_6 p_7 p_8 p_9 p_10 p_11 p_12 p_13 p_14 = loopF (law22_PollOnce_K2_F) 18446744073709551616 (t49, t50, t51, p, p_2, p_3, p_4, p_5, p_6, p_7, p_8, p_9, p_10, p_11, p_12, p_13, p_14) := rfl
end Go.Proofs.Lx

end

section
/- PollOnce, as a plain law: the loops. -/
namespace Go.Proofs.Lx
open Go Ev Sx Pl
set_option maxRecDepth 100000
section
variable {s : OS} {l : List TO} {n i : Int} {p q z : TP}
theorem tickN_succ (j : Nat) (p : TP) : tickN (j + 1) p = (tickV (tickN j p)).1 := rfl
abbrev mk5 (l : List TO) (n i c j : Int) (p z : TP) :=
  (l, n, i, c, j, p.1, p.2.1, p.2.2.1, p.2.2.2.1, p.2.2.2.2.1, p.2.2.2.2.2.1.1, p.2.2.2.2.2.1.2.1, p.2.2.2.2.2.1.2.2.1, p.2.2.2.2.2.1.2.2.2.1, p.2.2.2.2.2.1.2.2.2.2.1, p.2.2.2.2.2.1.2.2.2.2.2, p.2.2.2.2.2.2.1, p.2.2.2.2.2.2.2.1, p.2.2.2.2.2.2.2.2,
    z.1, z.2.1, z.2.2.1, z.2.2.2.1, z.2.2.2.2.1, z.2.2.2.2.2.1.1, z.2.2.2.2.2.1.2.1, z.2.2.2.2.2.1.2.2.1, z.2.2.2.2.2.1.2.2.2.1, z.2.2.2.2.2.1.2.2.2.2.1, z.2.2.2.2.2.1.2.2.2.2.2, z.2.2.2.2.2.2.1, z.2.2.2.2.2.2.2.1, z.2.2.2.2.2.2.2.2)
theorem once_K5g {c : Nat} (hc : c ≤ 31) {g : Nat → TP} (hg : ∀ j, Vp (g j)) (hs : ∀ j, g (j + 1) = (tickV (g j)).1) : ap14 (ap14 (law22_PollOnce_K5 s l n i (c : Int) 0) p) (g 0) = ap14 (s l n (add .i64 i 1)) (g c) := by
  dsimp only [ap14]
  rw [law22_PollOnce_K5_Ke]
  refine loop_det (F := law22_PollOnce_K5_F s) (mk := fun j => mk5 l n i (c : Int) (j : Int) p (g j)) (N := c) ?_ ?_ c 0 18446744073709551616 (by omega) (by omega)
  · intro self j hj
    rw [law22_PollOnce_K5_Fe]
    have ea : add .u8 (j : Int) 1 = ((j + 1 : Nat) : Int) := by
      unfold add
      rw [wu8 (by omega) (by omega)]
      rfl
    have h5 := once_m5 (p := p) (z := g j) (s := s) (l := l) (n := n) (i := i) (c := (c : Int)) (j := (j : Int)) (u5 := fun t49 t50 t51 t183 t184 p p_2 p_3 p_4 p_5 p_6 p_7 p_8 p_9 p_10 p_11 p_12 p_13 p_14 next next_2 next_3 next_4 next_5 next_6 next_7 next_8 next_9 next_10 next_11 next_12 next_13 next_14 => self (t49, t50, t51, t183, t184, p, p_2, p_3, p_4, p_5, p_6, p_7, p_8, p_9, p_10, p_11, p_12, p_13, p_14, next, next_2, next_3, next_4, next_5, next_6, next_7, next_8, next_9, next_10, next_11, next_12, next_13, next_14)) (hg j) (by omega)
    rw [ea, ← hs] at h5
    exact h5
  · intro self
    rw [law22_PollOnce_K5_Fe]
    have h6 := once_K6 (s := s) (l := l) (n := n) (i := i) (p := p) (q := g c) (hg c)
    unfold law22_PollOnce_m5
    rw [if_neg (by rw [lt_iff]; omega)]
    exact h6
theorem once_K5 {c : Nat} (hc : c ≤ 31) (hp : Vp p) : ap14 (ap14 (law22_PollOnce_K5 s l n i (c : Int) 0) p) p = ap14 (s l n (add .i64 i 1)) (tickN c p) :=
  once_K5g (g := fun j => tickN j p) hc (fun j => hp.ticks j) (fun j => rfl)
end
def nextP (p : TP) (x : TO) : TP :=
  if x.1 % 4 = 0 then (if p.2.2.2.2.1 = true then p else if rightA x.2.1 = true then sentP (waitP p x.2.1) else p)
  else if x.1 % 4 = 1 then (match takeV p x.2.2.1 with
    | some _ => dropP p
    | none => p)
  else if x.1 % 4 = 2 then tickN (x.2.2.2 % 31).toNat p
  else dropP p
structure OkO (x : TO) : Prop where
  w0 : 0 ≤ x.1
  w1 : x.1 ≤ 255
  a : OkA x.2.1
  l : x.2.2.1.length ≤ 300
  b : ∀ y ∈ x.2.2.1, 0 ≤ y ∧ y ≤ 255
  t0 : 0 ≤ x.2.2.2
  t1 : x.2.2.2 ≤ 255
theorem Vp.next {p : TP} (h : Vp p) {x : TO} (hx : OkO x) : Vp (nextP p x) := by
  unfold nextP
  split
  · split
    · exact h
    · split
      · rename_i hr
        exact h.wait hx.a hr
      · exact h
  · split
    · split
      · exact h.drop
      · exact h
    · split
      · exact h.ticks _
      · exact h.drop
theorem rem4 {x : Int} (h0 : 0 ≤ x) : rem x 4 = x % 4 := by
  unfold rem
  rw [Int.tmod_eq_emod_of_nonneg h0]
theorem once_step {s : OS} {l : List TO} {i : Nat} {p : TP} {x : TO} (hx : l[i]? = some x) (hok : OkO x) (hp : Vp p) :
    ap14 (law22_PollOnce_m2 (law22_PollOnce_K3 s) (law22_PollOnce_K4 s) (law22_PollOnce_K5 s) (law22_PollOnce_K6 s) s l (Int.ofNat l.length) (i : Int)) p = ap14 (s l (Int.ofNat l.length) (add .i64 (i : Int) 1)) (nextP p x) := by
  have hi := (List.getElem?_eq_some_iff.1 hx).1
  have h1 := hp.a.lw
  have h2 := hp.a.lb
  have k3 : ∀ {z q : TP}, Vp q → _ := fun {z q} hq => once_K3 (s := s) (l := l) (n := Int.ofNat l.length) (i := (i : Int)) (p := p) (z := z) (q := q) hq
  unfold law22_PollOnce_m2
  dsimp only [ap14]
  rw [if_pos (by rw [lt_iff, ofNat_eq]; omega), at_get hx, Option.bind_some, rem4 hok.w0]
  unfold nextP
  have esend : poll_Send (tup p, x.2.1, ()) = _ := send_eq hp.toOkP hok.a
  have eright : ask_Right (x.2.1, ()) = _ := right_eq hok.a
  have etake : poll_Take (tup p, x.2.2.1, ()) = outT p (takeV p x.2.2.1) := take_eq hp.toOkP (by have := hok.l; omega) hok.b
  have esame := samep_self hp
  have e30 : eqi (30 : Int) 30 = true := rfl
  have e300 : eqi (30 : Int) 0 = false := rfl
  have n300 : nei (30 : Int) 0 = true := rfl
  have e1230 : eqi (12 : Int) 30 = false := rfl
  have e120 : eqi (12 : Int) 0 = false := rfl
  have n120 : nei (12 : Int) 0 = true := rfl
  have e030 : eqi (0 : Int) 30 = false := rfl
  have e00 : eqi (0 : Int) 0 = true := rfl
  have n00 : nei (0 : Int) 0 = false := rfl
  have gl : gt (Int.ofNat ([] : List Int).length) 0 = false := rfl
  have btt : neb true true = false := rfl
  have bff : neb false false = false := rfl
  by_cases c0 : x.1 % 4 = 0
  · rw [if_pos (eqi_iff.2 c0), if_pos c0, esend]
    cases hw : p.2.2.2.2.1 with
    | true =>
      have ew : (tup p).2.2.2.2.1 = true := hw
      have es : poll_Same ((p.1, p.2.1, p.2.2.1, p.2.2.2.1, true, (p.2.2.2.2.2.1.1, p.2.2.2.2.2.1.2.1, p.2.2.2.2.2.1.2.2.1, p.2.2.2.2.2.1.2.2.2.1, p.2.2.2.2.2.1.2.2.2.2.1, p.2.2.2.2.2.1.2.2.2.2.2), p.2.2.2.2.2.2.1, p.2.2.2.2.2.2.2.1, p.2.2.2.2.2.2.2.2), tup p, ()) = some (true, ()) := by
        refine Eq.trans ?_ esame
        rw [← hw]
      have k := k3 (z := p) (q := p) hp
      dsimp only [ap14] at k
      rw [hw] at k
      simp only [hw, if_true, Option.bind_some, e30, btt, Bool.false_eq_true, if_false, Bool.not_true, n300, es, gl, e300]
      exact k
    | false =>
      have ew : (tup p).2.2.2.2.1 = false := hw
      cases hr : rightA x.2.1 with
      | false =>
        have es : poll_Same ((p.1, p.2.1, p.2.2.1, p.2.2.2.1, false, (p.2.2.2.2.2.1.1, p.2.2.2.2.2.1.2.1, p.2.2.2.2.2.1.2.2.1, p.2.2.2.2.2.1.2.2.2.1, p.2.2.2.2.2.1.2.2.2.2.1, p.2.2.2.2.2.1.2.2.2.2.2), p.2.2.2.2.2.2.1, p.2.2.2.2.2.2.2.1, p.2.2.2.2.2.2.2.2), tup p, ()) = some (true, ()) := by
          rw [← hw]; exact esame
        have k := k3 (z := p) (q := p) hp
        dsimp only [ap14] at k
        rw [hw] at k
        simp only [hw, hr, if_true, Option.bind_some, e1230, e120, bff, Bool.false_eq_true, if_false, Bool.not_false, Bool.not_true, n120, es, gl, eright]
        exact k
      | true =>
        have hv := hp.wait hok.a hr
        have hlen := sentB_len (p := waitP p x.2.1) hr
        have eb : eqi (Int.ofNat (sentB (waitP p x.2.1)).length) 0 = false := by
          rw [← Bool.not_eq_true, eqi_iff, ofNat_eq]
          omega
        have eb' : eqi (Int.ofNat (sentB (waitP (tup p) x.2.1)).length) 0 = false := eb
        have ea : ask_Same ((sentP (waitP (tup p) x.2.1)).2.2.2.2.2.1, x.2.1, ()) = some (true, ()) := sameA_self hok.a
        have ey : (sentP (waitP (tup p) x.2.1)).2.2.2.2.1 = true := rfl
        have k := k3 (z := p) (q := sentP (waitP p x.2.1)) hv
        dsimp only [ap14] at k
        rw [hw] at k
        simp only [hw, hr, if_true, Option.bind_some, e030, e00, n00, bff, btt, Bool.false_eq_true, if_false, Bool.not_false, Bool.not_true, eright, ey, ea, eb']
        exact k
  · rw [if_neg (fun h => c0 (eqi_iff.1 h)), if_neg c0]
    by_cases c1 : x.1 % 4 = 1
    · rw [if_pos (eqi_iff.2 c1), if_pos c1, etake]
      cases ht : takeV p x.2.2.1 with
      | none =>
        have k := once_K4 (s := s) (l := l) (n := Int.ofNat l.length) (i := (i : Int)) (p := p) (z := p) (q := p) hp (b := x.2.2.1) (by have := hok.l; omega) hok.b (k := false) (fun h => by cases h) (x1 := x.1) (x2 := x.2.1.1) (x3 := x.2.1.2.1) (x4 := x.2.1.2.2.1) (x5 := x.2.1.2.2.2.1) (x6 := x.2.1.2.2.2.2.1) (x7 := x.2.1.2.2.2.2.2) (x9 := x.2.2.2)
        have es : poll_Same (tup p, p, ()) = some (true, ()) := esame
        dsimp only [outT]
        simp only [Option.bind_some, Bool.false_eq_true, if_false, Bool.not_false, if_true, es, Bool.not_true]
        exact k
      | some r =>
        have hw : p.2.2.2.2.1 = true := by
          cases hw : p.2.2.2.2.1 with
          | true => rfl
          | false => rw [take_not hw] at ht; cases ht
        have k := once_K4 (s := s) (l := l) (n := Int.ofNat l.length) (i := (i : Int)) (p := p) (z := p) (q := dropP p) hp.drop (b := x.2.2.1) (by have := hok.l; omega) hok.b (k := true) (fun _ => rfl) (x1 := x.1) (x2 := x.2.1.1) (x3 := x.2.1.2.1) (x4 := x.2.1.2.2.1) (x5 := x.2.1.2.2.2.1) (x6 := x.2.1.2.2.2.2.1) (x7 := x.2.1.2.2.2.2.2) (x9 := x.2.2.2)
        have hf : ∃ r', findV p x.2.2.1 = some r' ∧ fitsV p.2.2.2.2.2.1 r' = true ∧ r' = r := by
          unfold takeV at ht
          rw [if_pos hw] at ht
          obtain ⟨r', q1, q2⟩ := Option.bind_eq_some_iff.1 ht
          split at q2
          · rename_i q3; exact ⟨r', q1, q3, Option.some.inj q2⟩
          · cases q2
        obtain ⟨r', q1, q2, rfl⟩ := hf
        have ef : reply_Fits ((p.2.2.2.2.2.1.1, p.2.2.2.2.2.1.2.1, p.2.2.2.2.2.1.2.2.1, p.2.2.2.2.2.1.2.2.2.1, p.2.2.2.2.2.1.2.2.2.2.1, p.2.2.2.2.2.1.2.2.2.2.2), r', ()) = some (true, ()) := by
          have e : reply_Fits (p.2.2.2.2.2.1, r', ()) = _ := fits_eq hp.a (findV_sm q1)
          rw [q2] at e
          exact e
        have ed : (dropP p).2.2.2.2.1 = false := rfl
        have ew : (!p.2.2.2.2.1) = true ↔ False := by rw [hw]; simp
        dsimp only [outT]
        simp only [Option.bind_some, if_true, ew, if_false, ed, Bool.false_eq_true, ef, Bool.not_true]
        exact k
    · rw [if_neg (fun h => c1 (eqi_iff.1 h)), if_neg c1]
      by_cases c2 : x.1 % 4 = 2
      · rw [if_pos (eqi_iff.2 c2), if_pos c2]
        have e31 : rem x.2.2.2 31 = (((x.2.2.2 % 31).toNat : Nat) : Int) := by
          unfold rem
          have := hok.t0
          rw [Int.tmod_eq_emod_of_nonneg this]
          omega
        rw [e31]
        exact once_K5 (by have := hok.t0; omega) hp
      · rw [if_neg (fun h => c2 (eqi_iff.1 h)), if_neg c2]
        have ed : poll_Drop (tup p, ()) = some (dropP p, ()) := drop_eq p
        rw [ed, Option.bind_some]
        have e2 : (dropP p).2.2.2.2.1 = false := rfl
        simp only [e2, Bool.false_eq_true, if_false]
        exact once_K6 (p := p) hp.drop
def okO (x : TO) : Bool := decide (x.2.2.1.length ≤ 300) && fewV x.2.1.2.2.2.2.1 x.2.1.2.2.2.2.2
theorem fewO_eq {l : List TO} (hl : l.length ≤ 100000) (most : Int) : law22_Few (l, most, ()) = some (l.all okO && decide ((l.length : Int) ≤ most), ()) := by
  have key : ∀ (r : List TO), goL (R := Bool × Unit) (fun (_ : Unit) (x : TO) k => if okO x = true then k () else some (false, ())) (fun _ => some (decide ((l.length : Int) ≤ most), ())) r () = some (r.all okO && decide ((l.length : Int) ≤ most), ()) := by
    intro r
    induction r with
    | nil => rfl
    | cons x r ih =>
      show (if okO x = true then goL _ _ r () else some (false, ())) = _
      rw [ih, List.all_cons]
      cases okO x <;> rfl
  rw [← key]
  show law22_Few_m0 law22_Few_K1 l most = _
  unfold law22_Few_m0 law22_Few_K1
  refine loop_go (xs := l) (mk := fun i _ => (l, most, l, Int.ofNat l.length, (i : Int))) ?_ ?_ l.length 0 () _ (by omega) (by omega)
  · intro self i acc x hx
    have hi := (List.getElem?_eq_some_iff.1 hx).1
    show law22_Few_m1 _ _ _ l most l (Int.ofNat l.length) (i : Int) = _
    unfold law22_Few_m1
    rw [if_pos (by rw [lt_iff, ofNat_eq]; omega), at_get hx, Option.bind_some, few_eq, Option.bind_some]
    have K : ∀ (b : Bool) (s : List TO → Int → List TO → Int → Int → Option (As [.bool])), law22_Few_K2 s l most l (Int.ofNat l.length) (i : Int) b = if b = true then some (false, ()) else s l most l (Int.ofNat l.length) ((i + 1 : Nat) : Int) := fun b s => by
      unfold law22_Few_K2 law22_Few_m2
      rw [succ64 (by omega)]
    rw [K, K]
    unfold okO
    by_cases h3 : x.2.2.1.length ≤ 300
    · rw [if_neg (by rw [gt_iff, ofNat_eq]; omega), decide_eq_true h3, Bool.true_and]
      cases fewV x.2.1.2.2.2.2.1 x.2.1.2.2.2.2.2 <;> rfl
    · rw [if_pos (by rw [gt_iff, ofNat_eq]; omega), decide_eq_false h3]
      rfl
  · intro self acc
    show law22_Few_m1 _ _ _ l most l (Int.ofNat l.length) (l.length : Int) = _
    unfold law22_Few_m1
    rw [if_neg (by rw [lt_iff, ofNat_eq]; omega)]
    rfl
abbrev tO : Ty := .pr (.int .u8) (.pr tA (.pr (.sl (.int .u8)) (.int .u8)))
theorem okO_of {x : TO} (h : Rw.okV tO x) (hf : okO x = true) : OkO x := by
  obtain ⟨h1, h2, h3, h4⟩ := h
  unfold okO at hf
  rw [Bool.and_eq_true] at hf
  exact ⟨(ok8 h1).1, (ok8 h1).2, okA_of h2 hf.2, of_decide_eq_true hf.1, fun y hy => ok8 (h3.2 y hy), (ok8 h4).1, (ok8 h4).2⟩
/-- the poll that a law begins with -/
def begP (link timeout retries : Int) : TP := (9, add .u8 1 (rem link 2), add .i64 1 (cvt .i64 (rem timeout 20)), cvt .i64 (rem retries 6), false, zA, 0, 0, 0)
theorem beg_rng {link timeout retries : Int} (h1 : 0 ≤ link) (h2 : 0 ≤ timeout) (h3 : 0 ≤ retries) : (add .u8 1 (rem link 2) = 1 + link % 2) ∧ (add .i64 1 (cvt .i64 (rem timeout 20)) = 1 + timeout % 20) ∧ cvt .i64 (rem retries 6) = retries % 6 := by
  have e1 : rem link 2 = link % 2 := by unfold rem; exact Int.tmod_eq_emod_of_nonneg h1
  have e2 : rem timeout 20 = timeout % 20 := by unfold rem; exact Int.tmod_eq_emod_of_nonneg h2
  have e3 : rem retries 6 = retries % 6 := by unfold rem; exact Int.tmod_eq_emod_of_nonneg h3
  rw [e1, e2, e3, cvt64 (by omega) (by omega), cvt64 (by omega) (by omega), add64 (by omega) (by omega)]
  refine ⟨?_, rfl, rfl⟩
  unfold add
  rw [wu8 (by omega) (by omega)]
theorem beg_ok {link timeout retries : Int} (h1 : 0 ≤ link) (h2 : 0 ≤ timeout) (h3 : 0 ≤ retries) : rangesV 9 (add .u8 1 (rem link 2)) (add .i64 1 (cvt .i64 (rem timeout 20))) (cvt .i64 (rem retries 6)) = true := by
  obtain ⟨e1, e2, e3⟩ := beg_rng h1 h2 h3
  rw [e1, e2, e3]
  exact decide_eq_true ⟨⟨by omega, by omega⟩, by omega, ⟨by omega, by omega⟩, by omega, by omega⟩
theorem begP_V {link timeout retries : Int} (h1 : 0 ≤ link) (h2 : 0 ≤ timeout) (h3 : 0 ≤ retries) : Vp (begP link timeout retries) :=
  ⟨rangesV_ok (beg_ok h1 h2 h3), fun h => (by cases h), fun _ => ⟨rfl, rfl, rfl⟩⟩
theorem begun_eq {link timeout retries : Int} (h1 : 0 ≤ link) (h2 : 0 ≤ timeout) (h3 : 0 ≤ retries) : law22_begun (link, timeout, retries, ()) = some (begP link timeout retries, true, ()) := by
  show law22_begun_m0 link timeout retries = _
  unfold law22_begun_m0
  rw [new_eq, if_pos (beg_ok h1 h2 h3)]
  rfl
abbrev mk2 (l : List TO) (n i : Int) (q : TP) :=
  (l, n, i, q.1, q.2.1, q.2.2.1, q.2.2.2.1, q.2.2.2.2.1, q.2.2.2.2.2.1.1, q.2.2.2.2.2.1.2.1, q.2.2.2.2.2.1.2.2.1, q.2.2.2.2.2.1.2.2.2.1, q.2.2.2.2.2.1.2.2.2.2.1, q.2.2.2.2.2.1.2.2.2.2.2, q.2.2.2.2.2.2.1, q.2.2.2.2.2.2.2.1, q.2.2.2.2.2.2.2.2)
theorem once_law {link timeout retries : Int} {l : List TO} (h1 : 0 ≤ link) (h2 : 0 ≤ timeout) (h3 : 0 ≤ retries) (hl : ∀ x ∈ l, Rw.okV tO x) : law22_PollOnce (link, timeout, retries, l, ()) = some (true, ()) := by
  show law22_PollOnce_m0 law22_PollOnce_K1 link timeout retries l = _
  unfold law22_PollOnce_m0
  have hV := begP_V h1 h2 h3
  rw [begun_eq h1 h2 h3, Option.bind_some]
  have ec : cut l 0 (if lt 80 (Int.ofNat l.length) = true then 80 else Int.ofNat l.length) = some (l.take 80) := by
    by_cases h : 80 < l.length
    · rw [if_pos (by rw [lt_iff, ofNat_eq]; omega)]
      exact cut_to (j := 80) (by omega)
    · rw [if_neg (by rw [lt_iff, ofNat_eq]; omega), ofNat_eq, cut_to (Nat.le_refl _), List.take_length, List.take_of_length_le (by omega)]
  rw [ec, Option.bind_some, if_neg (by show ¬ (!true) = true; decide), fewO_eq (by simp; omega), Option.bind_some]
  have hl' : ∀ x ∈ l.take 80, Rw.okV tO x := fun x hx => hl x (List.mem_of_mem_take hx)
  have hlen : (l.take 80).length ≤ 80 := by simp; omega
  revert hl' hlen
  generalize l.take 80 = l'
  intro hl' hlen
  generalize hP : begP link timeout retries = p at hV
  show ap14 (law22_PollOnce_K1 l' true (!(l'.all okO && decide ((l'.length : Int) ≤ 80)))) p = _
  unfold law22_PollOnce_K1 law22_PollOnce_m1
  dsimp only [ap14]
  rw [decide_eq_true (by omega), Bool.and_true]
  cases hall : l'.all okO with
  | false =>
    rw [if_pos (by decide), if_pos rfl, awake22]
    rfl
  | true =>
    rw [if_neg (by decide)]
    have hok : ∀ x ∈ l', OkO x := fun x hx => okO_of (hl' x hx) (List.all_eq_true.1 hall x hx)
    rw [law22_PollOnce_K2_Ke]
    have hs : ∀ (self : _ → Option (As [.bool])) (i : Nat) (q : TP) (x : TO), l'[i]? = some x → Vp q → law22_PollOnce_K2_F self (mk2 l' (Int.ofNat l'.length) (i : Int) q) = self (mk2 l' (Int.ofNat l'.length) ((i + 1 : Nat) : Int) (nextP q x)) := by
      intro self i q x hx hq
      have hi := (List.getElem?_eq_some_iff.1 hx).1
      rw [law22_PollOnce_K2_Fe]
      have h := once_step (s := fun t49 t50 t51 p p_2 p_3 p_4 p_5 p_6 p_7 p_8 p_9 p_10 p_11 p_12 p_13 p_14 => self (t49, t50, t51, p, p_2, p_3, p_4, p_5, p_6, p_7, p_8, p_9, p_10, p_11, p_12, p_13, p_14)) hx (hok x (List.mem_of_getElem? hx)) hq
      rw [succ64 (by omega)] at h
      exact h
    have he : ∀ (self : _ → Option (As [.bool])) (q : TP), Vp q → law22_PollOnce_K2_F self (mk2 l' (Int.ofNat l'.length) (l'.length : Int) q) = some (true, ()) := by
      intro self q hq
      rw [law22_PollOnce_K2_Fe]
      unfold law22_PollOnce_m2
      rw [if_neg (by rw [lt_iff, ofNat_eq]; omega), awake22]
      rfl
    exact loop_idx (F := law22_PollOnce_K2_F) (xs := l') (mk := fun i q => mk2 l' (Int.ofNat l'.length) (i : Int) q) (stp := nextP) (fin := fun _ => some (true, ())) (fun _ q => Vp q) hs (fun i q x hx hq => hq.next (hok x (List.mem_of_getElem? hx))) he l'.length 0 p 18446744073709551616 (by omega) (by omega) hV
theorem once_row (x : As [.int .u8, .int .u8, .int .u8, .sl tO]) (h : Rw.okA [.int .u8, .int .u8, .int .u8, .sl tO] x) : law22_PollOnce x = some (true, ()) :=
  once_law (link := x.1) (timeout := x.2.1) (retries := x.2.2.1) (l := x.2.2.2.1) (ok8 h.1).1 (ok8 h.2.1).1 (ok8 h.2.2.1).1 h.2.2.2.1.2
end Go.Proofs.Lx

end
