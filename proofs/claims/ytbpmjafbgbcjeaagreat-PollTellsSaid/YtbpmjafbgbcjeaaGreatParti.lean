/- Proved in the last of these 11 parts (this is part 9): for every input PollTells returns true: what becomes of a poll, what it sends and which reply it takes, by requests, frames, ticks and drops, and which ones are right, are what the document's answer says. Conditions: those of the given statement, and no others. -/
import Derived.Test.YtbpmjafbgbcjeaaGreatParth
import Derived.Test.YtbpmjafbgbcjeaaGreatPartd
set_option linter.unusedVariables false
set_option linter.unusedSimpArgs false
set_option linter.unusedSectionVars false
section
/- Replies: which are right, their bytes, and which one bytes are. -/
namespace Pl
open Go Ev Sx
theorem shl8 {y : Int} (h0 : 0 ≤ y) (h1 : y ≤ 255) : shl .u16 (cvt .u16 y) 8 = 256 * y := by
  rw [cvt16]
  unfold shl
  have : min (8 : Int).toNat IntKind.u16.bits = 8 := by decide
  rw [this, wr16]
  omega
theorem bor_hi {a b : Int} (ha : 0 ≤ a) (ha2 : a ≤ 255) (hb : 0 ≤ b) (hb' : b ≤ 255) : bor .u16 (256 * a) b = 256 * a + b := by
  obtain ⟨n, rfl⟩ := Int.eq_ofNat_of_zero_le ha
  obtain ⟨m, rfl⟩ := Int.eq_ofNat_of_zero_le hb
  unfold bor
  rw [wr16]
  have e1 : (BitVec.ofInt IntKind.u16.bits (256 * (n : Int))).toNat = 256 * n := by
    rw [BitVec.toNat_ofInt]
    have : ((2 ^ IntKind.u16.bits : Nat) : Int) = 65536 := by decide
    rw [this]
    omega
  have e2 : (BitVec.ofInt IntKind.u16.bits (m : Int)).toNat = m := by
    rw [BitVec.toNat_ofInt]
    have : ((2 ^ IntKind.u16.bits : Nat) : Int) = 65536 := by decide
    rw [this]
    omega
  rw [BitVec.toNat_or, e1, e2]
  have e3 : 256 * n ||| m = 256 * n + m := by
    have := Nat.two_pow_add_eq_or_of_lt (i := 8) (b := m) (by omega) n
    rw [show (2 : Nat) ^ 8 = 256 from rfl] at this
    exact this.symm
  rw [e3]
  omega
theorem bor_comm {a b : Int} : bor .u16 a b = bor .u16 b a := by
  unfold bor
  rw [BitVec.or_comm]
def numV (y z : Int) : Int := bor .u16 (shl .u16 (cvt .u16 y) 8) (cvt .u16 z)
theorem numV_rng (y z : Int) : 0 ≤ numV y z ∧ numV y z < 65536 := u16_rng _
theorem numV_eq {y z : Int} (h0 : 0 ≤ y) (h1 : y ≤ 255) (h2 : 0 ≤ z) (h3 : z ≤ 255) : numV y z = 256 * y + z := by
  unfold numV
  rw [shl8 h0 h1, cvt16]
  have : z % 65536 = z := by omega
  rw [this, bor_hi h0 h1 h2 h3]
def listS (b : List Int) : List Int := (List.range (b.length / 2)).map fun i => numV (b.getD (2 * i) 0) (b.getD (2 * i + 1) 0)
end Pl
namespace Go.Proofs.Lx
open Go Ev Sx Pl
set_option maxRecDepth 100000
abbrev TR := Int × Int × List Bool × List Int × Int × Int
instance decR5 : DecidableEq (Int × List Bool × List Int × Int × Int) := inferInstance
instance decR : DecidableEq TR := inferInstance
def zR : TR := (0, 0, [], [], 0, 0)
structure SmR (r : TR) : Prop where
  b : r.2.2.1.length ≤ 100000
  w : r.2.2.2.1.length ≤ 100000
theorem zR_sm : SmR zR := ⟨by decide, by decide⟩
theorem sameR_eq {a b : TR} (h : SmR a) : reply_Same (a, b, ()) = some (decide (a = b), ()) := by
  show reply_Same_m0 a b = _
  unfold reply_Same_m0
  have h1 := h.b
  have h2 := h.w
  rw [equalW_eq (by omega), Option.bind_some, equalB_eq (by omega), Option.bind_some]
  obtain ⟨a1, a2, a3, a4, a5, a6⟩ := a
  obtain ⟨b1, b2, b3, b4, b5, b6⟩ := b
  rw [if_dec (eqi_iff) fun _ => if_dec (eqi_iff) fun _ => if_dec (eqi_iff) fun _ => if_dec (eqi_iff) fun _ => if_dec (p := a3 = b3) (by simp) fun _ => rfl]
  refine congrArg (fun x => some (x, ())) ?_
  rw [Bool.eq_iff_iff]
  simp only [Bool.and_eq_true, decide_eq_true_eq, Prod.ext_iff]
  constructor
  · rintro ⟨h1, h2, h3, h4, h5, h6⟩; exact ⟨h1, h2, h5, h6, h3, h4⟩
  · rintro ⟨h1, h2, h5, h6, h3, h4⟩; exact ⟨h1, h2, h3, h4, h5, h6⟩
/-! ### which are right -/
def exR (r : TR) : Bool := decide (r.1 < 128) && (decide (1 ≤ r.2.1) && (decide (r.2.1 ≤ 4) && decide (r = (rem r.1 128, r.2.1, [], [], 0, 0))))
def bitR (r : TR) : Bool := decide (8 ≤ r.2.2.1.length) && (decide (r.2.2.1.length ≤ 2000) && (decide (r.2.2.1.length % 8 = 0) && decide (r = (r.1, 0, r.2.2.1, [], 0, 0))))
def wordR (r : TR) : Bool := decide (1 ≤ r.2.2.2.1.length) && (decide (r.2.2.2.1.length ≤ 125) && decide (r = (r.1, 0, [], r.2.2.2.1, 0, 0)))
def obR (r : TR) : Bool := decide (r.2.2.1.length = 1) && decide (r = (r.1, 0, r.2.2.1, [], r.2.2.2.2.1, 0))
def owR (r : TR) : Bool := decide (r.2.2.2.1.length = 1) && decide (r = (r.1, 0, [], r.2.2.2.1, r.2.2.2.2.1, 0))
def ctR (k : Int) (r : TR) : Bool := decide (1 ≤ r.2.2.2.2.2) && (decide (r.2.2.2.2.2 ≤ k) && decide (r = (r.1, 0, [], [], r.2.2.2.2.1, r.2.2.2.2.2)))
theorem exR_eq {r : TR} (h : SmR r) : reply_exception_right ((), r, ()) = some (exR r, ()) := by
  show reply_exception_right_m0 () r = _
  unfold reply_exception_right_m0 exR
  have e : reply_Wrong (r.1, r.2.1, ()) = some ((rem r.1 128, r.2.1, [], [], 0, 0), ()) := rfl
  rw [e, Option.bind_some, sameR_eq h, Option.bind_some]
  rw [if_dec (lt_iff) fun _ => if_dec (ge_iff) fun _ => if_dec (le_iff) fun _ => rfl]
theorem bitR_eq {r : TR} (h : SmR r) : reply_bitList_right ((), r, ()) = some (bitR r, ()) := by
  show reply_bitList_right_m0 () r = _
  unfold reply_bitList_right_m0 bitR
  rw [sameR_eq h, Option.bind_some]
  rw [if_dec (p := 8 ≤ r.2.2.1.length) (by rw [ge_iff, ofNat_eq]; omega) fun _ => if_dec (p := r.2.2.1.length ≤ 2000) (by rw [le_iff, ofNat_eq]; omega) fun _ => if_dec (p := r.2.2.1.length % 8 = 0) (by rw [eqi_iff, ofNat_eq]; omega) fun _ => rfl]
theorem wordR_eq {r : TR} (h : SmR r) : reply_wordList_right ((), r, ()) = some (wordR r, ()) := by
  show reply_wordList_right_m0 () r = _
  unfold reply_wordList_right_m0 wordR
  rw [sameR_eq h, Option.bind_some]
  rw [if_dec (p := 1 ≤ r.2.2.2.1.length) (by rw [ge_iff, ofNat_eq]; omega) fun _ => if_dec (p := r.2.2.2.1.length ≤ 125) (by rw [le_iff, ofNat_eq]; omega) fun _ => rfl]
theorem obR_eq {r : TR} (h : SmR r) : reply_oneBit_right ((), r, ()) = some (obR r, ()) := by
  show reply_oneBit_right_m0 () r = _
  unfold reply_oneBit_right_m0 obR
  rw [sameR_eq h, Option.bind_some]
  rw [if_dec (p := r.2.2.1.length = 1) (by rw [eqi_iff, ofNat_eq]; omega) fun _ => rfl]
theorem owR_eq {r : TR} (h : SmR r) : reply_oneWord_right ((), r, ()) = some (owR r, ()) := by
  show reply_oneWord_right_m0 () r = _
  unfold reply_oneWord_right_m0 owR
  rw [sameR_eq h, Option.bind_some]
  rw [if_dec (p := r.2.2.2.1.length = 1) (by rw [eqi_iff, ofNat_eq]; omega) fun _ => rfl]
theorem ctR_eq {r : TR} {k : Int} (h : SmR r) : reply_count_right (k, r, ()) = some (ctR k r, ()) := by
  show reply_count_right_m0 k r = _
  unfold reply_count_right_m0 ctR
  rw [sameR_eq h, Option.bind_some]
  rw [if_dec (ge_iff) fun _ => if_dec (le_iff) fun _ => rfl]
def rightR (r : TR) : Bool := if nei r.2.1 0 = true then exR r else if eqi r.1 1 = true then bitR r else if eqi r.1 2 = true then bitR r else if eqi r.1 3 = true then wordR r else if eqi r.1 4 = true then wordR r else if eqi r.1 23 = true then wordR r else
  if eqi r.1 5 = true then obR r else if eqi r.1 6 = true then owR r else if eqi r.1 15 = true then ctR 1968 r else if eqi r.1 16 = true then ctR 123 r else false
theorem rightR_eq {r : TR} (h : SmR r) : reply_Right (r, ()) = some (rightR r, ()) := by
  show reply_Right_m0 r = _
  unfold reply_Right_m0 rightR
  rw [exR_eq h, bitR_eq h, wordR_eq h, obR_eq h, owR_eq h, ctR_eq h, ctR_eq h]
  simp only [Option.bind_some]
  repeat (first | rfl | split)
/-! ### their bytes -/
def exB (r : TR) : List Int := [add .u8 r.1 128, r.2.1]
def bitB (r : TR) : List Int := r.1 :: (packN r.2.2.1.length : Int) % 256 :: packS r.2.2.1
def wordB (r : TR) : List Int := [r.1, 2 * (r.2.2.2.1.length : Int) % 256] ++ r.2.2.2.1.flatMap two
def obB (r : TR) : List Int := r.1 :: two r.2.2.2.2.1 ++ two (if r.2.2.1.headD false = true then 65280 else 0)
def owB (r : TR) : List Int := r.1 :: two r.2.2.2.2.1 ++ two (r.2.2.2.1.headD 0)
def ctB (r : TR) : List Int := r.1 :: two r.2.2.2.2.1 ++ two r.2.2.2.2.2
theorem rnumbers_eq {l out : List Int} (h : out.length + 2 * l.length ≤ 1000000) : reply_numbers (l, out, ()) = some (out ++ l.flatMap two, ()) := by
  show reply_numbers_m0 reply_numbers_K1 l out = _
  unfold reply_numbers_m0 reply_numbers_K1
  refine (loop_idx (xs := l) (mk := fun i acc => (l, Int.ofNat l.length, (i : Int), acc)) (stp := fun o y => o ++ two y) (fin := fun acc => some (acc, ())) (fun i acc => acc.length ≤ out.length + 2 * i) ?_ ?_ ?_ l.length 0 out _ (by omega) (by omega) (by omega)).trans ?_
  · intro self i acc x hx hI
    have hi := (List.getElem?_eq_some_iff.1 hx).1
    show reply_numbers_m1 _ l (Int.ofNat l.length) (i : Int) acc = _
    unfold reply_numbers_m1
    rw [if_pos (by rw [lt_iff, ofNat_eq]; omega), at_get hx, Option.bind_some, need_small (by omega), two_eq, succ64 (by omega)]
  · intro i acc x hx hI
    simp [two]
    omega
  · intro self acc _
    show reply_numbers_m1 _ l (Int.ofNat l.length) (l.length : Int) acc = _
    unfold reply_numbers_m1
    rw [if_neg (by rw [lt_iff, ofNat_eq]; omega)]
  · rw [List.drop_zero, foldl_app]
theorem exB_eq (r : TR) : reply_exception_write ((), r, ()) = some (exB r, ()) := rfl
theorem bitB_eq {r : TR} (h : SmR r) : reply_bitList_write ((), r, ()) = some (bitB r, ()) := by
  show reply_bitList_write_m0 () r = _
  unfold reply_bitList_write_m0
  have hb := h.b
  rw [pack_eq hb, Option.bind_some, need_small (by rw [packS_len]; unfold packN; omega), packS_len]
  rfl
theorem wordB_eq {r : TR} (h : SmR r) : reply_wordList_write ((), r, ()) = some (wordB r, ()) := by
  show reply_wordList_write_m0 () r = _
  unfold reply_wordList_write_m0
  have hw := h.w
  rw [mul64 (by rw [ofNat_eq]; omega) (by rw [ofNat_eq]; omega), cvt8, rnumbers_eq (by simp; omega), Option.bind_some]
  rfl
theorem obB_eq {r : TR} (h : obR r = true) : reply_oneBit_write ((), r, ()) = some (obB r, ()) := by
  unfold obR at h
  rw [Bool.and_eq_true] at h
  obtain ⟨x, hx⟩ := List.length_eq_one_iff.1 (of_decide_eq_true h.1)
  show reply_oneBit_write_m0 reply_oneBit_write_K1 () r = _
  unfold reply_oneBit_write_m0
  rw [hx, at_zero, Option.bind_some]
  have key : ∀ (v : Int) (r2 : Int) (r3 : List Bool) (r4 : List Int) (r6 : Int), reply_oneBit_write_K1 v r.1 r2 r3 r4 r.2.2.2.2.1 r6 = some (r.1 :: two r.2.2.2.2.1 ++ two v, ()) := fun v r2 r3 r4 r6 => by
    unfold reply_oneBit_write_K1 reply_oneBit_write_m1
    rw [rnumbers_eq (by simp), Option.bind_some]
    simp
  unfold obB
  rw [hx]
  cases x with
  | true => rw [if_pos rfl, key]; rfl
  | false => rw [if_neg (by decide), key]; rfl
theorem amb_same {R : Type} {eq : R → R → Bool} (h : ∀ x, eq x x = true) (o : R) : amb eq [some o, some o] = some o := by
  show (if eq o o = true then some o else none) = _
  rw [if_pos (h o)]
theorem eqAs_refl : ∀ (rs : List Ty) (x : As rs), eqAs rs x x = true
  | [], _ => rfl
  | t :: r, x => by
    show (eqV t x.1 x.1 && eqAs r x.2 x.2) = true
    rw [eqV_refl, eqAs_refl r]
    rfl
theorem owB_eq {r : TR} (h : owR r = true) : reply_oneWord_write ((), r, ()) = some (owB r, ()) := by
  unfold owR at h
  rw [Bool.and_eq_true] at h
  obtain ⟨x, hx⟩ := List.length_eq_one_iff.1 (of_decide_eq_true h.1)
  show reply_oneWord_write_m0 () r = _
  unfold reply_oneWord_write_m0
  rw [hx, at_zero, Option.bind_some, rnumbers_eq (by simp), Option.bind_some, amb_same (eqAs_refl _)]
  unfold owB
  rw [hx]
  simp
theorem ctB_eq (k : Int) (r : TR) : reply_count_write (k, r, ()) = some (ctB r, ()) := by
  show reply_count_write_m0 k r = _
  unfold reply_count_write_m0
  rw [rnumbers_eq (by simp), Option.bind_some]
  simp [ctB]
/-! ### what bytes may be -/
theorem rlist_eq {b : List Int} (h : b.length ≤ 100000) : reply_list (b, ()) = some (listS b, ()) := by
  show reply_list_m0 reply_list_K1 b = _
  unfold reply_list_m0
  have hq : quo .i64 (Int.ofNat b.length) 2 = ((b.length / 2 : Nat) : Int) := quo_nat (d := 2) (by omega)
  rw [hq, need_t (by rw [ge_iff]; omega), need_t (capOk_self _), Int.toNat_natCast, need_small (by omega), List.length_replicate]
  unfold reply_list_K1 listS
  refine (loop_det (mk := fun i => (b, Int.ofNat (b.length / 2), (i : Int), (List.range i).map (fun i => numV (b.getD (2 * i) 0) (b.getD (2 * i + 1) 0)) ++ (List.replicate (b.length / 2) (0 : Int)).drop i)) (N := b.length / 2) ?_ ?_ (b.length / 2) 0 _ (by omega) (by omega))
  · intro self i hi
    show reply_list_m1 _ b (Int.ofNat (b.length / 2)) (i : Int) _ = _
    unfold reply_list_m1
    have hm : mul .i64 2 (i : Int) = ((2 * i : Nat) : Int) := by
      rw [mul64 (by omega) (by omega)]
      simp
    have h1 : b[2 * i]? = some (b[2 * i]'(by omega)) := List.getElem?_eq_getElem (by omega)
    have h2 : b[2 * i + 1]? = some (b[2 * i + 1]'(by omega)) := List.getElem?_eq_getElem (by omega)
    have ho : ((List.range i).map (fun i => numV (b.getD (2 * i) 0) (b.getD (2 * i + 1) 0)) ++ (List.replicate (b.length / 2) (0 : Int)).drop i)[i]? = some (((List.range i).map (fun i => numV (b.getD (2 * i) 0) (b.getD (2 * i + 1) 0)) ++ (List.replicate (b.length / 2) (0 : Int)).drop i)[i]'(by simp; omega)) := List.getElem?_eq_getElem (by simp; omega)
    rw [if_pos (by rw [lt_iff, ofNat_eq]; omega), hm, succ64 (by omega), at_get h1, at_get h2, at_get ho, succ64 (by omega), Int.toNat_natCast]
    simp only [Option.bind_some]
    have e : bor .u16 (shl .u16 (cvt .u16 (b[2 * i]'(by omega))) 8) (cvt .u16 (b[2 * i + 1]'(by omega))) = numV (b.getD (2 * i) 0) (b.getD (2 * i + 1) 0) := by
      rw [List.getD_eq_getElem?_getD, List.getD_eq_getElem?_getD, h1, h2]
      rfl
    rw [e, fill_step (f := fun i => numV (b.getD (2 * i) 0) (b.getD (2 * i + 1) 0)) (by simp; omega)]
  · intro self
    show reply_list_m1 _ b (Int.ofNat (b.length / 2)) ((b.length / 2 : Nat) : Int) _ = _
    unfold reply_list_m1
    rw [if_neg (by rw [lt_iff, ofNat_eq]; omega), List.drop_of_length_le (by simp), List.append_nil]
end Go.Proofs.Lx

end

section
/- Which reply bytes are; which replies fit. -/
namespace Go.Proofs.Lx
open Go Ev Sx Pl
set_option maxRecDepth 100000
theorem listS_len (b : List Int) : (listS b).length = b.length / 2 := by simp [listS]
theorem unpackS_len (b : List Int) : (unpackS b).length = 8 * b.length := by simp [unpackS]
def exC (x y : Int) : TR := (rem x 128, y, [], [], 0, 0)
def bitC (x : Int) (r : List Int) : TR := (x, 0, unpackS r, [], 0, 0)
def wordC (x : Int) (r : List Int) : TR := (x, 0, [], listS r, 0, 0)
/-- two numbers behind the function -/
def pairC (f : Int → Int → TR) (r : List Int) : TR := match listS r with
  | p :: q :: _ => f p q
  | _ => zR
def obC (x : Int) : List Int → TR := pairC fun p q => (x, 0, [eqi q 65280], [], p, 0)
def owC (x : Int) : List Int → TR := pairC fun p q => (x, 0, [], [q], p, 0)
def ctC (x : Int) : List Int → TR := pairC fun p q => (x, 0, [], [], p, q)
theorem cut_tail {α : Type} (x : α) (r : List α) : cut (x :: r) 1 (Int.ofNat (x :: r).length) = some r := cut_one x r
theorem cut_two {α : Type} (x y : α) (r : List α) : cut (x :: y :: r) 2 (Int.ofNat (x :: y :: r).length) = some r := by
  have := cut_from (xs := x :: y :: r) (i := 2) (by simp)
  simpa using this
theorem exC_eq (x y : Int) (r : List Int) : reply_exception_read ((), x :: y :: r, ()) = some (exC x y, ()) := rfl
theorem bitC_eq (x y : Int) {r : List Int} (h : r.length ≤ 1000) : reply_bitList_read ((), x :: y :: r, ()) = some (bitC x r, ()) := by
  show reply_bitList_read_m0 () (x :: y :: r) = _
  unfold reply_bitList_read_m0
  rw [at_zero, Option.bind_some, cut_two, Option.bind_some, unpack_eq (by omega), Option.bind_some]
  rfl
theorem wordC_eq (x y : Int) {r : List Int} (h : r.length ≤ 1000) : reply_wordList_read ((), x :: y :: r, ()) = some (wordC x r, ()) := by
  show reply_wordList_read_m0 () (x :: y :: r) = _
  unfold reply_wordList_read_m0
  rw [at_zero, Option.bind_some, cut_two, Option.bind_some, rlist_eq (by omega), Option.bind_some]
  rfl
theorem pair_cases (l : List Int) : (l.length < 2 ∧ ∀ (f : Int → Int → TR), (match l with | p :: q :: _ => f p q | _ => zR) = zR) ∨ ∃ p q r, l = p :: q :: r := by
  match l with
  | [] => exact .inl ⟨by decide, fun _ => rfl⟩
  | [_] => exact .inl ⟨by show 1 < 2; decide, fun _ => rfl⟩
  | p :: q :: r => exact .inr ⟨p, q, r, rfl⟩
theorem at_one {α : Type} (p q : α) (r : List α) : at? (p :: q :: r) 1 = some q := rfl
theorem obC_eq (x : Int) {r : List Int} (h : r.length ≤ 1000) : reply_oneBit_read ((), x :: r, ()) = some (obC x r, ()) := by
  show reply_oneBit_read_m0 () (x :: r) = _
  unfold reply_oneBit_read_m0 obC pairC
  rw [cut_tail, Option.bind_some, rlist_eq (by omega), Option.bind_some]
  rcases pair_cases (listS r) with ⟨h1, h2⟩ | ⟨p, q, s, h1⟩
  · dsimp only
    rw [h2, if_pos (by rw [lt_iff, ofNat_eq]; omega)]
    rfl
  · dsimp only
    rw [h1, if_neg (by rw [lt_iff, ofNat_eq]; simp; omega), at_zero, at_zero, at_one]
    rfl
theorem owC_eq (x : Int) {r : List Int} (h : r.length ≤ 1000) : reply_oneWord_read ((), x :: r, ()) = some (owC x r, ()) := by
  show reply_oneWord_read_m0 () (x :: r) = _
  unfold reply_oneWord_read_m0 owC pairC
  rw [cut_tail, Option.bind_some, rlist_eq (by omega), Option.bind_some]
  rcases pair_cases (listS r) with ⟨h1, h2⟩ | ⟨p, q, s, h1⟩
  · dsimp only
    rw [h2, if_pos (by rw [lt_iff, ofNat_eq]; omega)]
    rfl
  · dsimp only
    rw [h1, if_neg (by rw [lt_iff, ofNat_eq]; simp; omega), at_zero, at_zero, at_one]
    rfl
theorem ctC_eq (k : Int) (x : Int) {r : List Int} (h : r.length ≤ 1000) : reply_count_read (k, x :: r, ()) = some (ctC x r, ()) := by
  show reply_count_read_m0 k (x :: r) = _
  unfold reply_count_read_m0 ctC pairC
  rw [cut_tail, Option.bind_some, rlist_eq (by omega), Option.bind_some]
  rcases pair_cases (listS r) with ⟨h1, h2⟩ | ⟨p, q, s, h1⟩
  · dsimp only
    rw [h2, if_pos (by rw [lt_iff, ofNat_eq]; omega)]
    rfl
  · dsimp only
    rw [h1, if_neg (by rw [lt_iff, ofNat_eq]; simp; omega), at_zero, at_zero, at_one]
    rfl
theorem pairC_sm {f : Int → Int → TR} (h : ∀ p q, SmR (f p q)) (r : List Int) : SmR (pairC f r) := by
  unfold pairC
  split
  · exact h _ _
  · exact zR_sm
def chkV (b : List Int) (c : TR) (ok : Bool) (w : List Int) : TR × Int := if ok = true then if eqs (toS w) (toS b) = true then (c, 0) else (zR, 13) else (zR, 13)
theorem chk_eq {b : List Int} {c : TR} {ok : Bool} {w : List Int} {rd : Option (TR × Unit)} {rt : TR → Option (Bool × Unit)} {wt : TR → Option (List Int × Unit)} (h1 : rd = some (c, ())) (h2 : rt c = some (ok, ())) (h3 : ok = true → wt c = some (w, ())) :
    (Option.bind rd fun y => Option.bind (rt y.1) fun y_1 => if (!y_1.1) = true then some ((0, 0, [], [], 0, 0), 13, ()) else Option.bind (wt y.1) fun y_2 => Option.bind (bytes_Equal (y_2.1, b, ())) fun y_3 => if (!y_3.1) = true then some ((0, 0, [], [], 0, 0), 13, ()) else (some (y.1, 0, ()) : Option (TR × Int × Unit))) = some ((chkV b c ok w).1, (chkV b c ok w).2, ()) := by
  rw [h1, Option.bind_some, h2, Option.bind_some]
  unfold chkV
  cases ok with
  | false => rfl
  | true =>
    rw [if_neg (by decide), h3 rfl, Option.bind_some, if_pos rfl]
    show Option.bind (some (eqs (toS w) (toS b), ())) _ = _
    rw [Option.bind_some]
    cases eqs (toS w) (toS b) <;> rfl
theorem if_pair {c : Prop} [Decidable c] {A B : Option (TR × Int × Unit)} {a b : TR × Int} (h1 : A = some (a.1, a.2, ())) (h2 : B = some (b.1, b.2, ())) : (if c then A else B) = some ((if c then a else b).1, (if c then a else b).2, ()) := by
  by_cases h : c
  · rw [if_pos h, if_pos h, h1]
  · rw [if_neg h, if_neg h, h2]
def parseQ (x y : Int) (r : List Int) : TR × Int := if 251 < r.length then (zR, 13) else if lt x 128 = true then
      if eqi x 1 = true then chkV (x :: y :: r) (bitC x r) (bitR (bitC x r)) (bitB (bitC x r)) else if eqi x 2 = true then chkV (x :: y :: r) (bitC x r) (bitR (bitC x r)) (bitB (bitC x r)) else
      if eqi x 3 = true then chkV (x :: y :: r) (wordC x r) (wordR (wordC x r)) (wordB (wordC x r)) else if eqi x 4 = true then chkV (x :: y :: r) (wordC x r) (wordR (wordC x r)) (wordB (wordC x r)) else
      if eqi x 23 = true then chkV (x :: y :: r) (wordC x r) (wordR (wordC x r)) (wordB (wordC x r)) else if eqi x 5 = true then chkV (x :: y :: r) (obC x (y :: r)) (obR (obC x (y :: r))) (obB (obC x (y :: r))) else
      if eqi x 6 = true then chkV (x :: y :: r) (owC x (y :: r)) (owR (owC x (y :: r))) (owB (owC x (y :: r))) else if eqi x 15 = true then chkV (x :: y :: r) (ctC x (y :: r)) (ctR 1968 (ctC x (y :: r))) (ctB (ctC x (y :: r))) else
      if eqi x 16 = true then chkV (x :: y :: r) (ctC x (y :: r)) (ctR 123 (ctC x (y :: r))) (ctB (ctC x (y :: r))) else (zR, 13)
    else chkV (x :: y :: r) (exC x y) (exR (exC x y)) (exB (exC x y))
def parseR : List Int → TR × Int
  | x :: y :: r => parseQ x y r
  | _ => (zR, 13)
theorem parse_eq (b : List Int) : reply_Parse (b, ()) = some ((parseR b).1, (parseR b).2, ()) := by
  show reply_Parse_m0 reply_Parse_K1 b = _
  unfold reply_Parse_m0
  match b with
  | [] => rfl
  | [_] => rfl
  | x :: y :: r =>
    rw [if_neg (by rw [lt_iff, ofNat_eq]; simp; omega)]
    show _ = some ((parseQ x y r).1, (parseQ x y r).2, ())
    unfold reply_Parse_K1 reply_Parse_m1 parseQ
    by_cases hl : 251 < r.length
    · rw [if_pos (by rw [gt_iff, ofNat_eq]; simp; omega), if_pos hl]
      rfl
    · rw [if_neg (by rw [gt_iff, ofNat_eq]; simp; omega), if_neg hl, at_zero, Option.bind_some, Option.bind_some]
      have sb : SmR (bitC x r) := ⟨by show (unpackS r).length ≤ _; rw [unpackS_len]; omega, by show 0 ≤ 100000; decide⟩
      have sw : SmR (wordC x r) := ⟨by show 0 ≤ 100000; decide, by show (listS r).length ≤ _; rw [listS_len]; omega⟩
      have so : SmR (obC x (y :: r)) := pairC_sm (fun p q => ⟨by show 1 ≤ 100000; decide, by show 0 ≤ 100000; decide⟩) _
      have su : SmR (owC x (y :: r)) := pairC_sm (fun p q => ⟨by show 0 ≤ 100000; decide, by show 1 ≤ 100000; decide⟩) _
      have sc : SmR (ctC x (y :: r)) := pairC_sm (fun p q => ⟨by show 0 ≤ 100000; decide, by show 0 ≤ 100000; decide⟩) _
      have se : SmR (exC x y) := ⟨by show 0 ≤ 100000; decide, by show 0 ≤ 100000; decide⟩
      have hr : (y :: r).length ≤ 1000 := by simp; omega
      have kb := chk_eq (b := x :: y :: r) (rt := fun c => reply_bitList_right ((), c, ())) (wt := fun c => reply_bitList_write ((), c, ())) (bitC_eq x y (by omega)) (bitR_eq sb) (fun _ => bitB_eq sb)
      have kw := chk_eq (b := x :: y :: r) (rt := fun c => reply_wordList_right ((), c, ())) (wt := fun c => reply_wordList_write ((), c, ())) (wordC_eq x y (by omega)) (wordR_eq sw) (fun _ => wordB_eq sw)
      have ko := chk_eq (b := x :: y :: r) (rt := fun c => reply_oneBit_right ((), c, ())) (wt := fun c => reply_oneBit_write ((), c, ())) (obC_eq x hr) (obR_eq so) (fun h => obB_eq h)
      have ku := chk_eq (b := x :: y :: r) (rt := fun c => reply_oneWord_right ((), c, ())) (wt := fun c => reply_oneWord_write ((), c, ())) (owC_eq x hr) (owR_eq su) (fun h => owB_eq h)
      have kc := fun k => chk_eq (b := x :: y :: r) (rt := fun c => reply_count_right (k, c, ())) (wt := fun c => reply_count_write (k, c, ())) (ctC_eq k x hr) (ctR_eq sc) (fun _ => ctB_eq k _)
      have ke := chk_eq (b := x :: y :: r) (rt := fun c => reply_exception_right ((), c, ())) (wt := fun c => reply_exception_write ((), c, ())) (exC_eq x y r) (exR_eq se) (fun _ => exB_eq _)
      exact if_pair (if_pair kb (if_pair kb (if_pair kw (if_pair kw (if_pair kw (if_pair ko (if_pair ku (if_pair (kc _) (if_pair (kc _) rfl))))))))) ke
end Go.Proofs.Lx

end

section
/- Frames that are read; which replies are taken. -/
namespace Go.Proofs.Lx
open Go Ev Sx Pl
set_option maxRecDepth 100000
def cutV (b : List Int) : List Int × Int :=
  if b.length < 2 then ([], 10) else
  if sumV (b.take (b.length - 2)) = numV (b.getD (b.length - 1) 0) (b.getD (b.length - 2) 0) then (b.take (b.length - 2), 0) else ([], 11)
theorem fill_all {α : Type} {z : α} {n : Nat} {y : List α} (h : y.length = n) : [] ++ List.take (Int.toNat (Int.ofNat (List.length (List.replicate n z)))) y ++ List.drop (0 + List.length (List.take (Int.toNat (Int.ofNat (List.length (List.replicate n z)))) y)) (List.replicate n z) = y := by
  rw [List.length_replicate, ofNat_eq, Int.toNat_natCast, List.take_of_length_le (by omega), List.drop_of_length_le (by simp; omega)]
  simp
theorem fill_take {α : Type} {z : α} {n : Nat} {y : List α} (h : n ≤ y.length) : [] ++ List.take (Int.toNat (Int.ofNat (List.length (List.replicate n z)))) y ++ List.drop (0 + List.length (List.take (Int.toNat (Int.ofNat (List.length (List.replicate n z)))) y)) (List.replicate n z) = y.take n := by
  rw [List.length_replicate, ofNat_eq, Int.toNat_natCast, List.drop_of_length_le (by simp; omega)]
  simp
theorem ccut_eq {b : List Int} (h : b.length ≤ 100000) : crc_Cut (b, ()) = some ((cutV b).1, (cutV b).2, ()) := by
  show crc_Cut_m0 b = _
  unfold crc_Cut_m0 cutV
  by_cases h2 : b.length < 2
  · rw [if_pos (by rw [lt_iff, ofNat_eq]; omega), if_pos h2]
  · have e1 : sub .i64 (Int.ofNat b.length) 2 = ((b.length - 2 : Nat) : Int) := by
      rw [sub64 (by rw [ofNat_eq]; omega) (by rw [ofNat_eq]; omega), ofNat_eq]
      omega
    have g1 : b[b.length - 2]? = some (b[b.length - 2]'(by omega)) := List.getElem?_eq_getElem (by omega)
    have g2 : b[b.length - 2 + 1]? = some (b[b.length - 2 + 1]'(by omega)) := List.getElem?_eq_getElem (by omega)
    rw [if_neg (by rw [lt_iff, ofNat_eq]; omega), if_neg h2, e1, cut_to (by omega), Option.bind_some, succ64 (by omega), at_get g1, Option.bind_some, at_get g2, Option.bind_some, sum_eq (by simp; omega), Option.bind_some]
    have e2 : bor .u16 (cvt .u16 (b[b.length - 2]'(by omega))) (shl .u16 (cvt .u16 (b[b.length - 2 + 1]'(by omega))) 8) = numV (b.getD (b.length - 1) 0) (b.getD (b.length - 2) 0) := by
      rw [bor_comm]
      have e3 : b.length - 1 = b.length - 2 + 1 := by omega
      rw [e3, List.getD_eq_getElem?_getD, List.getD_eq_getElem?_getD, g1, g2]
      rfl
    rw [e2]
    by_cases hs : sumV (b.take (b.length - 2)) = numV (b.getD (b.length - 1) 0) (b.getD (b.length - 2) 0)
    · rw [if_neg (by rw [nei_iff]; exact fun e => e hs), if_pos hs, need_t (by rw [ge_iff]; omega), need_t (capOk_self _), Int.toNat_natCast, need_small (by omega), need_t (by rw [le_iff]; simp only [List.length_replicate, ofNat_eq]; omega), fill_take (by omega)]
    · rw [if_pos (by rw [nei_iff]; exact hs), if_neg hs]
theorem isUnit_eq (u : Int) : rtu_isUnit (u, ()) = some (decide (1 ≤ u) && decide (u ≤ 247), ()) := by
  show rtu_isUnit_m0 u = _
  unfold rtu_isUnit_m0
  rw [if_dec (ge_iff) fun _ => rfl]
  rfl
def rtuV (b : List Int) : Int × List Int × Int :=
  if b.length < 4 ∨ 256 < b.length then (0, [], 10) else
  if (cutV b).2 ≠ 0 then (0, [], (cutV b).2) else
  match (cutV b).1 with
  | [] => (0, [], 10)
  | x :: r => if (decide (1 ≤ x) && decide (x ≤ 247)) = true then (x, r, 0) else (0, [], 10)
theorem cutV_len {b : List Int} (h : (cutV b).2 = 0) : (cutV b).1.length = b.length - 2 := by
  unfold cutV at h ⊢
  split
  · rename_i h1; rw [if_pos h1] at h; cases h
  · rename_i h1
    rw [if_neg h1] at h
    split
    · simp
    · rename_i h2; rw [if_neg h2] at h; cases h
theorem rtup_eq (b : List Int) : rtu_Parse (b, ()) = some ((rtuV b).1, (rtuV b).2.1, (rtuV b).2.2, ()) := by
  show rtu_Parse_m0 rtu_Parse_K1 b = _
  have K : ∀ t, rtu_Parse_K1 b t = rtu_Parse_m1 b t := fun _ => rfl
  unfold rtu_Parse_m0 rtuV
  rw [K, K]
  by_cases h : b.length < 4
  · rw [if_pos (by rw [lt_iff, ofNat_eq]; omega), if_pos (.inl h)]
    rfl
  · rw [if_neg (by rw [lt_iff, ofNat_eq]; omega)]
    unfold rtu_Parse_m1
    by_cases h2 : 256 < b.length
    · rw [if_pos (by rw [gt_iff, ofNat_eq]; omega), if_pos (.inr h2)]
    · rw [if_neg (by rw [gt_iff, ofNat_eq]; omega), if_neg (by omega), ccut_eq (by omega), Option.bind_some]
      dsimp only
      by_cases h3 : (cutV b).2 = 0
      · rw [if_neg (by rw [nei_iff]; exact fun e => e h3), if_neg (fun e => e h3)]
        have hl := cutV_len h3
        match hc : (cutV b).1 with
        | [] => rw [hc] at hl; simp at hl; omega
        | x :: r =>
          rw [at_zero, Option.bind_some, isUnit_eq, Option.bind_some, Option.bind_some]
          show _ = some ((if (decide (1 ≤ x) && decide (x ≤ 247)) = true then (x, r, 0) else (0, [], 10)).1, (if (decide (1 ≤ x) && decide (x ≤ 247)) = true then (x, r, 0) else (0, [], 10)).2.1, (if (decide (1 ≤ x) && decide (x ≤ 247)) = true then (x, r, 0) else (0, [], 10)).2.2, ())
          cases decide (1 ≤ x) && decide (x ≤ 247) with
          | false => rfl
          | true =>
            have e : cut (x :: r) 1 (Int.ofNat (x :: r).length) = some r := cut_one x r
            rw [if_neg (by decide), e, Option.bind_some, need_t (by rw [le_iff]; omega), need_t (by rw [le_iff]; omega), if_pos rfl]
      · rw [if_pos (by rw [nei_iff]; exact h3), if_pos h3]
def serV (unit : Int) (b : List Int) : Option TR :=
  if (rtuV b).2.2 ≠ 0 then none else if (rtuV b).1 ≠ unit then none else
  if (parseR (rtuV b).2.1).2 ≠ 0 then none else some (parseR (rtuV b).2.1).1
def outF : Option TR → Option (TR × Bool × Unit)
  | some r => some (r, true, ())
  | none => some (zR, false, ())
theorem serfind_eq (unit tx : Int) (b : List Int) : poll_serial_find ((), unit, tx, b, ()) = outF (serV unit b) := by
  show poll_serial_find_m0 () unit tx b = _
  unfold poll_serial_find_m0
  have e : rtu_Reply (unit, b, ()) = if (rtuV b).2.2 ≠ 0 then some (zR, (rtuV b).2.2, ()) else if (rtuV b).1 ≠ unit then some (zR, 10, ()) else some ((parseR (rtuV b).2.1).1, (parseR (rtuV b).2.1).2, ()) := by
    show rtu_Reply_m0 unit b = _
    unfold rtu_Reply_m0
    rw [rtup_eq, Option.bind_some]
    dsimp only
    rw [parse_eq, Option.bind_some]
    simp only [nei_iff]
    repeat' split
    all_goals first | rfl | contradiction
  rw [e]
  unfold serV
  by_cases h1 : (rtuV b).2.2 = 0
  · by_cases h2 : (rtuV b).1 = unit
    · by_cases h3 : (parseR (rtuV b).2.1).2 = 0
      · simp [h1, h2, h3, nei, outF]
      · simp [h1, h2, h3, nei, outF, zR]
    · simp [h1, h2, nei, outF, zR]
  · simp [h1, nei, outF, zR]
/-! ### frames over TCP -/
def beginsV (b2 b3 b4 b5 : Int) : Bool := !nei b2 0 && (!nei b3 0 && (!nei b4 0 && (!lt b5 2 && !gt (cvt .i64 b5) 254)))
theorem bstep {self : List Int → Int → Option (As [.bool])} {b : List Int} {i y : Int} (hi : i < 5) (hl : i < Int.ofNat b.length) (hy : at? b i = some y) :
    mbap_begins_m1 (mbap_begins_K2 self) self b i = if nei y 0 = true then some (false, ()) else self b (add .i64 i 1) := by
  have e5 : eqi i 5 = false := by
    rw [← Bool.not_eq_true, eqi_iff]
    omega
  unfold mbap_begins_m1
  rw [if_pos (by rw [lt_iff]; omega), lt_iff.2 hl]
  unfold mbap_begins_K2 mbap_begins_m2
  rw [if_pos rfl, if_pos (lt_iff.2 hi), hy, Option.bind_some]
  unfold mbap_begins_K3 mbap_begins_m3
  cases nei y 0 with
  | true => rfl
  | false =>
    simp only [e5, Bool.false_eq_true, if_false]
    rfl
theorem bstep5 {self : List Int → Int → Option (As [.bool])} {b : List Int} {y : Int} (hl : 5 < Int.ofNat b.length) (hy : at? b 5 = some y) :
    mbap_begins_m1 (mbap_begins_K2 self) self b 5 = if lt y 2 = true then some (false, ()) else if gt (cvt .i64 y) 254 = true then some (false, ()) else self b 6 := by
  unfold mbap_begins_m1
  rw [if_pos (by decide), lt_iff.2 hl]
  unfold mbap_begins_K2 mbap_begins_m2
  rw [if_pos rfl, if_neg (by decide)]
  unfold mbap_begins_K3 mbap_begins_m3
  rw [if_neg (by decide), if_pos (by decide), hy, Option.bind_some, Option.bind_some]
  cases lt y 2 with
  | true => rfl
  | false => cases gt (cvt .i64 y) 254 <;> rfl
theorem bstep6 {self : List Int → Int → Option (As [.bool])} {b : List Int} : mbap_begins_m1 (mbap_begins_K2 self) self b 6 = some (true, ()) := rfl
theorem begins_eq (b0 b1 b2 b3 b4 b5 b6 b7 : Int) (r : List Int) : mbap_begins (b0 :: b1 :: b2 :: b3 :: b4 :: b5 :: b6 :: b7 :: r, ()) = some (beginsV b2 b3 b4 b5, ()) := by
  show mbap_begins_m0 mbap_begins_K1 _ = _
  unfold mbap_begins_m0 mbap_begins_K1 beginsV
  have hlen : (Int.ofNat (b0 :: b1 :: b2 :: b3 :: b4 :: b5 :: b6 :: b7 :: r).length) = (r.length : Int) + 8 := by rw [ofNat_eq]; simp; omega
  generalize hb : b0 :: b1 :: b2 :: b3 :: b4 :: b5 :: b6 :: b7 :: r = b at hlen ⊢
  have h2 : at? b 2 = some b2 := by rw [← hb]; rfl
  have h3 : at? b 3 = some b3 := by rw [← hb]; rfl
  have h4 : at? b 4 = some b4 := by rw [← hb]; rfl
  have h5 : at? b 5 = some b5 := by rw [← hb]; rfl
  have key : ∀ n : Nat, loopF (fun (self : (List Int) × (Int) → Option (As [.bool])) (s : (List Int) × (Int)) => mbap_begins_m1 (mbap_begins_K2 (fun b i => self (b, i))) (fun b i => self (b, i)) s.1 s.2) (n + 5) (b, 2) =
      some (!nei b2 0 && (!nei b3 0 && (!nei b4 0 && (!lt b5 2 && !gt (cvt .i64 b5) 254))), ()) := by
    intro n
    rw [loopF_succ]
    refine (bstep (by decide) (by rw [hlen]; omega) h2).trans ?_
    cases nei b2 0 with
    | true => rfl
    | false =>
      rw [if_neg (by decide), loopF_succ]
      refine (bstep (i := 3) (by decide) (by rw [hlen]; omega) h3).trans ?_
      cases nei b3 0 with
      | true => rfl
      | false =>
        rw [if_neg (by decide), loopF_succ]
        refine (bstep (i := 4) (by decide) (by rw [hlen]; omega) h4).trans ?_
        cases nei b4 0 with
        | true => rfl
        | false =>
          rw [if_neg (by decide), loopF_succ]
          refine (bstep5 (by rw [hlen]; omega) h5).trans ?_
          cases lt b5 2 with
          | true => rfl
          | false =>
            cases gt (cvt .i64 b5) 254 with
            | true => rfl
            | false =>
              rw [if_neg (by decide), if_neg (by decide), loopF_succ]
              exact bstep6
  exact key 18446744073709551611
def zM : Int × Int × List Int := (0, 0, [])
def mbapP : List Int → (Int × Int × List Int) × Int
  | b0 :: b1 :: b2 :: b3 :: b4 :: b5 :: b6 :: r =>
    if r = [] then (zM, 10) else if beginsV b2 b3 b4 b5 = true then if (r.length : Int) + 1 = b5 then ((numV b0 b1, b6, r), 0) else (zM, 10) else (zM, 10)
  | _ => (zM, 10)
theorem mparse_eq {b : List Int} (hl : b.length ≤ 100000) (hb : ∀ x ∈ b, 0 ≤ x ∧ x ≤ 255) : mbap_Parse (b, ()) = some ((mbapP b).1, (mbapP b).2, ()) := by
  show mbap_Parse_m0 mbap_Parse_K1 b = _
  unfold mbap_Parse_m0
  have short : b.length ≤ 7 → mbap_first (b, ()) = some (zM, 0, ()) := fun h => by
    show mbap_first_m0 mbap_first_K1 b = _
    unfold mbap_first_m0
    rw [if_pos (by rw [le_iff, ofNat_eq]; omega)]
    rfl
  have shortP : b.length ≤ 7 → mbapP b = (zM, 10) := fun h => by
    match b with
    | [] | [_] | [_, _] | [_, _, _] | [_, _, _, _] | [_, _, _, _, _] | [_, _, _, _, _, _] => rfl
    | [_, _, _, _, _, _, _] => rfl
    | _ :: _ :: _ :: _ :: _ :: _ :: _ :: _ :: _ => exact absurd h (by simp)
  by_cases hs : b.length ≤ 7
  · rw [short hs, shortP hs]
    rfl
  · match b with
    | [] | [_] | [_, _] | [_, _, _] | [_, _, _, _] | [_, _, _, _, _] | [_, _, _, _, _, _] => simp at hs
    | [_, _, _, _, _, _, _] => simp at hs
    | b0 :: b1 :: b2 :: b3 :: b4 :: b5 :: b6 :: b7 :: r =>
      have h5 := hb b5 (by simp)
      have hlr : r.length ≤ 100000 := by simp at hl; omega
      have e5 : cvt .i64 b5 = b5 := cvt64 (by omega) (by omega)
      have hF : mbap_first (b0 :: b1 :: b2 :: b3 :: b4 :: b5 :: b6 :: b7 :: r, ()) = if beginsV b2 b3 b4 b5 = true then if (r.length : Int) + 2 < b5 then some (zM, 0, ()) else some ((numV b0 b1, b6, (b7 :: r).take (b5 - 1).toNat), 6 + b5, ()) else some (zM, 0, ()) := by
        show mbap_first_m0 mbap_first_K1 _ = _
        unfold mbap_first_m0
        rw [if_neg (by rw [le_iff, ofNat_eq]; simp; omega), begins_eq, Option.bind_some]
        cases hbg : beginsV b2 b3 b4 b5 with
        | false => rfl
        | true =>
          rw [if_pos rfl]
          have h52 : 2 ≤ b5 := by
            unfold beginsV at hbg
            simp only [Bool.and_eq_true, Bool.not_eq_true', ← Bool.not_eq_true] at hbg
            have := hbg.2.2.2.1
            rw [lt_iff] at this
            omega
          show mbap_first_m1 _ false 0 0 = _
          unfold mbap_first_m1
          have g5 : at? (b0 :: b1 :: b2 :: b3 :: b4 :: b5 :: b6 :: b7 :: r) 5 = some b5 := rfl
          have ea : add .i64 6 (cvt .i64 b5) = 6 + b5 := by rw [e5, add64 (by omega) (by omega)]
          rw [if_neg (by decide), g5, Option.bind_some, ea]
          by_cases hlt : (r.length : Int) + 2 < b5
          · rw [if_pos (by rw [lt_iff, ofNat_eq]; simp; omega), if_pos hlt]
            rfl
          · have es : sub .i64 (6 + b5) 7 = (((b5 - 1).toNat : Nat) : Int) := by rw [sub64 (by omega) (by omega)]; omega
            have ec : cut (b0 :: b1 :: b2 :: b3 :: b4 :: b5 :: b6 :: b7 :: r) 7 (6 + b5) = some ((b7 :: r).take (b5 - 1).toNat) := by
              have := cut_nat (xs := b0 :: b1 :: b2 :: b3 :: b4 :: b5 :: b6 :: b7 :: r) (i := 7) (j := 7 + (b5 - 1).toNat) (by omega) (by simp; omega)
              have e : ((7 + (b5 - 1).toNat : Nat) : Int) = 6 + b5 := by omega
              rw [e, Nat.add_comm 7 (b5 - 1).toNat] at this
              exact this
            rw [if_neg (by rw [lt_iff, ofNat_eq]; simp; omega), if_neg hlt, es, need_t (by rw [ge_iff]; omega), need_t (capOk_self _), Int.toNat_natCast, need_small (by omega), ec, Option.bind_some, need_t (by rw [le_iff]; simp only [List.length_replicate, ofNat_eq]; omega)]
            have hlen : ((b7 :: r).take (b5 - 1).toNat).length = (b5 - 1).toNat := by rw [List.length_take, List.length_cons]; omega
            rw [fill_all hlen]
            rfl
      rw [hF]
      have K : ∀ (t : Bool) (y1 y2 : Int) (y3 : List Int), mbap_Parse_K1 t 0 0 y1 y2 y3 = if t = true then some (zM, 10, ()) else some ((y1, y2, y3), 0, ()) := fun t y1 y2 y3 => rfl
      show _ = some ((mbapP (b0 :: b1 :: b2 :: b3 :: b4 :: b5 :: b6 :: b7 :: r)).1, (mbapP (b0 :: b1 :: b2 :: b3 :: b4 :: b5 :: b6 :: b7 :: r)).2, ())
      unfold mbapP
      dsimp only
      have hne : ¬ (b7 :: r = []) := by simp
      rw [if_neg hne]
      cases hbg : beginsV b2 b3 b4 b5 with
      | false => rfl
      | true =>
        simp only [if_true]
        have h52 : 2 ≤ b5 := by
          unfold beginsV at hbg
          simp only [Bool.and_eq_true, Bool.not_eq_true', ← Bool.not_eq_true] at hbg
          have := hbg.2.2.2.1
          rw [lt_iff] at this
          omega
        by_cases hlt : (r.length : Int) + 2 < b5
        · have hq : ¬ (((b7 :: r).length : Int) + 1 = b5) := by simp; omega
          rw [if_pos hlt, if_neg hq]
          rfl
        · rw [if_neg hlt, Option.bind_some]
          dsimp only
          rw [if_neg (by rw [eqi_iff]; omega), K]
          by_cases he : (r.length : Int) + 2 = b5
          · have e1 : nei (6 + b5) (Int.ofNat (b0 :: b1 :: b2 :: b3 :: b4 :: b5 :: b6 :: b7 :: r).length) = false := by
              rw [← Bool.not_eq_true, nei_iff, ofNat_eq]
              simp
              omega
            have hq : ((b7 :: r).length : Int) + 1 = b5 := by simp; omega
            rw [e1, if_pos hq]
            have e2 : (b7 :: r).take (b5 - 1).toNat = b7 :: r := List.take_of_length_le (by simp; omega)
            rw [e2]
            rfl
          · have hq : ¬ (((b7 :: r).length : Int) + 1 = b5) := by simp; omega
            rw [if_neg hq, if_pos (by rw [nei_iff, ofNat_eq]; simp; omega)]
end Go.Proofs.Lx

end

section
/- Which replies fit, and what is taken. -/
namespace Go.Proofs.Lx
open Go Ev Sx Pl
set_option maxRecDepth 100000
def tcpV (unit tx : Int) (b : List Int) : Option TR :=
  if (mbapP b).2 ≠ 0 then none else if (mbapP b).1.2.1 ≠ unit then none else if (mbapP b).1.1 ≠ tx then none else
  if (parseR (mbapP b).1.2.2).2 ≠ 0 then none else some (parseR (mbapP b).1.2.2).1
theorem tcpfind_eq {b : List Int} (hl : b.length ≤ 100000) (hb : ∀ x ∈ b, 0 ≤ x ∧ x ≤ 255) (unit tx : Int) : poll_tcp_find ((), unit, tx, b, ()) = outF (tcpV unit tx b) := by
  show poll_tcp_find_m0 poll_tcp_find_K1 () unit tx b = _
  unfold poll_tcp_find_m0
  rw [mparse_eq hl hb, Option.bind_some]
  dsimp only
  have K : ∀ (t : Bool) (y1 y2 : Int) (y3 : List Int), poll_tcp_find_K1 t 0 0 0 0 y1 y2 y3 = if t = true then some (zR, false, ()) else if (parseR y3).2 ≠ 0 then some (zR, false, ()) else some ((parseR y3).1, true, ()) := fun t y1 y2 y3 => by
    unfold poll_tcp_find_K1 poll_tcp_find_m1
    rw [parse_eq, Option.bind_some]
    simp only [nei_iff]
    rfl
  rw [K, K]
  unfold tcpV
  by_cases h1 : (mbapP b).2 = 0
  · by_cases h2 : (mbapP b).1.2.1 = unit
    · by_cases h3 : (mbapP b).1.1 = tx
      · by_cases h4 : (parseR (mbapP b).1.2.2).2 = 0
        · simp [h1, h2, h3, h4, nei, outF]
        · simp [h1, h2, h3, h4, nei, outF]
      · simp [h1, h2, h3, nei, outF]
    · simp [h1, h2, nei, outF]
  · simp [h1, nei, outF]
/-! ### which fit -/
def echoV (a : TA) : Option TR :=
  if a.1 = 5 then some (5, 0, [a.2.2.2.2.2.headD false], [], a.2.1, 0) else if a.1 = 6 then some (6, 0, [], [a.2.2.2.2.1.headD 0], a.2.1, 0) else
  if a.1 = 15 ∨ a.1 = 16 then some (a.1, 0, [], [], a.2.1, a.2.2.1) else none
theorem echo_eq {a : TA} (h : OkA a) (hr : rightA a = true) : reply_Echo (a, ()) = outF (echoV a) := by
  show reply_Echo_m0 reply_Echo_K1 reply_Echo_K2 a = _
  unfold reply_Echo_m0
  rw [right_eq h, Option.bind_some, hr]
  clear h
  have hra := rightA_RA hr
  clear hr
  cases hra with
  | bits f p n hf h1 h2 => rcases hf with rfl | rfl <;> rfl
  | words f p n hf h1 h2 => rcases hf with rfl | rfl <;> rfl
  | coil p b => rfl
  | word p x => rfl
  | coils p l h1 h2 => rfl
  | regs p l h1 h2 => rfl
  | swap p n t l h1 h2 h3 h4 => rfl
theorem goL_index (v : Bool) : ∀ (s : List Bool) (n : Nat), ∃ k : Int, goL (R := Int × Unit) (fun (_ : Unit) (x : Bool × Nat) k => if eqb v x.1 = true then some ((x.2 : Int), ()) else k ()) (fun _ => some (-1, ())) (s.zipIdx n) () = some (k, ()) ∧ (0 ≤ k ↔ v ∈ s)
  | [], n => ⟨-1, rfl, by simp⟩
  | a :: r, n => by
    rw [List.zipIdx_cons]
    obtain ⟨k, h1, h2⟩ := goL_index v r (n + 1)
    by_cases e : v = a
    · refine ⟨(n : Int), ?_, by simp [e]⟩
      show (if eqb v a = true then _ else _) = _
      rw [if_pos (eqb_iff.2 e)]
    · refine ⟨k, ?_, ?_⟩
      · show (if eqb v a = true then _ else _) = _
        rw [if_neg (fun h => e (eqb_iff.1 h))]
        exact h1
      · rw [h2]
        simp [e]
theorem contains_eq {s : List Bool} (v : Bool) (h : s.length ≤ 1000000) : slices_Contains_Gbool (s, v, ()) = some (decide (v ∈ s), ()) := by
  obtain ⟨k, h1, h2⟩ := goL_index v s 0
  have e : slices_Index_Gbool (s, v, ()) = some (k, ()) := by
    rw [← h1]
    show slices_Index_Gbool_m0 slices_Index_Gbool_K1 s v = _
    unfold slices_Index_Gbool_m0 slices_Index_Gbool_K1
    have hz : (s.zipIdx 0).length = s.length := by simp
    refine loop_go (xs := s.zipIdx 0) (mk := fun i _ => (s, v, Int.ofNat s.length, (i : Int))) ?_ ?_ s.length 0 () _ (by rw [hz]; omega) (by omega)
    · intro self i acc x hx
      have hi := (List.getElem?_eq_some_iff.1 hx).1
      rw [hz] at hi
      have hx2 : s[i]? = some x.1 ∧ x.2 = i := by
        rw [List.getElem?_zipIdx] at hx
        obtain ⟨y, hy, rfl⟩ := Option.map_eq_some_iff.1 hx
        exact ⟨hy, by simp⟩
      show slices_Index_Gbool_m1 _ s v (Int.ofNat s.length) (i : Int) = _
      unfold slices_Index_Gbool_m1
      rw [if_pos (by rw [lt_iff, ofNat_eq]; omega), at_get hx2.1, Option.bind_some, succ64 (by omega), hx2.2]
    · intro self acc
      show slices_Index_Gbool_m1 _ s v (Int.ofNat s.length) (((s.zipIdx 0).length : Nat) : Int) = _
      unfold slices_Index_Gbool_m1
      rw [hz, if_neg (by rw [lt_iff, ofNat_eq]; omega)]
  show slices_Contains_Gbool_m0 s v = _
  unfold slices_Contains_Gbool_m0
  rw [e, Option.bind_some]
  refine congrArg (fun x => some (x, ())) ?_
  rw [ge_dec]
  by_cases hv : v ∈ s
  · rw [decide_eq_true hv, decide_eq_true (h2.2 hv)]
  · rw [decide_eq_false hv, decide_eq_false (fun h => hv (h2.1 h))]
def fitsV (a : TA) (r : TR) : Bool :=
  rightA a && (rightR r && (decide (a.1 = r.1) && (if r.2.1 ≠ 0 then true else match echoV a with
    | some e => decide (e = r)
    | none => if 0 < r.2.2.1.length then decide ((r.2.2.1.length : Int) = (a.2.2.1 + 7) / 8 * 8) && !decide (true ∈ r.2.2.1.drop a.2.2.1.toNat) else decide ((r.2.2.2.1.length : Int) = a.2.2.1))))
theorem fits_K {a : TA} {r : TR} (h : OkA a) (hr : rightA a = true) (hs : SmR r) (t : Bool) : reply_Fits_K1 t a.1 a.2.1 a.2.2.1 a.2.2.2.1 a.2.2.2.2.1 a.2.2.2.2.2 r.1 r.2.1 r.2.2.1 r.2.2.2.1 r.2.2.2.2.1 r.2.2.2.2.2 =
    some (!t && (if r.2.1 ≠ 0 then true else match echoV a with
    | some e => decide (e = r)
    | none => if 0 < r.2.2.1.length then decide ((r.2.2.1.length : Int) = (a.2.2.1 + 7) / 8 * 8) && !decide (true ∈ r.2.2.1.drop a.2.2.1.toNat) else decide ((r.2.2.2.1.length : Int) = a.2.2.1)), ()) := by
  unfold reply_Fits_K1 reply_Fits_m1
  cases t with
  | true => rfl
  | false =>
    rw [if_neg (by decide), Bool.not_false, Bool.true_and]
    by_cases h0 : r.2.1 = 0
    · rw [if_neg (by rw [nei_iff]; exact fun e => e h0)]
      simp only [ne_eq, h0, not_true_eq_false, if_false]
      have he : reply_Echo ((a.1, a.2.1, a.2.2.1, a.2.2.2.1, a.2.2.2.2.1, a.2.2.2.2.2), ()) = outF (echoV a) := echo_eq h hr
      rw [he]
      cases hv : echoV a with
      | some e =>
        have hse : SmR e := by
          unfold echoV at hv
          split at hv
          · cases hv; exact ⟨by show 1 ≤ 100000; decide, by show 0 ≤ 100000; decide⟩
          · split at hv
            · cases hv; exact ⟨by show 0 ≤ 100000; decide, by show 1 ≤ 100000; decide⟩
            · split at hv
              · cases hv; exact ⟨by show 0 ≤ 100000; decide, by show 0 ≤ 100000; decide⟩
              · cases hv
        have e2 := sameR_eq (b := r) hse
        rw [← h0]
        show Option.bind (reply_Same (e, r, ())) _ = _
        rw [e2]
        rfl
      | none =>
        have hm0 := h.m0
        have hm1 := h.m1
        have hb := hs.b
        have hw := hs.w
        show (if gt (Int.ofNat r.2.2.1.length) 0 = true then _ else _) = _
        by_cases hbl : 0 < r.2.2.1.length
        · rw [if_pos (by rw [gt_iff, ofNat_eq]; omega), if_pos hbl]
          obtain ⟨m, hm⟩ := Int.eq_ofNat_of_zero_le hm0
          have e1 : mul .i64 (quo .i64 (add .i64 (cvt .i64 a.2.2.1) 7) 8) 8 = (a.2.2.1 + 7) / 8 * 8 := by
            rw [hm, cvt64 (by omega) (by omega), show (7 : Int) = ((7 : Nat) : Int) from rfl, addn64 (by omega)]
            have := quo_nat (i := m + 7) (d := 8) (by omega)
            rw [show (8 : Int) = ((8 : Nat) : Int) from rfl, this, mul64 (by omega) (by omega)]
            omega
          rw [e1]
          by_cases hq : (r.2.2.1.length : Int) = (a.2.2.1 + 7) / 8 * 8
          · rw [if_pos (by rw [eqi_iff, ofNat_eq]; exact hq), decide_eq_true hq, cvt64 (by omega) (by omega), hm, cut_from (by omega), Option.bind_some, contains_eq true (by simp; omega), Option.bind_some, Int.toNat_natCast]
            rfl
          · rw [if_neg (by rw [eqi_iff, ofNat_eq]; exact hq), decide_eq_false hq]
            rfl
        · rw [if_neg (by rw [gt_iff, ofNat_eq]; omega), if_neg hbl, cvt64 (by omega) (by omega)]
          refine congrArg (fun x => some (x, ())) ?_
          rw [ofNat_eq]
          rw [Bool.eq_iff_iff, eqi_iff, decide_eq_true_eq]
    · rw [if_pos (by rw [nei_iff]; exact h0), if_pos h0]
theorem fits_eq {a : TA} {r : TR} (h : OkA a) (hs : SmR r) : reply_Fits (a, r, ()) = some (fitsV a r, ()) := by
  show reply_Fits_m0 reply_Fits_K1 a r = _
  unfold reply_Fits_m0 fitsV
  rw [right_eq h, Option.bind_some, rightR_eq hs, Option.bind_some]
  cases hr : rightA a with
  | false => rfl
  | true =>
    rw [if_neg (by decide)]
    cases hq : rightR r with
    | false => rfl
    | true =>
      rw [if_neg (by decide), fits_K h hr hs]
      refine congrArg (fun x => some (x, ())) ?_
      have e : (!nei a.1 r.1) = decide (a.1 = r.1) := by
        rw [Bool.eq_iff_iff, Bool.not_eq_true', ← Bool.not_eq_true, nei_iff, decide_eq_true_eq]
        exact Decidable.not_not
      rw [e]
      rfl
end Go.Proofs.Lx

end

section
/- What is taken by a poll. -/
namespace Go.Proofs.Lx
open Go Ev Sx Pl
set_option maxRecDepth 100000
theorem chkV_sm {b : List Int} {c : TR} {ok : Bool} {w : List Int} (h : SmR c) : SmR (chkV b c ok w).1 := by
  unfold chkV
  split
  · split
    · exact h
    · exact zR_sm
  · exact zR_sm
theorem parseR_sm (b : List Int) : SmR (parseR b).1 := by
  match b with
  | [] => exact zR_sm
  | [_] => exact zR_sm
  | x :: y :: r =>
    show SmR (parseQ x y r).1
    unfold parseQ
    by_cases hl : 251 < r.length
    · rw [if_pos hl]; exact zR_sm
    · rw [if_neg hl]
      have sb : SmR (bitC x r) := ⟨by show (unpackS r).length ≤ _; rw [unpackS_len]; omega, by show 0 ≤ 100000; decide⟩
      have sw : SmR (wordC x r) := ⟨by show 0 ≤ 100000; decide, by show (listS r).length ≤ _; rw [listS_len]; omega⟩
      have so : SmR (obC x (y :: r)) := pairC_sm (fun p q => ⟨by show 1 ≤ 100000; decide, by show 0 ≤ 100000; decide⟩) _
      have su : SmR (owC x (y :: r)) := pairC_sm (fun p q => ⟨by show 0 ≤ 100000; decide, by show 1 ≤ 100000; decide⟩) _
      have sc : SmR (ctC x (y :: r)) := pairC_sm (fun p q => ⟨by show 0 ≤ 100000; decide, by show 0 ≤ 100000; decide⟩) _
      have se : SmR (exC x y) := ⟨by show 0 ≤ 100000; decide, by show 0 ≤ 100000; decide⟩
      have step : ∀ {c : Prop} [Decidable c] {A B : TR × Int}, SmR A.1 → SmR B.1 → SmR (if c then A else B).1 := fun {c} _ {A B} h1 h2 => by
        by_cases hc : c
        · rw [if_pos hc]; exact h1
        · rw [if_neg hc]; exact h2
      exact step (step (chkV_sm sb) (step (chkV_sm sb) (step (chkV_sm sw) (step (chkV_sm sw) (step (chkV_sm sw) (step (chkV_sm so) (step (chkV_sm su) (step (chkV_sm sc) (step (chkV_sm sc) zR_sm))))))))) (chkV_sm se)
def findV (p : TP) (b : List Int) : Option TR := if p.2.1 = 2 then tcpV p.1 p.2.2.2.2.2.2.1 b else serV p.1 b
theorem findV_sm {p : TP} {b : List Int} {r : TR} (h : findV p b = some r) : SmR r := by
  unfold findV at h
  split at h
  · unfold tcpV at h
    split at h
    · cases h
    · split at h
      · cases h
      · split at h
        · cases h
        · split at h
          · cases h
          · cases h; exact parseR_sm _
  · unfold serV at h
    split at h
    · cases h
    · split at h
      · cases h
      · split at h
        · cases h
        · cases h; exact parseR_sm _
def takeV (p : TP) (b : List Int) : Option TR := if p.2.2.2.2.1 = true then (findV p b).bind fun r => if fitsV p.2.2.2.2.2.1 r = true then some r else none else none
def outT (p : TP) : Option TR → Option (TP × TR × Bool × Unit)
  | some r => some (dropP p, r, true, ())
  | none => some (p, zR, false, ())
theorem take_K {p : TP} (h : OkP p) {r : TR} (hs : SmR r) (ok : Bool) : poll_Take_K1 ok p.1 p.2.1 p.2.2.1 p.2.2.2.1 p.2.2.2.2.1 p.2.2.2.2.2.1.1 p.2.2.2.2.2.1.2.1 p.2.2.2.2.2.1.2.2.1 p.2.2.2.2.2.1.2.2.2.1 p.2.2.2.2.2.1.2.2.2.2.1 p.2.2.2.2.2.1.2.2.2.2.2
    p.2.2.2.2.2.2.1 p.2.2.2.2.2.2.2.1 p.2.2.2.2.2.2.2.2 0 0 0 0 false 0 0 0 0 0 0 0 0 0 0 0 r.1 r.2.1 r.2.2.1 r.2.2.2.1 r.2.2.2.2.1 r.2.2.2.2.2 =
    outT p (if ok = true then if fitsV p.2.2.2.2.2.1 r = true then some r else none else none) := by
  unfold poll_Take_K1 poll_Take_m1
  have h1 := h.a.lw
  have h2 := h.a.lb
  have e2 : ∀ t, poll_Take_K2 t p.1 p.2.1 p.2.2.1 p.2.2.2.1 p.2.2.2.2.1 p.2.2.2.2.2.1.1 p.2.2.2.2.2.1.2.1 p.2.2.2.2.2.1.2.2.1 p.2.2.2.2.2.1.2.2.2.1 p.2.2.2.2.2.1.2.2.2.2.1 p.2.2.2.2.2.1.2.2.2.2.2
    p.2.2.2.2.2.2.1 p.2.2.2.2.2.2.2.1 p.2.2.2.2.2.2.2.2 0 0 0 0 false 0 0 0 0 0 0 0 0 0 0 0 r.1 r.2.1 r.2.2.1 r.2.2.2.1 r.2.2.2.2.1 r.2.2.2.2.2 = if t = true then some (p, zR, false, ()) else some (dropP p, r, true, ()) := fun t => by
    unfold poll_Take_K2 poll_Take_m2
    have eo : poll_own (p, ()) = some (p, ()) := own_eq (by omega) (by omega)
    cases t with
    | true => exact (congrArg (fun q => Option.bind q fun y => some (y.1, zR, false, ())) eo).trans rfl
    | false => rfl
  rw [e2]
  have e3 : reply_Fits ((p.2.2.2.2.2.1.1, p.2.2.2.2.2.1.2.1, p.2.2.2.2.2.1.2.2.1, p.2.2.2.2.2.1.2.2.2.1, p.2.2.2.2.2.1.2.2.2.2.1, p.2.2.2.2.2.1.2.2.2.2.2), (r.1, r.2.1, r.2.2.1, r.2.2.2.1, r.2.2.2.2.1, r.2.2.2.2.2), ()) = some (fitsV p.2.2.2.2.2.1 r, ()) := fits_eq h.a hs
  rw [e3, Option.bind_some, e2]
  cases ok with
  | false => rfl
  | true => cases fitsV p.2.2.2.2.2.1 r <;> rfl
theorem take_eq {p : TP} (h : OkP p) {b : List Int} (hl : b.length ≤ 100000) (hb : ∀ x ∈ b, 0 ≤ x ∧ x ≤ 255) : poll_Take (p, b, ()) = outT p (takeV p b) := by
  show poll_Take_m0 poll_Take_K1 p b = _
  unfold poll_Take_m0
  have h1 := h.a.lw
  have h2 := h.a.lb
  rw [own_eq (by omega) (by omega), Option.bind_some, tcpfind_eq hl hb, serfind_eq]
  have key : ∀ o : Option TR, (∀ r, o = some r → SmR r) → (Option.bind (outF o) fun y => poll_Take_K1 y.2.1 p.1 p.2.1 p.2.2.1 p.2.2.2.1 p.2.2.2.2.1 p.2.2.2.2.2.1.1 p.2.2.2.2.2.1.2.1 p.2.2.2.2.2.1.2.2.1 p.2.2.2.2.2.1.2.2.2.1 p.2.2.2.2.2.1.2.2.2.2.1 p.2.2.2.2.2.1.2.2.2.2.2
      p.2.2.2.2.2.2.1 p.2.2.2.2.2.2.2.1 p.2.2.2.2.2.2.2.2 0 0 0 0 false 0 0 0 0 0 0 0 0 0 0 0 y.1.1 y.1.2.1 y.1.2.2.1 y.1.2.2.2.1 y.1.2.2.2.2.1 y.1.2.2.2.2.2) = outT p (o.bind fun r => if fitsV p.2.2.2.2.2.1 r = true then some r else none) := fun o ho => by
    cases o with
    | none => exact take_K h zR_sm false
    | some r => exact take_K h (ho r rfl) true
  have hout : ∀ o, ∃ x, outT p o = some x := fun o => by cases o <;> exact ⟨_, rfl⟩
  unfold takeV
  cases hw : p.2.2.2.2.1 with
  | false => rfl
  | true =>
    rw [if_neg (by decide), if_pos rfl]
    rw [hw] at key
    by_cases hlk : p.2.1 = 2
    · have e : findV p b = tcpV p.1 p.2.2.2.2.2.2.1 b := by unfold findV; rw [if_pos hlk]
      have kk := key (tcpV p.1 p.2.2.2.2.2.2.1 b) (fun r hr => findV_sm (e.trans hr))
      rw [e]
      obtain ⟨x, hx⟩ := hout ((tcpV p.1 p.2.2.2.2.2.2.1 b).bind fun r => if fitsV p.2.2.2.2.2.1 r = true then some r else none)
      rw [hx] at kk ⊢
      simp only [eqi_iff, hlk, if_true]
      rw [hlk] at kk
      rw [kk, amb_same (eqAs_refl _), amb_same (eqAs_refl _)]
    · have e : findV p b = serV p.1 b := by unfold findV; rw [if_neg hlk]
      have kk := key (serV p.1 b) (fun r hr => findV_sm (e.trans hr))
      rw [e]
      obtain ⟨x, hx⟩ := hout ((serV p.1 b).bind fun r => if fitsV p.2.2.2.2.2.1 r = true then some r else none)
      rw [hx] at kk ⊢
      simp only [eqi_iff, hlk, if_false]
      rw [kk, amb_same (eqAs_refl _), amb_same (eqAs_refl _)]
end Go.Proofs.Lx

end

section
/- PollNone, as a plain law. -/
namespace Pl
open Go Ev Sx
theorem ok8 {x : Int} (h : (Lit.int .u8 x).wf = true) : 0 ≤ x ∧ x ≤ 255 := by
  simp [Lit.wf] at h
  have e1 : IntKind.u8.min = 0 := rfl
  have e2 : IntKind.u8.max = 255 := rfl
  omega
theorem ok16 {x : Int} (h : (Lit.int .u16 x).wf = true) : 0 ≤ x ∧ x ≤ 65535 := by
  simp [Lit.wf] at h
  have e1 : IntKind.u16.min = 0 := rfl
  have e2 : IntKind.u16.max = 65535 := rfl
  omega
end Pl
namespace Go.Proofs.Lx
open Go Ev Sx Pl
set_option maxRecDepth 100000
def fewV (ws : List Int) (bs : List Bool) : Bool := decide (ws.length ≤ 200) && decide (bs.length ≤ 2100)
theorem few_eq (ws : List Int) (bs : List Bool) : low_Few (ws, bs, ()) = some (fewV ws bs, ()) := by
  show low_Few_m0 ws bs = _
  unfold low_Few_m0 fewV
  by_cases h : ws.length ≤ 200
  · rw [if_pos (by rw [le_iff, ofNat_eq]; omega), decide_eq_true h, Bool.true_and, le_dec]
    refine congrArg (fun x => some (x, ())) ?_
    rw [ofNat_eq]
    by_cases h2 : bs.length ≤ 2100
    · rw [decide_eq_true h2, decide_eq_true (by omega)]
    · rw [decide_eq_false h2, decide_eq_false (by omega)]
  · rw [if_neg (by rw [le_iff, ofNat_eq]; omega), decide_eq_false h]
    rfl
theorem few_iff {ws : List Int} {bs : List Bool} : fewV ws bs = true ↔ ws.length ≤ 200 ∧ bs.length ≤ 2100 := by simp [fewV]
abbrev tA : Ty := .pr (.int .u8) (.pr (.int .u16) (.pr (.int .u16) (.pr (.int .u16) (.pr (.sl (.int .u16)) (.sl .bool)))))
theorem okA_of {a : TA} (h : Rw.okV tA a) (hf : fewV a.2.2.2.2.1 a.2.2.2.2.2 = true) : OkA a := by
  obtain ⟨h1, h2, h3, h4, h5, h6⟩ := h
  have hf := few_iff.1 hf
  exact ⟨(ok8 h1).1, (ok8 h1).2, (ok16 h2).1, (ok16 h2).2, (ok16 h3).1, (ok16 h3).2, (ok16 h4).1, (ok16 h4).2, fun x hx => ok16 (h5.2 x hx), by omega, by omega⟩
theorem awake22 : law22_awake () = some (true, ()) := by kernel_rfl
theorem zA_ok : OkA zA := ⟨by decide, by decide, by decide, by decide, by decide, by decide, by decide, by decide, by simp [zA], by decide, by decide⟩
theorem rangesV_ok {u l t r : Int} (h : rangesV u l t r = true) : OkP (u, l, t, r, false, zA, 0, 0, 0) := by
  have h := of_decide_eq_true h
  exact ⟨h.1.1, h.1.2, h.2.1, h.2.2.1.1, h.2.2.1.2, h.2.2.2.1, h.2.2.2.2, zA_ok, by show (0 : Int) ≤ 0; decide, by show (0 : Int) ≤ 65535; decide⟩
end Go.Proofs.Lx

end

section
/- Numbers of two bytes, packed bits and frames are read back. -/
namespace Pl
open Go Ev Sx
theorem listS_two (y z : Int) (r : List Int) : listS (y :: z :: r) = numV y z :: listS r := by
  unfold listS
  have e : (y :: z :: r).length / 2 = r.length / 2 + 1 := by simp; omega
  rw [e, List.range_succ_eq_map, List.map_cons, List.map_map]
  congr 1
end Pl
namespace Go.Proofs.Lx
open Go Ev Sx Pl
set_option maxRecDepth 100000
theorem byteV_256 {t : List Bool} (h : t.length ≤ 8) : 0 ≤ byteV t ∧ byteV t < 256 := by
  have h1 := byteV_rng t
  have h2 : 2 ^ t.length ≤ 2 ^ 8 := Nat.pow_le_pow_right (by decide) h
  have h3 : ((2 ^ t.length : Nat) : Int) = (2 : Int) ^ t.length := by norm_cast
  have h4 : (2 : Nat) ^ 8 = 256 := by decide
  exact ⟨h1.1, by omega⟩
abbrev tup (p : TP) : TP := (p.1, p.2.1, p.2.2.1, p.2.2.2.1, p.2.2.2.2.1, (p.2.2.2.2.2.1.1, p.2.2.2.2.2.1.2.1, p.2.2.2.2.2.1.2.2.1, p.2.2.2.2.2.1.2.2.2.1, p.2.2.2.2.2.1.2.2.2.2.1, p.2.2.2.2.2.1.2.2.2.2.2), p.2.2.2.2.2.2.1, p.2.2.2.2.2.2.2.1, p.2.2.2.2.2.2.2.2)
theorem nextV_rng (l : Int) {x : Int} (h0 : 0 ≤ x) (h1 : x ≤ 65535) : 0 ≤ nextV l x ∧ nextV l x ≤ 65535 := by
  unfold nextV
  split <;> omega
/-! ### frames are read -/
theorem two_bytes (x : Int) : ∀ y ∈ two x, 0 ≤ y ∧ y ≤ 255 := by
  intro y hy
  simp [two] at hy
  rcases hy with rfl | rfl <;> omega
theorem flat_bytes (l : List Int) : ∀ y ∈ l.flatMap two, 0 ≤ y ∧ y ≤ 255 := by
  intro y hy
  obtain ⟨x, _, hx⟩ := List.mem_flatMap.1 hy
  exact two_bytes x y hx
theorem pack_bytes (l : List Bool) : ∀ y ∈ packS l, 0 ≤ y ∧ y ≤ 255 := by
  intro y hy
  unfold packS at hy
  obtain ⟨j, _, rfl⟩ := List.mem_map.1 hy
  have := byteV_256 (t := (l.drop (8 * j)).take 8) (by simp; omega)
  omega
theorem askB_bytes {a : TA} (h : RA a) : ∀ y ∈ askB a, 0 ≤ y ∧ y ≤ 255 := by
  have app : ∀ {l r : List Int}, (∀ y ∈ l, 0 ≤ y ∧ y ≤ 255) → (∀ y ∈ r, 0 ≤ y ∧ y ≤ 255) → ∀ y ∈ l ++ r, 0 ≤ y ∧ y ≤ 255 := fun h1 h2 y hy => by
    rcases List.mem_append.1 hy with h | h
    · exact h1 y h
    · exact h2 y h
  have con : ∀ {x : Int} {r : List Int}, (0 ≤ x ∧ x ≤ 255) → (∀ y ∈ r, 0 ≤ y ∧ y ≤ 255) → ∀ y ∈ x :: r, 0 ≤ y ∧ y ≤ 255 := fun h1 h2 y hy => by
    rcases List.mem_cons.1 hy with h | h
    · subst h; exact h1
    · exact h2 y h
  have nil : ∀ y ∈ ([] : List Int), 0 ≤ y ∧ y ≤ 255 := fun y hy => by cases hy
  cases h with
  | bits f p n hf h1 h2 =>
    rcases hf with rfl | rfl
    · show ∀ y ∈ (1 : Int) :: two p ++ two n, 0 ≤ y ∧ y ≤ 255
      exact app (con (by decide) (two_bytes p)) (two_bytes n)
    · show ∀ y ∈ (2 : Int) :: two p ++ two n, 0 ≤ y ∧ y ≤ 255
      exact app (con (by decide) (two_bytes p)) (two_bytes n)
  | words f p n hf h1 h2 =>
    rcases hf with rfl | rfl
    · show ∀ y ∈ (3 : Int) :: two p ++ two n, 0 ≤ y ∧ y ≤ 255
      exact app (con (by decide) (two_bytes p)) (two_bytes n)
    · show ∀ y ∈ (4 : Int) :: two p ++ two n, 0 ≤ y ∧ y ≤ 255
      exact app (con (by decide) (two_bytes p)) (two_bytes n)
  | coil p b =>
    show ∀ y ∈ (5 : Int) :: two p ++ two (if b = true then 65280 else 0), 0 ≤ y ∧ y ≤ 255
    exact app (con (by decide) (two_bytes p)) (two_bytes _)
  | word p x =>
    show ∀ y ∈ (6 : Int) :: two p ++ [x].flatMap two, 0 ≤ y ∧ y ≤ 255
    exact app (con (by decide) (two_bytes p)) (flat_bytes _)
  | coils p l h1 h2 =>
    show ∀ y ∈ (15 : Int) :: two p ++ two (l.length : Int) ++ [(packN l.length : Int)] ++ packS l, 0 ≤ y ∧ y ≤ 255
    exact app (app (app (con (by decide) (two_bytes p)) (two_bytes _)) (con (by unfold packN; omega) nil)) (pack_bytes l)
  | regs p l h1 h2 =>
    show ∀ y ∈ (16 : Int) :: two p ++ two (l.length : Int) ++ [2 * (l.length : Int)] ++ l.flatMap two, 0 ≤ y ∧ y ≤ 255
    exact app (app (app (con (by decide) (two_bytes p)) (two_bytes _)) (con (by omega) nil)) (flat_bytes l)
  | swap p n t l h1 h2 h3 h4 =>
    show ∀ y ∈ (23 : Int) :: two p ++ two n ++ two t ++ two (l.length : Int) ++ [2 * (l.length : Int)] ++ l.flatMap two, 0 ≤ y ∧ y ≤ 255
    exact app (app (app (app (app (con (by decide) (two_bytes p)) (two_bytes _)) (two_bytes _)) (two_bytes _)) (con (by omega) nil)) (flat_bytes l)
end Go.Proofs.Lx

end

section
/- The check sum tells what is spoilt within 16 bits. -/
namespace Pl
open Go Ev Sx
/-! ### the check sum, bit by bit -/
def tN (s : Nat) : Nat := s / 2 ^^^ (if s % 2 = 1 then 40961 else 0)
theorem tN_xor (a b : Nat) : tN (a ^^^ b) = tN a ^^^ tN b := by
  unfold tN
  have hm : (a ^^^ b) % 2 = (a + b) % 2 := by
    have h1 := Nat.testBit_xor a b 0
    rw [Nat.testBit_zero, Nat.testBit_zero, Nat.testBit_zero] at h1
    rcases Nat.mod_two_eq_zero_or_one a with ha | ha <;> rcases Nat.mod_two_eq_zero_or_one b with hb | hb <;> rcases Nat.mod_two_eq_zero_or_one (a ^^^ b) with hx | hx <;> rw [ha, hb, hx] at h1 <;> first | exact absurd h1 (by decide) | omega
  rw [Nat.xor_div_two, hm]
  rcases Nat.mod_two_eq_zero_or_one a with ha | ha <;> rcases Nat.mod_two_eq_zero_or_one b with hb | hb
  · have : (a + b) % 2 = 0 := by omega
    rw [this, ha, hb]
    simp
  · have : (a + b) % 2 = 1 := by omega
    rw [this, ha, hb]
    simp [Nat.xor_assoc]
  · have : (a + b) % 2 = 1 := by omega
    rw [this, ha, hb]
    simp only [if_true, Nat.zero_ne_one, if_false, Nat.xor_zero]
    rw [Nat.xor_assoc, Nat.xor_comm (b / 2), ← Nat.xor_assoc]
  · have : (a + b) % 2 = 0 := by omega
    rw [this, ha, hb]
    simp only [if_true]
    have : a / 2 ^^^ 40961 ^^^ (b / 2 ^^^ 40961) = a / 2 ^^^ b / 2 ^^^ (40961 ^^^ 40961) := by
      rw [Nat.xor_assoc, Nat.xor_assoc, ← Nat.xor_assoc 40961, Nat.xor_comm 40961 (b / 2), Nat.xor_assoc (b / 2)]
    rw [this, Nat.xor_self]
    simp
theorem tN_lt {s : Nat} (h : s < 65536) : tN s < 65536 := by
  unfold tN
  have : (65536 : Nat) = 2 ^ 16 := by decide
  rw [this]
  apply Nat.xor_lt_two_pow
  · omega
  · split <;> decide
theorem tN_two (m : Nat) : tN (2 * m) = m := by
  unfold tN
  have h1 : 2 * m % 2 = 0 := by omega
  have h2 : 2 * m / 2 = m := by omega
  rw [h1, h2]
  simp
def tP : Nat → Nat → Nat
  | 0, s => s
  | k + 1, s => tP k (tN s)
theorem tP_xor : ∀ (k a b : Nat), tP k (a ^^^ b) = tP k a ^^^ tP k b
  | 0, _, _ => rfl
  | k + 1, a, b => by
    show tP k (tN (a ^^^ b)) = _
    rw [tN_xor, tP_xor k]
    rfl
theorem tP_add : ∀ (m n s : Nat), tP (m + n) s = tP n (tP m s)
  | 0, n, s => by rw [Nat.zero_add]; rfl
  | m + 1, n, s => by
    rw [Nat.add_right_comm]
    exact tP_add m n (tN s)
theorem tP_lt : ∀ {k s : Nat}, s < 65536 → tP k s < 65536
  | 0, _, h => h
  | k + 1, s, h => tP_lt (k := k) (s := tN s) (tN_lt h)
theorem tP_pow : ∀ (j m : Nat), tP j (2 ^ j * m) = m
  | 0, m => by simp [tP]
  | j + 1, m => by
    show tP j (tN (2 ^ (j + 1) * m)) = m
    have : 2 ^ (j + 1) * m = 2 * (2 ^ j * m) := by rw [Nat.pow_succ, Nat.mul_comm (2 ^ j) 2, Nat.mul_assoc]
    rw [this, tN_two, tP_pow j m]
theorem hi_lo {a b k : Nat} (h : b < 2 ^ k) : 2 ^ k * a + b = 2 ^ k * a ^^^ b := by
  apply Nat.eq_of_testBit_eq
  intro i
  have e0 := Nat.testBit_two_pow_mul_add a (b := 0) (i := k) (Nat.two_pow_pos k) i
  rw [Nat.add_zero] at e0
  rw [Nat.testBit_two_pow_mul_add a h, Nat.testBit_xor, e0]
  by_cases hi : i < k
  · rw [if_pos hi, if_pos hi]; simp
  · rw [if_neg hi, if_neg hi]
    have : b.testBit i = false := Nat.testBit_lt_two_pow (Nat.lt_of_lt_of_le h (Nat.pow_le_pow_right (by decide) (by omega)))
    rw [this]; simp
def stepN (s c : Nat) : Nat := tP 8 (s ^^^ c)
theorem bxor16 {n m : Nat} (hn : n < 65536) (hm : m < 65536) : bxor .u16 (n : Int) (m : Int) = ((n ^^^ m : Nat) : Int) := by
  unfold bxor
  rw [wr16]
  have e1 : (BitVec.ofInt IntKind.u16.bits (n : Int)).toNat = n := by
    rw [BitVec.toNat_ofInt]
    have : ((2 ^ IntKind.u16.bits : Nat) : Int) = 65536 := by decide
    rw [this]
    omega
  have e2 : (BitVec.ofInt IntKind.u16.bits (m : Int)).toNat = m := by
    rw [BitVec.toNat_ofInt]
    have : ((2 ^ IntKind.u16.bits : Nat) : Int) = 65536 := by decide
    rw [this]
    omega
  rw [BitVec.toNat_xor, e1, e2]
  have : n ^^^ m < 2 ^ 16 := Nat.xor_lt_two_pow (by omega) (by omega)
  omega
theorem band15_mod {n : Nat} (hn : n < 65536) : band .u16 (n : Int) 15 = ((n % 16 : Nat) : Int) := by
  unfold band
  rw [wr16]
  have e1 : (BitVec.ofInt IntKind.u16.bits (n : Int)).toNat = n := by
    rw [BitVec.toNat_ofInt]
    have : ((2 ^ IntKind.u16.bits : Nat) : Int) = 65536 := by decide
    rw [this]
    omega
  have e2 : (BitVec.ofInt IntKind.u16.bits 15).toNat = 2 ^ 4 - 1 := by decide
  rw [BitVec.toNat_and, e1, e2, Nat.and_two_pow_sub_one_eq_mod]
  omega
end Pl
namespace Go.Proofs.Lx
open Go Ev Sx Pl
set_option maxRecDepth 100000
theorem tab_tP : ∀ i : Fin 16, tab (i.1 : Int) = ((tP 4 i.1 : Nat) : Int) := by decide +kernel
theorem nib_eq {s : Nat} (h : s < 65536) : nib (s : Int) = ((tP 4 s : Nat) : Int) := by
  unfold nib
  have ht := tab_tP ⟨s % 16, Nat.mod_lt _ (by decide)⟩
  dsimp only at ht
  have e1 : (s : Int) / 16 = ((s / 16 : Nat) : Int) := by omega
  rw [band15_mod h, ht, shr4 _ _ (by decide), e1, bxor16 (by omega) (tP_lt (by omega))]
  have e2 : tP 4 s = s / 16 ^^^ tP 4 (s % 16) := by
    have e : s = 2 ^ 4 * (s / 16) + s % 16 := by omega
    have hx := hi_lo (a := s / 16) (b := s % 16) (k := 4) (by omega)
    rw [← e] at hx
    conv => lhs; rw [hx]
    rw [tP_xor, tP_pow]
  rw [e2]
theorem stepV_eq {s c : Nat} (hs : s < 65536) (hc : c < 256) : stepV (s : Int) (c : Int) = ((stepN s c : Nat) : Int) := by
  unfold stepV stepN
  have h1 : s ^^^ c < 65536 := by
    have : (65536 : Nat) = 2 ^ 16 := by decide
    rw [this]
    exact Nat.xor_lt_two_pow (by omega) (by omega)
  have ec : cvt .u16 (c : Int) = (c : Int) := by rw [cvt16]; omega
  rw [ec, bxor16 hs (by omega), nib_eq h1, nib_eq (tP_lt h1), ← tP_add]
abbrev Byt (xs : List Int) : Prop := ∀ x ∈ xs, 0 ≤ x ∧ x ≤ 255
end Go.Proofs.Lx

end

section
/- The document's answers for polls: check sums, requests, what may be. -/
namespace Go.Proofs.Lx
open Go Ev Sx Pl
set_option maxRecDepth 100000
/-! ### the check sum -/
theorem quo2 {n : Nat} (h : n < 65536) : quo .u16 (n : Int) 2 = ((n / 2 : Nat) : Int) := by
  unfold quo
  have e : (n : Int).tdiv 2 = ((n / 2 : Nat) : Int) := by rw [show (2 : Int) = ((2 : Nat) : Int) from rfl, Int.ofNat_tdiv]
  rw [e]
  exact wu16 (by omega) (by omega)
theorem rnext_eq {s c : Nat} (hs : s < 65536) (hc : c < 256) : ref01_Next ((s : Int), (c : Int), ()) = some (stepV (s : Int) (c : Int), ()) := by
  rw [stepV_eq hs hc]
  show ref01_Next_m0 ref01_Next_K1 (s : Int) (c : Int) = _
  unfold ref01_Next_m0
  have hx : s ^^^ c < 65536 := by
    have e : (65536 : Nat) = 2 ^ 16 := by decide
    rw [e]
    exact Nat.xor_lt_two_pow (by omega) (by omega)
  have ec : cvt .u16 (c : Int) = (c : Int) := by rw [cvt16]; omega
  rw [ec, bxor16 hs (by omega)]
  unfold ref01_Next_K1 stepN
  refine loop_det (mk := fun k => (((tP k (s ^^^ c) : Nat) : Int), (k : Int))) (N := 8) ?_ ?_ 8 0 _ (by omega) (by omega)
  · intro self k hk
    show ref01_Next_m1 _ _ ((tP k (s ^^^ c) : Nat) : Int) (k : Int) = _
    unfold ref01_Next_m1
    have hlt : tP k (s ^^^ c) < 65536 := tP_lt hx
    have e1 : tP (k + 1) (s ^^^ c) = tN (tP k (s ^^^ c)) := tP_add k 1 _
    rw [e1]
    generalize tP k (s ^^^ c) = x at hlt ⊢
    have er : rem (x : Int) 2 = ((x % 2 : Nat) : Int) := rem_nat (d := 2)
    have ek : add .i64 (k : Int) 1 = ((k + 1 : Nat) : Int) := succ64 (by omega)
    rw [if_pos (by rw [lt_iff]; omega), er, quo2 hlt]
    have e40 : bxor .u16 ((x / 2 : Nat) : Int) 40961 = ((x / 2 ^^^ 40961 : Nat) : Int) := bxor16 (m := 40961) (by omega) (by omega)
    rw [e40]
    unfold ref01_Next_K2 ref01_Next_m2 tN
    rw [ek]
    by_cases hm : x % 2 = 1
    · rw [if_pos (by rw [eqi_iff]; omega), if_pos hm]
    · rw [if_neg (by rw [eqi_iff]; omega), if_neg hm, Nat.xor_zero]
  · intro self
    rfl
theorem rsum_eq {b : List Int} (h : Byt b) (hl : b.length ≤ 100000) : ref01_Sum (b, ()) = some (sumV b, ()) := by
  show ref01_Sum_m0 ref01_Sum_K1 b = _
  unfold ref01_Sum_m0 ref01_Sum_K1
  refine (loop_idx (xs := b) (mk := fun i acc => (b, acc, (i : Int))) (stp := stepV) (fin := fun acc => some (acc, ())) (fun _ s => 0 ≤ s ∧ s < 65536) ?_ (fun _ _ _ _ _ => stepV_rng _ _) ?_ b.length 0 65535 _ (by omega) (by omega) (by decide)).trans ?_
  · intro self i acc x hx hI
    have hi := (List.getElem?_eq_some_iff.1 hx).1
    have hb := h x (List.mem_of_getElem? hx)
    show ref01_Sum_m1 _ b acc (i : Int) = _
    unfold ref01_Sum_m1
    obtain ⟨s, rfl⟩ := Int.eq_ofNat_of_zero_le hI.1
    obtain ⟨c, rfl⟩ := Int.eq_ofNat_of_zero_le hb.1
    rw [if_pos (by rw [lt_iff, ofNat_eq]; omega), at_get hx, Option.bind_some, rnext_eq (by omega) (by omega), Option.bind_some, succ64 (by omega)]
  · intro self acc _
    show ref01_Sum_m1 _ b acc (b.length : Int) = _
    unfold ref01_Sum_m1
    rw [if_neg (by rw [lt_iff, ofNat_eq]; omega)]
  · rfl
theorem rput_eq {b : List Int} (h : Byt b) (hl : b.length ≤ 100000) : ref01_Put (b, ()) = some (putV b, ()) := by
  show ref01_Put_m0 b = _
  unfold ref01_Put_m0
  have hs := sumV_rng b
  rw [need_small (by omega), rsum_eq h hl, Option.bind_some, need_small (by simp; omega), need_small (by simp; omega)]
  obtain ⟨n, hn⟩ := Int.eq_ofNat_of_zero_le hs.1
  dsimp only
  rw [hn]
  have e1 : rem (n : Int) 256 = ((n % 256 : Nat) : Int) := rem_nat (d := 256)
  have e2 : quo .u16 (n : Int) 256 = ((n / 256 : Nat) : Int) := by
    unfold quo
    have e : (n : Int).tdiv 256 = ((n / 256 : Nat) : Int) := by rw [show (256 : Int) = ((256 : Nat) : Int) from rfl, Int.ofNat_tdiv]
    rw [e]
    exact wu16 (by omega) (by omega)
  rw [e1, e2, cvt8, cvt8]
  unfold putV
  rw [hn]
  have e3 : ((n % 256 : Nat) : Int) % 256 = (n : Int) % 256 := by omega
  have e4 : ((n / 256 : Nat) : Int) % 256 = (n : Int) / 256 := by omega
  rw [e3, e4]
  simp
/-! ### what may be -/
theorem may_eq (u l t r : Int) : ref22_may (u, l, t, r, ()) = some (rangesV u l t r, ()) := by
  show ref22_may_m0 u l t r = _
  unfold ref22_may_m0 rangesV
  rw [if_dec ge_iff fun _ => if_dec le_iff fun _ => if_dec ge_iff fun _ => if_dec le_iff fun _ => if_dec ge_iff fun _ => if_dec le_iff fun _ => if_dec ge_iff fun _ => rfl]
  refine congrArg (fun x => some (x, ())) ?_
  rw [Bool.eq_iff_iff]
  simp only [Bool.and_eq_true, decide_eq_true_eq, le_iff]
  omega
theorem rnew_eq (u l t r : Int) : ref22_New (u, l, t, r, ()) = poll_New (u, l, t, r, ()) := by
  rw [new_eq]
  show ref22_New_m0 u l t r = _
  unfold ref22_New_m0
  rw [may_eq, Option.bind_some]
  cases rangesV u l t r <;> rfl
theorem rdrop_eq (p : TP) : ref22_Drop (p, ()) = some (dropP p, ()) := rfl
theorem rcopy_eq {p : TP} (h1 : p.2.2.2.2.2.1.2.2.2.2.1.length ≤ 1000000) (h2 : p.2.2.2.2.2.1.2.2.2.2.2.length ≤ 1000000) : ref22_Copy (p, ()) = some (p, ()) := by
  show ref22_Copy_m0 p = _
  unfold ref22_Copy_m0
  rw [need_small (by omega), need_small (by omega)]
  rfl
/-! ### which requests are right, and the same -/
theorem rright_eq {a : TA} (h : OkA a) : ref02_Right (a, ()) = some (rightA a, ()) := by
  obtain ⟨f, p, n, t, ws, bs⟩ := a
  have h1 := h.m0
  have h2 := h.m1
  dsimp only at h1 h2
  show ref02_Right_m0 ref02_Right_K1 (f, p, n, t, ws, bs) = _
  unfold ref02_Right_m0
  dsimp only
  rw [cvt64 (by omega) (by omega)]
  have K : ∀ b : Bool, ref02_Right_K1 (Int.ofNat bs.length) (Int.ofNat ws.length) n b (f, p, n, t, ws, bs) = if b = true then some (false, ()) else ref02_Right_K1 (Int.ofNat bs.length) (Int.ofNat ws.length) n false (f, p, n, t, ws, bs) := fun b => by cases b <;> rfl
  rw [K (nei t 0)]
  unfold rightA
  dsimp only
  have z : ∀ x : Int, withinV x 0 = decide (x = 0) := fun x => rfl
  have w : ∀ (x m : Int), 0 < m → withinV x m = (decide (1 ≤ x) && decide (x ≤ m)) := fun x m hm => by
    unfold withinV
    rw [if_neg (by rw [eqi_iff]; omega)]
    by_cases hx : 1 ≤ x
    · rw [if_pos (ge_iff.2 hx), decide_eq_true hx]; rfl
    · rw [if_neg (fun e => hx (ge_iff.1 e)), decide_eq_false hx]; rfl
  have et : nei t 0 = !eqi t 0 := rfl
  have fin : ∀ (x : Bool) (s : Int × Int × Int × Bool × Bool), s.2.2.2.1 = false → ((if nei t 0 = true then (some (false, ()) : BB) else some (x, ())) = some (rightS (f, p, n, t, ws, bs) s, ()) ↔ (eqi t 0 = true → (x = true ↔ (withinV n s.1 && (withinV (Int.ofNat bs.length) s.2.1 && (withinV (Int.ofNat ws.length) s.2.2.1 && (!s.2.2.2.2 || eqi (Int.ofNat bs.length + Int.ofNat ws.length) n)))) = true))) := by
    rintro x ⟨s1, s2, s3, s4, s5⟩ rfl
    rw [et]
    unfold rightS
    dsimp only
    cases eqi t 0 with
    | true =>
      rw [if_neg (by decide), Bool.or_true, Bool.true_and, ← Bool.eq_iff_iff]
      constructor
      · intro h _
        exact congrArg (fun o : BB => o.elim false (·.1)) h
      · intro h
        rw [h rfl]
    | false =>
      rw [if_pos (by decide)]
      constructor
      · intro _ h; cases h
      · intro _; rfl
  have hb : ∀ x : Nat, (Int.ofNat x = 0) = (x = 0) := fun x => by rw [ofNat_eq]; exact propext (by omega)
  have ws0 : 0 ≤ Int.ofNat ws.length := Int.natCast_nonneg _
  have bs0 : 0 ≤ Int.ofNat bs.length := Int.natCast_nonneg _
  generalize hlb : Int.ofNat bs.length = lb at *
  generalize hlw : Int.ofNat ws.length = lw at *
  have bi : ∀ (x y : Bool), x = true → ((x && y) = true ↔ y = true) := fun x y h => by rw [h]; rfl
  rcases shp_cases f with ⟨hf, e⟩ | ⟨hf, e⟩ | ⟨hf, e⟩ | ⟨hf, e⟩ | ⟨hf, e⟩ | ⟨hf, e⟩ | ⟨hf, e⟩ | ⟨hf, e⟩ <;> rw [e]
  · rcases hf with rfl | rfl
    · have k : ref02_Right_K1 lb lw n false (1, p, n, t, ws, bs) = if eqi lb 0 = true then if eqi lw 0 = true then if ge n 1 = true then some (le n 2000, ()) else some (false, ()) else some (false, ()) else some (false, ()) := rfl
      rw [k, if_dec eqi_iff fun _ => if_dec eqi_iff fun _ => if_dec ge_iff fun _ => rfl, if_pos (by decide)]
      refine (fin _ _ rfl).2 fun _ => ?_
      simp only [w n 2000 (by decide), z, eqi_iff, le_iff, ge_iff, Bool.and_eq_true, decide_eq_true_eq, Bool.not_false, Bool.not_true, Bool.true_or, Bool.false_or, and_true]
      omega
    · have k : ref02_Right_K1 lb lw n false (2, p, n, t, ws, bs) = if eqi lb 0 = true then if eqi lw 0 = true then if ge n 1 = true then some (le n 2000, ()) else some (false, ()) else some (false, ()) else some (false, ()) := rfl
      rw [k, if_dec eqi_iff fun _ => if_dec eqi_iff fun _ => if_dec ge_iff fun _ => rfl, if_pos (by decide)]
      refine (fin _ _ rfl).2 fun _ => ?_
      simp only [w n 2000 (by decide), z, eqi_iff, le_iff, ge_iff, Bool.and_eq_true, decide_eq_true_eq, Bool.not_false, Bool.not_true, Bool.true_or, Bool.false_or, and_true]
      omega
  · rcases hf with rfl | rfl
    · have k : ref02_Right_K1 lb lw n false (3, p, n, t, ws, bs) = if eqi lb 0 = true then if eqi lw 0 = true then if ge n 1 = true then some (le n 125, ()) else some (false, ()) else some (false, ()) else some (false, ()) := rfl
      rw [k, if_dec eqi_iff fun _ => if_dec eqi_iff fun _ => if_dec ge_iff fun _ => rfl, if_pos (by decide)]
      refine (fin _ _ rfl).2 fun _ => ?_
      simp only [w n 125 (by decide), z, eqi_iff, le_iff, ge_iff, Bool.and_eq_true, decide_eq_true_eq, Bool.not_false, Bool.not_true, Bool.true_or, Bool.false_or, and_true]
      omega
    · have k : ref02_Right_K1 lb lw n false (4, p, n, t, ws, bs) = if eqi lb 0 = true then if eqi lw 0 = true then if ge n 1 = true then some (le n 125, ()) else some (false, ()) else some (false, ()) else some (false, ()) := rfl
      rw [k, if_dec eqi_iff fun _ => if_dec eqi_iff fun _ => if_dec ge_iff fun _ => rfl, if_pos (by decide)]
      refine (fin _ _ rfl).2 fun _ => ?_
      simp only [w n 125 (by decide), z, eqi_iff, le_iff, ge_iff, Bool.and_eq_true, decide_eq_true_eq, Bool.not_false, Bool.not_true, Bool.true_or, Bool.false_or, and_true]
      omega
  · subst hf
    · have k : ref02_Right_K1 lb lw n false (5, p, n, t, ws, bs) = if eqi lb 1 = true then if eqi lw 0 = true then some (eqi n 0, ()) else some (false, ()) else some (false, ()) := rfl
      rw [k, if_dec eqi_iff fun _ => if_dec eqi_iff fun _ => rfl, if_pos (by decide)]
      refine (fin _ _ rfl).2 fun _ => ?_
      simp only [w lb 1 (by decide), z, eqi_iff, le_iff, ge_iff, Bool.and_eq_true, decide_eq_true_eq, Bool.not_false, Bool.not_true, Bool.true_or, Bool.false_or, and_true]
      omega
  · subst hf
    · have k : ref02_Right_K1 lb lw n false (6, p, n, t, ws, bs) = if eqi lb 0 = true then if eqi lw 1 = true then some (eqi n 0, ()) else some (false, ()) else some (false, ()) := rfl
      rw [k, if_dec eqi_iff fun _ => if_dec eqi_iff fun _ => rfl, if_pos (by decide)]
      refine (fin _ _ rfl).2 fun _ => ?_
      simp only [w lw 1 (by decide), z, eqi_iff, le_iff, ge_iff, Bool.and_eq_true, decide_eq_true_eq, Bool.not_false, Bool.not_true, Bool.true_or, Bool.false_or, and_true]
      omega
  · subst hf
    · have k : ref02_Right_K1 lb lw n false (15, p, n, t, ws, bs) = if eqi lb n = true then if eqi lw 0 = true then if ge n 1 = true then some (le n 1968, ()) else some (false, ()) else some (false, ()) else some (false, ()) := rfl
      rw [k, if_dec eqi_iff fun _ => if_dec eqi_iff fun _ => if_dec ge_iff fun _ => rfl, if_pos (by decide)]
      refine (fin _ _ rfl).2 fun _ => ?_
      simp only [w n 1968 (by decide), w lb 1968 (by decide), z, eqi_iff, le_iff, ge_iff, Bool.and_eq_true, decide_eq_true_eq, Bool.not_false, Bool.not_true, Bool.true_or, Bool.false_or, and_true]
      omega
  · subst hf
    · have k : ref02_Right_K1 lb lw n false (16, p, n, t, ws, bs) = if eqi lb 0 = true then if eqi lw n = true then if ge n 1 = true then some (le n 123, ()) else some (false, ()) else some (false, ()) else some (false, ()) := rfl
      rw [k, if_dec eqi_iff fun _ => if_dec eqi_iff fun _ => if_dec ge_iff fun _ => rfl, if_pos (by decide)]
      refine (fin _ _ rfl).2 fun _ => ?_
      simp only [w n 123 (by decide), w lw 123 (by decide), z, eqi_iff, le_iff, ge_iff, Bool.and_eq_true, decide_eq_true_eq, Bool.not_false, Bool.not_true, Bool.true_or, Bool.false_or, and_true]
      omega
  · subst hf
    have k : ref02_Right_K1 lb lw n false (23, p, n, t, ws, bs) = if eqi lb 0 = true then if ge lw 1 = true then if le lw 121 = true then if ge n 1 = true then some (le n 125, ()) else some (false, ()) else some (false, ()) else some (false, ()) else some (false, ()) := rfl
    rw [k, if_dec eqi_iff fun _ => if_dec ge_iff fun _ => if_dec le_iff fun _ => if_dec ge_iff fun _ => rfl, if_neg (by decide)]
    refine congrArg (fun x => some (x, ())) ?_
    rw [Bool.eq_iff_iff]
    unfold rightS
    dsimp only
    rw [hlb, hlw]
    simp only [w n 125 (by decide), w lw 121 (by decide), z, eqi_iff, le_iff, ge_iff, Bool.and_eq_true, decide_eq_true_eq, Bool.not_false, Bool.not_true, Bool.true_or, Bool.false_or, and_true, true_and]
    omega
  · obtain ⟨q1, q2, q3, q4, q5, q6, q7, q8, q9⟩ := hf
    have nf : ∀ k : Int, f ≠ k → eqi f k = false := fun k hk => by rw [← Bool.not_eq_true, eqi_iff]; exact hk
    have k : ref02_Right_K1 lb lw n false (f, p, n, t, ws, bs) = some (false, ()) := by
      unfold ref02_Right_K1 ref02_Right_m1 ref02_Right_K2 ref02_Right_m2 ref02_Right_K3 ref02_Right_m3
      simp only [nf _ q1, nf _ q2, nf _ q3, nf _ q4, nf _ q5, nf _ q6, nf _ q7, nf _ q8, nf _ q9, Bool.false_eq_true, if_false]
    rw [k]
    cases nei f 23 <;> cases nei t 0 <;> rfl
end Go.Proofs.Lx

end

section
/- The document's answers for polls: which are the same, bytes, frames, what is sent. -/
namespace Pl
open Go Ev Sx
theorem goL_eqk {α R : Type} [DecidableEq α] {ne : α → α → Bool} (hne : ∀ a b, ne a b = !decide (a = b)) {no : Option R} {fin : Unit → Option R} : ∀ (s1 s2 : List α), s1.length = s2.length →
    goL (fun (_ : Unit) (x : α × α) k => if ne x.1 x.2 = true then no else k ()) fin (s1.zip s2) () = if s1 = s2 then fin () else no
  | [], [], _ => rfl
  | a :: r, b :: q, h => by
    rw [List.zip_cons_cons]
    show (if ne a b = true then no else goL _ _ (r.zip q) ()) = _
    rw [hne]
    by_cases e : a = b
    · subst e
      rw [if_neg (by simp), goL_eqk hne r q (by simpa using h)]
      by_cases e2 : r = q
      · rw [if_pos e2, if_pos (by rw [e2])]
      · rw [if_neg e2, if_neg (fun e => e2 (List.cons.inj e).2)]
    · rw [if_pos (by simp [e]), if_neg (fun h => e (List.cons.inj h).1)]
end Pl
namespace Go.Proofs.Lx
open Go Ev Sx Pl
set_option maxRecDepth 100000
theorem rsame_K4 {a b : TA} (hl : a.2.2.2.2.2.length = b.2.2.2.2.2.length) (h : a.2.2.2.2.2.length ≤ 1000000) : ref02_Same_K4 0 a b = if a.2.2.2.2.2 = b.2.2.2.2.2 then some (true, ()) else some (false, ()) := by
  have hz : (a.2.2.2.2.2.zip b.2.2.2.2.2).length = a.2.2.2.2.2.length := by rw [List.length_zip]; omega
  unfold ref02_Same_K4
  rw [← goL_eqk (R := As [.bool]) (ne := neb) (no := some (false, ())) (fin := fun _ => some (true, ())) (fun a b => by cases a <;> cases b <;> rfl) a.2.2.2.2.2 b.2.2.2.2.2 hl]
  refine loop_go (xs := a.2.2.2.2.2.zip b.2.2.2.2.2) (mk := fun i _ => ((i : Int), a, b)) ?_ ?_ a.2.2.2.2.2.length 0 () _ (by rw [hz]; omega) (by omega)
  · intro self i acc x hx
    have hi := (List.getElem?_eq_some_iff.1 hx).1
    obtain ⟨h1, h2⟩ := zip_at hl hx
    show ref02_Same_m4 _ (i : Int) a b = _
    unfold ref02_Same_m4
    rw [if_pos (by rw [lt_iff, ofNat_eq]; omega), at_get h1, Option.bind_some, at_get h2, Option.bind_some, succ64 (by omega)]
  · intro self acc
    show ref02_Same_m4 _ (((a.2.2.2.2.2.zip b.2.2.2.2.2).length : Nat) : Int) a b = _
    unfold ref02_Same_m4
    rw [if_neg (by rw [lt_iff, ofNat_eq]; omega)]
theorem rsame_K2 {a b : TA} (hl : a.2.2.2.2.1.length = b.2.2.2.2.1.length) (h : a.2.2.2.2.1.length ≤ 1000000) (hl2 : a.2.2.2.2.2.length = b.2.2.2.2.2.length) (h2 : a.2.2.2.2.2.length ≤ 1000000) :
    ref02_Same_K2 0 a b = if a.2.2.2.2.1 = b.2.2.2.2.1 then if a.2.2.2.2.2 = b.2.2.2.2.2 then some (true, ()) else some (false, ()) else some (false, ()) := by
  have hz : (a.2.2.2.2.1.zip b.2.2.2.2.1).length = a.2.2.2.2.1.length := by rw [List.length_zip]; omega
  rw [← rsame_K4 hl2 h2]
  unfold ref02_Same_K2
  rw [← goL_eqk (R := As [.bool]) (ne := nei) (no := some (false, ())) (fin := fun _ => ref02_Same_K4 0 a b) (fun a b => by simp [nei]; rfl) a.2.2.2.2.1 b.2.2.2.2.1 hl]
  refine loop_go (xs := a.2.2.2.2.1.zip b.2.2.2.2.1) (mk := fun i _ => ((i : Int), a, b)) ?_ ?_ a.2.2.2.2.1.length 0 () _ (by rw [hz]; omega) (by omega)
  · intro self i acc x hx
    have hi := (List.getElem?_eq_some_iff.1 hx).1
    obtain ⟨h1, h2⟩ := zip_at hl hx
    show ref02_Same_m2 _ _ (i : Int) a b = _
    unfold ref02_Same_m2
    rw [if_pos (by rw [lt_iff, ofNat_eq]; omega), at_get h1, Option.bind_some, at_get h2, Option.bind_some, succ64 (by omega)]
  · intro self acc
    show ref02_Same_m2 _ _ (((a.2.2.2.2.1.zip b.2.2.2.2.1).length : Nat) : Int) a b = _
    unfold ref02_Same_m2
    rw [if_neg (by rw [lt_iff, ofNat_eq]; omega)]
    rfl
theorem rsameA_eq {a b : TA} (h1 : a.2.2.2.2.1.length ≤ 1000000) (h2 : a.2.2.2.2.2.length ≤ 1000000) : ref02_Same (a, b, ()) = some (decide (a = b), ()) := by
  show ref02_Same_m0 ref02_Same_K1 a b = _
  unfold ref02_Same_m0
  have kt : ref02_Same_K1 true a b = some (false, ()) := rfl
  have kf : ref02_Same_K1 false a b = ref02_Same_K2 0 a b := rfl
  by_cases e1 : a.1 = b.1
  · rw [if_neg (by rw [nei_iff]; exact fun e => e e1)]
    by_cases e2 : a.2.1 = b.2.1
    · rw [if_neg (by rw [nei_iff]; exact fun e => e e2)]
      by_cases e3 : a.2.2.1 = b.2.2.1
      · rw [if_neg (by rw [nei_iff]; exact fun e => e e3)]
        by_cases e4 : a.2.2.2.1 = b.2.2.2.1
        · rw [if_neg (by rw [nei_iff]; exact fun e => e e4)]
          by_cases e5 : a.2.2.2.2.1.length = b.2.2.2.2.1.length
          · rw [if_neg (by rw [nei_iff, ofNat_eq, ofNat_eq]; omega)]
            by_cases e6 : a.2.2.2.2.2.length = b.2.2.2.2.2.length
            · have e : nei (Int.ofNat a.2.2.2.2.2.length) (Int.ofNat b.2.2.2.2.2.length) = false := by rw [← Bool.not_eq_true, nei_iff, ofNat_eq, ofNat_eq]; omega
              rw [e, kf, rsame_K2 e5 h1 e6 h2]
              by_cases e7 : a.2.2.2.2.1 = b.2.2.2.2.1
              · by_cases e8 : a.2.2.2.2.2 = b.2.2.2.2.2
                · have : a = b := Prod.ext e1 (Prod.ext e2 (Prod.ext e3 (Prod.ext e4 (Prod.ext e7 e8))))
                  rw [if_pos e7, if_pos e8, decide_eq_true this]
                · rw [if_pos e7, if_neg e8, decide_eq_false (fun e => e8 (by rw [e]))]
              · rw [if_neg e7, decide_eq_false (fun e => e7 (by rw [e]))]
            · have e : nei (Int.ofNat a.2.2.2.2.2.length) (Int.ofNat b.2.2.2.2.2.length) = true := by rw [nei_iff, ofNat_eq, ofNat_eq]; omega
              rw [e, kt, decide_eq_false (fun e => e6 (by rw [e]))]
          · rw [if_pos (by rw [nei_iff, ofNat_eq, ofNat_eq]; omega), kt, decide_eq_false (fun e => e5 (by rw [e]))]
        · rw [if_pos (by rw [nei_iff]; exact e4), kt, decide_eq_false (fun e => e4 (by rw [e]))]
      · rw [if_pos (by rw [nei_iff]; exact e3), kt, decide_eq_false (fun e => e3 (by rw [e]))]
    · rw [if_pos (by rw [nei_iff]; exact e2), kt, decide_eq_false (fun e => e2 (by rw [e]))]
  · rw [if_pos (by rw [nei_iff]; exact e1), kt, decide_eq_false (fun e => e1 (by rw [e]))]
theorem rsamep_eq {a b : TP} (h1 : a.2.2.2.2.2.1.2.2.2.2.1.length ≤ 1000000) (h2 : a.2.2.2.2.2.1.2.2.2.2.2.length ≤ 1000000) : ref22_Same (a, b, ()) = some (decide (a = b), ()) := by
  show ref22_Same_m0 ref22_Same_K1 a b = _
  unfold ref22_Same_m0
  have kt : ref22_Same_K1 true a b = some (false, ()) := rfl
  have kf : ref22_Same_K1 false a b = some (decide (a.2.2.2.2.1 = b.2.2.2.2.1) && (decide (a.2.2.2.2.2.2.1 = b.2.2.2.2.2.2.1) && (decide (a.2.2.2.2.2.2.2.1 = b.2.2.2.2.2.2.2.1) && (decide (a.2.2.2.2.2.2.2.2 = b.2.2.2.2.2.2.2.2) && decide (a.2.2.2.2.2.1 = b.2.2.2.2.2.1)))), ()) := by
    unfold ref22_Same_K1 ref22_Same_m1
    rw [rsameA_eq h1 h2, Option.bind_some, if_neg (by decide), if_dec eqb_iff fun _ => if_dec eqi_iff fun _ => if_dec eqi_iff fun _ => if_dec eqi_iff fun _ => rfl]
  by_cases e1 : a.1 = b.1
  · rw [if_neg (by rw [nei_iff]; exact fun e => e e1)]
    by_cases e2 : a.2.1 = b.2.1
    · rw [if_neg (by rw [nei_iff]; exact fun e => e e2)]
      by_cases e3 : a.2.2.1 = b.2.2.1
      · rw [if_neg (by rw [nei_iff]; exact fun e => e e3)]
        by_cases e4 : a.2.2.2.1 = b.2.2.2.1
        · have e : nei a.2.2.2.1 b.2.2.2.1 = false := by rw [← Bool.not_eq_true, nei_iff]; exact fun e => e e4
          rw [e, kf]
          refine congrArg (fun x => some (x, ())) ?_
          rw [Bool.eq_iff_iff]
          simp only [Bool.and_eq_true, decide_eq_true_eq]
          constructor
          · rintro ⟨q1, q2, q3, q4, q5⟩
            exact Prod.ext e1 (Prod.ext e2 (Prod.ext e3 (Prod.ext e4 (Prod.ext q1 (Prod.ext q5 (Prod.ext q2 (Prod.ext q3 q4)))))))
          · rintro rfl
            exact ⟨rfl, rfl, rfl, rfl, rfl⟩
        · have e : nei a.2.2.2.1 b.2.2.2.1 = true := nei_iff.2 e4
          rw [e, kt, decide_eq_false (fun e => e4 (by rw [e]))]
      · rw [if_pos (by rw [nei_iff]; exact e3), kt, decide_eq_false (fun e => e3 (by rw [e]))]
    · rw [if_pos (by rw [nei_iff]; exact e2), kt, decide_eq_false (fun e => e2 (by rw [e]))]
  · rw [if_pos (by rw [nei_iff]; exact e1), kt, decide_eq_false (fun e => e1 (by rw [e]))]
/-! ### bytes -/
theorem rtwo_eq {x : Int} {b : List Int} (h0 : 0 ≤ x) (h1 : x ≤ 65535) (hl : b.length ≤ 1000000) : ref02_Two (x, b, ()) = some (b ++ two x, ()) := by
  show ref02_Two_m0 x b = _
  unfold ref02_Two_m0
  obtain ⟨n, rfl⟩ := Int.eq_ofNat_of_zero_le h0
  have e1 : quo .i64 (n : Int) 256 = ((n / 256 : Nat) : Int) := quo_nat (d := 256) (by omega)
  have e2 : rem (n : Int) 256 = ((n % 256 : Nat) : Int) := rem_nat (d := 256)
  rw [need_small (by omega), need_small (by simp; omega), e1, e2, cvt8, cvt8]
  unfold two
  have e3 : ((n % 256 : Nat) : Int) % 256 = (n : Int) % 256 := by omega
  have e4 : ((n / 256 : Nat) : Int) % 256 = (n : Int) / 256 % 256 := by omega
  rw [e3, e4]
  simp
theorem rwords_eq {l out : List Int} (hw : ∀ x ∈ l, 0 ≤ x ∧ x ≤ 65535) (h : out.length + 2 * l.length ≤ 1000000) : ref02_Words (l, out, ()) = some (out ++ l.flatMap two, ()) := by
  show ref02_Words_m0 ref02_Words_K1 l out = _
  unfold ref02_Words_m0 ref02_Words_K1
  refine (loop_idx (xs := l) (mk := fun i acc => (l, (i : Int), acc)) (stp := fun o y => o ++ two y) (fin := fun acc => some (acc, ())) (fun i acc => acc.length ≤ out.length + 2 * i) ?_ ?_ ?_ l.length 0 out _ (by omega) (by omega) (by omega)).trans ?_
  · intro self i acc x hx hI
    have hi := (List.getElem?_eq_some_iff.1 hx).1
    have hxr := hw x (List.mem_of_getElem? hx)
    show ref02_Words_m1 _ l (i : Int) acc = _
    unfold ref02_Words_m1
    rw [if_pos (by rw [lt_iff, ofNat_eq]; omega), at_get hx, Option.bind_some, cvt64 (by omega) (by omega), rtwo_eq hxr.1 hxr.2 (by omega), Option.bind_some, succ64 (by omega)]
  · intro i acc x hx hI
    simp [two]
    omega
  · intro self acc _
    show ref02_Words_m1 _ l (l.length : Int) acc = _
    unfold ref02_Words_m1
    rw [if_neg (by rw [lt_iff, ofNat_eq]; omega)]
  · rw [List.drop_zero, foldl_app]
end Go.Proofs.Lx

end

section
/- The document's answers for polls: packed bits, bytes, frames, what is sent. -/
namespace Go.Proofs.Lx
open Go Ev Sx Pl
set_option maxRecDepth 100000
def chV (l : List Bool) (m : Nat) : Int := byteV ((l.drop m).take (8 - m))
theorem chV_8 (l : List Bool) : chV l 8 = 0 := by
  unfold chV
  simp [byteV]
theorem chV_step {l : List Bool} {k : Nat} (h : k < 8) : chV l k = (if l.getD k false = true then 1 else 0) + 2 * chV l (k + 1) := by
  unfold chV
  by_cases hk : k < l.length
  · have e : 8 - k = (8 - (k + 1)) + 1 := by omega
    rw [List.drop_eq_getElem_cons hk, e, List.take_succ_cons, List.getD_eq_getElem?_getD, List.getElem?_eq_getElem hk]
    rfl
  · rw [List.drop_of_length_le (by omega), List.drop_of_length_le (by omega), List.getD_eq_getElem?_getD, List.getElem?_eq_none (by omega)]
    simp [byteV]
theorem chV_rng (l : List Bool) (m : Nat) : 0 ≤ chV l m ∧ chV l m < 256 := byteV_256 (by simp; omega)
theorem rpack_in {u : List Bool → Int → List Int → Option (As [.sl (.int .u8)])} {bits : List Bool} {q : Nat} {out : List Int} (hl : bits.length ≤ 100000) (hq : 8 * q ≤ 100000) (ho : out.length ≤ 100000) :
    ref02_Pack_K2 u bits ((8 * q : Nat) : Int) 0 7 out = u bits ((8 * (q + 1) : Nat) : Int) (out ++ [byteV ((bits.drop (8 * q)).take 8)]) := by
  unfold ref02_Pack_K2
  have e0 : chV (bits.drop (8 * q)) 8 = 0 := chV_8 _
  refine (loop_det (mk := fun j => (bits, ((8 * q : Nat) : Int), chV (bits.drop (8 * q)) (8 - j), (7 : Int) - (j : Int), out)) (N := 8) ?_ ?_ 8 0 _ (by omega) (by omega))
  · intro self j hj
    obtain ⟨k, hk⟩ : ∃ k, k + j = 7 := ⟨7 - j, by omega⟩
    have e8 : 8 - j = k + 1 := by omega
    have e7 : 8 - (j + 1) = k := by omega
    have ek : (7 : Int) - (j : Int) = (k : Int) := by omega
    have ek2 : (7 : Int) - ((j + 1 : Nat) : Int) = (k : Int) - 1 := by omega
    rw [e8, e7, ek, ek2]
    have hr := chV_rng (bits.drop (8 * q)) (k + 1)
    have hst := chV_step (l := bits.drop (8 * q)) (k := k) (by omega)
    have hg : (bits.drop (8 * q)).getD k false = bits.getD (8 * q + k) false := by rw [List.getD_eq_getElem?_getD, List.getElem?_drop, ← List.getD_eq_getElem?_getD]
    rw [hg] at hst
    show ref02_Pack_m2 _ _ u _ bits ((8 * q : Nat) : Int) (chV (bits.drop (8 * q)) (k + 1)) (k : Int) out = _
    unfold ref02_Pack_m2
    have ea : add .i64 ((8 * q : Nat) : Int) (k : Int) = ((8 * q + k : Nat) : Int) := addn64 (by omega)
    have es : sub .i64 (k : Int) 1 = (k : Int) - 1 := sub64 (by omega) (by omega)
    rw [if_pos (by rw [ge_iff]; omega), ea, mul64 (by omega) (by omega)]
    have K3 : ∀ (t : Bool) (s : List Bool → Int → Int → Int → List Int → Option (As [.sl (.int .u8)])), ref02_Pack_K3 u s bits ((8 * q : Nat) : Int) (chV (bits.drop (8 * q)) (k + 1) * 2) (k : Int) t out = s bits ((8 * q : Nat) : Int) ((if t = true then 1 else 0) + 2 * chV (bits.drop (8 * q)) (k + 1)) ((k : Int) - 1) out := fun t s => by
      unfold ref02_Pack_K3 ref02_Pack_m3 ref02_Pack_K5 ref02_Pack_m5
      rw [es]
      cases t with
      | true =>
        rw [if_pos rfl, add64 (by omega) (by omega), if_pos rfl]
        congr 1
        omega
      | false =>
        rw [if_neg (by decide), if_neg (by decide)]
        congr 1
        omega
    by_cases hlt : 8 * q + k < bits.length
    · have hy : bits[8 * q + k]? = some (bits[8 * q + k]'hlt) := List.getElem?_eq_getElem hlt
      rw [if_pos (by rw [lt_iff, ofNat_eq]; omega), at_get hy, Option.bind_some, K3, hst, List.getD_eq_getElem?_getD, hy]
      rfl
    · rw [if_neg (by rw [lt_iff, ofNat_eq]; omega), K3, hst, List.getD_eq_getElem?_getD, List.getElem?_eq_none (by omega)]
      rfl
  · intro self
    have hr := chV_rng (bits.drop (8 * q)) 0
    have e9 : chV (bits.drop (8 * q)) (8 - 8) = byteV ((bits.drop (8 * q)).take 8) := rfl
    show ref02_Pack_m2 _ _ u _ bits ((8 * q : Nat) : Int) (chV (bits.drop (8 * q)) (8 - 8)) ((7 : Int) - ((8 : Nat) : Int)) out = _
    unfold ref02_Pack_m2
    rw [if_neg (by rw [ge_iff]; omega)]
    unfold ref02_Pack_K4 ref02_Pack_m4 ref02_Pack_K6 ref02_Pack_m6
    have ea : add .i64 ((8 * q : Nat) : Int) 8 = ((8 * (q + 1) : Nat) : Int) := addn64 (m := 8) (by omega)
    rw [need_small (by omega), ea, e9, cvt8]
    have hr2 := byteV_256 (t := (bits.drop (8 * q)).take 8) (by simp; omega)
    have : byteV ((bits.drop (8 * q)).take 8) % 256 = byteV ((bits.drop (8 * q)).take 8) := by omega
    rw [this]
theorem rpack_eq {bits : List Bool} (h : bits.length ≤ 50000) : ref02_Pack (bits, ()) = some (packS bits, ()) := by
  show ref02_Pack_m0 ref02_Pack_K1 bits = _
  unfold ref02_Pack_m0 ref02_Pack_K1
  have hN : packN bits.length ≤ 10000 := by unfold packN; omega
  refine (loop_det (mk := fun q => (bits, ((8 * q : Nat) : Int), (packS bits).take q)) (N := packN bits.length) ?_ ?_ (packN bits.length) 0 _ (by omega) (by omega))
  · intro self q hq
    show ref02_Pack_m1 _ _ bits ((8 * q : Nat) : Int) ((packS bits).take q) = _
    unfold ref02_Pack_m1
    have hlt : 8 * q < bits.length := by unfold packN at hq; omega
    rw [if_pos (by rw [lt_iff, ofNat_eq]; omega)]
    refine (rpack_in (by omega) (by omega) (by simp; omega)).trans ?_
    have e : (packS bits).take (q + 1) = (packS bits).take q ++ [byteV ((bits.drop (8 * q)).take 8)] := by
      have hg : (packS bits)[q]? = some (byteV ((bits.drop (8 * q)).take 8)) := by
        unfold packS
        rw [List.getElem?_map, List.getElem?_range hq]
        rfl
      rw [List.take_add_one, hg]
      rfl
    rw [e]
  · intro self
    show ref02_Pack_m1 _ _ bits ((8 * packN bits.length : Nat) : Int) ((packS bits).take (packN bits.length)) = _
    unfold ref02_Pack_m1
    rw [if_neg (by rw [lt_iff, ofNat_eq]; unfold packN; omega), List.take_of_length_le (by rw [packS_len]; omega)]
end Go.Proofs.Lx

end

section
/- The document's answers for polls: bytes, frames, what is sent. -/
namespace Go.Proofs.Lx
open Go Ev Sx Pl
set_option maxRecDepth 100000
theorem rright22_eq {p : TP} (ha : OkA p.2.2.2.2.2.1) : ref22_Right (p, ()) = poll_Right (p, ()) := by
  show ref22_Right_m0 p = poll_Right_m0 p
  unfold ref22_Right_m0 poll_Right_m0
  have h1 := ha.lw
  have h2 := ha.lb
  rw [may_eq, ranges_eq, rright_eq ha, right_eq ha, rsameA_eq (by omega) (by omega), sameA_eq (by omega) (by omega)]
  simp only [Option.bind_some]
  cases rangesV p.1 p.2.1 p.2.2.1 p.2.2.2.1 with
  | false => rfl
  | true => cases p.2.2.2.2.1 <;> rfl
theorem rbytes02_eq {a : TA} (h : OkA a) : ref02_Bytes (a, ()) = if rightA a = true then some (askB a, 0, ()) else some ([], 12, ()) := by
  show ref02_Bytes_m0 ref02_Bytes_K1 ref02_Bytes_K2 ref02_Bytes_K3 a = _
  unfold ref02_Bytes_m0
  rw [rright_eq h, Option.bind_some]
  cases hr : rightA a with
  | false => rfl
  | true =>
    have hra := rightA_RA hr
    have hat0 := h.at0
    have hat1 := h.at1
    have hm0 := h.m0
    have hm1 := h.m1
    have ht0 := h.t0
    have ht1 := h.t1
    have hw := h.w
    rw [if_neg (by decide), if_pos rfl, cvt64 (by omega) (by omega), rtwo_eq hat0 hat1 (by simp), Option.bind_some]
    clear hr h
    have K2 : ∀ o : List Int, ref02_Bytes_K2 o = some (o, 0, ()) := fun _ => rfl
    have K1 : ∀ (x : Int) (o : List Int), 0 ≤ x → x ≤ 65535 → o.length ≤ 1000000 → ref02_Bytes_K1 x o = some (o ++ two x, 0, ()) := fun x o h0 h1 h2 => by
      unfold ref02_Bytes_K1 ref02_Bytes_m1
      rw [rtwo_eq h0 h1 h2, Option.bind_some, K2]
    cases hra with
    | bits f p n hf h1 h2 =>
      rcases hf with rfl | rfl
      · show Option.bind (ref02_Two (cvt .i64 n, [1] ++ two p, ())) (fun y => ref02_Bytes_K2 y.1) = _
        rw [cvt64 (by dsimp only at hm0 hm1; omega) (by dsimp only at hm0 hm1; omega), rtwo_eq hm0 hm1 (by simp [two]), Option.bind_some, K2]
        rfl
      · show Option.bind (ref02_Two (cvt .i64 n, [2] ++ two p, ())) (fun y => ref02_Bytes_K2 y.1) = _
        rw [cvt64 (by dsimp only at hm0 hm1; omega) (by dsimp only at hm0 hm1; omega), rtwo_eq hm0 hm1 (by simp [two]), Option.bind_some, K2]
        rfl
    | words f p n hf h1 h2 =>
      rcases hf with rfl | rfl
      · show Option.bind (ref02_Two (cvt .i64 n, [3] ++ two p, ())) (fun y => ref02_Bytes_K2 y.1) = _
        rw [cvt64 (by dsimp only at hm0 hm1; omega) (by dsimp only at hm0 hm1; omega), rtwo_eq hm0 hm1 (by simp [two]), Option.bind_some, K2]
        rfl
      · show Option.bind (ref02_Two (cvt .i64 n, [4] ++ two p, ())) (fun y => ref02_Bytes_K2 y.1) = _
        rw [cvt64 (by dsimp only at hm0 hm1; omega) (by dsimp only at hm0 hm1; omega), rtwo_eq hm0 hm1 (by simp [two]), Option.bind_some, K2]
        rfl
    | coil p b =>
      cases b with
      | true => exact (K1 65280 ([5] ++ two p) (by decide) (by decide) (by simp [two])).trans rfl
      | false => exact (K1 0 ([5] ++ two p) (by decide) (by decide) (by simp [two])).trans rfl
    | word p x =>
      have hx := hw x (by simp)
      show Option.bind (ref02_Two (cvt .i64 x, [6] ++ two p, ())) (fun y => ref02_Bytes_K2 y.1) = _
      rw [cvt64 (by omega) (by omega), rtwo_eq hx.1 hx.2 (by simp [two]), Option.bind_some, K2]
      rfl
    | coils p l h1 h2 =>
      show Option.bind (ref02_Pack (l, ())) (fun y_1 => Option.bind (ref02_Two (cvt .i64 (l.length : Int), [15] ++ two p, ())) fun y => need (small (y.1.length + 1)) (need (small ((y.1 ++ [Int.ofNat (y_1.1.length % 256)]).length + y_1.1.length)) (ref02_Bytes_K2 (y.1 ++ [Int.ofNat (y_1.1.length % 256)] ++ y_1.1)))) = _
      rw [rpack_eq (by omega), Option.bind_some, cvt64 (by omega) (by omega), rtwo_eq (by omega) (by omega) (by simp [two]), Option.bind_some]
      dsimp only
      rw [need_small (by simp [two]), need_small (by simp [two, packS_len, packN]; omega), K2, packS_len]
      have e : packN l.length % 256 = packN l.length := by unfold packN; omega
      rw [e]
      rfl
    | regs p l h1 h2 =>
      have e2 : (2 * Int.ofNat l.length) % 256 = 2 * (l.length : Int) := by rw [ofNat_eq]; omega
      have k : Option.bind (ref02_Two (cvt .i64 (l.length : Int), [16] ++ two p, ())) (fun y => need (small (y.1.length + 1)) (ref02_Bytes_K3 (16, p, (l.length : Int), 0, l, []) (y.1 ++ [cvt .u8 (mul .i64 2 (Int.ofNat l.length))]))) = some (askB (16, p, (l.length : Int), 0, l, []), 0, ()) := by
        rw [cvt64 (by omega) (by omega), rtwo_eq (by omega) (by omega) (by simp [two]), Option.bind_some]
        dsimp only
        rw [need_small (by simp [two]), mul64 (by rw [ofNat_eq]; omega) (by rw [ofNat_eq]; omega), cvt8, e2]
        unfold ref02_Bytes_K3 ref02_Bytes_m3
        rw [rwords_eq hw (by simp [two]; omega), Option.bind_some, K2]
        rfl
      show amb (eqAs ref02_Bytes_s.rs) [Option.bind (ref02_Two (cvt .i64 (l.length : Int), [16] ++ two p, ())) (fun y => need (small (y.1.length + 1)) (ref02_Bytes_K3 (16, p, (l.length : Int), 0, l, []) (y.1 ++ [cvt .u8 (mul .i64 2 (Int.ofNat l.length))]))), Option.bind (ref02_Two (cvt .i64 (l.length : Int), [16] ++ two p, ())) (fun y => need (small (y.1.length + 1)) (ref02_Bytes_K3 (16, p, (l.length : Int), 0, l, []) (y.1 ++ [cvt .u8 (mul .i64 2 (Int.ofNat l.length))])))] = _
      rw [k]
      exact amb_same (eqAs_refl _) _
    | swap p n t l h1 h2 h3 h4 =>
      have e2 : (2 * Int.ofNat l.length) % 256 = 2 * (l.length : Int) := by rw [ofNat_eq]; omega
      show Option.bind (ref02_Two (cvt .i64 n, [23] ++ two p, ())) (fun y => Option.bind (ref02_Two (cvt .i64 t, y.1, ())) fun y => Option.bind (ref02_Two (Int.ofNat l.length, y.1, ())) fun y => need (small (y.1.length + 1)) (Option.bind (ref02_Words (l, y.1 ++ [cvt .u8 (mul .i64 2 (Int.ofNat l.length))], ())) fun y => ref02_Bytes_K2 y.1)) = _
      dsimp only at hm0 hm1 ht0 ht1 hw
      rw [cvt64 (by omega) (by omega), rtwo_eq hm0 hm1 (by simp [two]), Option.bind_some]
      dsimp only
      rw [cvt64 (by omega) (by omega), rtwo_eq ht0 ht1 (by simp [two]), Option.bind_some]
      dsimp only
      rw [rtwo_eq (by rw [ofNat_eq]; omega) (by rw [ofNat_eq]; omega) (by simp [two]), Option.bind_some]
      dsimp only
      rw [need_small (by simp [two]), mul64 (by rw [ofNat_eq]; omega) (by rw [ofNat_eq]; omega), cvt8, e2, rwords_eq hw (by simp [two]; omega), Option.bind_some, K2]
      rfl
end Go.Proofs.Lx

end

section
/- The document's answers for polls: frames, what is sent, by requests and ticks. -/
namespace Go.Proofs.Lx
open Go Ev Sx Pl
set_option maxRecDepth 100000
theorem r4bytes_eq {unit : Int} {pdu : List Int} (hu : 1 ≤ unit) (hu2 : unit ≤ 247) (h1 : 1 ≤ pdu.length) (h2 : pdu.length ≤ 253) (hb : Byt pdu) : ref04_Bytes (unit, pdu, ()) = some (putV (unit :: pdu), 0, ()) := by
  show ref04_Bytes_m0 ref04_Bytes_K1 unit pdu = _
  unfold ref04_Bytes_m0
  have e : gt (Int.ofNat pdu.length) 253 = false := by rw [← Bool.not_eq_true, gt_iff, ofNat_eq]; omega
  rw [if_neg (by rw [lt_iff]; omega), if_neg (by rw [gt_iff]; omega), if_neg (by rw [lt_iff, ofNat_eq]; omega), e]
  show (if false = true then some ([], 2, ()) else need (small (1 + pdu.length)) (Option.bind (ref01_Put (unit :: pdu, ())) fun y => some (y.1, 0, ()))) = _
  have hbb : Byt (unit :: pdu) := fun y hy => by
    rcases List.mem_cons.1 hy with h | h
    · subst h; omega
    · exact hb y h
  rw [if_neg (by decide), need_small (by omega), rput_eq hbb (by simp; omega), Option.bind_some]
theorem r4ask_eq {unit : Int} {a : TA} (h : OkA a) (hr : rightA a = true) (hu : 1 ≤ unit) (hu2 : unit ≤ 247) : ref04_Ask (unit, a, ()) = some (putV (unit :: askB a), 0, ()) := by
  show ref04_Ask_m0 unit a = _
  unfold ref04_Ask_m0
  have hl := askB_len (rightA_RA hr)
  rw [rbytes02_eq h, if_pos hr, Option.bind_some, if_neg (by show ¬ nei 0 0 = true; decide)]
  dsimp only
  rw [r4bytes_eq hu hu2 (by omega) (by omega) (askB_bytes (rightA_RA hr)), Option.bind_some]
theorem r5pack_eq {tx unit : Int} {pdu : List Int} (ht : 0 ≤ tx) (ht2 : tx ≤ 65535) (h2 : pdu.length ≤ 253) : ref05_Pack ((tx, unit, pdu), ()) = some (mbapV tx unit pdu, ()) := by
  show ref05_Pack_m0 ref05_Pack_K1 (tx, unit, pdu) = _
  unfold ref05_Pack_m0
  dsimp only
  obtain ⟨n, rfl⟩ := Int.eq_ofNat_of_zero_le ht
  have e1 : quo .u16 (n : Int) 256 = ((n / 256 : Nat) : Int) := by
    unfold quo
    have e : (n : Int).tdiv 256 = ((n / 256 : Nat) : Int) := by rw [show (256 : Int) = ((256 : Nat) : Int) from rfl, Int.ofNat_tdiv]
    rw [e]
    exact wu16 (by omega) (by omega)
  have e2 : rem (n : Int) 256 = ((n % 256 : Nat) : Int) := rem_nat (d := 256)
  have e3 : add .i64 (Int.ofNat pdu.length) 1 = ((pdu.length + 1 : Nat) : Int) := succ64 (by omega)
  have e4 : quo .i64 ((pdu.length + 1 : Nat) : Int) 256 = (((pdu.length + 1) / 256 : Nat) : Int) := quo_nat (d := 256) (by omega)
  have e5 : rem ((pdu.length + 1 : Nat) : Int) 256 = (((pdu.length + 1) % 256 : Nat) : Int) := rem_nat (d := 256)
  rw [e1, e2, e3, e4, e5, cvt8, cvt8, cvt8, cvt8]
  have f1 : ((n / 256 : Nat) : Int) % 256 = (n : Int) / 256 % 256 := by omega
  have f2 : ((n % 256 : Nat) : Int) % 256 = (n : Int) % 256 := by omega
  have f3 : (((pdu.length + 1) / 256 : Nat) : Int) % 256 = 0 := by omega
  have f4 : (((pdu.length + 1) % 256 : Nat) : Int) % 256 = ((pdu.length + 1 : Nat) : Int) % 256 := by omega
  rw [f1, f2, f3, f4]
  unfold ref05_Pack_K1
  refine (loop_idx (xs := pdu) (mk := fun i acc => ((i : Int), ((n : Int), unit, pdu), acc)) (stp := fun o y => o ++ [y]) (fin := fun acc => some (acc, ())) (fun i acc => acc.length ≤ 7 + i) ?_ ?_ ?_ pdu.length 0 [(n : Int) / 256 % 256, (n : Int) % 256, 0, 0, 0, ((pdu.length + 1 : Nat) : Int) % 256, unit] _ (by omega) (by omega) (by simp)).trans ?_
  · intro self i acc x hx hI
    have hi := (List.getElem?_eq_some_iff.1 hx).1
    show ref05_Pack_m1 _ (i : Int) ((n : Int), unit, pdu) acc = _
    unfold ref05_Pack_m1
    dsimp only
    rw [if_pos (by rw [lt_iff, ofNat_eq]; omega), at_get hx, Option.bind_some, need_small (by omega), succ64 (by omega)]
  · intro i acc x hx hI
    simp
    omega
  · intro self acc _
    show ref05_Pack_m1 _ (pdu.length : Int) ((n : Int), unit, pdu) acc = _
    unfold ref05_Pack_m1
    dsimp only
    rw [if_neg (by rw [lt_iff, ofNat_eq]; omega)]
  · have e := foldl_app (fun y : Int => [y]) pdu [(n : Int) / 256 % 256, (n : Int) % 256, 0, 0, 0, ((pdu.length + 1 : Nat) : Int) % 256, unit]
    rw [List.drop_zero, e]
    simp [mbapV]
theorem sends_eq {p : TP} (h : OkP p) (hr : rightA p.2.2.2.2.2.1 = true) : ref22_sends (p, ()) = some (sentP p, sentB p, ()) := by
  show ref22_sends_m0 p = _
  unfold ref22_sends_m0 sentP sentB frameV nextV
  have hl := askB_len (rightA_RA hr)
  have hx0 := h.x0
  have hx1 := h.x1
  rcases h.l with hk | hk
  · rw [if_pos (eqi_iff.2 hk), r4ask_eq h.a hr h.u0 h.u1, Option.bind_some, if_neg (by omega), if_neg (by omega)]
  · have ex : cvt .u16 (rem (add .i64 (cvt .i64 p.2.2.2.2.2.2.1) 1) 65536) = (p.2.2.2.2.2.2.1 + 1) % 65536 := by
      rw [cvt64 (by omega) (by omega), add64 (by omega) (by omega), cvt16]
      unfold rem
      rw [Int.tmod_eq_emod_of_nonneg (by omega)]
      omega
    rw [if_neg (by rw [eqi_iff]; omega), rbytes02_eq h.a, if_pos hr, Option.bind_some, ex]
    dsimp only
    rw [r5pack_eq (by omega) (by omega) (by omega), Option.bind_some, if_pos hk, if_pos hk]
theorem rsend_eq {p : TP} {a : TA} (h : OkP p) (ha : OkA a) : ref22_Send (p, a, ()) = poll_Send (p, a, ()) := by
  rw [send_eq h ha]
  show ref22_Send_m0 p a = _
  unfold ref22_Send_m0
  have h3 := ha.lw
  have h4 := ha.lb
  by_cases hw : p.2.2.2.2.1 = true
  · rw [if_pos hw, if_pos hw]
  · rw [if_neg hw, if_neg hw, rright_eq ha, Option.bind_some]
    cases hr : rightA a with
    | false => rfl
    | true =>
      rw [if_neg (by decide), if_pos rfl]
      have hq : OkP (waitP p a) := ⟨h.u0, h.u1, h.l, h.t0, h.t1, h.r0, h.r1, ha, h.x0, h.x1⟩
      have ec : ref22_Copy (waitP p a, ()) = some (waitP p a, ()) := rcopy_eq (by show a.2.2.2.2.1.length ≤ _; omega) (by show a.2.2.2.2.2.length ≤ _; omega)
      have es := sends_eq hq hr
      refine (congrArg (fun o => Option.bind o fun y : TP × Unit => Option.bind (ref22_sends (y.1, ())) fun y => some (y.1, y.2.1, 0, ())) ec).trans ?_
      rw [Option.bind_some]
      dsimp only
      rw [es]
      rfl
theorem rtick_eq {p : TP} (h : OkP p) (hr : p.2.2.2.2.1 = true → rightA p.2.2.2.2.2.1 = true ∧ 1 ≤ p.2.2.2.2.2.2.2.1 ∧ p.2.2.2.2.2.2.2.1 ≤ 100000 ∧ 0 ≤ p.2.2.2.2.2.2.2.2 ∧ p.2.2.2.2.2.2.2.2 ≤ 1000) : ref22_Tick (p, ()) = poll_Tick (p, ()) := by
  rw [tick_eq h hr]
  show ref22_Tick_m0 p = _
  unfold ref22_Tick_m0
  have h1 := h.a.lw
  have h2 := h.a.lb
  rw [rcopy_eq (by omega) (by omega), Option.bind_some]
  dsimp only
  unfold tickV
  by_cases hw : p.2.2.2.2.1 = true
  · obtain ⟨q1, q2, q3, q4, q5⟩ := hr hw
    rw [if_neg (by rw [hw]; decide), if_pos hw, sub64 (by omega) (by omega)]
    by_cases hl : p.2.2.2.2.2.2.2.1 = 1
    · rw [if_neg (by rw [gt_iff]; omega), if_pos hl]
      by_cases hg : 0 < p.2.2.2.2.2.2.2.2
      · rw [if_neg (by rw [eqi_iff]; omega), if_pos hg, sub64 (by omega) (by omega), hl]
        have e0 : (1 : Int) - 1 = 0 := rfl
        rw [e0]
        have hw' : OkP (againP p 0 (p.2.2.2.2.2.2.2.2 - 1)) := ⟨h.u0, h.u1, h.l, h.t0, h.t1, h.r0, h.r1, h.a, h.x0, h.x1⟩
        have e := sends_eq hw' q1
        unfold againP at e
        rw [e]
        rfl
      · rw [if_pos (by rw [eqi_iff]; omega), if_neg hg, rdrop_eq, Option.bind_some]
        rfl
    · rw [if_pos (by rw [gt_iff]; omega), if_neg hl]
      rfl
  · have hw' : p.2.2.2.2.1 = false := by simpa using hw
    rw [if_pos (by rw [hw']; rfl), if_neg hw]
end Go.Proofs.Lx

end

section
/- The document's answers for polls: frames read, echoes. -/
namespace Go.Proofs.Lx
open Go Ev Sx Pl
set_option maxRecDepth 100000
theorem rcut_eq {b : List Int} (hb : Byt b) (h : b.length ≤ 100000) : ref01_Cut (b, ()) = some ((cutV b).1, (cutV b).2, ()) := by
  show ref01_Cut_m0 b = _
  unfold ref01_Cut_m0 cutV
  by_cases h2 : b.length < 2
  · rw [if_pos (by rw [lt_iff, ofNat_eq]; omega), if_pos h2]
  · have e1 : sub .i64 (Int.ofNat b.length) 2 = ((b.length - 2 : Nat) : Int) := by
      rw [sub64 (by rw [ofNat_eq]; omega) (by rw [ofNat_eq]; omega), ofNat_eq]
      omega
    have l1 : b.length - 2 < b.length := by omega
    have l2 : b.length - 2 + 1 < b.length := by omega
    have g1 : b[b.length - 2]? = some b[b.length - 2] := List.getElem?_eq_getElem l1
    have g2 : b[b.length - 2 + 1]? = some b[b.length - 2 + 1] := List.getElem?_eq_getElem l2
    have r1 := hb _ (List.getElem_mem l1)
    have r2 := hb _ (List.getElem_mem l2)
    have hs := sumV_rng (b.take (b.length - 2))
    have d1 : b.getD (b.length - 2) 0 = b[b.length - 2] := by rw [List.getD_eq_getElem?_getD, g1]; rfl
    have d2 : b.getD (b.length - 1) 0 = b[b.length - 2 + 1] := by
      have : b.length - 1 = b.length - 2 + 1 := by omega
      rw [this, List.getD_eq_getElem?_getD, g2]; rfl
    rw [if_neg (by rw [lt_iff, ofNat_eq]; omega), if_neg h2, e1, cut_to (by omega), Option.bind_some, rsum_eq (fun y hy => hb y (List.mem_of_mem_take hy)) (by simp; omega), Option.bind_some, succ64 (by omega), at_get g1, Option.bind_some, at_get g2, Option.bind_some, Option.bind_some, d1, d2, numV_eq r2.1 r2.2 r1.1 r1.2]
    dsimp only
    rw [cvt64 (by omega) (by omega), cvt64 (by omega) (by omega), cvt64 (by omega) (by omega), mul64 (by omega) (by omega), add64 (by omega) (by omega)]
    by_cases hq : sumV (b.take (b.length - 2)) = 256 * b[b.length - 2 + 1] + b[b.length - 2]
    · rw [if_neg (by rw [nei_iff]; omega), if_pos hq, need_small (by simp; omega)]
      rfl
    · rw [if_pos (by rw [nei_iff]; omega), if_neg hq]
theorem cutV_err {b : List Int} (h : 2 ≤ b.length) (he : (cutV b).2 ≠ 0) : (cutV b).2 = 11 := by
  unfold cutV at he ⊢
  rw [if_neg (by omega)] at he ⊢
  split
  · rename_i hs; rw [if_pos hs] at he; exact absurd rfl he
  · rfl
theorem r4parse_eq {b : List Int} (hb : Byt b) : ref04_Parse (b, ()) = some ((rtuV b).1, (rtuV b).2.1, (rtuV b).2.2, ()) := by
  show ref04_Parse_m0 ref04_Parse_K1 b = _
  have K : ∀ t, ref04_Parse_K1 b t = ref04_Parse_m1 ref04_Parse_K2 b t := fun _ => rfl
  unfold ref04_Parse_m0 rtuV
  rw [K, K]
  by_cases h : b.length < 4
  · rw [if_pos (by rw [lt_iff, ofNat_eq]; omega), if_pos (.inl h)]
    rfl
  · rw [if_neg (by rw [lt_iff, ofNat_eq]; omega)]
    unfold ref04_Parse_m1
    by_cases h2 : 256 < b.length
    · rw [if_pos (by rw [gt_iff, ofNat_eq]; omega), if_pos (.inr h2)]
    · have e0 : gt (Int.ofNat b.length) 256 = false := by rw [← Bool.not_eq_true, gt_iff, ofNat_eq]; omega
      rw [e0, if_neg (by decide), if_neg (by omega), rcut_eq hb (by omega), Option.bind_some]
      dsimp only
      by_cases h3 : (cutV b).2 = 0
      · rw [if_neg (by rw [nei_iff]; exact fun e => e h3), if_neg (fun e => e h3)]
        have hl := cutV_len h3
        match hc : (cutV b).1 with
        | [] => rw [hc] at hl; simp at hl; omega
        | x :: r =>
          have K2 : ∀ t, ref04_Parse_K2 (x :: r) t = if t = true then some (0, [], 10, ()) else some (x, r, 0, ()) := fun t => by
            unfold ref04_Parse_K2 ref04_Parse_m2
            have e : cut (x :: r) 1 (Int.ofNat (x :: r).length) = some r := cut_one x r
            rw [at_zero, Option.bind_some, e, Option.bind_some]
          rw [at_zero, Option.bind_some, Option.bind_some, K2, K2]
          show _ = some ((if (decide (1 ≤ x) && decide (x ≤ 247)) = true then (x, r, 0) else (0, [], 10)).1, (if (decide (1 ≤ x) && decide (x ≤ 247)) = true then (x, r, 0) else (0, [], 10)).2.1, (if (decide (1 ≤ x) && decide (x ≤ 247)) = true then (x, r, 0) else (0, [], 10)).2.2, ())
          by_cases q1 : 1 ≤ x
          · by_cases q2 : x ≤ 247
            · have e : gt x 247 = false := by rw [← Bool.not_eq_true, gt_iff]; omega
              rw [if_neg (by rw [lt_iff]; omega), e, decide_eq_true q1, decide_eq_true q2]
              rfl
            · have e : gt x 247 = true := by rw [gt_iff]; omega
              rw [if_neg (by rw [lt_iff]; omega), e, decide_eq_true q1, decide_eq_false q2]
              rfl
          · rw [if_pos (by rw [lt_iff]; omega), decide_eq_false q1]
            rfl
      · have e11 := cutV_err (b := b) (by omega) h3
        rw [if_pos (by rw [nei_iff]; exact h3), if_pos h3, e11]
theorem recho_eq {a : TA} (h : OkA a) (hr : rightA a = true) : ref03_Echo (a, ()) = outF (echoV a) := by
  show ref03_Echo_m0 ref03_Echo_K1 a = _
  unfold ref03_Echo_m0
  rw [rright_eq h, Option.bind_some, hr]
  clear h
  have hra := rightA_RA hr
  clear hr
  cases hra with
  | bits f p n hf h1 h2 => rcases hf with rfl | rfl <;> rfl
  | words f p n hf h1 h2 => rcases hf with rfl | rfl <;> rfl
  | coil p b => rfl
  | word p x => rfl
  | coils p l h1 h2 => rfl
  | regs p l h1 h2 => rfl
  | swap p n t l h1 h2 h3 h4 => rfl
end Go.Proofs.Lx

end

section
/- The bytes of a right reply are read as that reply. -/
namespace Go.Proofs.Lx
open Go Ev Sx Pl
set_option maxRecDepth 100000
structure OkR (r : TR) : Prop where
  f0 : 0 ≤ r.1
  f1 : r.1 ≤ 255
  e0 : 0 ≤ r.2.1
  e1 : r.2.1 ≤ 255
  w : ∀ x ∈ r.2.2.2.1, 0 ≤ x ∧ x ≤ 65535
  at0 : 0 ≤ r.2.2.2.2.1
  at1 : r.2.2.2.2.1 ≤ 65535
  m0 : 0 ≤ r.2.2.2.2.2
  m1 : r.2.2.2.2.2 ≤ 65535
  lb : r.2.2.1.length ≤ 100000
  lw : r.2.2.2.1.length ≤ 100000
theorem OkR.sm {r : TR} (h : OkR r) : SmR r := ⟨h.lb, h.lw⟩
/-- what a right reply is -/
inductive RR : TR → Prop where
  | ex (f e : Int) (h0 : 0 ≤ f) (h : f < 128) (h1 : 1 ≤ e) (h2 : e ≤ 4) : RR (f, e, [], [], 0, 0)
  | bits (f : Int) (l : List Bool) (hf : f = 1 ∨ f = 2) (h1 : 8 ≤ l.length) (h2 : l.length ≤ 2000) (h3 : l.length % 8 = 0) : RR (f, 0, l, [], 0, 0)
  | words (f : Int) (l : List Int) (hf : f = 3 ∨ f = 4 ∨ f = 23) (h1 : 1 ≤ l.length) (h2 : l.length ≤ 125) : RR (f, 0, [], l, 0, 0)
  | coil (b : Bool) (p : Int) : RR (5, 0, [b], [], p, 0)
  | word (x p : Int) : RR (6, 0, [], [x], p, 0)
  | coils (p n : Int) (h1 : 1 ≤ n) (h2 : n ≤ 1968) : RR (15, 0, [], [], p, n)
  | regs (p n : Int) (h1 : 1 ≤ n) (h2 : n ≤ 123) : RR (16, 0, [], [], p, n)
theorem rem128 {f : Int} (h0 : 0 ≤ f) (h : f < 128) : rem f 128 = f := by
  unfold rem
  rw [Int.tmod_eq_emod_of_nonneg h0]
  omega
theorem rightR_RR {r : TR} (h : OkR r) (hr : rightR r = true) : RR r := by
  unfold rightR at hr
  have hf0 := h.f0
  clear h
  split at hr
  · unfold exR at hr
    simp only [Bool.and_eq_true, decide_eq_true_eq] at hr
    obtain ⟨h1, h2, h3, h4⟩ := hr
    rw [h4, rem128 hf0 h1]
    exact .ex _ _ hf0 h1 h2 h3
  · have bit : ∀ {f : Int}, r.1 = f → (f = 1 ∨ f = 2) → bitR r = true → RR r := fun {f} e hf hb => by
      unfold bitR at hb
      simp only [Bool.and_eq_true, decide_eq_true_eq] at hb
      obtain ⟨h1, h2, h3, h4⟩ := hb
      rw [h4, e]
      exact .bits _ _ hf h1 h2 h3
    have wrd : ∀ {f : Int}, r.1 = f → (f = 3 ∨ f = 4 ∨ f = 23) → wordR r = true → RR r := fun {f} e hf hb => by
      unfold wordR at hb
      simp only [Bool.and_eq_true, decide_eq_true_eq] at hb
      obtain ⟨h1, h2, h3⟩ := hb
      rw [h3, e]
      exact .words _ _ hf h1 h2
    split at hr
    · rename_i e; exact bit (eqi_iff.1 e) (.inl rfl) hr
    · split at hr
      · rename_i e; exact bit (eqi_iff.1 e) (.inr rfl) hr
      · split at hr
        · rename_i e; exact wrd (eqi_iff.1 e) (.inl rfl) hr
        · split at hr
          · rename_i e; exact wrd (eqi_iff.1 e) (.inr (.inl rfl)) hr
          · split at hr
            · rename_i e; exact wrd (eqi_iff.1 e) (.inr (.inr rfl)) hr
            · split at hr
              · rename_i e
                unfold obR at hr
                simp only [Bool.and_eq_true, decide_eq_true_eq] at hr
                obtain ⟨x, hx⟩ := List.length_eq_one_iff.1 hr.1
                rw [hr.2, eqi_iff.1 e, hx]
                exact .coil x _
              · split at hr
                · rename_i e
                  unfold owR at hr
                  simp only [Bool.and_eq_true, decide_eq_true_eq] at hr
                  obtain ⟨x, hx⟩ := List.length_eq_one_iff.1 hr.1
                  rw [hr.2, eqi_iff.1 e, hx]
                  exact .word x _
                · split at hr
                  · rename_i e
                    unfold ctR at hr
                    simp only [Bool.and_eq_true, decide_eq_true_eq] at hr
                    rw [hr.2.2, eqi_iff.1 e]
                    exact .coils _ _ hr.1 hr.2.1
                  · split at hr
                    · rename_i e
                      unfold ctR at hr
                      simp only [Bool.and_eq_true, decide_eq_true_eq] at hr
                      rw [hr.2.2, eqi_iff.1 e]
                      exact .regs _ _ hr.1 hr.2.1
                    · cases hr
/-- its bytes -/
def repB (r : TR) : List Int := if nei r.2.1 0 = true then exB r else if eqi r.1 1 = true then bitB r else if eqi r.1 2 = true then bitB r else if eqi r.1 3 = true then wordB r else if eqi r.1 4 = true then wordB r else if eqi r.1 23 = true then wordB r else
  if eqi r.1 5 = true then obB r else if eqi r.1 6 = true then owB r else if eqi r.1 15 = true then ctB r else if eqi r.1 16 = true then ctB r else []
theorem repB_len {r : TR} (h : RR r) : 2 ≤ (repB r).length ∧ (repB r).length ≤ 253 := by
  cases h with
  | ex f e h0 h h1 h2 =>
    unfold repB
    rw [if_pos (by rw [nei_iff]; show e ≠ 0; omega)]
    exact ⟨Nat.le.refl, (by decide : 2 ≤ 253)⟩
  | bits f l hf h1 h2 h3 =>
    have e : repB (f, 0, l, [], 0, 0) = bitB (f, 0, l, [], 0, 0) := by rcases hf with rfl | rfl <;> rfl
    rw [e]
    show 2 ≤ (f :: _ :: packS l).length ∧ (f :: _ :: packS l).length ≤ 253
    simp only [List.length_cons, packS_len]
    unfold packN
    omega
  | words f l hf h1 h2 =>
    have e : repB (f, 0, [], l, 0, 0) = wordB (f, 0, [], l, 0, 0) := by rcases hf with rfl | rfl | rfl <;> rfl
    rw [e]
    show 2 ≤ ([f, _] ++ l.flatMap two).length ∧ ([f, _] ++ l.flatMap two).length ≤ 253
    simp only [List.length_append, List.length_cons, List.length_nil, flat_two_len]
    omega
  | coil b p => exact ⟨(by decide : 2 ≤ 5), (by decide : 5 ≤ 253)⟩
  | word x p => exact ⟨(by decide : 2 ≤ 5), (by decide : 5 ≤ 253)⟩
  | coils p n h1 h2 => exact ⟨(by decide : 2 ≤ 5), (by decide : 5 ≤ 253)⟩
  | regs p n h1 h2 => exact ⟨(by decide : 2 ≤ 5), (by decide : 5 ≤ 253)⟩
end Go.Proofs.Lx

end

section
/- The document's answers for polls: replies that are right, and the same. -/
namespace Go.Proofs.Lx
open Go Ev Sx Pl
set_option maxRecDepth 100000
theorem rsameR_K4 {a b : TR} (hl : a.2.2.1.length = b.2.2.1.length) (h : a.2.2.1.length ≤ 1000000) : ref03_Same_K4 0 a b = if a.2.2.1 = b.2.2.1 then some (true, ()) else some (false, ()) := by
  have hz : (a.2.2.1.zip b.2.2.1).length = a.2.2.1.length := by rw [List.length_zip]; omega
  unfold ref03_Same_K4
  rw [← goL_eqk (R := As [.bool]) (ne := neb) (no := some (false, ())) (fin := fun _ => some (true, ())) (fun a b => by cases a <;> cases b <;> rfl) a.2.2.1 b.2.2.1 hl]
  refine loop_go (xs := a.2.2.1.zip b.2.2.1) (mk := fun i _ => ((i : Int), a, b)) ?_ ?_ a.2.2.1.length 0 () _ (by rw [hz]; omega) (by omega)
  · intro self i acc x hx
    have hi := (List.getElem?_eq_some_iff.1 hx).1
    obtain ⟨h1, h2⟩ := zip_at hl hx
    show ref03_Same_m4 _ (i : Int) a b = _
    unfold ref03_Same_m4
    rw [if_pos (by rw [lt_iff, ofNat_eq]; omega), at_get h1, Option.bind_some, at_get h2, Option.bind_some, succ64 (by omega)]
  · intro self acc
    show ref03_Same_m4 _ (((a.2.2.1.zip b.2.2.1).length : Nat) : Int) a b = _
    unfold ref03_Same_m4
    rw [if_neg (by rw [lt_iff, ofNat_eq]; omega)]
theorem rsameR_K2 {a b : TR} (hl : a.2.2.2.1.length = b.2.2.2.1.length) (h : a.2.2.2.1.length ≤ 1000000) (hl2 : a.2.2.1.length = b.2.2.1.length) (h2 : a.2.2.1.length ≤ 1000000) :
    ref03_Same_K2 0 a b = if a.2.2.2.1 = b.2.2.2.1 then if a.2.2.1 = b.2.2.1 then some (true, ()) else some (false, ()) else some (false, ()) := by
  have hz : (a.2.2.2.1.zip b.2.2.2.1).length = a.2.2.2.1.length := by rw [List.length_zip]; omega
  rw [← rsameR_K4 hl2 h2]
  unfold ref03_Same_K2
  rw [← goL_eqk (R := As [.bool]) (ne := nei) (no := some (false, ())) (fin := fun _ => ref03_Same_K4 0 a b) (fun a b => by simp [nei]; rfl) a.2.2.2.1 b.2.2.2.1 hl]
  refine loop_go (xs := a.2.2.2.1.zip b.2.2.2.1) (mk := fun i _ => ((i : Int), a, b)) ?_ ?_ a.2.2.2.1.length 0 () _ (by rw [hz]; omega) (by omega)
  · intro self i acc x hx
    have hi := (List.getElem?_eq_some_iff.1 hx).1
    obtain ⟨h1, h2⟩ := zip_at hl hx
    show ref03_Same_m2 _ _ (i : Int) a b = _
    unfold ref03_Same_m2
    rw [if_pos (by rw [lt_iff, ofNat_eq]; omega), at_get h1, Option.bind_some, at_get h2, Option.bind_some, succ64 (by omega)]
  · intro self acc
    show ref03_Same_m2 _ _ (((a.2.2.2.1.zip b.2.2.2.1).length : Nat) : Int) a b = _
    unfold ref03_Same_m2
    rw [if_neg (by rw [lt_iff, ofNat_eq]; omega)]
    rfl
theorem rsameR_eq {a b : TR} (h : SmR a) : ref03_Same (a, b, ()) = some (decide (a = b), ()) := by
  have h1 := h.w
  have h2 := h.b
  show ref03_Same_m0 ref03_Same_K1 a b = _
  unfold ref03_Same_m0
  have kt : ref03_Same_K1 true a b = some (false, ()) := rfl
  have kf : ref03_Same_K1 false a b = ref03_Same_K2 0 a b := rfl
  by_cases e1 : a.1 = b.1
  · rw [if_neg (by rw [nei_iff]; exact fun e => e e1)]
    by_cases e2 : a.2.1 = b.2.1
    · rw [if_neg (by rw [nei_iff]; exact fun e => e e2)]
      by_cases e3 : a.2.2.2.2.1 = b.2.2.2.2.1
      · rw [if_neg (by rw [nei_iff]; exact fun e => e e3)]
        by_cases e4 : a.2.2.2.2.2 = b.2.2.2.2.2
        · rw [if_neg (by rw [nei_iff]; exact fun e => e e4)]
          by_cases e5 : a.2.2.2.1.length = b.2.2.2.1.length
          · rw [if_neg (by rw [nei_iff, ofNat_eq, ofNat_eq]; omega)]
            by_cases e6 : a.2.2.1.length = b.2.2.1.length
            · have e : nei (Int.ofNat a.2.2.1.length) (Int.ofNat b.2.2.1.length) = false := by rw [← Bool.not_eq_true, nei_iff, ofNat_eq, ofNat_eq]; omega
              rw [e, kf, rsameR_K2 e5 (by omega) e6 (by omega)]
              by_cases e7 : a.2.2.2.1 = b.2.2.2.1
              · by_cases e8 : a.2.2.1 = b.2.2.1
                · have : a = b := Prod.ext e1 (Prod.ext e2 (Prod.ext e8 (Prod.ext e7 (Prod.ext e3 e4))))
                  rw [if_pos e7, if_pos e8, decide_eq_true this]
                · rw [if_pos e7, if_neg e8, decide_eq_false (fun e => e8 (by rw [e]))]
              · rw [if_neg e7, decide_eq_false (fun e => e7 (by rw [e]))]
            · have e : nei (Int.ofNat a.2.2.1.length) (Int.ofNat b.2.2.1.length) = true := by rw [nei_iff, ofNat_eq, ofNat_eq]; omega
              rw [e, kt, decide_eq_false (fun e => e6 (by rw [e]))]
          · rw [if_pos (by rw [nei_iff, ofNat_eq, ofNat_eq]; omega), kt, decide_eq_false (fun e => e5 (by rw [e]))]
        · rw [if_pos (by rw [nei_iff]; exact e4), kt, decide_eq_false (fun e => e4 (by rw [e]))]
      · rw [if_pos (by rw [nei_iff]; exact e3), kt, decide_eq_false (fun e => e3 (by rw [e]))]
    · rw [if_pos (by rw [nei_iff]; exact e2), kt, decide_eq_false (fun e => e2 (by rw [e]))]
  · rw [if_pos (by rw [nei_iff]; exact e1), kt, decide_eq_false (fun e => e1 (by rw [e]))]
theorem nil_len {α : Type} {l : List α} : ((l.length : Nat) : Int) = 0 ↔ l = [] := by
  constructor
  · exact len0
  · rintro rfl; rfl
section
variable {f p n : Int} {bs : List Bool} {ws : List Int}
abbrev K1r (g : Int) (t : Bool) (r : TR) := ref03_Right_K1 (Int.ofNat r.2.2.1.length) (Int.ofNat r.2.2.2.1.length) g t r
abbrev K2r (g : Int) (t : Bool) (r : TR) := ref03_Right_K2 (Int.ofNat r.2.2.1.length) (Int.ofNat r.2.2.2.1.length) g t r
theorem rr_bit {g : Int} : K1r g true (f, 0, bs, ws, p, n) = some (bitR (f, 0, bs, ws, p, n), ()) := by
  show (if ge (Int.ofNat bs.length) 8 = true then if le (Int.ofNat bs.length) 2000 = true then if eqi (rem (Int.ofNat bs.length) 8) 0 = true then if eqi (Int.ofNat ws.length) 0 = true then if eqi p 0 = true then some (eqi n 0, ()) else some (false, ()) else some (false, ()) else some (false, ()) else some (false, ()) else some (false, ())) = _
  have er : rem (Int.ofNat bs.length) 8 = ((bs.length % 8 : Nat) : Int) := rem_nat (d := 8)
  rw [er, if_dec ge_iff fun _ => if_dec le_iff fun _ => if_dec eqi_iff fun _ => if_dec eqi_iff fun _ => if_dec eqi_iff fun _ => rfl]
  refine congrArg (fun x => some (x, ())) ?_
  unfold bitR
  rw [Bool.eq_iff_iff]
  simp only [Bool.and_eq_true, decide_eq_true_eq, eqi_iff, Prod.mk.injEq, true_and, ofNat_eq, nil_len]
  constructor
  · rintro ⟨q1, q2, q3, q4, q5, q6⟩; exact ⟨by omega, by omega, by omega, q4, q5, q6⟩
  · rintro ⟨q1, q2, q3, q4, q5, q6⟩; exact ⟨by omega, by omega, by omega, q4, q5, q6⟩
theorem rr_word {g : Int} : K2r g true (f, 0, bs, ws, p, n) = some (wordR (f, 0, bs, ws, p, n), ()) := by
  show (if eqi (Int.ofNat bs.length) 0 = true then if ge (Int.ofNat ws.length) 1 = true then if le (Int.ofNat ws.length) 125 = true then if eqi p 0 = true then some (eqi n 0, ()) else some (false, ()) else some (false, ()) else some (false, ()) else some (false, ())) = _
  rw [if_dec eqi_iff fun _ => if_dec ge_iff fun _ => if_dec le_iff fun _ => if_dec eqi_iff fun _ => rfl]
  refine congrArg (fun x => some (x, ())) ?_
  unfold wordR
  rw [Bool.eq_iff_iff]
  simp only [Bool.and_eq_true, decide_eq_true_eq, eqi_iff, Prod.mk.injEq, true_and, ofNat_eq, nil_len]
  constructor
  · rintro ⟨q1, q2, q3, q4, q5⟩; exact ⟨by omega, by omega, q1, q4, q5⟩
  · rintro ⟨q1, q2, q3, q4, q5⟩; exact ⟨q3, by omega, by omega, q4, q5⟩
theorem rr_coil : K2r 5 false (5, 0, bs, ws, p, n) = some (obR (5, 0, bs, ws, p, n), ()) := by
  show (if eqi (Int.ofNat bs.length) 1 = true then if eqi (Int.ofNat ws.length) 0 = true then some (eqi n 0, ()) else some (false, ()) else some (false, ())) = _
  rw [if_dec eqi_iff fun _ => if_dec eqi_iff fun _ => rfl]
  refine congrArg (fun x => some (x, ())) ?_
  unfold obR
  rw [Bool.eq_iff_iff]
  simp only [Bool.and_eq_true, decide_eq_true_eq, eqi_iff, Prod.mk.injEq, true_and, ofNat_eq, nil_len]
  constructor
  · rintro ⟨q1, q2, q3⟩; exact ⟨by omega, q2, q3⟩
  · rintro ⟨q1, q2, q3⟩; exact ⟨by omega, q2, q3⟩
theorem rr_reg : K2r 6 false (6, 0, bs, ws, p, n) = some (owR (6, 0, bs, ws, p, n), ()) := by
  show (if eqi (Int.ofNat bs.length) 0 = true then if eqi (Int.ofNat ws.length) 1 = true then some (eqi n 0, ()) else some (false, ()) else some (false, ())) = _
  rw [if_dec eqi_iff fun _ => if_dec eqi_iff fun _ => rfl]
  refine congrArg (fun x => some (x, ())) ?_
  unfold owR
  rw [Bool.eq_iff_iff]
  simp only [Bool.and_eq_true, decide_eq_true_eq, eqi_iff, Prod.mk.injEq, true_and, ofNat_eq, nil_len]
  constructor
  · rintro ⟨q1, q2, q3⟩; exact ⟨by omega, q1, q3⟩
  · rintro ⟨q1, q2, q3⟩; exact ⟨q2, by omega, q3⟩
theorem rr_ct {k : Int} : (if eqi (Int.ofNat bs.length) 0 = true then if eqi (Int.ofNat ws.length) 0 = true then if ge n 1 = true then some (le n k, ()) else some (false, ()) else some (false, ()) else some (false, ()) : BB) = some (ctR k (f, 0, bs, ws, p, n), ()) := by
  rw [if_dec eqi_iff fun _ => if_dec eqi_iff fun _ => if_dec ge_iff fun _ => rfl]
  refine congrArg (fun x => some (x, ())) ?_
  unfold ctR
  rw [Bool.eq_iff_iff]
  simp only [Bool.and_eq_true, decide_eq_true_eq, eqi_iff, le_iff, Prod.mk.injEq, true_and, and_true, ofNat_eq, nil_len]
  constructor
  · rintro ⟨q1, q2, q3, q4⟩; exact ⟨q3, q4, q1, q2⟩
  · rintro ⟨q3, q4, q1, q2⟩; exact ⟨q1, q2, q3, q4⟩
theorem rr_ex {e : Int} (hf : 0 ≤ f) (he : 0 ≤ e) (hz : e ≠ 0) : (if le f 127 = true then if le e 4 = true then if eqi (Int.ofNat bs.length) 0 = true then if eqi (Int.ofNat ws.length) 0 = true then if eqi p 0 = true then some (eqi n 0, ()) else some (false, ()) else some (false, ()) else some (false, ()) else some (false, ()) else some (false, ()) : BB) = some (exR (f, e, bs, ws, p, n), ()) := by
  rw [if_dec le_iff fun _ => if_dec le_iff fun _ => if_dec eqi_iff fun _ => if_dec eqi_iff fun _ => if_dec eqi_iff fun _ => rfl]
  refine congrArg (fun x => some (x, ())) ?_
  unfold exR
  rw [Bool.eq_iff_iff]
  simp only [Bool.and_eq_true, decide_eq_true_eq, eqi_iff, Prod.mk.injEq, true_and, ofNat_eq, nil_len]
  constructor
  · rintro ⟨q1, q2, q3, q4, q5, q6⟩; exact ⟨by omega, by omega, q2, (rem128 hf (by omega)).symm, q3, q4, q5, q6⟩
  · rintro ⟨q1, q2, q3, q4, q5, q6, q7, q8⟩; exact ⟨by omega, q3, q5, q6, q7, q8⟩
end
theorem rrightR_eq {r : TR} (h : OkR r) : ref03_Right (r, ()) = some (rightR r, ()) := by
  have hf0 := h.f0
  have he0 := h.e0
  obtain ⟨f, e, bs, ws, p, n⟩ := r
  dsimp only at hf0 he0
  clear h
  show ref03_Right_m0 ref03_Right_K1 (f, e, bs, ws, p, n) = _
  unfold ref03_Right_m0 rightR
  dsimp only
  by_cases hz : e = 0
  · subst hz
    have n0 : ¬ nei (0 : Int) 0 = true := by decide
    rw [if_neg n0, if_neg n0]
    have nf : ∀ {k : Int}, f ≠ k → eqi f k = false := fun {k} hk => by rw [← Bool.not_eq_true, eqi_iff]; exact hk
    by_cases h1 : f = 1
    · subst h1; exact rr_bit (g := 1)
    by_cases h2 : f = 2
    · subst h2; exact rr_bit (g := 2)
    by_cases h3 : f = 3
    · subst h3; exact rr_word (g := 3)
    by_cases h4 : f = 4
    · subst h4; exact rr_word (g := 4)
    by_cases h5 : f = 23
    · subst h5; exact rr_word (g := 23)
    by_cases h6 : f = 5
    · subst h6; exact rr_coil
    by_cases h7 : f = 6
    · subst h7; exact rr_reg
    by_cases h8 : f = 15
    · subst h8; exact rr_ct
    by_cases h9 : f = 16
    · subst h9; exact rr_ct
    unfold ref03_Right_K1 ref03_Right_m1 ref03_Right_K2 ref03_Right_m2
    simp only [nf h1, nf h2, nf h3, nf h4, nf h5, nf h6, nf h7, nf h8, nf h9, Bool.false_eq_true, if_false]
  · have n1 : nei e 0 = true := nei_iff.2 hz
    rw [if_pos n1, if_pos n1]
    exact rr_ex hf0 he0 hz
end Go.Proofs.Lx

end

section
/- The document's answers for polls: the bytes of replies, which fit. -/
namespace Go.Proofs.Lx
open Go Ev Sx Pl
set_option maxRecDepth 100000
theorem r3K5 {x : Int} {o : List Int} (h0 : 0 ≤ x) (h1 : x ≤ 65535) (hl : o.length ≤ 1000) : ref03_Bytes_K5 x o = some (o ++ two x, 0, ()) := by
  unfold ref03_Bytes_K5 ref03_Bytes_m5
  rw [rtwo_eq h0 h1 (by omega), Option.bind_some]
theorem r3bytes_eq {r : TR} (h : OkR r) : ref03_Bytes (r, ()) = if rightR r = true then some (repB r, 0, ()) else some ([], 13, ()) := by
  show ref03_Bytes_m0 ref03_Bytes_K1 r = _
  unfold ref03_Bytes_m0
  rw [rrightR_eq h, Option.bind_some]
  cases hr : rightR r with
  | false => rfl
  | true =>
    have hra := rightR_RR h hr
    have ha0 := h.at0
    have ha1 := h.at1
    have hm0 := h.m0
    have hm1 := h.m1
    have hw := h.w
    rw [if_neg (by decide), if_pos rfl]
    clear hr h
    have K1b : ∀ (g f : Int) (l : List Bool), l.length ≤ 2000 → ref03_Bytes_K1 g true (f, 0, l, [], 0, 0) = some (f :: (packN l.length : Int) % 256 :: packS l, 0, ()) := fun g f l hl => by
      show Option.bind (ref02_Pack (l, ())) (fun y => need (small (2 + y.1.length)) (some (f :: Int.ofNat (y.1.length % 256) :: y.1, 0, ()))) = _
      have hN : packN l.length ≤ 300 := by unfold packN; omega
      rw [rpack_eq (by omega), Option.bind_some, need_small (by rw [packS_len]; omega), packS_len]
      rfl
    have K2w : ∀ (f : Int) (l : List Int), l.length ≤ 200 → (∀ x ∈ l, 0 ≤ x ∧ x ≤ 65535) → ref03_Bytes_K2 true (f, 0, [], l, 0, 0) = some (wordB (f, 0, [], l, 0, 0), 0, ()) := fun f l hl hx => by
      show Option.bind (ref02_Words (l, [f, cvt .u8 (mul .i64 2 (Int.ofNat l.length))], ())) (fun y => some (y.1, 0, ())) = _
      rw [mul64 (by rw [ofNat_eq]; omega) (by rw [ofNat_eq]; omega), cvt8, rwords_eq hx (by simp; omega), Option.bind_some]
      rfl
    cases hra with
    | ex f e h0 h h1 h2 =>
      have n1 : nei e 0 = true := by rw [nei_iff]; omega
      unfold repB
      dsimp only
      rw [if_pos n1, if_pos n1]
      rfl
    | bits f l hf h1 h2 h3 =>
      rcases hf with rfl | rfl
      · exact (K1b 1 1 l h2).trans rfl
      · exact (K1b 2 2 l h2).trans rfl
    | words f l hf h1 h2 =>
      rcases hf with rfl | rfl | rfl
      · exact (K2w 3 l (by omega) hw).trans rfl
      · exact (K2w 4 l (by omega) hw).trans rfl
      · exact (K2w 23 l (by omega) hw).trans rfl
    | coil b p =>
      dsimp only at ha0 ha1
      show Option.bind (ref02_Two (cvt .i64 p, [5], ())) (fun y => ref03_Bytes_K3 (cvt .i64 0) b (5, 0, [b], [], p, 0) y.1) = _
      rw [cvt64 (by omega) (by omega), rtwo_eq ha0 ha1 (by simp), Option.bind_some]
      cases b with
      | true => exact (r3K5 (x := 65280) (o := [5] ++ two p) (by decide) (by decide) (by simp [two])).trans rfl
      | false => exact (r3K5 (x := 0) (o := [5] ++ two p) (by decide) (by decide) (by simp [two])).trans rfl
    | word x p =>
      dsimp only at ha0 ha1 hw
      have hx := hw x (by simp)
      show Option.bind (ref02_Two (cvt .i64 p, [6], ())) (fun y => ref03_Bytes_K5 (cvt .i64 x) y.1) = _
      rw [cvt64 (by omega) (by omega), rtwo_eq ha0 ha1 (by simp), Option.bind_some, cvt64 (by omega) (by omega)]
      exact (r3K5 hx.1 hx.2 (by simp [two])).trans rfl
    | coils p n h1 h2 =>
      dsimp only at ha0 ha1 hm0 hm1
      show Option.bind (ref02_Two (cvt .i64 p, [15], ())) (fun y => ref03_Bytes_K5 (cvt .i64 n) y.1) = _
      rw [cvt64 (by omega) (by omega), rtwo_eq ha0 ha1 (by simp), Option.bind_some, cvt64 (by omega) (by omega)]
      exact (r3K5 hm0 hm1 (by simp [two])).trans rfl
    | regs p n h1 h2 =>
      dsimp only at ha0 ha1 hm0 hm1
      show Option.bind (ref02_Two (cvt .i64 p, [16], ())) (fun y => ref03_Bytes_K5 (cvt .i64 n) y.1) = _
      rw [cvt64 (by omega) (by omega), rtwo_eq ha0 ha1 (by simp), Option.bind_some, cvt64 (by omega) (by omega)]
      exact (r3K5 hm0 hm1 (by simp [two])).trans rfl
end Go.Proofs.Lx

end

section
/- The document's answers for polls: which replies fit. -/
namespace Go.Proofs.Lx
open Go Ev Sx Pl
set_option maxRecDepth 100000
theorem goL_none : ∀ (s : List Bool), goL (R := As [.bool]) (fun (_ : Unit) (x : Bool) k => if x = true then some (false, ()) else k ()) (fun _ => some (true, ())) s () = some (!decide (true ∈ s), ())
  | [] => rfl
  | a :: r => by
    show (if a = true then some (false, ()) else goL _ _ r ()) = _
    rw [goL_none r]
    cases a <;> simp
theorem r3K3 {r : TR} {n : Nat} (hn : n ≤ r.2.2.1.length) (hl : r.2.2.1.length ≤ 100000) : ref03_Fits_K3 (n : Int) r = some (!decide (true ∈ r.2.2.1.drop n), ()) := by
  unfold ref03_Fits_K3
  rw [← goL_none]
  have hd : (r.2.2.1.drop n).length = r.2.2.1.length - n := List.length_drop
  refine loop_go (xs := r.2.2.1.drop n) (mk := fun i _ => (((n + i : Nat) : Int), r)) ?_ ?_ (r.2.2.1.length - n) 0 () _ (by omega) (by omega)
  · intro self i acc x hx
    have hi := (List.getElem?_eq_some_iff.1 hx).1
    rw [List.getElem?_drop] at hx
    show ref03_Fits_m3 _ ((n + i : Nat) : Int) r = _
    unfold ref03_Fits_m3
    rw [if_pos (by rw [lt_iff, ofNat_eq]; omega), at_get hx, Option.bind_some, succ64 (by omega)]
    rfl
  · intro self acc
    show ref03_Fits_m3 _ ((n + (r.2.2.1.drop n).length : Nat) : Int) r = _
    unfold ref03_Fits_m3
    rw [if_neg (by rw [lt_iff, ofNat_eq]; omega)]
theorem r3fits_eq {a : TA} {r : TR} (h : OkA a) (hs : OkR r) : ref03_Fits (a, r, ()) = some (fitsV a r, ()) := by
  show ref03_Fits_m0 ref03_Fits_K1 a r = _
  unfold ref03_Fits_m0 fitsV
  rw [rright_eq h, Option.bind_some, rrightR_eq hs, Option.bind_some]
  cases hr : rightA a with
  | false => rfl
  | true =>
    rw [if_neg (by decide)]
    cases hq : rightR r with
    | false => rfl
    | true =>
      rw [if_neg (by decide)]
      have hm0 := h.m0
      have hm1 := h.m1
      have hlb := hs.lb
      by_cases hf : a.1 = r.1
      · have e : nei a.1 r.1 = false := by rw [← Bool.not_eq_true, nei_iff]; exact fun e => e hf
        rw [e, decide_eq_true hf]
        unfold ref03_Fits_K1 ref03_Fits_m1
        rw [if_neg (by decide)]
        by_cases h0 : r.2.1 = 0
        · rw [if_neg (by rw [nei_iff]; exact fun e => e h0), recho_eq h hr]
          simp only [ne_eq, h0, not_true_eq_false, if_false, Bool.true_and]
          cases hv : echoV a with
          | some e =>
            have hse : SmR e := by
              unfold echoV at hv
              split at hv
              · cases hv; exact ⟨by show 1 ≤ 100000; decide, by show 0 ≤ 100000; decide⟩
              · split at hv
                · cases hv; exact ⟨by show 0 ≤ 100000; decide, by show 1 ≤ 100000; decide⟩
                · split at hv
                  · cases hv; exact ⟨by show 0 ≤ 100000; decide, by show 0 ≤ 100000; decide⟩
                  · cases hv
            show Option.bind (ref03_Same (e, r, ())) (fun y => some (y.1, ())) = _
            rw [rsameR_eq hse]
            rfl
          | none =>
            show (if gt a.1 2 = true then some (eqi (Int.ofNat r.2.2.2.1.length) (cvt .i64 a.2.2.1), ()) else if lt (Int.ofNat r.2.2.1.length) (cvt .i64 a.2.2.1) = true then some (false, ()) else ref03_Fits_K2 (cvt .i64 a.2.2.1) (ge (Int.ofNat r.2.2.1.length) (add .i64 (cvt .i64 a.2.2.1) 8)) r) = _
            rw [cvt64 (by omega) (by omega)]
            have hrr := rightR_RR hs hq
            have hra := rightA_RA hr
            have key : (a.1 = 1 ∨ a.1 = 2) ∧ (0 < r.2.2.1.length ∧ r.2.2.1.length % 8 = 0) ∨ 2 < a.1 ∧ r.2.2.1.length = 0 := by
              have ha : a.1 = 1 ∨ a.1 = 2 ∨ a.1 = 3 ∨ a.1 = 4 ∨ a.1 = 23 := by
                clear hf hm0 hm1 hr h
                cases hra with
                | bits f p n hf h1 h2 => rcases hf with rfl | rfl <;> simp
                | words f p n hf h1 h2 => rcases hf with rfl | rfl <;> simp
                | coil p b => cases hv
                | word p x => cases hv
                | coils p l h1 h2 => cases hv
                | regs p l h1 h2 => cases hv
                | swap p n t l h1 h2 h3 h4 => simp
              rw [hf] at ha ⊢
              clear hf hlb hq hs
              cases hrr with
              | ex f e q0 q1 q2 q3 => dsimp only at h0; omega
              | bits f l q1 q2 q3 q4 => dsimp only at ha ⊢; exact .inl ⟨q1, by omega, q4⟩
              | words f l q1 q2 q3 => dsimp only at ha ⊢; exact .inr ⟨by omega, rfl⟩
              | coil b p => dsimp only at ha; omega
              | word x p => dsimp only at ha; omega
              | coils p n q1 q2 => dsimp only at ha; omega
              | regs p n q1 q2 => dsimp only at ha; omega
            obtain ⟨m, hm⟩ := Int.eq_ofNat_of_zero_le hm0
            rcases key with ⟨k1, k2, k3⟩ | ⟨k1, k2⟩
            · rw [if_neg (by rw [gt_iff]; omega), if_pos k2, hm, Int.toNat_natCast, add64 (by omega) (by omega)]
              by_cases q1 : r.2.2.1.length < m
              · rw [if_pos (by rw [lt_iff, ofNat_eq]; omega), decide_eq_false (by omega)]
                rfl
              · rw [if_neg (by rw [lt_iff, ofNat_eq]; omega)]
                unfold ref03_Fits_K2 ref03_Fits_m2
                by_cases q2 : m + 8 ≤ r.2.2.1.length
                · rw [if_pos (by rw [ge_iff, ofNat_eq]; omega), decide_eq_false (by omega)]
                  rfl
                · rw [if_neg (by rw [ge_iff, ofNat_eq]; omega), r3K3 (by omega) hlb]
                  have e1 : decide ((r.2.2.1.length : Int) = ((m : Int) + 7) / 8 * 8) = true := decide_eq_true (by omega)
                  rw [e1]
                  rfl
            · rw [if_pos (by rw [gt_iff]; omega), if_neg (by omega)]
              refine congrArg (fun x => some (x, ())) ?_
              rw [Bool.eq_iff_iff, eqi_iff, decide_eq_true_eq, ofNat_eq]
        · rw [if_pos (by rw [nei_iff]; exact h0), if_pos h0]
          rfl
      · have e : nei a.1 r.1 = true := nei_iff.2 hf
        rw [e, decide_eq_false hf]
        rfl
end Go.Proofs.Lx

end

section
/- The document's answers for polls: frames over TCP. -/
namespace Go.Proofs.Lx
open Go Ev Sx Pl
set_option maxRecDepth 100000
theorem l5step {self : List Int → Int → Option (As [.int .i64])} {b : List Int} {i y : Int} (hi : i < 4) (hl : i < Int.ofNat b.length) (hy : at? b i = some y) :
    ref05_long_m1 (ref05_long_K2 self) self b i = if nei y 0 = true then some (-1, ()) else self b (add .i64 i 1) := by
  unfold ref05_long_m1
  rw [if_pos (by rw [lt_iff]; omega), lt_iff.2 hl]
  unfold ref05_long_K2 ref05_long_m2
  rw [if_pos rfl, hy, Option.bind_some]
theorem l5end {self : List Int → Int → Option (As [.int .i64])} {b : List Int} : ref05_long_m1 (ref05_long_K2 self) self b 4 = ref05_long_K3 b := rfl
theorem long5_eq (b0 b1 b2 b3 b4 b5 b6 b7 : Int) (r : List Int) (h5 : 0 ≤ b5 ∧ b5 ≤ 255) : ref05_long (b0 :: b1 :: b2 :: b3 :: b4 :: b5 :: b6 :: b7 :: r, ()) = some (if beginsV b2 b3 b4 b5 = true then 6 + b5 else -1, ()) := by
  show ref05_long_m0 ref05_long_K1 _ = _
  unfold ref05_long_m0 ref05_long_K1 beginsV
  have hlen : (Int.ofNat (b0 :: b1 :: b2 :: b3 :: b4 :: b5 :: b6 :: b7 :: r).length) = (r.length : Int) + 8 := by rw [ofNat_eq]; simp; omega
  generalize hb : b0 :: b1 :: b2 :: b3 :: b4 :: b5 :: b6 :: b7 :: r = b at hlen ⊢
  have a2 : at? b 2 = some b2 := by rw [← hb]; rfl
  have a3 : at? b 3 = some b3 := by rw [← hb]; rfl
  have a4 : at? b 4 = some b4 := by rw [← hb]; rfl
  have a5 : at? b 5 = some b5 := by rw [← hb]; rfl
  have hc : cvt .i64 b5 = b5 := cvt64 (by omega) (by omega)
  have key : ∀ n : Nat, loopF (fun (self : (List Int) × (Int) → Option (As [.int .i64])) (s : (List Int) × (Int)) => ref05_long_m1 (ref05_long_K2 (fun b i => self (b, i))) (fun b i => self (b, i)) s.1 s.2) (n + 3) (b, 2) =
      some (if (!nei b2 0 && (!nei b3 0 && (!nei b4 0 && (!lt b5 2 && !gt (cvt .i64 b5) 254)))) = true then 6 + b5 else -1, ()) := by
    intro n
    rw [loopF_succ]
    refine (l5step (by decide) (by rw [hlen]; omega) a2).trans ?_
    cases nei b2 0 with
    | true => rfl
    | false =>
      rw [if_neg (by decide), loopF_succ]
      refine (l5step (i := 3) (by decide) (by rw [hlen]; omega) a3).trans ?_
      cases nei b3 0 with
      | true => rfl
      | false =>
        rw [if_neg (by decide), loopF_succ]
        refine (l5end).trans ?_
        unfold ref05_long_K3 ref05_long_m3
        rw [if_pos (by rw [gt_iff, hlen]; omega), a4, Option.bind_some]
        unfold ref05_long_K4 ref05_long_m4
        cases nei b4 0 with
        | true => rfl
        | false =>
          rw [if_neg (by decide), if_neg (by rw [lt_iff, hlen]; omega), a5, Option.bind_some, Option.bind_some, hc]
          unfold ref05_long_K5 ref05_long_m5
          cases lt b5 2 with
          | true => rfl
          | false =>
            rw [if_neg (by decide)]
            cases gt b5 254 with
            | true => rfl
            | false =>
              rw [if_neg (by decide), a5, Option.bind_some, hc, add64 (by omega) (by omega)]
              rfl
  exact key 18446744073709551613
theorem foldl_snoc {α : Type} : ∀ (xs out : List α), xs.foldl (fun o x => o ++ [x]) out = out ++ xs
  | [], out => by simp
  | x :: r, out => by rw [List.foldl_cons, foldl_snoc r]; simp
theorem r5K2 {b : List Int} (hl : b.length ≤ 100000) (h7 : 7 ≤ b.length) (t2 t22 x x2 : Int) : ref05_Parse_K2 b 7 t2 t22 x x2 [] = some ((x, x2, b.drop 7), 0, ()) := by
  unfold ref05_Parse_K2
  have e : (b.drop 7).foldl (fun o y => o ++ [y]) [] = b.drop 7 := by rw [foldl_snoc]; rfl
  rw [← e]
  refine loop_idx (xs := b) (stp := fun o y => o ++ [y]) (fin := fun o => some ((x, x2, o), 0, ())) (mk := fun i o => (b, (i : Int), t2, t22, x, x2, o)) (fun i o => o.length ≤ i) ?_ ?_ ?_ (b.length - 7) 7 [] _ (by omega) (by omega) (by simp)
  · intro self i o y hy hI
    have hi := (List.getElem?_eq_some_iff.1 hy).1
    show ref05_Parse_m2 _ _ b (i : Int) t2 t22 x x2 o = _
    unfold ref05_Parse_m2
    rw [if_pos (by rw [lt_iff, ofNat_eq]; omega), at_get hy, Option.bind_some, need_small (by omega), succ64 (by omega)]
  · intro i o y _ hI
    simp
    omega
  · intro self o _
    show ref05_Parse_m2 _ _ b (b.length : Int) t2 t22 x x2 o = _
    unfold ref05_Parse_m2
    rw [if_neg (by rw [lt_iff, ofNat_eq]; omega)]
    rfl
theorem two5 {y z : Int} (h0 : 0 ≤ y ∧ y ≤ 255) (h1 : 0 ≤ z ∧ z ≤ 255) : add .u16 (mul .u16 256 (cvt .u16 y)) (cvt .u16 z) = numV y z := by
  rw [numV_eq h0.1 h0.2 h1.1 h1.2]
  show IntKind.u16.wrap (IntKind.u16.wrap (256 * IntKind.u16.wrap y) + IntKind.u16.wrap z) = _
  rw [wr16, wr16, wr16, wr16]
  omega
theorem mparse5_eq {b : List Int} (hl : b.length ≤ 100000) (hb : ∀ x ∈ b, 0 ≤ x ∧ x ≤ 255) : ref05_Parse (b, ()) = some ((mbapP b).1, (mbapP b).2, ()) := by
  show ref05_Parse_m0 ref05_Parse_K1 b = _
  unfold ref05_Parse_m0
  have shortP : b.length ≤ 7 → mbapP b = (zM, 10) := fun h => by
    match b with
    | [] | [_] | [_, _] | [_, _, _] | [_, _, _, _] | [_, _, _, _, _] | [_, _, _, _, _, _] => rfl
    | [_, _, _, _, _, _, _] => rfl
    | _ :: _ :: _ :: _ :: _ :: _ :: _ :: _ :: _ => exact absurd h (by simp)
  by_cases hs : b.length ≤ 7
  · rw [shortP hs, if_pos (by rw [lt_iff, ofNat_eq]; omega)]
    rfl
  · rw [if_neg (by rw [lt_iff, ofNat_eq]; omega)]
    match b with
    | [] | [_] | [_, _] | [_, _, _] | [_, _, _, _] | [_, _, _, _, _] | [_, _, _, _, _, _] => simp at hs
    | [_, _, _, _, _, _, _] => simp at hs
    | b0 :: b1 :: b2 :: b3 :: b4 :: b5 :: b6 :: b7 :: r =>
      have h5 := hb b5 (by simp)
      have h0 := hb b0 (by simp)
      have h1 := hb b1 (by simp)
      rw [long5_eq _ _ _ _ _ _ _ _ _ h5, Option.bind_some]
      unfold mbapP
      dsimp only
      have hne : ¬ (b7 :: r = []) := by simp
      have hll : Int.ofNat (b0 :: b1 :: b2 :: b3 :: b4 :: b5 :: b6 :: b7 :: r).length = (r.length : Int) + 8 := by rw [ofNat_eq]; simp; omega
      have h1l : ((b7 :: r).length : Int) + 1 = (r.length : Int) + 2 := by simp; omega
      have K : ∀ t : Bool, ref05_Parse_K1 (b0 :: b1 :: b2 :: b3 :: b4 :: b5 :: b6 :: b7 :: r) t 0 0 = if t = true then some (zM, 10, ()) else some ((numV b0 b1, b6, b7 :: r), 0, ()) := by
        intro t
        unfold ref05_Parse_K1 ref05_Parse_m1
        cases t with
        | true => rfl
        | false =>
          rw [if_neg (by decide), if_neg (by decide)]
          have e0 : at? (b0 :: b1 :: b2 :: b3 :: b4 :: b5 :: b6 :: b7 :: r) 0 = some b0 := rfl
          have e1 : at? (b0 :: b1 :: b2 :: b3 :: b4 :: b5 :: b6 :: b7 :: r) 1 = some b1 := rfl
          have e6 : at? (b0 :: b1 :: b2 :: b3 :: b4 :: b5 :: b6 :: b7 :: r) 6 = some b6 := rfl
          rw [e0, Option.bind_some, e1, Option.bind_some, e6, Option.bind_some, r5K2 hl (by simp), two5 h0 h1]
          rfl
      rw [if_neg hne, hll, K, h1l]
      cases hbg : beginsV b2 b3 b4 b5 with
      | false =>
        simp only [Bool.false_eq_true, if_false]
        rw [if_pos (by rw [nei_iff]; omega)]
      | true =>
        rw [if_pos rfl, if_pos rfl]
        by_cases he : (r.length : Int) + 2 = b5
        · rw [if_pos he, if_neg (by rw [nei_iff]; omega)]
        · rw [if_neg he, if_pos (by rw [nei_iff]; omega)]
end Go.Proofs.Lx

end

section
/- The document's answers for polls: replies read back. -/
namespace Go.Proofs.Lx
open Go Ev Sx Pl
set_option maxRecDepth 100000
/-- what the comparison at the end of ref03_Parse gives for a candidate -/
def finS (b : List Int) (c : TR) : TR × Int := if rightR c = true then if eqs (toS (repB c)) (toS b) = true then (c, 0) else (zR, 13) else (zR, 13)
theorem p3K3 {b : List Int} {t c : TR} (h : OkR c) : ref03_Parse_K3 b t c = some ((finS b c).1, (finS b c).2, ()) := by
  unfold ref03_Parse_K3 ref03_Parse_m3
  rw [r3bytes_eq h]
  unfold finS
  cases hr : rightR c with
  | false => rfl
  | true =>
    rw [if_pos rfl, if_pos rfl, Option.bind_some]
    dsimp only
    rw [if_neg (by decide)]
    have e : nes (toS (repB c)) (toS b) = !eqs (toS (repB c)) (toS b) := rfl
    rw [e]
    cases eqs (toS (repB c)) (toS b) <;> rfl
/-- two bytes as a number, nought behind the end -/
def atV (b : List Int) (n : Nat) : Int := if n + 1 < b.length then numV (b.getD n 0) (b.getD (n + 1) 0) else 0
theorem atV_rng (b : List Int) (n : Nat) : 0 ≤ atV b n ∧ atV b n < 65536 := by
  unfold atV
  split
  · exact numV_rng _ _
  · omega
theorem rat_eq {b : List Int} (hb : ∀ x ∈ b, 0 ≤ x ∧ x ≤ 255) (hl : b.length ≤ 100000) {n : Nat} (hn : n ≤ 100000) : ref02_At (b, (n : Int), ()) = some (atV b n, ()) := by
  show ref02_At_m0 b (n : Int) = _
  unfold ref02_At_m0 atV
  rw [succ64 (by omega)]
  by_cases h : n + 1 < b.length
  · have h1 : b[n]? = some (b[n]'(by omega)) := List.getElem?_eq_getElem (by omega)
    have h2 : b[n + 1]? = some (b[n + 1]'h) := List.getElem?_eq_getElem h
    have r1 := hb _ (List.getElem_mem (show n < b.length by omega))
    have r2 := hb _ (List.getElem_mem h)
    rw [if_neg (by rw [ge_iff, ofNat_eq]; omega), if_pos h, at_get h1, Option.bind_some, at_get h2, Option.bind_some, List.getD_eq_getElem?_getD, List.getD_eq_getElem?_getD, h1, h2]
    show _ = some (numV (b[n]'(by omega)) (b[n + 1]'h), ())
    rw [numV_eq r1.1 r1.2 r2.1 r2.2, cvt64 (by omega) (by omega), cvt64 (by omega) (by omega), mul64 (by omega) (by omega), add64 (by omega) (by omega)]
  · rw [if_pos (by rw [ge_iff, ofNat_eq]; omega), if_neg h]
theorem p3K6 {b : List Int} (hb : ∀ x ∈ b, 0 ≤ x ∧ x ≤ 255) (hl : b.length ≤ 100000) (h2 : 2 ≤ b.length) (t2 t22 t23 t24 r r2 r3 r4 : Int) :
    ref03_Parse_K6 b 2 t2 t22 t23 t24 r r2 r3 r4 [] = ref03_Parse_K3 b (t2, t22, [], [], t23, t24) (r, r2, [], listS (b.drop 2), r3, r4) := by
  unfold ref03_Parse_K6
  have hlen : (listS (b.drop 2)).length = (b.length - 2) / 2 := by rw [listS_len, List.length_drop]
  have e : (listS (b.drop 2)).foldl (fun o y => o ++ [y]) [] = listS (b.drop 2) := by rw [foldl_snoc]; rfl
  conv => rhs; rw [← e]
  refine loop_idx (xs := listS (b.drop 2)) (stp := fun o y => o ++ [y]) (fin := fun o => ref03_Parse_K3 b (t2, t22, [], [], t23, t24) (r, r2, [], o, r3, r4)) (mk := fun i o => (b, ((2 * i + 2 : Nat) : Int), t2, t22, t23, t24, r, r2, r3, r4, o)) (fun i o => o.length ≤ i) ?_ ?_ ?_ (listS (b.drop 2)).length 0 [] _ (by omega) (by omega) (by simp)
  · intro self i o y hy hI
    have hi := (List.getElem?_eq_some_iff.1 hy).1
    rw [hlen] at hi
    have ey : y = atV b (2 * i + 2) := by
      obtain ⟨hi', hv⟩ := List.getElem?_eq_some_iff.1 hy
      rw [← hv]
      unfold atV listS
      rw [if_pos (by omega)]
      simp only [List.getElem_map, List.getElem_range, List.getD_eq_getElem?_getD, List.getElem?_drop]
      rw [show 2 + 2 * i = 2 * i + 2 by omega, show 2 + (2 * i + 1) = 2 * i + 2 + 1 by omega]
    have hr := atV_rng b (2 * i + 2)
    show ref03_Parse_m6 _ _ b ((2 * i + 2 : Nat) : Int) t2 t22 t23 t24 r r2 r3 r4 o = _
    unfold ref03_Parse_m6
    have ea : add .i64 ((2 * i + 2 : Nat) : Int) 2 = ((2 * (i + 1) + 2 : Nat) : Int) := by rw [add64 (by omega) (by omega)]; omega
    rw [succ64 (by omega), if_pos (by rw [lt_iff, ofNat_eq]; omega), rat_eq hb hl (by omega), Option.bind_some, need_small (by omega), ea]
    dsimp only
    rw [cvt16, Int.emod_eq_of_lt hr.1 hr.2, ← ey]
  · intro i o y _ hI
    simp
    omega
  · intro self o _
    show ref03_Parse_m6 _ _ b ((2 * (listS (b.drop 2)).length + 2 : Nat) : Int) t2 t22 t23 t24 r r2 r3 r4 o = _
    unfold ref03_Parse_m6
    rw [succ64 (by omega), if_neg (by rw [lt_iff, ofNat_eq]; omega)]
theorem u2K2 {u1 : List Int → Int → List Bool → Option (As [.sl .bool])} (b : List Int) (i : Int) {y : Nat} (hy : y < 256) {out : List Bool} (ho : out.length ≤ 1000000) :
    ref02_Unpack_K2 u1 b i (y : Int) 0 out = u1 b (add .i64 i 1) (out ++ (List.range 8).map (bitV (y : Int))) := by
  unfold ref02_Unpack_K2
  have e : (List.range 8).foldl (fun o k => o ++ [bitV (y : Int) k]) out = out ++ (List.range 8).map (bitV (y : Int)) := by
    rw [foldl_app (fun k => [bitV (y : Int) k])]
    rfl
  rw [← e]
  refine Eq.trans (congrArg (fun z => loopF _ _ (b, i, z, 0, out)) (show (y : Int) = ((y / 2 ^ 0 : Nat) : Int) by simp)) ?_
  refine loop_idx (xs := List.range 8) (stp := fun o k => o ++ [bitV (y : Int) k]) (fin := fun o => u1 b (add .i64 i 1) o) (mk := fun k o => (b, i, ((y / 2 ^ k : Nat) : Int), (k : Int), o)) (fun k o => o.length ≤ out.length + k) ?_ ?_ ?_ 8 0 out _ (by simp) (by omega) (Nat.le_refl out.length)
  · intro self k o z hz hI
    obtain ⟨hk, hv⟩ := List.getElem?_eq_some_iff.1 hz
    rw [List.length_range] at hk
    rw [List.getElem_range] at hv
    subst hv
    show ref02_Unpack_m2 _ _ _ b i ((y / 2 ^ k : Nat) : Int) (k : Int) o = _
    unfold ref02_Unpack_m2
    have hq : quo .i64 ((y / 2 ^ k : Nat) : Int) 2 = ((y / 2 ^ k / 2 : Nat) : Int) := quo_nat (d := 2) (by have := Nat.div_le_self y (2 ^ k); omega)
    have hr : rem ((y / 2 ^ k : Nat) : Int) 2 = ((y / 2 ^ k % 2 : Nat) : Int) := rem_nat (d := 2)
    have hb : eqi ((y / 2 ^ k % 2 : Nat) : Int) 1 = bitV (y : Int) k := by
      rw [bitV_eq (by omega) (by omega) hk]
      have : ((y : Int) / 2 ^ k % 2 = 1) ↔ ((y / 2 ^ k % 2 : Nat) : Int) = 1 := by
        rw [Int.natCast_emod, Int.natCast_ediv, Int.natCast_pow]
        rfl
      rw [Bool.eq_iff_iff, eqi_iff, decide_eq_true_iff]
      exact this.symm
    rw [if_pos (by rw [lt_iff]; omega), need_small (by omega), hq, hr, hb, succ64 (by omega), Nat.div_div_eq_div_mul, ← Nat.pow_succ]
  · intro k o z _ hI
    simp
    omega
  · intro self o _
    rfl
theorem unpackS_cons (y : Int) (r : List Int) : unpackS (y :: r) = (List.range 8).map (bitV y) ++ unpackS r := by
  unfold unpackS
  rw [show 8 * (y :: r).length = 8 + 8 * r.length by simp; omega, List.range_add, List.map_append, List.map_map]
  congr 1
  · refine List.map_congr_left fun i _ => ?_
    show bitV ((y :: r).getD ((8 + i) / 8) 0) ((8 + i) % 8) = _
    rw [show (8 + i) / 8 = i / 8 + 1 by omega, show (8 + i) % 8 = i % 8 by omega]
    rfl
theorem flat_unpack : ∀ b : List Int, b.flatMap (fun y => (List.range 8).map (bitV y)) = unpackS b
  | [] => rfl
  | y :: r => by rw [List.flatMap_cons, flat_unpack r, unpackS_cons]
theorem runpack_eq {b : List Int} (hb : ∀ x ∈ b, 0 ≤ x ∧ x ≤ 255) (hl : b.length ≤ 100000) : ref02_Unpack (b, ()) = some (unpackS b, ()) := by
  show ref02_Unpack_m0 ref02_Unpack_K1 b = _
  unfold ref02_Unpack_m0 ref02_Unpack_K1
  have e : b.foldl (fun o y => o ++ (List.range 8).map (bitV y)) [] = unpackS b := by
    rw [foldl_app (fun y => (List.range 8).map (bitV y)), flat_unpack]
    rfl
  rw [← e]
  refine loop_idx (xs := b) (stp := fun o y => o ++ (List.range 8).map (bitV y)) (fin := fun o => some (o, ())) (mk := fun i o => (b, (i : Int), o)) (fun i o => o.length ≤ 8 * i) ?_ ?_ ?_ b.length 0 [] _ (by omega) (by omega) (by simp)
  · intro self i o y hy hI
    have hi := (List.getElem?_eq_some_iff.1 hy).1
    have hr := hb y (List.mem_of_getElem? hy)
    show ref02_Unpack_m1 _ _ b (i : Int) o = _
    unfold ref02_Unpack_m1
    obtain ⟨n, rfl⟩ := Int.eq_ofNat_of_zero_le hr.1
    rw [if_pos (by rw [lt_iff, ofNat_eq]; omega), at_get hy, Option.bind_some, cvt64 (by omega) (by omega), u2K2 b (i : Int) (by omega) (by omega), succ64 (by omega)]
  · intro i o y _ hI
    simp
    omega
  · intro self o _
    show ref02_Unpack_m1 _ _ b (b.length : Int) o = _
    unfold ref02_Unpack_m1
    rw [if_neg (by rw [lt_iff, ofNat_eq]; omega)]
end Go.Proofs.Lx

end

section
/- The document's answers for polls: which reply bytes are. -/
namespace Go.Proofs.Lx
open Go Ev Sx Pl
set_option maxRecDepth 100000
/-- what the bytes say, by the function's number ahead of them -/
def dispS (x k v : Int) (b r : List Int) : TR :=
  if eqi x 1 = true then (k, v, unpackS r, [], 0, 0) else if eqi x 2 = true then (k, v, unpackS r, [], 0, 0) else
  if eqi x 3 = true then (k, v, [], listS r, 0, 0) else if eqi x 4 = true then (k, v, [], listS r, 0, 0) else if eqi x 23 = true then (k, v, [], listS r, 0, 0) else
  if eqi x 5 = true then (k, v, [eqi (atV b 3) 65280], [], atV b 1, 0) else if eqi x 6 = true then (k, v, [], [atV b 3], atV b 1, 0) else
  if eqi x 15 = true then (k, v, [], [], atV b 1, atV b 3) else if eqi x 16 = true then (k, v, [], [], atV b 1, atV b 3) else (k, v, [], [], 0, 0)
theorem cvtAt (b : List Int) (n : Nat) : cvt .u16 (atV b n) = atV b n := by
  have h := atV_rng b n
  rw [cvt16, Int.emod_eq_of_lt h.1 h.2]
theorem p3K7 {b : List Int} (hb : ∀ x ∈ b, 0 ≤ x ∧ x ≤ 255) (hl : b.length ≤ 100000) (t : Bool) (t2 t22 t23 t24 k v r3 r4 : Int) :
    ref03_Parse_K7 b t t2 t22 t23 t24 k v r3 r4 = ref03_Parse_K3 b (t2, t22, [], [], t23, t24) (if t = true then (k, v, [], [], atV b 1, atV b 3) else (k, v, [], [], r3, r4)) := by
  unfold ref03_Parse_K7 ref03_Parse_m7
  have h1 := rat_eq hb hl (n := 1) (by omega)
  have h3 := rat_eq hb hl (n := 3) (by omega)
  cases t with
  | false => rfl
  | true =>
    rw [if_pos rfl, if_pos rfl]
    refine Eq.trans (congrArg (fun z => Option.bind z _) h1) ?_
    rw [Option.bind_some]
    refine Eq.trans (congrArg (fun z => Option.bind z _) h3) ?_
    rw [Option.bind_some]
    dsimp only
    rw [cvtAt, cvtAt]
theorem p3K4 {x y : Int} {r : List Int} (hb : ∀ z ∈ x :: y :: r, 0 ≤ z ∧ z ≤ 255) (hl : (x :: y :: r).length ≤ 100000) (t : Bool) (t2 t22 t23 t24 k v : Int) (h1 : ¬ eqi x 1 = true) (h2 : ¬ eqi x 2 = true) (h3 : ¬ eqi x 3 = true) (h4 : ¬ eqi x 4 = true) (ht : t = eqi x 23) :
    ref03_Parse_K4 (x :: y :: r) x t t2 t22 t23 t24 k v 0 0 = ref03_Parse_K3 (x :: y :: r) (t2, t22, [], [], t23, t24) (dispS x k v (x :: y :: r) r) := by
  unfold ref03_Parse_K4 ref03_Parse_m4 dispS
  rw [if_neg h1, if_neg h2, if_neg h3, if_neg h4]
  have e1 := rat_eq hb hl (n := 1) (by omega)
  have e3 := rat_eq hb hl (n := 3) (by omega)
  subst ht
  by_cases c : eqi x 23 = true
  · rw [if_pos c, if_pos c, p3K6 hb hl (by simp)]
    rfl
  rw [if_neg c, if_neg c]
  by_cases c : eqi x 5 = true
  · rw [if_pos c, if_pos c]
    refine Eq.trans (congrArg (fun z => Option.bind z _) e1) ?_
    rw [Option.bind_some]
    refine Eq.trans (congrArg (fun z => Option.bind z _) e3) ?_
    rw [Option.bind_some]
    dsimp only
    rw [cvtAt]
  rw [if_neg c, if_neg c]
  by_cases c : eqi x 6 = true
  · rw [if_pos c, if_pos c]
    refine Eq.trans (congrArg (fun z => Option.bind z _) e1) ?_
    rw [Option.bind_some]
    refine Eq.trans (congrArg (fun z => Option.bind z _) e3) ?_
    rw [Option.bind_some]
    dsimp only
    rw [cvtAt, cvtAt]
  rw [if_neg c, if_neg c]
  by_cases c : eqi x 15 = true
  · rw [if_pos c, if_pos c, p3K7 hb hl, if_pos rfl]
  rw [if_neg c, if_neg c, p3K7 hb hl]
theorem p3K1 {x y : Int} {r : List Int} (hb : ∀ z ∈ x :: y :: r, 0 ≤ z ∧ z ≤ 255) (hl : (x :: y :: r).length ≤ 100000) (t2 t22 t23 t24 k v : Int) :
    ref03_Parse_K1 (x :: y :: r) t2 t22 t23 t24 k v 0 0 = ref03_Parse_K3 (x :: y :: r) (t2, t22, [], [], t23, t24) (dispS x k v (x :: y :: r) r) := by
  unfold ref03_Parse_K1 ref03_Parse_m1
  have hr : ∀ z ∈ r, 0 ≤ z ∧ z ≤ 255 := fun z hz => hb z (List.mem_cons_of_mem _ (List.mem_cons_of_mem _ hz))
  have hlr : r.length ≤ 100000 := by simp at hl; omega
  have hu := runpack_eq hr hlr
  rw [at_zero, Option.bind_some]
  by_cases c1 : eqi x 1 = true
  · rw [if_pos c1]
    unfold ref03_Parse_K2 ref03_Parse_m2 dispS
    rw [if_pos rfl, cut_two, Option.bind_some]
    refine Eq.trans (congrArg (fun z => Option.bind z _) hu) ?_
    rw [Option.bind_some, if_pos c1]
  rw [if_neg c1]
  unfold ref03_Parse_K2 ref03_Parse_m2
  by_cases c2 : eqi x 2 = true
  · unfold dispS
    rw [if_pos c2, cut_two, Option.bind_some]
    refine Eq.trans (congrArg (fun z => Option.bind z _) hu) ?_
    rw [Option.bind_some, if_neg c1, if_pos c2]
  rw [if_neg c2]
  by_cases c3 : eqi x 3 = true
  · unfold dispS
    rw [if_pos c3, if_neg c1, if_neg c2, if_pos c3]
    unfold ref03_Parse_K4 ref03_Parse_m4
    rw [if_pos rfl, p3K6 hb hl (by simp)]
    rfl
  rw [if_neg c3]
  by_cases c4 : eqi x 4 = true
  · unfold dispS
    rw [if_pos c4, if_neg c1, if_neg c2, if_neg c3, if_pos c4]
    unfold ref03_Parse_K4 ref03_Parse_m4
    rw [if_pos rfl, p3K6 hb hl (by simp)]
    rfl
  rw [if_neg c4]
  exact p3K4 hb hl _ _ _ _ _ _ _ c1 c2 c3 c4 rfl
theorem mem_numV {b : List Int} {z : Int} (h : z ∈ listS b) : 0 ≤ z ∧ z ≤ 65535 := by
  unfold listS at h
  obtain ⟨i, _, rfl⟩ := List.mem_map.1 h
  have := numV_rng (b.getD (2 * i) 0) (b.getD (2 * i + 1) 0)
  omega
theorem dispS_ok {x k v : Int} {b r : List Int} (hk : 0 ≤ k ∧ k ≤ 255) (hv : 0 ≤ v ∧ v ≤ 255) (hl : r.length ≤ 10000) : OkR (dispS x k v b r) := by
  have a1 := atV_rng b 1
  have a3 := atV_rng b 3
  have hu : (unpackS r).length ≤ 100000 := by rw [unpackS_len]; omega
  have hw : (listS r).length ≤ 100000 := by rw [listS_len]; omega
  have kb : OkR (k, v, unpackS r, [], 0, 0) := ⟨hk.1, hk.2, hv.1, hv.2, (by intro _ h; cases h), by show (0 : Int) ≤ 0; omega, by show (0 : Int) ≤ 65535; omega, by show (0 : Int) ≤ 0; omega, by show (0 : Int) ≤ 65535; omega, hu, by show 0 ≤ 100000; omega⟩
  have kw : OkR (k, v, [], listS r, 0, 0) := ⟨hk.1, hk.2, hv.1, hv.2, fun _ h => mem_numV h, by show (0 : Int) ≤ 0; omega, by show (0 : Int) ≤ 65535; omega, by show (0 : Int) ≤ 0; omega, by show (0 : Int) ≤ 65535; omega, by show 0 ≤ 100000; omega, hw⟩
  have ko : OkR (k, v, [eqi (atV b 3) 65280], [], atV b 1, 0) := ⟨hk.1, hk.2, hv.1, hv.2, (by intro _ h; cases h), a1.1, by show atV b 1 ≤ 65535; omega, by show (0 : Int) ≤ 0; omega, by show (0 : Int) ≤ 65535; omega, by show 1 ≤ 100000; omega, by show 0 ≤ 100000; omega⟩
  have ku : OkR (k, v, [], [atV b 3], atV b 1, 0) := ⟨hk.1, hk.2, hv.1, hv.2, (by intro z h; cases List.mem_singleton.1 h; omega), a1.1, by show atV b 1 ≤ 65535; omega, by show (0 : Int) ≤ 0; omega, by show (0 : Int) ≤ 65535; omega, by show 0 ≤ 100000; omega, by show 1 ≤ 100000; omega⟩
  have kc : OkR (k, v, [], [], atV b 1, atV b 3) := ⟨hk.1, hk.2, hv.1, hv.2, (by intro _ h; cases h), a1.1, by show atV b 1 ≤ 65535; omega, a3.1, by show atV b 3 ≤ 65535; omega, by show 0 ≤ 100000; omega, by show 0 ≤ 100000; omega⟩
  have kz : OkR (k, v, [], [], 0, 0) := ⟨hk.1, hk.2, hv.1, hv.2, (by intro _ h; cases h), by show (0 : Int) ≤ 0; omega, by show (0 : Int) ≤ 65535; omega, by show (0 : Int) ≤ 0; omega, by show (0 : Int) ≤ 65535; omega, by show 0 ≤ 100000; omega, by show 0 ≤ 100000; omega⟩
  have ki : ∀ {c : Prop} [Decidable c] {p q : TR}, OkR p → OkR q → OkR (if c then p else q) := by
    intro c _ p q hp hq
    by_cases h : c
    · rw [if_pos h]; exact hp
    · rw [if_neg h]; exact hq
  exact ki kb (ki kb (ki kw (ki kw (ki kw (ki ko (ki ku (ki kc (ki kc kz))))))))
theorem finS_no {b : List Int} {c : TR} (h : rightR c = true → (repB c).length ≠ b.length) : finS b c = (zR, 13) := by
  unfold finS
  by_cases hr : rightR c = true
  · rw [if_pos hr, if_neg]
    intro he
    have := congrArg List.length (eqs_iff.1 he)
    simp only [toS, List.length_map] at this
    exact h hr this
  · rw [if_neg hr]
theorem zero_right (k : Int) : rightR (k, 0, [], [], 0, 0) = false := by
  have hb : bitR (k, 0, [], [], 0, 0) = false := rfl
  have hw : wordR (k, 0, [], [], 0, 0) = false := rfl
  have ho : obR (k, 0, [], [], 0, 0) = false := rfl
  have hu : owR (k, 0, [], [], 0, 0) = false := rfl
  have hc : ∀ m, ctR m (k, 0, [], [], 0, 0) = false := fun m => rfl
  have ki : ∀ {c : Prop} [Decidable c] {p q : Bool}, p = false → q = false → (if c then p else q) = false := by
    intro c _ p q hp hq
    by_cases h : c
    · rw [if_pos h]; exact hp
    · rw [if_neg h]; exact hq
  unfold rightR
  rw [if_neg (by show ¬ nei 0 0 = true; decide)]
  exact ki hb (ki hb (ki hw (ki hw (ki hw (ki ho (ki hu (ki (hc _) (ki (hc _) rfl))))))))
theorem finS_chk (b : List Int) (c : TR) : finS b c = chkV b c (rightR c) (repB c) := rfl
theorem finS_long {b : List Int} {c : TR} (h : OkR c) (hl : 253 < b.length) : finS b c = (zR, 13) := finS_no fun hr => by
  have := (repB_len (rightR_RR h hr)).2
  omega
theorem fin_hi {x y : Int} {r : List Int} (hx : 128 ≤ x) (hx2 : x ≤ 255) (hy : 0 ≤ y ∧ y ≤ 255) : finS (x :: y :: r) (x - 128, y, [], [], 0, 0) = parseQ x y r := by
  have ok : OkR (x - 128, y, [], [], 0, 0) := ⟨by show 0 ≤ x - 128; omega, by show x - 128 ≤ 255; omega, hy.1, hy.2, (by intro _ h; cases h), by show (0 : Int) ≤ 0; omega, by show (0 : Int) ≤ 65535; omega, by show (0 : Int) ≤ 0; omega, by show (0 : Int) ≤ 65535; omega, by show 0 ≤ 100000; omega, by show 0 ≤ 100000; omega⟩
  have ex : exC x y = (x - 128, y, [], [], 0, 0) := by
    unfold exC
    have : rem x 128 = x - 128 := by
      unfold rem
      rw [Int.tmod_eq_emod_of_nonneg (by omega)]
      omega
    rw [this]
  unfold parseQ
  by_cases hl : 251 < r.length
  · rw [if_pos hl]
    exact finS_long ok (by simp; omega)
  rw [if_neg hl, if_neg (by rw [lt_iff]; omega), ex]
  by_cases h0 : y = 0
  · subst h0
    rw [finS_chk, zero_right]
    have : exR (x - 128, 0, [], [], 0, 0) = false := by
      unfold exR
      have : decide ((1 : Int) ≤ 0) = false := by decide
      simp [this]
    rw [this]
    rfl
  · have h1 : nei y 0 = true := nei_iff.2 h0
    have e1 : rightR (x - 128, y, [], [], 0, 0) = exR (x - 128, y, [], [], 0, 0) := by
      unfold rightR
      rw [if_pos h1]
    have e2 : repB (x - 128, y, [], [], 0, 0) = exB (x - 128, y, [], [], 0, 0) := by
      unfold repB
      rw [if_pos h1]
    rw [finS_chk, e1, e2]
theorem pairC_short {f : Int → Int → TR} {r : List Int} (h : r.length < 4) : pairC f r = zR := by
  unfold pairC
  rcases pair_cases (listS r) with ⟨_, h2⟩ | ⟨p, q, t, e⟩
  · exact h2 f
  · have := congrArg List.length e
    rw [listS_len] at this
    simp at this
    omega
theorem fin_pair {x y : Int} {r : List Int} {f : Int → Int → TR} {R : TR → Bool} {B : TR → List Int} (hR : ∀ p q, rightR (f p q) = R (f p q)) (hB : ∀ p q, repB (f p q) = B (f p q)) (h5 : ∀ p q, (B (f p q)).length = 5) (hz : R zR = false) :
    finS (x :: y :: r) (f (atV (x :: y :: r) 1) (atV (x :: y :: r) 3)) = chkV (x :: y :: r) (pairC f (y :: r)) (R (pairC f (y :: r))) (B (pairC f (y :: r))) := by
  rcases r with _ | ⟨p, _ | ⟨q, _ | ⟨s, t⟩⟩⟩
  · rw [finS_no (fun _ => by rw [hB, h5]; show 5 ≠ 2; decide), pairC_short (by simp), hz]
    rfl
  · rw [finS_no (fun _ => by rw [hB, h5]; show 5 ≠ 3; decide), pairC_short (by simp), hz]
    rfl
  · rw [finS_no (fun _ => by rw [hB, h5]; show 5 ≠ 4; decide), pairC_short (by simp), hz]
    rfl
  · have e : pairC f (y :: p :: q :: s :: t) = f (numV y p) (numV q s) := by
      unfold pairC
      rw [listS_two, listS_two]
    have a1 : atV (x :: y :: p :: q :: s :: t) 1 = numV y p := by
      unfold atV
      rw [if_pos (by simp)]
      rfl
    have a3 : atV (x :: y :: p :: q :: s :: t) 3 = numV q s := by
      unfold atV
      rw [if_pos (by simp)]
      rfl
    rw [e, a1, a3, finS_chk, hR, hB]
theorem fin_lo {x y : Int} {r : List Int} (hx : 0 ≤ x) (hx2 : x < 128) (hl2 : r.length ≤ 10000) : finS (x :: y :: r) (dispS x x 0 (x :: y :: r) r) = parseQ x y r := by
  unfold parseQ
  by_cases hl : 251 < r.length
  · rw [if_pos hl]
    refine finS_no fun hr => ?_
    have := (repB_len (rightR_RR (dispS_ok ⟨hx, by omega⟩ ⟨by omega, by omega⟩ hl2) hr)).2
    simp
    omega
  rw [if_neg hl, if_pos (by rw [lt_iff]; omega)]
  unfold dispS
  by_cases c : eqi x 1 = true
  · rw [if_pos c, if_pos c]; cases eqi_iff.1 c; rfl
  rw [if_neg c, if_neg c]
  clear c
  by_cases c : eqi x 2 = true
  · rw [if_pos c, if_pos c]; cases eqi_iff.1 c; rfl
  rw [if_neg c, if_neg c]
  clear c
  by_cases c : eqi x 3 = true
  · rw [if_pos c, if_pos c]; cases eqi_iff.1 c; rfl
  rw [if_neg c, if_neg c]
  clear c
  by_cases c : eqi x 4 = true
  · rw [if_pos c, if_pos c]; cases eqi_iff.1 c; rfl
  rw [if_neg c, if_neg c]
  clear c
  by_cases c : eqi x 23 = true
  · rw [if_pos c, if_pos c]; cases eqi_iff.1 c; rfl
  rw [if_neg c, if_neg c]
  clear c
  by_cases c : eqi x 5 = true
  · rw [if_pos c, if_pos c]
    cases eqi_iff.1 c
    exact fin_pair (f := fun p q => (5, 0, [eqi q 65280], [], p, 0)) (R := obR) (B := obB) (fun _ _ => rfl) (fun _ _ => rfl) (fun _ _ => rfl) rfl
  rw [if_neg c, if_neg c]
  clear c
  by_cases c : eqi x 6 = true
  · rw [if_pos c, if_pos c]
    cases eqi_iff.1 c
    exact fin_pair (f := fun p q => (6, 0, [], [q], p, 0)) (R := owR) (B := owB) (fun _ _ => rfl) (fun _ _ => rfl) (fun _ _ => rfl) rfl
  rw [if_neg c, if_neg c]
  clear c
  by_cases c : eqi x 15 = true
  · rw [if_pos c, if_pos c]
    cases eqi_iff.1 c
    exact fin_pair (f := fun p q => (15, 0, [], [], p, q)) (R := ctR 1968) (B := ctB) (fun _ _ => rfl) (fun _ _ => rfl) (fun _ _ => rfl) rfl
  rw [if_neg c, if_neg c]
  clear c
  by_cases c : eqi x 16 = true
  · rw [if_pos c, if_pos c]
    cases eqi_iff.1 c
    exact fin_pair (f := fun p q => (16, 0, [], [], p, q)) (R := ctR 123) (B := ctB) (fun _ _ => rfl) (fun _ _ => rfl) (fun _ _ => rfl) rfl
  rw [if_neg c, if_neg c, finS_chk, zero_right]
  rfl
/-- the candidate -/
def candS (x y : Int) (b r : List Int) : TR := if gt x 127 = true then (x - 128, y, [], [], 0, 0) else dispS x x 0 b r
theorem candS_ok {x y : Int} {r b : List Int} (hx : 0 ≤ x ∧ x ≤ 255) (hy : 0 ≤ y ∧ y ≤ 255) (hl : r.length ≤ 10000) : OkR (candS x y b r) := by
  unfold candS
  by_cases h : gt x 127 = true
  · rw [if_pos h]
    have := gt_iff.1 h
    exact ⟨by show 0 ≤ x - 128; omega, by show x - 128 ≤ 255; omega, hy.1, hy.2, (by intro _ h; cases h), by show (0 : Int) ≤ 0; omega, by show (0 : Int) ≤ 65535; omega, by show (0 : Int) ≤ 0; omega, by show (0 : Int) ≤ 65535; omega, by show 0 ≤ 100000; omega, by show 0 ≤ 100000; omega⟩
  · rw [if_neg h]
    exact dispS_ok hx ⟨by omega, by omega⟩ hl
theorem cand_parse {x y : Int} {r : List Int} (hx : 0 ≤ x ∧ x ≤ 255) (hy : 0 ≤ y ∧ y ≤ 255) (hl : r.length ≤ 10000) : finS (x :: y :: r) (candS x y (x :: y :: r) r) = parseR (x :: y :: r) := by
  show _ = parseQ x y r
  unfold candS
  by_cases h : gt x 127 = true
  · rw [if_pos h]
    have := gt_iff.1 h
    exact fin_hi (by omega) hx.2 hy
  · rw [if_neg h]
    rw [gt_iff] at h
    exact fin_lo hx.1 (by omega) hl
theorem rparse3_eq {b : List Int} (hb : ∀ x ∈ b, 0 ≤ x ∧ x ≤ 255) (hl : b.length ≤ 10000) : ref03_Parse (b, ()) = some ((parseR b).1, (parseR b).2, ()) := by
  show ref03_Parse_m0 ref03_Parse_K1 b = _
  match b with
  | [] => rfl
  | [_] => rfl
  | x :: y :: r =>
    have hx := hb x List.mem_cons_self
    have hy := hb y (List.mem_cons_of_mem _ List.mem_cons_self)
    have hr : r.length ≤ 10000 := by simp at hl; omega
    have hl5 : (x :: y :: r).length ≤ 100000 := by omega
    rw [← cand_parse hx hy hr, ← p3K3 (t := (0, 0, [], [], 0, 0)) (candS_ok hx hy hr)]
    unfold ref03_Parse_m0
    rw [if_neg (by rw [lt_iff, ofNat_eq]; simp; omega), at_zero, at_one]
    simp only [Option.bind_some]
    unfold candS
    by_cases h : gt x 127 = true
    · rw [if_pos h, if_pos h, p3K1 hb hl5]
      have hgt := gt_iff.1 h
      have e : sub .u8 x 128 = x - 128 := by
        show IntKind.u8.wrap (x - 128) = _
        rw [wr8]
        omega
      have en : ∀ k : Int, k < 128 → ¬ eqi x k = true := fun k hk he => by
        have := eqi_iff.1 he
        omega
      rw [e]
      unfold dispS
      rw [if_neg (en 1 (by omega)), if_neg (en 2 (by omega)), if_neg (en 3 (by omega)), if_neg (en 4 (by omega)), if_neg (en 23 (by omega)), if_neg (en 5 (by omega)), if_neg (en 6 (by omega)), if_neg (en 15 (by omega)), if_neg (en 16 (by omega))]
    · rw [if_neg h, if_neg h, p3K1 hb hl5]
theorem parseR_ok {b : List Int} (hb : ∀ x ∈ b, 0 ≤ x ∧ x ≤ 255) (hl : b.length ≤ 10000) : OkR (parseR b).1 := by
  have hz : OkR zR := ⟨by show (0 : Int) ≤ 0; omega, by show (0 : Int) ≤ 255; omega, by show (0 : Int) ≤ 0; omega, by show (0 : Int) ≤ 255; omega, (by intro _ h; cases h), by show (0 : Int) ≤ 0; omega, by show (0 : Int) ≤ 65535; omega, by show (0 : Int) ≤ 0; omega, by show (0 : Int) ≤ 65535; omega, by show 0 ≤ 100000; omega, by show 0 ≤ 100000; omega⟩
  match b with
  | [] => exact hz
  | [_] => exact hz
  | x :: y :: r =>
    have hx := hb x List.mem_cons_self
    have hy := hb y (List.mem_cons_of_mem _ List.mem_cons_self)
    have hr : r.length ≤ 10000 := by simp at hl; omega
    rw [← cand_parse hx hy hr]
    unfold finS
    have ok := candS_ok (b := x :: y :: r) hx hy hr
    split
    · split
      · exact ok
      · exact hz
    · exact hz
end Go.Proofs.Lx

end
