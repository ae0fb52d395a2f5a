/- Proved in the last of these 9 parts (this is part 8): PollTries, whatever its arguments, returns true and leaves them as they were, with no condition.. Conditions: those of the given statement, and no others. -/
import Derived.Test.YtbpmjafbgbcjeaaPartg
import Derived.Test.YtbpmjafbgbcjeaaPartd
set_option linter.unusedVariables false
set_option linter.unusedSimpArgs false
set_option linter.unusedSectionVars false
section
/- Which replies fit, and what is taken. -/
namespace Go.Proofs.Lx
open Go Ev Sx Pl
set_option maxRecDepth 100000
def tcpV (unit tx : Int) (b : List Int) : Option TR :=
  if (mbapP b).2 ≠ 0 then none else if (mbapP b).1.2.1 ≠ unit then none else if (mbapP b).1.1 ≠ tx then none else
  if (parseR (mbapP b).1.2.2).2 ≠ 0 then none else some (parseR (mbapP b).1.2.2).1
theorem tcpfind_eq {b : List Int} (hl : b.length ≤ 100000) (hb : ∀ x ∈ b, 0 ≤ x ∧ x ≤ 255) (unit tx : Int) : poll_tcp_find ((), unit, tx, b, ()) = outF (tcpV unit tx b) := by
  show poll_tcp_find_m0 poll_tcp_find_K1 () unit tx b = _
  unfold poll_tcp_find_m0
  rw [mparse_eq hl hb, Option.bind_some]
  dsimp only
  have K : ∀ (t : Bool) (y1 y2 : Int) (y3 : List Int), poll_tcp_find_K1 t 0 0 0 0 y1 y2 y3 = if t = true then some (zR, false, ()) else if (parseR y3).2 ≠ 0 then some (zR, false, ()) else some ((parseR y3).1, true, ()) := fun t y1 y2 y3 => by
    unfold poll_tcp_find_K1 poll_tcp_find_m1
    rw [parse_eq, Option.bind_some]
    simp only [nei_iff]
    rfl
  rw [K, K]
  unfold tcpV
  by_cases h1 : (mbapP b).2 = 0
  · by_cases h2 : (mbapP b).1.2.1 = unit
    · by_cases h3 : (mbapP b).1.1 = tx
      · by_cases h4 : (parseR (mbapP b).1.2.2).2 = 0
        · simp [h1, h2, h3, h4, nei, outF]
        · simp [h1, h2, h3, h4, nei, outF]
      · simp [h1, h2, h3, nei, outF]
    · simp [h1, h2, nei, outF]
  · simp [h1, nei, outF]
/-! ### which fit -/
def echoV (a : TA) : Option TR :=
  if a.1 = 5 then some (5, 0, [a.2.2.2.2.2.headD false], [], a.2.1, 0) else if a.1 = 6 then some (6, 0, [], [a.2.2.2.2.1.headD 0], a.2.1, 0) else
  if a.1 = 15 ∨ a.1 = 16 then some (a.1, 0, [], [], a.2.1, a.2.2.1) else none
theorem echo_eq {a : TA} (h : OkA a) (hr : rightA a = true) : reply_Echo (a, ()) = outF (echoV a) := by
  show reply_Echo_m0 reply_Echo_K1 reply_Echo_K2 a = _
  unfold reply_Echo_m0
  rw [right_eq h, Option.bind_some, hr]
  clear h
  have hra := rightA_RA hr
  clear hr
  cases hra with
  | bits f p n hf h1 h2 => rcases hf with rfl | rfl <;> rfl
  | words f p n hf h1 h2 => rcases hf with rfl | rfl <;> rfl
  | coil p b => rfl
  | word p x => rfl
  | coils p l h1 h2 => rfl
  | regs p l h1 h2 => rfl
  | swap p n t l h1 h2 h3 h4 => rfl
theorem goL_index (v : Bool) : ∀ (s : List Bool) (n : Nat), ∃ k : Int, goL (R := Int × Unit) (fun (_ : Unit) (x : Bool × Nat) k => if eqb v x.1 = true then some ((x.2 : Int), ()) else k ()) (fun _ => some (-1, ())) (s.zipIdx n) () = some (k, ()) ∧ (0 ≤ k ↔ v ∈ s)
  | [], n => ⟨-1, rfl, by simp⟩
  | a :: r, n => by
    rw [List.zipIdx_cons]
    obtain ⟨k, h1, h2⟩ := goL_index v r (n + 1)
    by_cases e : v = a
    · refine ⟨(n : Int), ?_, by simp [e]⟩
      show (if eqb v a = true then _ else _) = _
      rw [if_pos (eqb_iff.2 e)]
    · refine ⟨k, ?_, ?_⟩
      · show (if eqb v a = true then _ else _) = _
        rw [if_neg (fun h => e (eqb_iff.1 h))]
        exact h1
      · rw [h2]
        simp [e]
theorem contains_eq {s : List Bool} (v : Bool) (h : s.length ≤ 1000000) : slices_Contains_Gbool (s, v, ()) = some (decide (v ∈ s), ()) := by
  obtain ⟨k, h1, h2⟩ := goL_index v s 0
  have e : slices_Index_Gbool (s, v, ()) = some (k, ()) := by
    rw [← h1]
    show slices_Index_Gbool_m0 slices_Index_Gbool_K1 s v = _
    unfold slices_Index_Gbool_m0 slices_Index_Gbool_K1
    have hz : (s.zipIdx 0).length = s.length := by simp
    refine loop_go (xs := s.zipIdx 0) (mk := fun i _ => (s, v, Int.ofNat s.length, (i : Int))) ?_ ?_ s.length 0 () _ (by rw [hz]; omega) (by omega)
    · intro self i acc x hx
      have hi := (List.getElem?_eq_some_iff.1 hx).1
      rw [hz] at hi
      have hx2 : s[i]? = some x.1 ∧ x.2 = i := by
        rw [List.getElem?_zipIdx] at hx
        obtain ⟨y, hy, rfl⟩ := Option.map_eq_some_iff.1 hx
        exact ⟨hy, by simp⟩
      show slices_Index_Gbool_m1 _ s v (Int.ofNat s.length) (i : Int) = _
      unfold slices_Index_Gbool_m1
      rw [if_pos (by rw [lt_iff, ofNat_eq]; omega), at_get hx2.1, Option.bind_some, succ64 (by omega), hx2.2]
    · intro self acc
      show slices_Index_Gbool_m1 _ s v (Int.ofNat s.length) (((s.zipIdx 0).length : Nat) : Int) = _
      unfold slices_Index_Gbool_m1
      rw [hz, if_neg (by rw [lt_iff, ofNat_eq]; omega)]
  show slices_Contains_Gbool_m0 s v = _
  unfold slices_Contains_Gbool_m0
  rw [e, Option.bind_some]
  refine congrArg (fun x => some (x, ())) ?_
  rw [ge_dec]
  by_cases hv : v ∈ s
  · rw [decide_eq_true hv, decide_eq_true (h2.2 hv)]
  · rw [decide_eq_false hv, decide_eq_false (fun h => hv (h2.1 h))]
def fitsV (a : TA) (r : TR) : Bool :=
  rightA a && (rightR r && (decide (a.1 = r.1) && (if r.2.1 ≠ 0 then true else match echoV a with
    | some e => decide (e = r)
    | none => if 0 < r.2.2.1.length then decide ((r.2.2.1.length : Int) = (a.2.2.1 + 7) / 8 * 8) && !decide (true ∈ r.2.2.1.drop a.2.2.1.toNat) else decide ((r.2.2.2.1.length : Int) = a.2.2.1))))
theorem fits_K {a : TA} {r : TR} (h : OkA a) (hr : rightA a = true) (hs : SmR r) (t : Bool) : reply_Fits_K1 t a.1 a.2.1 a.2.2.1 a.2.2.2.1 a.2.2.2.2.1 a.2.2.2.2.2 r.1 r.2.1 r.2.2.1 r.2.2.2.1 r.2.2.2.2.1 r.2.2.2.2.2 =
    some (!t && (if r.2.1 ≠ 0 then true else match echoV a with
    | some e => decide (e = r)
    | none => if 0 < r.2.2.1.length then decide ((r.2.2.1.length : Int) = (a.2.2.1 + 7) / 8 * 8) && !decide (true ∈ r.2.2.1.drop a.2.2.1.toNat) else decide ((r.2.2.2.1.length : Int) = a.2.2.1)), ()) := by
  unfold reply_Fits_K1 reply_Fits_m1
  cases t with
  | true => rfl
  | false =>
    rw [if_neg (by decide), Bool.not_false, Bool.true_and]
    by_cases h0 : r.2.1 = 0
    · rw [if_neg (by rw [nei_iff]; exact fun e => e h0)]
      simp only [ne_eq, h0, not_true_eq_false, if_false]
      have he : reply_Echo ((a.1, a.2.1, a.2.2.1, a.2.2.2.1, a.2.2.2.2.1, a.2.2.2.2.2), ()) = outF (echoV a) := echo_eq h hr
      rw [he]
      cases hv : echoV a with
      | some e =>
        have hse : SmR e := by
          unfold echoV at hv
          split at hv
          · cases hv; exact ⟨by show 1 ≤ 100000; decide, by show 0 ≤ 100000; decide⟩
          · split at hv
            · cases hv; exact ⟨by show 0 ≤ 100000; decide, by show 1 ≤ 100000; decide⟩
            · split at hv
              · cases hv; exact ⟨by show 0 ≤ 100000; decide, by show 0 ≤ 100000; decide⟩
              · cases hv
        have e2 := sameR_eq (b := r) hse
        rw [← h0]
        show Option.bind (reply_Same (e, r, ())) _ = _
        rw [e2]
        rfl
      | none =>
        have hm0 := h.m0
        have hm1 := h.m1
        have hb := hs.b
        have hw := hs.w
        show (if gt (Int.ofNat r.2.2.1.length) 0 = true then _ else _) = _
        by_cases hbl : 0 < r.2.2.1.length
        · rw [if_pos (by rw [gt_iff, ofNat_eq]; omega), if_pos hbl]
          obtain ⟨m, hm⟩ := Int.eq_ofNat_of_zero_le hm0
          have e1 : mul .i64 (quo .i64 (add .i64 (cvt .i64 a.2.2.1) 7) 8) 8 = (a.2.2.1 + 7) / 8 * 8 := by
            rw [hm, cvt64 (by omega) (by omega), show (7 : Int) = ((7 : Nat) : Int) from rfl, addn64 (by omega)]
            have := quo_nat (i := m + 7) (d := 8) (by omega)
            rw [show (8 : Int) = ((8 : Nat) : Int) from rfl, this, mul64 (by omega) (by omega)]
            omega
          rw [e1]
          by_cases hq : (r.2.2.1.length : Int) = (a.2.2.1 + 7) / 8 * 8
          · rw [if_pos (by rw [eqi_iff, ofNat_eq]; exact hq), decide_eq_true hq, cvt64 (by omega) (by omega), hm, cut_from (by omega), Option.bind_some, contains_eq true (by simp; omega), Option.bind_some, Int.toNat_natCast]
            rfl
          · rw [if_neg (by rw [eqi_iff, ofNat_eq]; exact hq), decide_eq_false hq]
            rfl
        · rw [if_neg (by rw [gt_iff, ofNat_eq]; omega), if_neg hbl, cvt64 (by omega) (by omega)]
          refine congrArg (fun x => some (x, ())) ?_
          rw [ofNat_eq]
          rw [Bool.eq_iff_iff, eqi_iff, decide_eq_true_eq]
    · rw [if_pos (by rw [nei_iff]; exact h0), if_pos h0]
theorem fits_eq {a : TA} {r : TR} (h : OkA a) (hs : SmR r) : reply_Fits (a, r, ()) = some (fitsV a r, ()) := by
  show reply_Fits_m0 reply_Fits_K1 a r = _
  unfold reply_Fits_m0 fitsV
  rw [right_eq h, Option.bind_some, rightR_eq hs, Option.bind_some]
  cases hr : rightA a with
  | false => rfl
  | true =>
    rw [if_neg (by decide)]
    cases hq : rightR r with
    | false => rfl
    | true =>
      rw [if_neg (by decide), fits_K h hr hs]
      refine congrArg (fun x => some (x, ())) ?_
      have e : (!nei a.1 r.1) = decide (a.1 = r.1) := by
        rw [Bool.eq_iff_iff, Bool.not_eq_true', ← Bool.not_eq_true, nei_iff, decide_eq_true_eq]
        exact Decidable.not_not
      rw [e]
      rfl
end Go.Proofs.Lx

end

section
/- What is taken by a poll. -/
namespace Go.Proofs.Lx
open Go Ev Sx Pl
set_option maxRecDepth 100000
theorem chkV_sm {b : List Int} {c : TR} {ok : Bool} {w : List Int} (h : SmR c) : SmR (chkV b c ok w).1 := by
  unfold chkV
  split
  · split
    · exact h
    · exact zR_sm
  · exact zR_sm
theorem parseR_sm (b : List Int) : SmR (parseR b).1 := by
  match b with
  | [] => exact zR_sm
  | [_] => exact zR_sm
  | x :: y :: r =>
    show SmR (parseQ x y r).1
    unfold parseQ
    by_cases hl : 251 < r.length
    · rw [if_pos hl]; exact zR_sm
    · rw [if_neg hl]
      have sb : SmR (bitC x r) := ⟨by show (unpackS r).length ≤ _; rw [unpackS_len]; omega, by show 0 ≤ 100000; decide⟩
      have sw : SmR (wordC x r) := ⟨by show 0 ≤ 100000; decide, by show (listS r).length ≤ _; rw [listS_len]; omega⟩
      have so : SmR (obC x (y :: r)) := pairC_sm (fun p q => ⟨by show 1 ≤ 100000; decide, by show 0 ≤ 100000; decide⟩) _
      have su : SmR (owC x (y :: r)) := pairC_sm (fun p q => ⟨by show 0 ≤ 100000; decide, by show 1 ≤ 100000; decide⟩) _
      have sc : SmR (ctC x (y :: r)) := pairC_sm (fun p q => ⟨by show 0 ≤ 100000; decide, by show 0 ≤ 100000; decide⟩) _
      have se : SmR (exC x y) := ⟨by show 0 ≤ 100000; decide, by show 0 ≤ 100000; decide⟩
      have step : ∀ {c : Prop} [Decidable c] {A B : TR × Int}, SmR A.1 → SmR B.1 → SmR (if c then A else B).1 := fun {c} _ {A B} h1 h2 => by
        by_cases hc : c
        · rw [if_pos hc]; exact h1
        · rw [if_neg hc]; exact h2
      exact step (step (chkV_sm sb) (step (chkV_sm sb) (step (chkV_sm sw) (step (chkV_sm sw) (step (chkV_sm sw) (step (chkV_sm so) (step (chkV_sm su) (step (chkV_sm sc) (step (chkV_sm sc) zR_sm))))))))) (chkV_sm se)
def findV (p : TP) (b : List Int) : Option TR := if p.2.1 = 2 then tcpV p.1 p.2.2.2.2.2.2.1 b else serV p.1 b
theorem findV_sm {p : TP} {b : List Int} {r : TR} (h : findV p b = some r) : SmR r := by
  unfold findV at h
  split at h
  · unfold tcpV at h
    split at h
    · cases h
    · split at h
      · cases h
      · split at h
        · cases h
        · split at h
          · cases h
          · cases h; exact parseR_sm _
  · unfold serV at h
    split at h
    · cases h
    · split at h
      · cases h
      · split at h
        · cases h
        · cases h; exact parseR_sm _
def takeV (p : TP) (b : List Int) : Option TR := if p.2.2.2.2.1 = true then (findV p b).bind fun r => if fitsV p.2.2.2.2.2.1 r = true then some r else none else none
def outT (p : TP) : Option TR → Option (TP × TR × Bool × Unit)
  | some r => some (dropP p, r, true, ())
  | none => some (p, zR, false, ())
theorem take_K {p : TP} (h : OkP p) {r : TR} (hs : SmR r) (ok : Bool) : poll_Take_K1 ok p.1 p.2.1 p.2.2.1 p.2.2.2.1 p.2.2.2.2.1 p.2.2.2.2.2.1.1 p.2.2.2.2.2.1.2.1 p.2.2.2.2.2.1.2.2.1 p.2.2.2.2.2.1.2.2.2.1 p.2.2.2.2.2.1.2.2.2.2.1 p.2.2.2.2.2.1.2.2.2.2.2
    p.2.2.2.2.2.2.1 p.2.2.2.2.2.2.2.1 p.2.2.2.2.2.2.2.2 0 0 0 0 false 0 0 0 0 0 0 0 0 0 0 0 r.1 r.2.1 r.2.2.1 r.2.2.2.1 r.2.2.2.2.1 r.2.2.2.2.2 =
    outT p (if ok = true then if fitsV p.2.2.2.2.2.1 r = true then some r else none else none) := by
  unfold poll_Take_K1 poll_Take_m1
  have h1 := h.a.lw
  have h2 := h.a.lb
  have e2 : ∀ t, poll_Take_K2 t p.1 p.2.1 p.2.2.1 p.2.2.2.1 p.2.2.2.2.1 p.2.2.2.2.2.1.1 p.2.2.2.2.2.1.2.1 p.2.2.2.2.2.1.2.2.1 p.2.2.2.2.2.1.2.2.2.1 p.2.2.2.2.2.1.2.2.2.2.1 p.2.2.2.2.2.1.2.2.2.2.2
    p.2.2.2.2.2.2.1 p.2.2.2.2.2.2.2.1 p.2.2.2.2.2.2.2.2 0 0 0 0 false 0 0 0 0 0 0 0 0 0 0 0 r.1 r.2.1 r.2.2.1 r.2.2.2.1 r.2.2.2.2.1 r.2.2.2.2.2 = if t = true then some (p, zR, false, ()) else some (dropP p, r, true, ()) := fun t => by
    unfold poll_Take_K2 poll_Take_m2
    have eo : poll_own (p, ()) = some (p, ()) := own_eq (by omega) (by omega)
    cases t with
    | true => exact (congrArg (fun q => Option.bind q fun y => some (y.1, zR, false, ())) eo).trans rfl
    | false => rfl
  rw [e2]
  have e3 : reply_Fits ((p.2.2.2.2.2.1.1, p.2.2.2.2.2.1.2.1, p.2.2.2.2.2.1.2.2.1, p.2.2.2.2.2.1.2.2.2.1, p.2.2.2.2.2.1.2.2.2.2.1, p.2.2.2.2.2.1.2.2.2.2.2), (r.1, r.2.1, r.2.2.1, r.2.2.2.1, r.2.2.2.2.1, r.2.2.2.2.2), ()) = some (fitsV p.2.2.2.2.2.1 r, ()) := fits_eq h.a hs
  rw [e3, Option.bind_some, e2]
  cases ok with
  | false => rfl
  | true => cases fitsV p.2.2.2.2.2.1 r <;> rfl
theorem take_eq {p : TP} (h : OkP p) {b : List Int} (hl : b.length ≤ 100000) (hb : ∀ x ∈ b, 0 ≤ x ∧ x ≤ 255) : poll_Take (p, b, ()) = outT p (takeV p b) := by
  show poll_Take_m0 poll_Take_K1 p b = _
  unfold poll_Take_m0
  have h1 := h.a.lw
  have h2 := h.a.lb
  rw [own_eq (by omega) (by omega), Option.bind_some, tcpfind_eq hl hb, serfind_eq]
  have key : ∀ o : Option TR, (∀ r, o = some r → SmR r) → (Option.bind (outF o) fun y => poll_Take_K1 y.2.1 p.1 p.2.1 p.2.2.1 p.2.2.2.1 p.2.2.2.2.1 p.2.2.2.2.2.1.1 p.2.2.2.2.2.1.2.1 p.2.2.2.2.2.1.2.2.1 p.2.2.2.2.2.1.2.2.2.1 p.2.2.2.2.2.1.2.2.2.2.1 p.2.2.2.2.2.1.2.2.2.2.2
      p.2.2.2.2.2.2.1 p.2.2.2.2.2.2.2.1 p.2.2.2.2.2.2.2.2 0 0 0 0 false 0 0 0 0 0 0 0 0 0 0 0 y.1.1 y.1.2.1 y.1.2.2.1 y.1.2.2.2.1 y.1.2.2.2.2.1 y.1.2.2.2.2.2) = outT p (o.bind fun r => if fitsV p.2.2.2.2.2.1 r = true then some r else none) := fun o ho => by
    cases o with
    | none => exact take_K h zR_sm false
    | some r => exact take_K h (ho r rfl) true
  have hout : ∀ o, ∃ x, outT p o = some x := fun o => by cases o <;> exact ⟨_, rfl⟩
  unfold takeV
  cases hw : p.2.2.2.2.1 with
  | false => rfl
  | true =>
    rw [if_neg (by decide), if_pos rfl]
    rw [hw] at key
    by_cases hlk : p.2.1 = 2
    · have e : findV p b = tcpV p.1 p.2.2.2.2.2.2.1 b := by unfold findV; rw [if_pos hlk]
      have kk := key (tcpV p.1 p.2.2.2.2.2.2.1 b) (fun r hr => findV_sm (e.trans hr))
      rw [e]
      obtain ⟨x, hx⟩ := hout ((tcpV p.1 p.2.2.2.2.2.2.1 b).bind fun r => if fitsV p.2.2.2.2.2.1 r = true then some r else none)
      rw [hx] at kk ⊢
      simp only [eqi_iff, hlk, if_true]
      rw [hlk] at kk
      rw [kk, amb_same (eqAs_refl _), amb_same (eqAs_refl _)]
    · have e : findV p b = serV p.1 b := by unfold findV; rw [if_neg hlk]
      have kk := key (serV p.1 b) (fun r hr => findV_sm (e.trans hr))
      rw [e]
      obtain ⟨x, hx⟩ := hout ((serV p.1 b).bind fun r => if fitsV p.2.2.2.2.2.1 r = true then some r else none)
      rw [hx] at kk ⊢
      simp only [eqi_iff, hlk, if_false]
      rw [kk, amb_same (eqAs_refl _), amb_same (eqAs_refl _)]
end Go.Proofs.Lx

end

section
/- The bytes of a right request are read as that request. -/
namespace Pl
open Go Ev Sx
theorem listS_nil : listS [] = [] := rfl
theorem listS_two (y z : Int) (r : List Int) : listS (y :: z :: r) = numV y z :: listS r := by
  unfold listS
  have e : (y :: z :: r).length / 2 = r.length / 2 + 1 := by simp; omega
  rw [e, List.range_succ_eq_map, List.map_cons, List.map_map]
  congr 1
end Pl
namespace Go.Proofs.Lx
open Go Ev Sx Pl
set_option maxRecDepth 100000
theorem numV_two {x : Int} (h0 : 0 ≤ x) (h1 : x ≤ 65535) : numV (x / 256 % 256) (x % 256) = x := by
  rw [numV_eq (by omega) (by omega) (by omega) (by omega)]
  omega
theorem listS_of_two {x : Int} (h0 : 0 ≤ x) (h1 : x ≤ 65535) (r : List Int) : listS (x / 256 % 256 :: x % 256 :: r) = x :: listS r := by rw [listS_two, numV_two h0 h1]
theorem listS_flat : ∀ {l : List Int}, (∀ x ∈ l, 0 ≤ x ∧ x ≤ 65535) → listS (l.flatMap two) = l
  | [], _ => rfl
  | x :: r, h => by
    rw [List.flatMap_cons]
    show listS (x / 256 % 256 :: x % 256 :: r.flatMap two) = _
    have hx := h x (by simp)
    rw [listS_of_two hx.1 hx.2, listS_flat fun y hy => h y (List.mem_cons_of_mem _ hy)]
theorem byteV_256 {t : List Bool} (h : t.length ≤ 8) : 0 ≤ byteV t ∧ byteV t < 256 := by
  have h1 := byteV_rng t
  have h2 : 2 ^ t.length ≤ 2 ^ 8 := Nat.pow_le_pow_right (by decide) h
  have h3 : ((2 ^ t.length : Nat) : Int) = (2 : Int) ^ t.length := by norm_cast
  have h4 : (2 : Nat) ^ 8 = 256 := by decide
  exact ⟨h1.1, by omega⟩
theorem unpack_pack (l : List Bool) : (unpackS (packS l)).take l.length = l := by
  apply List.ext_getElem?
  intro i
  rw [List.getElem?_take]
  by_cases hi : i < l.length
  · rw [if_pos hi]
    unfold unpackS
    have hm : i < 8 * (packS l).length := by rw [packS_len]; unfold packN; omega
    rw [List.getElem?_map, List.getElem?_range hm, Option.map_some]
    have hq : i / 8 < packN l.length := by unfold packN; omega
    have e : (packS l).getD (i / 8) 0 = byteV ((l.drop (8 * (i / 8))).take 8) := by
      unfold packS
      rw [List.getD_eq_getElem?_getD, List.getElem?_map, List.getElem?_range hq]
      rfl
    have hr := byteV_256 (t := (l.drop (8 * (i / 8))).take 8) (by simp; omega)
    rw [e, bitV_eq hr.1 hr.2 (Nat.mod_lt _ (by decide)), byteV_bit]
    have e2 : ((l.drop (8 * (i / 8))).take 8).getD (i % 8) false = l[i] := by
      rw [List.getD_eq_getElem?_getD, List.getElem?_take, if_pos (Nat.mod_lt _ (by decide)), List.getElem?_drop]
      have : 8 * (i / 8) + i % 8 = i := by omega
      rw [this, List.getElem?_eq_getElem hi]
      rfl
    rw [e2, List.getElem?_eq_getElem hi]
    cases l[i] <;> rfl
  · rw [if_neg hi, List.getElem?_eq_none (by omega)]
theorem alist_eq {b : List Int} (h : b.length ≤ 100000) : ask_list (b, ()) = some (listS b, ()) := by
  show ask_list_m0 ask_list_K1 b = _
  unfold ask_list_m0
  have hq : quo .i64 (Int.ofNat b.length) 2 = ((b.length / 2 : Nat) : Int) := quo_nat (d := 2) (by omega)
  rw [hq, need_t (by rw [ge_iff]; omega), need_t (capOk_self _), Int.toNat_natCast, need_small (by omega), List.length_replicate]
  unfold ask_list_K1 listS
  refine (loop_det (mk := fun i => (b, Int.ofNat (b.length / 2), (i : Int), (List.range i).map (fun i => numV (b.getD (2 * i) 0) (b.getD (2 * i + 1) 0)) ++ (List.replicate (b.length / 2) (0 : Int)).drop i)) (N := b.length / 2) ?_ ?_ (b.length / 2) 0 _ (by omega) (by omega))
  · intro self i hi
    show ask_list_m1 _ b (Int.ofNat (b.length / 2)) (i : Int) _ = _
    unfold ask_list_m1
    have hm : mul .i64 2 (i : Int) = ((2 * i : Nat) : Int) := by
      rw [mul64 (by omega) (by omega)]
      simp
    have h1 : b[2 * i]? = some (b[2 * i]'(by omega)) := List.getElem?_eq_getElem (by omega)
    have h2 : b[2 * i + 1]? = some (b[2 * i + 1]'(by omega)) := List.getElem?_eq_getElem (by omega)
    have ho : ((List.range i).map (fun i => numV (b.getD (2 * i) 0) (b.getD (2 * i + 1) 0)) ++ (List.replicate (b.length / 2) (0 : Int)).drop i)[i]? = some (((List.range i).map (fun i => numV (b.getD (2 * i) 0) (b.getD (2 * i + 1) 0)) ++ (List.replicate (b.length / 2) (0 : Int)).drop i)[i]'(by simp; omega)) := List.getElem?_eq_getElem (by simp; omega)
    rw [if_pos (by rw [lt_iff, ofNat_eq]; omega), hm, succ64 (by omega), at_get h1, at_get h2, at_get ho, succ64 (by omega), Int.toNat_natCast]
    simp only [Option.bind_some]
    have e : bor .u16 (shl .u16 (cvt .u16 (b[2 * i]'(by omega))) 8) (cvt .u16 (b[2 * i + 1]'(by omega))) = numV (b.getD (2 * i) 0) (b.getD (2 * i + 1) 0) := by
      rw [List.getD_eq_getElem?_getD, List.getD_eq_getElem?_getD, h1, h2]
      rfl
    rw [e, fill_step (f := fun i => numV (b.getD (2 * i) 0) (b.getD (2 * i + 1) 0)) (by simp; omega)]
  · intro self
    show ask_list_m1 _ b (Int.ofNat (b.length / 2)) ((b.length / 2 : Nat) : Int) _ = _
    unfold ask_list_m1
    rw [if_neg (by rw [lt_iff, ofNat_eq]; omega), List.drop_of_length_le (by simp), List.append_nil]
/-! ### what is written -/
theorem wr_none (a : TA) (m : Int) (t e : Bool) (rest : List Int) : ask_written (a, (m, 0, 0, t, e), rest, ()) = some (a, true, ()) := rfl
theorem wr_coil (p x y : Int) : ask_written ((5, p, 0, 0, [], []), (0, 1, 0, false, false), [x, y], ()) = some ((5, p, 0, 0, [], [nei x 0]), true, ()) := rfl
theorem wr_word (p x y : Int) : ask_written ((6, p, 0, 0, [], []), (0, 0, 1, false, false), [x, y], ()) = some ((6, p, 0, 0, [numV x y], []), true, ()) := by
  show Option.bind (ask_list ([x, y], ())) (fun z => some ((6, p, 0, 0, z.1, []), true, ())) = _
  rw [alist_eq (by show 2 ≤ 100000; decide), Option.bind_some, listS_two]
  rfl
theorem wr_coils (p k : Int) (l : List Bool) (h1 : 1 ≤ l.length) (h2 : l.length ≤ 1968) : ask_written ((15, p, (l.length : Int), 0, [], []), (1968, 1968, 0, false, true), k :: packS l, ()) = some ((15, p, (l.length : Int), 0, [], l), true, ()) := by
  have hlen := packS_len l
  show (if lt (Int.ofNat (k :: packS l).length) 2 = true then _ else Option.bind (cut (k :: packS l) 1 (Int.ofNat (k :: packS l).length)) (fun y => Option.bind (ask_Unpack (y, ())) fun y => if lt (Int.ofNat y.1.length) (cvt .i64 (l.length : Int)) = true then some ((0, 0, 0, 0, [], []), false, ()) else Option.bind (cut y.1 0 (l.length : Int)) fun y_1 => need (le (l.length : Int) (l.length : Int)) (need (le (l.length : Int) (Int.ofNat y.1.length)) (some ((15, p, (l.length : Int), 0, [], y_1), true, ()))))) = _
  have hN : 1 ≤ packN l.length ∧ packN l.length ≤ 300 := by unfold packN; omega
  have hu : l.length ≤ (unpackS (packS l)).length := by rw [unpackS_len, packS_len]; unfold packN; omega
  rw [if_neg (by rw [lt_iff, ofNat_eq, List.length_cons, packS_len]; omega), cut_tail, Option.bind_some, unpack_eq (by rw [packS_len]; omega), Option.bind_some, cvt64 (by omega) (by omega)]
  dsimp only
  rw [if_neg (by rw [lt_iff, ofNat_eq]; omega), cut_to hu, Option.bind_some, need_t (by rw [le_iff]; omega), need_t (by rw [le_iff, ofNat_eq]; omega), unpack_pack]
theorem wr_regs (p n k : Int) (l : List Int) (h : ∀ x ∈ l, 0 ≤ x ∧ x ≤ 65535) (h1 : 1 ≤ l.length) (h2 : l.length ≤ 123) : ask_written ((16, p, n, 0, [], []), (123, 0, 123, false, true), k :: l.flatMap two, ()) = some ((16, p, n, 0, l, []), true, ()) := by
  have hlen := flat_two_len l
  show (if lt (Int.ofNat (k :: l.flatMap two).length) 2 = true then _ else Option.bind (cut (k :: l.flatMap two) 1 (Int.ofNat (k :: l.flatMap two).length)) (fun y => Option.bind (ask_list (y, ())) fun y => some ((16, p, n, 0, y.1, []), true, ()))) = _
  rw [if_neg (by rw [lt_iff, ofNat_eq, List.length_cons, hlen]; omega), cut_tail, Option.bind_some, alist_eq (by omega), Option.bind_some, listS_flat h]
theorem wr_swap (p n t k : Int) (l : List Int) (h : ∀ x ∈ l, 0 ≤ x ∧ x ≤ 65535) (h1 : 1 ≤ l.length) (h2 : l.length ≤ 123) : ask_written ((23, p, n, t, [], []), (125, 0, 121, true, false), k :: l.flatMap two, ()) = some ((23, p, n, t, l, []), true, ()) := by
  have hlen := flat_two_len l
  show (if lt (Int.ofNat (k :: l.flatMap two).length) 2 = true then _ else Option.bind (cut (k :: l.flatMap two) 1 (Int.ofNat (k :: l.flatMap two).length)) (fun y => Option.bind (ask_list (y, ())) fun y => some ((23, p, n, t, y.1, []), true, ()))) = _
  rw [if_neg (by rw [lt_iff, ofNat_eq, List.length_cons, hlen]; omega), cut_tail, Option.bind_some, alist_eq (by omega), Option.bind_some, listS_flat h]
/-! ### reading -/
theorem rd_3 {b : List Int} {s : Int × Int × Int × Bool × Bool} {a : TA} {rest : List Int} : ask_read_K3 rest 0 0 0 0 s.1 s.2.1 s.2.2.1 s.2.2.2.1 s.2.2.2.2 a.1 a.2.1 a.2.2.1 a.2.2.2.1 a.2.2.2.2.1 a.2.2.2.2.2 = Option.bind (ask_written (a, s, rest, ())) fun y => some (y.1, y.2.1, ()) := rfl
theorem rd_many {f p1 p2 n1 n2 : Int} {r : List Int} (hr : r.length ≤ 248) {m bb ww : Int} {tt ee : Bool} (hs : shp f = some (m, bb, ww, tt, ee)) (hm : gt m 0 = true) :
    ask_read (f :: p1 :: p2 :: n1 :: n2 :: r, ()) = ask_read_K2 (numV p1 p2 :: numV n1 n2 :: listS r) r 0 0 0 0 m bb ww tt ee f (numV p1 p2) (numV n1 n2) 0 [] [] := by
  show ask_read_m0 ask_read_K1 _ = _
  unfold ask_read_m0
  rw [if_neg (by rw [lt_iff, ofNat_eq]; simp; omega)]
  have hg : gt (Int.ofNat (f :: p1 :: p2 :: n1 :: n2 :: r).length) 253 = false := by
    rw [← Bool.not_eq_true, gt_iff, ofNat_eq]; simp; omega
  rw [hg]
  show ask_read_m1 ask_read_K2 _ false 0 0 0 0 = _
  unfold ask_read_m1
  have ec3 : cut (f :: p1 :: p2 :: n1 :: n2 :: r) 3 (Int.ofNat (f :: p1 :: p2 :: n1 :: n2 :: r).length) = some (n1 :: n2 :: r) := cut_from (i := 3) (by simp)
  have ec5 : cut (f :: p1 :: p2 :: n1 :: n2 :: r) 5 (Int.ofNat (f :: p1 :: p2 :: n1 :: n2 :: r).length) = some r := cut_from (i := 5) (by simp)
  rw [if_neg (by decide), at_zero, Option.bind_some, shape_eq, Option.bind_some]
  unfold shpD
  rw [hs]
  rw [if_neg (by show ¬ (!true) = true; decide), cut_tail, Option.bind_some, alist_eq (by simp; omega), Option.bind_some, Option.bind_some, listS_two, listS_two, at_zero, Option.bind_some, ec3, Option.bind_some]
  dsimp only [Option.getD]
  rw [if_pos hm, at_one, Option.bind_some, ec5, Option.bind_some]
theorem rd_one {f p1 p2 n1 n2 : Int} {bb ww : Int} {tt ee : Bool} (hs : shp f = some (0, bb, ww, tt, ee)) :
    ask_read ([f, p1, p2, n1, n2], ()) = ask_read_K2 [numV p1 p2, numV n1 n2] [n1, n2] 0 0 0 0 0 bb ww tt ee f (numV p1 p2) 0 0 [] [] := by
  show ask_read_m1 ask_read_K2 [f, p1, p2, n1, n2] false 0 0 0 0 = _
  unfold ask_read_m1
  have ec3 : cut [f, p1, p2, n1, n2] 3 (Int.ofNat [f, p1, p2, n1, n2].length) = some [n1, n2] := rfl
  rw [if_neg (by decide), at_zero, Option.bind_some, shape_eq, Option.bind_some]
  unfold shpD
  rw [hs]
  rw [if_neg (by show ¬ (!true) = true; decide), cut_tail, Option.bind_some, alist_eq (by simp), Option.bind_some, Option.bind_some, listS_two, listS_two, at_zero, Option.bind_some, ec3, Option.bind_some, if_neg (by show ¬ gt 0 0 = true; decide)]
  rfl
theorem read_eq {a : TA} (h : OkA a) (hr : rightA a = true) : ask_read (askB a, ()) = some (a, true, ()) := by
  have hra := rightA_RA hr
  have hp := numV_two h.at0 h.at1
  have hn := numV_two h.m0 h.m1
  have ht := numV_two h.t0 h.t1
  have hw := h.w
  clear hr h
  cases hra with
  | bits f p n hf h1 h2 =>
    dsimp only at hp hn
    rcases hf with rfl | rfl
    · refine (rd_many (f := 1) (r := []) (by show 0 ≤ 248; decide) (m := 2000) (bb := 0) (ww := 0) (tt := false) (ee := false) rfl rfl).trans ?_
      rw [hp, hn]; rfl
    · refine (rd_many (f := 2) (r := []) (by show 0 ≤ 248; decide) (m := 2000) (bb := 0) (ww := 0) (tt := false) (ee := false) rfl rfl).trans ?_
      rw [hp, hn]; rfl
  | words f p n hf h1 h2 =>
    dsimp only at hp hn
    rcases hf with rfl | rfl
    · refine (rd_many (f := 3) (r := []) (by show 0 ≤ 248; decide) (m := 125) (bb := 0) (ww := 0) (tt := false) (ee := false) rfl rfl).trans ?_
      rw [hp, hn]; rfl
    · refine (rd_many (f := 4) (r := []) (by show 0 ≤ 248; decide) (m := 125) (bb := 0) (ww := 0) (tt := false) (ee := false) rfl rfl).trans ?_
      rw [hp, hn]; rfl
  | coil p b =>
    dsimp only at hp
    cases b with
    | true =>
      refine (rd_one (f := 5) (n1 := 65280 / 256 % 256) (n2 := 65280 % 256) (bb := 1) (ww := 0) (tt := false) (ee := false) rfl).trans ?_
      rw [hp]; rfl
    | false =>
      refine (rd_one (f := 5) (n1 := 0 / 256 % 256) (n2 := 0 % 256) (bb := 1) (ww := 0) (tt := false) (ee := false) rfl).trans ?_
      rw [hp]; rfl
  | word p x =>
    dsimp only at hp hw
    have hx := hw x (by simp)
    refine (rd_one (f := 6) (n1 := x / 256 % 256) (n2 := x % 256) (bb := 0) (ww := 1) (tt := false) (ee := false) rfl).trans ?_
    rw [hp]
    show Option.bind (ask_written ((6, p, 0, 0, [], []), (0, 0, 1, false, false), [x / 256 % 256, x % 256], ())) (fun y => some (y.1, y.2.1, ())) = _
    rw [wr_word, Option.bind_some, numV_two hx.1 hx.2]
  | coils p l h1 h2 =>
    dsimp only at hp hn
    have hN : packN l.length ≤ 247 := by unfold packN; omega
    refine (rd_many (f := 15) (r := (packN l.length : Int) :: packS l) (by rw [List.length_cons, packS_len]; omega) (m := 1968) (bb := 1968) (ww := 0) (tt := false) (ee := true) rfl rfl).trans ?_
    rw [hp, hn]
    show Option.bind (ask_written ((15, p, (l.length : Int), 0, [], []), (1968, 1968, 0, false, true), (packN l.length : Int) :: packS l, ())) (fun y => some (y.1, y.2.1, ())) = _
    rw [wr_coils p _ l h1 h2, Option.bind_some]
  | regs p l h1 h2 =>
    dsimp only at hp hn hw
    refine (rd_many (f := 16) (r := 2 * (l.length : Int) :: l.flatMap two) (by rw [List.length_cons, flat_two_len]; omega) (m := 123) (bb := 0) (ww := 123) (tt := false) (ee := true) rfl rfl).trans ?_
    rw [hp, hn]
    show Option.bind (ask_written ((16, p, (l.length : Int), 0, [], []), (123, 0, 123, false, true), 2 * (l.length : Int) :: l.flatMap two, ())) (fun y => some (y.1, y.2.1, ())) = _
    rw [wr_regs p _ _ l hw h1 h2, Option.bind_some]
  | swap p n t l h1 h2 h3 h4 =>
    dsimp only at hp hn ht hw
    refine (rd_many (f := 23) (r := t / 256 % 256 :: t % 256 :: (l.length : Int) / 256 % 256 :: (l.length : Int) % 256 :: 2 * (l.length : Int) :: l.flatMap two) (by simp only [List.length_cons, flat_two_len]; omega) (m := 125) (bb := 0) (ww := 121) (tt := true) (ee := false) rfl rfl).trans ?_
    rw [hp, hn, listS_two, ht]
    show (if lt (Int.ofNat (t / 256 % 256 :: t % 256 :: (l.length : Int) / 256 % 256 :: (l.length : Int) % 256 :: 2 * (l.length : Int) :: l.flatMap two).length) 4 = true then some ((0, 0, 0, 0, [], []), false, ()) else Option.bind (cut (t / 256 % 256 :: t % 256 :: (l.length : Int) / 256 % 256 :: (l.length : Int) % 256 :: 2 * (l.length : Int) :: l.flatMap two) 4 (Int.ofNat (t / 256 % 256 :: t % 256 :: (l.length : Int) / 256 % 256 :: (l.length : Int) % 256 :: 2 * (l.length : Int) :: l.flatMap two).length)) (fun y_1 => Option.bind (ask_written ((23, p, n, t, [], []), (125, 0, 121, true, false), y_1, ())) (fun y => some (y.1, y.2.1, ())))) = _
    have ec : cut (t / 256 % 256 :: t % 256 :: (l.length : Int) / 256 % 256 :: (l.length : Int) % 256 :: 2 * (l.length : Int) :: l.flatMap two) 4 (Int.ofNat (t / 256 % 256 :: t % 256 :: (l.length : Int) / 256 % 256 :: (l.length : Int) % 256 :: 2 * (l.length : Int) :: l.flatMap two).length) = some (2 * (l.length : Int) :: l.flatMap two) := cut_from (i := 4) (by simp)
    rw [if_neg (by rw [lt_iff, ofNat_eq]; simp only [List.length_cons]; omega), ec, Option.bind_some, wr_swap p n t _ l hw h1 (by omega), Option.bind_some]
theorem aparse_eq {a : TA} (h : OkA a) (hr : rightA a = true) : ask_Parse (askB a, ()) = some (a, 0, ()) := by
  show ask_Parse_m0 ask_Parse_K1 (askB a) = _
  unfold ask_Parse_m0
  have e : bytes_Equal (askB a, askB a, ()) = some (true, ()) := by
    show some (eqs (toS (askB a)) (toS (askB a)), ()) = _
    rw [eqs_iff.2 rfl]
  rw [read_eq h hr, Option.bind_some, if_neg (by show ¬ (!true) = true; decide), bytes_eq h, if_pos hr, Option.bind_some, if_neg (by show ¬ nei 0 0 = true; decide)]
  dsimp only
  rw [e]
  rfl
end Go.Proofs.Lx

end

section
/- PollNone, as a plain law. -/
namespace Pl
open Go Ev Sx
theorem ok8 {x : Int} (h : (Lit.int .u8 x).wf = true) : 0 ≤ x ∧ x ≤ 255 := by
  simp [Lit.wf] at h
  have e1 : IntKind.u8.min = 0 := rfl
  have e2 : IntKind.u8.max = 255 := rfl
  omega
theorem ok16 {x : Int} (h : (Lit.int .u16 x).wf = true) : 0 ≤ x ∧ x ≤ 65535 := by
  simp [Lit.wf] at h
  have e1 : IntKind.u16.min = 0 := rfl
  have e2 : IntKind.u16.max = 65535 := rfl
  omega
theorem ok64 {x : Int} (h : (Lit.int .i64 x).wf = true) : -9223372036854775808 ≤ x ∧ x ≤ 9223372036854775807 := by
  simp [Lit.wf] at h
  have e1 : IntKind.i64.min = -9223372036854775808 := rfl
  have e2 : IntKind.i64.max = 9223372036854775807 := rfl
  omega
end Pl
namespace Go.Proofs.Lx
open Go Ev Sx Pl
set_option maxRecDepth 100000
def fewV (ws : List Int) (bs : List Bool) : Bool := decide (ws.length ≤ 200) && decide (bs.length ≤ 2100)
theorem few_eq (ws : List Int) (bs : List Bool) : low_Few (ws, bs, ()) = some (fewV ws bs, ()) := by
  show low_Few_m0 ws bs = _
  unfold low_Few_m0 fewV
  by_cases h : ws.length ≤ 200
  · rw [if_pos (by rw [le_iff, ofNat_eq]; omega), decide_eq_true h, Bool.true_and, le_dec]
    refine congrArg (fun x => some (x, ())) ?_
    rw [ofNat_eq]
    by_cases h2 : bs.length ≤ 2100
    · rw [decide_eq_true h2, decide_eq_true (by omega)]
    · rw [decide_eq_false h2, decide_eq_false (by omega)]
  · rw [if_neg (by rw [le_iff, ofNat_eq]; omega), decide_eq_false h]
    rfl
theorem few_iff {ws : List Int} {bs : List Bool} : fewV ws bs = true ↔ ws.length ≤ 200 ∧ bs.length ≤ 2100 := by simp [fewV]
abbrev tA : Ty := .pr (.int .u8) (.pr (.int .u16) (.pr (.int .u16) (.pr (.int .u16) (.pr (.sl (.int .u16)) (.sl .bool)))))
theorem okA_of {a : TA} (h : Rw.okV tA a) (hf : fewV a.2.2.2.2.1 a.2.2.2.2.2 = true) : OkA a := by
  obtain ⟨h1, h2, h3, h4, h5, h6⟩ := h
  have hf := few_iff.1 hf
  exact ⟨(ok8 h1).1, (ok8 h1).2, (ok16 h2).1, (ok16 h2).2, (ok16 h3).1, (ok16 h3).2, (ok16 h4).1, (ok16 h4).2, fun x hx => ok16 (h5.2 x hx), by omega, by omega⟩
theorem awake22 : law22_awake () = some (true, ()) := by kernel_rfl
theorem zA_ok : OkA zA := ⟨by decide, by decide, by decide, by decide, by decide, by decide, by decide, by decide, by simp [zA], by decide, by decide⟩
theorem ranges_if {β : Type} (J : Bool → β) (u l t r : Int) : (if ge u 1 = true then if le u 247 = true then if eqi l 1 = true then if ge t 1 = true then if le t 100000 = true then if ge r 0 = true then J (le r 1000) else J false else J false else J false else
    if eqi l 2 = true then if ge t 1 = true then if le t 100000 = true then if ge r 0 = true then J (le r 1000) else J false else J false else J false else J false else J false else J false) = J (rangesV u l t r) := by
  have h := ranges_eq u l t r
  have h : poll_ranges_m0 u l t r = _ := h
  unfold poll_ranges_m0 at h
  revert h
  generalize rangesV u l t r = q
  generalize ge u 1 = b1
  generalize le u 247 = b2
  generalize eqi l 1 = b3
  generalize eqi l 2 = b4
  generalize ge t 1 = b5
  generalize le t 100000 = b6
  generalize ge r 0 = b7
  generalize le r 1000 = b8
  intro h
  cases b1 <;> cases b2 <;> cases b3 <;> cases b4 <;> cases b5 <;> cases b6 <;> cases b7 <;> cases h <;> rfl
theorem rangesV_ok {u l t r : Int} (h : rangesV u l t r = true) : OkP (u, l, t, r, false, zA, 0, 0, 0) := by
  have h := of_decide_eq_true h
  exact ⟨h.1.1, h.1.2, h.2.1, h.2.2.1.1, h.2.2.1.2, h.2.2.2.1, h.2.2.2.2, zA_ok, by show (0 : Int) ≤ 0; decide, by show (0 : Int) ≤ 65535; decide⟩
theorem none_law (unit link timeout retries : Int) (a : TA) (ticks : Int) (ha : Rw.okV tA a) (ht : 0 ≤ ticks ∧ ticks ≤ 255) : law22_PollNone (unit, link, timeout, retries, a, ticks, ()) = some (true, ()) := by
  show law22_PollNone_m0 law22_PollNone_K1 unit link timeout retries a ticks = _
  unfold law22_PollNone_m0
  rw [few_eq, Option.bind_some, awake22, Option.bind_some]
  cases hf : fewV a.2.2.2.2.1 a.2.2.2.2.2 with
  | false => rfl
  | true =>
    have hA := okA_of ha hf
    rw [if_neg (by decide), new_eq]
    cases hr : rangesV unit link timeout retries with
    | false =>
      rw [if_neg (by decide), Option.bind_some]
      refine (ranges_if (fun b => law22_PollNone_K1 ticks 2 b a.1 a.2.1 a.2.2.1 a.2.2.2.1 a.2.2.2.2.1 a.2.2.2.2.2 0 0 0 0 false 0 0 0 0 [] [] 0 0 0) unit link timeout retries).trans ?_
      rw [hr]
      show Option.bind (law22_awake ()) (fun y => some (y.1, ())) = _
      rw [awake22]
      rfl
    | true =>
      rw [if_pos rfl, Option.bind_some]
      refine (ranges_if (fun b => law22_PollNone_K1 ticks 0 b a.1 a.2.1 a.2.2.1 a.2.2.2.1 a.2.2.2.2.1 a.2.2.2.2.2 unit link timeout retries false 0 0 0 0 [] [] 0 0 0) unit link timeout retries).trans ?_
      rw [hr]
      show law22_PollNone_K3 ticks 0 a.1 a.2.1 a.2.2.1 a.2.2.2.1 a.2.2.2.2.1 a.2.2.2.2.2 unit link timeout retries false 0 0 0 0 [] [] 0 0 0 = _
      unfold law22_PollNone_K3
      have hP := rangesV_ok hr
      obtain ⟨N, rfl⟩ := Int.eq_ofNat_of_zero_le ht.1
      refine loop_det (mk := fun i => ((N : Int), (i : Int), a.1, a.2.1, a.2.2.1, a.2.2.2.1, a.2.2.2.2.1, a.2.2.2.2.2, unit, link, timeout, retries, false, 0, 0, 0, 0, [], [], 0, 0, 0)) (N := N) ?_ ?_ N 0 _ (by omega) (by omega)
      · intro self i hi
        show law22_PollNone_m3 _ _ _ (N : Int) (i : Int) a.1 a.2.1 a.2.2.1 a.2.2.2.1 a.2.2.2.2.1 a.2.2.2.2.2 unit link timeout retries false 0 0 0 0 [] [] 0 0 0 = _
        unfold law22_PollNone_m3
        have et : poll_Tick ((unit, link, timeout, retries, false, (0, 0, 0, 0, [], []), 0, 0, 0), ()) = some ((unit, link, timeout, retries, false, zA, 0, 0, 0), [], false, ()) := tick_eq hP (fun h => by cases h)
        have es : poll_Same ((unit, link, timeout, retries, false, (0, 0, 0, 0, [], []), 0, 0, 0), (unit, link, timeout, retries, false, zA, 0, 0, 0), ()) = some (true, ()) := by
          rw [samep_eq (by show 0 ≤ 1000000; decide) (by show 0 ≤ 1000000; decide)]
          simp [zA]
        rw [if_pos (by rw [lt_iff]; omega), et, Option.bind_some, if_neg (by show ¬ gt 0 0 = true; decide), if_neg (by show ¬ false = true; decide), es, Option.bind_some]
        show law22_PollNone_m4 _ (N : Int) (i : Int) false a.1 a.2.1 a.2.2.1 a.2.2.2.1 a.2.2.2.2.1 a.2.2.2.2.2 unit link timeout retries false 0 0 0 0 [] [] 0 0 0 = _
        unfold law22_PollNone_m4
        have ea : add .u8 (i : Int) 1 = ((i + 1 : Nat) : Int) := by
          unfold add
          rw [wu8 (by omega) (by omega)]
          rfl
        rw [if_neg (by decide), ea]
      · intro self
        show law22_PollNone_m3 _ _ _ (N : Int) (N : Int) a.1 a.2.1 a.2.2.1 a.2.2.2.1 a.2.2.2.2.1 a.2.2.2.2.2 unit link timeout retries false 0 0 0 0 [] [] 0 0 0 = _
        unfold law22_PollNone_m3
        rw [if_neg (by rw [lt_iff]; omega)]
        show law22_PollNone_m5 a.1 a.2.1 a.2.2.1 a.2.2.2.1 a.2.2.2.2.1 a.2.2.2.2.2 unit link timeout retries false 0 0 0 0 [] [] 0 0 0 = _
        unfold law22_PollNone_m5
        have es : poll_Send ((unit, link, timeout, retries, false, (0, 0, 0, 0, [], []), 0, 0, 0), (a.1, a.2.1, a.2.2.1, a.2.2.2.1, a.2.2.2.2.1, a.2.2.2.2.2), ()) = _ := send_eq hP hA
        have er : ask_Right ((a.1, a.2.1, a.2.2.1, a.2.2.2.1, a.2.2.2.2.1, a.2.2.2.2.2), ()) = _ := right_eq hA
        rw [es, er, if_neg (by show ¬ false = true; decide), awake22]
        cases hq : rightA a with
        | true => rfl
        | false =>
          rw [if_neg (by decide), Option.bind_some, Option.bind_some]
          have es : poll_Same ((unit, link, timeout, retries, false, (0, 0, 0, 0, [], []), 0, 0, 0), (unit, link, timeout, retries, false, zA, 0, 0, 0), ()) = some (true, ()) := by
            rw [samep_eq (by show 0 ≤ 1000000; decide) (by show 0 ≤ 1000000; decide)]
            simp [zA]
          rw [if_pos (by show eqb (eqi 12 0) false = true; decide), if_neg (by show ¬ eqi 12 0 = true; decide), if_pos (by show eqi 12 12 = true; decide), if_pos (by show eqi 0 0 = true; decide)]
          dsimp only
          rw [show zA = (0, 0, 0, 0, [], []) from rfl] at es
          rw [es]
          rfl
theorem none_row (x : As [.int .u8, .int .u8, .int .i64, .int .i64, tA, .int .u8]) (h : Rw.okA [.int .u8, .int .u8, .int .i64, .int .i64, tA, .int .u8] x) : law22_PollNone x = some (true, ()) :=
  none_law x.1 x.2.1 x.2.2.1 x.2.2.2.1 x.2.2.2.2.1 x.2.2.2.2.2.1 h.2.2.2.2.1 (ok8 h.2.2.2.2.2.1)
end Go.Proofs.Lx

end

section
/- The loop of PollTries, step by step. -/
namespace Go.Proofs.Lx
open Go Ev Sx Pl
set_option maxRecDepth 100000
def law22_PollTries_K3_F  := (fun (self : (Int) × (List Int) × (Int) × (Int) × (Int) × (Int) × (Int) × (Int) × (Bool) × (Int) × (Int) × (Int) × (Int) × (List Int) × (List Bool) × (Int) × (Int) × (Int) → Option (As [.bool])) (s : (Int) × (List Int) × (Int) × (Int) × (Int) × (Int) × (Int) × (Int) × (Bool) × (Int) × (Int) × (Int) × (Int) × (List Int) × (List Bool) × (Int) × (Int) × (Int)) => law22_PollTries_m3 (law22_PollTries_K4 (fun tx want all i p p_2 p_3 p_4 p_5 p_6 p_7 p_8 p_9 p_10 p_11 p_12 p_13 p_14 => self (tx, want, all, i, p, p_2, p_3, p_4, p_5, p_6, p_7, p_8, p_9, p_10, p_11, p_12, p_13, p_14))) (fun tx want all i p p_2 p_3 p_4 p_5 p_6 p_7 p_8 p_9 p_10 p_11 p_12 p_13 p_14 => self (tx, want, all, i, p, p_2, p_3, p_4, p_5, p_6, p_7, p_8, p_9, p_10, p_11, p_12, p_13, p_14)) s.1 s.2.1 s.2.2.1 s.2.2.2.1 s.2.2.2.2.1 s.2.2.2.2.2.1 s.2.2.2.2.2.2.1 s.2.2.2.2.2.2.2.1 s.2.2.2.2.2.2.2.2.1 s.2.2.2.2.2.2.2.2.2.1 s.2.2.2.2.2.2.2.2.2.2.1 s.2.2.2.2.2.2.2.2.2.2.2.1 s.2.2.2.2.2.2.2.2.2.2.2.2.1 s.2.2.2.2.2.2.2.2.2.2.2.2.2.1 s.2.2.2.2.2.2.2.2.2.2.2.2.2.2.1 s.2.2.2.2.2.2.2.2.2.2.2.2.2.2.2.1 s.2.2.2.2.2.2.2.2.2.2.2.2.2.2.2.2.1 s.2.2.2.2.2.2.2.2.2.2.2.2.2.2.2.2.2)
theorem law22_PollTries_K3_Fe  (self : (Int) × (List Int) × (Int) × (Int) × (Int) × (Int) × (Int) × (Int) × (Bool) × (Int) × (Int) × (Int) × (Int) × (List Int) × (List Bool) × (Int) × (Int) × (Int) → Option (As [.bool])) (tx : Int) (want : List Int) (all : Int) (i : Int) (p : Int) (p_2 : Int) (p_3 : Int) (p_4 : Int) (p_5 : Bool) (p_6 : Int) (p_7 : Int) (p_8 : Int) (p_9 : Int) (p_10 : List Int) (p_11 : List Bool) (p_12 : Int) (p_13 : Int) (p_14 : Int) : law22_PollTries_K3_F self (tx, want, all, i, p, p_2, p_3, p_4, p_5, p_6, p_7, p_8, p_9, p_10, p_11, p_12, p_13, p_14) = law22_PollTries_m3 (law22_PollTries_K4 (fun tx want all i p p_2 p_3 p_4 p_5 p_6 p_7 p_8 p_9 p_10 p_11 p_12 p_13 p_14 => self (tx, want, all, i, p, p_2, p_3, p_4, p_5, p_6, p_7, p_8, p_9, p_10, p_11, p_12, p_13, p_14))) (fun tx want all i p p_2 p_3 p_4 p_5 p_6 p_7 p_8 p_9 p_10 p_11 p_12 p_13 p_14 => self (tx, want, all, i, p, p_2, p_3, p_4, p_5, p_6, p_7, p_8, p_9, p_10, p_11, p_12, p_13, p_14)) tx want all i p p_2 p_3 p_4 p_5 p_6 p_7 p_8 p_9 p_10 p_11 p_12 p_13 p_14 := rfl
theorem law22_PollTries_K3_Ke  (tx : Int) (want : List Int) (all : Int) (i : Int) (p : Int) (p_2 : Int) (p_3 : Int) (p_4 : Int) (p_5 : Bool) (p_6 : Int) (p_7 : Int) (p_8 : Int) (p_9 : Int) (p_10 : List Int) (p_11 : List Bool) (p_12 : Int) (p_13 : Int) (p_14 : Int) : law22_PollTries_K3 tx want all i p p_2 p_3 p_4 p_5 p_6 p_7 p_8 p_9 p_10 p_11 p_12 p_13 p_14 = loopF (law22_PollTries_K3_F) 18446744073709551616 (tx, want, all, i, p, p_2, p_3, p_4, p_5, p_6, p_7, p_8, p_9, p_10, p_11, p_12, p_13, p_14) := rfl
@[reducible] def ap14 {β : Type} (f : Int → Int → Int → Int → Bool → Int → Int → Int → Int → List Int → List Bool → Int → Int → Int → β) (p : TP) : β :=
  f p.1 p.2.1 p.2.2.1 p.2.2.2.1 p.2.2.2.2.1 p.2.2.2.2.2.1.1 p.2.2.2.2.2.1.2.1 p.2.2.2.2.2.1.2.2.1 p.2.2.2.2.2.1.2.2.2.1 p.2.2.2.2.2.1.2.2.2.2.1 p.2.2.2.2.2.1.2.2.2.2.2 p.2.2.2.2.2.2.1 p.2.2.2.2.2.2.2.1 p.2.2.2.2.2.2.2.2
abbrev tup (p : TP) : TP := (p.1, p.2.1, p.2.2.1, p.2.2.2.1, p.2.2.2.2.1, (p.2.2.2.2.2.1.1, p.2.2.2.2.2.1.2.1, p.2.2.2.2.2.1.2.2.1, p.2.2.2.2.2.1.2.2.2.1, p.2.2.2.2.2.1.2.2.2.2.1, p.2.2.2.2.2.1.2.2.2.2.2), p.2.2.2.2.2.2.1, p.2.2.2.2.2.2.2.1, p.2.2.2.2.2.2.2.2)
/-- the poll that a law begins with -/
def begP (link timeout retries : Int) : TP := (9, add .u8 1 (rem link 2), add .i64 1 (cvt .i64 (rem timeout 20)), cvt .i64 (rem retries 6), false, zA, 0, 0, 0)
theorem beg_rng {link timeout retries : Int} (h1 : 0 ≤ link) (h2 : 0 ≤ timeout) (h3 : 0 ≤ retries) : (add .u8 1 (rem link 2) = 1 + link % 2) ∧ (add .i64 1 (cvt .i64 (rem timeout 20)) = 1 + timeout % 20) ∧ cvt .i64 (rem retries 6) = retries % 6 := by
  have e1 : rem link 2 = link % 2 := by unfold rem; exact Int.tmod_eq_emod_of_nonneg h1
  have e2 : rem timeout 20 = timeout % 20 := by unfold rem; exact Int.tmod_eq_emod_of_nonneg h2
  have e3 : rem retries 6 = retries % 6 := by unfold rem; exact Int.tmod_eq_emod_of_nonneg h3
  rw [e1, e2, e3, cvt64 (by omega) (by omega), cvt64 (by omega) (by omega), add64 (by omega) (by omega)]
  refine ⟨?_, rfl, rfl⟩
  unfold add
  rw [wu8 (by omega) (by omega)]
theorem beg_ok {link timeout retries : Int} (h1 : 0 ≤ link) (h2 : 0 ≤ timeout) (h3 : 0 ≤ retries) : rangesV 9 (add .u8 1 (rem link 2)) (add .i64 1 (cvt .i64 (rem timeout 20))) (cvt .i64 (rem retries 6)) = true := by
  obtain ⟨e1, e2, e3⟩ := beg_rng h1 h2 h3
  rw [e1, e2, e3]
  exact decide_eq_true ⟨⟨by omega, by omega⟩, by omega, ⟨by omega, by omega⟩, by omega, by omega⟩
theorem begun_eq {link timeout retries : Int} (h1 : 0 ≤ link) (h2 : 0 ≤ timeout) (h3 : 0 ≤ retries) : law22_begun (link, timeout, retries, ()) = some (begP link timeout retries, true, ()) := by
  show law22_begun_m0 link timeout retries = _
  unfold law22_begun_m0
  rw [new_eq, if_pos (beg_ok h1 h2 h3)]
  rfl
theorem nextV_rng (l : Int) {x : Int} (h0 : 0 ≤ x) (h1 : x ≤ 65535) : 0 ≤ nextV l x ∧ nextV l x ≤ 65535 := by
  unfold nextV
  split <;> omega
theorem sameA_self {a : TA} (h : OkA a) : ask_Same (a, a, ()) = some (true, ()) := by
  have h1 := h.lw
  have h2 := h.lb
  rw [sameA_eq (by omega) (by omega)]
  simp
/-! ### frames are read -/
theorem two_bytes (x : Int) : ∀ y ∈ two x, 0 ≤ y ∧ y ≤ 255 := by
  intro y hy
  simp [two] at hy
  rcases hy with rfl | rfl <;> omega
theorem flat_bytes (l : List Int) : ∀ y ∈ l.flatMap two, 0 ≤ y ∧ y ≤ 255 := by
  intro y hy
  obtain ⟨x, _, hx⟩ := List.mem_flatMap.1 hy
  exact two_bytes x y hx
theorem pack_bytes (l : List Bool) : ∀ y ∈ packS l, 0 ≤ y ∧ y ≤ 255 := by
  intro y hy
  unfold packS at hy
  obtain ⟨j, _, rfl⟩ := List.mem_map.1 hy
  have := byteV_256 (t := (l.drop (8 * j)).take 8) (by simp; omega)
  omega
theorem askB_bytes {a : TA} (h : RA a) : ∀ y ∈ askB a, 0 ≤ y ∧ y ≤ 255 := by
  have app : ∀ {l r : List Int}, (∀ y ∈ l, 0 ≤ y ∧ y ≤ 255) → (∀ y ∈ r, 0 ≤ y ∧ y ≤ 255) → ∀ y ∈ l ++ r, 0 ≤ y ∧ y ≤ 255 := fun h1 h2 y hy => by
    rcases List.mem_append.1 hy with h | h
    · exact h1 y h
    · exact h2 y h
  have con : ∀ {x : Int} {r : List Int}, (0 ≤ x ∧ x ≤ 255) → (∀ y ∈ r, 0 ≤ y ∧ y ≤ 255) → ∀ y ∈ x :: r, 0 ≤ y ∧ y ≤ 255 := fun h1 h2 y hy => by
    rcases List.mem_cons.1 hy with h | h
    · subst h; exact h1
    · exact h2 y h
  have nil : ∀ y ∈ ([] : List Int), 0 ≤ y ∧ y ≤ 255 := fun y hy => by cases hy
  cases h with
  | bits f p n hf h1 h2 =>
    rcases hf with rfl | rfl
    · show ∀ y ∈ (1 : Int) :: two p ++ two n, 0 ≤ y ∧ y ≤ 255
      exact app (con (by decide) (two_bytes p)) (two_bytes n)
    · show ∀ y ∈ (2 : Int) :: two p ++ two n, 0 ≤ y ∧ y ≤ 255
      exact app (con (by decide) (two_bytes p)) (two_bytes n)
  | words f p n hf h1 h2 =>
    rcases hf with rfl | rfl
    · show ∀ y ∈ (3 : Int) :: two p ++ two n, 0 ≤ y ∧ y ≤ 255
      exact app (con (by decide) (two_bytes p)) (two_bytes n)
    · show ∀ y ∈ (4 : Int) :: two p ++ two n, 0 ≤ y ∧ y ≤ 255
      exact app (con (by decide) (two_bytes p)) (two_bytes n)
  | coil p b =>
    show ∀ y ∈ (5 : Int) :: two p ++ two (if b = true then 65280 else 0), 0 ≤ y ∧ y ≤ 255
    exact app (con (by decide) (two_bytes p)) (two_bytes _)
  | word p x =>
    show ∀ y ∈ (6 : Int) :: two p ++ [x].flatMap two, 0 ≤ y ∧ y ≤ 255
    exact app (con (by decide) (two_bytes p)) (flat_bytes _)
  | coils p l h1 h2 =>
    show ∀ y ∈ (15 : Int) :: two p ++ two (l.length : Int) ++ [(packN l.length : Int)] ++ packS l, 0 ≤ y ∧ y ≤ 255
    exact app (app (app (con (by decide) (two_bytes p)) (two_bytes _)) (con (by unfold packN; omega) nil)) (pack_bytes l)
  | regs p l h1 h2 =>
    show ∀ y ∈ (16 : Int) :: two p ++ two (l.length : Int) ++ [2 * (l.length : Int)] ++ l.flatMap two, 0 ≤ y ∧ y ≤ 255
    exact app (app (app (con (by decide) (two_bytes p)) (two_bytes _)) (con (by omega) nil)) (flat_bytes l)
  | swap p n t l h1 h2 h3 h4 =>
    show ∀ y ∈ (23 : Int) :: two p ++ two n ++ two t ++ two (l.length : Int) ++ [2 * (l.length : Int)] ++ l.flatMap two, 0 ≤ y ∧ y ≤ 255
    exact app (app (app (app (app (con (by decide) (two_bytes p)) (two_bytes _)) (two_bytes _)) (two_bytes _)) (con (by omega) nil)) (flat_bytes l)
theorem mbap_back {tx unit : Int} {pdu : List Int} (h1 : 1 ≤ pdu.length) (h2 : pdu.length ≤ 253) (ht : 0 ≤ tx) (ht2 : tx ≤ 65535) (hu : 0 ≤ unit) (hu2 : unit ≤ 255) (hb : ∀ y ∈ pdu, 0 ≤ y ∧ y ≤ 255) : mbap_Parse (mbapV tx unit pdu, ()) = some ((tx, unit, pdu), 0, ()) := by
  have hall : ∀ y ∈ mbapV tx unit pdu, 0 ≤ y ∧ y ≤ 255 := by
    intro y hy
    unfold mbapV at hy
    rcases List.mem_append.1 hy with h | h
    · simp at h
      rcases h with rfl | rfl | rfl | rfl | rfl <;> omega
    · exact hb y h
  rw [mparse_eq (by simp [mbapV]; omega) hall]
  have e : mbapP (mbapV tx unit pdu) = ((tx, unit, pdu), 0) := by
    show (if pdu = [] then _ else if beginsV 0 0 0 (((pdu.length + 1 : Nat) : Int) % 256) = true then if (pdu.length : Int) + 1 = ((pdu.length + 1 : Nat) : Int) % 256 then ((numV (tx / 256 % 256) (tx % 256), unit, pdu), 0) else (zM, 10) else (zM, 10)) = _
    have hne : ¬ pdu = [] := by intro e; subst e; simp at h1
    have hbg : beginsV 0 0 0 (((pdu.length + 1 : Nat) : Int) % 256) = true := by
      unfold beginsV
      have q1 : lt (((pdu.length + 1 : Nat) : Int) % 256) 2 = false := by rw [← Bool.not_eq_true, lt_iff]; omega
      have q2 : gt (cvt .i64 (((pdu.length + 1 : Nat) : Int) % 256)) 254 = false := by rw [← Bool.not_eq_true, gt_iff, cvt64 (by omega) (by omega)]; omega
      rw [q1, q2]
      rfl
    rw [if_neg hne, if_pos hbg, if_pos (by omega), numV_two ht ht2]
  rw [e]
theorem rtu_back {unit : Int} {pdu : List Int} (h1 : 1 ≤ pdu.length) (h2 : pdu.length ≤ 253) (hu : 1 ≤ unit) (hu2 : unit ≤ 247) : rtu_Parse (putV (unit :: pdu), ()) = some (unit, pdu, 0, ()) := by
  rw [rtup_eq]
  have hs := sumV_rng (unit :: pdu)
  have hc : cutV (putV (unit :: pdu)) = (unit :: pdu, 0) := by
    unfold cutV
    have hl := putV_len (unit :: pdu)
    have e0 : (putV (unit :: pdu)).length - 2 = (unit :: pdu).length := by omega
    have et : (putV (unit :: pdu)).take (unit :: pdu).length = unit :: pdu := by unfold putV; exact List.take_left
    have e1 : (putV (unit :: pdu)).getD ((putV (unit :: pdu)).length - 1) 0 = sumV (unit :: pdu) / 256 := by
      have : (putV (unit :: pdu)).length - 1 = (unit :: pdu).length + 1 := by omega
      rw [this, List.getD_eq_getElem?_getD]
      unfold putV
      rw [List.getElem?_append_right (by omega)]
      simp
    have e2 : (putV (unit :: pdu)).getD (unit :: pdu).length 0 = sumV (unit :: pdu) % 256 := by
      rw [List.getD_eq_getElem?_getD]
      unfold putV
      rw [List.getElem?_append_right (by omega)]
      simp
    rw [if_neg (by rw [hl]; simp), e0, et, e1, e2, numV_eq (by omega) (by omega) (by omega) (by omega), if_pos (by omega)]
  have e : rtuV (putV (unit :: pdu)) = (unit, pdu, 0) := by
    unfold rtuV
    have hl := putV_len (unit :: pdu)
    rw [if_neg (by rw [hl]; simp; omega), hc]
    show (if (0 : Int) ≠ 0 then _ else if (decide (1 ≤ unit) && decide (unit ≤ 247)) = true then (unit, pdu, 0) else (0, [], 10)) = _
    rw [if_neg (by decide), decide_eq_true hu, decide_eq_true hu2]
    rfl
  rw [e]
end Go.Proofs.Lx

end

section
/- PollTries, as a plain law. -/
namespace Go.Proofs.Lx
open Go Ev Sx Pl
set_option maxRecDepth 100000
/-! ### the poll behind k ticks -/
section
variable (lk : Int) (T R : Nat) (a : TA)
def xN (j : Nat) : Int := if lk = 2 then 1 + (j : Int) else 0
def stA (d m : Nat) : TP := (9, lk, (T : Int), (R : Int), true, a, xN lk d, (T : Int) - m, (R : Int) - d)
def stZ : TP := (9, lk, (T : Int), (R : Int), false, zA, xN lk R, 0, 0)
def stK (k : Nat) : TP := if k / T ≤ R then stA lk T R a (k / T) (k % T) else stZ lk T R
def nK (k : Nat) : Int := if k / T ≤ R then xN lk (k / T) else xN lk R
end
structure Ty5 (lk : Int) (T R : Nat) (a : TA) : Prop where
  l : lk = 1 ∨ lk = 2
  t0 : 1 ≤ T
  t1 : T ≤ 20
  r : R ≤ 5
  ok : OkA a
  y : rightA a = true
section
variable {lk : Int} {T R : Nat} {a : TA}
theorem xN_rng (lk : Int) {j : Nat} (h : j ≤ 6) : 0 ≤ xN lk j ∧ xN lk j ≤ 65535 := by
  unfold xN
  split <;> omega
theorem xN_next (h : lk = 1 ∨ lk = 2) {j : Nat} (hj : j ≤ 6) : nextV lk (xN lk j) = xN lk (j + 1) := by
  unfold nextV xN
  rcases h with rfl | rfl
  · rfl
  · rw [if_pos rfl, if_pos rfl, if_pos rfl]; omega
theorem stA_ok (h : Ty5 lk T R a) {d m : Nat} (hd : d ≤ R) : OkP (stA lk T R a d m) := by
  have := h.t0; have := h.t1; have := h.r
  exact ⟨by show (1 : Int) ≤ 9; decide, by show (9 : Int) ≤ 247; decide, h.l, by show (1 : Int) ≤ (T : Int); omega, by show (T : Int) ≤ 100000; omega, by show (0 : Int) ≤ (R : Int); omega, by show (R : Int) ≤ 1000; omega, h.ok, (xN_rng lk (j := d) (by omega)).1, (xN_rng lk (j := d) (by omega)).2⟩
theorem stZ_ok (h : Ty5 lk T R a) : OkP (stZ lk T R) := by
  have := h.t0; have := h.t1; have := h.r
  exact ⟨by show (1 : Int) ≤ 9; decide, by show (9 : Int) ≤ 247; decide, h.l, by show (1 : Int) ≤ (T : Int); omega, by show (T : Int) ≤ 100000; omega, by show (0 : Int) ≤ (R : Int); omega, by show (R : Int) ≤ 1000; omega, zA_ok, (xN_rng lk (j := R) (by omega)).1, (xN_rng lk (j := R) (by omega)).2⟩
/-- the frame that is sent for the j-th time -/
def frT (lk : Int) (a : TA) (j : Nat) : List Int := frameV lk 9 (xN lk j) a
theorem dm_next (T k : Nat) (hT : 1 ≤ T) : (k % T + 1 < T ∧ (k + 1) / T = k / T ∧ (k + 1) % T = k % T + 1) ∨ (k % T + 1 = T ∧ (k + 1) / T = k / T + 1 ∧ (k + 1) % T = 0) := by
  have h1 := Nat.div_add_mod k T
  have h2 := Nat.mod_lt k hT
  generalize k / T = d at h1 ⊢
  generalize k % T = m at h1 h2 ⊢
  subst h1
  by_cases h : m + 1 < T
  · refine .inl ⟨h, ?_, ?_⟩
    · rw [Nat.add_assoc, Nat.mul_add_div hT, Nat.div_eq_of_lt h, Nat.add_zero]
    · rw [Nat.add_assoc, Nat.mul_add_mod, Nat.mod_eq_of_lt h]
  · have e : m + 1 = T := by omega
    refine .inr ⟨e, ?_, ?_⟩
    · rw [Nat.add_assoc, e, Nat.mul_add_div hT, Nat.div_self hT]
    · rw [Nat.add_assoc, e, Nat.mul_add_mod, Nat.mod_self]
theorem frT_len (h : Ty5 lk T R a) (j : Nat) : 8 ≤ (frT lk a j).length := by
  have hl := askB_len (rightA_RA h.y)
  unfold frT frameV
  split
  · simp [mbapV]; omega
  · rw [putV_len]; simp; omega
/-- a tick: what comes of it, what is sent, whether it is over -/
def outB (lk : Int) (T R : Nat) (a : TA) (k : Nat) : List Int := if (k + 1) % T = 0 ∧ (k + 1) / T ≤ R then frT lk a ((k + 1) / T) else []
theorem tick_st (h : Ty5 lk T R a) (k : Nat) : poll_Tick (stK lk T R a k, ()) = some (stK lk T R a (k + 1), outB lk T R a k, decide ((k + 1) / T = R + 1 ∧ (k + 1) % T = 0), ()) := by
  have ht0 := h.t0; have ht1 := h.t1; have hr := h.r
  unfold stK outB
  have hm := Nat.mod_lt k ht0
  by_cases hd : k / T ≤ R
  · rw [if_pos hd]
    have hdn : (0 : Int) ≤ ((k / T : Nat) : Int) := Int.natCast_nonneg _
    have hV : poll_Tick (stA lk T R a (k / T) (k % T), ()) = _ := tick_eq (stA_ok h hd) (fun _ => ⟨h.y, by show (1 : Int) ≤ (T : Int) - (k % T : Nat); omega, by show (T : Int) - (k % T : Nat) ≤ 100000; omega, by show (0 : Int) ≤ (R : Int) - (k / T : Nat); omega, by show (R : Int) - (k / T : Nat) ≤ 1000; omega⟩)
    rw [hV]
    have hw : (stA lk T R a (k / T) (k % T)).2.2.2.2.1 = true := rfl
    have hl : (stA lk T R a (k / T) (k % T)).2.2.2.2.2.2.2.1 = (T : Int) - (k % T : Nat) := rfl
    have hg : (stA lk T R a (k / T) (k % T)).2.2.2.2.2.2.2.2 = (R : Int) - (k / T : Nat) := rfl
    rcases dm_next T k ht0 with ⟨c1, c2, c3⟩ | ⟨c1, c2, c3⟩
    · have e : tickV (stA lk T R a (k / T) (k % T)) = (stA lk T R a (k / T) (k % T + 1), [], false) := by
        unfold tickV
        rw [if_pos hw, hl, if_neg (by omega)]
        unfold leftP stA
        have e2 : (T : Int) - ((k % T : Nat) : Int) - 1 = (T : Int) - ((k % T + 1 : Nat) : Int) := by omega
        rw [e2]
      rw [e, c2, c3, if_pos hd, if_neg (by omega)]
      have e3 : decide (k / T = R + 1 ∧ k % T + 1 = 0) = false := decide_eq_false (by omega)
      rw [e3]
    · by_cases hlt : k / T < R
      · have e : tickV (stA lk T R a (k / T) (k % T)) = (stA lk T R a (k / T + 1) 0, frT lk a (k / T + 1), false) := by
          unfold tickV
          have hg' : 0 < (stA lk T R a (k / T) (k % T)).2.2.2.2.2.2.2.2 := by rw [hg]; omega
          rw [if_pos hw, hl, if_pos (by omega), if_pos hg', hg]
          have ex : nextV lk (xN lk (k / T)) = xN lk (k / T + 1) := xN_next h.l (by omega)
          have e1 : (R : Int) - (k / T : Nat) - 1 = (R : Int) - ((k / T + 1 : Nat) : Int) := by omega
          have e2 : (T : Int) = (T : Int) - ((0 : Nat) : Int) := by omega
          unfold againP sentP sentB stA frT
          dsimp only
          rw [ex, e1, ← e2]
        rw [e, c2, c3, if_pos (by omega), if_pos ⟨rfl, by omega⟩]
        have e3 : decide (k / T + 1 = R + 1 ∧ 0 = 0) = false := decide_eq_false (by omega)
        rw [e3]
      · have hdR : k / T = R := by omega
        have e : tickV (stA lk T R a (k / T) (k % T)) = (stZ lk T R, [], true) := by
          unfold tickV
          have hg' : ¬ 0 < (stA lk T R a (k / T) (k % T)).2.2.2.2.2.2.2.2 := by rw [hg]; omega
          rw [if_pos hw, hl, if_pos (by omega), if_neg hg', hdR]
          rfl
        rw [e, c2, c3, if_neg (by omega), if_neg (by omega)]
        have e3 : decide (k / T + 1 = R + 1 ∧ 0 = 0) = true := decide_eq_true (by omega)
        rw [e3]
  · rw [if_neg hd]
    have hV : poll_Tick (stZ lk T R, ()) = _ := tick_eq (stZ_ok h) (fun h => by cases h)
    have hge : ¬ (k + 1) / T ≤ R := by
      have := Nat.div_le_div_right (c := T) (Nat.le_add_right k 1)
      show ¬ (k + 1) / T ≤ R
      omega
    have e : tickV (stZ lk T R) = (stZ lk T R, [], false) := rfl
    rw [hV, e, if_neg hge, if_neg (by omega)]
    have e3 : decide ((k + 1) / T = R + 1 ∧ (k + 1) % T = 0) = false := by
      apply decide_eq_false
      rintro ⟨q1, q2⟩
      rcases dm_next T k ht0 with ⟨c1, c2, c3⟩ | ⟨c1, c2, c3⟩ <;> omega
    rw [e3]
theorem all_lt {k : Nat} (hT : 1 ≤ T) : (k < (R + 1) * T) ↔ k / T ≤ R := by
  rw [← Nat.div_lt_iff_lt_mul hT]
  omega
theorem all_eq {k : Nat} (hT : 1 ≤ T) : (k = (R + 1) * T) ↔ (k / T = R + 1 ∧ k % T = 0) := by
  constructor
  · rintro rfl
    exact ⟨Nat.mul_div_cancel _ hT, Nat.mul_mod_left _ _⟩
  · rintro ⟨h1, h2⟩
    have := Nat.div_add_mod k T
    rw [h1, h2] at this
    rw [← this, Nat.mul_comm]
    rfl
end
/-! ### the loop's step -/
abbrev OT := Int → List Int → Int → Int → Int → Int → Int → Int → Bool → Int → Int → Int → Int → List Int → List Bool → Int → Int → Int → Option (As [.bool])
section
variable {s : OT} {tx : Int} {want : List Int} {all i : Int} {p q : TP} {b : List Int} {over : Bool}
theorem tries_m3 (ht : poll_Tick (tup p, ()) = some (q, b, over, ())) (hi : i ≤ all + 5) (hi0 : 0 ≤ all) (hall : all ≤ 1000) (hT : p.2.2.1 ≠ 0) (hr : eqi (rem i p.2.2.1) 0 = true → gt (Int.ofNat b.length) 0 = lt i all) (hr' : eqi (rem i p.2.2.1) 0 = false → b = []) (ho : over = eqi i all) (hq : q.2.2.2.2.1 = lt i all) :
    ap14 (law22_PollTries_m3 (law22_PollTries_K4 s) s tx want all i) p = ap14 (ap14 (law22_PollTries_K4 s tx want all i b false) p) q := by
  unfold law22_PollTries_m3
  dsimp only [ap14]
  have bxx : ∀ x : Bool, neb x x = false := fun x => by cases x <;> rfl
  rw [add64 (by omega) (by omega), if_pos (le_iff.2 hi), ht, Option.bind_some, need_t (nei_iff.2 hT)]
  cases hc : eqi (rem i p.2.2.1) 0 with
  | true =>
    have e1 := hr hc
    simp only [if_true, e1, ho, hq, bxx, Bool.false_eq_true, if_false]
  | false =>
    have e1 := hr' hc
    subst e1
    have e2 : gt (Int.ofNat ([] : List Int).length) 0 = false := rfl
    simp only [Bool.false_eq_true, if_false, e2, ho, hq, bxx]
theorem tries_m4_nil : ap14 (ap14 (law22_PollTries_K4 s tx want all i [] false) p) q = ap14 (s tx want all (add .i64 i 1)) q := rfl
theorem tries_m4_tcp {n : Int} (hl : q.2.1 = 2) (hb : 0 < b.length) (hf : mbap_Parse (b, ()) = some ((n, 9, want), 0, ())) (hn : n = add .u16 tx 1) : ap14 (ap14 (law22_PollTries_K4 s tx want all i b false) p) q = ap14 (s n want all (add .i64 i 1)) q := by
  have e1 : eqi q.2.1 2 = true := eqi_iff.2 hl
  have e2 : gt (Int.ofNat b.length) 0 = true := by rw [gt_iff, ofNat_eq]; omega
  have e3 : low_Same (want, want, ()) = some (true, ()) := by
    show some (eqs (toS want) (toS want), ()) = _
    rw [eqs_iff.2 rfl]
  have e4 : nei n (add .u16 tx 1) = false := by rw [← Bool.not_eq_true, nei_iff]; exact fun h => h hn
  unfold law22_PollTries_K4 law22_PollTries_m4
  dsimp only [ap14]
  simp only [Bool.false_eq_true, if_false, e2, if_true, e1, hf, Option.bind_some, e3, Bool.not_true, e4]
  rfl
theorem tries_m4_ser {u : Int} (hl : q.2.1 = 1) (hb : 0 < b.length) (hf : rtu_Parse (b, ()) = some (u, want, 0, ())) : ap14 (ap14 (law22_PollTries_K4 s tx want all i b false) p) q = ap14 (s 0 want all (add .i64 i 1)) q := by
  have e1 : eqi q.2.1 2 = false := by rw [hl]; rfl
  have e2 : gt (Int.ofNat b.length) 0 = true := by rw [gt_iff, ofNat_eq]; omega
  have e3 : low_Same (want, want, ()) = some (true, ()) := by
    show some (eqs (toS want) (toS want), ()) = _
    rw [eqs_iff.2 rfl]
  unfold law22_PollTries_K4 law22_PollTries_m4
  dsimp only [ap14]
  simp only [Bool.false_eq_true, if_false, e2, if_true, e1, hf, Option.bind_some, e3, Bool.not_true]
  rfl
end
/-! ### the loop -/
section
variable {s : OT} {lk : Int} {T R : Nat} {a : TA}
theorem frT_back (h : Ty5 lk T R a) (hl : lk = 2) {j : Nat} (hj : j ≤ 6) : mbap_Parse (frT lk a j, ()) = some ((xN lk j, 9, askB a), 0, ()) := by
  have hlen := askB_len (rightA_RA h.y)
  have hx := xN_rng lk hj
  unfold frT frameV
  rw [if_pos hl]
  exact mbap_back (by omega) (by omega) hx.1 hx.2 (by decide) (by decide) (askB_bytes (rightA_RA h.y))
theorem frT_ser (h : Ty5 lk T R a) (hl : lk = 1) (j : Nat) : rtu_Parse (frT lk a j, ()) = some (9, askB a, 0, ()) := by
  have hlen := askB_len (rightA_RA h.y)
  unfold frT frameV
  rw [if_neg (by omega)]
  exact rtu_back (by omega) (by omega) (by decide) (by decide)
theorem stK_T (k : Nat) : (stK lk T R a k).2.2.1 = (T : Int) := by
  unfold stK
  split <;> rfl
theorem stK_l (k : Nat) : (stK lk T R a k).2.1 = lk := by
  unfold stK
  split <;> rfl
theorem stK_w (k : Nat) : (stK lk T R a k).2.2.2.2.1 = decide (k / T ≤ R) := by
  unfold stK
  split
  · rename_i h; rw [decide_eq_true h]; rfl
  · rename_i h; rw [decide_eq_false h]; rfl
theorem tries_step (h : Ty5 lk T R a) {k : Nat} (hk : k < (R + 1) * T + 5) :
    ap14 (law22_PollTries_m3 (law22_PollTries_K4 s) s (nK lk T R k) (askB a) (((R + 1) * T : Nat) : Int) ((k + 1 : Nat) : Int)) (stK lk T R a k) = ap14 (s (nK lk T R (k + 1)) (askB a) (((R + 1) * T : Nat) : Int) ((k + 2 : Nat) : Int)) (stK lk T R a (k + 1)) := by
  have ht0 := h.t0; have ht1 := h.t1; have hr := h.r
  have hall : (R + 1) * T ≤ 6 * 20 := Nat.mul_le_mul (by omega) ht1
  have hlt : lt ((k + 1 : Nat) : Int) (((R + 1) * T : Nat) : Int) = decide ((k + 1) / T ≤ R) := by
    rw [lt_dec]
    have := all_lt (R := R) (k := k + 1) ht0
    by_cases hc : (k + 1) / T ≤ R
    · rw [decide_eq_true hc]
      have := this.2 hc
      exact decide_eq_true (by omega)
    · rw [decide_eq_false hc]
      have hn : ¬ k + 1 < (R + 1) * T := fun e => hc (this.1 e)
      exact decide_eq_false (by omega)
  have heq : eqi ((k + 1 : Nat) : Int) (((R + 1) * T : Nat) : Int) = decide ((k + 1) / T = R + 1 ∧ (k + 1) % T = 0) := by
    have := all_eq (R := R) (k := k + 1) ht0
    rw [Bool.eq_iff_iff, eqi_iff, decide_eq_true_eq, ← this]
    omega
  have hrem : rem ((k + 1 : Nat) : Int) (T : Int) = (((k + 1) % T : Nat) : Int) := rem_nat
  have hmod : eqi (rem ((k + 1 : Nat) : Int) (T : Int)) 0 = decide ((k + 1) % T = 0) := by
    rw [hrem, Bool.eq_iff_iff, eqi_iff, decide_eq_true_eq]
    omega
  have hst := tick_st h k
  have ht : poll_Tick (tup (stK lk T R a k), ()) = _ := hst
  have hfl := frT_len h ((k + 1) / T)
  refine (tries_m3 (tx := nK lk T R k) (want := askB a) (all := (((R + 1) * T : Nat) : Int)) (i := ((k + 1 : Nat) : Int)) ht (by omega) (by omega) (by omega) (by rw [stK_T]; omega) ?_ ?_ heq.symm (by rw [stK_w, hlt])).trans ?_
  · rw [stK_T, hmod, hlt]
    intro hm
    have hm := of_decide_eq_true hm
    unfold outB
    by_cases hc : (k + 1) / T ≤ R
    · rw [if_pos ⟨hm, hc⟩, decide_eq_true hc, gt_iff, ofNat_eq]; omega
    · rw [if_neg (fun e => hc e.2), decide_eq_false hc]; rfl
  · rw [stK_T, hmod]
    intro hm
    have hm := of_decide_eq_false hm
    unfold outB
    rw [if_neg (fun e => hm e.1)]
  · have ei : add .i64 ((k + 1 : Nat) : Int) 1 = ((k + 2 : Nat) : Int) := succ64 (n := k + 1) (by omega)
    have hn : nK lk T R (k + 1) = if (k + 1) / T ≤ R then xN lk ((k + 1) / T) else xN lk R := rfl
    unfold outB
    by_cases hs : (k + 1) % T = 0 ∧ (k + 1) / T ≤ R
    · rw [if_pos hs]
      have hkd : (k + 1) / T = k / T + 1 := by
        rcases dm_next T k ht0 with ⟨c1, c2, c3⟩ | ⟨c1, c2, c3⟩
        · omega
        · exact c2
      rcases h.l with hl | hl
      · rw [tries_m4_ser (u := 9) (by rw [stK_l]; exact hl) (by omega) (frT_ser h hl _), ei]
        have e0 : nK lk T R (k + 1) = 0 := by
          rw [hn, if_pos hs.2]
          unfold xN
          rw [if_neg (by omega)]
        rw [e0]
      · rw [tries_m4_tcp (n := xN lk ((k + 1) / T)) (by rw [stK_l]; exact hl) (by omega) (frT_back h hl (by omega)) ?_, ei, hn, if_pos hs.2]
        unfold nK
        rw [if_pos (by omega), hkd]
        unfold xN
        rw [if_pos hl, if_pos hl]
        unfold add
        have := hs.2
        have hdn : (0 : Int) ≤ ((k / T : Nat) : Int) := Int.natCast_nonneg _
        rw [wu16 (by omega) (by omega)]
        omega
    · rw [if_neg hs, tries_m4_nil, ei]
      have e0 : nK lk T R (k + 1) = nK lk T R k := by
        unfold nK
        rcases dm_next T k ht0 with ⟨c1, c2, c3⟩ | ⟨c1, c2, c3⟩
        · rw [c2]
        · have hnR : ¬ (k + 1) / T ≤ R := fun e => hs ⟨c3, e⟩
          rw [if_neg hnR]
          by_cases hd : k / T ≤ R
          · have : k / T = R := by omega
            rw [if_pos hd, this]
          · rw [if_neg hd]
      rw [e0]
abbrev mkT (tx : Int) (want : List Int) (all i : Int) (q : TP) :=
  (tx, want, all, i, q.1, q.2.1, q.2.2.1, q.2.2.2.1, q.2.2.2.2.1, q.2.2.2.2.2.1.1, q.2.2.2.2.2.1.2.1, q.2.2.2.2.2.1.2.2.1, q.2.2.2.2.2.1.2.2.2.1, q.2.2.2.2.2.1.2.2.2.2.1, q.2.2.2.2.2.1.2.2.2.2.2, q.2.2.2.2.2.2.1, q.2.2.2.2.2.2.2.1, q.2.2.2.2.2.2.2.2)
theorem tries_K3 (h : Ty5 lk T R a) : ap14 (law22_PollTries_K3 (nK lk T R 0) (askB a) (((R + 1) * T : Nat) : Int) 1) (stK lk T R a 0) = some (true, ()) := by
  have ht0 := h.t0; have ht1 := h.t1; have hr := h.r
  have hall : (R + 1) * T ≤ 6 * 20 := Nat.mul_le_mul (by omega) ht1
  dsimp only [ap14]
  rw [law22_PollTries_K3_Ke]
  have hs : ∀ (self : _ → Option (As [.bool])) (k : Nat), k < (R + 1) * T + 5 → law22_PollTries_K3_F self (mkT (nK lk T R k) (askB a) (((R + 1) * T : Nat) : Int) ((k + 1 : Nat) : Int) (stK lk T R a k)) = self (mkT (nK lk T R (k + 1)) (askB a) (((R + 1) * T : Nat) : Int) ((k + 1 + 1 : Nat) : Int) (stK lk T R a (k + 1))) := by
    intro self k hk
    rw [law22_PollTries_K3_Fe]
    exact tries_step (s := fun a1 a2 a3 a4 b1 b2 b3 b4 b5 b6 b7 b8 b9 b10 b11 b12 b13 b14 => self (a1, a2, a3, a4, b1, b2, b3, b4, b5, b6, b7, b8, b9, b10, b11, b12, b13, b14)) h hk
  have he : ∀ (self : _ → Option (As [.bool])), law22_PollTries_K3_F self (mkT (nK lk T R ((R + 1) * T + 5)) (askB a) (((R + 1) * T : Nat) : Int) (((R + 1) * T + 5 + 1 : Nat) : Int) (stK lk T R a ((R + 1) * T + 5))) = some (true, ()) := by
    intro self
    rw [law22_PollTries_K3_Fe]
    unfold law22_PollTries_m3
    rw [add64 (by omega) (by omega), if_neg (by rw [le_iff]; omega), awake22]
    rfl
  exact loop_det (F := law22_PollTries_K3_F) (mk := fun k => mkT (nK lk T R k) (askB a) (((R + 1) * T : Nat) : Int) ((k + 1 : Nat) : Int) (stK lk T R a k)) (N := (R + 1) * T + 5) hs he ((R + 1) * T + 5) 0 18446744073709551616 (by omega) (by omega)
end
theorem tries_law {link timeout retries : Int} {a : TA} (h1 : 0 ≤ link) (h2 : 0 ≤ timeout) (h3 : 0 ≤ retries) (ha : Rw.okV tA a) : law22_PollTries (link, timeout, retries, a, ()) = some (true, ()) := by
  show law22_PollTries_m0 law22_PollTries_K1 link timeout retries a = _
  unfold law22_PollTries_m0
  rw [begun_eq h1 h2 h3, Option.bind_some, few_eq, Option.bind_some]
  cases hf : fewV a.2.2.2.2.1 a.2.2.2.2.2 with
  | false =>
    show Option.bind (law22_awake ()) (fun y => some (y.1, ())) = _
    rw [awake22]
    rfl
  | true =>
    have hA := okA_of ha hf
    rw [right_eq hA]
    cases hr : rightA a with
    | false =>
      show Option.bind (law22_awake ()) (fun y => some (y.1, ())) = _
      rw [awake22]
      rfl
    | true =>
      obtain ⟨e1, e2, e3⟩ := beg_rng h1 h2 h3
      generalize hp : begP link timeout retries = p
      have hpe : p = (9, 1 + link % 2, 1 + timeout % 20, retries % 6, false, zA, 0, 0, 0) := by
        rw [← hp]
        unfold begP
        rw [e1, e2, e3]
      show ap14 (law22_PollTries_K1 true false a.1 a.2.1 a.2.2.1 a.2.2.2.1 a.2.2.2.2.1 a.2.2.2.2.2) p = _
      obtain ⟨T, hT⟩ := Int.eq_ofNat_of_zero_le (show 0 ≤ 1 + timeout % 20 by omega)
      obtain ⟨R, hR⟩ := Int.eq_ofNat_of_zero_le (show 0 ≤ retries % 6 by omega)
      generalize hl : 1 + link % 2 = lk at hpe
      rw [hT, hR] at hpe
      have hY : Ty5 lk T R a := ⟨by omega, by omega, by omega, by omega, hA, hr⟩
      have hP : OkP p := by
        rw [hpe]
        exact ⟨by show (1 : Int) ≤ 9; decide, by show (9 : Int) ≤ 247; decide, hY.l, by show (1 : Int) ≤ (T : Int); omega, by show (T : Int) ≤ 100000; omega, by show (0 : Int) ≤ (R : Int); omega, by show (R : Int) ≤ 1000; omega, zA_ok, by show (0 : Int) ≤ 0; decide, by show (0 : Int) ≤ 65535; decide⟩
      have hsend : poll_Send (tup p, (a.1, a.2.1, a.2.2.1, a.2.2.2.1, a.2.2.2.2.1, a.2.2.2.2.2), ()) = some (sentP (waitP p a), sentB (waitP p a), 0, ()) := by
        have e : poll_Send (p, a, ()) = _ := send_eq hP hA
        have hw : p.2.2.2.2.1 = false := by rw [hpe]
        rw [hw, if_neg (by decide), if_pos hr] at e
        exact e
      have hnx : nextV lk 0 = xN lk 0 := by
        unfold nextV xN
        rcases hY.l with q | q
        · rw [q]; rfl
        · rw [q]; rfl
      have eq0 : sentP (waitP p a) = stK lk T R a 0 := by
        rw [hpe]
        unfold stK
        have e0 : 0 / T = 0 := Nat.zero_div T
        have e1 : 0 % T = 0 := Nat.zero_mod T
        rw [e0, e1, if_pos (Nat.zero_le R)]
        unfold sentP waitP stA
        dsimp only
        rw [hnx]
        have e2 : (T : Int) = (T : Int) - ((0 : Nat) : Int) := by omega
        have e3 : (R : Int) = (R : Int) - ((0 : Nat) : Int) := by omega
        rw [← e2, ← e3]
      have eb0 : sentB (waitP p a) = frT lk a 0 := by
        rw [hpe]
        unfold sentB waitP frT
        dsimp only
        rw [hnx]
      rw [eq0, eb0] at hsend
      have en : nK lk T R 0 = xN lk 0 := by
        unfold nK
        have e0 : 0 / T = 0 := Nat.zero_div T
        rw [e0, if_pos (Nat.zero_le R)]
      have es : ask_Same (a, (a.1, a.2.1, a.2.2.1, a.2.2.2.1, a.2.2.2.2.1, a.2.2.2.2.2), ()) = some (true, ()) := sameA_self hA
      have hK2 : ap14 (law22_PollTries_K2 (nK lk T R 0) (askB a) false) (stK lk T R a 0) = some (true, ()) := by
        have ht1 : T ≤ 20 := hY.t1
        have hR5 : R ≤ 5 := hY.r
        have hall : (R + 1) * T ≤ 6 * 20 := Nat.mul_le_mul (by omega) ht1
        have eall : mul .i64 (add .i64 (R : Int) 1) (T : Int) = (((R + 1) * T : Nat) : Int) := by
          rw [succ64 (by omega)]
          have em : ((R + 1 : Nat) : Int) * (T : Int) = (((R + 1) * T : Nat) : Int) := by rw [Int.natCast_mul]
          rw [mul64 (by rw [em]; omega) (by rw [em]; omega), em]
        have hT' := stK_T (lk := lk) (T := T) (R := R) (a := a) 0
        have hR' : (stK lk T R a 0).2.2.2.1 = (R : Int) := by unfold stK; split <;> rfl
        have k := tries_K3 hY
        unfold law22_PollTries_K2 law22_PollTries_m2
        dsimp only [ap14]
        rw [if_neg (by decide), hR', hT', eall]
        dsimp only [ap14] at k
        rw [hR', hT'] at k
        exact k
      unfold law22_PollTries_K1 law22_PollTries_m1
      dsimp only [ap14]
      rw [if_neg (by decide), hsend, Option.bind_some]
      dsimp only
      have hl' := stK_l (lk := lk) (T := T) (R := R) (a := a) 0
      have n00 : nei (0 : Int) 0 = false := rfl
      rcases hY.l with q | q
      · rw [if_neg (by rw [eqi_iff, hl', q]; decide), frT_ser hY q, Option.bind_some]
        dsimp only
        rw [aparse_eq hA hr, Option.bind_some]
        simp only [n00, Bool.false_eq_true, if_false, es, Option.bind_some, Bool.not_true]
        have e0 : nK lk T R 0 = 0 := by
          rw [en]
          unfold xN
          rw [if_neg (by omega)]
        rw [e0] at hK2
        exact hK2
      · rw [if_pos (by rw [eqi_iff, hl', q]), frT_back hY q (by omega), Option.bind_some]
        dsimp only
        rw [aparse_eq hA hr, Option.bind_some]
        simp only [n00, Bool.false_eq_true, if_false, es, Option.bind_some, Bool.not_true]
        rw [en] at hK2
        exact hK2
theorem tries_row (x : As [.int .u8, .int .u8, .int .u8, tA]) (h : Rw.okA [.int .u8, .int .u8, .int .u8, tA] x) : law22_PollTries x = some (true, ()) :=
  tries_law (link := x.1) (timeout := x.2.1) (retries := x.2.2.1) (a := x.2.2.2.1) (ok8 h.1).1 (ok8 h.2.1).1 (ok8 h.2.2.1).1 h.2.2.2.1
end Go.Proofs.Lx

end
