/- Proved in the last of these 9 parts (this is part 8): PollTakes, whatever its arguments, returns true and leaves them as they were, with no condition.. Conditions: those of the given statement, and no others. -/
import Derived.Test.YtbpmjafbgbcjeaaPartg
import Derived.Test.YtbpmjafbgbcjeaaPartd
set_option linter.unusedVariables false
set_option linter.unusedSimpArgs false
set_option linter.unusedSectionVars false
section
/- What is taken by a poll. -/
namespace Go.Proofs.Lx
open Go Ev Sx Pl
set_option maxRecDepth 100000
theorem chkV_sm {b : List Int} {c : TR} {ok : Bool} {w : List Int} (h : SmR c) : SmR (chkV b c ok w).1 := by
  unfold chkV
  split
  · split
    · exact h
    · exact zR_sm
  · exact zR_sm
theorem parseR_sm (b : List Int) : SmR (parseR b).1 := by
  match b with
  | [] => exact zR_sm
  | [_] => exact zR_sm
  | x :: y :: r =>
    show SmR (parseQ x y r).1
    unfold parseQ
    by_cases hl : 251 < r.length
    · rw [if_pos hl]; exact zR_sm
    · rw [if_neg hl]
      have sb : SmR (bitC x r) := ⟨by show (unpackS r).length ≤ _; rw [unpackS_len]; omega, by show 0 ≤ 100000; decide⟩
      have sw : SmR (wordC x r) := ⟨by show 0 ≤ 100000; decide, by show (listS r).length ≤ _; rw [listS_len]; omega⟩
      have so : SmR (obC x (y :: r)) := pairC_sm (fun p q => ⟨by show 1 ≤ 100000; decide, by show 0 ≤ 100000; decide⟩) _
      have su : SmR (owC x (y :: r)) := pairC_sm (fun p q => ⟨by show 0 ≤ 100000; decide, by show 1 ≤ 100000; decide⟩) _
      have sc : SmR (ctC x (y :: r)) := pairC_sm (fun p q => ⟨by show 0 ≤ 100000; decide, by show 0 ≤ 100000; decide⟩) _
      have se : SmR (exC x y) := ⟨by show 0 ≤ 100000; decide, by show 0 ≤ 100000; decide⟩
      have step : ∀ {c : Prop} [Decidable c] {A B : TR × Int}, SmR A.1 → SmR B.1 → SmR (if c then A else B).1 := fun {c} _ {A B} h1 h2 => by
        by_cases hc : c
        · rw [if_pos hc]; exact h1
        · rw [if_neg hc]; exact h2
      exact step (step (chkV_sm sb) (step (chkV_sm sb) (step (chkV_sm sw) (step (chkV_sm sw) (step (chkV_sm sw) (step (chkV_sm so) (step (chkV_sm su) (step (chkV_sm sc) (step (chkV_sm sc) zR_sm))))))))) (chkV_sm se)
def findV (p : TP) (b : List Int) : Option TR := if p.2.1 = 2 then tcpV p.1 p.2.2.2.2.2.2.1 b else serV p.1 b
theorem findV_sm {p : TP} {b : List Int} {r : TR} (h : findV p b = some r) : SmR r := by
  unfold findV at h
  split at h
  · unfold tcpV at h
    split at h
    · cases h
    · split at h
      · cases h
      · split at h
        · cases h
        · split at h
          · cases h
          · cases h; exact parseR_sm _
  · unfold serV at h
    split at h
    · cases h
    · split at h
      · cases h
      · split at h
        · cases h
        · cases h; exact parseR_sm _
def takeV (p : TP) (b : List Int) : Option TR := if p.2.2.2.2.1 = true then (findV p b).bind fun r => if fitsV p.2.2.2.2.2.1 r = true then some r else none else none
def outT (p : TP) : Option TR → Option (TP × TR × Bool × Unit)
  | some r => some (dropP p, r, true, ())
  | none => some (p, zR, false, ())
theorem take_K {p : TP} (h : OkP p) {r : TR} (hs : SmR r) (ok : Bool) : poll_Take_K1 ok p.1 p.2.1 p.2.2.1 p.2.2.2.1 p.2.2.2.2.1 p.2.2.2.2.2.1.1 p.2.2.2.2.2.1.2.1 p.2.2.2.2.2.1.2.2.1 p.2.2.2.2.2.1.2.2.2.1 p.2.2.2.2.2.1.2.2.2.2.1 p.2.2.2.2.2.1.2.2.2.2.2
    p.2.2.2.2.2.2.1 p.2.2.2.2.2.2.2.1 p.2.2.2.2.2.2.2.2 0 0 0 0 false 0 0 0 0 0 0 0 0 0 0 0 r.1 r.2.1 r.2.2.1 r.2.2.2.1 r.2.2.2.2.1 r.2.2.2.2.2 =
    outT p (if ok = true then if fitsV p.2.2.2.2.2.1 r = true then some r else none else none) := by
  unfold poll_Take_K1 poll_Take_m1
  have h1 := h.a.lw
  have h2 := h.a.lb
  have e2 : ∀ t, poll_Take_K2 t p.1 p.2.1 p.2.2.1 p.2.2.2.1 p.2.2.2.2.1 p.2.2.2.2.2.1.1 p.2.2.2.2.2.1.2.1 p.2.2.2.2.2.1.2.2.1 p.2.2.2.2.2.1.2.2.2.1 p.2.2.2.2.2.1.2.2.2.2.1 p.2.2.2.2.2.1.2.2.2.2.2
    p.2.2.2.2.2.2.1 p.2.2.2.2.2.2.2.1 p.2.2.2.2.2.2.2.2 0 0 0 0 false 0 0 0 0 0 0 0 0 0 0 0 r.1 r.2.1 r.2.2.1 r.2.2.2.1 r.2.2.2.2.1 r.2.2.2.2.2 = if t = true then some (p, zR, false, ()) else some (dropP p, r, true, ()) := fun t => by
    unfold poll_Take_K2 poll_Take_m2
    have eo : poll_own (p, ()) = some (p, ()) := own_eq (by omega) (by omega)
    cases t with
    | true => exact (congrArg (fun q => Option.bind q fun y => some (y.1, zR, false, ())) eo).trans rfl
    | false => rfl
  rw [e2]
  have e3 : reply_Fits ((p.2.2.2.2.2.1.1, p.2.2.2.2.2.1.2.1, p.2.2.2.2.2.1.2.2.1, p.2.2.2.2.2.1.2.2.2.1, p.2.2.2.2.2.1.2.2.2.2.1, p.2.2.2.2.2.1.2.2.2.2.2), (r.1, r.2.1, r.2.2.1, r.2.2.2.1, r.2.2.2.2.1, r.2.2.2.2.2), ()) = some (fitsV p.2.2.2.2.2.1 r, ()) := fits_eq h.a hs
  rw [e3, Option.bind_some, e2]
  cases ok with
  | false => rfl
  | true => cases fitsV p.2.2.2.2.2.1 r <;> rfl
theorem take_eq {p : TP} (h : OkP p) {b : List Int} (hl : b.length ≤ 100000) (hb : ∀ x ∈ b, 0 ≤ x ∧ x ≤ 255) : poll_Take (p, b, ()) = outT p (takeV p b) := by
  show poll_Take_m0 poll_Take_K1 p b = _
  unfold poll_Take_m0
  have h1 := h.a.lw
  have h2 := h.a.lb
  rw [own_eq (by omega) (by omega), Option.bind_some, tcpfind_eq hl hb, serfind_eq]
  have key : ∀ o : Option TR, (∀ r, o = some r → SmR r) → (Option.bind (outF o) fun y => poll_Take_K1 y.2.1 p.1 p.2.1 p.2.2.1 p.2.2.2.1 p.2.2.2.2.1 p.2.2.2.2.2.1.1 p.2.2.2.2.2.1.2.1 p.2.2.2.2.2.1.2.2.1 p.2.2.2.2.2.1.2.2.2.1 p.2.2.2.2.2.1.2.2.2.2.1 p.2.2.2.2.2.1.2.2.2.2.2
      p.2.2.2.2.2.2.1 p.2.2.2.2.2.2.2.1 p.2.2.2.2.2.2.2.2 0 0 0 0 false 0 0 0 0 0 0 0 0 0 0 0 y.1.1 y.1.2.1 y.1.2.2.1 y.1.2.2.2.1 y.1.2.2.2.2.1 y.1.2.2.2.2.2) = outT p (o.bind fun r => if fitsV p.2.2.2.2.2.1 r = true then some r else none) := fun o ho => by
    cases o with
    | none => exact take_K h zR_sm false
    | some r => exact take_K h (ho r rfl) true
  have hout : ∀ o, ∃ x, outT p o = some x := fun o => by cases o <;> exact ⟨_, rfl⟩
  unfold takeV
  cases hw : p.2.2.2.2.1 with
  | false => rfl
  | true =>
    rw [if_neg (by decide), if_pos rfl]
    rw [hw] at key
    by_cases hlk : p.2.1 = 2
    · have e : findV p b = tcpV p.1 p.2.2.2.2.2.2.1 b := by unfold findV; rw [if_pos hlk]
      have kk := key (tcpV p.1 p.2.2.2.2.2.2.1 b) (fun r hr => findV_sm (e.trans hr))
      rw [e]
      obtain ⟨x, hx⟩ := hout ((tcpV p.1 p.2.2.2.2.2.2.1 b).bind fun r => if fitsV p.2.2.2.2.2.1 r = true then some r else none)
      rw [hx] at kk ⊢
      simp only [eqi_iff, hlk, if_true]
      rw [hlk] at kk
      rw [kk, amb_same (eqAs_refl _), amb_same (eqAs_refl _)]
    · have e : findV p b = serV p.1 b := by unfold findV; rw [if_neg hlk]
      have kk := key (serV p.1 b) (fun r hr => findV_sm (e.trans hr))
      rw [e]
      obtain ⟨x, hx⟩ := hout ((serV p.1 b).bind fun r => if fitsV p.2.2.2.2.2.1 r = true then some r else none)
      rw [hx] at kk ⊢
      simp only [eqi_iff, hlk, if_false]
      rw [kk, amb_same (eqAs_refl _), amb_same (eqAs_refl _)]
end Go.Proofs.Lx

end

section
/- PollNone, as a plain law. -/
namespace Pl
open Go Ev Sx
theorem ok8 {x : Int} (h : (Lit.int .u8 x).wf = true) : 0 ≤ x ∧ x ≤ 255 := by
  simp [Lit.wf] at h
  have e1 : IntKind.u8.min = 0 := rfl
  have e2 : IntKind.u8.max = 255 := rfl
  omega
theorem ok16 {x : Int} (h : (Lit.int .u16 x).wf = true) : 0 ≤ x ∧ x ≤ 65535 := by
  simp [Lit.wf] at h
  have e1 : IntKind.u16.min = 0 := rfl
  have e2 : IntKind.u16.max = 65535 := rfl
  omega
theorem ok64 {x : Int} (h : (Lit.int .i64 x).wf = true) : -9223372036854775808 ≤ x ∧ x ≤ 9223372036854775807 := by
  simp [Lit.wf] at h
  have e1 : IntKind.i64.min = -9223372036854775808 := rfl
  have e2 : IntKind.i64.max = 9223372036854775807 := rfl
  omega
end Pl
namespace Go.Proofs.Lx
open Go Ev Sx Pl
set_option maxRecDepth 100000
def fewV (ws : List Int) (bs : List Bool) : Bool := decide (ws.length ≤ 200) && decide (bs.length ≤ 2100)
theorem few_eq (ws : List Int) (bs : List Bool) : low_Few (ws, bs, ()) = some (fewV ws bs, ()) := by
  show low_Few_m0 ws bs = _
  unfold low_Few_m0 fewV
  by_cases h : ws.length ≤ 200
  · rw [if_pos (by rw [le_iff, ofNat_eq]; omega), decide_eq_true h, Bool.true_and, le_dec]
    refine congrArg (fun x => some (x, ())) ?_
    rw [ofNat_eq]
    by_cases h2 : bs.length ≤ 2100
    · rw [decide_eq_true h2, decide_eq_true (by omega)]
    · rw [decide_eq_false h2, decide_eq_false (by omega)]
  · rw [if_neg (by rw [le_iff, ofNat_eq]; omega), decide_eq_false h]
    rfl
theorem few_iff {ws : List Int} {bs : List Bool} : fewV ws bs = true ↔ ws.length ≤ 200 ∧ bs.length ≤ 2100 := by simp [fewV]
abbrev tA : Ty := .pr (.int .u8) (.pr (.int .u16) (.pr (.int .u16) (.pr (.int .u16) (.pr (.sl (.int .u16)) (.sl .bool)))))
theorem okA_of {a : TA} (h : Rw.okV tA a) (hf : fewV a.2.2.2.2.1 a.2.2.2.2.2 = true) : OkA a := by
  obtain ⟨h1, h2, h3, h4, h5, h6⟩ := h
  have hf := few_iff.1 hf
  exact ⟨(ok8 h1).1, (ok8 h1).2, (ok16 h2).1, (ok16 h2).2, (ok16 h3).1, (ok16 h3).2, (ok16 h4).1, (ok16 h4).2, fun x hx => ok16 (h5.2 x hx), by omega, by omega⟩
theorem awake22 : law22_awake () = some (true, ()) := by kernel_rfl
theorem zA_ok : OkA zA := ⟨by decide, by decide, by decide, by decide, by decide, by decide, by decide, by decide, by simp [zA], by decide, by decide⟩
theorem ranges_if {β : Type} (J : Bool → β) (u l t r : Int) : (if ge u 1 = true then if le u 247 = true then if eqi l 1 = true then if ge t 1 = true then if le t 100000 = true then if ge r 0 = true then J (le r 1000) else J false else J false else J false else
    if eqi l 2 = true then if ge t 1 = true then if le t 100000 = true then if ge r 0 = true then J (le r 1000) else J false else J false else J false else J false else J false else J false) = J (rangesV u l t r) := by
  have h := ranges_eq u l t r
  have h : poll_ranges_m0 u l t r = _ := h
  unfold poll_ranges_m0 at h
  revert h
  generalize rangesV u l t r = q
  generalize ge u 1 = b1
  generalize le u 247 = b2
  generalize eqi l 1 = b3
  generalize eqi l 2 = b4
  generalize ge t 1 = b5
  generalize le t 100000 = b6
  generalize ge r 0 = b7
  generalize le r 1000 = b8
  intro h
  cases b1 <;> cases b2 <;> cases b3 <;> cases b4 <;> cases b5 <;> cases b6 <;> cases b7 <;> cases h <;> rfl
theorem rangesV_ok {u l t r : Int} (h : rangesV u l t r = true) : OkP (u, l, t, r, false, zA, 0, 0, 0) := by
  have h := of_decide_eq_true h
  exact ⟨h.1.1, h.1.2, h.2.1, h.2.2.1.1, h.2.2.1.2, h.2.2.2.1, h.2.2.2.2, zA_ok, by show (0 : Int) ≤ 0; decide, by show (0 : Int) ≤ 65535; decide⟩
theorem none_law (unit link timeout retries : Int) (a : TA) (ticks : Int) (ha : Rw.okV tA a) (ht : 0 ≤ ticks ∧ ticks ≤ 255) : law22_PollNone (unit, link, timeout, retries, a, ticks, ()) = some (true, ()) := by
  show law22_PollNone_m0 law22_PollNone_K1 unit link timeout retries a ticks = _
  unfold law22_PollNone_m0
  rw [few_eq, Option.bind_some, awake22, Option.bind_some]
  cases hf : fewV a.2.2.2.2.1 a.2.2.2.2.2 with
  | false => rfl
  | true =>
    have hA := okA_of ha hf
    rw [if_neg (by decide), new_eq]
    cases hr : rangesV unit link timeout retries with
    | false =>
      rw [if_neg (by decide), Option.bind_some]
      refine (ranges_if (fun b => law22_PollNone_K1 ticks 2 b a.1 a.2.1 a.2.2.1 a.2.2.2.1 a.2.2.2.2.1 a.2.2.2.2.2 0 0 0 0 false 0 0 0 0 [] [] 0 0 0) unit link timeout retries).trans ?_
      rw [hr]
      show Option.bind (law22_awake ()) (fun y => some (y.1, ())) = _
      rw [awake22]
      rfl
    | true =>
      rw [if_pos rfl, Option.bind_some]
      refine (ranges_if (fun b => law22_PollNone_K1 ticks 0 b a.1 a.2.1 a.2.2.1 a.2.2.2.1 a.2.2.2.2.1 a.2.2.2.2.2 unit link timeout retries false 0 0 0 0 [] [] 0 0 0) unit link timeout retries).trans ?_
      rw [hr]
      show law22_PollNone_K3 ticks 0 a.1 a.2.1 a.2.2.1 a.2.2.2.1 a.2.2.2.2.1 a.2.2.2.2.2 unit link timeout retries false 0 0 0 0 [] [] 0 0 0 = _
      unfold law22_PollNone_K3
      have hP := rangesV_ok hr
      obtain ⟨N, rfl⟩ := Int.eq_ofNat_of_zero_le ht.1
      refine loop_det (mk := fun i => ((N : Int), (i : Int), a.1, a.2.1, a.2.2.1, a.2.2.2.1, a.2.2.2.2.1, a.2.2.2.2.2, unit, link, timeout, retries, false, 0, 0, 0, 0, [], [], 0, 0, 0)) (N := N) ?_ ?_ N 0 _ (by omega) (by omega)
      · intro self i hi
        show law22_PollNone_m3 _ _ _ (N : Int) (i : Int) a.1 a.2.1 a.2.2.1 a.2.2.2.1 a.2.2.2.2.1 a.2.2.2.2.2 unit link timeout retries false 0 0 0 0 [] [] 0 0 0 = _
        unfold law22_PollNone_m3
        have et : poll_Tick ((unit, link, timeout, retries, false, (0, 0, 0, 0, [], []), 0, 0, 0), ()) = some ((unit, link, timeout, retries, false, zA, 0, 0, 0), [], false, ()) := tick_eq hP (fun h => by cases h)
        have es : poll_Same ((unit, link, timeout, retries, false, (0, 0, 0, 0, [], []), 0, 0, 0), (unit, link, timeout, retries, false, zA, 0, 0, 0), ()) = some (true, ()) := by
          rw [samep_eq (by show 0 ≤ 1000000; decide) (by show 0 ≤ 1000000; decide)]
          simp [zA]
        rw [if_pos (by rw [lt_iff]; omega), et, Option.bind_some, if_neg (by show ¬ gt 0 0 = true; decide), if_neg (by show ¬ false = true; decide), es, Option.bind_some]
        show law22_PollNone_m4 _ (N : Int) (i : Int) false a.1 a.2.1 a.2.2.1 a.2.2.2.1 a.2.2.2.2.1 a.2.2.2.2.2 unit link timeout retries false 0 0 0 0 [] [] 0 0 0 = _
        unfold law22_PollNone_m4
        have ea : add .u8 (i : Int) 1 = ((i + 1 : Nat) : Int) := by
          unfold add
          rw [wu8 (by omega) (by omega)]
          rfl
        rw [if_neg (by decide), ea]
      · intro self
        show law22_PollNone_m3 _ _ _ (N : Int) (N : Int) a.1 a.2.1 a.2.2.1 a.2.2.2.1 a.2.2.2.2.1 a.2.2.2.2.2 unit link timeout retries false 0 0 0 0 [] [] 0 0 0 = _
        unfold law22_PollNone_m3
        rw [if_neg (by rw [lt_iff]; omega)]
        show law22_PollNone_m5 a.1 a.2.1 a.2.2.1 a.2.2.2.1 a.2.2.2.2.1 a.2.2.2.2.2 unit link timeout retries false 0 0 0 0 [] [] 0 0 0 = _
        unfold law22_PollNone_m5
        have es : poll_Send ((unit, link, timeout, retries, false, (0, 0, 0, 0, [], []), 0, 0, 0), (a.1, a.2.1, a.2.2.1, a.2.2.2.1, a.2.2.2.2.1, a.2.2.2.2.2), ()) = _ := send_eq hP hA
        have er : ask_Right ((a.1, a.2.1, a.2.2.1, a.2.2.2.1, a.2.2.2.2.1, a.2.2.2.2.2), ()) = _ := right_eq hA
        rw [es, er, if_neg (by show ¬ false = true; decide), awake22]
        cases hq : rightA a with
        | true => rfl
        | false =>
          rw [if_neg (by decide), Option.bind_some, Option.bind_some]
          have es : poll_Same ((unit, link, timeout, retries, false, (0, 0, 0, 0, [], []), 0, 0, 0), (unit, link, timeout, retries, false, zA, 0, 0, 0), ()) = some (true, ()) := by
            rw [samep_eq (by show 0 ≤ 1000000; decide) (by show 0 ≤ 1000000; decide)]
            simp [zA]
          rw [if_pos (by show eqb (eqi 12 0) false = true; decide), if_neg (by show ¬ eqi 12 0 = true; decide), if_pos (by show eqi 12 12 = true; decide), if_pos (by show eqi 0 0 = true; decide)]
          dsimp only
          rw [show zA = (0, 0, 0, 0, [], []) from rfl] at es
          rw [es]
          rfl
theorem none_row (x : As [.int .u8, .int .u8, .int .i64, .int .i64, tA, .int .u8]) (h : Rw.okA [.int .u8, .int .u8, .int .i64, .int .i64, tA, .int .u8] x) : law22_PollNone x = some (true, ()) :=
  none_law x.1 x.2.1 x.2.2.1 x.2.2.2.1 x.2.2.2.2.1 x.2.2.2.2.2.1 h.2.2.2.2.1 (ok8 h.2.2.2.2.2.1)
end Go.Proofs.Lx

end

section
/- Numbers of two bytes, packed bits and frames are read back. -/
namespace Pl
open Go Ev Sx
theorem listS_nil : listS [] = [] := rfl
theorem listS_two (y z : Int) (r : List Int) : listS (y :: z :: r) = numV y z :: listS r := by
  unfold listS
  have e : (y :: z :: r).length / 2 = r.length / 2 + 1 := by simp; omega
  rw [e, List.range_succ_eq_map, List.map_cons, List.map_map]
  congr 1
end Pl
namespace Go.Proofs.Lx
open Go Ev Sx Pl
set_option maxRecDepth 100000
theorem numV_two {x : Int} (h0 : 0 ≤ x) (h1 : x ≤ 65535) : numV (x / 256 % 256) (x % 256) = x := by
  rw [numV_eq (by omega) (by omega) (by omega) (by omega)]
  omega
theorem listS_of_two {x : Int} (h0 : 0 ≤ x) (h1 : x ≤ 65535) (r : List Int) : listS (x / 256 % 256 :: x % 256 :: r) = x :: listS r := by rw [listS_two, numV_two h0 h1]
theorem listS_flat : ∀ {l : List Int}, (∀ x ∈ l, 0 ≤ x ∧ x ≤ 65535) → listS (l.flatMap two) = l
  | [], _ => rfl
  | x :: r, h => by
    rw [List.flatMap_cons]
    show listS (x / 256 % 256 :: x % 256 :: r.flatMap two) = _
    have hx := h x (by simp)
    rw [listS_of_two hx.1 hx.2, listS_flat fun y hy => h y (List.mem_cons_of_mem _ hy)]
theorem byteV_256 {t : List Bool} (h : t.length ≤ 8) : 0 ≤ byteV t ∧ byteV t < 256 := by
  have h1 := byteV_rng t
  have h2 : 2 ^ t.length ≤ 2 ^ 8 := Nat.pow_le_pow_right (by decide) h
  have h3 : ((2 ^ t.length : Nat) : Int) = (2 : Int) ^ t.length := by norm_cast
  have h4 : (2 : Nat) ^ 8 = 256 := by decide
  exact ⟨h1.1, by omega⟩
theorem unpack_pack (l : List Bool) : (unpackS (packS l)).take l.length = l := by
  apply List.ext_getElem?
  intro i
  rw [List.getElem?_take]
  by_cases hi : i < l.length
  · rw [if_pos hi]
    unfold unpackS
    have hm : i < 8 * (packS l).length := by rw [packS_len]; unfold packN; omega
    rw [List.getElem?_map, List.getElem?_range hm, Option.map_some]
    have hq : i / 8 < packN l.length := by unfold packN; omega
    have e : (packS l).getD (i / 8) 0 = byteV ((l.drop (8 * (i / 8))).take 8) := by
      unfold packS
      rw [List.getD_eq_getElem?_getD, List.getElem?_map, List.getElem?_range hq]
      rfl
    have hr := byteV_256 (t := (l.drop (8 * (i / 8))).take 8) (by simp; omega)
    rw [e, bitV_eq hr.1 hr.2 (Nat.mod_lt _ (by decide)), byteV_bit]
    have e2 : ((l.drop (8 * (i / 8))).take 8).getD (i % 8) false = l[i] := by
      rw [List.getD_eq_getElem?_getD, List.getElem?_take, if_pos (Nat.mod_lt _ (by decide)), List.getElem?_drop]
      have : 8 * (i / 8) + i % 8 = i := by omega
      rw [this, List.getElem?_eq_getElem hi]
      rfl
    rw [e2, List.getElem?_eq_getElem hi]
    cases l[i] <;> rfl
  · rw [if_neg hi, List.getElem?_eq_none (by omega)]
@[reducible] def ap14 {β : Type} (f : Int → Int → Int → Int → Bool → Int → Int → Int → Int → List Int → List Bool → Int → Int → Int → β) (p : TP) : β :=
  f p.1 p.2.1 p.2.2.1 p.2.2.2.1 p.2.2.2.2.1 p.2.2.2.2.2.1.1 p.2.2.2.2.2.1.2.1 p.2.2.2.2.2.1.2.2.1 p.2.2.2.2.2.1.2.2.2.1 p.2.2.2.2.2.1.2.2.2.2.1 p.2.2.2.2.2.1.2.2.2.2.2 p.2.2.2.2.2.2.1 p.2.2.2.2.2.2.2.1 p.2.2.2.2.2.2.2.2
abbrev tup (p : TP) : TP := (p.1, p.2.1, p.2.2.1, p.2.2.2.1, p.2.2.2.2.1, (p.2.2.2.2.2.1.1, p.2.2.2.2.2.1.2.1, p.2.2.2.2.2.1.2.2.1, p.2.2.2.2.2.1.2.2.2.1, p.2.2.2.2.2.1.2.2.2.2.1, p.2.2.2.2.2.1.2.2.2.2.2), p.2.2.2.2.2.2.1, p.2.2.2.2.2.2.2.1, p.2.2.2.2.2.2.2.2)
/-- the poll that a law begins with -/
def begP (link timeout retries : Int) : TP := (9, add .u8 1 (rem link 2), add .i64 1 (cvt .i64 (rem timeout 20)), cvt .i64 (rem retries 6), false, zA, 0, 0, 0)
theorem beg_rng {link timeout retries : Int} (h1 : 0 ≤ link) (h2 : 0 ≤ timeout) (h3 : 0 ≤ retries) : (add .u8 1 (rem link 2) = 1 + link % 2) ∧ (add .i64 1 (cvt .i64 (rem timeout 20)) = 1 + timeout % 20) ∧ cvt .i64 (rem retries 6) = retries % 6 := by
  have e1 : rem link 2 = link % 2 := by unfold rem; exact Int.tmod_eq_emod_of_nonneg h1
  have e2 : rem timeout 20 = timeout % 20 := by unfold rem; exact Int.tmod_eq_emod_of_nonneg h2
  have e3 : rem retries 6 = retries % 6 := by unfold rem; exact Int.tmod_eq_emod_of_nonneg h3
  rw [e1, e2, e3, cvt64 (by omega) (by omega), cvt64 (by omega) (by omega), add64 (by omega) (by omega)]
  refine ⟨?_, rfl, rfl⟩
  unfold add
  rw [wu8 (by omega) (by omega)]
theorem beg_ok {link timeout retries : Int} (h1 : 0 ≤ link) (h2 : 0 ≤ timeout) (h3 : 0 ≤ retries) : rangesV 9 (add .u8 1 (rem link 2)) (add .i64 1 (cvt .i64 (rem timeout 20))) (cvt .i64 (rem retries 6)) = true := by
  obtain ⟨e1, e2, e3⟩ := beg_rng h1 h2 h3
  rw [e1, e2, e3]
  exact decide_eq_true ⟨⟨by omega, by omega⟩, by omega, ⟨by omega, by omega⟩, by omega, by omega⟩
theorem nextV_rng (l : Int) {x : Int} (h0 : 0 ≤ x) (h1 : x ≤ 65535) : 0 ≤ nextV l x ∧ nextV l x ≤ 65535 := by
  unfold nextV
  split <;> omega
theorem sameA_self {a : TA} (h : OkA a) : ask_Same (a, a, ()) = some (true, ()) := by
  have h1 := h.lw
  have h2 := h.lb
  rw [sameA_eq (by omega) (by omega)]
  simp
/-! ### frames are read -/
theorem two_bytes (x : Int) : ∀ y ∈ two x, 0 ≤ y ∧ y ≤ 255 := by
  intro y hy
  simp [two] at hy
  rcases hy with rfl | rfl <;> omega
theorem flat_bytes (l : List Int) : ∀ y ∈ l.flatMap two, 0 ≤ y ∧ y ≤ 255 := by
  intro y hy
  obtain ⟨x, _, hx⟩ := List.mem_flatMap.1 hy
  exact two_bytes x y hx
theorem pack_bytes (l : List Bool) : ∀ y ∈ packS l, 0 ≤ y ∧ y ≤ 255 := by
  intro y hy
  unfold packS at hy
  obtain ⟨j, _, rfl⟩ := List.mem_map.1 hy
  have := byteV_256 (t := (l.drop (8 * j)).take 8) (by simp; omega)
  omega
theorem askB_bytes {a : TA} (h : RA a) : ∀ y ∈ askB a, 0 ≤ y ∧ y ≤ 255 := by
  have app : ∀ {l r : List Int}, (∀ y ∈ l, 0 ≤ y ∧ y ≤ 255) → (∀ y ∈ r, 0 ≤ y ∧ y ≤ 255) → ∀ y ∈ l ++ r, 0 ≤ y ∧ y ≤ 255 := fun h1 h2 y hy => by
    rcases List.mem_append.1 hy with h | h
    · exact h1 y h
    · exact h2 y h
  have con : ∀ {x : Int} {r : List Int}, (0 ≤ x ∧ x ≤ 255) → (∀ y ∈ r, 0 ≤ y ∧ y ≤ 255) → ∀ y ∈ x :: r, 0 ≤ y ∧ y ≤ 255 := fun h1 h2 y hy => by
    rcases List.mem_cons.1 hy with h | h
    · subst h; exact h1
    · exact h2 y h
  have nil : ∀ y ∈ ([] : List Int), 0 ≤ y ∧ y ≤ 255 := fun y hy => by cases hy
  cases h with
  | bits f p n hf h1 h2 =>
    rcases hf with rfl | rfl
    · show ∀ y ∈ (1 : Int) :: two p ++ two n, 0 ≤ y ∧ y ≤ 255
      exact app (con (by decide) (two_bytes p)) (two_bytes n)
    · show ∀ y ∈ (2 : Int) :: two p ++ two n, 0 ≤ y ∧ y ≤ 255
      exact app (con (by decide) (two_bytes p)) (two_bytes n)
  | words f p n hf h1 h2 =>
    rcases hf with rfl | rfl
    · show ∀ y ∈ (3 : Int) :: two p ++ two n, 0 ≤ y ∧ y ≤ 255
      exact app (con (by decide) (two_bytes p)) (two_bytes n)
    · show ∀ y ∈ (4 : Int) :: two p ++ two n, 0 ≤ y ∧ y ≤ 255
      exact app (con (by decide) (two_bytes p)) (two_bytes n)
  | coil p b =>
    show ∀ y ∈ (5 : Int) :: two p ++ two (if b = true then 65280 else 0), 0 ≤ y ∧ y ≤ 255
    exact app (con (by decide) (two_bytes p)) (two_bytes _)
  | word p x =>
    show ∀ y ∈ (6 : Int) :: two p ++ [x].flatMap two, 0 ≤ y ∧ y ≤ 255
    exact app (con (by decide) (two_bytes p)) (flat_bytes _)
  | coils p l h1 h2 =>
    show ∀ y ∈ (15 : Int) :: two p ++ two (l.length : Int) ++ [(packN l.length : Int)] ++ packS l, 0 ≤ y ∧ y ≤ 255
    exact app (app (app (con (by decide) (two_bytes p)) (two_bytes _)) (con (by unfold packN; omega) nil)) (pack_bytes l)
  | regs p l h1 h2 =>
    show ∀ y ∈ (16 : Int) :: two p ++ two (l.length : Int) ++ [2 * (l.length : Int)] ++ l.flatMap two, 0 ≤ y ∧ y ≤ 255
    exact app (app (app (con (by decide) (two_bytes p)) (two_bytes _)) (con (by omega) nil)) (flat_bytes l)
  | swap p n t l h1 h2 h3 h4 =>
    show ∀ y ∈ (23 : Int) :: two p ++ two n ++ two t ++ two (l.length : Int) ++ [2 * (l.length : Int)] ++ l.flatMap two, 0 ≤ y ∧ y ≤ 255
    exact app (app (app (app (app (con (by decide) (two_bytes p)) (two_bytes _)) (two_bytes _)) (two_bytes _)) (con (by omega) nil)) (flat_bytes l)
theorem mbap_back {tx unit : Int} {pdu : List Int} (h1 : 1 ≤ pdu.length) (h2 : pdu.length ≤ 253) (ht : 0 ≤ tx) (ht2 : tx ≤ 65535) (hu : 0 ≤ unit) (hu2 : unit ≤ 255) (hb : ∀ y ∈ pdu, 0 ≤ y ∧ y ≤ 255) : mbap_Parse (mbapV tx unit pdu, ()) = some ((tx, unit, pdu), 0, ()) := by
  have hall : ∀ y ∈ mbapV tx unit pdu, 0 ≤ y ∧ y ≤ 255 := by
    intro y hy
    unfold mbapV at hy
    rcases List.mem_append.1 hy with h | h
    · simp at h
      rcases h with rfl | rfl | rfl | rfl | rfl <;> omega
    · exact hb y h
  rw [mparse_eq (by simp [mbapV]; omega) hall]
  have e : mbapP (mbapV tx unit pdu) = ((tx, unit, pdu), 0) := by
    show (if pdu = [] then _ else if beginsV 0 0 0 (((pdu.length + 1 : Nat) : Int) % 256) = true then if (pdu.length : Int) + 1 = ((pdu.length + 1 : Nat) : Int) % 256 then ((numV (tx / 256 % 256) (tx % 256), unit, pdu), 0) else (zM, 10) else (zM, 10)) = _
    have hne : ¬ pdu = [] := by intro e; subst e; simp at h1
    have hbg : beginsV 0 0 0 (((pdu.length + 1 : Nat) : Int) % 256) = true := by
      unfold beginsV
      have q1 : lt (((pdu.length + 1 : Nat) : Int) % 256) 2 = false := by rw [← Bool.not_eq_true, lt_iff]; omega
      have q2 : gt (cvt .i64 (((pdu.length + 1 : Nat) : Int) % 256)) 254 = false := by rw [← Bool.not_eq_true, gt_iff, cvt64 (by omega) (by omega)]; omega
      rw [q1, q2]
      rfl
    rw [if_neg hne, if_pos hbg, if_pos (by omega), numV_two ht ht2]
  rw [e]
theorem rtu_back {unit : Int} {pdu : List Int} (h1 : 1 ≤ pdu.length) (h2 : pdu.length ≤ 253) (hu : 1 ≤ unit) (hu2 : unit ≤ 247) : rtu_Parse (putV (unit :: pdu), ()) = some (unit, pdu, 0, ()) := by
  rw [rtup_eq]
  have hs := sumV_rng (unit :: pdu)
  have hc : cutV (putV (unit :: pdu)) = (unit :: pdu, 0) := by
    unfold cutV
    have hl := putV_len (unit :: pdu)
    have e0 : (putV (unit :: pdu)).length - 2 = (unit :: pdu).length := by omega
    have et : (putV (unit :: pdu)).take (unit :: pdu).length = unit :: pdu := by unfold putV; exact List.take_left
    have e1 : (putV (unit :: pdu)).getD ((putV (unit :: pdu)).length - 1) 0 = sumV (unit :: pdu) / 256 := by
      have : (putV (unit :: pdu)).length - 1 = (unit :: pdu).length + 1 := by omega
      rw [this, List.getD_eq_getElem?_getD]
      unfold putV
      rw [List.getElem?_append_right (by omega)]
      simp
    have e2 : (putV (unit :: pdu)).getD (unit :: pdu).length 0 = sumV (unit :: pdu) % 256 := by
      rw [List.getD_eq_getElem?_getD]
      unfold putV
      rw [List.getElem?_append_right (by omega)]
      simp
    rw [if_neg (by rw [hl]; simp), e0, et, e1, e2, numV_eq (by omega) (by omega) (by omega) (by omega), if_pos (by omega)]
  have e : rtuV (putV (unit :: pdu)) = (unit, pdu, 0) := by
    unfold rtuV
    have hl := putV_len (unit :: pdu)
    rw [if_neg (by rw [hl]; simp; omega), hc]
    show (if (0 : Int) ≠ 0 then _ else if (decide (1 ≤ unit) && decide (unit ≤ 247)) = true then (unit, pdu, 0) else (0, [], 10)) = _
    rw [if_neg (by decide), decide_eq_true hu, decide_eq_true hu2]
    rfl
  rw [e]
end Go.Proofs.Lx

end

section
/- The bytes of a right reply are read as that reply. -/
namespace Go.Proofs.Lx
open Go Ev Sx Pl
set_option maxRecDepth 100000
structure OkR (r : TR) : Prop where
  f0 : 0 ≤ r.1
  f1 : r.1 ≤ 255
  e0 : 0 ≤ r.2.1
  e1 : r.2.1 ≤ 255
  w : ∀ x ∈ r.2.2.2.1, 0 ≤ x ∧ x ≤ 65535
  at0 : 0 ≤ r.2.2.2.2.1
  at1 : r.2.2.2.2.1 ≤ 65535
  m0 : 0 ≤ r.2.2.2.2.2
  m1 : r.2.2.2.2.2 ≤ 65535
  lb : r.2.2.1.length ≤ 100000
  lw : r.2.2.2.1.length ≤ 100000
theorem OkR.sm {r : TR} (h : OkR r) : SmR r := ⟨h.lb, h.lw⟩
/-- what a right reply is -/
inductive RR : TR → Prop where
  | ex (f e : Int) (h0 : 0 ≤ f) (h : f < 128) (h1 : 1 ≤ e) (h2 : e ≤ 4) : RR (f, e, [], [], 0, 0)
  | bits (f : Int) (l : List Bool) (hf : f = 1 ∨ f = 2) (h1 : 8 ≤ l.length) (h2 : l.length ≤ 2000) (h3 : l.length % 8 = 0) : RR (f, 0, l, [], 0, 0)
  | words (f : Int) (l : List Int) (hf : f = 3 ∨ f = 4 ∨ f = 23) (h1 : 1 ≤ l.length) (h2 : l.length ≤ 125) : RR (f, 0, [], l, 0, 0)
  | coil (b : Bool) (p : Int) : RR (5, 0, [b], [], p, 0)
  | word (x p : Int) : RR (6, 0, [], [x], p, 0)
  | coils (p n : Int) (h1 : 1 ≤ n) (h2 : n ≤ 1968) : RR (15, 0, [], [], p, n)
  | regs (p n : Int) (h1 : 1 ≤ n) (h2 : n ≤ 123) : RR (16, 0, [], [], p, n)
theorem rem128 {f : Int} (h0 : 0 ≤ f) (h : f < 128) : rem f 128 = f := by
  unfold rem
  rw [Int.tmod_eq_emod_of_nonneg h0]
  omega
theorem rightR_RR {r : TR} (h : OkR r) (hr : rightR r = true) : RR r := by
  unfold rightR at hr
  have hf0 := h.f0
  clear h
  split at hr
  · unfold exR at hr
    simp only [Bool.and_eq_true, decide_eq_true_eq] at hr
    obtain ⟨h1, h2, h3, h4⟩ := hr
    rw [h4, rem128 hf0 h1]
    exact .ex _ _ hf0 h1 h2 h3
  · have bit : ∀ {f : Int}, r.1 = f → (f = 1 ∨ f = 2) → bitR r = true → RR r := fun {f} e hf hb => by
      unfold bitR at hb
      simp only [Bool.and_eq_true, decide_eq_true_eq] at hb
      obtain ⟨h1, h2, h3, h4⟩ := hb
      rw [h4, e]
      exact .bits _ _ hf h1 h2 h3
    have wrd : ∀ {f : Int}, r.1 = f → (f = 3 ∨ f = 4 ∨ f = 23) → wordR r = true → RR r := fun {f} e hf hb => by
      unfold wordR at hb
      simp only [Bool.and_eq_true, decide_eq_true_eq] at hb
      obtain ⟨h1, h2, h3⟩ := hb
      rw [h3, e]
      exact .words _ _ hf h1 h2
    split at hr
    · rename_i e; exact bit (eqi_iff.1 e) (.inl rfl) hr
    · split at hr
      · rename_i e; exact bit (eqi_iff.1 e) (.inr rfl) hr
      · split at hr
        · rename_i e; exact wrd (eqi_iff.1 e) (.inl rfl) hr
        · split at hr
          · rename_i e; exact wrd (eqi_iff.1 e) (.inr (.inl rfl)) hr
          · split at hr
            · rename_i e; exact wrd (eqi_iff.1 e) (.inr (.inr rfl)) hr
            · split at hr
              · rename_i e
                unfold obR at hr
                simp only [Bool.and_eq_true, decide_eq_true_eq] at hr
                obtain ⟨x, hx⟩ := List.length_eq_one_iff.1 hr.1
                rw [hr.2, eqi_iff.1 e, hx]
                exact .coil x _
              · split at hr
                · rename_i e
                  unfold owR at hr
                  simp only [Bool.and_eq_true, decide_eq_true_eq] at hr
                  obtain ⟨x, hx⟩ := List.length_eq_one_iff.1 hr.1
                  rw [hr.2, eqi_iff.1 e, hx]
                  exact .word x _
                · split at hr
                  · rename_i e
                    unfold ctR at hr
                    simp only [Bool.and_eq_true, decide_eq_true_eq] at hr
                    rw [hr.2.2, eqi_iff.1 e]
                    exact .coils _ _ hr.1 hr.2.1
                  · split at hr
                    · rename_i e
                      unfold ctR at hr
                      simp only [Bool.and_eq_true, decide_eq_true_eq] at hr
                      rw [hr.2.2, eqi_iff.1 e]
                      exact .regs _ _ hr.1 hr.2.1
                    · cases hr
/-- its bytes -/
def repB (r : TR) : List Int := if nei r.2.1 0 = true then exB r else if eqi r.1 1 = true then bitB r else if eqi r.1 2 = true then bitB r else if eqi r.1 3 = true then wordB r else if eqi r.1 4 = true then wordB r else if eqi r.1 23 = true then wordB r else
  if eqi r.1 5 = true then obB r else if eqi r.1 6 = true then owB r else if eqi r.1 15 = true then ctB r else if eqi r.1 16 = true then ctB r else []
theorem chk_self {b : List Int} {c : TR} {ok : Bool} (h : ok = true) : chkV b c ok b = (c, 0) := by
  unfold chkV
  rw [if_pos h, if_pos (eqs_iff.2 rfl)]
theorem repB_len {r : TR} (h : RR r) : 2 ≤ (repB r).length ∧ (repB r).length ≤ 253 := by
  cases h with
  | ex f e h0 h h1 h2 =>
    unfold repB
    rw [if_pos (by rw [nei_iff]; show e ≠ 0; omega)]
    exact ⟨Nat.le.refl, (by decide : 2 ≤ 253)⟩
  | bits f l hf h1 h2 h3 =>
    have e : repB (f, 0, l, [], 0, 0) = bitB (f, 0, l, [], 0, 0) := by rcases hf with rfl | rfl <;> rfl
    rw [e]
    show 2 ≤ (f :: _ :: packS l).length ∧ (f :: _ :: packS l).length ≤ 253
    simp only [List.length_cons, packS_len]
    unfold packN
    omega
  | words f l hf h1 h2 =>
    have e : repB (f, 0, [], l, 0, 0) = wordB (f, 0, [], l, 0, 0) := by rcases hf with rfl | rfl | rfl <;> rfl
    rw [e]
    show 2 ≤ ([f, _] ++ l.flatMap two).length ∧ ([f, _] ++ l.flatMap two).length ≤ 253
    simp only [List.length_append, List.length_cons, List.length_nil, flat_two_len]
    omega
  | coil b p => exact ⟨(by decide : 2 ≤ 5), (by decide : 5 ≤ 253)⟩
  | word x p => exact ⟨(by decide : 2 ≤ 5), (by decide : 5 ≤ 253)⟩
  | coils p n h1 h2 => exact ⟨(by decide : 2 ≤ 5), (by decide : 5 ≤ 253)⟩
  | regs p n h1 h2 => exact ⟨(by decide : 2 ≤ 5), (by decide : 5 ≤ 253)⟩
theorem listS_four {p q : Int} (h0 : 0 ≤ p) (h1 : p ≤ 65535) (h2 : 0 ≤ q) (h3 : q ≤ 65535) : listS (two p ++ two q) = [p, q] := by
  show listS (p / 256 % 256 :: p % 256 :: q / 256 % 256 :: q % 256 :: []) = _
  rw [listS_of_two h0 h1, listS_of_two h2 h3]
  rfl
theorem rparse_back {r : TR} (h : OkR r) (hr : RR r) (ok : rightR r = true) : parseR (repB r) = (r, 0) := by
  have hw := h.w
  have ha := h.at0
  have ha1 := h.at1
  have hm := h.m0
  have hm1 := h.m1
  clear h
  cases hr with
  | ex f e h0 h h1 h2 =>
    have ea : add .u8 f 128 = f + 128 := wu8 (by omega) (by omega)
    have eb : repB (f, e, [], [], 0, 0) = [f + 128, e] := by
      unfold repB
      rw [if_pos (by rw [nei_iff]; show e ≠ 0; omega)]
      unfold exB
      dsimp only
      rw [ea]
    have ec : exC (f + 128) e = (f, e, [], [], 0, 0) := by
      unfold exC
      have : rem (f + 128) 128 = f := by unfold rem; rw [Int.tmod_eq_emod_of_nonneg (by omega)]; omega
      rw [this]
    rw [eb]
    show parseQ (f + 128) e [] = _
    unfold parseQ
    rw [if_neg (by decide), if_neg (by rw [lt_iff]; omega), ec]
    have eB : exB (f, e, [], [], 0, 0) = [f + 128, e] := by
      unfold exB
      dsimp only
      rw [ea]
    rw [eB]
    apply chk_self
    unfold rightR at ok
    rw [if_pos (by rw [nei_iff]; show e ≠ 0; omega)] at ok
    exact ok
  | bits f l hf h1 h2 h3 =>
    have hN : packN l.length ≤ 250 := by unfold packN; omega
    have hu : unpackS (packS l) = l := by
      have := unpack_pack l
      rwa [List.take_of_length_le (by rw [unpackS_len, packS_len]; unfold packN; omega)] at this
    have ec : bitC f (packS l) = (f, 0, l, [], 0, 0) := by unfold bitC; rw [hu]
    rcases hf with rfl | rfl
    · show parseQ 1 ((packN l.length : Int) % 256) (packS l) = _
      unfold parseQ
      rw [if_neg (by rw [packS_len]; omega), if_pos (by decide), if_pos (by decide), ec]
      exact chk_self ok
    · show parseQ 2 ((packN l.length : Int) % 256) (packS l) = _
      unfold parseQ
      rw [if_neg (by rw [packS_len]; omega), if_pos (by decide), if_neg (by decide), if_pos (by decide), ec]
      exact chk_self ok
  | words f l hf h1 h2 =>
    have hlen := flat_two_len l
    have ec : wordC f (l.flatMap two) = (f, 0, [], l, 0, 0) := by unfold wordC; rw [listS_flat hw]
    rcases hf with rfl | rfl | rfl
    · show parseQ 3 (2 * (l.length : Int) % 256) (l.flatMap two) = _
      unfold parseQ
      rw [if_neg (by omega), if_pos (by decide), if_neg (by decide), if_neg (by decide), if_pos (by decide), ec]
      exact chk_self ok
    · show parseQ 4 (2 * (l.length : Int) % 256) (l.flatMap two) = _
      unfold parseQ
      rw [if_neg (by omega), if_pos (by decide), if_neg (by decide), if_neg (by decide), if_neg (by decide), if_pos (by decide), ec]
      exact chk_self ok
    · show parseQ 23 (2 * (l.length : Int) % 256) (l.flatMap two) = _
      unfold parseQ
      rw [if_neg (by omega), if_pos (by decide), if_neg (by decide), if_neg (by decide), if_neg (by decide), if_neg (by decide), if_pos (by decide), ec]
      exact chk_self ok
  | coil b p =>
    have ec : obC 5 (two p ++ two (if b = true then 65280 else 0)) = (5, 0, [b], [], p, 0) := by
      unfold obC pairC
      rw [listS_four ha ha1 (by split <;> decide) (by split <;> decide)]
      cases b <;> rfl
    show parseQ 5 (p / 256 % 256) (p % 256 :: two (if b = true then 65280 else 0)) = _
    have eq : (p / 256 % 256) :: (p % 256 :: two (if b = true then 65280 else 0)) = two p ++ two (if b = true then 65280 else 0) := rfl
    unfold parseQ
    rw [if_neg (by show ¬ 251 < 3; decide), if_pos (by decide), if_neg (by decide), if_neg (by decide), if_neg (by decide), if_neg (by decide), if_neg (by decide), if_pos (by decide), eq, ec]
    exact chk_self ok
  | word x p =>
    have hx := hw x (by simp)
    have ec : owC 6 (two p ++ two x) = (6, 0, [], [x], p, 0) := by
      unfold owC pairC
      rw [listS_four ha ha1 hx.1 hx.2]
    show parseQ 6 (p / 256 % 256) (p % 256 :: two x) = _
    have eq : (p / 256 % 256) :: (p % 256 :: two x) = two p ++ two x := rfl
    unfold parseQ
    rw [if_neg (by show ¬ 251 < 3; decide), if_pos (by decide), if_neg (by decide), if_neg (by decide), if_neg (by decide), if_neg (by decide), if_neg (by decide), if_neg (by decide), if_pos (by decide), eq, ec]
    exact chk_self ok
  | coils p n h1 h2 =>
    have ec : ctC 15 (two p ++ two n) = (15, 0, [], [], p, n) := by
      unfold ctC pairC
      rw [listS_four ha ha1 hm hm1]
    show parseQ 15 (p / 256 % 256) (p % 256 :: two n) = _
    have eq : (p / 256 % 256) :: (p % 256 :: two n) = two p ++ two n := rfl
    unfold parseQ
    rw [if_neg (by show ¬ 251 < 3; decide), if_pos (by decide), if_neg (by decide), if_neg (by decide), if_neg (by decide), if_neg (by decide), if_neg (by decide), if_neg (by decide), if_neg (by decide), if_pos (by decide), eq, ec]
    exact chk_self ok
  | regs p n h1 h2 =>
    have ec : ctC 16 (two p ++ two n) = (16, 0, [], [], p, n) := by
      unfold ctC pairC
      rw [listS_four ha ha1 hm hm1]
    show parseQ 16 (p / 256 % 256) (p % 256 :: two n) = _
    have eq : (p / 256 % 256) :: (p % 256 :: two n) = two p ++ two n := rfl
    unfold parseQ
    rw [if_neg (by show ¬ 251 < 3; decide), if_pos (by decide), if_neg (by decide), if_neg (by decide), if_neg (by decide), if_neg (by decide), if_neg (by decide), if_neg (by decide), if_neg (by decide), if_neg (by decide), if_pos (by decide), eq, ec]
    exact chk_self ok
end Go.Proofs.Lx

end

section
/- The check sum tells what is spoilt within 16 bits. -/
namespace Pl
open Go Ev Sx
/-- a loop that keeps what is asked -/
theorem loop_ex {σ R β : Type} {F : (σ → Option R) → σ → Option R} {mk : Nat → β → σ} {N : Nat} {Inv : Nat → β → Prop} {Q : Option R → Prop}
    (hs : ∀ self i b, i < N → Inv i b → ∃ b', Inv (i + 1) b' ∧ F self (mk i b) = self (mk (i + 1) b')) (he : ∀ self b, Inv N b → Q (F self (mk N b))) :
    ∀ (k i : Nat) (b : β) (n : Nat), i + k = N → k < n → Inv i b → Q (loopF F n (mk i b))
  | _, _, _, 0, _, h, _ => by omega
  | 0, i, b, n + 1, h, _, hI => by
    have : i = N := by omega
    subst this
    rw [loopF_succ]
    exact he _ _ hI
  | k + 1, i, b, n + 1, h, hn, hI => by
    obtain ⟨b', h1, h2⟩ := hs (loopF F n) i b (by omega) hI
    rw [loopF_succ, h2]
    exact loop_ex hs he k (i + 1) b' n (by omega) (by omega) h1
/-! ### the check sum, bit by bit -/
def tN (s : Nat) : Nat := s / 2 ^^^ (if s % 2 = 1 then 40961 else 0)
theorem xor_cancel {a b : Nat} (h : a ^^^ b = 0) : a = b := by
  have : a ^^^ (b ^^^ b) = b := by rw [← Nat.xor_assoc, h, Nat.zero_xor]
  rwa [Nat.xor_self, Nat.xor_zero] at this
theorem tN_xor (a b : Nat) : tN (a ^^^ b) = tN a ^^^ tN b := by
  unfold tN
  have hm : (a ^^^ b) % 2 = (a + b) % 2 := by
    have h1 := Nat.testBit_xor a b 0
    rw [Nat.testBit_zero, Nat.testBit_zero, Nat.testBit_zero] at h1
    rcases Nat.mod_two_eq_zero_or_one a with ha | ha <;> rcases Nat.mod_two_eq_zero_or_one b with hb | hb <;> rcases Nat.mod_two_eq_zero_or_one (a ^^^ b) with hx | hx <;> rw [ha, hb, hx] at h1 <;> first | exact absurd h1 (by decide) | omega
  rw [Nat.xor_div_two, hm]
  rcases Nat.mod_two_eq_zero_or_one a with ha | ha <;> rcases Nat.mod_two_eq_zero_or_one b with hb | hb
  · have : (a + b) % 2 = 0 := by omega
    rw [this, ha, hb]
    simp
  · have : (a + b) % 2 = 1 := by omega
    rw [this, ha, hb]
    simp [Nat.xor_assoc]
  · have : (a + b) % 2 = 1 := by omega
    rw [this, ha, hb]
    simp only [if_true, Nat.zero_ne_one, if_false, Nat.xor_zero]
    rw [Nat.xor_assoc, Nat.xor_comm (b / 2), ← Nat.xor_assoc]
  · have : (a + b) % 2 = 0 := by omega
    rw [this, ha, hb]
    simp only [if_true]
    have : a / 2 ^^^ 40961 ^^^ (b / 2 ^^^ 40961) = a / 2 ^^^ b / 2 ^^^ (40961 ^^^ 40961) := by
      rw [Nat.xor_assoc, Nat.xor_assoc, ← Nat.xor_assoc 40961, Nat.xor_comm 40961 (b / 2), Nat.xor_assoc (b / 2)]
    rw [this, Nat.xor_self]
    simp
theorem tN_lt {s : Nat} (h : s < 65536) : tN s < 65536 := by
  unfold tN
  have : (65536 : Nat) = 2 ^ 16 := by decide
  rw [this]
  apply Nat.xor_lt_two_pow
  · omega
  · split <;> decide
theorem tN_inj {s : Nat} (h : s < 65536) (e : tN s = 0) : s = 0 := by
  unfold tN at e
  have := xor_cancel e
  split at this <;> omega
theorem tN_two (m : Nat) : tN (2 * m) = m := by
  unfold tN
  have h1 : 2 * m % 2 = 0 := by omega
  have h2 : 2 * m / 2 = m := by omega
  rw [h1, h2]
  simp
def tP : Nat → Nat → Nat
  | 0, s => s
  | k + 1, s => tP k (tN s)
theorem tP_xor : ∀ (k a b : Nat), tP k (a ^^^ b) = tP k a ^^^ tP k b
  | 0, _, _ => rfl
  | k + 1, a, b => by
    show tP k (tN (a ^^^ b)) = _
    rw [tN_xor, tP_xor k]
    rfl
theorem tP_add : ∀ (m n s : Nat), tP (m + n) s = tP n (tP m s)
  | 0, n, s => by rw [Nat.zero_add]; rfl
  | m + 1, n, s => by
    rw [Nat.add_right_comm]
    exact tP_add m n (tN s)
theorem tP_zero : ∀ k, tP k 0 = 0
  | 0 => rfl
  | k + 1 => tP_zero k
theorem tP_inj : ∀ {k s : Nat}, s < 65536 → tP k s = 0 → s = 0
  | 0, _, _, e => e
  | k + 1, s, h, e => tN_inj h (tP_inj (k := k) (s := tN s) (tN_lt h) e)
theorem tP_lt : ∀ {k s : Nat}, s < 65536 → tP k s < 65536
  | 0, _, h => h
  | k + 1, s, h => tP_lt (k := k) (s := tN s) (tN_lt h)
theorem tP_pow : ∀ (j m : Nat), tP j (2 ^ j * m) = m
  | 0, m => by simp [tP]
  | j + 1, m => by
    show tP j (tN (2 ^ (j + 1) * m)) = m
    have : 2 ^ (j + 1) * m = 2 * (2 ^ j * m) := by rw [Nat.pow_succ, Nat.mul_comm (2 ^ j) 2, Nat.mul_assoc]
    rw [this, tN_two, tP_pow j m]
theorem hi_lo {a b k : Nat} (h : b < 2 ^ k) : 2 ^ k * a + b = 2 ^ k * a ^^^ b := by
  apply Nat.eq_of_testBit_eq
  intro i
  have e0 := Nat.testBit_two_pow_mul_add a (b := 0) (i := k) (Nat.two_pow_pos k) i
  rw [Nat.add_zero] at e0
  rw [Nat.testBit_two_pow_mul_add a h, Nat.testBit_xor, e0]
  by_cases hi : i < k
  · rw [if_pos hi, if_pos hi]; simp
  · rw [if_neg hi, if_neg hi]
    have : b.testBit i = false := Nat.testBit_lt_two_pow (Nat.lt_of_lt_of_le h (Nat.pow_le_pow_right (by decide) (by omega)))
    rw [this]; simp
def stepN (s c : Nat) : Nat := tP 8 (s ^^^ c)
def crcN (s : Nat) (xs : List Nat) : Nat := xs.foldl stepN s
theorem crcN_xor : ∀ (xs : List Nat) (s e : Nat), crcN (s ^^^ e) xs = crcN s xs ^^^ tP (8 * xs.length) e
  | [], s, e => rfl
  | c :: r, s, e => by
    show crcN (tP 8 (s ^^^ e ^^^ c)) r = crcN (tP 8 (s ^^^ c)) r ^^^ _
    have : s ^^^ e ^^^ c = s ^^^ c ^^^ e := by rw [Nat.xor_assoc, Nat.xor_comm e c, ← Nat.xor_assoc]
    rw [this, tP_xor, crcN_xor r, ← tP_add, List.length_cons]
    congr 2
    omega
theorem crcN_flip (pre post : List Nat) (s c d : Nat) : crcN s (pre ++ (c ^^^ d) :: post) = crcN s (pre ++ c :: post) ^^^ tP (8 * (post.length + 1)) d := by
  unfold crcN
  rw [List.foldl_append, List.foldl_append]
  show crcN (tP 8 (_ ^^^ (c ^^^ d))) post = crcN (tP 8 (_ ^^^ c)) post ^^^ _
  rw [← Nat.xor_assoc, tP_xor, crcN_xor, ← tP_add]
  congr 2
  omega
theorem bxor16 {n m : Nat} (hn : n < 65536) (hm : m < 65536) : bxor .u16 (n : Int) (m : Int) = ((n ^^^ m : Nat) : Int) := by
  unfold bxor
  rw [wr16]
  have e1 : (BitVec.ofInt IntKind.u16.bits (n : Int)).toNat = n := by
    rw [BitVec.toNat_ofInt]
    have : ((2 ^ IntKind.u16.bits : Nat) : Int) = 65536 := by decide
    rw [this]
    omega
  have e2 : (BitVec.ofInt IntKind.u16.bits (m : Int)).toNat = m := by
    rw [BitVec.toNat_ofInt]
    have : ((2 ^ IntKind.u16.bits : Nat) : Int) = 65536 := by decide
    rw [this]
    omega
  rw [BitVec.toNat_xor, e1, e2]
  have : n ^^^ m < 2 ^ 16 := Nat.xor_lt_two_pow (by omega) (by omega)
  omega
theorem bxor8 {n m : Nat} (hn : n < 256) (hm : m < 256) : bxor .u8 (n : Int) (m : Int) = ((n ^^^ m : Nat) : Int) := by
  unfold bxor
  rw [wr8]
  have e1 : (BitVec.ofInt IntKind.u8.bits (n : Int)).toNat = n := by
    rw [BitVec.toNat_ofInt]
    have : ((2 ^ IntKind.u8.bits : Nat) : Int) = 256 := by decide
    rw [this]
    omega
  have e2 : (BitVec.ofInt IntKind.u8.bits (m : Int)).toNat = m := by
    rw [BitVec.toNat_ofInt]
    have : ((2 ^ IntKind.u8.bits : Nat) : Int) = 256 := by decide
    rw [this]
    omega
  rw [BitVec.toNat_xor, e1, e2]
  have : n ^^^ m < 2 ^ 8 := Nat.xor_lt_two_pow (by omega) (by omega)
  omega
theorem band15_mod {n : Nat} (hn : n < 65536) : band .u16 (n : Int) 15 = ((n % 16 : Nat) : Int) := by
  unfold band
  rw [wr16]
  have e1 : (BitVec.ofInt IntKind.u16.bits (n : Int)).toNat = n := by
    rw [BitVec.toNat_ofInt]
    have : ((2 ^ IntKind.u16.bits : Nat) : Int) = 65536 := by decide
    rw [this]
    omega
  have e2 : (BitVec.ofInt IntKind.u16.bits 15).toNat = 2 ^ 4 - 1 := by decide
  rw [BitVec.toNat_and, e1, e2, Nat.and_two_pow_sub_one_eq_mod]
  omega
end Pl
namespace Go.Proofs.Lx
open Go Ev Sx Pl
set_option maxRecDepth 100000
theorem tab_tP : ∀ i : Fin 16, tab (i.1 : Int) = ((tP 4 i.1 : Nat) : Int) := by decide +kernel
theorem nib_eq {s : Nat} (h : s < 65536) : nib (s : Int) = ((tP 4 s : Nat) : Int) := by
  unfold nib
  have ht := tab_tP ⟨s % 16, Nat.mod_lt _ (by decide)⟩
  dsimp only at ht
  have e1 : (s : Int) / 16 = ((s / 16 : Nat) : Int) := by omega
  rw [band15_mod h, ht, shr4 _ _ (by decide), e1, bxor16 (by omega) (tP_lt (by omega))]
  have e2 : tP 4 s = s / 16 ^^^ tP 4 (s % 16) := by
    have e : s = 2 ^ 4 * (s / 16) + s % 16 := by omega
    have hx := hi_lo (a := s / 16) (b := s % 16) (k := 4) (by omega)
    rw [← e] at hx
    conv => lhs; rw [hx]
    rw [tP_xor, tP_pow]
  rw [e2]
theorem stepV_eq {s c : Nat} (hs : s < 65536) (hc : c < 256) : stepV (s : Int) (c : Int) = ((stepN s c : Nat) : Int) := by
  unfold stepV stepN
  have h1 : s ^^^ c < 65536 := by
    have : (65536 : Nat) = 2 ^ 16 := by decide
    rw [this]
    exact Nat.xor_lt_two_pow (by omega) (by omega)
  have ec : cvt .u16 (c : Int) = (c : Int) := by rw [cvt16]; omega
  rw [ec, bxor16 hs (by omega), nib_eq h1, nib_eq (tP_lt h1), ← tP_add]
abbrev nat (xs : List Int) : List Nat := xs.map Int.toNat
theorem crcN_lt : ∀ {xs : List Nat} {s : Nat}, s < 65536 → (∀ x ∈ xs, x < 256) → crcN s xs < 65536
  | [], _, h, _ => h
  | c :: r, s, h, hx => crcN_lt (xs := r) (tP_lt (by
      have := hx c (by simp)
      have e : (65536 : Nat) = 2 ^ 16 := by decide
      rw [e]
      exact Nat.xor_lt_two_pow (by omega) (by omega))) (fun x h => hx x (List.mem_cons_of_mem _ h))
abbrev Byt (xs : List Int) : Prop := ∀ x ∈ xs, 0 ≤ x ∧ x ≤ 255
theorem Byt.nat {xs : List Int} (h : Byt xs) : ∀ x ∈ nat xs, x < 256 := by
  intro x hx
  obtain ⟨y, hy, rfl⟩ := List.mem_map.1 hx
  have := h y hy
  omega
theorem sumV_run {xs : List Int} (h : Byt xs) : sumV xs = ((crcN 65535 (nat xs) : Nat) : Int) := by
  have key : ∀ (xs : List Int) (s : Nat), s < 65536 → Byt xs → xs.foldl stepV (s : Int) = ((crcN s (nat xs) : Nat) : Int) := by
    intro xs
    induction xs with
    | nil => exact fun s _ _ => rfl
    | cons c r ih =>
      intro s hs hb
      have hc := hb c (by simp)
      obtain ⟨n, rfl⟩ := Int.eq_ofNat_of_zero_le hc.1
      rw [List.foldl_cons, stepV_eq hs (by omega)]
      refine ih _ (tP_lt ?_) (fun x h => hb x (List.mem_cons_of_mem _ h))
      have e : (65536 : Nat) = 2 ^ 16 := by decide
      rw [e]
      exact Nat.xor_lt_two_pow (by omega) (by omega)
  exact key xs 65535 (by decide) h
/-- where the sum is right, all together leaves nothing -/
theorem check0 {m : List Int} (hb : Byt m) (hl : 2 ≤ m.length) (h : sumV (m.take (m.length - 2)) = numV (m.getD (m.length - 1) 0) (m.getD (m.length - 2) 0)) : crcN 65535 (nat m) = 0 := by
  have g1 : m.length - 2 < m.length := by omega
  have g2 : m.length - 2 + 1 < m.length := by omega
  have e : m = m.take (m.length - 2) ++ [m[m.length - 2], m[m.length - 2 + 1]] := by
    conv => lhs; rw [← List.take_append_drop (m.length - 2) m]
    congr 1
    rw [List.drop_eq_getElem_cons g1, List.drop_eq_getElem_cons g2, List.drop_of_length_le (by omega)]
  have hlo := hb _ (List.getElem_mem g1)
  have hhi := hb _ (List.getElem_mem g2)
  have d1 : m.getD (m.length - 2) 0 = m[m.length - 2] := by rw [List.getD_eq_getElem?_getD, List.getElem?_eq_getElem g1]; rfl
  have d2 : m.getD (m.length - 1) 0 = m[m.length - 2 + 1] := by
    have : m.length - 1 = m.length - 2 + 1 := by omega
    rw [this, List.getD_eq_getElem?_getD, List.getElem?_eq_getElem g2]; rfl
  rw [d1, d2, numV_eq hhi.1 hhi.2 hlo.1 hlo.2, sumV_run (fun x hx => hb x (List.mem_of_mem_take hx))] at h
  rw [e]
  generalize m[m.length - 2] = lo at *
  generalize m[m.length - 2 + 1] = hi at *
  obtain ⟨l, rfl⟩ := Int.eq_ofNat_of_zero_le hlo.1
  obtain ⟨k, rfl⟩ := Int.eq_ofNat_of_zero_le hhi.1
  have hs : crcN 65535 (nat (m.take (m.length - 2))) = 2 ^ 8 * k + l := by omega
  unfold nat at hs ⊢
  rw [List.map_append]
  unfold crcN at hs ⊢
  rw [List.foldl_append, hs]
  show tP 8 (tP 8 ((2 ^ 8 * k + l) ^^^ l) ^^^ k) = 0
  rw [hi_lo (by omega : l < 2 ^ 8), Nat.xor_assoc, Nat.xor_self, Nat.xor_zero, tP_pow, Nat.xor_self, tP_zero]
end Go.Proofs.Lx

end

section
/- PollTakes, as a plain law. -/
namespace Go.Proofs.Lx
open Go Ev Sx Pl
set_option maxRecDepth 100000
theorem shl_bit : ∀ k : Fin 8, shl .u8 1 (k.1 : Int) = ((2 ^ k.1 : Nat) : Int) := by decide +kernel
structure SpI (n a0 : Nat) (c0 : Nat) (k : Nat) (s : Bool × List Int) : Prop where
  l : s.2.length = n
  b : Byt s.2
  p : ∃ P, P < 2 ^ k ∧ (s.1 = true → P ≠ 0) ∧ crcN 65535 (nat s.2) = c0 ^^^ tP (8 * n - a0) P
theorem tP_drop {m k : Nat} (h : k ≤ m) : tP m (2 ^ k) = tP (m - k) 1 := by
  have e : m = k + (m - k) := by omega
  conv => lhs; rw [e]
  rw [tP_add]
  have := tP_pow k 1
  rw [Nat.mul_one] at this
  rw [this]
theorem flip_at {xs : List Int} {j : Nat} {y : Int} (hy : xs[j]? = some y) (hb : Byt xs) {d : Nat} (hd : d < 256) : crcN 65535 (nat (xs.set j ((y.toNat ^^^ d : Nat) : Int))) = crcN 65535 (nat xs) ^^^ tP (8 * (xs.length - j)) d ∧ Byt (xs.set j ((y.toNat ^^^ d : Nat) : Int)) := by
  obtain ⟨hj, hy⟩ := List.getElem?_eq_some_iff.1 hy
  have e1 : xs = xs.take j ++ y :: xs.drop (j + 1) := by
    conv => lhs; rw [← List.take_append_drop j xs]
    rw [List.drop_eq_getElem_cons hj, hy]
  have e2 : xs.set j ((y.toNat ^^^ d : Nat) : Int) = xs.take j ++ ((y.toNat ^^^ d : Nat) : Int) :: xs.drop (j + 1) := List.set_eq_take_append_cons_drop ..|>.trans (if_pos hj)
  have hy2 := hb y (hy ▸ List.getElem_mem hj)
  refine ⟨?_, fun x hx => ?_⟩
  · have e3 : nat xs = nat (xs.take j) ++ y.toNat :: nat (xs.drop (j + 1)) := by
      conv => lhs; rw [e1]
      simp [nat]
    have e4 : nat (xs.set j ((y.toNat ^^^ d : Nat) : Int)) = nat (xs.take j) ++ (y.toNat ^^^ d) :: nat (xs.drop (j + 1)) := by rw [e2]; simp [nat]
    rw [e4, crcN_flip, ← e3]
    have e5 : (nat (xs.drop (j + 1))).length + 1 = xs.length - j := by simp; omega
    rw [e5]
  · rw [e2] at hx
    rcases List.mem_append.1 hx with h | h
    · exact hb x (List.mem_of_mem_take h)
    · rcases List.mem_cons.1 h with h | h
      · have : y.toNat ^^^ d < 2 ^ 8 := Nat.xor_lt_two_pow (by omega) (by omega)
        subst h
        omega
      · exact hb x (List.mem_of_mem_drop h)
theorem spoil_eq {b : List Int} (hb : Byt b) (hl : 1 ≤ b.length) (hl2 : b.length ≤ 1000) {a0 : Nat} (ha : a0 < 8 * b.length) (pattern : Int) :
    ∃ out any, low_Spoil (b, (a0 : Int), pattern, ()) = some (out, any, ()) ∧ out.length = b.length ∧ Byt out ∧ (any = true → crcN 65535 (nat out) ≠ crcN 65535 (nat b)) := by
  have key : ∀ o : Option (As [.sl (.int .u8), .bool]), o = low_Spoil_K1 (a0 : Int) pattern false 0 b → ∃ out any, o = some (out, any, ()) ∧ out.length = b.length ∧ Byt out ∧ (any = true → crcN 65535 (nat out) ≠ crcN 65535 (nat b)) := by
    intro o ho
    subst ho
    unfold low_Spoil_K1
    refine loop_ex (Q := fun o => ∃ out any, o = some (out, any, ()) ∧ out.length = b.length ∧ Byt out ∧ (any = true → crcN 65535 (nat out) ≠ crcN 65535 (nat b))) (mk := fun k (s : Bool × List Int) => ((a0 : Int), pattern, s.1, (k : Int), s.2)) (N := 16) (Inv := SpI b.length a0 (crcN 65535 (nat b))) ?_ ?_ 16 0 (false, b) 18446744073709551616 (by omega) (by omega) ⟨rfl, hb, ⟨0, by decide, fun h => (by cases h), by rw [tP_zero, Nat.xor_zero]⟩⟩
    · rintro self k ⟨any, out⟩ hk ⟨h1, h2, P, h3, h4, h5⟩
      dsimp only at h1 h2 h4 h5
      have stay : SpI b.length a0 (crcN 65535 (nat b)) (k + 1) (any, out) := ⟨h1, h2, P, by rw [Nat.pow_succ]; omega, h4, h5⟩
      have ek : add .i64 (k : Int) 1 = ((k + 1 : Nat) : Int) := succ64 (by omega)
      have ei : add .i64 (a0 : Int) (k : Int) = ((a0 + k : Nat) : Int) := addn64 (by omega)
      have K : ∀ (t : Bool), (t = true → a0 + k < 8 * b.length) → ∃ b', SpI b.length a0 (crcN 65535 (nat b)) (k + 1) b' ∧ low_Spoil_K2 (fun at' pattern any t15 out => self (at', pattern, any, t15, out)) (a0 : Int) pattern any ((a0 + k : Nat) : Int) (k : Int) t out = self ((a0 : Int), pattern, b'.1, ((k + 1 : Nat) : Int), b'.2) := by
        intro t ht
        unfold low_Spoil_K2 low_Spoil_m2
        cases t with
        | false =>
          rw [if_neg (by decide), ek]
          exact ⟨(any, out), stay, rfl⟩
        | true =>
          have hlt := ht rfl
          have hq : quo .i64 ((a0 + k : Nat) : Int) 8 = (((a0 + k) / 8 : Nat) : Int) := quo_nat (d := 8) (by omega)
          have hr : rem ((a0 + k : Nat) : Int) 8 = (((a0 + k) % 8 : Nat) : Int) := rem_nat (d := 8)
          have hj : (a0 + k) / 8 < out.length := by omega
          have hy : out[(a0 + k) / 8]? = some (out[(a0 + k) / 8]'hj) := List.getElem?_eq_getElem hj
          have hyb := h2 _ (List.getElem_mem hj)
          have hpow : 2 ^ ((a0 + k) % 8) < 256 := by
            have : 2 ^ ((a0 + k) % 8) ≤ 2 ^ 7 := Nat.pow_le_pow_right (by decide) (by omega)
            omega
          have hs := shl_bit ⟨(a0 + k) % 8, Nat.mod_lt _ (by decide)⟩
          dsimp only at hs
          have hx : bxor .u8 (out[(a0 + k) / 8]'hj) (shl .u8 1 (((a0 + k) % 8 : Nat) : Int)) = (((out[(a0 + k) / 8]'hj).toNat ^^^ 2 ^ ((a0 + k) % 8) : Nat) : Int) := by
            rw [hs]
            obtain ⟨m, hm⟩ := Int.eq_ofNat_of_zero_le hyb.1
            rw [hm, bxor8 (by omega) hpow]
            simp
          obtain ⟨f1, f2⟩ := flip_at hy h2 hpow
          have hk2 : 2 ^ k ≠ 0 := Nat.ne_of_gt (Nat.two_pow_pos k)
          refine ⟨(true, out.set ((a0 + k) / 8) (((out[(a0 + k) / 8]'hj).toNat ^^^ 2 ^ ((a0 + k) % 8) : Nat) : Int)), ⟨by simp [h1], f2, P ^^^ 2 ^ k, ?_, ?_, ?_⟩, ?_⟩
          · exact Nat.xor_lt_two_pow (by rw [Nat.pow_succ]; omega) (by rw [Nat.pow_succ]; omega)
          · intro _ h0
            have := xor_cancel h0
            omega
          · dsimp only
            rw [f1, h5, Nat.xor_assoc, tP_xor, h1]
            congr 2
            have e1 := tP_drop (m := 8 * (b.length - (a0 + k) / 8)) (k := (a0 + k) % 8) (by omega)
            have e2 := tP_drop (m := 8 * b.length - a0) (k := k) (by omega)
            rw [e1, e2]
            congr 1
            omega
          · rw [if_pos rfl, hq, hr, at_get hy]
            simp only [Option.bind_some]
            rw [need_t (by rw [ge_iff]; omega), hx, ek, Int.toNat_natCast]
      show ∃ b', SpI b.length a0 (crcN 65535 (nat b)) (k + 1) b' ∧ low_Spoil_m1 _ _ _ (a0 : Int) pattern any (k : Int) out = self ((a0 : Int), pattern, b'.1, ((k + 1 : Nat) : Int), b'.2)
      unfold low_Spoil_m1
      have hm : mul .i64 8 (Int.ofNat out.length) = ((8 * b.length : Nat) : Int) := by
        rw [ofNat_eq, h1, mul64 (by omega) (by omega)]
        simp
      rw [if_pos (by rw [lt_iff]; omega), need_t (by rw [ge_iff]; omega), ei, hm]
      split
      · rw [if_pos (by rw [ge_iff]; omega)]
        exact K _ (fun h => by rw [lt_iff] at h; omega)
      · exact K false (fun h => by cases h)
    · rintro self ⟨any, out⟩ ⟨h1, h2, P, h3, h4, h5⟩
      refine ⟨out, any, rfl, h1, h2, fun ha he => ?_⟩
      have hP := h4 ha
      have e : crcN 65535 (nat b) ^^^ tP (8 * b.length - a0) P = crcN 65535 (nat b) := h5.symm.trans he
      have e2 : tP (8 * b.length - a0) P = 0 := by
        have : crcN 65535 (nat b) ^^^ (crcN 65535 (nat b) ^^^ tP (8 * b.length - a0) P) = crcN 65535 (nat b) ^^^ crcN 65535 (nat b) := by rw [e]
        rwa [← Nat.xor_assoc, Nat.xor_self, Nat.zero_xor] at this
      exact hP (tP_inj (by omega) e2)
  show ∃ out any, low_Spoil_m0 low_Spoil_K1 b (a0 : Int) pattern = _ ∧ _
  unfold low_Spoil_m0
  rw [need_small (by omega)]
  exact key _ rfl
end Go.Proofs.Lx

end

section
/- PollTakes, as a plain law: frames of replies. -/
namespace Go.Proofs.Lx
open Go Ev Sx Pl
set_option maxRecDepth 100000
theorem begun_eq {link timeout retries : Int} (h1 : 0 ≤ link) (h2 : 0 ≤ timeout) (h3 : 0 ≤ retries) : law22_begun (link, timeout, retries, ()) = some (begP link timeout retries, true, ()) := by
  show law22_begun_m0 link timeout retries = _
  unfold law22_begun_m0
  rw [new_eq, if_pos (beg_ok h1 h2 h3)]
  rfl
/-! ### the bytes of replies -/
theorem wr_if {c : Bool} {w : Option (List Int × Unit)} {x : List Int} (hw : c = true → w = some (x, ())) :
    (if c = true then Option.bind w fun y => (some (y.1, 0, ()) : Option (As [.sl (.int .u8), .int .i64])) else some ([], 13, ())) = if c = true then some (x, 0, ()) else some ([], 13, ()) := by
  by_cases h : c = true
  · rw [if_pos h, if_pos h, hw h]
    rfl
  · rw [if_neg h, if_neg h]
abbrev RB := Option (As [.sl (.int .u8), .int .i64])
theorem if_step {c : Bool} {A B : RB} {ra rb : Bool} {xa xb : List Int} (h1 : A = if ra = true then some (xa, 0, ()) else some ([], 13, ())) (h2 : B = if rb = true then some (xb, 0, ()) else some ([], 13, ())) :
    (if c = true then A else B) = if (if c = true then ra else rb) = true then some ((if c = true then xa else xb), 0, ()) else some ([], 13, ()) := by
  cases c with
  | true => exact h1
  | false => exact h2
theorem rbytes_eq {r : TR} (h : SmR r) : reply_Bytes (r, ()) = if rightR r = true then some (repB r, 0, ()) else some ([], 13, ()) := by
  show reply_Bytes_m0 r = _
  unfold reply_Bytes_m0 rightR repB
  rw [exR_eq h, bitR_eq h, wordR_eq h, obR_eq h, owR_eq h, ctR_eq h, ctR_eq h]
  simp only [Option.bind_some]
  have wex := wr_if (c := exR r) (fun _ => exB_eq r)
  have wbit := wr_if (c := bitR r) (fun _ => bitB_eq h)
  have wword := wr_if (c := wordR r) (fun _ => wordB_eq h)
  have wob := wr_if (c := obR r) (fun hc => obB_eq hc)
  have wow := wr_if (c := owR r) (fun hc => owB_eq hc)
  have wc1 := wr_if (c := ctR 1968 r) (fun _ => ctB_eq 1968 r)
  have wc2 := wr_if (c := ctR 123 r) (fun _ => ctB_eq 123 r)
  exact if_step wex (if_step wbit (if_step wbit (if_step wword (if_step wword (if_step wword (if_step wob (if_step wow (if_step wc1 (if_step wc2 rfl)))))))))
theorem repB_bytes {r : TR} (h : OkR r) (hr : RR r) : ∀ y ∈ repB r, 0 ≤ y ∧ y ≤ 255 := by
  have app : ∀ {l r : List Int}, (∀ y ∈ l, 0 ≤ y ∧ y ≤ 255) → (∀ y ∈ r, 0 ≤ y ∧ y ≤ 255) → ∀ y ∈ l ++ r, 0 ≤ y ∧ y ≤ 255 := fun h1 h2 y hy => by
    rcases List.mem_append.1 hy with h | h
    · exact h1 y h
    · exact h2 y h
  have con : ∀ {x : Int} {r : List Int}, (0 ≤ x ∧ x ≤ 255) → (∀ y ∈ r, 0 ≤ y ∧ y ≤ 255) → ∀ y ∈ x :: r, 0 ≤ y ∧ y ≤ 255 := fun h1 h2 y hy => by
    rcases List.mem_cons.1 hy with h | h
    · subst h; exact h1
    · exact h2 y h
  have nil : ∀ y ∈ ([] : List Int), 0 ≤ y ∧ y ≤ 255 := fun y hy => by cases hy
  clear h
  cases hr with
  | ex f e h0 h h1 h2 =>
    have ea : add .u8 f 128 = f + 128 := wu8 (by omega) (by omega)
    unfold repB
    rw [if_pos (by rw [nei_iff]; show e ≠ 0; omega)]
    unfold exB
    dsimp only
    rw [ea]
    exact con (by omega) (con (by omega) nil)
  | bits f l hf h1 h2 h3 =>
    have e : repB (f, 0, l, [], 0, 0) = f :: (packN l.length : Int) % 256 :: packS l := by rcases hf with rfl | rfl <;> rfl
    rw [e]
    exact con (by omega) (con (by omega) (pack_bytes l))
  | words f l hf h1 h2 =>
    have e : repB (f, 0, [], l, 0, 0) = f :: 2 * (l.length : Int) % 256 :: l.flatMap two := by rcases hf with rfl | rfl | rfl <;> rfl
    rw [e]
    exact con (by omega) (con (by omega) (flat_bytes l))
  | coil b p =>
    show ∀ y ∈ (5 : Int) :: two p ++ two (if b = true then 65280 else 0), 0 ≤ y ∧ y ≤ 255
    exact app (con (by decide) (two_bytes p)) (two_bytes _)
  | word x p =>
    show ∀ y ∈ (6 : Int) :: two p ++ two x, 0 ≤ y ∧ y ≤ 255
    exact app (con (by decide) (two_bytes p)) (two_bytes _)
  | coils p n h1 h2 =>
    show ∀ y ∈ (15 : Int) :: two p ++ two n, 0 ≤ y ∧ y ≤ 255
    exact app (con (by decide) (two_bytes p)) (two_bytes _)
  | regs p n h1 h2 =>
    show ∀ y ∈ (16 : Int) :: two p ++ two n, 0 ≤ y ∧ y ≤ 255
    exact app (con (by decide) (two_bytes p)) (two_bytes _)
/-! ### their frames -/
def okU (link unit : Int) : Bool := decide (link = 2) || (decide (1 ≤ unit) && decide (unit ≤ 247))
def frR (link unit tx : Int) (r : TR) : List Int := if link = 2 then mbapV tx unit (repB r) else if (decide (1 ≤ unit) && decide (unit ≤ 247)) = true then putV (unit :: repB r) else []
theorem framed_eq {link unit tx : Int} {r : TR} (h : OkR r) (hr : rightR r = true) : law22_framed (link, unit, tx, r, ()) = some (frR link unit tx r, okU link unit, ()) := by
  show law22_framed_m0 link unit tx r = _
  unfold law22_framed_m0 frR okU
  have hl := repB_len (rightR_RR h hr)
  rw [rbytes_eq h.sm, if_pos hr, Option.bind_some]
  dsimp only
  rw [if_neg (by show ¬ nei 0 0 = true; decide)]
  by_cases h2 : link = 2
  · rw [if_pos (eqi_iff.2 h2), mbap_eq (by omega) (by omega), Option.bind_some, if_pos h2, decide_eq_true h2]
    rfl
  · rw [if_neg (fun e => h2 (eqi_iff.1 e)), if_neg h2, decide_eq_false h2]
    cases hu : (decide (1 ≤ unit) && decide (unit ≤ 247)) with
    | true =>
      have hu' := hu
      simp only [Bool.and_eq_true, decide_eq_true_eq] at hu'
      rw [rtub_eq hu'.1 hu'.2 (by omega) (by omega), Option.bind_some]
      rfl
    | false =>
      have e : rtu_Bytes (unit, repB r, ()) = some ([], 2, ()) := by
        show rtu_Bytes_m0 rtu_Bytes_K1 unit (repB r) = _
        unfold rtu_Bytes_m0
        rw [isUnit_eq, hu, Option.bind_some]
        rfl
      rw [e, Option.bind_some]
      rfl
theorem frR_bytes {link unit tx : Int} {r : TR} (h : OkR r) (hr : rightR r = true) (hu : 0 ≤ unit ∧ unit ≤ 255) : Byt (frR link unit tx r) ∧ (frR link unit tx r).length ≤ 300 := by
  have hl := repB_len (rightR_RR h hr)
  have hb := repB_bytes h (rightR_RR h hr)
  unfold frR
  split
  · refine ⟨fun y hy => ?_, by simp [mbapV]; omega⟩
    unfold mbapV at hy
    rcases List.mem_append.1 hy with h | h
    · simp at h
      rcases h with rfl | rfl | rfl | rfl | rfl <;> omega
    · exact hb y h
  · split
    · have hs := sumV_rng (unit :: repB r)
      refine ⟨fun y hy => ?_, by rw [putV_len]; simp; omega⟩
      unfold putV at hy
      rcases List.mem_append.1 hy with h | h
      · rcases List.mem_cons.1 h with h | h
        · subst h; exact hu
        · exact hb y h
      · simp at h
        rcases h with rfl | rfl <;> omega
    · exact ⟨fun y hy => (by cases hy), by decide⟩
theorem mbap_P {tx unit : Int} {pdu : List Int} (h1 : 1 ≤ pdu.length) (h2 : pdu.length ≤ 253) (ht : 0 ≤ tx) (ht2 : tx ≤ 65535) (hu : 0 ≤ unit) (hu2 : unit ≤ 255) (hb : Byt pdu) : mbapP (mbapV tx unit pdu) = ((tx, unit, pdu), 0) := by
  have h := mbap_back h1 h2 ht ht2 hu hu2 hb
  have hall : Byt (mbapV tx unit pdu) := by
    intro y hy
    unfold mbapV at hy
    rcases List.mem_append.1 hy with h | h
    · simp at h
      rcases h with rfl | rfl | rfl | rfl | rfl <;> omega
    · exact hb y h
  rw [mparse_eq (by simp [mbapV]; omega) hall] at h
  have h := Option.some.inj h
  have e1 := congrArg (·.1) h
  have e2 := congrArg (·.2.1) h
  exact Prod.ext e1 e2
theorem rtu_P {unit : Int} {pdu : List Int} (h1 : 1 ≤ pdu.length) (h2 : pdu.length ≤ 253) (hu : 1 ≤ unit) (hu2 : unit ≤ 247) : rtuV (putV (unit :: pdu)) = (unit, pdu, 0) := by
  have h := rtu_back h1 h2 hu hu2
  rw [rtup_eq] at h
  have h := Option.some.inj h
  exact Prod.ext (congrArg (·.1) h) (Prod.ext (congrArg (·.2.1) h) (congrArg (·.2.2.1) h))
/-- what is found in a reply's frame -/
theorem find_tcp {q : TP} {unit tx : Int} {r : TR} (h : OkR r) (hr : rightR r = true) (hl : q.2.1 = 2) (hu : 0 ≤ unit ∧ unit ≤ 255) (ht : 0 ≤ tx ∧ tx ≤ 65535) : findV q (frR 2 unit tx r) = if unit = q.1 ∧ tx = q.2.2.2.2.2.2.1 then some r else none := by
  have hlen := repB_len (rightR_RR h hr)
  unfold findV
  rw [if_pos hl]
  have e : frR 2 unit tx r = mbapV tx unit (repB r) := if_pos rfl
  have hp := mbap_P (tx := tx) (unit := unit) (pdu := repB r) (by omega) (by omega) ht.1 ht.2 hu.1 hu.2 (repB_bytes h (rightR_RR h hr))
  have hpr := rparse_back h (rightR_RR h hr) hr
  unfold tcpV
  rw [e, hp]
  dsimp only
  rw [hpr, if_neg (by decide)]
  by_cases h1 : unit = q.1
  · by_cases h2 : tx = q.2.2.2.2.2.2.1
    · rw [if_neg (fun e => e h1), if_neg (fun e => e h2), if_neg (by show ¬ (0 : Int) ≠ 0; decide), if_pos ⟨h1, h2⟩]
    · rw [if_neg (fun e => e h1), if_pos h2, if_neg (fun e => h2 e.2)]
  · rw [if_pos h1, if_neg (fun e => h1 e.1)]
theorem find_ser {q : TP} {lk unit tx : Int} {r : TR} (h : OkR r) (hr : rightR r = true) (hl : q.2.1 = 1) (hlk : lk = 1) (hu : 1 ≤ unit ∧ unit ≤ 247) : findV q (frR lk unit tx r) = if unit = q.1 then some r else none := by
  have hlen := repB_len (rightR_RR h hr)
  unfold findV
  rw [if_neg (by omega)]
  have e : frR lk unit tx r = putV (unit :: repB r) := by
    unfold frR
    rw [if_neg (by omega), if_pos (by simp only [Bool.and_eq_true, decide_eq_true_eq]; exact hu)]
  have hp := rtu_P (unit := unit) (pdu := repB r) (by omega) (by omega) hu.1 hu.2
  have hpr := rparse_back h (rightR_RR h hr) hr
  unfold serV
  rw [e, hp]
  dsimp only
  rw [hpr, if_neg (by decide)]
  by_cases h1 : unit = q.1
  · rw [if_neg (fun e => e h1), if_neg (by show ¬ (0 : Int) ≠ 0; decide), if_pos h1]
  · rw [if_pos h1, if_neg h1]
/-- nothing is found in a spoilt one -/
theorem find_bad {q : TP} {unit : Int} {pdu bad : List Int} (hl : q.2.1 = 1) (h1 : 1 ≤ pdu.length) (h2 : pdu.length ≤ 253) (hu : 1 ≤ unit ∧ unit ≤ 247) (hb : Byt pdu) (hlen : bad.length = (putV (unit :: pdu)).length) (hbb : Byt bad)
    (hne : crcN 65535 (nat bad) ≠ crcN 65535 (nat (putV (unit :: pdu)))) : findV q bad = none := by
  have hpl := putV_len (unit :: pdu)
  have hs := sumV_rng (unit :: pdu)
  have hpb : Byt (putV (unit :: pdu)) := by
    intro y hy
    unfold putV at hy
    rcases List.mem_append.1 hy with h | h
    · rcases List.mem_cons.1 h with h | h
      · subst h; omega
      · exact hb y h
    · simp at h
      rcases h with rfl | rfl <;> omega
  have good : crcN 65535 (nat (putV (unit :: pdu))) = 0 := by
    apply check0 hpb (by omega)
    have e0 : (putV (unit :: pdu)).length - 2 = (unit :: pdu).length := by omega
    have et : (putV (unit :: pdu)).take (unit :: pdu).length = unit :: pdu := by unfold putV; exact List.take_left
    have e1 : (putV (unit :: pdu)).getD ((putV (unit :: pdu)).length - 1) 0 = sumV (unit :: pdu) / 256 := by
      have : (putV (unit :: pdu)).length - 1 = (unit :: pdu).length + 1 := by omega
      rw [this, List.getD_eq_getElem?_getD]
      unfold putV
      rw [List.getElem?_append_right (by omega)]
      simp
    have e2 : (putV (unit :: pdu)).getD (unit :: pdu).length 0 = sumV (unit :: pdu) % 256 := by
      rw [List.getD_eq_getElem?_getD]
      unfold putV
      rw [List.getElem?_append_right (by omega)]
      simp
    rw [e0, et, e1, e2, numV_eq (by omega) (by omega) (by omega) (by omega)]
    omega
  have hc : (cutV bad).2 = 11 := by
    unfold cutV
    rw [if_neg (by simp at hpl; omega)]
    split
    · rename_i hsum
      exact absurd ((check0 hbb (by simp at hpl; omega) hsum).trans good.symm) hne
    · rfl
  unfold findV
  rw [if_neg (by omega)]
  unfold serV
  have hr : (rtuV bad).2.2 ≠ 0 := by
    unfold rtuV
    split
    · show (10 : Int) ≠ 0; decide
    · rw [if_pos (by rw [hc]; decide)]
      show (cutV bad).2 ≠ 0
      rw [hc]; decide
  rw [if_pos hr]
end Go.Proofs.Lx

end

section
/- PollTakes, as a plain law. -/
namespace Go.Proofs.Lx
open Go Ev Sx Pl
set_option maxRecDepth 100000
section
variable {p : TP} {b : List Int}
/-- nothing is taken from a poll that does not wait -/
theorem take_not {b : List Int} (h : p.2.2.2.2.1 = false) : takeV p b = none := by
  unfold takeV
  rw [h]
  rfl
theorem samep_self (h : OkP p) : poll_Same (tup p, tup p, ()) = some (true, ()) := by
  have h1 := h.a.lw
  have h2 := h.a.lb
  have e : poll_Same (tup p, tup p, ()) = some (decide (tup p = tup p), ()) := samep_eq (by show p.2.2.2.2.2.1.2.2.2.2.1.length ≤ _; omega) (by show p.2.2.2.2.2.1.2.2.2.2.2.length ≤ _; omega)
  rw [e]
  simp
end
@[reducible] def apA {β : Type} (f : Int → Int → Int → Int → List Int → List Bool → β) (a : TA) : β := f a.1 a.2.1 a.2.2.1 a.2.2.2.1 a.2.2.2.2.1 a.2.2.2.2.2
@[reducible] def apR {β : Type} (f : Int → Int → List Bool → List Int → Int → Int → β) (r : TR) : β := f r.1 r.2.1 r.2.2.1 r.2.2.2.1 r.2.2.2.2.1 r.2.2.2.2.2
/-- what the law is about -/
structure Tkn (aa : TA) (rr0 : TR) (q : TP) : Prop extends OkP q where
  u : q.1 = 9
  w : q.2.2.2.2.1 = true
  qa : q.2.2.2.2.2.1 = aa
  ra : rightA aa = true
  ok : OkR rr0
  rr : rightR rr0 = true
section
variable {a : TA} {r : TR} {q : TP} {off att pattern unit : Int} {b : List Int}
theorem Tkn.take_some (h : Tkn a r q) {b : List Int} (hb : Byt b) (hl : b.length ≤ 1000) (hf : findV q b = some r) : poll_Take (q, b, ()) = if fitsV a r = true then some (dropP q, r, true, ()) else some (q, zR, false, ()) := by
  rw [take_eq h.toOkP (by omega) hb]
  unfold takeV
  rw [if_pos h.w, hf, Option.bind_some, h.qa]
  cases fitsV a r <;> rfl
theorem Tkn.take_none (h : Tkn a r q) {b : List Int} (hb : Byt b) (hl : b.length ≤ 1000) (hf : findV q b = none) : poll_Take (q, b, ()) = some (q, zR, false, ()) := by
  rw [take_eq h.toOkP (by omega) hb]
  unfold takeV
  rw [if_pos h.w, hf]
  rfl
theorem Tkn.fits (h : Tkn a r q) : reply_Fits ((a.1, a.2.1, a.2.2.1, a.2.2.2.1, a.2.2.2.2.1, a.2.2.2.2.2), (r.1, r.2.1, r.2.2.1, r.2.2.2.1, r.2.2.2.2.1, r.2.2.2.2.2), ()) = some (fitsV a r, ()) := by
  have hA : OkA a := h.qa ▸ h.a
  exact fits_eq hA h.ok.sm
/-- the frame that is its own -/
theorem Tkn.own (h : Tkn a r q) : findV q (frR q.2.1 q.1 q.2.2.2.2.2.2.1 r) = some r := by
  have hu := h.u
  rcases h.l with hl | hl
  · rw [find_ser h.ok h.rr hl hl (by omega), if_pos rfl]
  · rw [hl, find_tcp h.ok h.rr hl (by omega) ⟨h.x0, h.x1⟩, if_pos ⟨rfl, rfl⟩]
theorem takes_K6 : law22_PollTakes_K6 false = some (true, ()) := by
  show (if false = true then some (false, ()) else Option.bind (law22_awake ()) fun y => some (y.1, ())) = _
  rw [if_neg (by decide), awake22]
  rfl
/-- the last part: over TCP another number, on a line what is spoilt -/
theorem takes_K5 (h : Tkn a r q) (ho : 0 ≤ off ∧ off ≤ 65535) (ha : 0 ≤ att ∧ att ≤ 65535) :
    ap14 (apR (apA (law22_PollTakes_K5 off att pattern (frR q.2.1 q.1 q.2.2.2.2.2.2.1 r)) a) r) q = some (true, ()) := by
  have hu := h.u
  have hqu : 0 ≤ q.1 ∧ q.1 ≤ 255 := by omega
  unfold law22_PollTakes_K5 law22_PollTakes_m5
  dsimp only [ap14, apR, apA]
  rcases h.l with hl | hl
  · rw [if_neg (by rw [eqi_iff]; omega)]
    have hlen := repB_len (rightR_RR h.ok h.rr)
    have hbr := repB_bytes h.ok (rightR_RR h.ok h.rr)
    have ef : frR q.2.1 q.1 q.2.2.2.2.2.2.1 r = putV (q.1 :: repB r) := by
      unfold frR
      rw [if_neg (by omega), if_pos (by simp only [Bool.and_eq_true, decide_eq_true_eq]; omega)]
    obtain ⟨hfb, hfl⟩ := frR_bytes (link := q.2.1) (unit := q.1) (tx := q.2.2.2.2.2.2.1) h.ok h.rr hqu
    have hpl := putV_len (q.1 :: repB r)
    rw [ef] at hfb hfl ⊢
    have hpos : 1 ≤ (putV (q.1 :: repB r)).length := by omega
    have em : mul .i64 8 (Int.ofNat (putV (q.1 :: repB r)).length) = ((8 * (putV (q.1 :: repB r)).length : Nat) : Int) := by
      rw [ofNat_eq, mul64 (by omega) (by omega)]
      simp
    have ec : cvt .i64 att = att := cvt64 (by omega) (by omega)
    obtain ⟨m, hm⟩ := Int.eq_ofNat_of_zero_le ha.1
    rw [em, need_t (by rw [nei_iff]; omega), ec, hm, rem_nat]
    have hlt : m % (8 * (putV (q.1 :: repB r)).length) < 8 * (putV (q.1 :: repB r)).length := Nat.mod_lt _ (by omega)
    obtain ⟨out, any, e1, e2, e3, e4⟩ := spoil_eq hfb hpos (by omega) hlt pattern
    rw [e1, Option.bind_some]
    dsimp only
    cases any with
    | false =>
      have ht : ∃ y, poll_Take (tup q, out, ()) = some y := by
        have e : poll_Take (q, out, ()) = outT q (takeV q out) := take_eq h.toOkP (by omega) e3
        cases hv : takeV q out with
        | none => rw [hv] at e; exact ⟨_, e⟩
        | some r' => rw [hv] at e; exact ⟨_, e⟩
      obtain ⟨y, hy⟩ := ht
      refine (congrArg (fun o => Option.bind o fun y_1 : TP × TR × Bool × Unit => if false = true then law22_PollTakes_K6 y_1.2.2.1 else law22_PollTakes_K6 false) hy).trans ?_
      exact takes_K6
    | true =>
      have hbad := find_bad (q := q) (unit := q.1) (pdu := repB r) hl (by omega) (by omega) (by omega) hbr e2 e3 (e4 rfl)
      have hy : poll_Take (tup q, out, ()) = some (q, zR, false, ()) := h.take_none e3 (by omega) hbad
      refine (congrArg (fun o => Option.bind o fun y_1 : TP × TR × Bool × Unit => if true = true then law22_PollTakes_K6 y_1.2.2.1 else law22_PollTakes_K6 false) hy).trans ?_
      exact takes_K6
  · rw [if_pos (eqi_iff.2 hl), framed_eq h.ok h.rr, Option.bind_some]
    have hx0 := h.x0
    have hx1 := h.x1
    have ea : add .u16 q.2.2.2.2.2.2.1 off = (q.2.2.2.2.2.2.1 + off) % 65536 := wr16 _
    have eo : okU q.2.1 q.1 = true := by unfold okU; rw [decide_eq_true hl]; rfl
    obtain ⟨hfb, hfl⟩ := frR_bytes (link := q.2.1) (unit := q.1) (tx := add .u16 q.2.2.2.2.2.2.1 off) h.ok h.rr hqu
    have hfind := find_tcp (q := q) (unit := q.1) (tx := add .u16 q.2.2.2.2.2.2.1 off) h.ok h.rr hl hqu (by rw [ea]; omega)
    have ht : poll_Take (tup q, frR q.2.1 q.1 (add .u16 q.2.2.2.2.2.2.1 off) r, ()) = if off = 0 then if fitsV a r = true then some (dropP q, r, true, ()) else some (q, zR, false, ()) else some (q, zR, false, ()) := by
      rw [← hl] at hfind
      by_cases h0 : off = 0
      · rw [if_pos h0]
        have e : findV q (frR q.2.1 q.1 (add .u16 q.2.2.2.2.2.2.1 off) r) = some r := by
          rw [hfind, if_pos ⟨rfl, by rw [ea]; omega⟩]
        exact h.take_some hfb (by omega) e
      · rw [if_neg h0]
        have e : findV q (frR q.2.1 q.1 (add .u16 q.2.2.2.2.2.2.1 off) r) = none := by
          rw [hfind, if_neg (fun e => by rw [ea] at e; omega)]
        exact h.take_none hfb (by omega) e
    have htt : ∀ {β : Type} (f : TP × TR × Bool × Unit → Option β), Option.bind (poll_Take ((q.1, q.2.1, q.2.2.1, q.2.2.2.1, q.2.2.2.2.1, (q.2.2.2.2.2.1.1, q.2.2.2.2.2.1.2.1, q.2.2.2.2.2.1.2.2.1, q.2.2.2.2.2.1.2.2.2.1, q.2.2.2.2.2.1.2.2.2.2.1, q.2.2.2.2.2.1.2.2.2.2.2), q.2.2.2.2.2.2.1, q.2.2.2.2.2.2.2.1, q.2.2.2.2.2.2.2.2), frR q.2.1 q.1 (add .u16 q.2.2.2.2.2.2.1 off) r, ())) f = Option.bind (if off = 0 then if fitsV a r = true then some (dropP q, r, true, ()) else some (q, zR, false, ()) else some (q, zR, false, ())) f := fun f => congrArg (fun o => Option.bind o f) ht
    dsimp only
    rw [htt, eo, h.fits, awake22]
    by_cases h0 : off = 0
    · rw [if_pos h0]
      cases hv : fitsV a r with
      | true =>
        rw [if_pos rfl, Option.bind_some, if_pos rfl, if_pos (eqi_iff.2 h0)]
        rfl
      | false =>
        rw [if_neg (by decide), Option.bind_some, if_pos rfl, if_pos (eqi_iff.2 h0)]
        rfl
    · rw [if_neg h0, Option.bind_some, if_pos rfl, if_neg (fun e => h0 (eqi_iff.1 e))]
      rfl
theorem takes_K4 (h : Tkn a r q) (ho : 0 ≤ off ∧ off ≤ 65535) (ha : 0 ≤ att ∧ att ≤ 65535) :
    ap14 (apR (apA (law22_PollTakes_K4 off att pattern (frR q.2.1 q.1 q.2.2.2.2.2.2.1 r) false) a) r) q = some (true, ()) := takes_K5 h ho ha
/-- another unit's frame -/
theorem takes_K2 (h : Tkn a r q) (ho : 0 ≤ off ∧ off ≤ 65535) (ha : 0 ≤ att ∧ att ≤ 65535) (hun : 0 ≤ unit ∧ unit ≤ 255) :
    ap14 (apR (apA (law22_PollTakes_K2 unit off att pattern (frR q.2.1 q.1 q.2.2.2.2.2.2.1 r) false) a) r) q = some (true, ()) := by
  have hu := h.u
  have k5 := takes_K5 (pattern := pattern) h ho ha
  have k3f : ap14 (apR (apA (law22_PollTakes_K3 off att pattern (frR q.2.1 q.1 q.2.2.2.2.2.2.1 r) (frR q.2.1 unit q.2.2.2.2.2.2.1 r) false) a) r) q = some (true, ()) := k5
  unfold law22_PollTakes_K2 law22_PollTakes_m2
  dsimp only [ap14, apR, apA]
  rw [if_neg (by decide)]
  have ef : law22_framed (q.2.1, unit, q.2.2.2.2.2.2.1, (r.1, r.2.1, r.2.2.1, r.2.2.2.1, r.2.2.2.2.1, r.2.2.2.2.2), ()) = some (frR q.2.1 unit q.2.2.2.2.2.2.1 r, okU q.2.1 unit, ()) := framed_eq h.ok h.rr
  rw [ef, Option.bind_some]
  dsimp only
  cases hok : okU q.2.1 unit with
  | false =>
    rw [if_neg (by decide)]
    exact k3f
  | true =>
    rw [if_pos rfl]
    by_cases hne : unit = q.1
    · have e : nei unit q.1 = false := by rw [← Bool.not_eq_true, nei_iff]; exact fun e => e hne
      rw [e]
      exact k3f
    · have e : nei unit q.1 = true := nei_iff.2 hne
      rw [e]
      obtain ⟨hfb, hfl⟩ := frR_bytes (link := q.2.1) (unit := unit) (tx := q.2.2.2.2.2.2.1) h.ok h.rr hun
      have hfind : findV q (frR q.2.1 unit q.2.2.2.2.2.2.1 r) = none := by
        rcases h.l with hl | hl
        · have hu' : 1 ≤ unit ∧ unit ≤ 247 := by
            unfold okU at hok
            rw [hl] at hok
            simpa using hok
          rw [find_ser h.ok h.rr hl hl hu', if_neg hne]
        · rw [hl, find_tcp h.ok h.rr hl hun ⟨h.x0, h.x1⟩, if_neg (fun e => hne e.1)]
      have ht : poll_Take (tup q, frR q.2.1 unit q.2.2.2.2.2.2.1 r, ()) = some (q, zR, false, ()) := h.take_none hfb (by omega) hfind
      have hs : poll_Same (tup q, q, ()) = some (true, ()) := samep_self h.toOkP
      unfold law22_PollTakes_K3 law22_PollTakes_m3
      rw [if_pos rfl]
      refine (congrArg (fun o => Option.bind o fun y : TP × TR × Bool × Unit => if y.2.2.1 = true then ap14 (apR (apA (law22_PollTakes_K4 off att pattern (frR q.2.1 q.1 q.2.2.2.2.2.2.1 r) true) a) r) q else Option.bind (poll_Same (tup q, y.1, ())) fun y => ap14 (apR (apA (law22_PollTakes_K4 off att pattern (frR q.2.1 q.1 q.2.2.2.2.2.2.1 r) (!y.1)) a) r) q) ht).trans ?_
      rw [Option.bind_some]
      dsimp only
      rw [if_neg (by decide), hs, Option.bind_some]
      exact takes_K4 h ho ha
end
abbrev tR : Ty := .pr (.int .u8) (.pr (.int .u8) (.pr (.sl .bool) (.pr (.sl (.int .u16)) (.pr (.int .u16) (.int .u16)))))
theorem okR_of {r : TR} (h : Rw.okV tR r) (hf : fewV r.2.2.2.1 r.2.2.1 = true) : OkR r := by
  obtain ⟨h1, h2, h3, h4, h5, h6⟩ := h
  have hf := few_iff.1 hf
  exact ⟨(ok8 h1).1, (ok8 h1).2, (ok8 h2).1, (ok8 h2).2, fun x hx => ok16 (h4.2 x hx), (ok16 h5).1, (ok16 h5).2, (ok16 h6).1, (ok16 h6).2, by omega, by omega⟩
theorem takes_law {link timeout retries : Int} {a : TA} {r : TR} {unit off att pattern : Int} (h1 : 0 ≤ link) (h2 : 0 ≤ timeout) (h3 : 0 ≤ retries) (ha : Rw.okV tA a) (hr : Rw.okV tR r) (hu : 0 ≤ unit ∧ unit ≤ 255) (ho : 0 ≤ off ∧ off ≤ 65535) (hat : 0 ≤ att ∧ att ≤ 65535) :
    law22_PollTakes (link, timeout, retries, a, r, unit, off, att, pattern, ()) = some (true, ()) := by
  show law22_PollTakes_m0 law22_PollTakes_K1 link timeout retries a r unit off att pattern = _
  unfold law22_PollTakes_m0
  rw [begun_eq h1 h2 h3, Option.bind_some, few_eq, few_eq, Option.bind_some, Option.bind_some]
  have haw : Option.bind (law22_awake ()) (fun y => some (y.1, ())) = (some (true, ()) : Option (As [.bool])) := by rw [awake22]; rfl
  cases hf : fewV a.2.2.2.2.1 a.2.2.2.2.2 with
  | false => exact haw
  | true =>
    cases hf2 : fewV r.2.2.2.1 r.2.2.1 with
    | false => exact haw
    | true =>
      have hA := okA_of ha hf
      have hR := okR_of hr hf2
      rw [right_eq hA, Option.bind_some, rightR_eq hR.sm, Option.bind_some]
      cases hra : rightA a with
      | false => exact haw
      | true =>
        cases hrr : rightR r with
        | false => exact haw
        | true =>
          have hP : OkP (begP link timeout retries) := rangesV_ok (beg_ok h1 h2 h3)
          generalize hp : begP link timeout retries = p at hP
          have hpw : p.2.2.2.2.1 = false := by rw [← hp]; rfl
          have hpu : p.1 = 9 := by rw [← hp]; rfl
          show ap14 (apR (apA (law22_PollTakes_K1 unit off att pattern true false) a) r) p = _
          have hsend : poll_Send (tup p, (a.1, a.2.1, a.2.2.1, a.2.2.2.1, a.2.2.2.2.1, a.2.2.2.2.2), ()) = some (sentP (waitP p a), sentB (waitP p a), 0, ()) := by
            have e : poll_Send (p, a, ()) = _ := send_eq hP hA
            rw [hpw, if_neg (by decide), if_pos hra] at e
            exact e
          have hnr := nextV_rng p.2.1 hP.x0 hP.x1
          have hT : Tkn a r (sentP (waitP p a)) := ⟨⟨hP.u0, hP.u1, hP.l, hP.t0, hP.t1, hP.r0, hP.r1, hA, hnr.1, hnr.2⟩, hpu, rfl, rfl, hra, hR, hrr⟩
          generalize sentP (waitP p a) = q at hsend hT
          generalize sentB (waitP p a) = sb at hsend
          have k2 := takes_K2 (off := off) (att := att) (pattern := pattern) (unit := unit) hT ho hat hu
          have hqu := hT.u
          have ef : law22_framed (q.2.1, q.1, q.2.2.2.2.2.2.1, (r.1, r.2.1, r.2.2.1, r.2.2.2.1, r.2.2.2.2.1, r.2.2.2.2.2), ()) = some (frR q.2.1 q.1 q.2.2.2.2.2.2.1 r, true, ()) := by
            have e : law22_framed (q.2.1, q.1, q.2.2.2.2.2.2.1, r, ()) = _ := framed_eq hR hrr
            have eo : okU q.2.1 q.1 = true := by
              unfold okU
              rw [hqu]
              simp
            rw [eo] at e
            exact e
          obtain ⟨hfb, hfl⟩ := frR_bytes (link := q.2.1) (unit := q.1) (tx := q.2.2.2.2.2.2.1) hR hrr (by omega)
          have ht := hT.take_some hfb (by omega) hT.own
          have n00 : nei (0 : Int) 0 = false := rfl
          have hsr : reply_Same (r, (r.1, r.2.1, r.2.2.1, r.2.2.2.1, r.2.2.2.2.1, r.2.2.2.2.2), ()) = some (true, ()) := by
            have e : reply_Same (r, r, ()) = _ := sameR_eq hR.sm
            rw [decide_eq_true rfl] at e
            exact e
          have hsp : poll_Same (q, q, ()) = some (true, ()) := samep_self hT.toOkP
          have hfit := hT.fits
          unfold law22_PollTakes_K1 law22_PollTakes_m1
          dsimp only [ap14, apR, apA]
          rw [if_neg (by decide), hsend, Option.bind_some]
          dsimp only
          rw [ef, Option.bind_some]
          dsimp only
          rw [ht, hfit]
          have bxx : ∀ x : Bool, neb x x = false := fun x => by cases x <;> rfl
          have edw : (dropP q).2.2.2.2.1 = false := rfl
          cases fitsV a r with
          | true =>
            simp only [if_true, Option.bind_some, n00, Bool.false_eq_true, if_false, Bool.not_true, bxx, hsr, edw]
            exact k2
          | false =>
            simp only [if_true, Option.bind_some, n00, Bool.false_eq_true, if_false, Bool.not_true, Bool.not_false, bxx, hsp]
            exact k2
theorem takes_row (x : As [.int .u8, .int .u8, .int .u8, tA, tR, .int .u8, .int .u16, .int .u16, .int .u16]) (h : Rw.okA [.int .u8, .int .u8, .int .u8, tA, tR, .int .u8, .int .u16, .int .u16, .int .u16] x) : law22_PollTakes x = some (true, ()) :=
  takes_law (link := x.1) (timeout := x.2.1) (retries := x.2.2.1) (a := x.2.2.2.1) (r := x.2.2.2.2.1) (unit := x.2.2.2.2.2.1) (off := x.2.2.2.2.2.2.1) (att := x.2.2.2.2.2.2.2.1) (pattern := x.2.2.2.2.2.2.2.2.1) (ok8 h.1).1 (ok8 h.2.1).1 (ok8 h.2.2.1).1 h.2.2.2.1 h.2.2.2.2.1 (ok8 h.2.2.2.2.2.1) (ok16 h.2.2.2.2.2.2.1) (ok16 h.2.2.2.2.2.2.2.1)
end Go.Proofs.Lx

end
