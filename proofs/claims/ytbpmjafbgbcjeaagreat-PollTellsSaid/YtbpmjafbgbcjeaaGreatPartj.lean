/- Proved in the last of these 11 parts (this is part 10): for every input PollTells returns true: what becomes of a poll, what it sends and which reply it takes, by requests, frames, ticks and drops, and which ones are right, are what the document's answer says. Conditions: those of the given statement, and no others. -/
import Derived.Test.YtbpmjafbgbcjeaaGreatParti
import Derived.Test.YtbpmjafbgbcjeaaGreatParth
set_option linter.unusedVariables false
set_option linter.unusedSimpArgs false
set_option linter.unusedSectionVars false
section
/- The document's answers for polls: replies found and taken. -/
namespace Go.Proofs.Lx
open Go Ev Sx Pl
set_option maxRecDepth 100000
theorem cutV_mem {b : List Int} {x : Int} (h : x ∈ (cutV b).1) : x ∈ b := by
  unfold cutV at h
  split at h
  · cases h
  · split at h
    · exact List.mem_of_mem_take h
    · cases h
theorem rtuV_mem {b : List Int} {x : Int} (h : x ∈ (rtuV b).2.1) : x ∈ b := by
  unfold rtuV at h
  split at h
  · cases h
  · split at h
    · cases h
    · split at h
      · cases h
      · rename_i y r e
        split at h
        · exact cutV_mem (by rw [e]; exact List.mem_cons_of_mem _ h)
        · cases h
theorem rtuV_len (b : List Int) : (rtuV b).2.1.length ≤ 256 := by
  unfold rtuV
  split
  · decide
  · rename_i hl
    split
    · exact Nat.zero_le _
    · rename_i hc
      split
      · decide
      · rename_i y r e
        have := cutV_len (b := b) (by simpa using hc)
        split
        · show r.length ≤ 256
          rw [e] at this
          simp at this
          omega
        · decide
theorem mbapP_mem {b : List Int} {x : Int} (h : x ∈ (mbapP b).1.2.2) : x ∈ b := by
  unfold mbapP at h
  split at h
  · split at h
    · cases h
    · split at h
      · split at h
        · simp only [List.mem_cons]
          simp only [] at h
          simp [h]
        · cases h
      · cases h
  · cases h
theorem mbapP_len (b : List Int) : (mbapP b).1.2.2.length ≤ b.length := by
  unfold mbapP
  split
  · split
    · exact Nat.zero_le _
    · split
      · split
        · simp
          omega
        · exact Nat.zero_le _
      · exact Nat.zero_le _
  · exact Nat.zero_le _
theorem r4reply_eq {unit : Int} {b : List Int} (hb : ∀ x ∈ b, 0 ≤ x ∧ x ≤ 255) : ref04_Reply (unit, b, ()) = if (rtuV b).2.2 ≠ 0 then some (zR, (rtuV b).2.2, ()) else if (rtuV b).1 ≠ unit then some (zR, 10, ()) else some ((parseR (rtuV b).2.1).1, (parseR (rtuV b).2.1).2, ()) := by
  show ref04_Reply_m0 unit b = _
  unfold ref04_Reply_m0
  have hl := rtuV_len b
  rw [r4parse_eq hb, Option.bind_some]
  dsimp only
  simp only [nei_iff]
  rw [rparse3_eq (fun x hx => hb x (rtuV_mem hx)) (by omega)]
  rfl
theorem rtake_eq {p : TP} (h : OkP p) {b : List Int} (hl : b.length ≤ 10000) (hb : ∀ x ∈ b, 0 ≤ x ∧ x ≤ 255) : ref22_Take (p, b, ()) = outT p (takeV p b) := by
  show ref22_Take_m0 ref22_Take_K1 ref22_Take_K2 p b = _
  unfold ref22_Take_m0 takeV
  have e1 : ∀ r, OkR r → ref22_Take_K1 p 0 0 0 0 false 0 0 0 0 0 0 0 0 0 0 0 0 0 0 0 r = outT p (if fitsV p.2.2.2.2.2.1 r = true then some r else none) := fun r hr => by
    unfold ref22_Take_K1 ref22_Take_m1
    rw [r3fits_eq h.a hr, Option.bind_some]
    cases fitsV p.2.2.2.2.2.1 r <;> rfl
  have bnd : ∀ {c : Prop} [Decidable c] {o : Option TR}, ((if c then none else o).bind fun r => if fitsV p.2.2.2.2.2.1 r = true then some r else none) = if c then none else o.bind fun r => if fitsV p.2.2.2.2.2.1 r = true then some r else none := by
    intro c _ o
    by_cases h : c
    · rw [if_pos h, if_pos h]; rfl
    · rw [if_neg h, if_neg h]
  cases hw : p.2.2.2.2.1 with
  | false => rfl
  | true =>
    rw [if_neg (by decide), if_pos rfl]
    rcases h.l with hk | hk
    · have e : findV p b = serV p.1 b := by
        unfold findV
        rw [if_neg (by rw [hk]; decide)]
      rw [if_pos (by rw [hk]; rfl), e, r4reply_eq hb]
      have ho := parseR_ok (b := (rtuV b).2.1) (fun x hx => hb x (rtuV_mem hx)) (by have := rtuV_len b; omega)
      unfold serV
      rw [bnd, bnd, bnd]
      by_cases h1 : (rtuV b).2.2 ≠ 0
      · rw [if_pos h1, if_pos h1, Option.bind_some]
        dsimp only
        rw [if_pos (nei_iff.2 h1)]
        rfl
      · rw [if_neg h1, if_neg h1]
        by_cases h2 : (rtuV b).1 ≠ p.1
        · rw [if_pos h2, if_pos h2]
          rfl
        · rw [if_neg h2, if_neg h2, Option.bind_some]
          dsimp only
          by_cases h3 : (parseR (rtuV b).2.1).2 ≠ 0
          · rw [if_pos h3, if_pos (nei_iff.2 h3)]
            rfl
          · rw [if_neg h3, if_neg (fun hh => h3 (nei_iff.1 hh)), e1 _ ho]
            rfl
    · have e : findV p b = tcpV p.1 p.2.2.2.2.2.2.1 b := by
        unfold findV
        rw [if_pos hk]
      rw [if_neg (by rw [hk]; decide), e, mparse5_eq (by omega) hb, Option.bind_some]
      have hx : ∀ x ∈ (mbapP b).1.2.2, 0 ≤ x ∧ x ≤ 255 := fun x hx => hb x (mbapP_mem hx)
      have hn : (mbapP b).1.2.2.length ≤ 10000 := by have := mbapP_len b; omega
      have ho := parseR_ok hx hn
      have e2 : ∀ t, ref22_Take_K2 t p 0 0 0 0 false 0 0 0 0 0 0 0 0 0 0 0 0 0 0 0 (0, 0, [], [], 0, 0) (mbapP b).1 = outT p (if t = true then none else if (parseR (mbapP b).1.2.2).2 ≠ 0 then none else if fitsV p.2.2.2.2.2.1 (parseR (mbapP b).1.2.2).1 = true then some (parseR (mbapP b).1.2.2).1 else none) := fun t => by
        unfold ref22_Take_K2 ref22_Take_m2
        cases t with
        | true => rfl
        | false =>
          rw [if_neg (by decide), if_neg (by decide), rparse3_eq hx hn, Option.bind_some]
          dsimp only
          by_cases h3 : (parseR (mbapP b).1.2.2).2 ≠ 0
          · rw [if_pos (nei_iff.2 h3), if_pos h3]
            rfl
          · rw [if_neg (fun hh => h3 (nei_iff.1 hh)), if_neg h3, e1 _ ho]
      rw [e2, e2]
      dsimp only
      unfold tcpV
      rw [bnd, bnd, bnd, bnd]
      by_cases h1 : (mbapP b).2 ≠ 0
      · rw [if_pos h1, if_pos (nei_iff.2 h1), if_pos rfl]
      · rw [if_neg h1, if_neg (fun hh => h1 (nei_iff.1 hh))]
        by_cases h2 : (mbapP b).1.2.1 ≠ p.1
        · rw [if_pos h2, if_pos (nei_iff.2 h2), if_pos rfl]
        · rw [if_neg h2, if_neg (fun hh => h2 (nei_iff.1 hh))]
          by_cases h3 : (mbapP b).1.1 ≠ p.2.2.2.2.2.2.1
          · rw [if_pos h3, if_pos (nei_iff.2 h3)]
          · rw [if_neg h3, if_neg (fun hh => h3 (nei_iff.1 hh))]
            by_cases h4 : (parseR (mbapP b).1.2.2).2 ≠ 0
            · rw [if_pos h4, if_pos h4]
            · rw [if_neg h4, if_neg h4]
              rfl
end Go.Proofs.Lx

end

section
/- PollTells: right polls, and what becomes of them. -/
namespace Go.Proofs.Lx
open Go Ev Sx Pl
set_option maxRecDepth 100000
theorem succ63 {n : Nat} (h : n < 9223372036854775807) : add .i64 (n : Int) 1 = ((n + 1 : Nat) : Int) := by rw [add64 (by omega) (by omega)]; rfl
/-- a right poll -/
structure Vp (p : TP) : Prop extends OkP p where
  y : p.2.2.2.2.1 = true → rightA p.2.2.2.2.2.1 = true ∧ 1 ≤ p.2.2.2.2.2.2.2.1 ∧ p.2.2.2.2.2.2.2.1 ≤ p.2.2.1 ∧ 0 ≤ p.2.2.2.2.2.2.2.2 ∧ p.2.2.2.2.2.2.2.2 ≤ p.2.2.2.1
  n : p.2.2.2.2.1 = false → p.2.2.2.2.2.1 = zA ∧ p.2.2.2.2.2.2.2.1 = 0 ∧ p.2.2.2.2.2.2.2.2 = 0
theorem Vp.drop {p : TP} (h : Vp p) : Vp (dropP p) := ⟨⟨h.u0, h.u1, h.l, h.t0, h.t1, h.r0, h.r1, zA_ok, h.x0, h.x1⟩, fun e => (by cases e), fun _ => ⟨rfl, rfl, rfl⟩⟩
theorem Vp.wait {p : TP} {a : TA} (h : Vp p) (ha : OkA a) (hr : rightA a = true) : Vp (sentP (waitP p a)) :=
  ⟨⟨h.u0, h.u1, h.l, h.t0, h.t1, h.r0, h.r1, ha, (nextV_rng _ h.x0 h.x1).1, (nextV_rng _ h.x0 h.x1).2⟩, fun _ => ⟨hr, h.t0, Int.le_refl _, h.r0, Int.le_refl _⟩, fun e => (by cases e)⟩
theorem tick_V {p : TP} (h : Vp p) : poll_Tick (p, ()) = some ((tickV p).1, (tickV p).2.1, (tickV p).2.2, ()) :=
  tick_eq h.toOkP fun hw => by
    obtain ⟨e1, e2, e3, e4, e5⟩ := h.y hw
    have ht := h.t1
    have hr := h.r1
    exact ⟨e1, e2, by omega, e4, by omega⟩
theorem Vp.tick {p : TP} (h : Vp p) : Vp (tickV p).1 := by
  unfold tickV
  by_cases hw : p.2.2.2.2.1 = true
  · obtain ⟨e1, e2, e3, e4, e5⟩ := h.y hw
    rw [if_pos hw]
    by_cases hl : p.2.2.2.2.2.2.2.1 = 1
    · rw [if_pos hl]
      by_cases hg : 0 < p.2.2.2.2.2.2.2.2
      · rw [if_pos hg]
        exact ⟨⟨h.u0, h.u1, h.l, h.t0, h.t1, h.r0, h.r1, h.a, (nextV_rng _ h.x0 h.x1).1, (nextV_rng _ h.x0 h.x1).2⟩, fun _ => ⟨e1, h.t0, Int.le_refl _, by show 0 ≤ p.2.2.2.2.2.2.2.2 - 1; omega, by show p.2.2.2.2.2.2.2.2 - 1 ≤ p.2.2.2.1; omega⟩, fun e => absurd (hw.symm.trans e) (by decide)⟩
      · rw [if_neg hg]
        exact h.drop
    · rw [if_neg hl]
      exact ⟨⟨h.u0, h.u1, h.l, h.t0, h.t1, h.r0, h.r1, h.a, h.x0, h.x1⟩, fun _ => ⟨e1, by show 1 ≤ p.2.2.2.2.2.2.2.1 - 1; omega, by show p.2.2.2.2.2.2.2.1 - 1 ≤ p.2.2.1; omega, e4, e5⟩, fun e => absurd (hw.symm.trans e) (by decide)⟩
  · rw [if_neg hw]
    exact h
def tickN : Nat → TP → TP
  | 0, p => p
  | n + 1, p => (tickV (tickN n p)).1
theorem Vp.ticks {p : TP} (h : Vp p) : ∀ n, Vp (tickN n p)
  | 0 => h
  | n + 1 => (Vp.ticks h n).tick
abbrev TO := Int × TA × List Int × Int
def nextP (p : TP) (x : TO) : TP :=
  if x.1 % 4 = 0 then (if p.2.2.2.2.1 = true then p else if rightA x.2.1 = true then sentP (waitP p x.2.1) else p)
  else if x.1 % 4 = 1 then (match takeV p x.2.2.1 with
    | some _ => dropP p
    | none => p)
  else if x.1 % 4 = 2 then tickN (x.2.2.2 % 31).toNat p
  else dropP p
structure OkO (x : TO) : Prop where
  w0 : 0 ≤ x.1
  w1 : x.1 ≤ 255
  a : OkA x.2.1
  l : x.2.2.1.length ≤ 300
  b : ∀ y ∈ x.2.2.1, 0 ≤ y ∧ y ≤ 255
  t0 : 0 ≤ x.2.2.2
  t1 : x.2.2.2 ≤ 255
theorem Vp.next {p : TP} (h : Vp p) {x : TO} (hx : OkO x) : Vp (nextP p x) := by
  unfold nextP
  split
  · split
    · exact h
    · split
      · rename_i hr
        exact h.wait hx.a hr
      · exact h
  · split
    · split
      · exact h.drop
      · exact h
    · split
      · exact h.ticks _
      · exact h.drop
theorem rem4 {x : Int} (h0 : 0 ≤ x) : rem x 4 = x % 4 := by
  unfold rem
  rw [Int.tmod_eq_emod_of_nonneg h0]
def okO (x : TO) : Bool := decide (x.2.2.1.length ≤ 300) && fewV x.2.1.2.2.2.2.1 x.2.1.2.2.2.2.2
theorem fewO_eq {l : List TO} (hl : l.length ≤ 9223372036854775807) (most : Int) : law22_Few (l, most, ()) = some (l.all okO && decide ((l.length : Int) ≤ most), ()) := by
  have key : ∀ (r : List TO), goL (R := Bool × Unit) (fun (_ : Unit) (x : TO) k => if okO x = true then k () else some (false, ())) (fun _ => some (decide ((l.length : Int) ≤ most), ())) r () = some (r.all okO && decide ((l.length : Int) ≤ most), ()) := by
    intro r
    induction r with
    | nil => rfl
    | cons x r ih =>
      show (if okO x = true then goL _ _ r () else some (false, ())) = _
      rw [ih, List.all_cons]
      cases okO x <;> rfl
  rw [← key]
  show law22_Few_m0 law22_Few_K1 l most = _
  unfold law22_Few_m0 law22_Few_K1
  refine loop_go (xs := l) (mk := fun i _ => (l, most, l, Int.ofNat l.length, (i : Int))) ?_ ?_ l.length 0 () _ (by omega) (by omega)
  · intro self i acc x hx
    have hi := (List.getElem?_eq_some_iff.1 hx).1
    show law22_Few_m1 _ _ _ l most l (Int.ofNat l.length) (i : Int) = _
    unfold law22_Few_m1
    rw [if_pos (by rw [lt_iff, ofNat_eq]; omega), at_get hx, Option.bind_some, few_eq, Option.bind_some]
    have K : ∀ (b : Bool) (s : List TO → Int → List TO → Int → Int → Option (As [.bool])), law22_Few_K2 s l most l (Int.ofNat l.length) (i : Int) b = if b = true then some (false, ()) else s l most l (Int.ofNat l.length) ((i + 1 : Nat) : Int) := fun b s => by
      unfold law22_Few_K2 law22_Few_m2
      rw [succ63 (by omega)]
    rw [K, K]
    unfold okO
    by_cases h3 : x.2.2.1.length ≤ 300
    · rw [if_neg (by rw [gt_iff, ofNat_eq]; omega), decide_eq_true h3, Bool.true_and]
      cases fewV x.2.1.2.2.2.2.1 x.2.1.2.2.2.2.2 <;> rfl
    · rw [if_pos (by rw [gt_iff, ofNat_eq]; omega), decide_eq_false h3]
      rfl
  · intro self acc
    show law22_Few_m1 _ _ _ l most l (Int.ofNat l.length) (l.length : Int) = _
    unfold law22_Few_m1
    rw [if_neg (by rw [lt_iff, ofNat_eq]; omega)]
    rfl
abbrev tO : Ty := .pr (.int .u8) (.pr tA (.pr (.sl (.int .u8)) (.int .u8)))
theorem okO_of {x : TO} (h : Rw.okV tO x) (hf : okO x = true) : OkO x := by
  obtain ⟨h1, h2, h3, h4⟩ := h
  unfold okO at hf
  rw [Bool.and_eq_true] at hf
  exact ⟨(ok8 h1).1, (ok8 h1).2, okA_of h2 hf.2, of_decide_eq_true hf.1, fun y hy => ok8 (h3.2 y hy), (ok8 h4).1, (ok8 h4).2⟩
end Go.Proofs.Lx

end

section
/- PollTells, as a plain law: all that the program tells of polls is what the document tells. -/
namespace Go.Proofs.Lx
open Go Ev Sx Pl
set_option maxRecDepth 100000
def law22_PollTells_K7_F (u4 : List (Int × LCT0 × List Int × Int) → Int → Int → Int × Int × Int × Int × Bool × LCT0 × Int × Int × Int → Int × Int × Int × Int × Bool × LCT0 × Int × Int × Int → Option (As [.bool])) := (fun (self : (List (Int × LCT0 × List Int × Int)) × (Int) × (Int) × (Int) × (Int) × (Int × Int × Int × Int × Bool × LCT0 × Int × Int × Int) × (Int × Int × Int × Int × Bool × LCT0 × Int × Int × Int) × (Int × Int × Int × Int × Bool × LCT0 × Int × Int × Int) × (Int × Int × Int × Int × Bool × LCT0 × Int × Int × Int) → Option (As [.bool])) (s : (List (Int × LCT0 × List Int × Int)) × (Int) × (Int) × (Int) × (Int) × (Int × Int × Int × Int × Bool × LCT0 × Int × Int × Int) × (Int × Int × Int × Int × Bool × LCT0 × Int × Int × Int) × (Int × Int × Int × Int × Bool × LCT0 × Int × Int × Int) × (Int × Int × Int × Int × Bool × LCT0 × Int × Int × Int)) => law22_PollTells_m7 (law22_PollTells_K9 u4 (fun t107 t108 t109 t185 t186 p q was next => self (t107, t108, t109, t185, t186, p, q, was, next))) (law22_PollTells_K8 u4) u4 (fun t107 t108 t109 t185 t186 p q was next => self (t107, t108, t109, t185, t186, p, q, was, next)) s.1 s.2.1 s.2.2.1 s.2.2.2.1 s.2.2.2.2.1 s.2.2.2.2.2.1 s.2.2.2.2.2.2.1 s.2.2.2.2.2.2.2.1 s.2.2.2.2.2.2.2.2)
theorem law22_PollTells_K7_Fe (u4 : List (Int × LCT0 × List Int × Int) → Int → Int → Int × Int × Int × Int × Bool × LCT0 × Int × Int × Int → Int × Int × Int × Int × Bool × LCT0 × Int × Int × Int → Option (As [.bool])) (self : (List (Int × LCT0 × List Int × Int)) × (Int) × (Int) × (Int) × (Int) × (Int × Int × Int × Int × Bool × LCT0 × Int × Int × Int) × (Int × Int × Int × Int × Bool × LCT0 × Int × Int × Int) × (Int × Int × Int × Int × Bool × LCT0 × Int × Int × Int) × (Int × Int × Int × Int × Bool × LCT0 × Int × Int × Int) → Option (As [.bool])) (t107 : List (Int × LCT0 × List Int × Int)) (t108 : Int) (t109 : Int) (t185 : Int) (t186 : Int) (p : Int × Int × Int × Int × Bool × LCT0 × Int × Int × Int) (q : Int × Int × Int × Int × Bool × LCT0 × Int × Int × Int) (was : Int × Int × Int × Int × Bool × LCT0 × Int × Int × Int) (next : Int × Int × Int × Int × Bool × LCT0 × Int × Int × Int) : law22_PollTells_K7_F u4 self (t107, t108, t109, t185, t186, p, q, was, next) = law22_PollTells_m7 (law22_PollTells_K9 u4 (fun t107 t108 t109 t185 t186 p q was next => self (t107, t108, t109, t185, t186, p, q, was, next))) (law22_PollTells_K8 u4) u4 (fun t107 t108 t109 t185 t186 p q was next => self (t107, t108, t109, t185, t186, p, q, was, next)) t107 t108 t109 t185 t186 p q was next := rfl
theorem law22_PollTells_K7_Ke (u4 : List (Int × LCT0 × List Int × Int) → Int → Int → Int × Int × Int × Int × Bool × LCT0 × Int × Int × Int → Int × Int × Int × Int × Bool × LCT0 × Int × Int × Int → Option (As [.bool])) (t107 : List (Int × LCT0 × List Int × Int)) (t108 : Int) (t109 : Int) (t185 : Int) (t186 : Int) (p : Int × Int × Int × Int × Bool × LCT0 × Int × Int × Int) (q : Int × Int × Int × Int × Bool × LCT0 × Int × Int × Int) (was : Int × Int × Int × Int × Bool × LCT0 × Int × Int × Int) (next : Int × Int × Int × Int × Bool × LCT0 × Int × Int × Int) : law22_PollTells_K7 u4 t107 t108 t109 t185 t186 p q was next = loopF (law22_PollTells_K7_F u4) 18446744073709551616 (t107, t108, t109, t185, t186, p, q, was, next) := rfl
def law22_PollTells_K4_F  := (fun (self : (List (Int × LCT0 × List Int × Int)) × (Int) × (Int) × (Int × Int × Int × Int × Bool × LCT0 × Int × Int × Int) × (Int × Int × Int × Int × Bool × LCT0 × Int × Int × Int) → Option (As [.bool])) (s : (List (Int × LCT0 × List Int × Int)) × (Int) × (Int) × (Int × Int × Int × Int × Bool × LCT0 × Int × Int × Int) × (Int × Int × Int × Int × Bool × LCT0 × Int × Int × Int)) => law22_PollTells_m4 (law22_PollTells_K5 (fun t107 t108 t109 p q => self (t107, t108, t109, p, q))) (law22_PollTells_K6 (fun t107 t108 t109 p q => self (t107, t108, t109, p, q))) (law22_PollTells_K7 (fun t107 t108 t109 p q => self (t107, t108, t109, p, q))) (law22_PollTells_K8 (fun t107 t108 t109 p q => self (t107, t108, t109, p, q))) (fun t107 t108 t109 p q => self (t107, t108, t109, p, q)) s.1 s.2.1 s.2.2.1 s.2.2.2.1 s.2.2.2.2)
theorem law22_PollTells_K4_Fe  (self : (List (Int × LCT0 × List Int × Int)) × (Int) × (Int) × (Int × Int × Int × Int × Bool × LCT0 × Int × Int × Int) × (Int × Int × Int × Int × Bool × LCT0 × Int × Int × Int) → Option (As [.bool])) (t107 : List (Int × LCT0 × List Int × Int)) (t108 : Int) (t109 : Int) (p : Int × Int × Int × Int × Bool × LCT0 × Int × Int × Int) (q : Int × Int × Int × Int × Bool × LCT0 × Int × Int × Int) : law22_PollTells_K4_F self (t107, t108, t109, p, q) = law22_PollTells_m4 (law22_PollTells_K5 (fun t107 t108 t109 p q => self (t107, t108, t109, p, q))) (law22_PollTells_K6 (fun t107 t108 t109 p q => self (t107, t108, t109, p, q))) (law22_PollTells_K7 (fun t107 t108 t109 p q => self (t107, t108, t109, p, q))) (law22_PollTells_K8 (fun t107 t108 t109 p q => self (t107, t108, t109, p, q))) (fun t107 t108 t109 p q => self (t107, t108, t109, p, q)) t107 t108 t109 p q := rfl
theorem law22_PollTells_K4_Ke  (t107 : List (Int × LCT0 × List Int × Int)) (t108 : Int) (t109 : Int) (p : Int × Int × Int × Int × Bool × LCT0 × Int × Int × Int) (q : Int × Int × Int × Int × Bool × LCT0 × Int × Int × Int) : law22_PollTells_K4 t107 t108 t109 p q = loopF (law22_PollTells_K4_F) 18446744073709551616 (t107, t108, t109, p, q) := rfl
abbrev ZS := List TO → Int → Int → TP → TP → Option (As [.bool])
theorem eqs_self (a : List Int) : low_Same (a, a, ()) = some (true, ()) := by
  show low_Same_m0 a a = _
  unfold low_Same_m0
  rw [eqs_iff.2 rfl]
theorem rsamep_self {p : TP} (h : Vp p) : ref22_Same (p, p, ()) = some (true, ()) := by
  have h1 := h.a.lw
  have h2 := h.a.lb
  rw [rsamep_eq (by omega) (by omega), decide_eq_true rfl]
section
variable {s : ZS} {l : List TO} {n i : Int} {p q : TP}
theorem tells_K8 (hp : Vp p) (hq : Vp q) : law22_PollTells_K8 s l n i p q p q = s l n (add .i64 i 1) q q := by
  unfold law22_PollTells_K8 law22_PollTells_m8
  rw [rsamep_self hq, Option.bind_some, if_neg (by decide), rsamep_self hp, Option.bind_some]
  rfl
theorem tick_both (h : Vp p) : poll_Tick (p, ()) = some ((tickV p).1, (tickV p).2.1, (tickV p).2.2, ()) ∧ ref22_Tick (p, ()) = some ((tickV p).1, (tickV p).2.1, (tickV p).2.2, ()) := by
  refine ⟨tick_V h, ?_⟩
  rw [rtick_eq h.toOkP, tick_V h]
  intro hw
  obtain ⟨e1, e2, e3, e4, e5⟩ := h.y hw
  have ht := h.t1
  have hr := h.r1
  exact ⟨e1, e2, by omega, e4, by omega⟩
theorem tells_K7 {c : Nat} (hc : c ≤ 31) (hp : Vp p) : law22_PollTells_K7 s l n i (c : Int) 0 p p p p = s l n (add .i64 i 1) (tickN c p) (tickN c p) := by
  rw [law22_PollTells_K7_Ke]
  refine loop_det (F := law22_PollTells_K7_F s) (mk := fun j => (l, n, i, (c : Int), (j : Int), p, tickN j p, p, tickN j p)) (N := c) ?_ ?_ c 0 18446744073709551616 (by omega) (by omega)
  · intro self j hj
    rw [law22_PollTells_K7_Fe]
    have ea : add .u8 (j : Int) 1 = ((j + 1 : Nat) : Int) := by
      unfold add
      rw [wu8 (by omega) (by omega)]
      rfl
    obtain ⟨t1, t2⟩ := tick_both (hp.ticks j)
    have bb : neb (tickV (tickN j p)).2.2 (tickV (tickN j p)).2.2 = false := by cases (tickV (tickN j p)).2.2 <;> rfl
    unfold law22_PollTells_m7
    rw [if_pos (by rw [lt_iff]; omega), t1, Option.bind_some, t2, Option.bind_some]
    dsimp only
    rw [bb, if_neg (by decide), eqs_self, Option.bind_some]
    unfold law22_PollTells_K9 law22_PollTells_m9
    rw [if_neg (by decide), ea]
    rfl
  · intro self
    rw [law22_PollTells_K7_Fe]
    unfold law22_PollTells_m7
    rw [if_neg (by rw [lt_iff]; omega)]
    exact tells_K8 hp (hp.ticks c)
theorem tells_step {i : Nat} {x : TO} (hx : l[i]? = some x) (hok : OkO x) (hp : Vp p) :
    law22_PollTells_m4 (law22_PollTells_K5 s) (law22_PollTells_K6 s) (law22_PollTells_K7 s) (law22_PollTells_K8 s) s l (Int.ofNat l.length) (i : Int) p p = s l (Int.ofNat l.length) (add .i64 (i : Int) 1) (nextP p x) (nextP p x) := by
  have hi := (List.getElem?_eq_some_iff.1 hx).1
  have h1 := hp.a.lw
  have h2 := hp.a.lb
  have hn : Vp (nextP p x) := hp.next hok
  unfold law22_PollTells_m4
  rw [if_pos (by rw [lt_iff, ofNat_eq]; omega), at_get hx, Option.bind_some, rcopy_eq (by omega) (by omega), Option.bind_some, rem4 hok.w0]
  dsimp only
  unfold nextP at hn ⊢
  have esend := send_eq hp.toOkP hok.a
  have esend2 := rsend_eq hp.toOkP hok.a
  have etake := take_eq hp.toOkP (b := x.2.2.1) (by have := hok.l; omega) hok.b
  have etake2 := rtake_eq hp.toOkP (b := x.2.2.1) (by have := hok.l; omega) hok.b
  have K5 : ∀ {q : TP}, Vp q → law22_PollTells_K5 s l (Int.ofNat l.length) (i : Int) false p q p q = s l (Int.ofNat l.length) (add .i64 (i : Int) 1) q q := fun hq => by
    unfold law22_PollTells_K5 law22_PollTells_m5
    rw [if_neg (by decide), tells_K8 hp hq]
  have K6 : ∀ {q : TP}, Vp q → law22_PollTells_K6 s l (Int.ofNat l.length) (i : Int) false p q p q = s l (Int.ofNat l.length) (add .i64 (i : Int) 1) q q := fun hq => by
    unfold law22_PollTells_K6 law22_PollTells_m6
    rw [if_neg (by decide), tells_K8 hp hq]
  by_cases c0 : x.1 % 4 = 0
  · rw [if_pos c0] at hn
    rw [if_pos (eqi_iff.2 c0), if_pos c0, esend2, esend]
    have go : ∀ (q : TP) (b : List Int) (e : Int), Vp q → (Option.bind (some (q, b, e, ())) fun (y_2 : TP × List Int × Int × Unit) => Option.bind (some (q, b, e, ())) fun (y : TP × List Int × Int × Unit) => if nei y_2.2.2.1 y.2.2.1 = true then law22_PollTells_K5 s l (Int.ofNat l.length) (i : Int) true p y.1 p y_2.1 else Option.bind (low_Same (y_2.2.1, y.2.1, ())) fun y_3 => law22_PollTells_K5 s l (Int.ofNat l.length) (i : Int) (!y_3.1) p y.1 p y_2.1) = s l (Int.ofNat l.length) (add .i64 (i : Int) 1) q q := fun q b e hq => by
      rw [Option.bind_some, Option.bind_some]
      dsimp only
      rw [if_neg (by rw [nei_iff]; simp), eqs_self, Option.bind_some]
      exact K5 hq
    by_cases hw : p.2.2.2.2.1 = true
    · simp only [if_pos hw] at hn ⊢
      exact go _ _ _ hn
    · simp only [if_neg hw] at hn ⊢
      by_cases hr : rightA x.2.1 = true
      · simp only [if_pos hr] at hn ⊢
        exact go _ _ _ hn
      · simp only [if_neg hr] at hn ⊢
        exact go _ _ _ hn
  · rw [if_neg c0] at hn
    rw [if_neg (fun h => c0 (eqi_iff.1 h)), if_neg c0]
    by_cases c1 : x.1 % 4 = 1
    · rw [if_pos c1] at hn
      rw [if_pos (eqi_iff.2 c1), if_pos c1, etake2, etake]
      have go : ∀ (q : TP) (r : TR) (k : Bool), SmR r → Vp q → (Option.bind (some (q, r, k, ())) fun (y_2 : TP × TR × Bool × Unit) => Option.bind (some (q, r, k, ())) fun (y : TP × TR × Bool × Unit) => if neb y_2.2.2.1 y.2.2.1 = true then law22_PollTells_K6 s l (Int.ofNat l.length) (i : Int) true p y.1 p y_2.1 else Option.bind (ref03_Same (y_2.2.1, y.2.1, ())) fun y_3 => law22_PollTells_K6 s l (Int.ofNat l.length) (i : Int) (!y_3.1) p y.1 p y_2.1) = s l (Int.ofNat l.length) (add .i64 (i : Int) 1) q q := fun q r k hr hq => by
        rw [Option.bind_some, Option.bind_some]
        dsimp only
        rw [if_neg (by cases k <;> decide), rsameR_eq hr, decide_eq_true rfl, Option.bind_some]
        exact K6 hq
      cases ht : takeV p x.2.2.1 with
      | none =>
        rw [ht] at hn
        exact go _ _ _ zR_sm hn
      | some r =>
        rw [ht] at hn
        have hs : SmR r := by
          unfold takeV at ht
          split at ht
          · obtain ⟨r', q1, q2⟩ := Option.bind_eq_some_iff.1 ht
            split at q2
            · cases q2; exact findV_sm q1
            · cases q2
          · cases ht
        exact go _ _ _ hs hn
    · rw [if_neg c1] at hn
      rw [if_neg (fun h => c1 (eqi_iff.1 h)), if_neg c1]
      by_cases c2 : x.1 % 4 = 2
      · rw [if_pos (eqi_iff.2 c2), if_pos c2]
        have e31 : rem x.2.2.2 31 = (((x.2.2.2 % 31).toNat : Nat) : Int) := by
          unfold rem
          have := hok.t0
          rw [Int.tmod_eq_emod_of_nonneg this]
          omega
        rw [e31]
        exact tells_K7 (by have := hok.t0; omega) hp
      · rw [if_neg (fun h => c2 (eqi_iff.1 h)), if_neg c2, rdrop_eq, drop_eq, Option.bind_some, Option.bind_some]
        exact tells_K8 hp hp.drop
end
/-- which polls are right -/
def rightP (p : TP) : Bool := rangesV p.1 p.2.1 p.2.2.1 p.2.2.2.1 && (if p.2.2.2.2.1 = true then rightA p.2.2.2.2.2.1 && (ge p.2.2.2.2.2.2.2.1 1 && (le p.2.2.2.2.2.2.2.1 p.2.2.1 && (ge p.2.2.2.2.2.2.2.2 0 && le p.2.2.2.2.2.2.2.2 p.2.2.2.1))) else decide (p.2.2.2.2.2.1 = zA) && (eqi p.2.2.2.2.2.2.2.1 0 && eqi p.2.2.2.2.2.2.2.2 0))
theorem rightP_eq {p : TP} (h : OkA p.2.2.2.2.2.1) : poll_Right (p, ()) = some (rightP p, ()) := by
  have h1 := h.lw
  have h2 := h.lb
  show poll_Right_m0 p = _
  unfold poll_Right_m0 rightP
  have es : ask_Same (p.2.2.2.2.2.1, (0, 0, 0, 0, [], []), ()) = some (decide (p.2.2.2.2.2.1 = zA), ()) := sameA_eq (by omega) (by omega)
  rw [ranges_eq, right_eq h, es]
  simp only [Option.bind_some]
  generalize rangesV p.1 p.2.1 p.2.2.1 p.2.2.2.1 = b1
  generalize rightA p.2.2.2.2.2.1 = b2
  generalize decide (p.2.2.2.2.2.1 = zA) = b3
  generalize ge p.2.2.2.2.2.2.2.1 1 = b4
  generalize le p.2.2.2.2.2.2.2.1 p.2.2.1 = b5
  generalize ge p.2.2.2.2.2.2.2.2 0 = b6
  generalize le p.2.2.2.2.2.2.2.2 p.2.2.2.1 = b7
  generalize eqi p.2.2.2.2.2.2.2.1 0 = b8
  generalize eqi p.2.2.2.2.2.2.2.2 0 = b9
  generalize p.2.2.2.2.1 = b0
  cases b1
  · rfl
  cases b0
  · cases b3 <;> cases b8 <;> cases b9 <;> rfl
  · cases b2 <;> cases b4 <;> cases b5 <;> cases b6 <;> cases b7 <;> rfl
theorem rightP_V {p : TP} (h : OkA p.2.2.2.2.2.1) (hx : 0 ≤ p.2.2.2.2.2.2.1 ∧ p.2.2.2.2.2.2.1 ≤ 65535) (hr : rightP p = true) : Vp p := by
  unfold rightP at hr
  rw [Bool.and_eq_true] at hr
  obtain ⟨h1, h2⟩ := hr
  have r := of_decide_eq_true h1
  refine ⟨⟨r.1.1, r.1.2, r.2.1, r.2.2.1.1, r.2.2.1.2, r.2.2.2.1, r.2.2.2.2, h, hx.1, hx.2⟩, fun hw => ?_, fun hw => ?_⟩
  · rw [if_pos hw] at h2
    simp only [Bool.and_eq_true, ge_iff, le_iff] at h2
    exact ⟨h2.1, h2.2.1, h2.2.2.1, h2.2.2.2.1, h2.2.2.2.2⟩
  · rw [if_neg (by rw [hw]; decide)] at h2
    simp only [Bool.and_eq_true, eqi_iff, decide_eq_true_iff] at h2
    exact h2
theorem tells_K4 {l : List TO} {p : TP} (hl : l.length ≤ 60) (hok : ∀ x ∈ l, OkO x) (hp : Vp p) : law22_PollTells_K4 l (Int.ofNat l.length) 0 p p = some (true, ()) := by
  rw [law22_PollTells_K4_Ke]
  have hs : ∀ (self : _ → Option (As [.bool])) (i : Nat) (q : TP) (x : TO), l[i]? = some x → Vp q → law22_PollTells_K4_F self (l, Int.ofNat l.length, (i : Int), q, q) = self (l, Int.ofNat l.length, ((i + 1 : Nat) : Int), nextP q x, nextP q x) := by
    intro self i q x hx hq
    have hi := (List.getElem?_eq_some_iff.1 hx).1
    rw [law22_PollTells_K4_Fe]
    have h := tells_step (s := fun t107 t108 t109 p q => self (t107, t108, t109, p, q)) hx (hok x (List.mem_of_getElem? hx)) hq
    rw [succ64 (by omega)] at h
    exact h
  have he : ∀ (self : _ → Option (As [.bool])) (q : TP), Vp q → law22_PollTells_K4_F self (l, Int.ofNat l.length, (l.length : Int), q, q) = some (true, ()) := by
    intro self q hq
    rw [law22_PollTells_K4_Fe]
    unfold law22_PollTells_m4
    rw [if_neg (by rw [lt_iff, ofNat_eq]; omega), awake22]
    rfl
  exact loop_idx (F := law22_PollTells_K4_F) (xs := l) (mk := fun i q => (l, Int.ofNat l.length, (i : Int), q, q)) (stp := nextP) (fin := fun _ => some (true, ())) (fun _ q => Vp q) hs (fun i q x hx hq => hq.next (hok x (List.mem_of_getElem? hx))) he l.length 0 p 18446744073709551616 (by omega) (by omega) hp
abbrev tP : Ty := .pr (.int .u8) (.pr (.int .u8) (.pr (.int .i64) (.pr (.int .i64) (.pr .bool (.pr tA (.pr (.int .u16) (.pr (.int .i64) (.int .i64))))))))
theorem tells_law {unit link timeout retries : Int} {l : List TO} {o u : TP} (hlen : l.length ≤ 9223372036854775807) (hl : ∀ x ∈ l, Rw.okV tO x) (ho : Rw.okV tP o) (hu : Rw.okV tP u) : law22_PollTells (unit, link, timeout, retries, l, o, u, ()) = some (true, ()) := by
  show law22_PollTells_m0 law22_PollTells_K1 unit link timeout retries l o u = _
  unfold law22_PollTells_m0
  have K1t : law22_PollTells_K1 unit link timeout retries l true o u = some (true, ()) := by
    unfold law22_PollTells_K1 law22_PollTells_m1
    rw [if_pos rfl, awake22]
    rfl
  rw [fewO_eq hlen, Option.bind_some, few_eq, Option.bind_some, few_eq, Option.bind_some]
  dsimp only
  by_cases hc : (l.all okO && decide ((l.length : Int) ≤ 60)) = true
  · rw [if_neg (by rw [hc]; decide)]
    rw [Bool.and_eq_true] at hc
    by_cases hfo : fewV o.2.2.2.2.2.1.2.2.2.2.1 o.2.2.2.2.2.1.2.2.2.2.2 = true
    · rw [if_neg (by rw [hfo]; decide)]
      by_cases hfu : fewV u.2.2.2.2.2.1.2.2.2.2.1 u.2.2.2.2.2.1.2.2.2.2.2 = true
      · rw [hfu]
        show law22_PollTells_K1 unit link timeout retries l false o u = _
        have hao : OkA o.2.2.2.2.2.1 := okA_of ho.2.2.2.2.2.1 hfo
        have hau : OkA u.2.2.2.2.2.1 := okA_of hu.2.2.2.2.2.1 hfu
        have w1 := hao.lw
        have w2 := hao.lb
        have hlen60 : l.length ≤ 60 := by have := of_decide_eq_true hc.2; omega
        have hok : ∀ x ∈ l, OkO x := fun x hx => okO_of (hl x hx) (List.all_eq_true.1 hc.1 x hx)
        unfold law22_PollTells_K1 law22_PollTells_m1
        rw [if_neg (by decide), rnew_eq, rright22_eq hao, rightP_eq hao, samep_eq (by omega) (by omega), rsamep_eq (by omega) (by omega), new_eq]
        have bb : ∀ b : Bool, neb b b = false := fun b => by cases b <;> rfl
        have K3 : ∀ (e : Int) (p : TP), (e = 0 → Vp p) → law22_PollTells_K3 l e p p = some (true, ()) := fun e p hp => by
          unfold law22_PollTells_K3 law22_PollTells_m3
          by_cases h0 : e = 0
          · rw [if_neg (by rw [nei_iff]; simp [h0])]
            exact tells_K4 hlen60 hok (hp h0)
          · rw [if_pos (nei_iff.2 h0), awake22]
            rfl
        have K2 : ∀ (e : Int) (p : TP), (e = 0 → Vp p) → law22_PollTells_K2 l e false o p p = some (true, ()) := fun e p hp => by
          unfold law22_PollTells_K2 law22_PollTells_m2
          rw [if_neg (by decide), rright22_eq hao, rightP_eq hao, Option.bind_some]
          by_cases hr : rightP o = true
          · rw [if_pos hr]
            exact K3 0 o fun _ => rightP_V hao (ok16 ho.2.2.2.2.2.2.1) hr
          · rw [if_neg hr]
            exact K3 e p hp
        by_cases hg : rangesV unit link timeout retries = true
        · rw [if_pos hg]
          simp only [Option.bind_some]
          rw [if_neg (by rw [nei_iff]; simp), bb, if_neg (by decide), bb]
          exact K2 0 _ fun _ => ⟨rangesV_ok hg, fun h => (by cases h), fun _ => ⟨rfl, rfl, rfl⟩⟩
        · rw [if_neg hg]
          simp only [Option.bind_some]
          rw [if_neg (by rw [nei_iff]; simp), bb, if_neg (by decide), bb]
          exact K2 2 _ fun h => by cases h
      · rw [Bool.not_eq_true] at hfu
        rw [hfu]
        exact K1t
    · rw [if_pos (by simp only [Bool.not_eq_true] at hfo; rw [hfo]; rfl)]
      exact K1t
  · rw [if_pos (by simp only [Bool.not_eq_true] at hc; rw [hc]; rfl)]
    exact K1t
theorem tells_row (x : As [.int .u8, .int .u8, .int .i64, .int .i64, .sl tO, tP, tP]) (h : Rw.okA [.int .u8, .int .u8, .int .i64, .int .i64, .sl tO, tP, tP] x) : law22_PollTells x = some (true, ()) :=
  tells_law (unit := x.1) (link := x.2.1) (timeout := x.2.2.1) (retries := x.2.2.2.1) (l := x.2.2.2.2.1) (o := x.2.2.2.2.2.1) (u := x.2.2.2.2.2.2.1) h.2.2.2.2.1.1 h.2.2.2.2.1.2 h.2.2.2.2.2.1 h.2.2.2.2.2.2.1
end Go.Proofs.Lx

end
