/- Proved in the last of these 11 parts (this is part 10): StatusForward: whatever the records and the numbers that wait, the law returns true.. Conditions: those of the given statement, and no others. -/
import Derived.Test.YtlpbpoknpjgnbaaDoorParti
import Derived.Test.YtlpbpoknpjgnbaaDoorParte
import Derived.Stop.LaidErr
import Derived.Lib.LaidTab
set_option linter.unusedVariables false
set_option linter.unusedSimpArgs false
set_option linter.unusedSectionVars false
section
set_option maxRecDepth 100000
namespace Go.Proofs.Lx
open Go Ev Sx Pl
def fineF (J : Bool -> Option (As [.bool])) (was now : List UInt8) : Option (As [.bool]) := if eqs was now = true then J true else Option.bind (qd3_ (now, was, ())) fun (y_2 : Bool × Unit) => if y_2.fst = true then Option.bind (qd4_ (now, [32, 100, 111, 110, 101], ())) fun (y_3 : Bool × Unit) => if y_3.fst = true then J true else if eqs was [119, 97, 105, 116, 105, 110, 103] = true then if eqs now [99, 111, 109, 109, 105, 116, 116, 101, 100] = true then J true else J (eqs now [97, 98, 111, 114, 116, 101, 100]) else if eqs was [114, 117, 110, 110, 105, 110, 103] = true then if eqs now [99, 111, 109, 109, 105, 116, 116, 101, 100] = true then J true else J (eqs now [97, 98, 111, 114, 116, 101, 100]) else J false else if eqs was [119, 97, 105, 116, 105, 110, 103] = true then if eqs now [99, 111, 109, 109, 105, 116, 116, 101, 100] = true then J true else J (eqs now [97, 98, 111, 114, 116, 101, 100]) else if eqs was [114, 117, 110, 110, 105, 110, 103] = true then if eqs now [99, 111, 109, 109, 105, 116, 116, 101, 100] = true then J true else J (eqs now [97, 98, 111, 114, 116, 101, 100]) else J false
theorem fine_same (J : Bool -> Option (As [.bool])) (w : List UInt8) : fineF J w w = J true := by
  unfold fineF
  rw [if_pos (eqs_iff.2 rfl)]
theorem fine_12 (J : Bool -> Option (As [.bool])) : fineF J wRun wCom = J true := rfl
theorem fine_13 (J : Bool -> Option (As [.bool])) : fineF J wRun wAbo = J true := rfl
theorem fine_62 (J : Bool -> Option (As [.bool])) : fineF J wWai wCom = J true := rfl
theorem fine_63 (J : Bool -> Option (As [.bool])) : fineF J wWai wAbo = J true := rfl
theorem fine_24 (J : Bool -> Option (As [.bool])) : fineF J wCom wComD = J true := rfl
theorem fine_35 (J : Bool -> Option (As [.bool])) : fineF J wAbo wAboD = J true := rfl
theorem fine_step (J : Bool -> Option (As [.bool])) {waits : List Int} {j j' : TJob} (h1 : j'.1 = j.1) (hs : stepC j.2.2.2 j'.2.2.2) : fineF J (nameS (stW waits j)) (nameS (stW waits j')) = J true := by
  rcases hs with h | ⟨h, h' | h'⟩ | ⟨h | h, h'⟩
  · have : stW waits j' = stW waits j := by unfold stW; rw [h1, h]
    rw [this]
    exact fine_same J _
  · have e2 : stW waits j' = 2 := by unfold stW; rw [if_neg (by omega), h']
    rw [e2]
    by_cases hm : j.1 ∈ waits
    · have e1 : stW waits j = 6 := by unfold stW; rw [if_pos ⟨h, hm⟩]
      rw [e1]
      exact fine_62 J
    · have e1 : stW waits j = 1 := by unfold stW; rw [if_neg (fun e => hm e.2), h]
      rw [e1]
      exact fine_12 J
  · have e2 : stW waits j' = 3 := by unfold stW; rw [if_neg (by omega), h']
    rw [e2]
    by_cases hm : j.1 ∈ waits
    · have e1 : stW waits j = 6 := by unfold stW; rw [if_pos ⟨h, hm⟩]
      rw [e1]
      exact fine_63 J
    · have e1 : stW waits j = 1 := by unfold stW; rw [if_neg (fun e => hm e.2), h]
      rw [e1]
      exact fine_13 J
  · have e2 : stW waits j' = 4 := by unfold stW; rw [if_neg (by omega), h', h]; rfl
    have e1 : stW waits j = 2 := by unfold stW; rw [if_neg (by omega), h]
    rw [e1, e2]
    exact fine_24 J
  · have e2 : stW waits j' = 5 := by unfold stW; rw [if_neg (by omega), h', h]; rfl
    have e1 : stW waits j = 3 := by unfold stW; rw [if_neg (by omega), h]
    rw [e1, e2]
    exact fine_35 J
theorem good_state {l : List TJob} (hg : Good l) : ∀ j ∈ l, 1 ≤ j.2.2.2 ∧ j.2.2.2 ≤ 5 := fun j hj => (rightJ_mem hg.1 j hj).2.2
theorem good_dom {l : List TJob} (hg : Good l) : ∀ j ∈ l, DomJ j := fun j hj => ⟨(hg.2 j hj).1, (hg.2 j hj).2.1, (good_state hg j hj).1, (good_state hg j hj).2⟩
theorem fw_K3 (u2 : List Int -> List TJob -> List TRec -> Int -> Int -> Option (As [.bool])) {waits : List Int} (hw : waits.length ≤ 60) {jobs next : List TJob} (hl : jobs.length ≤ 100) (hn : next.length ≤ 101) (hg : Good jobs) (hg2 : Good next) (ho : Onto jobs next)
    {l : List TRec} {n i : Int} : q8u_ u2 waits jobs next l n i jobs (Int.ofNat jobs.length) 0 = u2 waits next l n (add .i64 i 1) := by
  unfold q8u_
  refine (loop_idx (xs := jobs) (stp := fun (_ : Unit) _ => ()) (mk := fun k (_ : Unit) => (waits, jobs, next, l, n, i, jobs, Int.ofNat jobs.length, (k : Int))) (fin := fun _ => u2 waits next l n (add .i64 i 1)) (fun _ _ => True) ?_ ?_ ?_ jobs.length 0 () _ (by omega) (by omega) trivial)
  · intro self k _ j hj _
    have hk := (List.getElem?_eq_some_iff.1 hj).1
    obtain ⟨j', hj', e1, _, hs⟩ := ho.2 k j hj
    obtain ⟨g1, g2⟩ := good_state hg j (List.mem_of_getElem? hj)
    obtain ⟨g3, g4⟩ := good_state hg2 j' (List.mem_of_getElem? hj')
    show q7p_ _ _ _ waits jobs next l n i jobs (Int.ofNat jobs.length) (k : Int) = _
    unfold q7p_
    have t1 := tell_yes (rightJ_rise hg.1).1 (by omega) (waits := waits) (by omega) hj g1 g2
    have t2 := tell_yes (rightJ_rise hg2.1).1 (by omega) (waits := waits) (by omega) hj' g3 g4
    rw [e1] at t2
    rw [if_pos (by rw [q2m_, q1b_]; omega), at_get hj, Option.bind_some, t1, Option.bind_some, t2, Option.bind_some]
    refine (fine_step (fun b => q8w_ u2 (fun waits jobs next t32 t33 t34 t51 t52 t53 => self (waits, jobs, next, t32, t33, t34, t51, t52, t53)) waits jobs next b l n i jobs (Int.ofNat jobs.length) (k : Int)) (waits := waits) e1 hs).trans ?_
    unfold q8w_ qcu_
    rw [if_neg (by decide), q4d_ (by omega)]
  · exact fun _ _ _ _ _ => trivial
  · intro self _ _
    show q7p_ _ _ _ waits jobs next l n i jobs (Int.ofNat jobs.length) (jobs.length : Int) = _
    unfold q7p_
    rw [if_neg (by rw [q2m_, q1b_]; omega)]
end Go.Proofs.Lx
end
section
set_option maxRecDepth 100000
namespace Go.Proofs.Lx
open Go Ev Sx Pl
theorem awake28 : qba_ () = some (true, ()) := by kernel_rfl
theorem fmt_eq {j : TJob} (h : DomJ j) : q9a_ (cvt .u64 j.1, 10, ()) = some (dg j.1.toNat, ()) := by
  obtain ⟨h0, h1, _⟩ := h
  have e : cvt .u64 j.1 = j.1 := by unfold cvt; rw [wu64 (by omega) (by omega)]
  rw [e]
  show q99_ j.1 10 = _
  unfold q99_
  have : qbu_ (j.1, 10, ()) = some (dg j.1.toNat, ()) := by
    show (if (0 ≤ j.1 ∧ j.1 < 18446744073709551616) ∧ (10 : Int) = 10 then some (dF 19 j.1.toNat, ()) else none) = _
    rw [if_pos ⟨⟨by omega, by omega⟩, rfl⟩, dF_dg (by omega)]
  rw [this]
  rfl
theorem fw_K9 (u6 : List Int -> List TJob -> List UInt8 -> List TJob -> Int -> Int -> Option (As [.bool])) {waits : List Int} (hw : waits.length ≤ 60) {jobs : List TJob} {want told : List UInt8} {op : Bool} {t : List TJob} {n i : Int} {j : TJob} :
    q8o_ u6 waits jobs want told op false t n i waits (Int.ofNat waits.length) 0 j = q3v_ u6 waits jobs want told op (decide (j.1 ∈ waits)) t n i j := by
  unfold q8o_
  refine (loop_idx (xs := waits) (stp := fun (b : Bool) (x : Int) => if b = true then true else eqi x j.1) (mk := fun k (b : Bool) => (waits, jobs, want, told, op, b, t, n, i, waits, Int.ofNat waits.length, (k : Int), j)) (fin := fun b => q3v_ u6 waits jobs want told op b t n i j) (fun _ _ => True) ?_ ?_ ?_ waits.length 0 false _ (by omega) (by omega) trivial).trans ?_
  · intro self k b x hx _
    have hk := (List.getElem?_eq_some_iff.1 hx).1
    show q7r_ _ _ _ waits jobs want told op b t n i waits (Int.ofNat waits.length) (k : Int) j = _
    unfold q7r_
    rw [if_pos (by rw [q2m_, q1b_]; omega), at_get hx, Option.bind_some, q4d_ (by omega)]
    cases b <;> rfl
  · exact fun _ _ _ _ _ => trivial
  · intro self b _
    show q7r_ _ _ _ waits jobs want told op b t n i waits (Int.ofNat waits.length) (waits.length : Int) j = _
    unfold q7r_
    rw [if_neg (by rw [q2m_, q1b_]; omega)]
  · rw [List.drop_zero]
    have gen : ∀ (l : List Int) (b : Bool), l.foldl (fun (b : Bool) (x : Int) => if b = true then true else eqi x j.1) b = (b || decide (j.1 ∈ l)) := by
      intro l
      induction l with
      | nil => intro b; simp
      | cons x l ih =>
        intro b
        rw [List.foldl_cons, ih]
        cases b with
        | true => rfl
        | false =>
          rw [if_neg (by decide), Bool.false_or]
          by_cases h : x = j.1
          · rw [q4g_.2 h, Bool.true_or, decide_eq_true (by simp [h])]
          · have : eqi x j.1 = false := by rw [<- Bool.not_eq_true, q4g_]; exact h
            rw [this, Bool.false_or, Bool.eq_iff_iff, decide_eq_true_iff, decide_eq_true_iff, List.mem_cons]
            exact ⟨.inr, fun e => e.elim (fun e => absurd e.symm h) id⟩
    rw [gen, Bool.false_or]
theorem stW_cases {waits : List Int} {j : TJob} (h1 : 1 ≤ j.2.2.2) (h2 : j.2.2.2 ≤ 5) :
    (j.2.2.2 = 1 ∧ j.1 ∈ waits ∧ nameS (stW waits j) = wWai) ∨ (j.2.2.2 = 1 ∧ j.1 ∉ waits ∧ nameS (stW waits j) = wRun) ∨ (j.2.2.2 ≠ 1 ∧ eqs (nameS (stW waits j)) wWai = false ∧ eqs (nameS (stW waits j)) wRun = false) := by
  by_cases h : j.2.2.2 = 1
  · by_cases hm : j.1 ∈ waits
    · refine .inl ⟨h, hm, ?_⟩
      unfold stW
      rw [if_pos ⟨h, hm⟩]
      rfl
    · refine .inr (.inl ⟨h, hm, ?_⟩)
      unfold stW
      rw [if_neg (fun e => hm e.2), h]
      rfl
  · refine .inr (.inr ⟨h, ?_⟩)
    have e : stW waits j = j.2.2.2 := by unfold stW; rw [if_neg (fun e => h e.1)]
    rw [e]
    rcases (by omega : j.2.2.2 = 2 ∨ j.2.2.2 = 3 ∨ j.2.2.2 = 4 ∨ j.2.2.2 = 5) with h | h | h | h <;> rw [h] <;> exact ⟨rfl, rfl⟩
theorem fw_K4 {waits : List Int} (hw : waits.length ≤ 60) {jobs : List TJob} (hl : jobs.length ≤ 100) (hg : Good jobs) : q8p_ waits jobs = some (true, ()) := by
  unfold q8p_ qcx_ qa9_
  have aw : (Option.bind (qba_ ()) fun (y : Bool × Unit) => some (y.1, ())) = some (true, ()) := by rw [awake28]; rfl
  refine (loop_idx (xs := jobs) (stp := fun (o : List UInt8) j => o ++ lineH waits j) (mk := fun k (o : List UInt8) => (waits, jobs, o, jobs, Int.ofNat jobs.length, (k : Int))) (fin := fun o => q8t_ waits jobs o) (fun k o => o.length ≤ 26 * k) ?_ ?_ ?_ jobs.length 0 [] _ (by omega) (by omega) (by simp)).trans ?_
  · intro self k o j hj hI
    have hk := (List.getElem?_eq_some_iff.1 hj).1
    have hD := good_dom hg j (List.mem_of_getElem? hj)
    obtain ⟨g1, g2⟩ := good_state hg j (List.mem_of_getElem? hj)
    obtain ⟨n1, n2⟩ := lineH_len (waits := waits) hD
    have t1 := tell_yes (rightJ_rise hg.1).1 (by omega) (waits := waits) (by omega) hj g1 g2
    show q7q_ _ _ _ waits jobs o jobs (Int.ofNat jobs.length) (k : Int) = _
    unfold q7q_
    rw [if_pos (by rw [q2m_, q1b_]; omega), at_get hj, Option.bind_some, t1, Option.bind_some]
    dsimp only
    have K11 : q8d_ (fun waits jobs want t100 t101 t102 => self (waits, jobs, want, t100, t101, t102)) waits jobs o (nameS (stW waits j)) jobs (Int.ofNat jobs.length) (k : Int) false j = self (waits, jobs, o ++ lineH waits j, jobs, Int.ofNat jobs.length, ((k + 1 : Nat) : Int)) := by
      unfold q8d_ qbw_
      rw [if_neg (by decide), fmt_eq hD, Option.bind_some]
      dsimp only
      rw [q8x_ (by omega), q8x_ (by simp only [List.length_append, List.length_cons, List.length_nil]; omega), q8x_ (by simp only [List.length_append, List.length_cons, List.length_nil]; omega), q8x_ (by simp only [List.length_append, List.length_cons, List.length_nil]; omega), q4d_ (by omega)]
      rfl
    have K7 : ∀ op : Bool, q8v_ (fun waits jobs want t100 t101 t102 => self (waits, jobs, want, t100, t101, t102)) waits jobs o (nameS (stW waits j)) op jobs (Int.ofNat jobs.length) (k : Int) j =
        q3v_ (fun waits jobs want t100 t101 t102 => self (waits, jobs, want, t100, t101, t102)) waits jobs o (nameS (stW waits j)) op (decide (j.1 ∈ waits)) jobs (Int.ofNat jobs.length) (k : Int) j := fun op => by
      unfold q8v_ qcv_
      exact fw_K9 _ hw
    have w1 : ([119, 97, 105, 116, 105, 110, 103] : List UInt8) = wWai := rfl
    have w2 : ([114, 117, 110, 110, 105, 110, 103] : List UInt8) = wRun := rfl
    rw [w1, w2]
    rcases stW_cases (waits := waits) g1 g2 with ⟨c1, c2, c3⟩ | ⟨c1, c2, c3⟩ | ⟨c1, c2, c3⟩
    · rw [if_pos (eqs_iff.2 c3), K7]
      unfold q3v_ q8b_
      rw [w1, q4g_.2 c1, if_neg (by decide), if_pos rfl, eqs_iff.2 c3, decide_eq_true c2]
      exact K11
    · have e1 : eqs (nameS (stW waits j)) wWai = false := by rw [c3]; rfl
      rw [e1, if_neg (by decide), eqs_iff.2 c3, K7]
      unfold q3v_ q8b_
      rw [w1, q4g_.2 c1, if_neg (by decide), if_pos rfl, e1, decide_eq_false c2]
      exact K11
    · rw [c2, if_neg (by decide), c3, K7]
      have e1 : eqi j.2.2.2 1 = false := by rw [<- Bool.not_eq_true, q4g_]; exact c1
      unfold q3v_ q8b_
      rw [e1, if_neg (by decide), if_neg (by decide)]
      exact K11
  · intro k o j hj hI
    have hD := good_dom hg j (List.mem_of_getElem? hj)
    obtain ⟨n1, n2⟩ := lineH_len (waits := waits) hD
    show (o ++ lineH waits j).length ≤ 26 * (k + 1)
    unfold lineH
    simp only [List.length_append, List.length_cons, List.length_nil]
    omega
  · intro self o hI
    show q7q_ _ _ _ waits jobs o jobs (Int.ofNat jobs.length) (jobs.length : Int) = _
    unfold q7q_
    rw [if_neg (by rw [q2m_, q1b_]; omega)]
  · have ef : ∀ (l : List TJob) (o : List UInt8), l.foldl (fun o j => o ++ lineH waits j) o = o ++ l.flatMap (lineH waits) := by
      intro l
      induction l with
      | nil => intro o; simp
      | cons j l ih => intro o; rw [List.foldl_cons, ih, List.flatMap_cons, List.append_assoc]
    rw [List.drop_zero, ef, List.nil_append]
    unfold q8t_ qcy_
    have h0 : ∀ j ∈ jobs, j.1 ≠ 0 := fun j hj => by
      have := (rightJ_rise hg.1).2 j hj
      omega
    rw [hist_eq (by omega) (good_dom hg) hw, Option.bind_some]
    dsimp only
    rw [if_pos (eqs_iff.2 rfl), tell_no (rightJ_rise hg.1).1 (by omega) h0, Option.bind_some]
    exact aw
def OkX (x : TRec) : Prop := 0 ≤ x.2.1 ∧ x.2.1 < 4294967296 ∧ 0 ≤ x.2.2.1 ∧ x.2.2.1 < 256
theorem fw_K2 {l : List TRec} {waits : List Int} (hl : l.length ≤ 80) (hw : waits.length ≤ 60) (hx : ∀ x ∈ l, OkX x) : q8n_ waits [] l (Int.ofNat l.length) ((0 : Nat) : Int) = some (true, ()) := by
  unfold q8n_
  refine loopF_eq (Inv := fun s => ∃ (i : Nat) (jobs : List TJob), s = (waits, jobs, l, Int.ofNat l.length, (i : Int)) ∧ i ≤ l.length ∧ jobs.length ≤ i ∧ Good jobs) (μ := fun s => (Int.ofNat l.length - s.2.2.2.2).toNat) (G := fun _ => some (true, ())) ?_ _ _ ⟨0, [], rfl, Nat.zero_le _, Nat.le_refl _, good_nil⟩ (by dsimp only; rw [q1b_]; omega)
  rintro self s ⟨i, jobs, rfl, hi, hj, hg⟩ ih
  show qaa_ _ _ _ waits jobs l (Int.ofNat l.length) (i : Int) = _
  unfold qaa_
  have aw : (Option.bind (qba_ ()) fun (y : Bool × Unit) => some (y.1, ())) = some (true, ()) := by rw [awake28]; rfl
  by_cases hlt : i < l.length
  · have hxx := List.getElem?_eq_getElem hlt
    have hox := hx _ (List.getElem_mem hlt)
    generalize l[i] = x at hxx hox
    rw [if_pos (by rw [q2m_, q1b_]; omega), at_get hxx, Option.bind_some]
    by_cases ht : x.2.2.2.2.length ≤ 300
    · have hright := rightJ_iff.1 hg.1
      rw [if_neg (by rw [gt_iff, q1b_]; omega), ladd_eq hright.1 (by omega) (fun j hj => (hright.2 j hj).2.2.1)]
      cases ha : addS jobs x with
      | none =>
        rw [Option.bind_some, if_pos (by decide), q4d_ (by omega)]
        exact ih _ ⟨i + 1, jobs, rfl, by omega, by omega, hg⟩ (by dsimp only; rw [q1b_]; omega)
      | some r =>
        obtain ⟨hgr, hon⟩ := add_onto hg hox ha
        have hlr : r.length ≤ i + 1 := by rcases hon.1 with h | h <;> omega
        rw [Option.bind_some]
        dsimp only
        rw [if_neg (by decide), fw_K3 _ hw (by omega) (by omega) hg hgr hon, q4d_ (by omega)]
        exact ih _ ⟨i + 1, r, rfl, by omega, hlr, hgr⟩ (by dsimp only; rw [q1b_]; omega)
    · rw [if_pos (by rw [gt_iff, q1b_]; omega)]
      exact aw
  · rw [if_neg (by rw [q2m_, q1b_]; omega)]
    exact fw_K4 hw (by omega) hg
theorem fw_law {l : List TRec} {waits : List Int} (hx : ∀ x ∈ l, OkX x) : qbs_ (l, waits, ()) = some (true, ()) := by
  have K1t : q69_ l waits true = some (true, ()) := by
    unfold q69_ qa6_
    rw [if_pos rfl, awake28]
    rfl
  show qab_ q69_ l waits = _
  unfold qab_
  by_cases hl : l.length ≤ 80
  · rw [if_neg (by rw [gt_iff, q1b_]; omega)]
    by_cases hw : waits.length ≤ 60
    · rw [show gt (Int.ofNat waits.length) 60 = false from decide_eq_false (by rw [q1b_]; omega)]
      unfold q69_ qa6_
      rw [if_neg (by decide)]
      exact fw_K2 hl hw hx
    · rw [show gt (Int.ofNat waits.length) 60 = true from decide_eq_true (by rw [q1b_]; omega)]
      exact K1t
  · rw [if_pos (by rw [gt_iff, q1b_]; omega)]
    exact K1t
end Go.Proofs.Lx
end
section
set_option maxRecDepth 100000
namespace Go.Proofs.Lx
open Go Ev Sx Pl
theorem ok32f {x : Int} (h : (Lit.int .u32 x).wf = true) : 0 ≤ x ∧ x < 4294967296 := by
  simp [Lit.wf, IntKind.min, IntKind.max, IntKind.signed, IntKind.bits] at h
  omega
theorem ok8f {x : Int} (h : (Lit.int .u8 x).wf = true) : 0 ≤ x ∧ x < 256 := by
  simp [Lit.wf, IntKind.min, IntKind.max, IntKind.signed, IntKind.bits] at h
  omega
abbrev tRec : Ty := .pr (.int .u8) (.pr (.int .u32) (.pr (.int .u8) (.pr .bool (.sl (.int .u8)))))
theorem okX_of {x : TRec} (h : Rw.okV tRec x) : OkX x := by
  have h1 := ok32f h.2.1
  have h2 := ok8f h.2.2.1
  exact ⟨h1.1, h1.2, h2.1, h2.2⟩
theorem fw_row (x : As [.sl tRec, .sl (.int .u32)]) (h : Rw.okA [.sl tRec, .sl (.int .u32)] x) : qbs_ x = some (true, ()) :=
  fw_law (l := x.1) (waits := x.2.1) (fun j hj => okX_of (h.1.2 j hj))
end Go.Proofs.Lx
end
section
namespace Go.Proofs.Lx
open Go Go.RowKit Go.ChangeShapes Go.Proofs Go.Proofs.YtlpbpoknpjgnbaaDoor
def nmE : String := match Rows.laid_strconv_ErrRange (H := Unit) with
  | .iface n _ => n
  | _ => ""
theorem rowE (u : TypeId) (h : Tryd.prog.typeName? 3 u = some nmE) : u = 151 :=
  typeName_ptr_named (nm := "errors.errorString") (by kernel_rfl) (by kernel_rfl) (by decide) u (h.trans (congrArg some (by kernel_rfl)))
theorem gP : Tryd.prog.globalNamed p10 = some 0 := by kernel_rfl
theorem heap_var {W W' : World} {n : String} {g : Nat} {cs : Array Value} (hg : Tryd.prog.globalNamed n = some g) (h : W.var? Tryd.prog n = some cs) (hB : Below W.heap.size W W') : W'.var? Tryd.prog n = some cs := by
  unfold World.var? at h ⊢
  rw [hg] at h ⊢
  simp only [Option.bind_some] at h ⊢
  have hlt : g < W.heap.size := by
    rcases Nat.lt_or_ge g W.heap.size with h' | h'
    · exact h'
    · simp [Array.getElem?_eq_none h'] at h
  rw [hB.block g hlt]
  exact h
theorem I0_of {W : World} (h0 : W.var? Tryd.prog p10 = some (Lib.pow10Tab.map fun z => Value.int .u64 z).toArray) {n8 n9 : String} (g8 : Tryd.prog.globalNamed n8 = some 3) (g9 : Tryd.prog.globalNamed n9 = some 4)
    (h8 : ∃ a, W.var? Tryd.prog n8 = some #[.iface 151 (.pointer (some a))]) (h9 : ∃ a, W.var? Tryd.prog n9 = some #[.iface 151 (.pointer (some a))]) : ∀ W', Below W.heap.size W W' -> I0 W' := by
  intro W' hB
  obtain ⟨a, h8⟩ := h8
  obtain ⟨b, h9⟩ := h9
  exact ⟨heap_var gP h0 hB, ⟨151, .pointer (some a), by simpa using World.var?_cell g8 (heap_var g8 h8 hB) 0⟩, ⟨151, .pointer (some b), by simpa using World.var?_cell g9 (heap_var g9 h9 hB) 0⟩⟩
theorem I0_laid {W : World} (hL : laidMet Tryd.prog Rows.statusForwardRow.laid W) : ∀ W', Below W.heap.size W W' -> I0 W' := by
  have t2 : laidMet Tryd.prog ((p10, Lib.tabData .u64 Lib.pow10Tab) :: (Rows.statusForwardRow.laid.drop 3)) W := hL.tail.tail
  have t3 : laidMet Tryd.prog (Rows.statusForwardRow.laid.drop 3) W := t2.tail
  have t4 : laidMet Tryd.prog (Rows.statusForwardRow.laid.drop 4) W := t3.tail
  obtain ⟨a, _, e1, _⟩ := laid_sentinel (n := "strconv.ErrRange") (nm := nmE) (r := Rows.statusForwardRow.laid.drop 4) t3 (g := 4) (by kernel_rfl) (ti := 68) (by kernel_rfl) Tryd.underlying68 rowE Tryd.underlying151 Tryd.underlying153 rfl rfl Tryd.underlying9 (by kernel_rfl) (by kernel_rfl)
  obtain ⟨b, _, e2, _⟩ := laid_sentinel (n := "strconv.ErrSyntax") (nm := nmE) (r := Rows.statusForwardRow.laid.drop 5) t4 (g := 3) (by kernel_rfl) (ti := 68) (by kernel_rfl) Tryd.underlying68 rowE Tryd.underlying151 Tryd.underlying153 rfl rfl Tryd.underlying9 (by kernel_rfl) (by kernel_rfl)
  exact I0_of (Lib.tabIs_of_head gP (t := 109) (by kernel_rfl) Tryd.underlying109 Tryd.underlying38 (by kernel_rfl) (by kernel_rfl) t2) (n8 := "strconv.ErrSyntax") (n9 := "strconv.ErrRange") (by kernel_rfl) (by kernel_rfl) ⟨b, e2⟩ ⟨a, e1⟩
end Go.Proofs.Lx
end
