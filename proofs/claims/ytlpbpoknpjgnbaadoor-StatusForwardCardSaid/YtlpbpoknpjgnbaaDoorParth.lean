/- Proved in the last of these 11 parts (this is part 8): StatusForward: whatever the records and the numbers that wait, the law returns true.. Conditions: those of the given statement, and no others. -/
import Derived.Test.YtlpbpoknpjgnbaaDoorPartg
import Derived.Sort.Walk13a
import Derived.Sort.LotB
import Derived.Sort.AssemblyPlain
import Derived.Shelf.SlIter.Collect
import Derived.RangeFuncBox
import Derived.RangeFuncLeaves
import Derived.WalkKit
import Derived.OwnWalkIn
import Derived.TacticsInMore
import Derived.LoopNIn
import Derived.LoopIn
import Derived.Test.YtlpbpoknpjgnbaaDoorParte
import Derived.Test.YtlpbpoknpjgnbaaDoorProg
set_option linter.unusedVariables false
set_option linter.unusedSimpArgs false
set_option linter.unusedSectionVars false
section
set_option maxRecDepth 100000
namespace Go.Proofs.Lx
open Go Ev Sx Pl
theorem partialIns_size (a b : Nat) : ∀ (s i : Nat) (d : Array Int), (Sort.partialIns Sort.ltInt a b s i d).1.size = d.size
  | 0, _, _ => rfl
  | s + 1, i, d => by
    unfold Sort.partialIns
    dsimp only
    split
    · rfl
    · split
      · rfl
      · rw [partialIns_size a b s]
        have h1 : ∀ (i : Nat) (D : Array Int), (if i - a ≥ 2 then Sort.shiftDown Sort.ltInt (i - 1) D else D).size = D.size := fun i D => by
          split
          · exact shiftDown_size _ _
          · rfl
        have h2 : ∀ (i : Nat) (D : Array Int), (if b - i ≥ 2 then Sort.shiftUp Sort.ltInt b (i + 1) D else D).size = D.size := fun i D => by
          split
          · exact shiftUp_size b b _ _ (by omega)
          · rfl
        rw [h2, h1, q1v_]
theorem partLoop_rng (a : Nat) : ∀ (k i j : Nat) (d : Array Int), j + 1 - i ≤ k -> 1 ≤ i -> i ≤ j + 1 -> i ≤ (Sort.partLoop Sort.ltInt a i j d).1 + 1 ∧ (Sort.partLoop Sort.ltInt a i j d).1 ≤ j ∧ (Sort.partLoop Sort.ltInt a i j d).2.size = d.size
  | k, i, j, d, hk, hi, hij => by
    obtain ⟨f1, f2, f3, f4⟩ := facts (p := upP d a) (q := dnP d a) (fun _ => rfl) d hi hij
    have f5 := (Sort.scanDown_spec (dnP d a) d (Sort.scanUp (upP d a) d j i) j).2.1 f2
    rw [Sort.partLoop_eq]
    generalize Sort.scanUp (upP d a) d j i = i2 at f1 f2 f3 f4 f5 ⊢
    generalize Sort.scanDown (dnP d a) d i2 j = j2 at f3 f4 f5 ⊢
    by_cases h : i2 > j2
    · rw [if_pos h]
      exact ⟨by show i ≤ j2 + 1; omega, f3, rfl⟩
    · have h4 := f4 h
      rw [if_neg h]
      cases k with
      | zero => omega
      | succ k =>
        obtain ⟨g1, g2, g3⟩ := partLoop_rng a k (i2 + 1) (j2 - 1) (Sort.swp d i2 j2) (by omega) (by omega) (by omega)
        exact ⟨by omega, by omega, by rw [g3, q1v_]⟩
theorem partition_rng {d : Array Int} {a b pivot : Nat} (hp : a ≤ pivot) (hpb : pivot < b) : a ≤ (Sort.partition Sort.ltInt d a b pivot).1 ∧ (Sort.partition Sort.ltInt d a b pivot).1 < b ∧ (Sort.partition Sort.ltInt d a b pivot).2.2.size = d.size := by
  rw [Sort.partition_fst, Sort.partition_arr, q1v_]
  obtain ⟨g1, g2, g3⟩ := partLoop_rng a b (a + 1) (b - 1) (Sort.swp d a pivot) (by omega) (by omega) (by omega)
  exact ⟨by omega, by omega, by rw [g3, q1v_]⟩
theorem partEq_rng (a : Nat) : ∀ (k i j : Nat) (d : Array Int), j + 1 - i ≤ k -> 1 ≤ i -> i ≤ j + 1 -> i ≤ (Sort.partEqLoop Sort.ltInt a i j d).1 ∧ (Sort.partEqLoop Sort.ltInt a i j d).1 ≤ j + 1 ∧ (Sort.partEqLoop Sort.ltInt a i j d).2.size = d.size
  | k, i, j, d, hk, hi, hij => by
    obtain ⟨f1, f2, f3, f4⟩ := facts (p := upE d a) (q := dnE d a) (fun x => by simp [dnE, upE]) d hi hij
    rw [Sort.partEqLoop_eq]
    generalize Sort.scanUp (upE d a) d j i = i2 at f1 f2 f3 f4 ⊢
    generalize Sort.scanDown (dnE d a) d i2 j = j2 at f3 f4 ⊢
    by_cases h : i2 > j2
    · rw [if_pos h]
      exact ⟨f1, f2, rfl⟩
    · have h4 := f4 h
      rw [if_neg h]
      cases k with
      | zero => omega
      | succ k =>
        obtain ⟨g1, g2, g3⟩ := partEq_rng a k (i2 + 1) (j2 - 1) (Sort.swp d i2 j2) (by omega) (by omega) (by omega)
        exact ⟨by omega, by omega, by rw [g3, q1v_]⟩
theorem parteq_rng {d : Array Int} {a b pivot : Nat} (hp : a ≤ pivot) (hpb : pivot < b) : a < (Sort.partitionEqual Sort.ltInt d a b pivot).1 ∧ (Sort.partitionEqual Sort.ltInt d a b pivot).1 ≤ b ∧ (Sort.partitionEqual Sort.ltInt d a b pivot).2.size = d.size := by
  unfold Sort.partitionEqual
  obtain ⟨g1, g2, g3⟩ := partEq_rng a b (a + 1) (b - 1) (Sort.swp d a pivot) (by omega) (by omega) (by omega)
  exact ⟨by omega, by omega, by rw [g3, q1v_]⟩
theorem pdq_size : ∀ (N : Nat) (d : Array Int) (a b lim : Nat) (wb wp : Bool), b - a ≤ N -> a ≤ b -> b ≤ d.size -> (Sort.pdq Sort.ltInt d a b lim wb wp).size = d.size
  | N, d, a, b, lim, wb, wp, hN, hab, hb => by
    rw [Sort.pdq_unfold]
    by_cases h12 : b - a ≤ 12
    · rw [if_pos h12]; exact (Sort.insertionSort_holds Sort.swo_ltInt d a b hab hb).1.1
    rw [if_neg h12]
    by_cases h0 : lim = 0
    · rw [if_pos h0]; exact (Sort.heapSort_holds Sort.swo_ltInt d a b hab hb).1.1
    rw [if_neg h0]
    have hlt : a < b := by omega
    have s1 : (Sort.rd Sort.ltInt d a b lim wb wp).d1.size = d.size := by
      show (if (!wb) = true then Sort.breakPatterns d a b else d).size = d.size
      split
      · exact (Sort.breakPatterns_holds d a b hab hb).1
      · rfl
    have c1 : a ≤ (Sort.rd Sort.ltInt d a b lim wb wp).c.1 ∧ (Sort.rd Sort.ltInt d a b lim wb wp).c.1 < b := Sort.choosePivot_holds Sort.ltInt _ a b hlt
    have s2 : (Sort.rd Sort.ltInt d a b lim wb wp).d2.size = d.size := by
      show (if (Sort.rd Sort.ltInt d a b lim wb wp).c.2 = .decreasing then Sort.reverseRange (Sort.rd Sort.ltInt d a b lim wb wp).d1 a b else (Sort.rd Sort.ltInt d a b lim wb wp).d1).size = d.size
      split
      · rw [(Sort.reverseRange_holds _ a b hab (by rw [s1]; exact hb)).1, s1]
      · exact s1
    have pv : a ≤ (Sort.rd Sort.ltInt d a b lim wb wp).pivot ∧ (Sort.rd Sort.ltInt d a b lim wb wp).pivot < b := Sort.pivot_range c1.1 c1.2 ((Sort.rd Sort.ltInt d a b lim wb wp).c.2 = .decreasing)
    have s3 : (Sort.rd Sort.ltInt d a b lim wb wp).pi.1.size = d.size := by
      show (if (wb && wp && decide ((Sort.rd Sort.ltInt d a b lim wb wp).hint = .increasing)) = true then Sort.partialInsertionSort Sort.ltInt (Sort.rd Sort.ltInt d a b lim wb wp).d2 a b else ((Sort.rd Sort.ltInt d a b lim wb wp).d2, false)).1.size = d.size
      split
      · unfold Sort.partialInsertionSort; rw [partialIns_size]; exact s2
      · exact s2
    generalize Sort.rd Sort.ltInt d a b lim wb wp = r at s1 c1 s2 pv s3 ⊢
    obtain ⟨g1, g2, g3⟩ := parteq_rng (d := r.pi.1) pv.1 pv.2
    obtain ⟨g4, g5, g6⟩ := partition_rng (d := r.pi.1) pv.1 pv.2
    cases N with
    | zero => omega
    | succ N =>
      split
      · exact s3
      · split
        · rw [if_pos (⟨g1, g2⟩ : _ ∧ _), pdq_size N _ _ _ _ _ _ (by omega) g2 (by omega), g3, s3]
        · rw [if_pos (⟨g4, g5⟩ : _ ∧ _)]
          split
          · have e := pdq_size N (Sort.partition Sort.ltInt r.pi.1 a b r.pivot).2.2 a (Sort.partition Sort.ltInt r.pi.1 a b r.pivot).1 r.lim true true (by omega) g4 (by omega)
            rw [pdq_size N _ _ _ _ _ _ (by omega) (by omega) (by omega), e, g6, s3]
          · have e := pdq_size N (Sort.partition Sort.ltInt r.pi.1 a b r.pivot).2.2 ((Sort.partition Sort.ltInt r.pi.1 a b r.pivot).1 + 1) b r.lim true true (by omega) (by omega) (by omega)
            rw [pdq_size N _ _ _ _ _ _ (by omega) (by omega) (by omega), e, g6, s3]
def pdF : Nat -> PDM
  | 0 => fun _ => none
  | k + 1 => q9q_ (pdF k)
theorem pdF_ok : ∀ k, CtOk Tryd.prog (fun _ => True) 65 ⟨qb_, pdF k⟩
  | 0 => fun _ _ _ _ _ _ _ _ h => by cases h
  | k + 1 => qid_ (pdF k) (pdF_ok k)
theorem hint1 (h : Sort.Hint) : eqi (hintI h) 1 = decide (h = .increasing) := by cases h <;> rfl
theorem hint2 (h : Sort.Hint) : eqi (hintI h) 2 = decide (h = .decreasing) := by cases h <;> rfl
theorem pdq_go : ∀ (N k n : Nat) (d : Array Int) (a b lim : Nat) (wb wp : Bool), b - a ≤ N -> N ≤ k -> N < n -> a ≤ b -> b ≤ d.size -> d.size < 128 -> lim < 1000000 -> N < 1000 ->
    loopF (q2r_ (pdF k)) n ((a : Int), (b : Int), (lim : Int), wb, wp, d.toList) = some ((Sort.pdq Sort.ltInt d a b lim wb wp).toList, ())
  | _, _, 0, _, _, _, _, _, _, _, _, h, _, _, _, _, _ => by omega
  | N, k, n + 1, d, a, b, lim, wb, wp, hN, hk, hn, hab, hb, hd, hlim, hN2 => by
    rw [q2i_, qgn_, Sort.pdq_unfold]
    unfold q5g_
    rw [i64_sub hab (by omega)]
    by_cases h12 : b - a ≤ 12
    · rw [if_pos (le_iff.2 (by omega)), if_pos h12, insert_eq hb hab (by omega), Option.bind_some]
    rw [if_neg (by rw [le_iff]; omega), if_neg h12]
    by_cases h0 : lim = 0
    · rw [if_pos (q4g_.2 (by omega)), if_pos h0, heap_eq hb hab (by omega), Option.bind_some]
    rw [if_neg (by rw [q4g_]; omega), if_neg h0]
    have hlt : a < b := by omega
    have s1 : (Sort.rd Sort.ltInt d a b lim wb wp).d1.size = d.size := by
      show (if (!wb) = true then Sort.breakPatterns d a b else d).size = d.size
      split
      · exact (Sort.breakPatterns_holds d a b hab hb).1
      · rfl
    have c1 : a ≤ (Sort.rd Sort.ltInt d a b lim wb wp).c.1 ∧ (Sort.rd Sort.ltInt d a b lim wb wp).c.1 < b := Sort.choosePivot_holds Sort.ltInt _ a b hlt
    have s2 : (Sort.rd Sort.ltInt d a b lim wb wp).d2.size = d.size := by
      show (if (Sort.rd Sort.ltInt d a b lim wb wp).c.2 = .decreasing then Sort.reverseRange (Sort.rd Sort.ltInt d a b lim wb wp).d1 a b else (Sort.rd Sort.ltInt d a b lim wb wp).d1).size = d.size
      split
      · rw [(Sort.reverseRange_holds _ a b hab (by rw [s1]; exact hb)).1, s1]
      · exact s1
    have pv : a ≤ (Sort.rd Sort.ltInt d a b lim wb wp).pivot ∧ (Sort.rd Sort.ltInt d a b lim wb wp).pivot < b := Sort.pivot_range c1.1 c1.2 ((Sort.rd Sort.ltInt d a b lim wb wp).c.2 = .decreasing)
    have s3 : (Sort.rd Sort.ltInt d a b lim wb wp).pi.1.size = d.size := by
      show (if (wb && wp && decide ((Sort.rd Sort.ltInt d a b lim wb wp).hint = .increasing)) = true then Sort.partialInsertionSort Sort.ltInt (Sort.rd Sort.ltInt d a b lim wb wp).d2 a b else ((Sort.rd Sort.ltInt d a b lim wb wp).d2, false)).1.size = d.size
      split
      · unfold Sort.partialInsertionSort; rw [partialIns_size]; exact s2
      · exact s2
    have hlim2 : (Sort.rd Sort.ltInt d a b lim wb wp).lim ≤ lim := Sort.rd_lim_le
    have e1 : (if (!wb) = true then Option.bind (q3c_ ((a : Int), (b : Int), d.toList, ())) fun (y : List Int × Unit) => q1x_ (pdF k) (fun a b limit wasBalanced wasPartitioned data => loopF (q2r_ (pdF k)) n (a, b, limit, wasBalanced, wasPartitioned, data)) (a : Int) (b : Int) (Sx.sub .i64 (lim : Int) 1) wb wp ((b - a : Nat) : Int) y.1
        else q1x_ (pdF k) (fun a b limit wasBalanced wasPartitioned data => loopF (q2r_ (pdF k)) n (a, b, limit, wasBalanced, wasPartitioned, data)) (a : Int) (b : Int) (lim : Int) wb wp ((b - a : Nat) : Int) d.toList) =
        q1x_ (pdF k) (fun a b limit wasBalanced wasPartitioned data => loopF (q2r_ (pdF k)) n (a, b, limit, wasBalanced, wasPartitioned, data)) (a : Int) (b : Int) ((Sort.rd Sort.ltInt d a b lim wb wp).lim : Int) wb wp ((b - a : Nat) : Int) (Sort.rd Sort.ltInt d a b lim wb wp).d1.toList := by
      cases wb with
      | true => rfl
      | false =>
        rw [if_pos (by rfl), break_eq hb hab hd, Option.bind_some, pred64 (by omega) (by omega)]
        rfl
    refine e1.trans ?_
    have hz2 : ∀ x : Int, (Sort.rd Sort.ltInt d a b lim wb wp).c.2 = .decreasing -> True := fun _ _ => trivial
    generalize hG : (fun (a b limit : Int) (wasBalanced wasPartitioned : Bool) (data : List Int) => loopF (q2r_ (pdF k)) n (a, b, limit, wasBalanced, wasPartitioned, data)) = G
    have e2 : q1x_ (pdF k) G (a : Int) (b : Int) ((Sort.rd Sort.ltInt d a b lim wb wp).lim : Int) wb wp ((b - a : Nat) : Int) (Sort.rd Sort.ltInt d a b lim wb wp).d1.toList =
        q5h_ (pdF k) G (a : Int) (b : Int) ((Sort.rd Sort.ltInt d a b lim wb wp).lim : Int) wb wp ((b - a : Nat) : Int) ((Sort.rd Sort.ltInt d a b lim wb wp).pivot : Int) (hintI (Sort.rd Sort.ltInt d a b lim wb wp).hint) (Sort.rd Sort.ltInt d a b lim wb wp).d2.toList := by
      show q7d_ _ _ _ (a : Int) (b : Int) _ wb wp _ _ = _
      unfold q7d_
      rw [choose_eq (by rw [s1]; exact hb) hlt (by omega), Option.bind_some]
      dsimp only
      rw [hint2, <- Sort.rd_c]
      by_cases hh : (Sort.rd Sort.ltInt d a b lim wb wp).c.2 = .decreasing
      · obtain ⟨r1, r2, r3⟩ := Sort.rd_dec hh
        have hp1 : (b - 1) - ((Sort.rd Sort.ltInt d a b lim wb wp).c.1 - a) < 1000 := by omega
        rw [decide_eq_true hh, if_pos rfl, rev_eq (by rw [s1]; exact hb) hlt (by omega), Option.bind_some, r1, r2, r3, pred64 (by omega) (by omega), i64_sub c1.1 (by omega), i64_sub (by omega) (by omega)]
        rfl
      · obtain ⟨r1, r2, r3⟩ := Sort.rd_not hh
        rw [decide_eq_false hh, if_neg (by decide), r1, r2, r3]
    rw [e2]
    have e3 : q5h_ (pdF k) G (a : Int) (b : Int) ((Sort.rd Sort.ltInt d a b lim wb wp).lim : Int) wb wp ((b - a : Nat) : Int) ((Sort.rd Sort.ltInt d a b lim wb wp).pivot : Int) (hintI (Sort.rd Sort.ltInt d a b lim wb wp).hint) (Sort.rd Sort.ltInt d a b lim wb wp).d2.toList =
        if (Sort.rd Sort.ltInt d a b lim wb wp).pi.2 = true then some ((Sort.rd Sort.ltInt d a b lim wb wp).pi.1.toList, ()) else q49_ (pdF k) G (a : Int) (b : Int) ((Sort.rd Sort.ltInt d a b lim wb wp).lim : Int) wb wp ((b - a : Nat) : Int) ((Sort.rd Sort.ltInt d a b lim wb wp).pivot : Int) (Sort.rd Sort.ltInt d a b lim wb wp).pi.1.toList := by
      have K4 : ∀ z : Bool, z = (wb && wp && decide ((Sort.rd Sort.ltInt d a b lim wb wp).hint = .increasing)) -> q7b_ (pdF k) G (a : Int) (b : Int) ((Sort.rd Sort.ltInt d a b lim wb wp).lim : Int) wb wp ((b - a : Nat) : Int) ((Sort.rd Sort.ltInt d a b lim wb wp).pivot : Int) z (Sort.rd Sort.ltInt d a b lim wb wp).d2.toList =
          if (Sort.rd Sort.ltInt d a b lim wb wp).pi.2 = true then some ((Sort.rd Sort.ltInt d a b lim wb wp).pi.1.toList, ()) else q49_ (pdF k) G (a : Int) (b : Int) ((Sort.rd Sort.ltInt d a b lim wb wp).lim : Int) wb wp ((b - a : Nat) : Int) ((Sort.rd Sort.ltInt d a b lim wb wp).pivot : Int) (Sort.rd Sort.ltInt d a b lim wb wp).pi.1.toList := fun z hz => by
        show q7a_ _ _ _ (a : Int) (b : Int) _ wb wp _ _ z _ = _
        unfold q7a_
        cases z with
        | true =>
          rw [if_pos rfl, partial_eq (by rw [s2]; exact hb) hlt (by omega), Option.bind_some, Sort.rd_pi_yes hz.symm]
        | false =>
          rw [if_neg (by decide), Sort.rd_pi_no hz.symm]
          rfl
      show q7f_ _ _ _ (a : Int) (b : Int) _ wb wp _ _ _ _ = _
      unfold q7f_
      rw [hint1]
      cases wb with
      | false => rw [if_neg (by decide)]; exact K4 false (by simp)
      | true =>
        cases wp with
        | false => rw [if_pos rfl, if_neg (by decide)]; exact K4 false (by simp)
        | true => rw [if_pos rfl, if_pos rfl]; exact K4 _ (by simp)
    rw [e3]
    generalize Sort.rd Sort.ltInt d a b lim wb wp = r at s1 c1 s2 pv s3 hlim2 ⊢
    by_cases hpi : r.pi.2 = true
    · rw [if_pos hpi, if_pos hpi]
    rw [if_neg hpi, if_neg hpi]
    obtain ⟨D, hD⟩ : ∃ D, D = r.pi.1 := ⟨_, rfl⟩
    obtain ⟨p, hp⟩ : ∃ p, p = r.pivot := ⟨_, rfl⟩
    obtain ⟨lm, hlm⟩ : ∃ lm, lm = r.lim := ⟨_, rfl⟩
    rw [<- hD] at s3
    rw [<- hp] at pv
    rw [<- hlm] at hlim2
    rw [<- hD, <- hp, <- hlm]
    have K6 : ∀ z : Bool, q4a_ (pdF k) G (a : Int) (b : Int) (lm : Int) wb wp ((b - a : Nat) : Int) (p : Int) z D.toList =
        if z = true then some ((Sort.pdq Sort.ltInt (Sort.partitionEqual Sort.ltInt D a b p).2 (Sort.partitionEqual Sort.ltInt D a b p).1 b lm wb wp).toList, ())
        else if (Sort.partition Sort.ltInt D a b p).1 - a < b - (Sort.partition Sort.ltInt D a b p).1 then
          some ((Sort.pdq Sort.ltInt (Sort.pdq Sort.ltInt (Sort.partition Sort.ltInt D a b p).2.2 a (Sort.partition Sort.ltInt D a b p).1 lm true true) ((Sort.partition Sort.ltInt D a b p).1 + 1) b lm (decide ((Sort.partition Sort.ltInt D a b p).1 - a ≥ (b - a) / 8)) (Sort.partition Sort.ltInt D a b p).2.1).toList, ())
        else some ((Sort.pdq Sort.ltInt (Sort.pdq Sort.ltInt (Sort.partition Sort.ltInt D a b p).2.2 ((Sort.partition Sort.ltInt D a b p).1 + 1) b lm true true) a (Sort.partition Sort.ltInt D a b p).1 lm (decide (b - (Sort.partition Sort.ltInt D a b p).1 ≥ (b - a) / 8)) (Sort.partition Sort.ltInt D a b p).2.1).toList, ()) := fun z => by
      show q7e_ _ _ (a : Int) (b : Int) (lm : Int) wb wp _ (p : Int) z D.toList = _
      unfold q7e_
      obtain ⟨k', rfl⟩ : ∃ k', k = k' + 1 := ⟨k - 1, by omega⟩
      have hrec : ∀ (E : Array Int) (a2 b2 : Nat), E.size = d.size -> a2 ≤ b2 -> b2 - a2 < b - a -> b2 ≤ d.size -> pdF (k' + 1) ((a2 : Int), (b2 : Int), (lm : Int), E.toList, ()) = some ((Sort.pdq Sort.ltInt E a2 b2 lm true true).toList, ()) := fun E a2 b2 hE h1 h2 h3 => by
        show q48_ (pdF k') (a2 : Int) (b2 : Int) (lm : Int) true true E.toList = _
        rw [qas_]
        exact pdq_go (N - 1) k' _ E a2 b2 lm true true (by omega) (by omega) (by omega) h1 (by rw [hE]; exact h3) (by rw [hE]; exact hd) (by omega) (by omega)
      have hself : ∀ (E : Array Int) (a2 b2 : Nat) (w1 w2 : Bool), E.size = d.size -> a2 ≤ b2 -> b2 - a2 < b - a -> b2 ≤ d.size -> G (a2 : Int) (b2 : Int) (lm : Int) w1 w2 E.toList = some ((Sort.pdq Sort.ltInt E a2 b2 lm w1 w2).toList, ()) := fun E a2 b2 w1 w2 hE h1 h2 h3 => by
        rw [<- hG]
        exact pdq_go (N - 1) (k' + 1) n E a2 b2 lm w1 w2 (by omega) (by omega) (by omega) h1 (by rw [hE]; exact h3) (by rw [hE]; exact hd) (by omega) (by omega)
      have hpsz : ∀ (E : Array Int) (a2 b2 : Nat), E.size = d.size -> a2 ≤ b2 -> b2 - a2 < b - a -> b2 ≤ d.size -> (Sort.pdq Sort.ltInt E a2 b2 lm true true).size = d.size := fun E a2 b2 hE h1 h2 h3 => by
        rw [pdq_size _ E a2 b2 lm true true (Nat.le_refl _) h1 (by omega), hE]
      cases z with
      | true =>
        obtain ⟨g1, g2, g3⟩ := parteq_rng (d := D) pv.1 pv.2
        rw [if_pos rfl, if_pos rfl, parteq_eq (by omega) pv.1 pv.2 (by omega), Option.bind_some]
        exact hself _ _ _ _ _ (by rw [g3]; exact s3) g2 (by omega) hb
      | false =>
        obtain ⟨g1, g2, g3⟩ := partition_rng (d := D) pv.1 pv.2
        rw [if_neg (by decide), if_neg (by decide), partition_eq (by omega) pv.1 pv.2 (by omega), Option.bind_some]
        dsimp only
        generalize (Sort.partition Sort.ltInt D a b p).2.1 = ap
        generalize (Sort.partition Sort.ltInt D a b p).2.2 = D4 at g3 ⊢
        generalize (Sort.partition Sort.ltInt D a b p).1 = mid at g1 g2 ⊢
        have q8 := quo8 (n := b - a) 8 (by omega) (by omega)
        rw [show ((8 : Nat) : Int) = 8 from rfl] at q8
        have hge : ∀ x : Nat, ge (x : Int) (((b - a) / 8 : Nat) : Int) = decide (x ≥ (b - a) / 8) := fun x => by
          rw [Bool.eq_iff_iff, q5v_, decide_eq_true_eq]
          omega
        rw [i64_sub g1 (by omega), i64_sub (by omega) (by omega), q4d_ (by omega), q8, hge, hge]
        by_cases h : mid - a < b - mid
        · rw [if_pos (q2m_.2 (by omega)), if_pos h, hrec D4 a mid (by rw [g3]; exact s3) g1 (by omega) (by omega), Option.bind_some]
          exact hself _ _ _ _ _ (hpsz D4 a mid (by rw [g3]; exact s3) g1 (by omega) (by omega)) (by omega) (by omega) hb
        · rw [if_neg (by rw [q2m_]; omega), if_neg h, hrec D4 (mid + 1) b (by rw [g3]; exact s3) (by omega) (by omega) hb, Option.bind_some]
          exact hself _ _ _ _ _ (hpsz D4 (mid + 1) b (by rw [g3]; exact s3) (by omega) (by omega) hb) g1 (by omega) (by omega)
    have e5 : q49_ (pdF k) G (a : Int) (b : Int) (lm : Int) wb wp ((b - a : Nat) : Int) (p : Int) D.toList = q4a_ (pdF k) G (a : Int) (b : Int) (lm : Int) wb wp ((b - a : Nat) : Int) (p : Int) (decide (a > 0) && !Sort.ltInt D[a - 1]! D[p]!) D.toList := by
      show q7c_ _ _ _ (a : Int) (b : Int) (lm : Int) wb wp _ (p : Int) D.toList = _
      unfold q7c_
      by_cases ha : a > 0
      · rw [if_pos (gt_iff.2 (by omega)), pred64 (by omega) (by omega), decide_eq_true ha, Bool.true_and]
        exact q4r_ (i := a - 1) (j := p) (by omega) (by omega) (fun z => q4a_ (pdF k) G (a : Int) (b : Int) (lm : Int) wb wp ((b - a : Nat) : Int) (p : Int) (!z) D.toList)
      · rw [if_neg (by rw [gt_iff]; omega), decide_eq_false ha, Bool.false_and]
    rw [e5, K6]
    obtain ⟨g1, g2, g3⟩ := parteq_rng (d := D) pv.1 pv.2
    obtain ⟨g4, g5, g6⟩ := partition_rng (d := D) pv.1 pv.2
    rw [if_pos (⟨g1, g2⟩ : _ ∧ _), if_pos (⟨g4, g5⟩ : _ ∧ _)]
    split
    · rfl
    · split <;> rfl
def q67_ (x : As qb_.ps) : Option (As qb_.rs) := pdF 128 x
theorem pdq_sorts {xs : List Int} (h : xs.length < 128) {lim : Nat} (hl : lim < 1000000) : q67_ (0, (xs.length : Int), (lim : Int), xs, ()) = some (xs.mergeSort (fun x y => decide (x ≤ y)), ()) := by
  show q48_ (pdF 127) ((0 : Nat) : Int) (xs.length : Int) (lim : Int) true true xs.toArray.toList = _
  rw [qas_, pdq_go 127 127 _ xs.toArray 0 xs.length lim true true (by omega) (by omega) (by omega) (by omega) (by simp) (by simpa using h) hl (by omega)]
  have hs : Sort.PermIn 0 xs.toArray.size xs.toArray (Sort.pdq Sort.ltInt xs.toArray 0 xs.toArray.size lim true true) ∧ Sort.SortedIn Sort.ltInt 0 xs.toArray.size (Sort.pdq Sort.ltInt xs.toArray 0 xs.toArray.size lim true true) :=
    Sort.pdq_holds Sort.insertionSort_holds Sort.heapSort_holds Sort.partialInsertionSort_holds (Sort.partition_holds Sort.ltInt) (Sort.partitionEqual_holds Sort.ltInt) Sort.reverseRange_holds Sort.swo_ltInt xs.toArray 0 xs.toArray.size lim true true (Nat.zero_le _) (Nat.le_refl _) (.inl rfl)
  have hu := Sort.sorted_unique_holds (lt := Sort.ltInt) Sort.swo_ltInt (fun x y h1 h2 => by simp [Sort.ltInt] at h1 h2; omega) _ _ hs.1 hs.2
  have hsz : xs.toArray.size = xs.length := by simp
  rw [hsz] at hu
  rw [hu]
  have hf : (fun x y : Int => !Sort.ltInt y x) = fun x y => decide (x ≤ y) := by
    funext x y
    simp only [Sort.ltInt]
    by_cases hxy : x ≤ y
    · simp [hxy]
    · simp [hxy]; omega
  rw [hf]
end Go.Proofs.Lx
end
section
set_option maxRecDepth 100000
namespace Go.Proofs.Lx
open Go Go.Proofs Ev Sx
theorem qhn_ : CtOk Tryd.prog (fun _ => True) 65 ⟨qb_, q67_⟩ := pdF_ok 128
@[reducible] def qdd_ : Sh := ⟨[.row 0], [.row (.int .u32) 26], [.sl (.int .u32)], [], [(0, .row (.int .u32) 26)], 0, [.sl (.int .u32)]⟩
def qiv_ : Env := (cts [(65, (⟨qb_, q67_⟩ : Ct)), (66, (⟨bits_Len_s, bits_Len⟩ : Ct))])
def qix_ : List (Nat × Hint) := []
def qac_ (x : List Int) : Option (As [.sl (.int .u32)]) :=
  Option.bind (bits_Len (Sx.cvt .u64 (Int.ofNat (List.length x)), PUnit.unit)) fun (y : Int × Unit) => Option.bind (q67_ (0, Int.ofNat (List.length x), y.fst, x, PUnit.unit)) fun (y : List Int × Unit) => Option.some (y.fst, PUnit.unit)
def qbr_ (x : As [.sl (.int .u32)]) : Option (As [.sl (.int .u32)]) := qac_ x.1
theorem qlh_ (J : Orc (As [.sl (.int .u32)])) (x : As [.sl (.int .u32)]) : rfn Tryd.prog qiv_ 6 18446744073709551616 (Ev.get qix_) 45 qdd_ J x = qac_ x.1 := by kernel_rfl
theorem qlr_ (x : As [.sl (.int .u32)]) : evT Tryd.prog qiv_ 6 18446744073709551616 (Ev.get qix_) 45 qdd_ x = qbr_ x := by
  rw [q56_, qlh_]
  rfl
theorem qle_ : CtOk Tryd.prog (fun _ => True) 45 ⟨qdd_, qbr_⟩ := ct_of_ev (env_cons qhn_ (env_cons bits_Len_ok env_nil)) qlr_
theorem len_all : ((List.range 128).all fun n => match bits_Len (Sx.cvt .u64 (n : Int), ()) with
    | some (y, _) => decide (0 ≤ y) && decide (y < 1000)
    | none => false) = true := by kernel_rfl
theorem sort_ok {xs : List Int} (h : xs.length < 128) : qbr_ (xs, ()) = some (xs.mergeSort (fun x y => decide (x ≤ y)), ()) := by
  have := List.all_eq_true.1 len_all xs.length (List.mem_range.2 h)
  show qac_ xs = _
  unfold qac_
  change Option.bind (bits_Len (Sx.cvt .u64 ((xs.length : Nat) : Int), ())) _ = _
  cases hb : bits_Len (Sx.cvt .u64 ((xs.length : Nat) : Int), ()) with
  | none => rw [hb] at this; cases this
  | some y =>
    obtain ⟨y, u⟩ := y
    rw [hb] at this
    have hy := Bool.and_eq_true_iff.1 this
    have key : ∀ z : Int, 0 ≤ z -> z < 1000 -> ∃ l : Nat, z = (l : Int) ∧ l < 1000000 := fun z a b => ⟨z.toNat, by omega, by omega⟩
    obtain ⟨l, hl, hl2⟩ := key y (of_decide_eq_true hy.1) (of_decide_eq_true hy.2)
    subst hl
    rw [Option.bind_some]
    change Option.bind (q67_ (0, (xs.length : Int), (l : Int), xs, ())) _ = _
    rw [pdq_sorts h hl2]
    rfl
end Go.Proofs.Lx
end
section
set_option maxRecDepth 100000
namespace Go.Proofs.Lx
open Go Go.Proofs Go.RowKit Go.Maps Go.Sort Go.Shelf
def seqL : Code -> Code
  | .seq a _ => a
  | _ => .skip
def seqR : Code -> Code
  | .seq _ b => b
  | _ => .skip
def blkC : Code -> Code
  | .block _ c => c
  | _ => .skip
def rfA : Code -> Code
  | .rangeFunc _ _ a _ => a
  | _ => .skip
def rfB : Code -> Code
  | .rangeFunc _ _ _ b => b
  | _ => .skip
noncomputable def apRF : Code := blkC (seqR (seqL (seqR (Tryd.f64.body.getD .skip))))
attribute [local go_sem] Oper.semAt_some
abbrev encU (x : Int) : Value := .int .u32 x
def SeqG (F : Fence) (n : Nat) (P : Program) (g : Nat) (lb : Array Value) (S : List Int -> Prop) (N : Nat) (w : World) : Prop :=
  ∀ (l : Nat) (J : List Int -> World -> Prop) (W : World), Below w.heap.size w W -> (∀ pre W', J pre W' -> Below w.heap.size w W') ->
    (∀ pre x W1, J pre W1 -> pre.length < N -> YieldAt F (n - 1) P l #[encU x] W1 fun e W' => e = .returned (.bool true) ∧ J (pre ++ [x]) W' ∧ KeepsWalks W1 W') ->
    J [] W ->
    CallsIn F n P g (#[.func (.yield l) #[] #[]] ++ lb) W fun e W' => (∃ v, e = .returned v) ∧ ∃ xs, S xs ∧ J xs W'
noncomputable def Cu.apAssign : Code := rfA apRF
noncomputable def Cu.apBody : Code := rfB apRF
noncomputable def Cu.apRec (fn : FuncId) (sv : Value) (Bs D : Nat) (st : LoopState) (pend : Option Code) : Loop :=
  { state := st, pending := pend, fn, tmps := #[.slice none 0 0, sv, .pointer (some ⟨Bs, 0, none⟩), undef, .slice none 0 0, undef, sv, undef, undef, undef, undef, undef, undef], params := #[7], assign := Cu.apAssign, body := Cu.apBody, defers := D }
structure Cu.ApAt (w0 : World) (fn : FuncId) (sv : Value) (Bs l D : Nat) (ss : List Int) (W : World) : Prop where
  box : ∃ v, W.heap[Bs]? = some (.cells #[v] 23 (0, 0)) ∧ W.ownsRow w0.heap.size 26 1 v ss.length (ss.map encU) ∧ (v = .slice none 0 0 ↔ ss = [])
  L : W.heap[l]? = some (.loop (Cu.apRec fn sv Bs D .ready none))
  K : W.heap[D]? = some (.deferred (some []))
  below : Below w0.heap.size w0 W
theorem Cu.info26 : (Tryd.prog.info? 26).map (fun i => (i.zero, i.size, i.bytes)) = some (some (.int .u32 0), 1, 4) := by kernel_rfl
set_option maxRecDepth 100000 in
set_option maxHeartbeats 2000000 in
theorem Cu.apYield (F : Fence) (m : Nat) (w0 : World) (fn : FuncId) (hfn : F.fn fn) (sv : Value) (Bs l D : Nat) (hBl : Bs ≠ l) (hDl : D ≠ l) (hDB : D ≠ Bs) (h0B : w0.heap.size ≤ Bs) (h0l : w0.heap.size ≤ l)
    (N : Nat) (hN : N ≤ maxLen) (hNb : N * 4 ≤ 140737488355328) (ss : List Int) (x : Int) (W : World) (h : Cu.ApAt w0 fn sv Bs l D ss W) (hlen : ss.length < N) :
    YieldAt F m Tryd.prog l #[encU x] W fun e W' => e = .returned (.bool true) ∧ Cu.ApAt w0 fn sv Bs l D (ss ++ [x]) W' ∧ KeepsWalks W W' := by
  obtain ⟨i0, hi, hz0, hz1, hz2⟩ := info_parts Cu.info26
  obtain ⟨v, hv, hrow, _⟩ := h.box
  refine ⟨fn, #[.slice none 0 0, sv, .pointer (some ⟨Bs, 0, none⟩), undef, .slice none 0 0, undef, sv, encU x, undef, undef, undef, undef, undef], Cu.apAssign, Cu.apBody, by simpa [Cu.apRec] using run_yield (P := Tryd.prog) (args := #[encU x]) h.L rfl, roundIn_of_wpIn hfn ?_⟩
  have hl : l < W.heap.size := (Array.getElem?_eq_some_iff.1 h.L).1
  have hbr := run_beginRound (P := Tryd.prog) h.L rfl
  obtain ⟨W2, hW2⟩ : ∃ W2, W.putObj l (.loop { Cu.apRec fn sv Bs D .ready none with state := .busy }) = W2 := ⟨_, rfl⟩
  rw [hW2] at hbr
  have hg2 : W.grownBy W2 (some l) := by rw [<- hW2]; exact grownBy_putObj_a _ _ _
  have hk2 : KeepsWalks W W2 := by rw [<- hW2]; exact KeepsWalks.putObj _ h.L rfl
  have hv2 : W2.heap[Bs]? = some (.cells #[v] 23 (0, 0)) := by rw [<- hW2]; exact (World.putObj_heap_other hBl).trans hv
  have hK2 : W2.heap[D]? = some (.deferred (some [])) := by rw [<- hW2]; exact (World.putObj_heap_other hDl).trans h.K
  have hL2 : W2.heap[l]? = some (.loop { Cu.apRec fn sv Bs D .ready none with state := .busy }) := by rw [<- hW2]; exact World.putObj_heap_same hl
  have hrow2 : W2.ownsRow w0.heap.size 26 1 v ss.length (ss.map encU) := hrow.kept hg2 (ownsRow_ne_a hrow h.L (fun cur e => by cases e))
  have hb2 : Below w0.heap.size w0 W2 := h.below.grown hg2 h.below.size (fun k e => by cases e; exact h0l)
  obtain ⟨hc2, hf2⟩ := cell_of_box_a hv2
  have hBlt : Bs < W2.heap.size := (Array.getElem?_eq_some_iff.1 hv2).1
  have hl2 : l < W2.heap.size := (Array.getElem?_eq_some_iff.1 hL2).1
  have hDlt : D < W2.heap.size := (Array.getElem?_eq_some_iff.1 hK2).1
  have ne_of : ∀ {j : Nat} {o : Obj}, W2.heap[j]? = some o -> (∀ cur, o ≠ .cells cur 26 (0, 0)) -> some j ≠ v.ownBlock := fun hj hno => by
    rcases ownsRow_ne_a hrow2 hj hno with e | e
    · rw [e]; simp
    · exact fun e' => e e'.symm
  clear hW2
  unfold Cu.apAssign apRF Tryd.f64
  simp only [Option.getD_some, seqL, seqR, blkC, rfA, rfB]
  gi_wp2_with (rw [Oper.semAt_eq _ _ _ (fun c h => by cases h)]; go_simp; try go_bits)
  unfold Cu.apBody apRF Tryd.f64
  simp only [Option.getD_some, seqL, seqR, blkC, rfA, rfB]
  gi_wp2_with (first
    | (gi_at_builtin; refine wpListIn_append_own _ rfl _ _ 23 rfl w0.heap.size 26 i0 (.int .u32 0) 1 4 Tryd.underlying23 hi hz0 hz1 hz2 rfl (by decide) _ _ _ rfl (hrow2.alloc _) ⟨W2.heap.size, 0, none⟩ 1 1 [encU x] rfl rfl (cell_one_new _ _ _) (by simp [Value.oneCell', encU]) (by omega) (by omega) (by have := hb2.size; simp; omega) ?_; intro v' w3 hown' hg3 hnil3
       have hv3 : w3.heap[Bs]? = some (.cells #[v] 23 (0, 0)) := (hg3.block Bs (by simp; omega) (ne_of hv2 (fun cur e => by cases e))).trans ((Below.heap_alloc _ _ Bs hBlt).trans hv2)
       obtain ⟨hc3, hf3⟩ := cell_of_box_a hv3
       obtain ⟨g', cap', cur', rfl, hbase', hgb', hr1, hr2, hr3, hr4⟩ : ∃ g' cap' cur', v' = .slice (some ⟨g', 0, none⟩) (ss.length + 1) cap' ∧ w0.heap.size ≤ g' ∧ w3.heap[g']? = some (.cells cur' 26 (0, 0)) ∧ ss.length + 1 ≤ cap' ∧ cap' ≤ maxLen ∧ cur'.size = cap' * 1 ∧ cur'.toList.take ((ss.length + 1) * 1) = ss.map encU ++ [encU x] := by
         rcases hown'.2 with ⟨_, h0⟩ | h'
         · exact absurd h0 (by omega)
         · exact h'
       go_frame)
    | (rw [Oper.semAt_eq _ _ _ (fun c h => by cases h)]; go_simp; try go_bits))
  have hg3' : (W2.alloc (.cells #[encU x] 26)).grownBy w3 v.ownBlock := hg3
  have hL3 : w3.heap[l]? = some (.loop { Cu.apRec fn sv Bs D .ready none with state := .busy }) := (hg3'.block l (by simp; omega) (ne_of hL2 (fun cur e => by cases e))).trans ((Below.heap_alloc _ _ l hl2).trans hL2)
  have hK3 : w3.heap[D]? = some (.deferred (some [])) := (hg3'.block D (by simp; omega) (ne_of hK2 (fun cur e => by cases e))).trans ((Below.heap_alloc _ _ D hDlt).trans hK2)
  obtain ⟨w4, hw4⟩ : ∃ w4, w3.setCell ⟨Bs, 0, none⟩ (.slice (some ⟨g', 0, none⟩) (ss.length + 1) cap') = w4 := ⟨_, rfl⟩
  rw [hw4]
  have hg4 : w3.grownBy w4 (some Bs) := by rw [<- hw4]; exact grownBy_setCell0_a _ _ _
  have hv4 : w4.heap[Bs]? = some (.cells #[.slice (some ⟨g', 0, none⟩) (ss.length + 1) cap'] 23 (0, 0)) := by rw [<- hw4]; exact heap_setCell_box_a _ hv3
  have hL4 : w4.heap[l]? = some (.loop { Cu.apRec fn sv Bs D .ready none with state := .busy }) := (hg4.block l (Array.getElem?_eq_some_iff.1 hL3).1 (fun e => hBl (by cases e; rfl))).trans hL3
  have hK4 : w4.heap[D]? = some (.deferred (some [])) := (hg4.block D (Array.getElem?_eq_some_iff.1 hK3).1 (fun e => hDB (by cases e; rfl))).trans hK3
  have hrow4 := hown'.kept hg4 (ownsRow_ne_a hown' hv3 (fun cur e => by cases e))
  have hl4 : l < w4.heap.size := (Array.getElem?_eq_some_iff.1 hL4).1
  have hb3 : Below w0.heap.size w0 w3 := (hb2.alloc hb2.size _).grown hg3' (by have := hb2.size; simp; omega) (fun k e => (hrow2.lt k e).1)
  have hb4 : Below w0.heap.size w0 w4 := hb3.grown hg4 hb3.size (fun k e => by cases e; exact h0B)
  have hk4 : KeepsWalks W w4 := ((hk2.trans (KeepsWalks.alloc _ _)).trans (KeepsWalks.of_grownBy hg3' (ownsRow_not_walk_a (hrow2.alloc _)))).trans (by rw [<- hw4]; exact KeepsWalks.setCell _ _ _)
  clear hw4
  refine ⟨_, _, run_endRound none hL4, rfl, ⟨⟨_, (World.putObj_heap_other hBl).trans hv4, ?_, by simp⟩, World.putObj_heap_same hl4, (World.putObj_heap_other hDl).trans hK4, hb4.grown (grownBy_putObj_a _ _ _) hb4.size (fun k e => by cases e; exact h0l)⟩, hk4.trans (KeepsWalks.putObj _ hL4 rfl)⟩
  have := hrow4.kept (grownBy_putObj_a w4 l (.loop { { Cu.apRec fn sv Bs D .ready none with state := .busy } with state := if (none : Option Code).isNone then .ready else .done, pending := none })) (ownsRow_ne_a hrow4 hL4 (fun cur e => by cases e))
  simpa using this
set_option maxRecDepth 100000 in
set_option maxHeartbeats 2000000 in
theorem Cu.appendSeq_in (F : Fence) (n : Nat) (h11 : F.fn 64) (hro : F.round = none) (hn : 2 ≤ n) (g : Nat) (lb : Array Value) (hFg : F.fn g) (eg : ∀ args w, (callFunc g args).run Tryd.prog w = .ok (.enter g args) w)
    (S : List Int -> Prop) (N : Nat) (hN : N ≤ maxLen) (hNb : N * 4 ≤ 140737488355328) (w : World) (hseq : SeqG F (n - 1) Tryd.prog g lb S N w) :
    CallsIn F n Tryd.prog 64 #[.slice none 0 0, .func (.func g) #[] lb] w fun e w' => ∃ (v : Value) (ss : List Int), e = .returned v ∧ S ss ∧ w'.ownsRow w.heap.size 26 1 v ss.length (ss.map encU) ∧ (v = .slice none 0 0 ↔ ss = []) ∧ Below w.heap.size w w' := by
  have h1 : 1 ≤ n := by omega
  refine callsIn_of_wp_marks Tryd.func64 rfl h11 ?_ hro
  simp only [Tryd.ntmps64, List.size_toArray, List.length_cons, List.length_nil, Nat.reduceAdd, Nat.reduceSub, Array.replicate_succ, Array.replicate_zero, List.push_toArray, List.append_toArray, List.nil_append, List.cons_append]
  gi_wp2
  refine wpIn_rangeFunc ?_
  intro fn hfn
  rw [hro]
  obtain ⟨W0, hW0⟩ : ∃ W0, w.alloc (.cells #[.slice none 0 0] 23) = W0 := ⟨_, rfl⟩
  have hs0 : W0.heap.size = w.heap.size + 1 := by rw [<- hW0]; simp
  have hv0 : W0.heap[w.heap.size]? = some (.cells #[.slice none 0 0] 23 (0, 0)) := by rw [<- hW0]; exact World.alloc_heap_new w _
  have hb0 : Below w.heap.size w W0 := by rw [<- hW0]; exact (Below.refl _ w).alloc (Nat.le_refl _) _
  rw [hW0]
  obtain ⟨W1, hW1⟩ : ∃ W1, (W0.alloc (.deferred (some []))).alloc (.loop (Cu.apRec fn (.func (.func g) #[] lb) w.heap.size W0.heap.size .ready none)) = W1 := ⟨_, rfl⟩
  have hold : ∀ k, k < W0.heap.size -> W1.heap[k]? = W0.heap[k]? := fun k hk => by
    rw [<- hW1]; exact (Below.heap_alloc _ _ k (by simp; omega)).trans (Below.heap_alloc _ _ k hk)
  have hb1 : Below w.heap.size w W1 := by rw [<- hW1]; exact (hb0.alloc hb0.size _).alloc (by have := hb0.size; simp; omega) _
  have hs1 : W1.heap.size = W0.heap.size + 2 := by rw [<- hW1]; simp
  have hM : Cu.ApAt w fn (.func (.func g) #[] lb) w.heap.size (W0.heap.size + 1) W0.heap.size [] W1 :=
    ⟨⟨_, (hold w.heap.size (by omega)).trans hv0, ⟨rfl, .inl ⟨rfl, rfl⟩⟩, by simp⟩,
     by rw [<- hW1]; have := World.alloc_heap_new (W0.alloc (.deferred (some []))) (.loop (Cu.apRec fn (.func (.func g) #[] lb) w.heap.size W0.heap.size .ready none)); rwa [World.size_alloc] at this,
     by rw [<- hW1]; exact (Below.heap_alloc _ _ _ (by simp)).trans (World.alloc_heap_new W0 _), hb1⟩
  refine ⟨W0.heap.size + 1, [{ target := .collected W0.heap.size, args := #[] }], W1, { target := .fn (.func g) lb, args := #[.func (.yield (W0.heap.size + 1)) #[] #[]] }, W1, g,
    #[.func (.yield (W0.heap.size + 1)) #[] #[]] ++ lb, W1, ?_, ?_, ?_, ?_, fun _ => h1, ?_⟩
  · rw [<- hW1]; exact run_enterLoop_outer _ _ _ _ _
  · simp [resolve, go_sem]
  · intro f' hf'; simp [Target.leads] at hf'; subst hf'; exact hFg
  · simp [invoke, go_sem, eg]
  · refine (hseq (W0.heap.size + 1) (Cu.ApAt w fn (.func (.func g) #[] lb) w.heap.size (W0.heap.size + 1) W0.heap.size) W1 hb1 (fun _ _ h => h.below)
      (fun pre x W hJ hl => Cu.apYield F (n - 1 - 1) w fn hfn _ w.heap.size (W0.heap.size + 1) W0.heap.size (by omega) (by omega) (by omega) (Nat.le_refl _) (by omega) N hN hNb pre x W hJ hl) hM).mono ?_
    rintro e W2 ⟨⟨v0, rfl⟩, ss, hS, h2⟩
    obtain ⟨v, hv, hrow, hnil⟩ := h2.box
    have hend := run_endLoop (P := Tryd.prog) h2.L (by simp [Cu.apRec])
    obtain ⟨W3, hW3⟩ : ∃ W3, W2.putObj (W0.heap.size + 1) (.loop { Cu.apRec fn (.func (.func g) #[] lb) w.heap.size W0.heap.size .ready none with state := .exhausted }) = W3 := ⟨_, rfl⟩
    rw [hW3] at hend
    have hg3 : W2.grownBy W3 (some (W0.heap.size + 1)) := by rw [<- hW3]; exact grownBy_putObj_a _ _ _
    have hv3 : W3.heap[w.heap.size]? = some (.cells #[v] 23 (0, 0)) := by rw [<- hW3]; exact (World.putObj_heap_other (by omega)).trans hv
    have hK3 : W3.heap[W0.heap.size]? = some (.deferred (some [])) := by rw [<- hW3]; exact (World.putObj_heap_other (by omega)).trans h2.K
    have hrow3 := hrow.kept hg3 (ownsRow_ne_a hrow h2.L (fun cur e => by cases e))
    have hb3 : Below w.heap.size w W3 := h2.below.grown hg3 h2.below.size (fun k e => by cases e; omega)
    obtain ⟨hc3, hf3⟩ := cell_of_box_a hv3
    clear hW3
    refine ⟨none, W3, hend, ?_⟩
    gi_wp2
    rw [<- hs0]
    refine ⟨by simp, .inl ⟨_, _, rfl, run_takeDeferred hK3, ?_⟩⟩
    exact ⟨_, results_tmp rfl _ _ _, v, ss, rfl, hS, hrow3.kept (grownBy_putObj_a _ _ _) (ownsRow_ne_a hrow3 hK3 (fun cur e => by cases e)), hnil, hb3.grown (grownBy_putObj_a _ _ _) hb3.size (fun k e => by cases e; omega)⟩
set_option maxHeartbeats 1000000 in
theorem Cu.collect_in (F : Fence) (n : Nat) (h8 : F.fn 44) (h11 : F.fn 64) (hro : F.round = none) (hn : 3 ≤ n) (g : Nat) (lb : Array Value) (hFg : F.fn g) (eg : ∀ args w, (callFunc g args).run Tryd.prog w = .ok (.enter g args) w)
    (S : List Int -> Prop) (N : Nat) (hN : N ≤ maxLen) (hNb : N * 4 ≤ 140737488355328) (w : World) (hseq : SeqG F (n - 1 - 1) Tryd.prog g lb S N w) :
    CallsIn F n Tryd.prog 44 #[.func (.func g) #[] lb] w fun e w' => ∃ (v : Value) (ss : List Int), e = .returned v ∧ S ss ∧ w'.ownsRow w.heap.size 26 1 v ss.length (ss.map encU) ∧ (v = .slice none 0 0 ↔ ss = []) ∧ Below w.heap.size w w' := by
  have h1 : 1 ≤ n := by omega
  refine callsIn_of_wp Tryd.func44 rfl h8 ?_ hro
  simp only [Tryd.ntmps44, List.size_toArray, List.length_cons, List.length_nil, Nat.reduceAdd, Nat.reduceSub, Array.replicate_succ, Array.replicate_zero, List.push_toArray, List.append_toArray, List.nil_append, List.cons_append]
  gi_wp2_with (gi_at_call 64; refine (Cu.appendSeq_in F (n - 1) h11 hro (by omega) g lb hFg eg S N hN hNb _ hseq).mono ?_; rintro e w' ⟨v, ss, rfl, hS, hrow, hnil, hb⟩)
  go_ret
  exact ⟨v, ss, rfl, hS, hrow, hnil, hb⟩
end Go.Proofs.Lx
end
section
set_option maxRecDepth 100000
namespace Go.Proofs.Lx
open Go Go.Proofs Go.RowKit
def Cu.upto {α : Type} (f : Nat -> α) (k : Nat) : List α := (List.range k).map f
theorem Cu.upto_succ {α : Type} (f : Nat -> α) (k : Nat) : Cu.upto f (k + 1) = Cu.upto f k ++ [f k] := by simp [Cu.upto, List.range_succ]
theorem Cu.upto_length {α : Type} (f : Nat -> α) (k : Nat) : (Cu.upto f k).length = k := by simp [Cu.upto]
theorem Cu.upto_all (zs : List Int) : Cu.upto (fun j => zs[j]?.getD 0) zs.length = zs := by
  apply List.ext_getElem
  · simp [Cu.upto]
  · intro i h1 h2
    simp [Cu.upto, h2]
set_option maxRecDepth 100000 in
set_option maxHeartbeats 2000000 in
theorem Cu.values1_in (F : Fence) (n : Nat) (h7 : F.fn 46) (hro : F.round = none) (hn : 1 ≤ n) (l Bs n₀ b off len cap : Nat) (zs : List Int) (hreach : len * 4 ≤ 140737488351232) (hb : b < n₀) (J : List Int -> World -> Prop) (w : World) (hJB : ∀ pre W', J pre W' -> Below n₀ w W')
    (hY : ∀ pre x W, J pre W -> pre.length < len -> YieldAt F (n - 1) Tryd.prog l #[.int .u32 x] W fun e W' => e = .returned (.bool true) ∧ J (pre ++ [x]) W' ∧ KeepsWalks W W')
    (W : World) (hBs : W.cell? ⟨Bs, 0, none⟩ = some (.slice (some ⟨b, off, none⟩) len cap)) (hc : ∀ j, j < len -> w.cell? ⟨b, off + j, none⟩ = some (.int .u32 (zs[j]?.getD 0))) (h0 : J [] W) :
    CallsIn F n Tryd.prog 46 #[.func (.yield l) #[] #[], .pointer (some ⟨Bs, 0, none⟩)] W fun e W' => (∃ v, e = .returned v) ∧
      J (Cu.upto (fun j => zs[j]?.getD 0) len) W' := by
  refine callsIn_of_wp Tryd.func46 rfl h7 ?_ hro
  simp only [Tryd.ntmps46, List.size_toArray, List.length_cons, List.length_nil, Nat.reduceAdd, Nat.reduceSub, Array.replicate_succ, Array.replicate_zero, List.push_toArray, List.append_toArray, List.nil_append, List.cons_append]
  gi_wp2
  gi_loopw [7] (fun i wr => ∃ k : Nat, k ≤ len ∧ i = .int .i64 k ∧ J (Cu.upto (fun j => zs[j]?.getD 0) k) wr)
    (fun i _ => len - (intOf i).toNat)
  case atStart => exact ⟨0, Nat.zero_le _, rfl, h0⟩
  case round =>
    obtain ⟨k, hk, rfl, hJs⟩ := hrel
    have hnx := hJB _ _ hJs
    have hcx : k < len -> wr.cell? ⟨b, off + k, none⟩ = some (.int .u32 (zs[k]?.getD 0)) := fun h => (hnx.cell (p := ⟨b, off + k, none⟩) hb).trans (hc k h)
    by_cases hlt : k < len
    · obtain ⟨fn, tmps, assign, body, hy, hR⟩ := hY _ (zs[k]?.getD 0) wr hJs (by rw [Cu.upto_length]; exact hlt)
      have hcx' := hcx hlt
      gi_wp2
      refine hR.mono ?_
      rintro e W3 ⟨rfl, hJ3, hk3⟩
      gi_wp2
      go_roundw
      case rel => exact ⟨k + 1, by omega, by simp, by rw [Cu.upto_succ]; exact hJ3⟩
      case measure => simp [intOf]; omega
    · obtain rfl : k = len := by omega
      gi_wp2
      go_end0
      exact ⟨⟨_, rfl⟩, hJs⟩
def Cu.Ints (n₀ : Nat) (W : World) (sv : Value) (zs : List Int) : Prop :=
  (∃ a cap, sv = .slice a 0 cap ∧ zs = []) ∨ ∃ b off cap, sv = .slice (some ⟨b, off, none⟩) zs.length cap ∧ b < n₀ ∧ ∀ j, j < zs.length -> W.cell? ⟨b, off + j, none⟩ = some (.int .u32 (zs[j]?.getD 0))
theorem Cu.Ints.below {n₀ : Nat} {A B : World} (h : Below n₀ A B) {sv : Value} {zs : List Int} : Cu.Ints n₀ A sv zs -> Cu.Ints n₀ B sv zs
  | .inl e => .inl e
  | .inr ⟨b, off, cap, e, hb, hc⟩ => .inr ⟨b, off, cap, e, hb, fun j hj => (h.cell (p := ⟨b, off + j, none⟩) hb).trans (hc j hj)⟩
set_option maxRecDepth 100000 in
set_option maxHeartbeats 1000000 in
theorem Cu.values1_nil_in (F : Fence) (n : Nat) (h7 : F.fn 46) (hro : F.round = none) (l Bs : Nat) (J : List Int -> World -> Prop) (W : World) (a : Option Addr) (cap : Nat) (hBs : W.cell? ⟨Bs, 0, none⟩ = some (.slice a 0 cap)) (h0 : J [] W) :
    CallsIn F n Tryd.prog 46 #[.func (.yield l) #[] #[], .pointer (some ⟨Bs, 0, none⟩)] W fun e W' => (∃ v, e = .returned v) ∧ J [] W' := by
  refine callsIn_of_wp Tryd.func46 rfl h7 ?_ hro
  simp only [Tryd.ntmps46, List.size_toArray, List.length_cons, List.length_nil, Nat.reduceAdd, Nat.reduceSub, Array.replicate_succ, Array.replicate_zero, List.push_toArray, List.append_toArray, List.nil_append, List.cons_append]
  gi_wp2
  gi_loopw [7] (fun i wr => i = .int .i64 0 ∧ J [] wr) (fun _ _ => 0)
  case atStart => exact ⟨rfl, h0⟩
  case round =>
    obtain ⟨rfl, hJs⟩ := hrel
    gi_wp2
    go_end0
    exact ⟨⟨_, rfl⟩, hJs⟩
set_option maxHeartbeats 1000000 in
theorem Cu.values_gives (F : Fence) (n : Nat) (h7 : F.fn 46) (hro : F.round = none) (hn : 1 ≤ n) (Bs : Nat) (sv : Value) (zs : List Int) (hreach : zs.length * 4 ≤ 140737488351232) (w : World) (hBs : Bs < w.heap.size)
    (hc : w.cell? ⟨Bs, 0, none⟩ = some sv) (hI : Cu.Ints w.heap.size w sv zs) : SeqG F n Tryd.prog 46 #[.pointer (some ⟨Bs, 0, none⟩)] (fun ys => ys = zs) zs.length w := fun l J W hW hJ hY h0 => by
  have hc' := (hW.cell (p := ⟨Bs, 0, none⟩) hBs).trans hc
  rcases hI with ⟨a, cap, rfl, rfl⟩ | ⟨b, off, cap, rfl, hb, hcs⟩
  · exact (Cu.values1_nil_in F n h7 hro l Bs J W a cap hc' h0).mono fun e W' ⟨he, hj⟩ => ⟨he, _, rfl, hj⟩
  · exact (Cu.values1_in F n h7 hro hn l Bs w.heap.size b off zs.length cap zs hreach hb J w hJ hY W hc' hcs h0).mono fun e W' ⟨he, hj⟩ => ⟨he, _, Cu.upto_all zs, hj⟩
end Go.Proofs.Lx
end
section
set_option maxRecDepth 100000
namespace Go.Proofs.Lx
open Go Go.RowKit Go.Proofs Go.Shelf Ev Sx
@[reducible] def qk9_ : Ev.Sh := ⟨[.fn (.func 46) [] [.pb 0 0]], [.box 23 [.d (.sl (.int .u32))]], [.sl (.int .u32)], [.row 1], [(1, .row (.int .u32) 26)], 1, [.sl (.int .u32)]⟩
def qcz_ (x : As [.sl (.int .u32)]) : Option (As [.sl (.int .u32)]) := if x.1.length ≤ 1000 then some (x.1, ()) else none
theorem rows_u32 (L : Lx) (w : World) : ∀ xs : List Int, RowsOf (rp (.int .u32)) L w (xs.map encU) xs
  | [] => rfl
  | x :: q => ⟨[encU x], q.map encU, rfl, rfl, rows_u32 L w q⟩
theorem qk6_ : CtOk Tryd.prog (fun _ => True) 44 ⟨qk9_, qcz_⟩ := by
  intro F w0 pl x y ss own vs hx hA hpl hI hL hE hD
  obtain ⟨xs, u⟩ := x
  have hA : some ([SV.fn (.func 46) [] [.pb 0 0]], [(0, Ent.box 23 [.d (.sl (.int .u32)) xs])]) = some (ss, own) := hA
  cases hA
  have hpl : pl.length = 1 := hpl
  have hx : (if xs.length ≤ 1000 then some (xs, ()) else none) = some y := hx
  by_cases hc : xs.length ≤ 1000
  · rw [if_pos hc] at hx
    cases hx
    obtain ⟨v1, q1, rfl, hv1, rfl⟩ := hD
    obtain ⟨us, vs, rfl, ⟨v2, q2, rfl, ⟨g, n, c, hg, rfl⟩, rfl⟩, rfl⟩ := hv1
    obtain ⟨g', n', c', us, hg', hbx, ⟨v3, q3, rfl, ⟨cs, hr, rfl⟩, rfl⟩, _⟩ := hE (0, .box 23 [.d (.sl (.int .u32)) xs]) (by simp)
    have hg' : pl[0]? = some ⟨some ⟨g', 0, none⟩, n', c'⟩ := hg'
    rw [hg] at hg'
    cases hg'
    have hr : (Rp.slice (Rp.int .u32)).rel (lx pl [(0, Ent.box 23 [.d (.sl (.int .u32)) xs])] ++ F) w0 cs xs := hr
    obtain ⟨sv, rfl⟩ : ∃ v, cs = [v] := by
      obtain ⟨a, cap, e, _⟩ := hr
      exact ⟨_, e⟩
    have hcell : w0.cell? ⟨g, 0, none⟩ = some sv := hbx.cell (j := 0) rfl
    have hint : Cu.Ints w0.heap.size w0 sv xs := by
      by_cases hne : xs = []
      · subst hne
        obtain ⟨a, cap, e⟩ := slice_shape hr
        exact .inl ⟨a, cap, e, rfl⟩
      · obtain ⟨b, o, cap, e, hel⟩ := slice_at hr hne
        obtain ⟨x0, hx0⟩ : ∃ x0, xs[0]? = some x0 := ⟨_, List.getElem?_eq_getElem (List.length_pos_iff.2 hne)⟩
        refine .inr ⟨b, o, cap, e, (hel 0 x0 hx0).1, fun j hj => ?_⟩
        have hxj : xs[j]? = some xs[j] := List.getElem?_eq_getElem hj
        obtain ⟨_, _, cs, h1, h2⟩ := hel j _ hxj
        have h1 : cs = [.int .u32 xs[j]] := h1
        subst h1
        have h3 := h2 0 _ rfl
        rw [hxj, Option.getD_some]
        simpa [Rp.int] using h3
    have hseq := Cu.values_gives Fence.wide 3 trivial rfl (by omega) g sv xs (by omega) w0 hbx.lt hcell hint
    have hcall := Cu.collect_in Fence.wide 5 trivial trivial rfl (by omega) 46 #[.pointer (some ⟨g, 0, none⟩)] trivial (enters_of Tryd.func46 (by kernel_rfl) rfl) (fun ys => ys = xs) xs.length (Nat.le_trans hc (by decide)) (by omega) w0 hseq
    refine (callsIn_wide.1 hcall).mono fun en w' he => ?_
    obtain ⟨v, zs, rfl, rfl, hrow, _, hb⟩ := he
    obtain ⟨q, rfl, hqn, hqge⟩ : ∃ q : Ev.Place, v = .slice q.a q.n q.c ∧ q.n = zs.length ∧ ∀ j, blk q.a = some j -> w0.heap.size ≤ j ∧ j < w'.heap.size := by
      rcases hrow.2 with ⟨rfl, h0⟩ | ⟨g1, cap, cur, rfl, hge, hcur, _⟩
      · exact ⟨⟨none, 0, 0⟩, rfl, h0.symm, fun j hj => by cases hj⟩
      · exact ⟨⟨some ⟨g1, 0, none⟩, zs.length, cap⟩, rfl, rfl, fun j hj => by cases hj; exact ⟨hge, (Array.getElem?_eq_some_iff.1 hcur).1⟩⟩
    have h1 : (pl ++ [q])[1]? = some q := by rw [List.getElem?_append_right (by omega), hpl]; rfl
    have hlx : lx (pl ++ [q]) [(1, Ent.row (.int .u32) 26 zs)] = [blk q.a] := by
      show [plb (pl ++ [q]) 1] = _
      unfold plb
      rw [h1]
      rfl
    refine ⟨[_], rfl, pl ++ [q], [.row 1], [(1, .row (.int .u32) 26 zs)], rfl, fun i p hi => by rw [List.getElem?_append_left (List.getElem?_eq_some_iff.1 hi).1]; exact hi, by simp [hpl],
      ⟨hb.os, hb.tape, hb.output, hb.size, fun j hj _ => hb.block j hj⟩, ⟨?_, ?_, ?_, hL.baseS hb.size, hL.farS hb.size⟩, ?_, ⟨_, [], rfl, ⟨q, h1, rfl⟩, rfl⟩⟩
    · rw [hlx]
      exact List.pairwise_singleton _ _
    · intro j hj
      rw [hlx] at hj
      exact .inr (hqge j (List.mem_singleton.1 hj).symm).1
    · intro j hj
      rw [hlx] at hj
      exact (hqge j (List.mem_singleton.1 hj).symm).2
    · intro en he
      simp at he
      subst he
      refine ⟨q, h1, hqn, zs.map encU, ?_, rows_u32 _ _ zs⟩
      have := ownsRow_base_a hrow (Nat.zero_le _)
      rw [hqn] at this
      exact this
  · rw [if_neg hc] at hx
    cases hx
end Go.Proofs.Lx
end
section
namespace Go.Proofs.Lx
open Go Go.Proofs Ev
theorem ct_weak {P : Program} {I : World -> Prop} {f : FuncId} {ct : Ct} (h : CtOk P (fun _ => True) f ct) : CtOk P I f ct :=
  fun F w0 pl x y ss own vs hx hA hpl _ hL hE hD => h F w0 pl x y ss own vs hx hA hpl (fun _ _ => trivial) hL hE hD
end Go.Proofs.Lx
end
section
open Go Go.Proofs Ev Sx
set_option maxRecDepth 100000
namespace Go.Proofs.Lx
abbrev TFT5 : Ty := (.pr (.int .u8) (.pr (.sl (.int .u8)) (.int .u8)))
abbrev TFT0 : Ty := (.pr (.int .u32) TFT5)
abbrev TFT1 : Type := (Int × Int × List Int × Int)
abbrev TFT2 : Type := ((Int × Bool × Int) × Int)
abbrev TFT3 : Ty := (.pr (.int .u32) (.pr (.int .u8) (.pr .bool (.sl (.int .u8)))))
abbrev TFT4 : Ty := (.pr (.int .u8) (.pr .bool (.int .u8)))
abbrev q5w_ : Type := Int × Int × List Int × Int
@[reducible] def qjr_ : Sh := ⟨[.d TFT0, .d (.int .u32)], [], [.pr (.int .u32) TFT5, .int .u32], [.d (.int .i64)], [], 0, [.int .i64]⟩
def qj3_ (j : q5w_) (tx : Int) : Option (As [.int .i64]) :=
  if lt j.1 tx = true then some (-1, ()) else if gt j.1 tx = true then some (1, ()) else some (0, ())
def qag_ (x : As [.pr (.int .u32) TFT5, .int .u32]) : Option (As [.int .i64]) := qj3_ x.1 x.2.1
theorem qf8_ : CtOk Tryd.prog I0 58 ⟨qjr_, qag_⟩ := ctn env_nil 6 fun J x => by kernel_rfl
@[reducible] def q1s_ : Sh := ⟨[.d (.sl TFT0), .d (.int .u32), .fn (.func 58) [] []], [], [.sl TFT0, .int .u32], [.d (.int .i64), .d (.bool)], [], 0, [.int .i64, .bool]⟩
def q2f_ : Env := (cts [(58, (⟨qjr_, qag_⟩ : Ct))])
def q2g_ : List (Nat × Hint) := [(15, ⟨[], [0, 1, 2, 8, 9, 40, 41, 42, 43, 44, 45, 46, 47]⟩), (60, ⟨[], [0, 1, 2, 8, 9, 10, 40, 41, 42, 43, 44, 45, 46, 47]⟩)]
def q3i_ (x : List TFT1) (target n i j : Int) : St := { fr := [(0, .d (.sl TFT0) x), (1, .d (.int .u32) target), (2, .fn (.func 58) [] []), (8, .d (.int .i64) n), (9, .d (.int .i64) i), (10, .d (.int .i64) j)], nt := 49, up := [], own := [], nx := 0, log := [], ln := 0 }
def q6s_ (x : List TFT1) (target n i : Int) : St := { fr := [(0, .d (.sl TFT0) x), (1, .d (.int .u32) target), (2, .fn (.func 58) [] []), (8, .d (.int .i64) n), (9, .d (.int .i64) i)], nt := 49, up := [], own := [], nx := 0, log := [], ln := 0 }
def q6l_ (j2 : List TFT1 -> Int -> Int -> Int -> Option (As [.int .i64, .bool])) (self1 : List TFT1 -> Int -> Int -> Int -> Int -> Option (As [.int .i64, .bool])) (x : List TFT1) (target n i j : Int) : Option (As [.int .i64, .bool]) :=
  if lt i j = true then Option.bind (at? x (cvt .i64 (Sx.shr .u64 (cvt .u64 (add .i64 i j)) 1))) fun (y : q5w_) => Option.bind (qag_ (y, target, ())) fun (y : Int × Unit) => if lt y.1 0 = true then self1 x target n (add .i64 (cvt .i64 (Sx.shr .u64 (cvt .u64 (add .i64 i j)) 1)) 1) j else self1 x target n i (cvt .i64 (Sx.shr .u64 (cvt .u64 (add .i64 i j)) 1)) else j2 x target n i
def q8h_ (x : List TFT1) (target n i : Int) : Option (As [.int .i64, .bool]) :=
  if lt i n = true then Option.bind (at? x i) fun (y : q5w_) => Option.bind (qag_ (y, target, ())) fun (y : Int × Unit) => some (i, eqi y.1 0, ()) else some (i, false, ())
def qb4_ (j1 : List TFT1 -> Int -> Int -> Int -> Int -> Option (As [.int .i64, .bool])) (x : List TFT1) (target : Int) : Option (As [.int .i64, .bool]) :=
  j1 x target (Int.ofNat (List.length x)) 0 (Int.ofNat (List.length x))
def q4w_ (x : List TFT1) (target n i : Int) : Option (As [.int .i64, .bool]) := q8h_ x target n i
def q4x_ (x : List TFT1) (target n i j : Int) : Option (As [.int .i64, .bool]) :=
  loopF (fun (self : (List TFT1) × (Int) × (Int) × (Int) × (Int) -> Option (As [.int .i64, .bool])) (s : (List TFT1) × (Int) × (Int) × (Int) × (Int)) => q6l_ (q4w_) (fun x target n i j => self (x, target, n, i, j)) s.1 s.2.1 s.2.2.1 s.2.2.2.1 s.2.2.2.2) 18446744073709551616 (x, target, n, i, j)
def q4f_ (x : As [.sl TFT0, .int .u32]) : Option (As [.int .i64, .bool]) := qb4_ q4x_ x.1 x.2.1
theorem qha_  (J x target n i) : pfn Tryd.prog q2f_ 6 18446744073709551616 (Ev.get q2g_) 57 q1s_ J 15 [] (q6s_ x target n i) = q8h_ x target n i := by kernel_rfl
theorem qhg_  (J w1 x target n i j) : pfn Tryd.prog q2f_ 6 18446744073709551616 (Ev.get q2g_) 57 q1s_ J 60 [w1] (q3i_ x target n i j) = q6l_ (fun x target n i => J 15 [] (q6s_ x target n i)) (fun x target n i j => w1 (q3i_ x target n i j)) x target n i j := by kernel_rfl
theorem qgx_ (J : Orc (As [.int .i64, .bool])) (x : As [.sl TFT0, .int .u32]) : rfn Tryd.prog q2f_ 6 18446744073709551616 (Ev.get q2g_) 57 q1s_ J x = qb4_ (fun x target n i j => J 60 [] (q3i_ x target n i j)) x.1 x.2.1 := by kernel_rfl
theorem qgy_  (x target n i) : jfn Tryd.prog q2f_ 6 18446744073709551616 (Ev.get q2g_) 57 q1s_ 15 [] (q6s_ x target n i) = q4w_ x target n i := by
  rw [qo_ (by decide)]
  rw [qha_]
  rfl
theorem qhj_  (x target n i j) : jfn Tryd.prog q2f_ 6 18446744073709551616 (Ev.get q2g_) 57 q1s_ 60 [] (q3i_ x target n i j) = q4x_ x target n i j := by
  rw [qo_ (by decide)]
  rw [q2u_ (by kernel_rfl)]
  refine q29_ (σ := (List TFT1) × (Int) × (Int) × (Int) × (Int)) (mk := fun s => q3i_ s.1 s.2.1 s.2.2.1 s.2.2.2.1 s.2.2.2.2) (fun w1 s => ?_) 18446744073709551616 (x, target, n, i, j)
  have e2 : (fun x target n i => (jfn Tryd.prog q2f_ 6 18446744073709551616 (Ev.get q2g_) 57 q1s_) 15 [] (q6s_ x target n i)) = q4w_ := by funext x target n i; exact qgy_ x target n i
  refine (qhg_ _ w1 s.1 s.2.1 s.2.2.1 s.2.2.2.1 s.2.2.2.2).trans ?_
  rw [e2]
theorem qhu_ (x : As [.sl TFT0, .int .u32]) : evT Tryd.prog q2f_ 6 18446744073709551616 (Ev.get q2g_) 57 q1s_ x = q4f_ x := by
  have e1 : (fun x target n i j => (jfn Tryd.prog q2f_ 6 18446744073709551616 (Ev.get q2g_) 57 q1s_) 60 [] (q3i_ x target n i j)) = q4x_ := by funext x target n i j; exact qhj_ x target n i j
  rw [q56_, qgx_, e1]
  rfl
theorem qhc_ : CtOk Tryd.prog I0 57 ⟨q1s_, q4f_⟩ := ct_of_ev (env_cons qf8_ env_nil) qhu_
@[reducible] def q1h_ : Sh := ⟨[.row 0, .d (.int .u32), .fn (.func 58) [] []], [.row TFT0 34], [.int .u32, .sl TFT0], [.d (.int .i64), .d (.bool)], [(0, .row TFT0 34)], 0, [.int .i64, .bool, .sl TFT0]⟩
def q20_ : Env := (cts [(58, (⟨qjr_, qag_⟩ : Ct))])
def q25_ : List (Nat × Hint) := [(15, ⟨[], [0, 1, 2, 8, 9, 40, 41, 42, 43, 44, 45, 46, 47]⟩), (60, ⟨[], [0, 1, 2, 8, 9, 10, 40, 41, 42, 43, 44, 45, 46, 47]⟩)]
def q3a_ (target n i j : Int) (x : List TFT1) : St := { fr := [(0, .row 0), (1, .d (.int .u32) target), (2, .fn (.func 58) [] []), (8, .d (.int .i64) n), (9, .d (.int .i64) i), (10, .d (.int .i64) j)], nt := 49, up := [], own := [(0, .row TFT0 34 x)], nx := 1, log := [], ln := 1 }
def q5z_ (target n i : Int) (x : List TFT1) : St := { fr := [(0, .row 0), (1, .d (.int .u32) target), (2, .fn (.func 58) [] []), (8, .d (.int .i64) n), (9, .d (.int .i64) i)], nt := 49, up := [], own := [(0, .row TFT0 34 x)], nx := 1, log := [], ln := 1 }
def q62_ (j2 : Int -> Int -> Int -> List TFT1 -> Option (As [.int .i64, .bool, .sl TFT0])) (self1 : Int -> Int -> Int -> Int -> List TFT1 -> Option (As [.int .i64, .bool, .sl TFT0])) (target n i j : Int) (x : List TFT1) : Option (As [.int .i64, .bool, .sl TFT0]) :=
  if lt i j = true then Option.bind (at? x (cvt .i64 (Sx.shr .u64 (cvt .u64 (add .i64 i j)) 1))) fun (x_1 : q5w_) => Option.bind (at? x (cvt .i64 (Sx.shr .u64 (cvt .u64 (add .i64 i j)) 1))) fun (y : q5w_) => Option.bind (qag_ (y, target, ())) fun (y : Int × Unit) => if lt y.1 0 = true then self1 target n (add .i64 (cvt .i64 (Sx.shr .u64 (cvt .u64 (add .i64 i j)) 1)) 1) j x else self1 target n i (cvt .i64 (Sx.shr .u64 (cvt .u64 (add .i64 i j)) 1)) x else j2 target n i x
def q85_ (target n i : Int) (x : List TFT1) : Option (As [.int .i64, .bool, .sl TFT0]) :=
  if lt i n = true then Option.bind (at? x i) fun (x_1 : q5w_) => Option.bind (at? x i) fun (y : q5w_) => Option.bind (qag_ (y, target, ())) fun (y : Int × Unit) => some (i, eqi y.1 0, x, ()) else some (i, false, x, ())
def qan_ (j1 : Int -> Int -> Int -> Int -> List TFT1 -> Option (As [.int .i64, .bool, .sl TFT0])) (x : Int) (target : List TFT1) : Option (As [.int .i64, .bool, .sl TFT0]) :=
  j1 x (Int.ofNat (List.length target)) 0 (Int.ofNat (List.length target)) target
def q4i_ (target n i : Int) (x : List TFT1) : Option (As [.int .i64, .bool, .sl TFT0]) := q85_ target n i x
def q4j_ (target n i j : Int) (x : List TFT1) : Option (As [.int .i64, .bool, .sl TFT0]) :=
  loopF (fun (self : (Int) × (Int) × (Int) × (Int) × (List TFT1) -> Option (As [.int .i64, .bool, .sl TFT0])) (s : (Int) × (Int) × (Int) × (Int) × (List TFT1)) => q62_ (q4i_) (fun target n i j x => self (target, n, i, j, x)) s.1 s.2.1 s.2.2.1 s.2.2.2.1 s.2.2.2.2) 18446744073709551616 (target, n, i, j, x)
def q50_ (x : As [.int .u32, .sl TFT0]) : Option (As [.int .i64, .bool, .sl TFT0]) := qan_ q4j_ x.1 x.2.1
theorem qfo_  (J target n i x) : pfn Tryd.prog q20_ 6 18446744073709551616 (Ev.get q25_) 57 q1h_ J 15 [] (q5z_ target n i x) = q85_ target n i x := by kernel_rfl
theorem qg7_  (J w1 target n i j x) : pfn Tryd.prog q20_ 6 18446744073709551616 (Ev.get q25_) 57 q1h_ J 60 [w1] (q3a_ target n i j x) = q62_ (fun target n i x => J 15 [] (q5z_ target n i x)) (fun target n i j x => w1 (q3a_ target n i j x)) target n i j x := by kernel_rfl
theorem qfr_ (J : Orc (As [.int .i64, .bool, .sl TFT0])) (x : As [.int .u32, .sl TFT0]) : rfn Tryd.prog q20_ 6 18446744073709551616 (Ev.get q25_) 57 q1h_ J x = qan_ (fun target n i j x => J 60 [] (q3a_ target n i j x)) x.1 x.2.1 := by kernel_rfl
theorem qfq_  (target n i x) : jfn Tryd.prog q20_ 6 18446744073709551616 (Ev.get q25_) 57 q1h_ 15 [] (q5z_ target n i x) = q4i_ target n i x := by
  rw [qo_ (by decide)]
  rw [qfo_]
  rfl
theorem qfv_  (target n i j x) : jfn Tryd.prog q20_ 6 18446744073709551616 (Ev.get q25_) 57 q1h_ 60 [] (q3a_ target n i j x) = q4j_ target n i j x := by
  rw [qo_ (by decide)]
  rw [q2u_ (by kernel_rfl)]
  refine q29_ (σ := (Int) × (Int) × (Int) × (Int) × (List TFT1)) (mk := fun s => q3a_ s.1 s.2.1 s.2.2.1 s.2.2.2.1 s.2.2.2.2) (fun w1 s => ?_) 18446744073709551616 (target, n, i, j, x)
  have e2 : (fun target n i x => (jfn Tryd.prog q20_ 6 18446744073709551616 (Ev.get q25_) 57 q1h_) 15 [] (q5z_ target n i x)) = q4i_ := by funext target n i x; exact qfq_ target n i x
  refine (qg7_ _ w1 s.1 s.2.1 s.2.2.1 s.2.2.2.1 s.2.2.2.2).trans ?_
  rw [e2]
theorem qgl_ (x : As [.int .u32, .sl TFT0]) : evT Tryd.prog q20_ 6 18446744073709551616 (Ev.get q25_) 57 q1h_ x = q50_ x := by
  have e1 : (fun target n i j x => (jfn Tryd.prog q20_ 6 18446744073709551616 (Ev.get q25_) 57 q1h_) 60 [] (q3a_ target n i j x)) = q4j_ := by funext target n i j x; exact qfv_ target n i j x
  rw [q56_, qfr_, e1]
  rfl
theorem qfu_ : CtOk Tryd.prog I0 57 ⟨q1h_, q50_⟩ := ct_of_ev (env_cons qf8_ env_nil) qgl_
@[reducible] def qms_ : Sh := ⟨[.d (.sl TFT0), .d (.int .u32)], [], [.sl TFT0, .int .u32], [.d (.int .i64)], [], 0, [.int .i64]⟩
def qoi_ (l : List TFT1) (tx : Int) : Option (As [.int .i64]) :=
  Option.bind (q4f_ (l, tx, ())) fun (y : Int × Bool × Unit) => some (y.1, ())
def qjv_ (x : As [.sl TFT0, .int .u32]) : Option (As [.int .i64]) := qoi_ x.1 x.2.1
theorem qof_ : CtOk Tryd.prog I0 38 ⟨qms_, qjv_⟩ := ctn (env_cons qhc_ (env_cons qf8_ env_nil)) 6 fun J x => by kernel_rfl
@[reducible] def qm0_ : Sh := ⟨[.row 0, .d (.int .u32)], [.row TFT0 34], [.int .u32, .sl TFT0], [.d (.int .i64)], [(0, .row TFT0 34)], 0, [.int .i64, .sl TFT0]⟩
def qnp_ (l : Int) (tx : List TFT1) : Option (As [.int .i64, .sl TFT0]) :=
  Option.bind (q50_ (l, tx, ())) fun (y : Int × Bool × List TFT1 × Unit) => some (y.1, y.2.2.1, ())
def qjt_ (x : As [.int .u32, .sl TFT0]) : Option (As [.int .i64, .sl TFT0]) := qnp_ x.1 x.2.1
theorem qnq_ : CtOk Tryd.prog I0 38 ⟨qm0_, qjt_⟩ := ctn (env_cons qfu_ (env_cons qf8_ env_nil)) 6 fun J x => by kernel_rfl
@[reducible] def qc3_ : Sh := ⟨[.d (.sl TFT0), .d (.int .u32)], [], [.sl TFT0, .int .u32], [.d (.int .i64), .d (.bool)], [], 0, [.int .i64, .bool]⟩
def qe7_ : Env := (cts [(38, (⟨qms_, qjv_⟩ : Ct))])
def qea_ : List (Nat × Hint) := [(14, ⟨[], [6, 22]⟩)]
def qgp_ (i : Int) (t22 : Bool) : St := { fr := [(6, .d (.int .i64) i), (22, .d .bool t22)], nt := 24, up := [], own := [], nx := 0, log := [], ln := 0 }
def qlo_ (i : Int) (t22 : Bool) : Option (As [.int .i64, .bool]) :=
  if t22 = true then some (0, false, ()) else some (i, true, ())
def qbd_ (j1 : Int -> Bool -> Option (As [.int .i64, .bool])) (l : List TFT1) (tx : Int) : Option (As [.int .i64, .bool]) :=
  Option.bind (qjv_ (l, tx, ())) fun (y : Int × Unit) => if ge y.1 (Int.ofNat (List.length l)) = true then j1 y.1 true else Option.bind (at? l y.1) fun (y_1 : q5w_) => j1 y.1 (nei y_1.1 tx)
def qdc_ (i : Int) (t22 : Bool) : Option (As [.int .i64, .bool]) := qlo_ i t22
def qi2_ (x : As [.sl TFT0, .int .u32]) : Option (As [.int .i64, .bool]) := qbd_ qdc_ x.1 x.2.1
theorem qny_  (J i t22) : pfn Tryd.prog qe7_ 6 18446744073709551616 (Ev.get qea_) 17 qc3_ J 14 [] (qgp_ i t22) = qlo_ i t22 := by kernel_rfl
theorem qnv_ (J : Orc (As [.int .i64, .bool])) (x : As [.sl TFT0, .int .u32]) : rfn Tryd.prog qe7_ 6 18446744073709551616 (Ev.get qea_) 17 qc3_ J x = qbd_ (fun i t22 => J 14 [] (qgp_ i t22)) x.1 x.2.1 := by kernel_rfl
theorem qno_  (i t22) : jfn Tryd.prog qe7_ 6 18446744073709551616 (Ev.get qea_) 17 qc3_ 14 [] (qgp_ i t22) = qdc_ i t22 := by
  rw [qo_ (by decide)]
  rw [qny_]
  rfl
theorem qo7_ (x : As [.sl TFT0, .int .u32]) : evT Tryd.prog qe7_ 6 18446744073709551616 (Ev.get qea_) 17 qc3_ x = qi2_ x := by
  have e1 : (fun i t22 => (jfn Tryd.prog qe7_ 6 18446744073709551616 (Ev.get qea_) 17 qc3_) 14 [] (qgp_ i t22)) = qdc_ := by funext i t22; exact qno_ i t22
  rw [q56_, qnv_, e1]
  rfl
theorem qnk_ : CtOk Tryd.prog I0 17 ⟨qc3_, qi2_⟩ := ct_of_ev (env_cons qof_ env_nil) qo7_
@[reducible] def q9h_ : Sh := ⟨[.row 0, .d (.int .u32)], [.row TFT0 34], [.int .u32, .sl TFT0], [.d (.int .i64), .d (.bool)], [(0, .row TFT0 34)], 0, [.int .i64, .bool, .sl TFT0]⟩
def qc7_ : Env := (cts [(38, (⟨qm0_, qjt_⟩ : Ct))])
def qca_ : List (Nat × Hint) := [(14, ⟨[], [6, 22]⟩)]
def qdq_ (i : Int) (t22 : Bool) (o : List TFT1) : St := { fr := [(6, .d (.int .i64) i), (22, .d .bool t22)], nt := 24, up := [], own := [(0, .row TFT0 34 o)], nx := 1, log := [], ln := 1 }
def qk7_ (i : Int) (t22 : Bool) (o : List TFT1) : Option (As [.int .i64, .bool, .sl TFT0]) :=
  if t22 = true then some (0, false, o, ()) else some (i, true, o, ())
def qdo_ (j1 : Int -> Bool -> List TFT1 -> Option (As [.int .i64, .bool, .sl TFT0])) (l : Int) (tx : List TFT1) : Option (As [.int .i64, .bool, .sl TFT0]) :=
  Option.bind (qjt_ (l, tx, ())) fun (y : Int × List TFT1 × Unit) => if ge y.1 (Int.ofNat (List.length y.2.1)) = true then j1 y.1 true y.2.1 else Option.bind (at? y.2.1 y.1) fun (x : q5w_) => Option.bind (at? y.2.1 y.1) fun (y_1 : q5w_) => j1 y.1 (nei y_1.1 l) y.2.1
def qdt_ (i : Int) (t22 : Bool) (o : List TFT1) : Option (As [.int .i64, .bool, .sl TFT0]) := qk7_ i t22 o
def qe8_ (x : As [.int .u32, .sl TFT0]) : Option (As [.int .i64, .bool, .sl TFT0]) := qdo_ qdt_ x.1 x.2.1
theorem qmt_  (J i t22 o) : pfn Tryd.prog qc7_ 6 18446744073709551616 (Ev.get qca_) 17 q9h_ J 14 [] (qdq_ i t22 o) = qk7_ i t22 o := by kernel_rfl
theorem qmu_ (J : Orc (As [.int .i64, .bool, .sl TFT0])) (x : As [.int .u32, .sl TFT0]) : rfn Tryd.prog qc7_ 6 18446744073709551616 (Ev.get qca_) 17 q9h_ J x = qdo_ (fun i t22 o => J 14 [] (qdq_ i t22 o)) x.1 x.2.1 := by kernel_rfl
theorem qmw_  (i t22 o) : jfn Tryd.prog qc7_ 6 18446744073709551616 (Ev.get qca_) 17 q9h_ 14 [] (qdq_ i t22 o) = qdt_ i t22 o := by
  rw [qo_ (by decide)]
  rw [qmt_]
  rfl
theorem qn6_ (x : As [.int .u32, .sl TFT0]) : evT Tryd.prog qc7_ 6 18446744073709551616 (Ev.get qca_) 17 q9h_ x = qe8_ x := by
  have e1 : (fun i t22 o => (jfn Tryd.prog qc7_ 6 18446744073709551616 (Ev.get qca_) 17 q9h_) 14 [] (qdq_ i t22 o)) = qdt_ := by funext i t22 o; exact qmw_ i t22 o
  rw [q56_, qmu_, e1]
  rfl
theorem qka_ : CtOk Tryd.prog I0 17 ⟨q9h_, qe8_⟩ := ct_of_ev (env_cons qnq_ env_nil) qn6_
@[reducible] def q7o_ : Sh := ⟨[.d (.sl (.int .u32)), .d (.int .u32)], [], [.sl (.int .u32), .int .u32], [.d (.int .i64)], [], 0, [.int .i64]⟩
def q8r_ : Env := (cts [])
def q8q_ : List (Nat × Hint) := [(26, ⟨[], [0, 1, 7, 8]⟩)]
def q76_ (s : List Int) (v t7 t8 : Int) : St := { fr := [(0, .d (.sl (.int .u32)) s), (1, .d (.int .u32) v), (7, .d (.int .i64) t7), (8, .d (.int .i64) t8)], nt := 19, up := [], own := [], nx := 0, log := [], ln := 0 }
def q77_ (self1 : List Int -> Int -> Int -> Int -> Option (As [.int .i64])) (s : List Int) (v t7 t8 : Int) : Option (As [.int .i64]) :=
  if lt t8 t7 = true then Option.bind (at? s t8) fun (y : Int) => if eqi v y = true then some (t8, ()) else self1 s v t7 (add .i64 t8 1) else some (-1, ())
def qgr_ (j1 : List Int -> Int -> Int -> Int -> Option (As [.int .i64])) (s : List Int) (v : Int) : Option (As [.int .i64]) :=
  j1 s v (Int.ofNat (List.length s)) 0
def q8c_ (s : List Int) (v t7 t8 : Int) : Option (As [.int .i64]) :=
  loopF (fun (self : (List Int) × (Int) × (Int) × (Int) -> Option (As [.int .i64])) (s : (List Int) × (Int) × (Int) × (Int)) => q77_ (fun s v t7 t8 => self (s, v, t7, t8)) s.1 s.2.1 s.2.2.1 s.2.2.2) 18446744073709551616 (s, v, t7, t8)
def qb6_ (x : As [.sl (.int .u32), .int .u32]) : Option (As [.int .i64]) := qgr_ q8c_ x.1 x.2.1
theorem qkk_  (J w1 s v t7 t8) : pfn Tryd.prog q8r_ 6 18446744073709551616 (Ev.get q8q_) 39 q7o_ J 26 [w1] (q76_ s v t7 t8) = q77_ (fun s v t7 t8 => w1 (q76_ s v t7 t8)) s v t7 t8 := by kernel_rfl
theorem qkl_ (J : Orc (As [.int .i64])) (x : As [.sl (.int .u32), .int .u32]) : rfn Tryd.prog q8r_ 6 18446744073709551616 (Ev.get q8q_) 39 q7o_ J x = qgr_ (fun s v t7 t8 => J 26 [] (q76_ s v t7 t8)) x.1 x.2.1 := by kernel_rfl
theorem qki_  (s v t7 t8) : jfn Tryd.prog q8r_ 6 18446744073709551616 (Ev.get q8q_) 39 q7o_ 26 [] (q76_ s v t7 t8) = q8c_ s v t7 t8 := by
  rw [qo_ (by decide)]
  rw [q2u_ (by kernel_rfl)]
  refine q29_ (σ := (List Int) × (Int) × (Int) × (Int)) (mk := fun s => q76_ s.1 s.2.1 s.2.2.1 s.2.2.2) (fun w1 s => ?_) 18446744073709551616 (s, v, t7, t8)
  refine (qkk_ _ w1 s.1 s.2.1 s.2.2.1 s.2.2.2).trans ?_
  rfl
theorem qli_ (x : As [.sl (.int .u32), .int .u32]) : evT Tryd.prog q8r_ 6 18446744073709551616 (Ev.get q8q_) 39 q7o_ x = qb6_ x := by
  have e1 : (fun s v t7 t8 => (jfn Tryd.prog q8r_ 6 18446744073709551616 (Ev.get q8q_) 39 q7o_) 26 [] (q76_ s v t7 t8)) = q8c_ := by funext s v t7 t8; exact qki_ s v t7 t8
  rw [q56_, qkl_, e1]
  rfl
theorem qkn_ : CtOk Tryd.prog I0 39 ⟨q7o_, qb6_⟩ := ct_of_ev env_nil qli_
@[reducible] def qk5_ : Sh := ⟨[.d (.sl (.int .u32)), .d (.int .u32)], [], [.sl (.int .u32), .int .u32], [.d (.bool)], [], 0, [.bool]⟩
def qau_ (s : List Int) (v : Int) : Option (As [.bool]) :=
  Option.bind (qb6_ (s, v, ())) fun (y : Int × Unit) => some (ge y.1 0, ())
def qby_ (x : As [.sl (.int .u32), .int .u32]) : Option (As [.bool]) := qau_ x.1 x.2.1
theorem qk1_ : CtOk Tryd.prog I0 20 ⟨qk5_, qby_⟩ := ctn (env_cons qkn_ env_nil) 6 fun J x => by kernel_rfl
@[reducible] def qif_ : Sh := ⟨[.d (.int .u32), .pb 0 0], [.box 23 [.d (.sl (.int .u32))]], [.int .u32, .sl (.int .u32)], [.d (.bool)], [(0, .box 23 [.d (.sl (.int .u32))])], 0, [.bool, .sl (.int .u32)]⟩
def qh9_ (tx : Int) (v : List Int) : Option (As [.bool, .sl (.int .u32)]) :=
  Option.bind (qby_ (v, tx, ())) fun (y : Bool × Unit) => some (y.1, v, ())
def qd9_ (x : As [.int .u32, .sl (.int .u32)]) : Option (As [.bool, .sl (.int .u32)]) := qh9_ x.1 x.2.1
theorem qhi_ : CtOk Tryd.prog I0 19 ⟨qif_, qd9_⟩ := ctn (env_cons qk1_ env_nil) 6 fun J x => by kernel_rfl
@[reducible] def qhs_ : Sh := ⟨[.d (.int .u32)], [], [.int .u32], [.d (.bool)], [], 0, [.bool]⟩
def qbx_ (x : Int) : Option (As [.bool]) :=
  some (nei x x, ())
def q9i_ (x : As [.int .u32]) : Option (As [.bool]) := qbx_ x.1
theorem qkf_ : CtOk Tryd.prog I0 48 ⟨qhs_, q9i_⟩ := ctn env_nil 6 fun J x => by kernel_rfl
@[reducible] def q2h_ : Sh := ⟨[.d (.sl (.int .u32)), .d (.int .u32)], [], [.sl (.int .u32), .int .u32], [.d (.int .i64), .d (.bool)], [], 0, [.int .i64, .bool]⟩
def q35_ : Env := (cts [(47, (⟨cmp_Less_Guint32_s, q10_⟩ : Ct)), (48, (⟨qhs_, q9i_⟩ : Ct))])
def q34_ : List (Nat × Hint) := [(15, ⟨[], [0, 1, 6, 7, 36, 37, 38, 39, 40, 41, 42, 43, 44, 45, 46, 47, 48, 49, 50, 51, 52]⟩), (60, ⟨[], [0, 1, 6, 7, 8, 36, 37, 38, 39, 40, 41, 42, 43, 44, 45, 46, 47, 48, 49, 50, 51, 52]⟩)]
def q4p_ (x : List Int) (target n i j : Int) : St := { fr := [(0, .d (.sl (.int .u32)) x), (1, .d (.int .u32) target), (6, .d (.int .i64) n), (7, .d (.int .i64) i), (8, .d (.int .i64) j)], nt := 54, up := [], own := [], nx := 0, log := [], ln := 0 }
def q7y_ (x : List Int) (target n i : Int) : St := { fr := [(0, .d (.sl (.int .u32)) x), (1, .d (.int .u32) target), (6, .d (.int .i64) n), (7, .d (.int .i64) i)], nt := 54, up := [], own := [], nx := 0, log := [], ln := 0 }
def q7x_ (j2 : List Int -> Int -> Int -> Int -> Option (As [.int .i64, .bool])) (self1 : List Int -> Int -> Int -> Int -> Int -> Option (As [.int .i64, .bool])) (x : List Int) (target n i j : Int) : Option (As [.int .i64, .bool]) :=
  if lt i j = true then Option.bind (at? x (cvt .i64 (Sx.shr .u64 (cvt .u64 (add .i64 i j)) 1))) fun (y : Int) => Option.bind (q10_ (y, target, ())) fun (y : Bool × Unit) => if y.1 = true then self1 x target n (add .i64 (cvt .i64 (Sx.shr .u64 (cvt .u64 (add .i64 i j)) 1)) 1) j else self1 x target n i (cvt .i64 (Sx.shr .u64 (cvt .u64 (add .i64 i j)) 1)) else j2 x target n i
def q9l_ (x : List Int) (target n i : Int) : Option (As [.int .i64, .bool]) :=
  if lt i n = true then Option.bind (at? x i) fun (y : Int) => if eqi y target = true then some (i, true, ()) else Option.bind (at? x i) fun (y : Int) => Option.bind (q9i_ (y, ())) fun (y : Bool × Unit) => if y.1 = true then Option.bind (q9i_ (target, ())) fun (y : Bool × Unit) => some (i, y.1, ()) else some (i, false, ()) else some (i, false, ())
def qcb_ (j1 : List Int -> Int -> Int -> Int -> Int -> Option (As [.int .i64, .bool])) (x : List Int) (target : Int) : Option (As [.int .i64, .bool]) :=
  j1 x target (Int.ofNat (List.length x)) 0 (Int.ofNat (List.length x))
def q65_ (x : List Int) (target n i : Int) : Option (As [.int .i64, .bool]) := q9l_ x target n i
def q66_ (x : List Int) (target n i j : Int) : Option (As [.int .i64, .bool]) :=
  loopF (fun (self : (List Int) × (Int) × (Int) × (Int) × (Int) -> Option (As [.int .i64, .bool])) (s : (List Int) × (Int) × (Int) × (Int) × (Int)) => q7x_ (q65_) (fun x target n i j => self (x, target, n, i, j)) s.1 s.2.1 s.2.2.1 s.2.2.2.1 s.2.2.2.2) 18446744073709551616 (x, target, n, i, j)
def q8i_ (x : As [.sl (.int .u32), .int .u32]) : Option (As [.int .i64, .bool]) := qcb_ q66_ x.1 x.2.1
theorem qj2_  (J x target n i) : pfn Tryd.prog q35_ 6 18446744073709551616 (Ev.get q34_) 27 q2h_ J 15 [] (q7y_ x target n i) = q9l_ x target n i := by kernel_rfl
theorem qj5_  (J w1 x target n i j) : pfn Tryd.prog q35_ 6 18446744073709551616 (Ev.get q34_) 27 q2h_ J 60 [w1] (q4p_ x target n i j) = q7x_ (fun x target n i => J 15 [] (q7y_ x target n i)) (fun x target n i j => w1 (q4p_ x target n i j)) x target n i j := by kernel_rfl
theorem qj1_ (J : Orc (As [.int .i64, .bool])) (x : As [.sl (.int .u32), .int .u32]) : rfn Tryd.prog q35_ 6 18446744073709551616 (Ev.get q34_) 27 q2h_ J x = qcb_ (fun x target n i j => J 60 [] (q4p_ x target n i j)) x.1 x.2.1 := by kernel_rfl
theorem qj7_  (x target n i) : jfn Tryd.prog q35_ 6 18446744073709551616 (Ev.get q34_) 27 q2h_ 15 [] (q7y_ x target n i) = q65_ x target n i := by
  rw [qo_ (by decide)]
  rw [qj2_]
  rfl
theorem qjd_  (x target n i j) : jfn Tryd.prog q35_ 6 18446744073709551616 (Ev.get q34_) 27 q2h_ 60 [] (q4p_ x target n i j) = q66_ x target n i j := by
  rw [qo_ (by decide)]
  rw [q2u_ (by kernel_rfl)]
  refine q29_ (σ := (List Int) × (Int) × (Int) × (Int) × (Int)) (mk := fun s => q4p_ s.1 s.2.1 s.2.2.1 s.2.2.2.1 s.2.2.2.2) (fun w1 s => ?_) 18446744073709551616 (x, target, n, i, j)
  have e2 : (fun x target n i => (jfn Tryd.prog q35_ 6 18446744073709551616 (Ev.get q34_) 27 q2h_) 15 [] (q7y_ x target n i)) = q65_ := by funext x target n i; exact qj7_ x target n i
  refine (qj5_ _ w1 s.1 s.2.1 s.2.2.1 s.2.2.2.1 s.2.2.2.2).trans ?_
  rw [e2]
theorem qjl_ (x : As [.sl (.int .u32), .int .u32]) : evT Tryd.prog q35_ 6 18446744073709551616 (Ev.get q34_) 27 q2h_ x = q8i_ x := by
  have e1 : (fun x target n i j => (jfn Tryd.prog q35_ 6 18446744073709551616 (Ev.get q34_) 27 q2h_) 60 [] (q4p_ x target n i j)) = q66_ := by funext x target n i j; exact qjd_ x target n i j
  rw [q56_, qj1_, e1]
  rfl
theorem qjf_ : CtOk Tryd.prog I0 27 ⟨q2h_, q8i_⟩ := ct_of_ev (env_cons (ct_weak q6i_) (env_cons qkf_ env_nil)) qjl_
@[reducible] def qbp_ : Sh := ⟨[.d (.int .u32), .pb 0 0], [.box 23 [.d (.sl (.int .u32))]], [.int .u32, .sl (.int .u32)], [.d (.bool)], [(0, .box 23 [.d (.sl (.int .u32))])], 0, [.bool, .sl (.int .u32)]⟩
def qdr_ (tx : Int) (v : List Int) : Option (As [.bool, .sl (.int .u32)]) :=
  Option.bind (q8i_ (v, tx, ())) fun (y : Int × Bool × Unit) => some (y.2.1, v, ())
def q9n_ (x : As [.int .u32, .sl (.int .u32)]) : Option (As [.bool, .sl (.int .u32)]) := qdr_ x.1 x.2.1
theorem qdp_ : CtOk Tryd.prog I0 26 ⟨qbp_, q9n_⟩ := ctn (env_cons qjf_ env_nil) 6 fun J x => by kernel_rfl
@[reducible] def q8g_ : Sh := ⟨[.d TFT0, .fn (.func 19) [] [.pb 0 0]], [.box 23 [.d (.sl (.int .u32))]], [.pr (.int .u32) TFT5, .sl (.int .u32)], [.d (.str)], [(0, .box 23 [.d (.sl (.int .u32))])], 0, [.str, .sl (.int .u32)]⟩
def qb1_ : Env := (cts [(19, (⟨qif_, qd9_⟩ : Ct)), (26, (⟨qbp_, q9n_⟩ : Ct))])
def qaz_ : List (Nat × Hint) := [(14, ⟨[], [2, 5, 15]⟩)]
def qc5_ (t15 : Bool) (o : List Int) (j : q5w_) (reports : List (List UInt8)) : St := { fr := [(2, .pb 1 0), (5, .pb 2 0), (15, .d .bool t15)], nt := 24, up := [], own := [(0, .box 23 [.d (.sl (.int .u32)) o]), (1, .box 34 [.d (.int .u32) j.1, .d (.int .u8) j.2.1, .d (.sl (.int .u8)) j.2.2.1, .d (.int .u8) j.2.2.2]), (2, .row .str 90 reports)], nx := 3, log := [], ln := 1 }
def qft_ (t15 : Bool) (o : List Int) (j : q5w_) (reports : List (List UInt8)) : Option (As [.str, .sl (.int .u32)]) :=
  if t15 = true then some ([119, 97, 105, 116, 105, 110, 103], o, ()) else if ge (cvt .i64 j.2.2.2) 6 = true then some ([], o, ()) else need (lt j.2.2.2 6) (Option.bind (at? reports j.2.2.2) fun (x : List UInt8) => Option.bind (at? reports j.2.2.2) fun (y : List UInt8) => some (y, o, ()))
def qc8_ (j1 : Bool -> List Int -> q5w_ -> List (List UInt8) -> Option (As [.str, .sl (.int .u32)])) (j : q5w_) (waits : List Int) : Option (As [.str, .sl (.int .u32)]) :=
  if eqi j.2.2.2 1 = true then Option.bind (qd9_ (j.1, waits, ())) fun (y : Bool × List Int × Unit) => j1 y.1 y.2.1 j [[], [114, 117, 110, 110, 105, 110, 103], [99, 111, 109, 109, 105, 116, 116, 101, 100], [97, 98, 111, 114, 116, 101, 100], [99, 111, 109, 109, 105, 116, 116, 101, 100, 32, 100, 111, 110, 101], [97, 98, 111, 114, 116, 101, 100, 32, 100, 111, 110, 101]] else j1 false waits j [[], [114, 117, 110, 110, 105, 110, 103], [99, 111, 109, 109, 105, 116, 116, 101, 100], [97, 98, 111, 114, 116, 101, 100], [99, 111, 109, 109, 105, 116, 116, 101, 100, 32, 100, 111, 110, 101], [97, 98, 111, 114, 116, 101, 100, 32, 100, 111, 110, 101]]
def q90_ (t15 : Bool) (o : List Int) (j : q5w_) (reports : List (List UInt8)) : Option (As [.str, .sl (.int .u32)]) := qft_ t15 o j reports
def qcl_ (x : As [.pr (.int .u32) TFT5, .sl (.int .u32)]) : Option (As [.str, .sl (.int .u32)]) := qc8_ q90_ x.1 x.2.1
theorem qmd_  (J t15 o j reports) : pfn Tryd.prog qb1_ 6 18446744073709551616 (Ev.get qaz_) 18 q8g_ J 14 [] (qc5_ t15 o j reports) = qft_ t15 o j reports := by kernel_rfl
theorem qmh_ (J : Orc (As [.str, .sl (.int .u32)])) (x : As [.pr (.int .u32) TFT5, .sl (.int .u32)]) : rfn Tryd.prog qb1_ 6 18446744073709551616 (Ev.get qaz_) 18 q8g_ J x = qc8_ (fun t15 o j reports => J 14 [] (qc5_ t15 o j reports)) x.1 x.2.1 := by kernel_rfl
theorem qmg_  (t15 o j reports) : jfn Tryd.prog qb1_ 6 18446744073709551616 (Ev.get qaz_) 18 q8g_ 14 [] (qc5_ t15 o j reports) = q90_ t15 o j reports := by
  rw [qo_ (by decide)]
  rw [qmd_]
  rfl
theorem qmm_ (x : As [.pr (.int .u32) TFT5, .sl (.int .u32)]) : evT Tryd.prog qb1_ 6 18446744073709551616 (Ev.get qaz_) 18 q8g_ x = qcl_ x := by
  have e1 : (fun t15 o j reports => (jfn Tryd.prog qb1_ 6 18446744073709551616 (Ev.get qaz_) 18 q8g_) 14 [] (qc5_ t15 o j reports)) = q90_ := by funext t15 o j reports; exact qmg_ t15 o j reports
  rw [q56_, qmh_, e1]
  rfl
theorem qjx_ : CtOk Tryd.prog I0 18 ⟨q8g_, qcl_⟩ := ct_of_ev (env_cons qhi_ (env_cons qdp_ env_nil)) qmm_
@[reducible] def q8e_ : Sh := ⟨[.d TFT0, .fn (.func 26) [] [.pb 0 0]], [.box 23 [.d (.sl (.int .u32))]], [.pr (.int .u32) TFT5, .sl (.int .u32)], [.d (.str)], [(0, .box 23 [.d (.sl (.int .u32))])], 0, [.str, .sl (.int .u32)]⟩
def qb3_ : Env := (cts [(19, (⟨qif_, qd9_⟩ : Ct)), (26, (⟨qbp_, q9n_⟩ : Ct))])
def qb2_ : List (Nat × Hint) := [(14, ⟨[], [2, 5, 15]⟩)]
def qck_ (t15 : Bool) (o : List Int) (j : q5w_) (reports : List (List UInt8)) : St := { fr := [(2, .pb 1 0), (5, .pb 2 0), (15, .d .bool t15)], nt := 24, up := [], own := [(0, .box 23 [.d (.sl (.int .u32)) o]), (1, .box 34 [.d (.int .u32) j.1, .d (.int .u8) j.2.1, .d (.sl (.int .u8)) j.2.2.1, .d (.int .u8) j.2.2.2]), (2, .row .str 90 reports)], nx := 3, log := [], ln := 1 }
def qg0_ (t15 : Bool) (o : List Int) (j : q5w_) (reports : List (List UInt8)) : Option (As [.str, .sl (.int .u32)]) :=
  if t15 = true then some ([119, 97, 105, 116, 105, 110, 103], o, ()) else if ge (cvt .i64 j.2.2.2) 6 = true then some ([], o, ()) else need (lt j.2.2.2 6) (Option.bind (at? reports j.2.2.2) fun (x : List UInt8) => Option.bind (at? reports j.2.2.2) fun (y : List UInt8) => some (y, o, ()))
def qci_ (j1 : Bool -> List Int -> q5w_ -> List (List UInt8) -> Option (As [.str, .sl (.int .u32)])) (j : q5w_) (waits : List Int) : Option (As [.str, .sl (.int .u32)]) :=
  if eqi j.2.2.2 1 = true then Option.bind (q9n_ (j.1, waits, ())) fun (y : Bool × List Int × Unit) => j1 y.1 y.2.1 j [[], [114, 117, 110, 110, 105, 110, 103], [99, 111, 109, 109, 105, 116, 116, 101, 100], [97, 98, 111, 114, 116, 101, 100], [99, 111, 109, 109, 105, 116, 116, 101, 100, 32, 100, 111, 110, 101], [97, 98, 111, 114, 116, 101, 100, 32, 100, 111, 110, 101]] else j1 false waits j [[], [114, 117, 110, 110, 105, 110, 103], [99, 111, 109, 109, 105, 116, 116, 101, 100], [97, 98, 111, 114, 116, 101, 100], [99, 111, 109, 109, 105, 116, 116, 101, 100, 32, 100, 111, 110, 101], [97, 98, 111, 114, 116, 101, 100, 32, 100, 111, 110, 101]]
def q98_ (t15 : Bool) (o : List Int) (j : q5w_) (reports : List (List UInt8)) : Option (As [.str, .sl (.int .u32)]) := qg0_ t15 o j reports
def q9k_ (x : As [.pr (.int .u32) TFT5, .sl (.int .u32)]) : Option (As [.str, .sl (.int .u32)]) := qci_ q98_ x.1 x.2.1
theorem qmc_  (J t15 o j reports) : pfn Tryd.prog qb3_ 6 18446744073709551616 (Ev.get qb2_) 18 q8e_ J 14 [] (qck_ t15 o j reports) = qg0_ t15 o j reports := by kernel_rfl
theorem qmj_ (J : Orc (As [.str, .sl (.int .u32)])) (x : As [.pr (.int .u32) TFT5, .sl (.int .u32)]) : rfn Tryd.prog qb3_ 6 18446744073709551616 (Ev.get qb2_) 18 q8e_ J x = qci_ (fun t15 o j reports => J 14 [] (qck_ t15 o j reports)) x.1 x.2.1 := by kernel_rfl
theorem qmf_  (t15 o j reports) : jfn Tryd.prog qb3_ 6 18446744073709551616 (Ev.get qb2_) 18 q8e_ 14 [] (qck_ t15 o j reports) = q98_ t15 o j reports := by
  rw [qo_ (by decide)]
  rw [qmc_]
  rfl
theorem qmr_ (x : As [.pr (.int .u32) TFT5, .sl (.int .u32)]) : evT Tryd.prog qb3_ 6 18446744073709551616 (Ev.get qb2_) 18 q8e_ x = q9k_ x := by
  have e1 : (fun t15 o j reports => (jfn Tryd.prog qb3_ 6 18446744073709551616 (Ev.get qb2_) 18 q8e_) 14 [] (qck_ t15 o j reports)) = q98_ := by funext t15 o j reports; exact qmf_ t15 o j reports
  rw [q56_, qmj_, e1]
  rfl
theorem qjw_ : CtOk Tryd.prog I0 18 ⟨q8e_, q9k_⟩ := ct_of_ev (env_cons qhi_ (env_cons qdp_ env_nil)) qmr_
@[reducible] def qlz_ : Sh := ⟨[.d (.sl TFT0), .d (.sl (.int .u32)), .d (.int .u32)], [], [.sl TFT0, .sl (.int .u32), .int .u32], [.d (.str)], [], 0, [.str]⟩
def qdb_ (l : List TFT1) (waits : List Int) (tx : Int) : Option (As [.str]) :=
  Option.bind (qi2_ (l, tx, ())) fun (y : Int × Bool × Unit) => if (!y.2.1) = true then some ([117, 110, 107, 110, 111, 119, 110], ()) else Option.bind (at? l y.1) fun (y : q5w_) => Option.bind (qcl_ (y, waits, ())) fun (y : List UInt8 × List Int × Unit) => some (y.1, ())
def q8s_ (x : As [.sl TFT0, .sl (.int .u32), .int .u32]) : Option (As [.str]) := qdb_ x.1 x.2.1 x.2.2.1
theorem qlp_ : CtOk Tryd.prog I0 6 ⟨qlz_, q8s_⟩ := ctn (env_cons qnk_ (env_cons qka_ (env_cons qjx_ (env_cons qjw_ (env_cons qhi_ env_nil))))) 6 fun J x => by kernel_rfl
@[reducible] def istringslite_HasPrefix_s : Sh := ⟨[.d (.str), .d (.str)], [], [.str, .str], [.d (.bool)], [], 0, [.bool]⟩
def istringslite_HasPrefix_m0 (s prefixV : List UInt8) : Option (As [.bool]) :=
  if ge (Int.ofNat (List.length s)) (Int.ofNat (List.length prefixV)) = true then Option.bind (cut s 0 (Int.ofNat (List.length prefixV))) fun (y : List UInt8) => some (eqs y prefixV, ()) else some (false, ())
def qd0_ (x : As [.str, .str]) : Option (As [.bool]) := istringslite_HasPrefix_m0 x.1 x.2.1
theorem qfc_ : CtOk Tryd.prog I0 21 ⟨istringslite_HasPrefix_s, qd0_⟩ := ctn env_nil 6 fun J x => by kernel_rfl
@[reducible] def istringslite_CutPrefix_s : Sh := ⟨[.d (.str), .d (.str)], [], [.str, .str], [.d (.str), .d (.bool)], [], 0, [.str, .bool]⟩
def istringslite_CutPrefix_m0 (s prefixV : List UInt8) : Option (As [.str, .bool]) :=
  Option.bind (qd0_ (s, prefixV, ())) fun (y : Bool × Unit) => if (!y.1) = true then some (s, false, ()) else Option.bind (cut s (Int.ofNat (List.length prefixV)) (Int.ofNat (List.length s))) fun (y : List UInt8) => some (y, true, ())
def istringslite_CutPrefix (x : As [.str, .str]) : Option (As [.str, .bool]) := istringslite_CutPrefix_m0 x.1 x.2.1
theorem istringslite_CutPrefix_ok : CtOk Tryd.prog I0 53 ⟨istringslite_CutPrefix_s, istringslite_CutPrefix⟩ := ctn (env_cons qfc_ env_nil) 6 fun J x => by kernel_rfl
@[reducible] def strings_CutPrefix_s : Sh := ⟨[.d (.str), .d (.str)], [], [.str, .str], [.d (.str), .d (.bool)], [], 0, [.str, .bool]⟩
def strings_CutPrefix_m0 (s prefixV : List UInt8) : Option (As [.str, .bool]) :=
  Option.bind (istringslite_CutPrefix (s, prefixV, ())) fun (y : List UInt8 × Bool × Unit) => some (y.1, y.2.1, ())
def q5t_ (x : As [.str, .str]) : Option (As [.str, .bool]) := strings_CutPrefix_m0 x.1 x.2.1
theorem qdw_ : CtOk Tryd.prog I0 33 ⟨strings_CutPrefix_s, q5t_⟩ := ctn (env_cons istringslite_CutPrefix_ok env_nil) 6 fun J x => by kernel_rfl
@[reducible] def q7s_ : Sh := ⟨[.d (.str)], [], [.str], [.d (.bool)], [], 0, [.bool]⟩
def q95_ : Env := (cts [])
def q97_ : List (Nat × Hint) := [(58, ⟨[], [0, 9, 10, 19, 20, 21, 22, 23, 24]⟩), (7475, ⟨[.agd 22 (.int .u8), .agd 23 .bool, .agd 19 (.int .u8), .agd 20 .bool, .agd 21 .bool, .agd 24 .bool], [0, 9, 10, 25]⟩)]
def q80_ (text : List UInt8) (t9 t10 : Int) : St := { fr := [(0, .d .str text), (9, .d (.int .i64) t9), (10, .d (.int .i64) t10)], nt := 27, up := [], own := [], nx := 0, log := [], ln := 0 }
def qfa_ (text : List UInt8) (t9 t10 : Int) (t25 : Bool) : St := { fr := [(0, .d .str text), (9, .d (.int .i64) t9), (10, .d (.int .i64) t10), (25, .d .bool t25)], nt := 27, up := [], own := [], nx := 0, log := [], ln := 0 }
def qkq_ (j2 : List UInt8 -> Int -> Int -> Bool -> Option (As [.bool])) (self1 : List UInt8 -> Int -> Int -> Option (As [.bool])) (text : List UInt8) (t9 t10 : Int) : Option (As [.bool]) :=
  if lt t10 t9 = true then Option.bind (at? text t10) fun (c : UInt8) => if nei (Int.ofNat (UInt8.toNat c)) 10 = true then if lt (Int.ofNat (UInt8.toNat c)) 32 = true then j2 text t9 t10 true else j2 text t9 t10 (gt (Int.ofNat (UInt8.toNat c)) 126) else j2 text t9 t10 false else some (true, ())
def qkt_ (self1 : List UInt8 -> Int -> Int -> Option (As [.bool])) (text : List UInt8) (t9 t10 : Int) (t25 : Bool) : Option (As [.bool]) :=
  if t25 = true then some (false, ()) else self1 text t9 (add .i64 t10 1)
def qko_ (j1 : List UInt8 -> Int -> Int -> Option (As [.bool])) (text : List UInt8) : Option (As [.bool]) :=
  if gt (Int.ofNat (List.length text)) 8192 = true then some (false, ()) else j1 text (Int.ofNat (List.length text)) 0
def qjh_ (u1 : List UInt8 -> Int -> Int -> Option (As [.bool])) (text : List UInt8) (t9 t10 : Int) (t25 : Bool) : Option (As [.bool]) := qkt_ u1 text t9 t10 t25
def qj4_ (text : List UInt8) (t9 t10 : Int) : Option (As [.bool]) :=
  loopF (fun (self : (List UInt8) × (Int) × (Int) -> Option (As [.bool])) (s : (List UInt8) × (Int) × (Int)) => qkq_ (qjh_ (fun text t9 t10 => self (text, t9, t10))) (fun text t9 t10 => self (text, t9, t10)) s.1 s.2.1 s.2.2) 18446744073709551616 (text, t9, t10)
def qjj_ (x : As [.str]) : Option (As [.bool]) := qko_ qj4_ x.1
theorem qni_  (J w1 text t9 t10 t25) : pfn Tryd.prog q95_ 6 18446744073709551616 (Ev.get q97_) 54 q7s_ J 7475 [w1] (qfa_ text t9 t10 t25) = qkt_ (fun text t9 t10 => w1 (q80_ text t9 t10)) text t9 t10 t25 := by kernel_rfl
theorem qmy_  (J w1 text t9 t10) : pfn Tryd.prog q95_ 6 18446744073709551616 (Ev.get q97_) 54 q7s_ J 58 [w1] (q80_ text t9 t10) = qkq_ (fun text t9 t10 t25 => J 7475 [w1] (qfa_ text t9 t10 t25)) (fun text t9 t10 => w1 (q80_ text t9 t10)) text t9 t10 := by kernel_rfl
theorem qn8_ (J : Orc (As [.bool])) (x : As [.str]) : rfn Tryd.prog q95_ 6 18446744073709551616 (Ev.get q97_) 54 q7s_ J x = qko_ (fun text t9 t10 => J 58 [] (q80_ text t9 t10)) x.1 := by kernel_rfl
theorem qnd_  (w1 text t9 t10 t25) : jfn Tryd.prog q95_ 6 18446744073709551616 (Ev.get q97_) 54 q7s_ 7475 [w1] (qfa_ text t9 t10 t25) = qjh_ (fun text t9 t10 => w1 (q80_ text t9 t10)) text t9 t10 t25 := by
  rw [qo_ (by decide)]
  rw [qni_]
  rfl
theorem qnf_  (text t9 t10) : jfn Tryd.prog q95_ 6 18446744073709551616 (Ev.get q97_) 54 q7s_ 58 [] (q80_ text t9 t10) = qj4_ text t9 t10 := by
  rw [qo_ (by decide)]
  rw [q2u_ (by kernel_rfl)]
  refine q29_ (σ := (List UInt8) × (Int) × (Int)) (mk := fun s => q80_ s.1 s.2.1 s.2.2) (fun w1 s => ?_) 18446744073709551616 (text, t9, t10)
  have e2 : (fun text t9 t10 t25 => (jfn Tryd.prog q95_ 6 18446744073709551616 (Ev.get q97_) 54 q7s_) 7475 [w1] (qfa_ text t9 t10 t25)) = qjh_ (fun text t9 t10 => w1 (q80_ text t9 t10)) := by funext text t9 t10 t25; exact qnd_ w1 text t9 t10 t25
  refine (qmy_ _ w1 s.1 s.2.1 s.2.2).trans ?_
  rw [e2]
theorem qnl_ (x : As [.str]) : evT Tryd.prog q95_ 6 18446744073709551616 (Ev.get q97_) 54 q7s_ x = qjj_ x := by
  have e1 : (fun text t9 t10 => (jfn Tryd.prog q95_ 6 18446744073709551616 (Ev.get q97_) 54 q7s_) 58 [] (q80_ text t9 t10)) = qj4_ := by funext text t9 t10; exact qnf_ text t9 t10
  rw [q56_, qn8_, e1]
  rfl
theorem qn3_ : CtOk Tryd.prog I0 54 ⟨q7s_, qjj_⟩ := ct_of_ev env_nil qnl_
@[reducible] def q7t_ : Sh := ⟨[.d (.pr (.int .u8) (.pr (.int .u32) .str))], [], [.pr (.int .u8) (.pr (.int .u32) .str)], [.d (.bool)], [], 0, [.bool]⟩
def q93_ : Env := (cts [(54, (⟨q7s_, qjj_⟩ : Ct))])
def q94_ : List (Nat × Hint) := [(107, ⟨[], [1, 4, 15, 22, 23, 24, 33, 34, 35]⟩), (431, ⟨[], [1, 26, 33, 34, 35]⟩)]
def qf7_ (t4 : Int) (t15 : Bool) (o : Int × Int × List UInt8) : St := { fr := [(1, .pb 0 0), (4, .d (.int .u8) t4), (15, .d .bool t15)], nt := 37, up := [], own := [(0, .box 42 [.d (.int .u8) o.1, .d (.int .u32) o.2.1, .d .str o.2.2])], nx := 1, log := [], ln := 0 }
def qf9_ (t26 : Bool) (o : Int × Int × List UInt8) : St := { fr := [(1, .pb 0 0), (26, .d .bool t26)], nt := 37, up := [], own := [(0, .box 42 [.d (.int .u8) o.1, .d (.int .u32) o.2.1, .d .str o.2.2])], nx := 1, log := [], ln := 0 }
def qkz_ (j2 : Bool -> Int × Int × List UInt8 -> Option (As [.bool])) (t4 : Int) (t15 : Bool) (o : Int × Int × List UInt8) : Option (As [.bool]) :=
  if t15 = true then if gt o.2.1 0 = true then some (eqs o.2.2 [], ()) else some (false, ()) else if eqi t4 4 = true then j2 true o else j2 (eqi t4 5) o
def qku_ (t26 : Bool) (o : Int × Int × List UInt8) : Option (As [.bool]) :=
  if t26 = true then if eqi o.2.1 0 = true then some (eqs o.2.2 [], ()) else some (false, ()) else some (false, ())
def qkv_ (j1 : Int -> Bool -> Int × Int × List UInt8 -> Option (As [.bool])) (o : Int × Int × List UInt8) : Option (As [.bool]) :=
  if eqi o.1 1 = true then if eqi o.2.1 0 = true then Option.bind (qjj_ (o.2.2, ())) fun (y : Bool × Unit) => some (y.1, ()) else some (false, ()) else if eqi o.1 2 = true then j1 o.1 true o else j1 o.1 (eqi o.1 3) o
def qj9_ (t26 : Bool) (o : Int × Int × List UInt8) : Option (As [.bool]) := qku_ t26 o
def qj6_ (t4 : Int) (t15 : Bool) (o : Int × Int × List UInt8) : Option (As [.bool]) := qkz_ (qj9_) t4 t15 o
def qaf_ (x : As [.pr (.int .u8) (.pr (.int .u32) .str)]) : Option (As [.bool]) := qkv_ qj6_ x.1
theorem qnh_  (J t26 o) : pfn Tryd.prog q93_ 6 18446744073709551616 (Ev.get q94_) 34 q7t_ J 431 [] (qf9_ t26 o) = qku_ t26 o := by kernel_rfl
theorem qn0_  (J t4 t15 o) : pfn Tryd.prog q93_ 6 18446744073709551616 (Ev.get q94_) 34 q7t_ J 107 [] (qf7_ t4 t15 o) = qkz_ (fun t26 o => J 431 [] (qf9_ t26 o)) t4 t15 o := by kernel_rfl
theorem qn2_ (J : Orc (As [.bool])) (x : As [.pr (.int .u8) (.pr (.int .u32) .str)]) : rfn Tryd.prog q93_ 6 18446744073709551616 (Ev.get q94_) 34 q7t_ J x = qkv_ (fun t4 t15 o => J 107 [] (qf7_ t4 t15 o)) x.1 := by kernel_rfl
theorem qn9_  (t26 o) : jfn Tryd.prog q93_ 6 18446744073709551616 (Ev.get q94_) 34 q7t_ 431 [] (qf9_ t26 o) = qj9_ t26 o := by
  rw [qo_ (by decide)]
  rw [qnh_]
  rfl
theorem qn7_  (t4 t15 o) : jfn Tryd.prog q93_ 6 18446744073709551616 (Ev.get q94_) 34 q7t_ 107 [] (qf7_ t4 t15 o) = qj6_ t4 t15 o := by
  rw [qo_ (by decide)]
  have e2 : (fun t26 o => (jfn Tryd.prog q93_ 6 18446744073709551616 (Ev.get q94_) 34 q7t_) 431 [] (qf9_ t26 o)) = qj9_ := by funext t26 o; exact qn9_ t26 o
  rw [qn0_, e2]
  rfl
theorem qnn_ (x : As [.pr (.int .u8) (.pr (.int .u32) .str)]) : evT Tryd.prog q93_ 6 18446744073709551616 (Ev.get q94_) 34 q7t_ x = qaf_ x := by
  have e1 : (fun t4 t15 o => (jfn Tryd.prog q93_ 6 18446744073709551616 (Ev.get q94_) 34 q7t_) 107 [] (qf7_ t4 t15 o)) = qj6_ := by funext t4 t15 o; exact qn7_ t4 t15 o
  rw [q56_, qn2_, e1]
  rfl
theorem qne_ : CtOk Tryd.prog I0 34 ⟨q7t_, qaf_⟩ := ct_of_ev (env_cons qn3_ env_nil) qnn_
@[reducible] def q3p_ : Sh := ⟨[.d (.str)], [], [.str], [.d (.str), .d (.bool)], [], 0, [.str, .bool]⟩
def q4h_ : Env := (cts [])
def q4n_ : List (Nat × Hint) := [(7, ⟨[], [4]⟩), (58, ⟨[.rwb 4 1 5, .slf 4 0], [0, 4, 5]⟩), (233, ⟨[.slf 4 0], [0, 4, 5]⟩)]
def q5l_ (s : List UInt8) (i : Int) (b : Bool) (o : List Int) : St := { fr := [(0, .d .str s), (4, .pb 0 0), (5, .d (.int .i64) i)], nt := 36, up := [], own := [(0, .box 66 [.opb b 0 0, .row 1]), (1, .row (.int .u8) 5 o)], nx := 2, log := [], ln := 0 }
def qbt_ (s : List UInt8) (i : Int) (b : Bool) (o : List Int) : St := { fr := [(0, .d .str s), (4, .pb 0 0), (5, .d (.int .i64) i)], nt := 36, up := [], own := [(0, .box 66 [.opb b 0 0, .row 1]), (1, .row (.int .u8) 5 o)], nx := 2, log := [], ln := 0 }
def qbq_ (b : Bool) (o : List Int) : St := { fr := [(4, .pb 0 0)], nt := 36, up := [], own := [(0, .box 66 [.opb b 0 0, .row 1]), (1, .row (.int .u8) 5 o)], nx := 2, log := [], ln := 0 }
def qjp_ (j2 : List UInt8 -> Int -> Bool -> List Int -> Option (As [.str, .bool])) (j3 : Bool -> List Int -> Option (As [.str, .bool])) (self1 : List UInt8 -> Int -> Bool -> List Int -> Option (As [.str, .bool])) (s : List UInt8) (i : Int) (b : Bool) (o : List Int) : Option (As [.str, .bool]) :=
  if lt i (Int.ofNat (List.length s)) = true then Option.bind (at? s i) fun (c : UInt8) => if eqi (Int.ofNat (UInt8.toNat c)) 10 = true then some ([], false, ()) else if eqi (Int.ofNat (UInt8.toNat c)) 92 = true then if eqi (add .i64 i 1) (Int.ofNat (List.length s)) = true then some ([], false, ()) else Option.bind (at? s (add .i64 i 1)) fun (c_1 : UInt8) => if eqi (Int.ofNat (UInt8.toNat c_1)) 110 = true then if b = true then if b = true then need (small (List.length o + 1)) (j2 s (add .i64 i 1) b (o ++ [10])) else Option.none else need (small (List.length o + 1)) (j2 s (add .i64 i 1) true (o ++ [10])) else if eqi (Int.ofNat (UInt8.toNat c_1)) 92 = true then if b = true then if b = true then need (small (List.length o + Nat.succ 0)) (j2 s (add .i64 i 1) b (o ++ [Int.ofNat (UInt8.toNat c)])) else Option.none else need (small (List.length o + Nat.succ 0)) (j2 s (add .i64 i 1) true (o ++ [Int.ofNat (UInt8.toNat c)])) else some ([], false, ()) else if b = true then if b = true then need (small (List.length o + Nat.succ 0)) (j2 s i b (o ++ [Int.ofNat (UInt8.toNat c)])) else Option.none else need (small (List.length o + Nat.succ 0)) (j2 s i true (o ++ [Int.ofNat (UInt8.toNat c)])) else j3 b o
def qjo_ (self1 : List UInt8 -> Int -> Bool -> List Int -> Option (As [.str, .bool])) (s : List UInt8) (i : Int) (b : Bool) (o : List Int) : Option (As [.str, .bool]) :=
  self1 s (add .i64 i 1) b o
def qjm_ (b : Bool) (o : List Int) : Option (As [.str, .bool]) :=
  need (eqi (Int.ofNat (List.length o)) (Int.ofNat (List.length o))) (need (small (List.length o)) (need (Ev.u8s o) (some (Sx.toS o, true, ()))))
def qjn_ (j1 : List UInt8 -> Int -> Bool -> List Int -> Option (As [.str, .bool])) (s : List UInt8) : Option (As [.str, .bool]) :=
  j1 s 0 false []
def qev_ (u1 : List UInt8 -> Int -> Bool -> List Int -> Option (As [.str, .bool])) (s : List UInt8) (i : Int) (b : Bool) (o : List Int) : Option (As [.str, .bool]) := qjo_ u1 s i b o
def qel_ (b : Bool) (o : List Int) : Option (As [.str, .bool]) := qjm_ b o
def qf5_ (s : List UInt8) (i : Int) (b : Bool) (o : List Int) : Option (As [.str, .bool]) :=
  loopF (fun (self : (List UInt8) × (Int) × (Bool) × (List Int) -> Option (As [.str, .bool])) (s : (List UInt8) × (Int) × (Bool) × (List Int)) => qjp_ (qev_ (fun s i b o => self (s, i, b, o))) (qel_) (fun s i b o => self (s, i, b, o)) s.1 s.2.1 s.2.2.1 s.2.2.2) 18446744073709551616 (s, i, b, o)
def qit_ (x : As [.str]) : Option (As [.str, .bool]) := qjn_ qf5_ x.1
theorem qm5_  (J w1 s i b o) : pfn Tryd.prog q4h_ 6 18446744073709551616 (Ev.get q4n_) 69 q3p_ J 233 [w1] (qbt_ s i b o) = qjo_ (fun s i b o => w1 (q5l_ s i b o)) s i b o := by kernel_rfl
theorem qm6_  (J b o) : pfn Tryd.prog q4h_ 6 18446744073709551616 (Ev.get q4n_) 69 q3p_ J 7 [] (qbq_ b o) = qjm_ b o := by kernel_rfl
theorem qm8_  (J w1 s i b o) : pfn Tryd.prog q4h_ 6 18446744073709551616 (Ev.get q4n_) 69 q3p_ J 58 [w1] (q5l_ s i b o) = qjp_ (fun s i b o => J 233 [w1] (qbt_ s i b o)) (fun b o => J 7 [] (qbq_ b o)) (fun s i b o => w1 (q5l_ s i b o)) s i b o := by kernel_rfl
theorem qm9_ (J : Orc (As [.str, .bool])) (x : As [.str]) : rfn Tryd.prog q4h_ 6 18446744073709551616 (Ev.get q4n_) 69 q3p_ J x = qjn_ (fun s i b o => J 58 [] (q5l_ s i b o)) x.1 := by kernel_rfl
theorem qm3_  (w1 s i b o) : jfn Tryd.prog q4h_ 6 18446744073709551616 (Ev.get q4n_) 69 q3p_ 233 [w1] (qbt_ s i b o) = qev_ (fun s i b o => w1 (q5l_ s i b o)) s i b o := by
  rw [qo_ (by decide)]
  rw [qm5_]
  rfl
theorem qm2_  (b o) : jfn Tryd.prog q4h_ 6 18446744073709551616 (Ev.get q4n_) 69 q3p_ 7 [] (qbq_ b o) = qel_ b o := by
  rw [qo_ (by decide)]
  rw [qm6_]
  rfl
theorem qm7_  (s i b o) : jfn Tryd.prog q4h_ 6 18446744073709551616 (Ev.get q4n_) 69 q3p_ 58 [] (q5l_ s i b o) = qf5_ s i b o := by
  rw [qo_ (by decide)]
  rw [q2u_ (by kernel_rfl)]
  refine q29_ (σ := (List UInt8) × (Int) × (Bool) × (List Int)) (mk := fun s => q5l_ s.1 s.2.1 s.2.2.1 s.2.2.2) (fun w1 s => ?_) 18446744073709551616 (s, i, b, o)
  have e2 : (fun s i b o => (jfn Tryd.prog q4h_ 6 18446744073709551616 (Ev.get q4n_) 69 q3p_) 233 [w1] (qbt_ s i b o)) = qev_ (fun s i b o => w1 (q5l_ s i b o)) := by funext s i b o; exact qm3_ w1 s i b o
  have e3 : (fun b o => (jfn Tryd.prog q4h_ 6 18446744073709551616 (Ev.get q4n_) 69 q3p_) 7 [] (qbq_ b o)) = qel_ := by funext b o; exact qm2_ b o
  refine (qm8_ _ w1 s.1 s.2.1 s.2.2.1 s.2.2.2).trans ?_
  rw [e2, e3]
theorem qmi_ (x : As [.str]) : evT Tryd.prog q4h_ 6 18446744073709551616 (Ev.get q4n_) 69 q3p_ x = qit_ x := by
  have e1 : (fun s i b o => (jfn Tryd.prog q4h_ 6 18446744073709551616 (Ev.get q4n_) 69 q3p_) 58 [] (q5l_ s i b o)) = qf5_ := by funext s i b o; exact qm7_ s i b o
  rw [q56_, qm9_, e1]
  rfl
theorem qm4_ : CtOk Tryd.prog I0 69 ⟨q3p_, qit_⟩ := ct_of_ev env_nil qmi_
@[reducible] def qk2_ : Sh := ⟨[.d (.int .u8), .d (.str)], [], [.int .u8, .str], [.d (.pr (.int .u8) (.pr (.int .u32) .str)), .d (.bool)], [], 0, [.pr (.int .u8) (.pr (.int .u32) .str), .bool]⟩
def qme_ (what : Int) (rest : List UInt8) : Option (As [.pr (.int .u8) (.pr (.int .u32) .str), .bool]) :=
  Option.bind (q5t_ (rest, [32], ())) fun (y : List UInt8 × Bool × Unit) => if (!y.2.1) = true then some ((0, 0, []), false, ()) else Option.bind (qit_ (y.1, ())) fun (y : List UInt8 × Bool × Unit) => some ((what, 0, y.1), y.2.1, ())
def qja_ (x : As [.int .u8, .str]) : Option (As [.pr (.int .u8) (.pr (.int .u32) .str), .bool]) := qme_ x.1 x.2.1
theorem qmb_ : CtOk Tryd.prog I0 50 ⟨qk2_, qja_⟩ := ctn (env_cons qdw_ (env_cons qm4_ env_nil)) 6 fun J x => by kernel_rfl
@[reducible] def strconv_FormatUint_s : Sh := ⟨[.d (.int .u64), .d (.int .i64)], [], [.int .u64, .int .i64], [.d (.str)], [], 0, [.str]⟩
def q99_ (i base : Int) : Option (As [.str]) :=
  Option.bind (qbu_ (i, base, ())) fun (y : List UInt8 × Unit) => some (y.1, ())
def q9a_ (x : As [.int .u64, .int .i64]) : Option (As [.str]) := q99_ x.1 x.2.1
theorem strconv_FormatUint_ok : CtOk Tryd.prog I0 9 ⟨strconv_FormatUint_s, q9a_⟩ := ctn (env_cons istrconv_FormatUint_ok env_nil) 6 fun J x => by kernel_rfl
@[reducible] def qjg_ : Sh := ⟨[.d (.int .u32)], [], [.int .u32], [.d (.str)], [], 0, [.str]⟩
def qiu_ (tx : Int) : Option (As [.str]) :=
  Option.bind (q9a_ (cvt .u64 tx, 10, ())) fun (y : List UInt8 × Unit) => some (y.1, ())
def qav_ (x : As [.int .u32]) : Option (As [.str]) := qiu_ x.1
theorem qkb_ : CtOk Tryd.prog I0 29 ⟨qjg_, qav_⟩ := ctn (env_cons strconv_FormatUint_ok env_nil) 6 fun J x => by kernel_rfl
@[reducible] def q7w_ : Sh := ⟨[.d (.int .u8), .d (.str)], [], [.int .u8, .str], [.d (.pr (.int .u8) (.pr (.int .u32) .str)), .d (.bool)], [], 0, [.pr (.int .u8) (.pr (.int .u32) .str), .bool]⟩
def q9u_ : Env := (cts [(29, (⟨qjg_, qav_⟩ : Ct)), (33, (⟨strings_CutPrefix_s, q5t_⟩ : Ct)), (70, (⟨strconv_ParseUint_ok_s, qdu_⟩ : Ct)), (70, (⟨strconv_ParseUint_er_s, qdv_⟩ : Ct))])
def q9x_ : List (Nat × Hint) := [(62, ⟨[], [0, 4, 8, 35]⟩)]
def qb7_ (what n : Int) (t35 : Bool) (t4 : Int × Int × List UInt8) : St := { fr := [(0, .d (.int .u8) what), (4, .pb 0 0), (8, .d (.int .u64) n), (35, .d .bool t35)], nt := 41, up := [], own := [(0, .box 42 [.d (.int .u8) t4.1, .d (.int .u32) t4.2.1, .d .str t4.2.2])], nx := 1, log := [], ln := 0 }
def qjc_ (what n : Int) (t35 : Bool) (t4 : Int × Int × List UInt8) : Option (As [.pr (.int .u8) (.pr (.int .u32) .str), .bool]) :=
  if t35 = true then some ((0, 0, []), false, ()) else some ((what, cvt .u32 n, []), true, ())
def qjk_ (j1 : Int -> Int -> Bool -> Int × Int × List UInt8 -> Option (As [.pr (.int .u8) (.pr (.int .u32) .str), .bool])) (what : Int) (rest : List UInt8) : Option (As [.pr (.int .u8) (.pr (.int .u32) .str), .bool]) :=
  Option.bind (q5t_ (rest, [32], ())) fun (y : List UInt8 × Bool × Unit) => if (!y.2.1) = true then some ((0, 0, []), false, ()) else orE (Option.bind (qdu_ (y.1, 10, 32, ())) fun (y_1 : Int × Unit) => if eqi y_1.1 0 = true then j1 what y_1.1 true (0, 0, []) else Option.bind (qav_ (cvt .u32 y_1.1, ())) fun (y_2 : List UInt8 × Unit) => j1 what y_1.1 (nes y_2.1 y.1) (0, 0, [])) (Option.bind (qdv_ (y.1, 10, 32, ())) fun (y : Int × Unit × Unit) => j1 what y.1 true (0, 0, []))
def qdm_ (what n : Int) (t35 : Bool) (t4 : Int × Int × List UInt8) : Option (As [.pr (.int .u8) (.pr (.int .u32) .str), .bool]) := qjc_ what n t35 t4
def qb0_ (x : As [.int .u8, .str]) : Option (As [.pr (.int .u8) (.pr (.int .u32) .str), .bool]) := qjk_ qdm_ x.1 x.2.1
theorem qlu_  (J what n t35 t4) : pfn Tryd.prog q9u_ 6 18446744073709551616 (Ev.get q9x_) 51 q7w_ J 62 [] (qb7_ what n t35 t4) = qjc_ what n t35 t4 := by kernel_rfl
theorem qlx_ (J : Orc (As [.pr (.int .u8) (.pr (.int .u32) .str), .bool])) (x : As [.int .u8, .str]) : rfn Tryd.prog q9u_ 6 18446744073709551616 (Ev.get q9x_) 51 q7w_ J x = qjk_ (fun what n t35 t4 => J 62 [] (qb7_ what n t35 t4)) x.1 x.2.1 := by kernel_rfl
theorem qlv_  (what n t35 t4) : jfn Tryd.prog q9u_ 6 18446744073709551616 (Ev.get q9x_) 51 q7w_ 62 [] (qb7_ what n t35 t4) = qdm_ what n t35 t4 := by
  rw [qo_ (by decide)]
  rw [qlu_]
  rfl
theorem qma_ (x : As [.int .u8, .str]) : evT Tryd.prog q9u_ 6 18446744073709551616 (Ev.get q9x_) 51 q7w_ x = qb0_ x := by
  have e1 : (fun what n t35 t4 => (jfn Tryd.prog q9u_ 6 18446744073709551616 (Ev.get q9x_) 51 q7w_) 62 [] (qb7_ what n t35 t4)) = qdm_ := by funext what n t35 t4; exact qlv_ what n t35 t4
  rw [q56_, qlx_, e1]
  rfl
theorem qlw_ : CtOk Tryd.prog I0 51 ⟨q7w_, qb0_⟩ := ct_of_ev (env_cons qkb_ (env_cons qdw_ (env_cons strconv_ParseUint_ok_ok (env_cons strconv_ParseUint_er_ok env_nil)))) qma_
@[reducible] def qj0_ : Sh := ⟨[.d (.int .u8), .d (.str)], [], [.int .u8, .str], [.d (.pr (.int .u8) (.pr (.int .u32) .str)), .d (.bool)], [], 0, [.pr (.int .u8) (.pr (.int .u32) .str), .bool]⟩
def qls_ (what : Int) (rest : List UInt8) : Option (As [.pr (.int .u8) (.pr (.int .u32) .str), .bool]) :=
  some ((what, 0, []), eqs rest [], ())
def qct_ (x : As [.int .u8, .str]) : Option (As [.pr (.int .u8) (.pr (.int .u32) .str), .bool]) := qls_ x.1 x.2.1
theorem qlq_ : CtOk Tryd.prog I0 52 ⟨qj0_, qct_⟩ := ctn env_nil 6 fun J x => by kernel_rfl
@[reducible] def q5x_ : Sh := ⟨[.d (.str)], [], [.str], [.d (.pr (.int .u8) (.pr (.int .u32) .str)), .d (.int .i64)], [], 0, [.pr (.int .u8) (.pr (.int .u32) .str), .int .i64]⟩
def q6y_ : Env := (cts [(33, (⟨strings_CutPrefix_s, q5t_⟩ : Ct)), (34, (⟨q7t_, qaf_⟩ : Ct)), (50, (⟨qk2_, qja_⟩ : Ct)), (51, (⟨q7w_, qb0_⟩ : Ct)), (52, (⟨qj0_, qct_⟩ : Ct))])
def q6v_ : List (Nat × Hint) := [(3, ⟨[], [2]⟩), (26, ⟨[], [0, 2, 9, 10, 33, 34]⟩), (13519, ⟨[.agd 33 (.pr (.int .u8) (.pr (.int .u32) .str)), .agd 34 .bool], [0, 2, 8, 9, 10, 35]⟩)]
def q7z_ (line : List UInt8) (t9 : Int) (t9_2 : List UInt8) (t9_3 : Int) (t9_4 : List UInt8) (t9_5 : Int) (t9_6 : List UInt8) (t9_7 : Int) (t9_8 : List UInt8) (t9_9 : Int) (t9_10 : List UInt8) (t10 : Int) (t2 : Int × Int × List UInt8) : St := { fr := [(0, .d .str line), (2, .pb 0 0), (9, .agg [.d (.int .u8) t9, .d .str t9_2, .fn (.func 50) [] [], .d (.int .u8) t9_3, .d .str t9_4, .fn (.func 51) [] [], .d (.int .u8) t9_5, .d .str t9_6, .fn (.func 51) [] [], .d (.int .u8) t9_7, .d .str t9_8, .fn (.func 52) [] [], .d (.int .u8) t9_9, .d .str t9_10, .fn (.func 52) [] []]), (10, .d (.int .i64) t10)], nt := 39, up := [], own := [(0, .box 42 [.d (.int .u8) t2.1, .d (.int .u32) t2.2.1, .d .str t2.2.2])], nx := 1, log := [], ln := 0 }
def qfb_ (line : List UInt8) (t9 : Int) (t9_2 : List UInt8) (t9_3 : Int) (t9_4 : List UInt8) (t9_5 : Int) (t9_6 : List UInt8) (t9_7 : Int) (t9_8 : List UInt8) (t9_9 : Int) (t9_10 : List UInt8) (t10 : Int) (t35 : Bool) (t2 o : Int × Int × List UInt8) : St := { fr := [(0, .d .str line), (2, .pb 0 0), (8, .pb 1 0), (9, .agg [.d (.int .u8) t9, .d .str t9_2, .fn (.func 50) [] [], .d (.int .u8) t9_3, .d .str t9_4, .fn (.func 51) [] [], .d (.int .u8) t9_5, .d .str t9_6, .fn (.func 51) [] [], .d (.int .u8) t9_7, .d .str t9_8, .fn (.func 52) [] [], .d (.int .u8) t9_9, .d .str t9_10, .fn (.func 52) [] []]), (10, .d (.int .i64) t10), (35, .d .bool t35)], nt := 39, up := [], own := [(0, .box 42 [.d (.int .u8) t2.1, .d (.int .u32) t2.2.1, .d .str t2.2.2]), (1, .box 42 [.d (.int .u8) o.1, .d (.int .u32) o.2.1, .d .str o.2.2])], nx := 2, log := [], ln := 0 }
def qf6_ (t2 : Int × Int × List UInt8) : St := { fr := [(2, .pb 0 0)], nt := 39, up := [], own := [(0, .box 42 [.d (.int .u8) t2.1, .d (.int .u32) t2.2.1, .d .str t2.2.2])], nx := 1, log := [], ln := 0 }
def qkp_ (j2 : List UInt8 -> Int -> List UInt8 -> Int -> List UInt8 -> Int -> List UInt8 -> Int -> List UInt8 -> Int -> List UInt8 -> Int -> Bool -> Int × Int × List UInt8 -> Int × Int × List UInt8 -> Option (As [.pr (.int .u8) (.pr (.int .u32) .str), .int .i64])) (j3 : Int × Int × List UInt8 -> Option (As [.pr (.int .u8) (.pr (.int .u32) .str), .int .i64])) (self1 : List UInt8 -> Int -> List UInt8 -> Int -> List UInt8 -> Int -> List UInt8 -> Int -> List UInt8 -> Int -> List UInt8 -> Int -> Int × Int × List UInt8 -> Option (As [.pr (.int .u8) (.pr (.int .u32) .str), .int .i64])) (line : List UInt8) (t9 : Int) (t9_2 : List UInt8) (t9_3 : Int) (t9_4 : List UInt8) (t9_5 : Int) (t9_6 : List UInt8) (t9_7 : Int) (t9_8 : List UInt8) (t9_9 : Int) (t9_10 : List UInt8) (t10 : Int) (t2 : Int × Int × List UInt8) : Option (As [.pr (.int .u8) (.pr (.int .u32) .str), .int .i64]) :=
  if lt t10 5 = true then if eqi t10 4 = true then Option.bind (q5t_ (line, t9_10, ())) fun (y : List UInt8 × Bool × Unit) => if (!y.2.1) = true then self1 line t9 t9_2 t9_3 t9_4 t9_5 t9_6 t9_7 t9_8 t9_9 t9_10 (add .i64 t10 1) t2 else Option.bind (qct_ (t9_9, y.1, ())) fun (y : (Int × Int × List UInt8) × Bool × Unit) => if y.2.1 = true then Option.bind (qaf_ (y.1, ())) fun (y_1 : Bool × Unit) => j2 line t9 t9_2 t9_3 t9_4 t9_5 t9_6 t9_7 t9_8 t9_9 t9_10 t10 y_1.1 t2 y.1 else j2 line t9 t9_2 t9_3 t9_4 t9_5 t9_6 t9_7 t9_8 t9_9 t9_10 t10 false t2 y.1 else if eqi t10 3 = true then Option.bind (q5t_ (line, t9_8, ())) fun (y : List UInt8 × Bool × Unit) => if (!y.2.1) = true then self1 line t9 t9_2 t9_3 t9_4 t9_5 t9_6 t9_7 t9_8 t9_9 t9_10 (add .i64 t10 1) t2 else Option.bind (qct_ (t9_7, y.1, ())) fun (y : (Int × Int × List UInt8) × Bool × Unit) => if y.2.1 = true then Option.bind (qaf_ (y.1, ())) fun (y_1 : Bool × Unit) => j2 line t9 t9_2 t9_3 t9_4 t9_5 t9_6 t9_7 t9_8 t9_9 t9_10 t10 y_1.1 t2 y.1 else j2 line t9 t9_2 t9_3 t9_4 t9_5 t9_6 t9_7 t9_8 t9_9 t9_10 t10 false t2 y.1 else if eqi t10 2 = true then Option.bind (q5t_ (line, t9_6, ())) fun (y : List UInt8 × Bool × Unit) => if (!y.2.1) = true then self1 line t9 t9_2 t9_3 t9_4 t9_5 t9_6 t9_7 t9_8 t9_9 t9_10 (add .i64 t10 1) t2 else Option.bind (qb0_ (t9_5, y.1, ())) fun (y : (Int × Int × List UInt8) × Bool × Unit) => if y.2.1 = true then Option.bind (qaf_ (y.1, ())) fun (y_1 : Bool × Unit) => j2 line t9 t9_2 t9_3 t9_4 t9_5 t9_6 t9_7 t9_8 t9_9 t9_10 t10 y_1.1 t2 y.1 else j2 line t9 t9_2 t9_3 t9_4 t9_5 t9_6 t9_7 t9_8 t9_9 t9_10 t10 false t2 y.1 else if eqi t10 1 = true then Option.bind (q5t_ (line, t9_4, ())) fun (y : List UInt8 × Bool × Unit) => if (!y.2.1) = true then self1 line t9 t9_2 t9_3 t9_4 t9_5 t9_6 t9_7 t9_8 t9_9 t9_10 (add .i64 t10 1) t2 else Option.bind (qb0_ (t9_3, y.1, ())) fun (y : (Int × Int × List UInt8) × Bool × Unit) => if y.2.1 = true then Option.bind (qaf_ (y.1, ())) fun (y_1 : Bool × Unit) => j2 line t9 t9_2 t9_3 t9_4 t9_5 t9_6 t9_7 t9_8 t9_9 t9_10 t10 y_1.1 t2 y.1 else j2 line t9 t9_2 t9_3 t9_4 t9_5 t9_6 t9_7 t9_8 t9_9 t9_10 t10 false t2 y.1 else if eqi t10 0 = true then Option.bind (q5t_ (line, t9_2, ())) fun (y : List UInt8 × Bool × Unit) => if (!y.2.1) = true then self1 line t9 t9_2 t9_3 t9_4 t9_5 t9_6 t9_7 t9_8 t9_9 t9_10 (add .i64 t10 1) t2 else Option.bind (qja_ (t9, y.1, ())) fun (y : (Int × Int × List UInt8) × Bool × Unit) => if y.2.1 = true then Option.bind (qaf_ (y.1, ())) fun (y_1 : Bool × Unit) => j2 line t9 t9_2 t9_3 t9_4 t9_5 t9_6 t9_7 t9_8 t9_9 t9_10 t10 y_1.1 t2 y.1 else j2 line t9 t9_2 t9_3 t9_4 t9_5 t9_6 t9_7 t9_8 t9_9 t9_10 t10 false t2 y.1 else Option.none else j3 t2
def qkx_ (self1 : List UInt8 -> Int -> List UInt8 -> Int -> List UInt8 -> Int -> List UInt8 -> Int -> List UInt8 -> Int -> List UInt8 -> Int -> Int × Int × List UInt8 -> Option (As [.pr (.int .u8) (.pr (.int .u32) .str), .int .i64])) (line : List UInt8) (t9 : Int) (t9_2 : List UInt8) (t9_3 : Int) (t9_4 : List UInt8) (t9_5 : Int) (t9_6 : List UInt8) (t9_7 : Int) (t9_8 : List UInt8) (t9_9 : Int) (t9_10 : List UInt8) (t10 : Int) (t35 : Bool) (t2 o : Int × Int × List UInt8) : Option (As [.pr (.int .u8) (.pr (.int .u32) .str), .int .i64]) :=
  if t35 = true then some (o, 0, ()) else self1 line t9 t9_2 t9_3 t9_4 t9_5 t9_6 t9_7 t9_8 t9_9 t9_10 (add .i64 t10 1) t2
def qkw_ (t2 : Int × Int × List UInt8) : Option (As [.pr (.int .u8) (.pr (.int .u32) .str), .int .i64]) :=
  some ((0, 0, []), 280, ())
def qks_ (j1 : List UInt8 -> Int -> List UInt8 -> Int -> List UInt8 -> Int -> List UInt8 -> Int -> List UInt8 -> Int -> List UInt8 -> Int -> Int × Int × List UInt8 -> Option (As [.pr (.int .u8) (.pr (.int .u32) .str), .int .i64])) (line : List UInt8) : Option (As [.pr (.int .u8) (.pr (.int .u32) .str), .int .i64]) :=
  j1 line 1 [115, 117, 98, 109, 105, 116] 2 [99, 97, 110, 99, 101, 108] 3 [115, 116, 97, 116, 117, 115] 4 [104, 105, 115, 116, 111, 114, 121] 5 [115, 108, 97, 118, 101, 115] 0 (0, 0, [])
def qj8_ (u1 : List UInt8 -> Int -> List UInt8 -> Int -> List UInt8 -> Int -> List UInt8 -> Int -> List UInt8 -> Int -> List UInt8 -> Int -> Int × Int × List UInt8 -> Option (As [.pr (.int .u8) (.pr (.int .u32) .str), .int .i64])) (line : List UInt8) (t9 : Int) (t9_2 : List UInt8) (t9_3 : Int) (t9_4 : List UInt8) (t9_5 : Int) (t9_6 : List UInt8) (t9_7 : Int) (t9_8 : List UInt8) (t9_9 : Int) (t9_10 : List UInt8) (t10 : Int) (t35 : Bool) (t2 o : Int × Int × List UInt8) : Option (As [.pr (.int .u8) (.pr (.int .u32) .str), .int .i64]) := qkx_ u1 line t9 t9_2 t9_3 t9_4 t9_5 t9_6 t9_7 t9_8 t9_9 t9_10 t10 t35 t2 o
def qji_ (t2 : Int × Int × List UInt8) : Option (As [.pr (.int .u8) (.pr (.int .u32) .str), .int .i64]) := qkw_ t2
def qje_ (line : List UInt8) (t9 : Int) (t9_2 : List UInt8) (t9_3 : Int) (t9_4 : List UInt8) (t9_5 : Int) (t9_6 : List UInt8) (t9_7 : Int) (t9_8 : List UInt8) (t9_9 : Int) (t9_10 : List UInt8) (t10 : Int) (t2 : Int × Int × List UInt8) : Option (As [.pr (.int .u8) (.pr (.int .u32) .str), .int .i64]) :=
  loopF (fun (self : (List UInt8) × (Int) × (List UInt8) × (Int) × (List UInt8) × (Int) × (List UInt8) × (Int) × (List UInt8) × (Int) × (List UInt8) × (Int) × (Int × Int × List UInt8) -> Option (As [.pr (.int .u8) (.pr (.int .u32) .str), .int .i64])) (s : (List UInt8) × (Int) × (List UInt8) × (Int) × (List UInt8) × (Int) × (List UInt8) × (Int) × (List UInt8) × (Int) × (List UInt8) × (Int) × (Int × Int × List UInt8)) => qkp_ (qj8_ (fun line t9 t9_2 t9_3 t9_4 t9_5 t9_6 t9_7 t9_8 t9_9 t9_10 t10 t2 => self (line, t9, t9_2, t9_3, t9_4, t9_5, t9_6, t9_7, t9_8, t9_9, t9_10, t10, t2))) (qji_) (fun line t9 t9_2 t9_3 t9_4 t9_5 t9_6 t9_7 t9_8 t9_9 t9_10 t10 t2 => self (line, t9, t9_2, t9_3, t9_4, t9_5, t9_6, t9_7, t9_8, t9_9, t9_10, t10, t2)) s.1 s.2.1 s.2.2.1 s.2.2.2.1 s.2.2.2.2.1 s.2.2.2.2.2.1 s.2.2.2.2.2.2.1 s.2.2.2.2.2.2.2.1 s.2.2.2.2.2.2.2.2.1 s.2.2.2.2.2.2.2.2.2.1 s.2.2.2.2.2.2.2.2.2.2.1 s.2.2.2.2.2.2.2.2.2.2.2.1 s.2.2.2.2.2.2.2.2.2.2.2.2) 18446744073709551616 (line, t9, t9_2, t9_3, t9_4, t9_5, t9_6, t9_7, t9_8, t9_9, t9_10, t10, t2)
def qfz_ (x : As [.str]) : Option (As [.pr (.int .u8) (.pr (.int .u32) .str), .int .i64]) := qks_ qje_ x.1
theorem qng_  (J w1 line t9 t9_2 t9_3 t9_4 t9_5 t9_6 t9_7 t9_8 t9_9 t9_10 t10 t35 t2 o) : pfn Tryd.prog q6y_ 6 18446744073709551616 (Ev.get q6v_) 11 q5x_ J 13519 [w1] (qfb_ line t9 t9_2 t9_3 t9_4 t9_5 t9_6 t9_7 t9_8 t9_9 t9_10 t10 t35 t2 o) = qkx_ (fun line t9 t9_2 t9_3 t9_4 t9_5 t9_6 t9_7 t9_8 t9_9 t9_10 t10 t2 => w1 (q7z_ line t9 t9_2 t9_3 t9_4 t9_5 t9_6 t9_7 t9_8 t9_9 t9_10 t10 t2)) line t9 t9_2 t9_3 t9_4 t9_5 t9_6 t9_7 t9_8 t9_9 t9_10 t10 t35 t2 o := by kernel_rfl
theorem qn5_  (J t2) : pfn Tryd.prog q6y_ 6 18446744073709551616 (Ev.get q6v_) 11 q5x_ J 3 [] (qf6_ t2) = qkw_ t2 := by kernel_rfl
theorem qn4_  (J w1 line t9 t9_2 t9_3 t9_4 t9_5 t9_6 t9_7 t9_8 t9_9 t9_10 t10 t2) : pfn Tryd.prog q6y_ 6 18446744073709551616 (Ev.get q6v_) 11 q5x_ J 26 [w1] (q7z_ line t9 t9_2 t9_3 t9_4 t9_5 t9_6 t9_7 t9_8 t9_9 t9_10 t10 t2) = qkp_ (fun line t9 t9_2 t9_3 t9_4 t9_5 t9_6 t9_7 t9_8 t9_9 t9_10 t10 t35 t2 o => J 13519 [w1] (qfb_ line t9 t9_2 t9_3 t9_4 t9_5 t9_6 t9_7 t9_8 t9_9 t9_10 t10 t35 t2 o)) (fun t2 => J 3 [] (qf6_ t2)) (fun line t9 t9_2 t9_3 t9_4 t9_5 t9_6 t9_7 t9_8 t9_9 t9_10 t10 t2 => w1 (q7z_ line t9 t9_2 t9_3 t9_4 t9_5 t9_6 t9_7 t9_8 t9_9 t9_10 t10 t2)) line t9 t9_2 t9_3 t9_4 t9_5 t9_6 t9_7 t9_8 t9_9 t9_10 t10 t2 := by kernel_rfl
theorem qn1_ (J : Orc (As [.pr (.int .u8) (.pr (.int .u32) .str), .int .i64])) (x : As [.str]) : rfn Tryd.prog q6y_ 6 18446744073709551616 (Ev.get q6v_) 11 q5x_ J x = qks_ (fun line t9 t9_2 t9_3 t9_4 t9_5 t9_6 t9_7 t9_8 t9_9 t9_10 t10 t2 => J 26 [] (q7z_ line t9 t9_2 t9_3 t9_4 t9_5 t9_6 t9_7 t9_8 t9_9 t9_10 t10 t2)) x.1 := by kernel_rfl
theorem qnb_  (w1 line t9 t9_2 t9_3 t9_4 t9_5 t9_6 t9_7 t9_8 t9_9 t9_10 t10 t35 t2 o) : jfn Tryd.prog q6y_ 6 18446744073709551616 (Ev.get q6v_) 11 q5x_ 13519 [w1] (qfb_ line t9 t9_2 t9_3 t9_4 t9_5 t9_6 t9_7 t9_8 t9_9 t9_10 t10 t35 t2 o) = qj8_ (fun line t9 t9_2 t9_3 t9_4 t9_5 t9_6 t9_7 t9_8 t9_9 t9_10 t10 t2 => w1 (q7z_ line t9 t9_2 t9_3 t9_4 t9_5 t9_6 t9_7 t9_8 t9_9 t9_10 t10 t2)) line t9 t9_2 t9_3 t9_4 t9_5 t9_6 t9_7 t9_8 t9_9 t9_10 t10 t35 t2 o := by
  rw [qo_ (by decide)]
  rw [qng_]
  rfl
theorem qna_  (t2) : jfn Tryd.prog q6y_ 6 18446744073709551616 (Ev.get q6v_) 11 q5x_ 3 [] (qf6_ t2) = qji_ t2 := by
  rw [qo_ (by decide)]
  rw [qn5_]
  rfl
theorem qmz_  (line t9 t9_2 t9_3 t9_4 t9_5 t9_6 t9_7 t9_8 t9_9 t9_10 t10 t2) : jfn Tryd.prog q6y_ 6 18446744073709551616 (Ev.get q6v_) 11 q5x_ 26 [] (q7z_ line t9 t9_2 t9_3 t9_4 t9_5 t9_6 t9_7 t9_8 t9_9 t9_10 t10 t2) = qje_ line t9 t9_2 t9_3 t9_4 t9_5 t9_6 t9_7 t9_8 t9_9 t9_10 t10 t2 := by
  rw [qo_ (by decide)]
  rw [q2u_ (by kernel_rfl)]
  refine q29_ (σ := (List UInt8) × (Int) × (List UInt8) × (Int) × (List UInt8) × (Int) × (List UInt8) × (Int) × (List UInt8) × (Int) × (List UInt8) × (Int) × (Int × Int × List UInt8)) (mk := fun s => q7z_ s.1 s.2.1 s.2.2.1 s.2.2.2.1 s.2.2.2.2.1 s.2.2.2.2.2.1 s.2.2.2.2.2.2.1 s.2.2.2.2.2.2.2.1 s.2.2.2.2.2.2.2.2.1 s.2.2.2.2.2.2.2.2.2.1 s.2.2.2.2.2.2.2.2.2.2.1 s.2.2.2.2.2.2.2.2.2.2.2.1 s.2.2.2.2.2.2.2.2.2.2.2.2) (fun w1 s => ?_) 18446744073709551616 (line, t9, t9_2, t9_3, t9_4, t9_5, t9_6, t9_7, t9_8, t9_9, t9_10, t10, t2)
  have e2 : (fun line t9 t9_2 t9_3 t9_4 t9_5 t9_6 t9_7 t9_8 t9_9 t9_10 t10 t35 t2 o => (jfn Tryd.prog q6y_ 6 18446744073709551616 (Ev.get q6v_) 11 q5x_) 13519 [w1] (qfb_ line t9 t9_2 t9_3 t9_4 t9_5 t9_6 t9_7 t9_8 t9_9 t9_10 t10 t35 t2 o)) = qj8_ (fun line t9 t9_2 t9_3 t9_4 t9_5 t9_6 t9_7 t9_8 t9_9 t9_10 t10 t2 => w1 (q7z_ line t9 t9_2 t9_3 t9_4 t9_5 t9_6 t9_7 t9_8 t9_9 t9_10 t10 t2)) := by funext line t9 t9_2 t9_3 t9_4 t9_5 t9_6 t9_7 t9_8 t9_9 t9_10 t10 t35 t2 o; exact qnb_ w1 line t9 t9_2 t9_3 t9_4 t9_5 t9_6 t9_7 t9_8 t9_9 t9_10 t10 t35 t2 o
  have e3 : (fun t2 => (jfn Tryd.prog q6y_ 6 18446744073709551616 (Ev.get q6v_) 11 q5x_) 3 [] (qf6_ t2)) = qji_ := funext fun t2 => qna_ t2
  refine (qn4_ _ w1 s.1 s.2.1 s.2.2.1 s.2.2.2.1 s.2.2.2.2.1 s.2.2.2.2.2.1 s.2.2.2.2.2.2.1 s.2.2.2.2.2.2.2.1 s.2.2.2.2.2.2.2.2.1 s.2.2.2.2.2.2.2.2.2.1 s.2.2.2.2.2.2.2.2.2.2.1 s.2.2.2.2.2.2.2.2.2.2.2.1 s.2.2.2.2.2.2.2.2.2.2.2.2).trans ?_
  rw [e2, e3]
theorem qns_ (x : As [.str]) : evT Tryd.prog q6y_ 6 18446744073709551616 (Ev.get q6v_) 11 q5x_ x = qfz_ x := by
  have e1 : (fun line t9 t9_2 t9_3 t9_4 t9_5 t9_6 t9_7 t9_8 t9_9 t9_10 t10 t2 => (jfn Tryd.prog q6y_ 6 18446744073709551616 (Ev.get q6v_) 11 q5x_) 26 [] (q7z_ line t9 t9_2 t9_3 t9_4 t9_5 t9_6 t9_7 t9_8 t9_9 t9_10 t10 t2)) = qje_ := by funext line t9 t9_2 t9_3 t9_4 t9_5 t9_6 t9_7 t9_8 t9_9 t9_10 t10 t2; exact qmz_ line t9 t9_2 t9_3 t9_4 t9_5 t9_6 t9_7 t9_8 t9_9 t9_10 t10 t2
  rw [q56_, qn1_, e1]
  rfl
theorem qkr_ : CtOk Tryd.prog I0 11 ⟨q5x_, qfz_⟩ := ct_of_ev (env_cons qdw_ (env_cons qne_ (env_cons qmb_ (env_cons qlw_ (env_cons qlq_ env_nil))))) qns_
@[reducible] def qog_ : Sh := ⟨[.d (.str)], [], [.str], [.d (.bool)], [], 0, [.bool]⟩
def qo9_ (s : List UInt8) : Option (As [.bool]) :=
  Option.bind (qfz_ (s, ())) fun (y : (Int × Int × List UInt8) × Int × Unit) => if eqi y.2.1 280 = true then some (eqi y.1.1 0 && (eqi y.1.2.1 0 && (eqs y.1.2.2 [] && true)), ()) else some (false, ())
def qgk_ (x : As [.str]) : Option (As [.bool]) := qo9_ x.1
theorem qoc_ : CtOk Tryd.prog I0 12 ⟨qog_, qgk_⟩ := ctn (env_cons qkr_ env_nil) 6 fun J x => by kernel_rfl
@[reducible] def qmx_ : Sh := ⟨[.d (.pr (.int .i64) (.int .i64))], [], [.pr (.int .i64) (.int .i64)], [.d (.str)], [], 0, [.str]⟩
def qmn_ (f : Int × Int) : Option (As [.str]) :=
  Option.bind (strconv_Itoa (f.1, ())) fun (y : List UInt8 × Unit) => need (small (8 + List.length y.1)) (if gt f.2 0 = true then Option.bind (strconv_Itoa (f.2, ())) fun (y_1 : List UInt8 × Unit) => need (small (6 + List.length y_1.1)) (need (small (Nat.succ (Nat.succ (Nat.succ (Nat.succ (Nat.succ (Nat.succ (Nat.succ (Nat.succ (List.length y.1)))))))) + Nat.succ (Nat.succ (Nat.succ (Nat.succ (Nat.succ (Nat.succ (List.length y_1.1)))))))) (some (114 :: 101 :: 102 :: 117 :: 115 :: 101 :: 100 :: 32 :: (y.1 ++ (32 :: 108 :: 105 :: 110 :: 101 :: 32 :: y_1.1)), ()))) else some (114 :: 101 :: 102 :: 117 :: 115 :: 101 :: 100 :: 32 :: y.1, ()))
def qlt_ (x : As [.pr (.int .i64) (.int .i64)]) : Option (As [.str]) := qmn_ x.1
theorem qmq_ : CtOk Tryd.prog I0 13 ⟨qmx_, qlt_⟩ := ctn (env_cons strconv_Itoa_ok env_nil) 6 fun J x => by kernel_rfl
@[reducible] def qm1_ : Sh := ⟨[], [], [], [.d (.bool)], [], 0, [.bool]⟩
def qnr_ : Option (As [.bool]) :=
  Option.bind (qfz_ ([115, 117, 98, 109, 105, 116, 32, 114, 101, 99, 105, 112, 101, 32, 97, 92, 110, 115, 108, 97, 118, 101, 32, 98, 92, 110, 101, 110, 100], ())) fun (y : (Int × Int × List UInt8) × Int × Unit) => Option.bind (qfz_ ([99, 97, 110, 99, 101, 108, 32, 55], ())) fun (y_1 : (Int × Int × List UInt8) × Int × Unit) => if eqi y.2.1 0 = true then if (eqi y.1.1 1 && (eqi y.1.2.1 0 && (eqs y.1.2.2 [114, 101, 99, 105, 112, 101, 32, 97, 10, 115, 108, 97, 118, 101, 32, 98, 10, 101, 110, 100] && true))) = true then if eqi y_1.2.1 0 = true then if (eqi y_1.1.1 2 && (eqi y_1.1.2.1 7 && (eqs y_1.1.2.2 [] && true))) = true then Option.bind (qgk_ ([99, 97, 110, 99, 101, 108, 32, 48, 55], ())) fun (y : Bool × Unit) => if y.1 = true then Option.bind (qgk_ ([99, 97, 110, 99, 101, 108], ())) fun (y : Bool × Unit) => if y.1 = true then Option.bind (qgk_ ([115, 116, 97, 116, 117, 115, 32, 48], ())) fun (y : Bool × Unit) => if y.1 = true then Option.bind (qgk_ ([104, 105, 115, 116, 111, 114, 121, 32], ())) fun (y : Bool × Unit) => if y.1 = true then Option.bind (qgk_ ([115, 117, 98, 109, 105, 116], ())) fun (y : Bool × Unit) => if y.1 = true then Option.bind (q8s_ ([(5, 1, [], 1), (7, 1, [], 2)], [7], 5, ())) fun (y : List UInt8 × Unit) => if eqs y.1 [114, 117, 110, 110, 105, 110, 103] = true then Option.bind (q8s_ ([(5, 1, [], 1), (7, 1, [], 2)], [7], 7, ())) fun (y : List UInt8 × Unit) => if eqs y.1 [99, 111, 109, 109, 105, 116, 116, 101, 100] = true then Option.bind (q8s_ ([(5, 1, [], 1), (7, 1, [], 2)], [], 9, ())) fun (y : List UInt8 × Unit) => if eqs y.1 [117, 110, 107, 110, 111, 119, 110] = true then Option.bind (qlt_ ((140, 3), ())) fun (y : List UInt8 × Unit) => some (eqs y.1 [114, 101, 102, 117, 115, 101, 100, 32, 49, 52, 48, 32, 108, 105, 110, 101, 32, 51], ()) else some (false, ()) else some (false, ()) else some (false, ()) else some (false, ()) else some (false, ()) else some (false, ()) else some (false, ()) else some (false, ()) else some (false, ()) else some (false, ()) else some (false, ()) else some (false, ())
def qba_ (x : As []) : Option (As [.bool]) := qnr_
theorem qnx_ : CtOk Tryd.prog I0 4 ⟨qm1_, qba_⟩ := ctn (env_cons qlp_ (env_cons qkr_ (env_cons qoc_ (env_cons qmq_ env_nil)))) 6 fun J x => by kernel_rfl
@[reducible] def qly_ : Sh := ⟨[.d (.int .u8)], [], [.int .u8], [.d (.pr .bool (.pr .bool .bool)), .d (.bool)], [], 0, [.pr .bool (.pr .bool .bool), .bool]⟩
def qjs_ (what : Int) : Option (As [.pr .bool (.pr .bool .bool), .bool]) :=
  some (Ev.gdV (.pr .bool (.pr .bool .bool)) (if eqi 1 what = true then some (false, false, false) else if eqi 2 what = true then some (true, false, true) else if eqi 3 what = true then some (false, true, false) else if eqi 4 what = true then some (false, false, false) else Option.none) (false, false, false), Ev.isV (.pr .bool (.pr .bool .bool)) (if eqi 1 what = true then some (false, false, false) else if eqi 2 what = true then some (true, false, true) else if eqi 3 what = true then some (false, true, false) else if eqi 4 what = true then some (false, false, false) else Option.none), ())
def qju_ (x : As [.int .u8]) : Option (As [.pr .bool (.pr .bool .bool), .bool]) := qjs_ x.1
theorem qnw_ : CtOk Tryd.prog I0 56 ⟨qly_, qju_⟩ := ctn env_nil 6 fun J x => by kernel_rfl
@[reducible] def qaw_ : Sh := ⟨[.d (.pr (.int .u8) TFT3)], [], [.pr (.int .u8) TFT3], [.d (.bool)], [], 0, [.bool]⟩
def qdy_ : Env := (cts [(56, (⟨qly_, qju_⟩ : Ct))])
def qee_ : List (Nat × Hint) := [(14, ⟨[], [1, 3, 29, 35, 36, 37, 38, 39, 40, 41, 42]⟩)]
def qgb_ (t29 : Bool) (x : Int × Int × Int × Bool × List Int) (f : Bool × Bool × Bool) : St := { fr := [(1, .pb 0 0), (3, .pb 1 0), (29, .d .bool t29)], nt := 44, up := [], own := [(0, .box 29 [.d (.int .u8) x.1, .d (.int .u32) x.2.1, .d (.int .u8) x.2.2.1, .d .bool x.2.2.2.1, .d (.sl (.int .u8)) x.2.2.2.2]), (1, .box 102 [.d .bool f.1, .d .bool f.2.1, .d .bool f.2.2])], nx := 2, log := [], ln := 0 }
def qjq_ (t29 : Bool) (x : Int × Int × Int × Bool × List Int) (f : Bool × Bool × Bool) : Option (As [.bool]) :=
  if t29 = true then some (false, ()) else if eqi (Int.ofNat (List.length x.2.2.2.2)) 0 = true then some (true, ()) else if f.2.2 = true then some (le (Int.ofNat (List.length x.2.2.2.2)) 8192, ()) else some (false, ())
def qgo_ (j1 : Bool -> Int × Int × Int × Bool × List Int -> Bool × Bool × Bool -> Option (As [.bool])) (x : Int × Int × Int × Bool × List Int) : Option (As [.bool]) :=
  Option.bind (qju_ (x.1, ())) fun (y : (Bool × Bool × Bool) × Bool × Unit) => if (!y.2.1) = true then j1 true x y.1 else if Sx.neb y.1.1 (gt x.2.2.1 0) = true then j1 true x y.1 else if x.2.2.2.1 = true then j1 (!y.1.2.1) x y.1 else j1 false x y.1
def qbe_ (t29 : Bool) (x : Int × Int × Int × Bool × List Int) (f : Bool × Bool × Bool) : Option (As [.bool]) := qjq_ t29 x f
def qhq_ (x : As [.pr (.int .u8) TFT3]) : Option (As [.bool]) := qgo_ qbe_ x.1
theorem qnt_  (J t29 x f) : pfn Tryd.prog qdy_ 6 18446744073709551616 (Ev.get qee_) 36 qaw_ J 14 [] (qgb_ t29 x f) = qjq_ t29 x f := by kernel_rfl
theorem qnm_ (J : Orc (As [.bool])) (x : As [.pr (.int .u8) TFT3]) : rfn Tryd.prog qdy_ 6 18446744073709551616 (Ev.get qee_) 36 qaw_ J x = qgo_ (fun t29 x f => J 14 [] (qgb_ t29 x f)) x.1 := by kernel_rfl
theorem qnu_  (t29 x f) : jfn Tryd.prog qdy_ 6 18446744073709551616 (Ev.get qee_) 36 qaw_ 14 [] (qgb_ t29 x f) = qbe_ t29 x f := by
  rw [qo_ (by decide)]
  rw [qnt_]
  rfl
theorem qo1_ (x : As [.pr (.int .u8) TFT3]) : evT Tryd.prog qdy_ 6 18446744073709551616 (Ev.get qee_) 36 qaw_ x = qhq_ x := by
  have e1 : (fun t29 x f => (jfn Tryd.prog qdy_ 6 18446744073709551616 (Ev.get qee_) 36 qaw_) 14 [] (qgb_ t29 x f)) = qbe_ := by funext t29 x f; exact qnu_ t29 x f
  rw [q56_, qnm_, e1]
  rfl
theorem qnj_ : CtOk Tryd.prog I0 36 ⟨qaw_, qhq_⟩ := ct_of_ev (env_cons qnw_ env_nil) qo1_
@[reducible] def qb8_ : Sh := ⟨[.d (.sl (.int .u8))], [], [.sl (.int .u8)], [.d (.sl (.int .u8))], [], 0, [.sl (.int .u8)]⟩
def qd8_ (s : List Int) : Option (As [.sl (.int .u8)]) :=
  if eqi (Int.ofNat (List.length s)) 0 = true then amb (eqAs qb8_.rs) [some ([], ()), need (small (0 + List.length s)) (some (s, ()))] else need (small (0 + List.length s)) (some (s, ()))
def q92_ (x : As [.sl (.int .u8)]) : Option (As [.sl (.int .u8)]) := qd8_ x.1
theorem qiw_ : CtOk Tryd.prog I0 37 ⟨qb8_, q92_⟩ := ctn env_nil 6 fun J x => by kernel_rfl
@[reducible] def q9j_ : Sh := ⟨[.row 0, .d (.pr (.int .u8) TFT3), .mp 1], [.row TFT0 34, .dm TFT4 (.int .u8)], [.pr (.int .u8) TFT3, .sl TFT0, .sl (.pr TFT4 (.int .u8))], [.d (.sl TFT0), .d (.bool)], [(1, .dm TFT4 (.int .u8))], 0, [.sl TFT0, .bool, .sl (.pr TFT4 (.int .u8))]⟩
def qal_ : Env := (cts [(17, (⟨q9h_, qe8_⟩ : Ct)), (36, (⟨qaw_, qhq_⟩ : Ct)), (37, (⟨qb8_, q92_⟩ : Ct))])
def qao_ : List (Nat × Hint) := [(245, ⟨[], [0, 2, 4, 8, 47, 48, 49, 50]⟩), (1966, ⟨[], [0, 4, 9, 51]⟩)]
def qi8_ (last : Int) (l : List TFT1) (m : List TFT2) (x : Int × Int × Int × Bool × List Int) : St := { fr := [(0, .row 0), (2, .mp 1), (4, .pb 2 0), (8, .d (.int .u32) last)], nt := 96, up := [], own := [(0, .row TFT0 34 l), (1, .dm TFT4 (.int .u8) m), (2, .box 29 [.d (.int .u8) x.1, .d (.int .u32) x.2.1, .d (.int .u8) x.2.2.1, .d .bool x.2.2.2.1, .d (.sl (.int .u8)) x.2.2.2.2])], nx := 3, log := [], ln := 2 }
def qia_ (stand : Int) (t51 : Bool) (l : List TFT1) (o : List TFT2) (x : Int × Int × Int × Bool × List Int) : St := { fr := [(0, .row 0), (4, .pb 2 0), (9, .d (.int .u8) stand), (51, .d .bool t51)], nt := 96, up := [], own := [(0, .row TFT0 34 l), (1, .dm TFT4 (.int .u8) o), (2, .box 29 [.d (.int .u8) x.1, .d (.int .u32) x.2.1, .d (.int .u8) x.2.2.1, .d .bool x.2.2.2.1, .d (.sl (.int .u8)) x.2.2.2.2])], nx := 3, log := [], ln := 2 }
def qjz_ (j2 : Int -> Bool -> List TFT1 -> List TFT2 -> Int × Int × Int × Bool × List Int -> Option (As [.sl TFT0, .bool, .sl (.pr TFT4 (.int .u8))])) (last : Int) (l : List TFT1) (m : List TFT2) (x : Int × Int × Int × Bool × List Int) : Option (As [.sl TFT0, .bool, .sl (.pr TFT4 (.int .u8))]) :=
  if (!Ev.isV (.int .u8) (Ev.dget TFT4 m (x.1, x.2.2.2.1, 0))) = true then j2 (Ev.gdV (.int .u8) (Ev.dget TFT4 m (x.1, x.2.2.2.1, 0)) 0) true l m x else j2 (Ev.gdV (.int .u8) (Ev.dget TFT4 m (x.1, x.2.2.2.1, 0)) 0) (le x.2.1 last) l m x
def qk0_ (stand : Int) (t51 : Bool) (l : List TFT1) (o : List TFT2) (x : Int × Int × Int × Bool × List Int) : Option (As [.sl TFT0, .bool, .sl (.pr TFT4 (.int .u8))]) :=
  if t51 = true then some ([], false, o, ()) else Option.bind (q92_ (x.2.2.2.2, ())) fun (y : List Int × Unit) => need (small (List.length l + Nat.succ 0)) (some (l ++ [(x.2.1, x.2.2.1, y.1, stand)], true, o, ()))
def qib_ (j1 : Int -> List TFT1 -> List TFT2 -> Int × Int × Int × Bool × List Int -> Option (As [.sl TFT0, .bool, .sl (.pr TFT4 (.int .u8))])) (l : Int × Int × Int × Bool × List Int) (x : List TFT1) (m : List TFT2) : Option (As [.sl TFT0, .bool, .sl (.pr TFT4 (.int .u8))]) :=
  Option.bind (qhq_ (l, ())) fun (y : Bool × Unit) => if (!y.1) = true then some ([], false, m, ()) else if eqi l.1 1 = true then some (x, true, m, ()) else if eqi l.1 2 = true then if gt (Int.ofNat (List.length x)) 0 = true then Option.bind (at? x (Sx.sub .i64 (Int.ofNat (List.length x)) 1)) fun (x_1 : q5w_) => Option.bind (at? x (Sx.sub .i64 (Int.ofNat (List.length x)) 1)) fun (y : q5w_) => j1 y.1 x m l else j1 0 x m l else Option.bind (qe8_ (l.2.1, x, ())) fun (y : Int × Bool × List TFT1 × Unit) => if (!y.2.1) = true then some ([], false, m, ()) else Option.bind (at? y.2.2.1 y.1) fun (x_1 : q5w_) => Option.bind (at? y.2.2.1 y.1) fun (y_1 : q5w_) => if (!Ev.isV (.int .u8) (Ev.dget TFT4 m (l.1, l.2.2.2.1, y_1.2.2.2))) = true then some ([], false, m, ()) else Option.bind (at? y.2.2.1 y.1) fun (x : q5w_) => Option.bind (at? y.2.2.1 y.1) fun (x : q5w_) => some (List.set y.2.2.1 (Int.toNat y.1) (x.1, x.2.1, x.2.2.1, Ev.gdV (.int .u8) (Ev.dget TFT4 m (l.1, l.2.2.2.1, y_1.2.2.2)) 0), true, m, ())
def qe6_ (stand : Int) (t51 : Bool) (l : List TFT1) (o : List TFT2) (x : Int × Int × Int × Bool × List Int) : Option (As [.sl TFT0, .bool, .sl (.pr TFT4 (.int .u8))]) := qk0_ stand t51 l o x
def qc0_ (last : Int) (l : List TFT1) (m : List TFT2) (x : Int × Int × Int × Bool × List Int) : Option (As [.sl TFT0, .bool, .sl (.pr TFT4 (.int .u8))]) := qjz_ (qe6_) last l m x
def q8_ (x : As [.pr (.int .u8) TFT3, .sl TFT0, .sl (.pr TFT4 (.int .u8))]) : Option (As [.sl TFT0, .bool, .sl (.pr TFT4 (.int .u8))]) := qib_ qc0_ x.1 x.2.1 x.2.2.1
theorem qoa_  (J stand t51 l o x) : pfn Tryd.prog qal_ 6 18446744073709551616 (Ev.get qao_) 14 q9j_ J 1966 [] (qia_ stand t51 l o x) = qk0_ stand t51 l o x := by kernel_rfl
theorem qo5_  (J last l m x) : pfn Tryd.prog qal_ 6 18446744073709551616 (Ev.get qao_) 14 q9j_ J 245 [] (qi8_ last l m x) = qjz_ (fun stand t51 l o x => J 1966 [] (qia_ stand t51 l o x)) last l m x := by kernel_rfl
theorem qo0_ (J : Orc (As [.sl TFT0, .bool, .sl (.pr TFT4 (.int .u8))])) (x : As [.pr (.int .u8) TFT3, .sl TFT0, .sl (.pr TFT4 (.int .u8))]) : rfn Tryd.prog qal_ 6 18446744073709551616 (Ev.get qao_) 14 q9j_ J x = qib_ (fun last l m x => J 245 [] (qi8_ last l m x)) x.1 x.2.1 x.2.2.1 := by kernel_rfl
theorem qnz_  (stand t51 l o x) : jfn Tryd.prog qal_ 6 18446744073709551616 (Ev.get qao_) 14 q9j_ 1966 [] (qia_ stand t51 l o x) = qe6_ stand t51 l o x := by
  rw [qo_ (by decide)]
  rw [qoa_]
  rfl
theorem qod_  (last l m x) : jfn Tryd.prog qal_ 6 18446744073709551616 (Ev.get qao_) 14 q9j_ 245 [] (qi8_ last l m x) = qc0_ last l m x := by
  rw [qo_ (by decide)]
  have e2 : (fun stand t51 l o x => (jfn Tryd.prog qal_ 6 18446744073709551616 (Ev.get qao_) 14 q9j_) 1966 [] (qia_ stand t51 l o x)) = qe6_ := by funext stand t51 l o x; exact qnz_ stand t51 l o x
  rw [qo5_, e2]
  rfl
theorem qoe_ (x : As [.pr (.int .u8) TFT3, .sl TFT0, .sl (.pr TFT4 (.int .u8))]) : evT Tryd.prog qal_ 6 18446744073709551616 (Ev.get qao_) 14 q9j_ x = q8_ x := by
  have e1 : (fun last l m x => (jfn Tryd.prog qal_ 6 18446744073709551616 (Ev.get qao_) 14 q9j_) 245 [] (qi8_ last l m x)) = qc0_ := by funext last l m x; exact qod_ last l m x
  rw [q56_, qo0_, e1]
  rfl
theorem qo6_ : CtOk Tryd.prog I0 14 ⟨q9j_, q8_⟩ := ct_of_ev (env_cons qka_ (env_cons qnj_ (env_cons qiw_ env_nil))) qoe_
@[reducible] def qd6_ : Sh := ⟨[.d (.sl TFT0)], [], [.sl TFT0], [.row 0], [(0, .row TFT0 34)], 1, [.sl TFT0]⟩
def qfw_ : Env := (cts [(37, (⟨qb8_, q92_⟩ : Ct))])
def qg3_ : List (Nat × Hint) := [(58, ⟨[], [3, 12, 13, 14]⟩)]
def qc1_ (t12 : List TFT1) (t13 t14 : Int) (r : List TFT1) : St := { fr := [(3, .row 0), (12, .d (.sl TFT0) t12), (13, .d (.int .i64) t13), (14, .d (.int .i64) t14)], nt := 29, up := [], own := [(0, .row TFT0 34 r)], nx := 1, log := [], ln := 0 }
def qc2_ (self1 : List TFT1 -> Int -> Int -> List TFT1 -> Option (As [.sl TFT0])) (t12 : List TFT1) (t13 t14 : Int) (r : List TFT1) : Option (As [.sl TFT0]) :=
  if lt t14 t13 = true then Option.bind (at? t12 t14) fun (y : q5w_) => Option.bind (q92_ (y.2.2.1, ())) fun (y_1 : List Int × Unit) => Option.bind (at? r t14) fun (x : q5w_) => Option.bind (at? r t14) fun (x : q5w_) => self1 t12 t13 (add .i64 t14 1) (List.set r (Int.toNat t14) (y.1, y.2.1, y_1.1, y.2.2.2)) else some (r, ())
def qi9_ (j1 : List TFT1 -> Int -> Int -> List TFT1 -> Option (As [.sl TFT0])) (l : List TFT1) : Option (As [.sl TFT0]) :=
  need (Ev.capOk (Int.ofNat (List.length l)) (add .i64 (Int.ofNat (List.length l)) 1)) (need (small (Int.toNat (add .i64 (Int.ofNat (List.length l)) 1))) (j1 l (Int.ofNat (List.length l)) 0 (List.replicate (Int.toNat (Int.ofNat (List.length l))) (0, 0, [], 0))))
def qeb_ (t12 : List TFT1) (t13 t14 : Int) (r : List TFT1) : Option (As [.sl TFT0]) :=
  loopF (fun (self : (List TFT1) × (Int) × (Int) × (List TFT1) -> Option (As [.sl TFT0])) (s : (List TFT1) × (Int) × (Int) × (List TFT1)) => qc2_ (fun t12 t13 t14 r => self (t12, t13, t14, r)) s.1 s.2.1 s.2.2.1 s.2.2.2) 18446744073709551616 (t12, t13, t14, r)
def qk3_ (x : As [.sl TFT0]) : Option (As [.sl TFT0]) := qi9_ qeb_ x.1
theorem qob_  (J w1 t12 t13 t14 r) : pfn Tryd.prog qfw_ 6 18446744073709551616 (Ev.get qg3_) 15 qd6_ J 58 [w1] (qc1_ t12 t13 t14 r) = qc2_ (fun t12 t13 t14 r => w1 (qc1_ t12 t13 t14 r)) t12 t13 t14 r := by kernel_rfl
theorem qo2_ (J : Orc (As [.sl TFT0])) (x : As [.sl TFT0]) : rfn Tryd.prog qfw_ 6 18446744073709551616 (Ev.get qg3_) 15 qd6_ J x = qi9_ (fun t12 t13 t14 r => J 58 [] (qc1_ t12 t13 t14 r)) x.1 := by kernel_rfl
theorem qo4_  (t12 t13 t14 r) : jfn Tryd.prog qfw_ 6 18446744073709551616 (Ev.get qg3_) 15 qd6_ 58 [] (qc1_ t12 t13 t14 r) = qeb_ t12 t13 t14 r := by
  rw [qo_ (by decide)]
  rw [q2u_ (by kernel_rfl)]
  refine q29_ (σ := (List TFT1) × (Int) × (Int) × (List TFT1)) (mk := fun s => qc1_ s.1 s.2.1 s.2.2.1 s.2.2.2) (fun w1 s => ?_) 18446744073709551616 (t12, t13, t14, r)
  refine (qob_ _ w1 s.1 s.2.1 s.2.2.1 s.2.2.2).trans ?_
  rfl
theorem qoh_ (x : As [.sl TFT0]) : evT Tryd.prog qfw_ 6 18446744073709551616 (Ev.get qg3_) 15 qd6_ x = qk3_ x := by
  have e1 : (fun t12 t13 t14 r => (jfn Tryd.prog qfw_ 6 18446744073709551616 (Ev.get qg3_) 15 qd6_) 58 [] (qc1_ t12 t13 t14 r)) = qeb_ := by funext t12 t13 t14 r; exact qo4_ t12 t13 t14 r
  rw [q56_, qo2_, e1]
  rfl
theorem qo8_ : CtOk Tryd.prog I0 15 ⟨qd6_, qk3_⟩ := ct_of_ev (env_cons qiw_ env_nil) qoh_
end Go.Proofs.Lx
end
