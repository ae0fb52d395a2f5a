/- Proved in the last of these 11 parts (this is part 8): StatusTells: whatever the line, the order, the ledger, the numbers that wait, the number and the fault, the law returns true.. Conditions: those of the given statement, and no others. -/
import Derived.Test.YtlpbpoknpjgnbaaGreatDoorPartg
import Derived.Sort.Walk13a
import Derived.Sort.LotB
import Derived.Sort.AssemblyPlain
import Derived.Shelf.SlIter.Collect
import Derived.RangeFuncBox
import Derived.RangeFuncLeaves
import Derived.WalkKit
import Derived.OwnWalkIn
import Derived.TacticsInMore
import Derived.LoopNIn
import Derived.LoopIn
import Derived.Test.YtlpbpoknpjgnbaaGreatDoorParte
set_option linter.unusedVariables false
set_option linter.unusedSimpArgs false
set_option linter.unusedSectionVars false
section
set_option maxRecDepth 100000
namespace Go.Proofs.Lx
open Go Ev Sx Pl
theorem partialIns_size (a b : Nat) : ∀ (s i : Nat) (d : Array Int), (Sort.partialIns Sort.ltInt a b s i d).1.size = d.size
  | 0, _, _ => rfl
  | s + 1, i, d => by
    unfold Sort.partialIns
    dsimp only
    split
    · rfl
    · split
      · rfl
      · rw [partialIns_size a b s]
        have h1 : ∀ (i : Nat) (D : Array Int), (if i - a ≥ 2 then Sort.shiftDown Sort.ltInt (i - 1) D else D).size = D.size := fun i D => by
          split
          · exact shiftDown_size _ _
          · rfl
        have h2 : ∀ (i : Nat) (D : Array Int), (if b - i ≥ 2 then Sort.shiftUp Sort.ltInt b (i + 1) D else D).size = D.size := fun i D => by
          split
          · exact shiftUp_size b b _ _ (by omega)
          · rfl
        rw [h2, h1, q1s_]
theorem partLoop_rng (a : Nat) : ∀ (k i j : Nat) (d : Array Int), j + 1 - i ≤ k -> 1 ≤ i -> i ≤ j + 1 -> i ≤ (Sort.partLoop Sort.ltInt a i j d).1 + 1 ∧ (Sort.partLoop Sort.ltInt a i j d).1 ≤ j ∧ (Sort.partLoop Sort.ltInt a i j d).2.size = d.size
  | k, i, j, d, hk, hi, hij => by
    obtain ⟨f1, f2, f3, f4⟩ := facts (p := upP d a) (q := dnP d a) (fun _ => rfl) d hi hij
    have f5 := (Sort.scanDown_spec (dnP d a) d (Sort.scanUp (upP d a) d j i) j).2.1 f2
    rw [Sort.partLoop_eq]
    generalize Sort.scanUp (upP d a) d j i = i2 at f1 f2 f3 f4 f5 ⊢
    generalize Sort.scanDown (dnP d a) d i2 j = j2 at f3 f4 f5 ⊢
    by_cases h : i2 > j2
    · rw [if_pos h]
      exact ⟨by show i ≤ j2 + 1; omega, f3, rfl⟩
    · have h4 := f4 h
      rw [if_neg h]
      cases k with
      | zero => omega
      | succ k =>
        obtain ⟨g1, g2, g3⟩ := partLoop_rng a k (i2 + 1) (j2 - 1) (Sort.swp d i2 j2) (by omega) (by omega) (by omega)
        exact ⟨by omega, by omega, by rw [g3, q1s_]⟩
theorem partition_rng {d : Array Int} {a b pivot : Nat} (hp : a ≤ pivot) (hpb : pivot < b) : a ≤ (Sort.partition Sort.ltInt d a b pivot).1 ∧ (Sort.partition Sort.ltInt d a b pivot).1 < b ∧ (Sort.partition Sort.ltInt d a b pivot).2.2.size = d.size := by
  rw [Sort.partition_fst, Sort.partition_arr, q1s_]
  obtain ⟨g1, g2, g3⟩ := partLoop_rng a b (a + 1) (b - 1) (Sort.swp d a pivot) (by omega) (by omega) (by omega)
  exact ⟨by omega, by omega, by rw [g3, q1s_]⟩
theorem partEq_rng (a : Nat) : ∀ (k i j : Nat) (d : Array Int), j + 1 - i ≤ k -> 1 ≤ i -> i ≤ j + 1 -> i ≤ (Sort.partEqLoop Sort.ltInt a i j d).1 ∧ (Sort.partEqLoop Sort.ltInt a i j d).1 ≤ j + 1 ∧ (Sort.partEqLoop Sort.ltInt a i j d).2.size = d.size
  | k, i, j, d, hk, hi, hij => by
    obtain ⟨f1, f2, f3, f4⟩ := facts (p := upE d a) (q := dnE d a) (fun x => by simp [dnE, upE]) d hi hij
    rw [Sort.partEqLoop_eq]
    generalize Sort.scanUp (upE d a) d j i = i2 at f1 f2 f3 f4 ⊢
    generalize Sort.scanDown (dnE d a) d i2 j = j2 at f3 f4 ⊢
    by_cases h : i2 > j2
    · rw [if_pos h]
      exact ⟨f1, f2, rfl⟩
    · have h4 := f4 h
      rw [if_neg h]
      cases k with
      | zero => omega
      | succ k =>
        obtain ⟨g1, g2, g3⟩ := partEq_rng a k (i2 + 1) (j2 - 1) (Sort.swp d i2 j2) (by omega) (by omega) (by omega)
        exact ⟨by omega, by omega, by rw [g3, q1s_]⟩
theorem parteq_rng {d : Array Int} {a b pivot : Nat} (hp : a ≤ pivot) (hpb : pivot < b) : a < (Sort.partitionEqual Sort.ltInt d a b pivot).1 ∧ (Sort.partitionEqual Sort.ltInt d a b pivot).1 ≤ b ∧ (Sort.partitionEqual Sort.ltInt d a b pivot).2.size = d.size := by
  unfold Sort.partitionEqual
  obtain ⟨g1, g2, g3⟩ := partEq_rng a b (a + 1) (b - 1) (Sort.swp d a pivot) (by omega) (by omega) (by omega)
  exact ⟨by omega, by omega, by rw [g3, q1s_]⟩
theorem pdq_size : ∀ (N : Nat) (d : Array Int) (a b lim : Nat) (wb wp : Bool), b - a ≤ N -> a ≤ b -> b ≤ d.size -> (Sort.pdq Sort.ltInt d a b lim wb wp).size = d.size
  | N, d, a, b, lim, wb, wp, hN, hab, hb => by
    rw [Sort.pdq_unfold]
    by_cases h12 : b - a ≤ 12
    · rw [if_pos h12]; exact (Sort.insertionSort_holds Sort.swo_ltInt d a b hab hb).1.1
    rw [if_neg h12]
    by_cases h0 : lim = 0
    · rw [if_pos h0]; exact (Sort.heapSort_holds Sort.swo_ltInt d a b hab hb).1.1
    rw [if_neg h0]
    have hlt : a < b := by omega
    have s1 : (Sort.rd Sort.ltInt d a b lim wb wp).d1.size = d.size := by
      show (if (!wb) = true then Sort.breakPatterns d a b else d).size = d.size
      split
      · exact (Sort.breakPatterns_holds d a b hab hb).1
      · rfl
    have c1 : a ≤ (Sort.rd Sort.ltInt d a b lim wb wp).c.1 ∧ (Sort.rd Sort.ltInt d a b lim wb wp).c.1 < b := Sort.choosePivot_holds Sort.ltInt _ a b hlt
    have s2 : (Sort.rd Sort.ltInt d a b lim wb wp).d2.size = d.size := by
      show (if (Sort.rd Sort.ltInt d a b lim wb wp).c.2 = .decreasing then Sort.reverseRange (Sort.rd Sort.ltInt d a b lim wb wp).d1 a b else (Sort.rd Sort.ltInt d a b lim wb wp).d1).size = d.size
      split
      · rw [(Sort.reverseRange_holds _ a b hab (by rw [s1]; exact hb)).1, s1]
      · exact s1
    have pv : a ≤ (Sort.rd Sort.ltInt d a b lim wb wp).pivot ∧ (Sort.rd Sort.ltInt d a b lim wb wp).pivot < b := Sort.pivot_range c1.1 c1.2 ((Sort.rd Sort.ltInt d a b lim wb wp).c.2 = .decreasing)
    have s3 : (Sort.rd Sort.ltInt d a b lim wb wp).pi.1.size = d.size := by
      show (if (wb && wp && decide ((Sort.rd Sort.ltInt d a b lim wb wp).hint = .increasing)) = true then Sort.partialInsertionSort Sort.ltInt (Sort.rd Sort.ltInt d a b lim wb wp).d2 a b else ((Sort.rd Sort.ltInt d a b lim wb wp).d2, false)).1.size = d.size
      split
      · unfold Sort.partialInsertionSort; rw [partialIns_size]; exact s2
      · exact s2
    generalize Sort.rd Sort.ltInt d a b lim wb wp = r at s1 c1 s2 pv s3 ⊢
    obtain ⟨g1, g2, g3⟩ := parteq_rng (d := r.pi.1) pv.1 pv.2
    obtain ⟨g4, g5, g6⟩ := partition_rng (d := r.pi.1) pv.1 pv.2
    cases N with
    | zero => omega
    | succ N =>
      split
      · exact s3
      · split
        · rw [if_pos (⟨g1, g2⟩ : _ ∧ _), pdq_size N _ _ _ _ _ _ (by omega) g2 (by omega), g3, s3]
        · rw [if_pos (⟨g4, g5⟩ : _ ∧ _)]
          split
          · have e := pdq_size N (Sort.partition Sort.ltInt r.pi.1 a b r.pivot).2.2 a (Sort.partition Sort.ltInt r.pi.1 a b r.pivot).1 r.lim true true (by omega) g4 (by omega)
            rw [pdq_size N _ _ _ _ _ _ (by omega) (by omega) (by omega), e, g6, s3]
          · have e := pdq_size N (Sort.partition Sort.ltInt r.pi.1 a b r.pivot).2.2 ((Sort.partition Sort.ltInt r.pi.1 a b r.pivot).1 + 1) b r.lim true true (by omega) (by omega) (by omega)
            rw [pdq_size N _ _ _ _ _ _ (by omega) (by omega) (by omega), e, g6, s3]
def pdF : Nat -> PDM
  | 0 => fun _ => none
  | k + 1 => q9u_ (pdF k)
theorem pdF_ok : ∀ k, CtOk Tryz.prog (fun _ => True) 63 ⟨q9_, pdF k⟩
  | 0 => fun _ _ _ _ _ _ _ _ h => by cases h
  | k + 1 => qjs_ (pdF k) (pdF_ok k)
theorem hint1 (h : Sort.Hint) : eqi (hintI h) 1 = decide (h = .increasing) := by cases h <;> rfl
theorem hint2 (h : Sort.Hint) : eqi (hintI h) 2 = decide (h = .decreasing) := by cases h <;> rfl
theorem pdq_go : ∀ (N k n : Nat) (d : Array Int) (a b lim : Nat) (wb wp : Bool), b - a ≤ N -> N ≤ k -> N < n -> a ≤ b -> b ≤ d.size -> d.size < 128 -> lim < 1000000 -> N < 1000 ->
    loopF (q2q_ (pdF k)) n ((a : Int), (b : Int), (lim : Int), wb, wp, d.toList) = some ((Sort.pdq Sort.ltInt d a b lim wb wp).toList, ())
  | _, _, 0, _, _, _, _, _, _, _, _, h, _, _, _, _, _ => by omega
  | N, k, n + 1, d, a, b, lim, wb, wp, hN, hk, hn, hab, hb, hd, hlim, hN2 => by
    rw [q2e_, qh7_, Sort.pdq_unfold]
    unfold q5i_
    rw [i64_sub hab (by omega)]
    by_cases h12 : b - a ≤ 12
    · rw [if_pos (le_iff.2 (by omega)), if_pos h12, insert_eq hb hab (by omega), Option.bind_some]
    rw [if_neg (by rw [le_iff]; omega), if_neg h12]
    by_cases h0 : lim = 0
    · rw [if_pos (qq_.2 (by omega)), if_pos h0, heap_eq hb hab (by omega), Option.bind_some]
    rw [if_neg (by rw [qq_]; omega), if_neg h0]
    have hlt : a < b := by omega
    have s1 : (Sort.rd Sort.ltInt d a b lim wb wp).d1.size = d.size := by
      show (if (!wb) = true then Sort.breakPatterns d a b else d).size = d.size
      split
      · exact (Sort.breakPatterns_holds d a b hab hb).1
      · rfl
    have c1 : a ≤ (Sort.rd Sort.ltInt d a b lim wb wp).c.1 ∧ (Sort.rd Sort.ltInt d a b lim wb wp).c.1 < b := Sort.choosePivot_holds Sort.ltInt _ a b hlt
    have s2 : (Sort.rd Sort.ltInt d a b lim wb wp).d2.size = d.size := by
      show (if (Sort.rd Sort.ltInt d a b lim wb wp).c.2 = .decreasing then Sort.reverseRange (Sort.rd Sort.ltInt d a b lim wb wp).d1 a b else (Sort.rd Sort.ltInt d a b lim wb wp).d1).size = d.size
      split
      · rw [(Sort.reverseRange_holds _ a b hab (by rw [s1]; exact hb)).1, s1]
      · exact s1
    have pv : a ≤ (Sort.rd Sort.ltInt d a b lim wb wp).pivot ∧ (Sort.rd Sort.ltInt d a b lim wb wp).pivot < b := Sort.pivot_range c1.1 c1.2 ((Sort.rd Sort.ltInt d a b lim wb wp).c.2 = .decreasing)
    have s3 : (Sort.rd Sort.ltInt d a b lim wb wp).pi.1.size = d.size := by
      show (if (wb && wp && decide ((Sort.rd Sort.ltInt d a b lim wb wp).hint = .increasing)) = true then Sort.partialInsertionSort Sort.ltInt (Sort.rd Sort.ltInt d a b lim wb wp).d2 a b else ((Sort.rd Sort.ltInt d a b lim wb wp).d2, false)).1.size = d.size
      split
      · unfold Sort.partialInsertionSort; rw [partialIns_size]; exact s2
      · exact s2
    have hlim2 : (Sort.rd Sort.ltInt d a b lim wb wp).lim ≤ lim := Sort.rd_lim_le
    have e1 : (if (!wb) = true then Option.bind (q3d_ ((a : Int), (b : Int), d.toList, ())) fun (y : List Int × Unit) => q1u_ (pdF k) (fun a b limit wasBalanced wasPartitioned data => loopF (q2q_ (pdF k)) n (a, b, limit, wasBalanced, wasPartitioned, data)) (a : Int) (b : Int) (Sx.sub .i64 (lim : Int) 1) wb wp ((b - a : Nat) : Int) y.1
        else q1u_ (pdF k) (fun a b limit wasBalanced wasPartitioned data => loopF (q2q_ (pdF k)) n (a, b, limit, wasBalanced, wasPartitioned, data)) (a : Int) (b : Int) (lim : Int) wb wp ((b - a : Nat) : Int) d.toList) =
        q1u_ (pdF k) (fun a b limit wasBalanced wasPartitioned data => loopF (q2q_ (pdF k)) n (a, b, limit, wasBalanced, wasPartitioned, data)) (a : Int) (b : Int) ((Sort.rd Sort.ltInt d a b lim wb wp).lim : Int) wb wp ((b - a : Nat) : Int) (Sort.rd Sort.ltInt d a b lim wb wp).d1.toList := by
      cases wb with
      | true => rfl
      | false =>
        rw [if_pos (by rfl), break_eq hb hab hd, Option.bind_some, pred64 (by omega) (by omega)]
        rfl
    refine e1.trans ?_
    have hz2 : ∀ x : Int, (Sort.rd Sort.ltInt d a b lim wb wp).c.2 = .decreasing -> True := fun _ _ => trivial
    generalize hG : (fun (a b limit : Int) (wasBalanced wasPartitioned : Bool) (data : List Int) => loopF (q2q_ (pdF k)) n (a, b, limit, wasBalanced, wasPartitioned, data)) = G
    have e2 : q1u_ (pdF k) G (a : Int) (b : Int) ((Sort.rd Sort.ltInt d a b lim wb wp).lim : Int) wb wp ((b - a : Nat) : Int) (Sort.rd Sort.ltInt d a b lim wb wp).d1.toList =
        q5j_ (pdF k) G (a : Int) (b : Int) ((Sort.rd Sort.ltInt d a b lim wb wp).lim : Int) wb wp ((b - a : Nat) : Int) ((Sort.rd Sort.ltInt d a b lim wb wp).pivot : Int) (hintI (Sort.rd Sort.ltInt d a b lim wb wp).hint) (Sort.rd Sort.ltInt d a b lim wb wp).d2.toList := by
      show q7l_ _ _ _ (a : Int) (b : Int) _ wb wp _ _ = _
      unfold q7l_
      rw [choose_eq (by rw [s1]; exact hb) hlt (by omega), Option.bind_some]
      dsimp only
      rw [hint2, <- Sort.rd_c]
      by_cases hh : (Sort.rd Sort.ltInt d a b lim wb wp).c.2 = .decreasing
      · obtain ⟨r1, r2, r3⟩ := Sort.rd_dec hh
        have hp1 : (b - 1) - ((Sort.rd Sort.ltInt d a b lim wb wp).c.1 - a) < 1000 := by omega
        rw [decide_eq_true hh, if_pos rfl, rev_eq (by rw [s1]; exact hb) hlt (by omega), Option.bind_some, r1, r2, r3, pred64 (by omega) (by omega), i64_sub c1.1 (by omega), i64_sub (by omega) (by omega)]
        rfl
      · obtain ⟨r1, r2, r3⟩ := Sort.rd_not hh
        rw [decide_eq_false hh, if_neg (by decide), r1, r2, r3]
    rw [e2]
    have e3 : q5j_ (pdF k) G (a : Int) (b : Int) ((Sort.rd Sort.ltInt d a b lim wb wp).lim : Int) wb wp ((b - a : Nat) : Int) ((Sort.rd Sort.ltInt d a b lim wb wp).pivot : Int) (hintI (Sort.rd Sort.ltInt d a b lim wb wp).hint) (Sort.rd Sort.ltInt d a b lim wb wp).d2.toList =
        if (Sort.rd Sort.ltInt d a b lim wb wp).pi.2 = true then some ((Sort.rd Sort.ltInt d a b lim wb wp).pi.1.toList, ()) else q4e_ (pdF k) G (a : Int) (b : Int) ((Sort.rd Sort.ltInt d a b lim wb wp).lim : Int) wb wp ((b - a : Nat) : Int) ((Sort.rd Sort.ltInt d a b lim wb wp).pivot : Int) (Sort.rd Sort.ltInt d a b lim wb wp).pi.1.toList := by
      have K4 : ∀ z : Bool, z = (wb && wp && decide ((Sort.rd Sort.ltInt d a b lim wb wp).hint = .increasing)) -> q7f_ (pdF k) G (a : Int) (b : Int) ((Sort.rd Sort.ltInt d a b lim wb wp).lim : Int) wb wp ((b - a : Nat) : Int) ((Sort.rd Sort.ltInt d a b lim wb wp).pivot : Int) z (Sort.rd Sort.ltInt d a b lim wb wp).d2.toList =
          if (Sort.rd Sort.ltInt d a b lim wb wp).pi.2 = true then some ((Sort.rd Sort.ltInt d a b lim wb wp).pi.1.toList, ()) else q4e_ (pdF k) G (a : Int) (b : Int) ((Sort.rd Sort.ltInt d a b lim wb wp).lim : Int) wb wp ((b - a : Nat) : Int) ((Sort.rd Sort.ltInt d a b lim wb wp).pivot : Int) (Sort.rd Sort.ltInt d a b lim wb wp).pi.1.toList := fun z hz => by
        show q7p_ _ _ _ (a : Int) (b : Int) _ wb wp _ _ z _ = _
        unfold q7p_
        cases z with
        | true =>
          rw [if_pos rfl, partial_eq (by rw [s2]; exact hb) hlt (by omega), Option.bind_some, Sort.rd_pi_yes hz.symm]
        | false =>
          rw [if_neg (by decide), Sort.rd_pi_no hz.symm]
          rfl
      show q7q_ _ _ _ (a : Int) (b : Int) _ wb wp _ _ _ _ = _
      unfold q7q_
      rw [hint1]
      cases wb with
      | false => rw [if_neg (by decide)]; exact K4 false (by simp)
      | true =>
        cases wp with
        | false => rw [if_pos rfl, if_neg (by decide)]; exact K4 false (by simp)
        | true => rw [if_pos rfl, if_pos rfl]; exact K4 _ (by simp)
    rw [e3]
    generalize Sort.rd Sort.ltInt d a b lim wb wp = r at s1 c1 s2 pv s3 hlim2 ⊢
    by_cases hpi : r.pi.2 = true
    · rw [if_pos hpi, if_pos hpi]
    rw [if_neg hpi, if_neg hpi]
    obtain ⟨D, hD⟩ : ∃ D, D = r.pi.1 := ⟨_, rfl⟩
    obtain ⟨p, hp⟩ : ∃ p, p = r.pivot := ⟨_, rfl⟩
    obtain ⟨lm, hlm⟩ : ∃ lm, lm = r.lim := ⟨_, rfl⟩
    rw [<- hD] at s3
    rw [<- hp] at pv
    rw [<- hlm] at hlim2
    rw [<- hD, <- hp, <- hlm]
    have K6 : ∀ z : Bool, q4c_ (pdF k) G (a : Int) (b : Int) (lm : Int) wb wp ((b - a : Nat) : Int) (p : Int) z D.toList =
        if z = true then some ((Sort.pdq Sort.ltInt (Sort.partitionEqual Sort.ltInt D a b p).2 (Sort.partitionEqual Sort.ltInt D a b p).1 b lm wb wp).toList, ())
        else if (Sort.partition Sort.ltInt D a b p).1 - a < b - (Sort.partition Sort.ltInt D a b p).1 then
          some ((Sort.pdq Sort.ltInt (Sort.pdq Sort.ltInt (Sort.partition Sort.ltInt D a b p).2.2 a (Sort.partition Sort.ltInt D a b p).1 lm true true) ((Sort.partition Sort.ltInt D a b p).1 + 1) b lm (decide ((Sort.partition Sort.ltInt D a b p).1 - a ≥ (b - a) / 8)) (Sort.partition Sort.ltInt D a b p).2.1).toList, ())
        else some ((Sort.pdq Sort.ltInt (Sort.pdq Sort.ltInt (Sort.partition Sort.ltInt D a b p).2.2 ((Sort.partition Sort.ltInt D a b p).1 + 1) b lm true true) a (Sort.partition Sort.ltInt D a b p).1 lm (decide (b - (Sort.partition Sort.ltInt D a b p).1 ≥ (b - a) / 8)) (Sort.partition Sort.ltInt D a b p).2.1).toList, ()) := fun z => by
      show q7h_ _ _ (a : Int) (b : Int) (lm : Int) wb wp _ (p : Int) z D.toList = _
      unfold q7h_
      obtain ⟨k', rfl⟩ : ∃ k', k = k' + 1 := ⟨k - 1, by omega⟩
      have hrec : ∀ (E : Array Int) (a2 b2 : Nat), E.size = d.size -> a2 ≤ b2 -> b2 - a2 < b - a -> b2 ≤ d.size -> pdF (k' + 1) ((a2 : Int), (b2 : Int), (lm : Int), E.toList, ()) = some ((Sort.pdq Sort.ltInt E a2 b2 lm true true).toList, ()) := fun E a2 b2 hE h1 h2 h3 => by
        show q4d_ (pdF k') (a2 : Int) (b2 : Int) (lm : Int) true true E.toList = _
        rw [qax_]
        exact pdq_go (N - 1) k' _ E a2 b2 lm true true (by omega) (by omega) (by omega) h1 (by rw [hE]; exact h3) (by rw [hE]; exact hd) (by omega) (by omega)
      have hself : ∀ (E : Array Int) (a2 b2 : Nat) (w1 w2 : Bool), E.size = d.size -> a2 ≤ b2 -> b2 - a2 < b - a -> b2 ≤ d.size -> G (a2 : Int) (b2 : Int) (lm : Int) w1 w2 E.toList = some ((Sort.pdq Sort.ltInt E a2 b2 lm w1 w2).toList, ()) := fun E a2 b2 w1 w2 hE h1 h2 h3 => by
        rw [<- hG]
        exact pdq_go (N - 1) (k' + 1) n E a2 b2 lm w1 w2 (by omega) (by omega) (by omega) h1 (by rw [hE]; exact h3) (by rw [hE]; exact hd) (by omega) (by omega)
      have hpsz : ∀ (E : Array Int) (a2 b2 : Nat), E.size = d.size -> a2 ≤ b2 -> b2 - a2 < b - a -> b2 ≤ d.size -> (Sort.pdq Sort.ltInt E a2 b2 lm true true).size = d.size := fun E a2 b2 hE h1 h2 h3 => by
        rw [pdq_size _ E a2 b2 lm true true (Nat.le_refl _) h1 (by omega), hE]
      cases z with
      | true =>
        obtain ⟨g1, g2, g3⟩ := parteq_rng (d := D) pv.1 pv.2
        rw [if_pos rfl, if_pos rfl, parteq_eq (by omega) pv.1 pv.2 (by omega), Option.bind_some]
        exact hself _ _ _ _ _ (by rw [g3]; exact s3) g2 (by omega) hb
      | false =>
        obtain ⟨g1, g2, g3⟩ := partition_rng (d := D) pv.1 pv.2
        rw [if_neg (by decide), if_neg (by decide), partition_eq (by omega) pv.1 pv.2 (by omega), Option.bind_some]
        dsimp only
        generalize (Sort.partition Sort.ltInt D a b p).2.1 = ap
        generalize (Sort.partition Sort.ltInt D a b p).2.2 = D4 at g3 ⊢
        generalize (Sort.partition Sort.ltInt D a b p).1 = mid at g1 g2 ⊢
        have q8 := quo8 (n := b - a) 8 (by omega) (by omega)
        rw [show ((8 : Nat) : Int) = 8 from rfl] at q8
        have hge : ∀ x : Nat, ge (x : Int) (((b - a) / 8 : Nat) : Int) = decide (x ≥ (b - a) / 8) := fun x => by
          rw [Bool.eq_iff_iff, q5n_, decide_eq_true_eq]
          omega
        rw [i64_sub g1 (by omega), i64_sub (by omega) (by omega), q31_ (by omega), q8, hge, hge]
        by_cases h : mid - a < b - mid
        · rw [if_pos (q15_.2 (by omega)), if_pos h, hrec D4 a mid (by rw [g3]; exact s3) g1 (by omega) (by omega), Option.bind_some]
          exact hself _ _ _ _ _ (hpsz D4 a mid (by rw [g3]; exact s3) g1 (by omega) (by omega)) (by omega) (by omega) hb
        · rw [if_neg (by rw [q15_]; omega), if_neg h, hrec D4 (mid + 1) b (by rw [g3]; exact s3) (by omega) (by omega) hb, Option.bind_some]
          exact hself _ _ _ _ _ (hpsz D4 (mid + 1) b (by rw [g3]; exact s3) (by omega) (by omega) hb) g1 (by omega) (by omega)
    have e5 : q4e_ (pdF k) G (a : Int) (b : Int) (lm : Int) wb wp ((b - a : Nat) : Int) (p : Int) D.toList = q4c_ (pdF k) G (a : Int) (b : Int) (lm : Int) wb wp ((b - a : Nat) : Int) (p : Int) (decide (a > 0) && !Sort.ltInt D[a - 1]! D[p]!) D.toList := by
      show q7i_ _ _ _ (a : Int) (b : Int) (lm : Int) wb wp _ (p : Int) D.toList = _
      unfold q7i_
      by_cases ha : a > 0
      · rw [if_pos (q4q_.2 (by omega)), pred64 (by omega) (by omega), decide_eq_true ha, Bool.true_and]
        exact q4r_ (i := a - 1) (j := p) (by omega) (by omega) (fun z => q4c_ (pdF k) G (a : Int) (b : Int) (lm : Int) wb wp ((b - a : Nat) : Int) (p : Int) (!z) D.toList)
      · rw [if_neg (by rw [q4q_]; omega), decide_eq_false ha, Bool.false_and]
    rw [e5, K6]
    obtain ⟨g1, g2, g3⟩ := parteq_rng (d := D) pv.1 pv.2
    obtain ⟨g4, g5, g6⟩ := partition_rng (d := D) pv.1 pv.2
    rw [if_pos (⟨g1, g2⟩ : _ ∧ _), if_pos (⟨g4, g5⟩ : _ ∧ _)]
    split
    · rfl
    · split <;> rfl
def q5z_ (x : As q9_.ps) : Option (As q9_.rs) := pdF 128 x
theorem pdq_sorts {xs : List Int} (h : xs.length < 128) {lim : Nat} (hl : lim < 1000000) : q5z_ (0, (xs.length : Int), (lim : Int), xs, ()) = some (xs.mergeSort (fun x y => decide (x ≤ y)), ()) := by
  show q4d_ (pdF 127) ((0 : Nat) : Int) (xs.length : Int) (lim : Int) true true xs.toArray.toList = _
  rw [qax_, pdq_go 127 127 _ xs.toArray 0 xs.length lim true true (by omega) (by omega) (by omega) (by omega) (by simp) (by simpa using h) hl (by omega)]
  have hs : Sort.PermIn 0 xs.toArray.size xs.toArray (Sort.pdq Sort.ltInt xs.toArray 0 xs.toArray.size lim true true) ∧ Sort.SortedIn Sort.ltInt 0 xs.toArray.size (Sort.pdq Sort.ltInt xs.toArray 0 xs.toArray.size lim true true) :=
    Sort.pdq_holds Sort.insertionSort_holds Sort.heapSort_holds Sort.partialInsertionSort_holds (Sort.partition_holds Sort.ltInt) (Sort.partitionEqual_holds Sort.ltInt) Sort.reverseRange_holds Sort.swo_ltInt xs.toArray 0 xs.toArray.size lim true true (Nat.zero_le _) (Nat.le_refl _) (.inl rfl)
  have hu := Sort.sorted_unique_holds (lt := Sort.ltInt) Sort.swo_ltInt (fun x y h1 h2 => by simp [Sort.ltInt] at h1 h2; omega) _ _ hs.1 hs.2
  have hsz : xs.toArray.size = xs.length := by simp
  rw [hsz] at hu
  rw [hu]
  have hf : (fun x y : Int => !Sort.ltInt y x) = fun x y => decide (x ≤ y) := by
    funext x y
    simp only [Sort.ltInt]
    by_cases hxy : x ≤ y
    · simp [hxy]
    · simp [hxy]; omega
  rw [hf]
end Go.Proofs.Lx
end
section
set_option maxRecDepth 100000
namespace Go.Proofs.Lx
open Go Go.Proofs Ev Sx
theorem qj9_ : CtOk Tryz.prog (fun _ => True) 63 ⟨q9_, q5z_⟩ := pdF_ok 128
@[reducible] def qe5_ : Sh := ⟨[.row 0], [.row (.int .u32) 22], [.sl (.int .u32)], [], [(0, .row (.int .u32) 22)], 0, [.sl (.int .u32)]⟩
def qkc_ : Env := (cts [(63, (⟨q9_, q5z_⟩ : Ct)), (64, (⟨bits_Len_s, bits_Len⟩ : Ct))])
def qka_ : List (Nat × Hint) := []
def qag_ (x : List Int) : Option (As [.sl (.int .u32)]) :=
  Option.bind (bits_Len (Sx.cvt .u64 (Int.ofNat (List.length x)), PUnit.unit)) fun (y : Int × Unit) => Option.bind (q5z_ (0, Int.ofNat (List.length x), y.fst, x, PUnit.unit)) fun (y : List Int × Unit) => Option.some (y.fst, PUnit.unit)
def qce_ (x : As [.sl (.int .u32)]) : Option (As [.sl (.int .u32)]) := qag_ x.1
theorem qm7_ (J : Orc (As [.sl (.int .u32)])) (x : As [.sl (.int .u32)]) : rfn Tryz.prog qkc_ 6 18446744073709551616 (Ev.get qka_) 50 qe5_ J x = qag_ x.1 := by kernel_rfl
theorem qmj_ (x : As [.sl (.int .u32)]) : evT Tryz.prog qkc_ 6 18446744073709551616 (Ev.get qka_) 50 qe5_ x = qce_ x := by
  rw [q3s_, qm7_]
  rfl
theorem qm9_ : CtOk Tryz.prog (fun _ => True) 50 ⟨qe5_, qce_⟩ := ct_of_ev (env_cons qj9_ (env_cons bits_Len_ok env_nil)) qmj_
theorem len_all : ((List.range 128).all fun n => match bits_Len (Sx.cvt .u64 (n : Int), ()) with
    | some (y, _) => decide (0 ≤ y) && decide (y < 1000)
    | none => false) = true := by kernel_rfl
theorem sort_ok {xs : List Int} (h : xs.length < 128) : qce_ (xs, ()) = some (xs.mergeSort (fun x y => decide (x ≤ y)), ()) := by
  have := List.all_eq_true.1 len_all xs.length (List.mem_range.2 h)
  show qag_ xs = _
  unfold qag_
  change Option.bind (bits_Len (Sx.cvt .u64 ((xs.length : Nat) : Int), ())) _ = _
  cases hb : bits_Len (Sx.cvt .u64 ((xs.length : Nat) : Int), ()) with
  | none => rw [hb] at this; cases this
  | some y =>
    obtain ⟨y, u⟩ := y
    rw [hb] at this
    have hy := Bool.and_eq_true_iff.1 this
    have key : ∀ z : Int, 0 ≤ z -> z < 1000 -> ∃ l : Nat, z = (l : Int) ∧ l < 1000000 := fun z a b => ⟨z.toNat, by omega, by omega⟩
    obtain ⟨l, hl, hl2⟩ := key y (of_decide_eq_true hy.1) (of_decide_eq_true hy.2)
    subst hl
    rw [Option.bind_some]
    change Option.bind (q5z_ (0, (xs.length : Int), (l : Int), xs, ())) _ = _
    rw [pdq_sorts h hl2]
    rfl
end Go.Proofs.Lx
end
section
set_option maxRecDepth 100000
namespace Go.Proofs.Lx
open Go Go.Proofs Go.RowKit Go.Maps Go.Sort Go.Shelf
def seqL : Code -> Code
  | .seq a _ => a
  | _ => .skip
def seqR : Code -> Code
  | .seq _ b => b
  | _ => .skip
def blkC : Code -> Code
  | .block _ c => c
  | _ => .skip
def rfA : Code -> Code
  | .rangeFunc _ _ a _ => a
  | _ => .skip
def rfB : Code -> Code
  | .rangeFunc _ _ _ b => b
  | _ => .skip
noncomputable def apRF : Code := blkC (seqR (seqL (seqR (Tryz.f62.body.getD .skip))))
attribute [local go_sem] Oper.semAt_some
abbrev encU (x : Int) : Value := .int .u32 x
def SeqG (F : Fence) (n : Nat) (P : Program) (g : Nat) (lb : Array Value) (S : List Int -> Prop) (N : Nat) (w : World) : Prop :=
  ∀ (l : Nat) (J : List Int -> World -> Prop) (W : World), Below w.heap.size w W -> (∀ pre W', J pre W' -> Below w.heap.size w W') ->
    (∀ pre x W1, J pre W1 -> pre.length < N -> YieldAt F (n - 1) P l #[encU x] W1 fun e W' => e = .returned (.bool true) ∧ J (pre ++ [x]) W' ∧ KeepsWalks W1 W') ->
    J [] W ->
    CallsIn F n P g (#[.func (.yield l) #[] #[]] ++ lb) W fun e W' => (∃ v, e = .returned v) ∧ ∃ xs, S xs ∧ J xs W'
noncomputable def Cu.apAssign : Code := rfA apRF
noncomputable def Cu.apBody : Code := rfB apRF
noncomputable def Cu.apRec (fn : FuncId) (sv : Value) (Bs D : Nat) (st : LoopState) (pend : Option Code) : Loop :=
  { state := st, pending := pend, fn, tmps := #[.slice none 0 0, sv, .pointer (some ⟨Bs, 0, none⟩), undef, .slice none 0 0, undef, sv, undef, undef, undef, undef, undef, undef], params := #[7], assign := Cu.apAssign, body := Cu.apBody, defers := D }
structure Cu.ApAt (w0 : World) (fn : FuncId) (sv : Value) (Bs l D : Nat) (ss : List Int) (W : World) : Prop where
  box : ∃ v, W.heap[Bs]? = some (.cells #[v] 26 (0, 0)) ∧ W.ownsRow w0.heap.size 22 1 v ss.length (ss.map encU) ∧ (v = .slice none 0 0 ↔ ss = [])
  L : W.heap[l]? = some (.loop (Cu.apRec fn sv Bs D .ready none))
  K : W.heap[D]? = some (.deferred (some []))
  below : Below w0.heap.size w0 W
theorem Cu.info26 : (Tryz.prog.info? 22).map (fun i => (i.zero, i.size, i.bytes)) = some (some (.int .u32 0), 1, 4) := by kernel_rfl
set_option maxRecDepth 100000 in
set_option maxHeartbeats 2000000 in
theorem Cu.apYield (F : Fence) (m : Nat) (w0 : World) (fn : FuncId) (hfn : F.fn fn) (sv : Value) (Bs l D : Nat) (hBl : Bs ≠ l) (hDl : D ≠ l) (hDB : D ≠ Bs) (h0B : w0.heap.size ≤ Bs) (h0l : w0.heap.size ≤ l)
    (N : Nat) (hN : N ≤ maxLen) (hNb : N * 4 ≤ 140737488355328) (ss : List Int) (x : Int) (W : World) (h : Cu.ApAt w0 fn sv Bs l D ss W) (hlen : ss.length < N) :
    YieldAt F m Tryz.prog l #[encU x] W fun e W' => e = .returned (.bool true) ∧ Cu.ApAt w0 fn sv Bs l D (ss ++ [x]) W' ∧ KeepsWalks W W' := by
  obtain ⟨i0, hi, hz0, hz1, hz2⟩ := info_parts Cu.info26
  obtain ⟨v, hv, hrow, _⟩ := h.box
  refine ⟨fn, #[.slice none 0 0, sv, .pointer (some ⟨Bs, 0, none⟩), undef, .slice none 0 0, undef, sv, encU x, undef, undef, undef, undef, undef], Cu.apAssign, Cu.apBody, by simpa [Cu.apRec] using run_yield (P := Tryz.prog) (args := #[encU x]) h.L rfl, roundIn_of_wpIn hfn ?_⟩
  have hl : l < W.heap.size := (Array.getElem?_eq_some_iff.1 h.L).1
  have hbr := run_beginRound (P := Tryz.prog) h.L rfl
  obtain ⟨W2, hW2⟩ : ∃ W2, W.putObj l (.loop { Cu.apRec fn sv Bs D .ready none with state := .busy }) = W2 := ⟨_, rfl⟩
  rw [hW2] at hbr
  have hg2 : W.grownBy W2 (some l) := by rw [<- hW2]; exact grownBy_putObj_a _ _ _
  have hk2 : KeepsWalks W W2 := by rw [<- hW2]; exact KeepsWalks.putObj _ h.L rfl
  have hv2 : W2.heap[Bs]? = some (.cells #[v] 26 (0, 0)) := by rw [<- hW2]; exact (World.putObj_heap_other hBl).trans hv
  have hK2 : W2.heap[D]? = some (.deferred (some [])) := by rw [<- hW2]; exact (World.putObj_heap_other hDl).trans h.K
  have hL2 : W2.heap[l]? = some (.loop { Cu.apRec fn sv Bs D .ready none with state := .busy }) := by rw [<- hW2]; exact World.putObj_heap_same hl
  have hrow2 : W2.ownsRow w0.heap.size 22 1 v ss.length (ss.map encU) := hrow.kept hg2 (ownsRow_ne_a hrow h.L (fun cur e => by cases e))
  have hb2 : Below w0.heap.size w0 W2 := h.below.grown hg2 h.below.size (fun k e => by cases e; exact h0l)
  obtain ⟨hc2, hf2⟩ := cell_of_box_a hv2
  have hBlt : Bs < W2.heap.size := (Array.getElem?_eq_some_iff.1 hv2).1
  have hl2 : l < W2.heap.size := (Array.getElem?_eq_some_iff.1 hL2).1
  have hDlt : D < W2.heap.size := (Array.getElem?_eq_some_iff.1 hK2).1
  have ne_of : ∀ {j : Nat} {o : Obj}, W2.heap[j]? = some o -> (∀ cur, o ≠ .cells cur 22 (0, 0)) -> some j ≠ v.ownBlock := fun hj hno => by
    rcases ownsRow_ne_a hrow2 hj hno with e | e
    · rw [e]; simp
    · exact fun e' => e e'.symm
  clear hW2
  unfold Cu.apAssign apRF Tryz.f62
  simp only [Option.getD_some, seqL, seqR, blkC, rfA, rfB]
  gi_wp2_with (rw [Oper.semAt_eq _ _ _ (fun c h => by cases h)]; go_simp; try go_bits)
  unfold Cu.apBody apRF Tryz.f62
  simp only [Option.getD_some, seqL, seqR, blkC, rfA, rfB]
  gi_wp2_with (first
    | (gi_at_builtin; refine wpListIn_append_own _ rfl _ _ 26 rfl w0.heap.size 22 i0 (.int .u32 0) 1 4 Tryz.underlying26 hi hz0 hz1 hz2 rfl (by decide) _ _ _ rfl (hrow2.alloc _) ⟨W2.heap.size, 0, none⟩ 1 1 [encU x] rfl rfl (cell_one_new _ _ _) (by simp [Value.oneCell', encU]) (by omega) (by omega) (by have := hb2.size; simp; omega) ?_; intro v' w3 hown' hg3 hnil3
       have hv3 : w3.heap[Bs]? = some (.cells #[v] 26 (0, 0)) := (hg3.block Bs (by simp; omega) (ne_of hv2 (fun cur e => by cases e))).trans ((Below.heap_alloc _ _ Bs hBlt).trans hv2)
       obtain ⟨hc3, hf3⟩ := cell_of_box_a hv3
       obtain ⟨g', cap', cur', rfl, hbase', hgb', hr1, hr2, hr3, hr4⟩ : ∃ g' cap' cur', v' = .slice (some ⟨g', 0, none⟩) (ss.length + 1) cap' ∧ w0.heap.size ≤ g' ∧ w3.heap[g']? = some (.cells cur' 22 (0, 0)) ∧ ss.length + 1 ≤ cap' ∧ cap' ≤ maxLen ∧ cur'.size = cap' * 1 ∧ cur'.toList.take ((ss.length + 1) * 1) = ss.map encU ++ [encU x] := by
         rcases hown'.2 with ⟨_, h0⟩ | h'
         · exact absurd h0 (by omega)
         · exact h'
       go_frame)
    | (rw [Oper.semAt_eq _ _ _ (fun c h => by cases h)]; go_simp; try go_bits))
  have hg3' : (W2.alloc (.cells #[encU x] 22)).grownBy w3 v.ownBlock := hg3
  have hL3 : w3.heap[l]? = some (.loop { Cu.apRec fn sv Bs D .ready none with state := .busy }) := (hg3'.block l (by simp; omega) (ne_of hL2 (fun cur e => by cases e))).trans ((Below.heap_alloc _ _ l hl2).trans hL2)
  have hK3 : w3.heap[D]? = some (.deferred (some [])) := (hg3'.block D (by simp; omega) (ne_of hK2 (fun cur e => by cases e))).trans ((Below.heap_alloc _ _ D hDlt).trans hK2)
  obtain ⟨w4, hw4⟩ : ∃ w4, w3.setCell ⟨Bs, 0, none⟩ (.slice (some ⟨g', 0, none⟩) (ss.length + 1) cap') = w4 := ⟨_, rfl⟩
  rw [hw4]
  have hg4 : w3.grownBy w4 (some Bs) := by rw [<- hw4]; exact grownBy_setCell0_a _ _ _
  have hv4 : w4.heap[Bs]? = some (.cells #[.slice (some ⟨g', 0, none⟩) (ss.length + 1) cap'] 26 (0, 0)) := by rw [<- hw4]; exact heap_setCell_box_a _ hv3
  have hL4 : w4.heap[l]? = some (.loop { Cu.apRec fn sv Bs D .ready none with state := .busy }) := (hg4.block l (Array.getElem?_eq_some_iff.1 hL3).1 (fun e => hBl (by cases e; rfl))).trans hL3
  have hK4 : w4.heap[D]? = some (.deferred (some [])) := (hg4.block D (Array.getElem?_eq_some_iff.1 hK3).1 (fun e => hDB (by cases e; rfl))).trans hK3
  have hrow4 := hown'.kept hg4 (ownsRow_ne_a hown' hv3 (fun cur e => by cases e))
  have hl4 : l < w4.heap.size := (Array.getElem?_eq_some_iff.1 hL4).1
  have hb3 : Below w0.heap.size w0 w3 := (hb2.alloc hb2.size _).grown hg3' (by have := hb2.size; simp; omega) (fun k e => (hrow2.lt k e).1)
  have hb4 : Below w0.heap.size w0 w4 := hb3.grown hg4 hb3.size (fun k e => by cases e; exact h0B)
  have hk4 : KeepsWalks W w4 := ((hk2.trans (KeepsWalks.alloc _ _)).trans (KeepsWalks.of_grownBy hg3' (ownsRow_not_walk_a (hrow2.alloc _)))).trans (by rw [<- hw4]; exact KeepsWalks.setCell _ _ _)
  clear hw4
  refine ⟨_, _, run_endRound none hL4, rfl, ⟨⟨_, (World.putObj_heap_other hBl).trans hv4, ?_, by simp⟩, World.putObj_heap_same hl4, (World.putObj_heap_other hDl).trans hK4, hb4.grown (grownBy_putObj_a _ _ _) hb4.size (fun k e => by cases e; exact h0l)⟩, hk4.trans (KeepsWalks.putObj _ hL4 rfl)⟩
  have := hrow4.kept (grownBy_putObj_a w4 l (.loop { { Cu.apRec fn sv Bs D .ready none with state := .busy } with state := if (none : Option Code).isNone then .ready else .done, pending := none })) (ownsRow_ne_a hrow4 hL4 (fun cur e => by cases e))
  simpa using this
set_option maxRecDepth 100000 in
set_option maxHeartbeats 2000000 in
theorem Cu.appendSeq_in (F : Fence) (n : Nat) (h11 : F.fn 62) (hro : F.round = none) (hn : 2 ≤ n) (g : Nat) (lb : Array Value) (hFg : F.fn g) (eg : ∀ args w, (callFunc g args).run Tryz.prog w = .ok (.enter g args) w)
    (S : List Int -> Prop) (N : Nat) (hN : N ≤ maxLen) (hNb : N * 4 ≤ 140737488355328) (w : World) (hseq : SeqG F (n - 1) Tryz.prog g lb S N w) :
    CallsIn F n Tryz.prog 62 #[.slice none 0 0, .func (.func g) #[] lb] w fun e w' => ∃ (v : Value) (ss : List Int), e = .returned v ∧ S ss ∧ w'.ownsRow w.heap.size 22 1 v ss.length (ss.map encU) ∧ (v = .slice none 0 0 ↔ ss = []) ∧ Below w.heap.size w w' := by
  have h1 : 1 ≤ n := by omega
  refine callsIn_of_wp_marks Tryz.func62 rfl h11 ?_ hro
  simp only [Tryz.ntmps62, List.size_toArray, List.length_cons, List.length_nil, Nat.reduceAdd, Nat.reduceSub, Array.replicate_succ, Array.replicate_zero, List.push_toArray, List.append_toArray, List.nil_append, List.cons_append]
  gi_wp2
  refine wpIn_rangeFunc ?_
  intro fn hfn
  rw [hro]
  obtain ⟨W0, hW0⟩ : ∃ W0, w.alloc (.cells #[.slice none 0 0] 26) = W0 := ⟨_, rfl⟩
  have hs0 : W0.heap.size = w.heap.size + 1 := by rw [<- hW0]; simp
  have hv0 : W0.heap[w.heap.size]? = some (.cells #[.slice none 0 0] 26 (0, 0)) := by rw [<- hW0]; exact World.alloc_heap_new w _
  have hb0 : Below w.heap.size w W0 := by rw [<- hW0]; exact (Below.refl _ w).alloc (Nat.le_refl _) _
  rw [hW0]
  obtain ⟨W1, hW1⟩ : ∃ W1, (W0.alloc (.deferred (some []))).alloc (.loop (Cu.apRec fn (.func (.func g) #[] lb) w.heap.size W0.heap.size .ready none)) = W1 := ⟨_, rfl⟩
  have hold : ∀ k, k < W0.heap.size -> W1.heap[k]? = W0.heap[k]? := fun k hk => by
    rw [<- hW1]; exact (Below.heap_alloc _ _ k (by simp; omega)).trans (Below.heap_alloc _ _ k hk)
  have hb1 : Below w.heap.size w W1 := by rw [<- hW1]; exact (hb0.alloc hb0.size _).alloc (by have := hb0.size; simp; omega) _
  have hs1 : W1.heap.size = W0.heap.size + 2 := by rw [<- hW1]; simp
  have hM : Cu.ApAt w fn (.func (.func g) #[] lb) w.heap.size (W0.heap.size + 1) W0.heap.size [] W1 :=
    ⟨⟨_, (hold w.heap.size (by omega)).trans hv0, ⟨rfl, .inl ⟨rfl, rfl⟩⟩, by simp⟩,
     by rw [<- hW1]; have := World.alloc_heap_new (W0.alloc (.deferred (some []))) (.loop (Cu.apRec fn (.func (.func g) #[] lb) w.heap.size W0.heap.size .ready none)); rwa [World.size_alloc] at this,
     by rw [<- hW1]; exact (Below.heap_alloc _ _ _ (by simp)).trans (World.alloc_heap_new W0 _), hb1⟩
  refine ⟨W0.heap.size + 1, [{ target := .collected W0.heap.size, args := #[] }], W1, { target := .fn (.func g) lb, args := #[.func (.yield (W0.heap.size + 1)) #[] #[]] }, W1, g,
    #[.func (.yield (W0.heap.size + 1)) #[] #[]] ++ lb, W1, ?_, ?_, ?_, ?_, fun _ => h1, ?_⟩
  · rw [<- hW1]; exact run_enterLoop_outer _ _ _ _ _
  · simp [resolve, go_sem]
  · intro f' hf'; simp [Target.leads] at hf'; subst hf'; exact hFg
  · simp [invoke, go_sem, eg]
  · refine (hseq (W0.heap.size + 1) (Cu.ApAt w fn (.func (.func g) #[] lb) w.heap.size (W0.heap.size + 1) W0.heap.size) W1 hb1 (fun _ _ h => h.below)
      (fun pre x W hJ hl => Cu.apYield F (n - 1 - 1) w fn hfn _ w.heap.size (W0.heap.size + 1) W0.heap.size (by omega) (by omega) (by omega) (Nat.le_refl _) (by omega) N hN hNb pre x W hJ hl) hM).mono ?_
    rintro e W2 ⟨⟨v0, rfl⟩, ss, hS, h2⟩
    obtain ⟨v, hv, hrow, hnil⟩ := h2.box
    have hend := run_endLoop (P := Tryz.prog) h2.L (by simp [Cu.apRec])
    obtain ⟨W3, hW3⟩ : ∃ W3, W2.putObj (W0.heap.size + 1) (.loop { Cu.apRec fn (.func (.func g) #[] lb) w.heap.size W0.heap.size .ready none with state := .exhausted }) = W3 := ⟨_, rfl⟩
    rw [hW3] at hend
    have hg3 : W2.grownBy W3 (some (W0.heap.size + 1)) := by rw [<- hW3]; exact grownBy_putObj_a _ _ _
    have hv3 : W3.heap[w.heap.size]? = some (.cells #[v] 26 (0, 0)) := by rw [<- hW3]; exact (World.putObj_heap_other (by omega)).trans hv
    have hK3 : W3.heap[W0.heap.size]? = some (.deferred (some [])) := by rw [<- hW3]; exact (World.putObj_heap_other (by omega)).trans h2.K
    have hrow3 := hrow.kept hg3 (ownsRow_ne_a hrow h2.L (fun cur e => by cases e))
    have hb3 : Below w.heap.size w W3 := h2.below.grown hg3 h2.below.size (fun k e => by cases e; omega)
    obtain ⟨hc3, hf3⟩ := cell_of_box_a hv3
    clear hW3
    refine ⟨none, W3, hend, ?_⟩
    gi_wp2
    rw [<- hs0]
    refine ⟨by simp, .inl ⟨_, _, rfl, run_takeDeferred hK3, ?_⟩⟩
    exact ⟨_, results_tmp rfl _ _ _, v, ss, rfl, hS, hrow3.kept (grownBy_putObj_a _ _ _) (ownsRow_ne_a hrow3 hK3 (fun cur e => by cases e)), hnil, hb3.grown (grownBy_putObj_a _ _ _) hb3.size (fun k e => by cases e; omega)⟩
set_option maxHeartbeats 1000000 in
theorem Cu.collect_in (F : Fence) (n : Nat) (h8 : F.fn 49) (h11 : F.fn 62) (hro : F.round = none) (hn : 3 ≤ n) (g : Nat) (lb : Array Value) (hFg : F.fn g) (eg : ∀ args w, (callFunc g args).run Tryz.prog w = .ok (.enter g args) w)
    (S : List Int -> Prop) (N : Nat) (hN : N ≤ maxLen) (hNb : N * 4 ≤ 140737488355328) (w : World) (hseq : SeqG F (n - 1 - 1) Tryz.prog g lb S N w) :
    CallsIn F n Tryz.prog 49 #[.func (.func g) #[] lb] w fun e w' => ∃ (v : Value) (ss : List Int), e = .returned v ∧ S ss ∧ w'.ownsRow w.heap.size 22 1 v ss.length (ss.map encU) ∧ (v = .slice none 0 0 ↔ ss = []) ∧ Below w.heap.size w w' := by
  have h1 : 1 ≤ n := by omega
  refine callsIn_of_wp Tryz.func49 rfl h8 ?_ hro
  simp only [Tryz.ntmps49, List.size_toArray, List.length_cons, List.length_nil, Nat.reduceAdd, Nat.reduceSub, Array.replicate_succ, Array.replicate_zero, List.push_toArray, List.append_toArray, List.nil_append, List.cons_append]
  gi_wp2_with (gi_at_call 62; refine (Cu.appendSeq_in F (n - 1) h11 hro (by omega) g lb hFg eg S N hN hNb _ hseq).mono ?_; rintro e w' ⟨v, ss, rfl, hS, hrow, hnil, hb⟩)
  go_ret
  exact ⟨v, ss, rfl, hS, hrow, hnil, hb⟩
end Go.Proofs.Lx
end
section
set_option maxRecDepth 100000
namespace Go.Proofs.Lx
open Go Go.Proofs Go.RowKit
def Cu.upto {α : Type} (f : Nat -> α) (k : Nat) : List α := (List.range k).map f
theorem Cu.upto_succ {α : Type} (f : Nat -> α) (k : Nat) : Cu.upto f (k + 1) = Cu.upto f k ++ [f k] := by simp [Cu.upto, List.range_succ]
theorem Cu.upto_length {α : Type} (f : Nat -> α) (k : Nat) : (Cu.upto f k).length = k := by simp [Cu.upto]
theorem Cu.upto_all (zs : List Int) : Cu.upto (fun j => zs[j]?.getD 0) zs.length = zs := by
  apply List.ext_getElem
  · simp [Cu.upto]
  · intro i h1 h2
    simp [Cu.upto, h2]
set_option maxRecDepth 100000 in
set_option maxHeartbeats 2000000 in
theorem Cu.values1_in (F : Fence) (n : Nat) (h7 : F.fn 51) (hro : F.round = none) (hn : 1 ≤ n) (l Bs n₀ b off len cap : Nat) (zs : List Int) (hreach : len * 4 ≤ 140737488351232) (hb : b < n₀) (J : List Int -> World -> Prop) (w : World) (hJB : ∀ pre W', J pre W' -> Below n₀ w W')
    (hY : ∀ pre x W, J pre W -> pre.length < len -> YieldAt F (n - 1) Tryz.prog l #[.int .u32 x] W fun e W' => e = .returned (.bool true) ∧ J (pre ++ [x]) W' ∧ KeepsWalks W W')
    (W : World) (hBs : W.cell? ⟨Bs, 0, none⟩ = some (.slice (some ⟨b, off, none⟩) len cap)) (hc : ∀ j, j < len -> w.cell? ⟨b, off + j, none⟩ = some (.int .u32 (zs[j]?.getD 0))) (h0 : J [] W) :
    CallsIn F n Tryz.prog 51 #[.func (.yield l) #[] #[], .pointer (some ⟨Bs, 0, none⟩)] W fun e W' => (∃ v, e = .returned v) ∧
      J (Cu.upto (fun j => zs[j]?.getD 0) len) W' := by
  refine callsIn_of_wp Tryz.func51 rfl h7 ?_ hro
  simp only [Tryz.ntmps51, List.size_toArray, List.length_cons, List.length_nil, Nat.reduceAdd, Nat.reduceSub, Array.replicate_succ, Array.replicate_zero, List.push_toArray, List.append_toArray, List.nil_append, List.cons_append]
  gi_wp2
  gi_loopw [7] (fun i wr => ∃ k : Nat, k ≤ len ∧ i = .int .i64 k ∧ J (Cu.upto (fun j => zs[j]?.getD 0) k) wr)
    (fun i _ => len - (intOf i).toNat)
  case atStart => exact ⟨0, Nat.zero_le _, rfl, h0⟩
  case round =>
    obtain ⟨k, hk, rfl, hJs⟩ := hrel
    have hnx := hJB _ _ hJs
    have hcx : k < len -> wr.cell? ⟨b, off + k, none⟩ = some (.int .u32 (zs[k]?.getD 0)) := fun h => (hnx.cell (p := ⟨b, off + k, none⟩) hb).trans (hc k h)
    by_cases hlt : k < len
    · obtain ⟨fn, tmps, assign, body, hy, hR⟩ := hY _ (zs[k]?.getD 0) wr hJs (by rw [Cu.upto_length]; exact hlt)
      have hcx' := hcx hlt
      gi_wp2
      refine hR.mono ?_
      rintro e W3 ⟨rfl, hJ3, hk3⟩
      gi_wp2
      go_roundw
      case rel => exact ⟨k + 1, by omega, by simp, by rw [Cu.upto_succ]; exact hJ3⟩
      case measure => simp [intOf]; omega
    · obtain rfl : k = len := by omega
      gi_wp2
      go_end0
      exact ⟨⟨_, rfl⟩, hJs⟩
def Cu.Ints (n₀ : Nat) (W : World) (sv : Value) (zs : List Int) : Prop :=
  (∃ a cap, sv = .slice a 0 cap ∧ zs = []) ∨ ∃ b off cap, sv = .slice (some ⟨b, off, none⟩) zs.length cap ∧ b < n₀ ∧ ∀ j, j < zs.length -> W.cell? ⟨b, off + j, none⟩ = some (.int .u32 (zs[j]?.getD 0))
theorem Cu.Ints.below {n₀ : Nat} {A B : World} (h : Below n₀ A B) {sv : Value} {zs : List Int} : Cu.Ints n₀ A sv zs -> Cu.Ints n₀ B sv zs
  | .inl e => .inl e
  | .inr ⟨b, off, cap, e, hb, hc⟩ => .inr ⟨b, off, cap, e, hb, fun j hj => (h.cell (p := ⟨b, off + j, none⟩) hb).trans (hc j hj)⟩
set_option maxRecDepth 100000 in
set_option maxHeartbeats 1000000 in
theorem Cu.values1_nil_in (F : Fence) (n : Nat) (h7 : F.fn 51) (hro : F.round = none) (l Bs : Nat) (J : List Int -> World -> Prop) (W : World) (a : Option Addr) (cap : Nat) (hBs : W.cell? ⟨Bs, 0, none⟩ = some (.slice a 0 cap)) (h0 : J [] W) :
    CallsIn F n Tryz.prog 51 #[.func (.yield l) #[] #[], .pointer (some ⟨Bs, 0, none⟩)] W fun e W' => (∃ v, e = .returned v) ∧ J [] W' := by
  refine callsIn_of_wp Tryz.func51 rfl h7 ?_ hro
  simp only [Tryz.ntmps51, List.size_toArray, List.length_cons, List.length_nil, Nat.reduceAdd, Nat.reduceSub, Array.replicate_succ, Array.replicate_zero, List.push_toArray, List.append_toArray, List.nil_append, List.cons_append]
  gi_wp2
  gi_loopw [7] (fun i wr => i = .int .i64 0 ∧ J [] wr) (fun _ _ => 0)
  case atStart => exact ⟨rfl, h0⟩
  case round =>
    obtain ⟨rfl, hJs⟩ := hrel
    gi_wp2
    go_end0
    exact ⟨⟨_, rfl⟩, hJs⟩
set_option maxHeartbeats 1000000 in
theorem Cu.values_gives (F : Fence) (n : Nat) (h7 : F.fn 51) (hro : F.round = none) (hn : 1 ≤ n) (Bs : Nat) (sv : Value) (zs : List Int) (hreach : zs.length * 4 ≤ 140737488351232) (w : World) (hBs : Bs < w.heap.size)
    (hc : w.cell? ⟨Bs, 0, none⟩ = some sv) (hI : Cu.Ints w.heap.size w sv zs) : SeqG F n Tryz.prog 51 #[.pointer (some ⟨Bs, 0, none⟩)] (fun ys => ys = zs) zs.length w := fun l J W hW hJ hY h0 => by
  have hc' := (hW.cell (p := ⟨Bs, 0, none⟩) hBs).trans hc
  rcases hI with ⟨a, cap, rfl, rfl⟩ | ⟨b, off, cap, rfl, hb, hcs⟩
  · exact (Cu.values1_nil_in F n h7 hro l Bs J W a cap hc' h0).mono fun e W' ⟨he, hj⟩ => ⟨he, _, rfl, hj⟩
  · exact (Cu.values1_in F n h7 hro hn l Bs w.heap.size b off zs.length cap zs hreach hb J w hJ hY W hc' hcs h0).mono fun e W' ⟨he, hj⟩ => ⟨he, _, Cu.upto_all zs, hj⟩
end Go.Proofs.Lx
end
section
set_option maxRecDepth 100000
namespace Go.Proofs.Lx
open Go Go.RowKit Go.Proofs Go.Shelf Ev Sx
@[reducible] def qlp_ : Ev.Sh := ⟨[.fn (.func 51) [] [.pb 0 0]], [.box 26 [.d (.sl (.int .u32))]], [.sl (.int .u32)], [.row 1], [(1, .row (.int .u32) 22)], 1, [.sl (.int .u32)]⟩
def qdm_ (x : As [.sl (.int .u32)]) : Option (As [.sl (.int .u32)]) := if x.1.length ≤ 1000 then some (x.1, ()) else none
theorem rows_u32 (L : Lx) (w : World) : ∀ xs : List Int, RowsOf (rp (.int .u32)) L w (xs.map encU) xs
  | [] => rfl
  | x :: q => ⟨[encU x], q.map encU, rfl, rfl, rows_u32 L w q⟩
theorem qll_ : CtOk Tryz.prog (fun _ => True) 49 ⟨qlp_, qdm_⟩ := by
  intro F w0 pl x y ss own vs hx hA hpl hI hL hE hD
  obtain ⟨xs, u⟩ := x
  have hA : some ([SV.fn (.func 51) [] [.pb 0 0]], [(0, Ent.box 26 [.d (.sl (.int .u32)) xs])]) = some (ss, own) := hA
  cases hA
  have hpl : pl.length = 1 := hpl
  have hx : (if xs.length ≤ 1000 then some (xs, ()) else none) = some y := hx
  by_cases hc : xs.length ≤ 1000
  · rw [if_pos hc] at hx
    cases hx
    obtain ⟨v1, q1, rfl, hv1, rfl⟩ := hD
    obtain ⟨us, vs, rfl, ⟨v2, q2, rfl, ⟨g, n, c, hg, rfl⟩, rfl⟩, rfl⟩ := hv1
    obtain ⟨g', n', c', us, hg', hbx, ⟨v3, q3, rfl, ⟨cs, hr, rfl⟩, rfl⟩, _⟩ := hE (0, .box 26 [.d (.sl (.int .u32)) xs]) (by simp)
    have hg' : pl[0]? = some ⟨some ⟨g', 0, none⟩, n', c'⟩ := hg'
    rw [hg] at hg'
    cases hg'
    have hr : (Rp.slice (Rp.int .u32)).rel (lx pl [(0, Ent.box 26 [.d (.sl (.int .u32)) xs])] ++ F) w0 cs xs := hr
    obtain ⟨sv, rfl⟩ : ∃ v, cs = [v] := by
      obtain ⟨a, cap, e, _⟩ := hr
      exact ⟨_, e⟩
    have hcell : w0.cell? ⟨g, 0, none⟩ = some sv := hbx.cell (j := 0) rfl
    have hint : Cu.Ints w0.heap.size w0 sv xs := by
      by_cases hne : xs = []
      · subst hne
        obtain ⟨a, cap, e⟩ := slice_shape hr
        exact .inl ⟨a, cap, e, rfl⟩
      · obtain ⟨b, o, cap, e, hel⟩ := slice_at hr hne
        obtain ⟨x0, hx0⟩ : ∃ x0, xs[0]? = some x0 := ⟨_, List.getElem?_eq_getElem (List.length_pos_iff.2 hne)⟩
        refine .inr ⟨b, o, cap, e, (hel 0 x0 hx0).1, fun j hj => ?_⟩
        have hxj : xs[j]? = some xs[j] := List.getElem?_eq_getElem hj
        obtain ⟨_, _, cs, h1, h2⟩ := hel j _ hxj
        have h1 : cs = [.int .u32 xs[j]] := h1
        subst h1
        have h3 := h2 0 _ rfl
        rw [hxj, Option.getD_some]
        simpa [Rp.int] using h3
    have hseq := Cu.values_gives Fence.wide 3 trivial rfl (by omega) g sv xs (by omega) w0 hbx.lt hcell hint
    have hcall := Cu.collect_in Fence.wide 5 trivial trivial rfl (by omega) 51 #[.pointer (some ⟨g, 0, none⟩)] trivial (enters_of Tryz.func51 (by kernel_rfl) rfl) (fun ys => ys = xs) xs.length (Nat.le_trans hc (by decide)) (by omega) w0 hseq
    refine (callsIn_wide.1 hcall).mono fun en w' he => ?_
    obtain ⟨v, zs, rfl, rfl, hrow, _, hb⟩ := he
    obtain ⟨q, rfl, hqn, hqge⟩ : ∃ q : Ev.Place, v = .slice q.a q.n q.c ∧ q.n = zs.length ∧ ∀ j, blk q.a = some j -> w0.heap.size ≤ j ∧ j < w'.heap.size := by
      rcases hrow.2 with ⟨rfl, h0⟩ | ⟨g1, cap, cur, rfl, hge, hcur, _⟩
      · exact ⟨⟨none, 0, 0⟩, rfl, h0.symm, fun j hj => by cases hj⟩
      · exact ⟨⟨some ⟨g1, 0, none⟩, zs.length, cap⟩, rfl, rfl, fun j hj => by cases hj; exact ⟨hge, (Array.getElem?_eq_some_iff.1 hcur).1⟩⟩
    have h1 : (pl ++ [q])[1]? = some q := by rw [List.getElem?_append_right (by omega), hpl]; rfl
    have hlx : lx (pl ++ [q]) [(1, Ent.row (.int .u32) 22 zs)] = [blk q.a] := by
      show [plb (pl ++ [q]) 1] = _
      unfold plb
      rw [h1]
      rfl
    refine ⟨[_], rfl, pl ++ [q], [.row 1], [(1, .row (.int .u32) 22 zs)], rfl, fun i p hi => by rw [List.getElem?_append_left (List.getElem?_eq_some_iff.1 hi).1]; exact hi, by simp [hpl],
      ⟨hb.os, hb.tape, hb.output, hb.size, fun j hj _ => hb.block j hj⟩, ⟨?_, ?_, ?_, hL.baseS hb.size, hL.farS hb.size⟩, ?_, ⟨_, [], rfl, ⟨q, h1, rfl⟩, rfl⟩⟩
    · rw [hlx]
      exact List.pairwise_singleton _ _
    · intro j hj
      rw [hlx] at hj
      exact .inr (hqge j (List.mem_singleton.1 hj).symm).1
    · intro j hj
      rw [hlx] at hj
      exact (hqge j (List.mem_singleton.1 hj).symm).2
    · intro en he
      simp at he
      subst he
      refine ⟨q, h1, hqn, zs.map encU, ?_, rows_u32 _ _ zs⟩
      have := ownsRow_base_a hrow (Nat.zero_le _)
      rw [hqn] at this
      exact this
  · rw [if_neg hc] at hx
    cases hx
end Go.Proofs.Lx
end
section
namespace Go.Proofs.Lx
open Go Go.Proofs Ev
theorem ct_weak {P : Program} {I : World -> Prop} {f : FuncId} {ct : Ct} (h : CtOk P (fun _ => True) f ct) : CtOk P I f ct :=
  fun F w0 pl x y ss own vs hx hA hpl _ hL hE hD => h F w0 pl x y ss own vs hx hA hpl (fun _ _ => trivial) hL hE hD
end Go.Proofs.Lx
end
section
open Go Go.Proofs Ev Sx Pl
set_option maxRecDepth 100000
namespace Go.Proofs.Lx
abbrev RDM := As [Ty.int .i64] -> Option (As [Ty.str])
@[reducible] def qa8_ : Sh := ⟨[.d (.int .i64)], [], [.int .i64], [.d .str], [], 0, [.str]⟩
def rdS_e (M : RDM) : Env := (cts [(23, (⟨qa8_, M⟩ : Ct))])
def rdS_h : List (Nat × Hint) := []
def rdS_m0 (M : RDM) (n : Int) : Option (As [Ty.str]) :=
  if Sx.lt n 0 = Bool.true then if Sx.eqi (Sx.quo .i64 n 10) 0 = Bool.true then Option.bind (M (Sx.neg .i64 n, PUnit.unit)) fun (y : List UInt8 × Unit) => Sx.need (Sx.small (1 + List.length y.fst)) (Option.some (45 :: y.fst, PUnit.unit)) else Option.bind (M (Sx.quo .i64 n 10, PUnit.unit)) fun (y : List UInt8 × Unit) => Option.bind (M (Sx.neg .i64 (Sx.rem n 10), PUnit.unit)) fun (y_1 : List UInt8 × Unit) => Sx.need (Sx.small (List.length y.fst + List.length y_1.fst)) (Option.some (y.fst ++ y_1.fst, PUnit.unit)) else if Sx.lt n 10 = Bool.true then Option.some ([UInt8.ofNat (Int.toNat (Sx.add .u8 48 (Sx.cvt .u8 n)))], PUnit.unit) else Option.bind (M (Sx.quo .i64 n 10, PUnit.unit)) fun (y : List UInt8 × Unit) => Option.bind (M (Sx.rem n 10, PUnit.unit)) fun (y_1 : List UInt8 × Unit) => Sx.need (Sx.small (List.length y.fst + List.length y_1.fst)) (Option.some (y.fst ++ y_1.fst, PUnit.unit))
def rdS (M : RDM) (x : As [Ty.int .i64]) : Option (As [Ty.str]) := rdS_m0 M x.1
theorem rdS_c0 (M : RDM) (J : Orc (As [Ty.str])) (x : As [Ty.int .i64]) : rfn Tryz.prog (rdS_e M) 6 18446744073709551616 (Ev.get rdS_h) 23 qa8_ J x = rdS_m0 M x.1 := by kernel_rfl
theorem rdS_t (M : RDM) (x : As [Ty.int .i64]) : evT Tryz.prog (rdS_e M) 6 18446744073709551616 (Ev.get rdS_h) 23 qa8_ x = rdS M x := by
  rw [q3s_, rdS_c0]
  rfl
def rdF : Nat -> RDM
  | 0 => fun _ => none
  | k + 1 => rdS (rdF k)
theorem rdF_ok : ∀ k, CtOk Tryz.prog I0 23 ⟨qa8_, rdF k⟩
  | 0 => fun _ _ _ _ _ _ _ _ h => by cases h
  | k + 1 => ct_of_ev (env_cons (rdF_ok k) env_nil) (rdS_t (rdF k))
theorem digN {n : Int} (h0 : 0 ≤ n) (h : n < 10) : UInt8.ofNat (Int.toNat (Sx.add .u8 48 (Sx.cvt .u8 n))) = UInt8.ofNat (48 + n.toNat) := by
  unfold Sx.add Sx.cvt
  rw [wu8 h0 (by omega), wu8 (by omega) (by omega)]
  congr 1
  omega
theorem remN (n : Nat) : Sx.rem (n : Int) 10 = ((n % 10 : Nat) : Int) := by
  unfold Sx.rem
  rw [Int.tmod_eq_emod_of_nonneg (by omega)]
  omega
theorem quoN {n : Nat} (h : n ≤ 9223372036854775807) : Sx.quo .i64 (n : Int) 10 = ((n / 10 : Nat) : Int) := by
  unfold Sx.quo
  rw [Int.tdiv_eq_ediv_of_nonneg (by omega), w64 (by omega) (by omega)]
  omega
theorem remM (n : Nat) : Sx.rem (-(n : Int)) 10 = -((n % 10 : Nat) : Int) := by
  unfold Sx.rem
  rw [Int.neg_tmod, Int.tmod_eq_emod_of_nonneg (by omega)]
  omega
theorem quoM {n : Nat} (h : n ≤ 9223372036854775808) : Sx.quo .i64 (-(n : Int)) 10 = -((n / 10 : Nat) : Int) := by
  unfold Sx.quo
  rw [Int.neg_tdiv, Int.tdiv_eq_ediv_of_nonneg (by omega), w64 (by omega) (by omega)]
  omega
theorem negM {n : Nat} (h : n ≤ 9223372036854775807) : Sx.neg .i64 (-(n : Int)) = (n : Int) := by
  unfold Sx.neg
  rw [Int.neg_neg, w64 (by omega) (by omega)]
theorem dF_len : ∀ (k n : Nat), (dF k n).length ≤ k + 1
  | 0, _ => by simp [dF]
  | k + 1, n => by
    unfold dF
    split
    · simp
    · have := dF_len k (n / 10)
      simp only [List.length_append, List.length_cons, List.length_nil]
      omega
theorem dF_one {n : Nat} (h : n < 10) : ∀ k, dF k n = [UInt8.ofNat (48 + n)]
  | 0 => by unfold dF; rw [Nat.mod_eq_of_lt h]
  | k + 1 => by unfold dF; rw [if_pos h]
theorem need_sm {n : Nat} {α : Type} (h : n ≤ 1000) (x : Option α) : Sx.need (Sx.small n) x = x := by
  unfold Sx.need
  rw [if_pos (by unfold Sx.small; exact decide_eq_true (by omega))]
theorem pow_ten_le (k : Nat) : 10 ≤ 10 ^ (k + 1) := by
  rw [Nat.pow_succ]
  have : 0 < 10 ^ k := Nat.pow_pos (by decide)
  omega
theorem rdF_val : ∀ (k n : Nat), k ≤ 30 -> n ≤ 9223372036854775807 -> n < 10 ^ (k + 1) -> rdF (k + 1) ((n : Int), ()) = some (dF k n, ())
  | 0, n, _, _, h => by
    have h10 : n < 10 := by simpa using h
    show rdS_m0 (rdF 0) (n : Int) = _
    unfold rdS_m0
    rw [if_neg (by unfold Sx.lt; simp only [decide_eq_true_eq]; omega), if_pos (by unfold Sx.lt; exact decide_eq_true (by omega)), digN (by omega) (by omega), dF_one h10]
    rfl
  | k + 1, n, hk, hm, h => by
    show rdS_m0 (rdF (k + 1)) (n : Int) = _
    unfold rdS_m0
    rw [if_neg (by unfold Sx.lt; simp only [decide_eq_true_eq]; omega)]
    by_cases h10 : n < 10
    · rw [if_pos (by unfold Sx.lt; exact decide_eq_true (by omega)), digN (by omega) (by omega), dF_one h10]
      rfl
    · have hl := dF_len k (n / 10)
      rw [if_neg (by unfold Sx.lt; simp only [decide_eq_true_eq]; omega), quoN hm, rdF_val k (n / 10) (by omega) (by omega) (by rw [Nat.pow_succ] at h; omega), remN, rdF_val k (n % 10) (by omega) (by omega) (by have := pow_ten_le k; omega), dF_one (show n % 10 < 10 by omega)]
      simp only [Option.bind]
      rw [need_sm (by simp only [List.length_cons, List.length_nil]; omega), dF, if_neg h10]
theorem rdF_neg : ∀ (k n : Nat), k ≤ 29 -> 1 ≤ n -> n ≤ 9223372036854775808 -> n < 10 ^ (k + 1) -> rdF (k + 2) (-(n : Int), ()) = some (45 :: dF k n, ())
  | k, n, hk, h1, hm, h => by
    show rdS_m0 (rdF (k + 1)) (-(n : Int)) = _
    unfold rdS_m0
    rw [if_pos (by unfold Sx.lt; exact decide_eq_true (by omega)), quoM (by omega)]
    by_cases h10 : n < 10
    · rw [if_pos (by unfold Sx.eqi; rw [beq_iff_eq]; omega), negM (by omega), rdF_val k n (by omega) (by omega) h]
      have := dF_len k n
      simp only [Option.bind]
      rw [need_sm (by omega)]
    · match k, hk, h with
      | 0, _, h => exact absurd (by simpa using h) h10
      | k + 1, hk, h =>
        have hl := dF_len k (n / 10)
        have hr : rdF (k + 1 + 1) (((n % 10 : Nat) : Int), ()) = some (dF (k + 1) (n % 10), ()) := rdF_val (k + 1) (n % 10) (by omega) (by omega) (by have := pow_ten_le (k + 1); omega)
        rw [if_neg (by unfold Sx.eqi; rw [beq_iff_eq]; omega), rdF_neg k (n / 10) (by omega) (by omega) (by omega) (by rw [Nat.pow_succ] at h; omega), remM, negM (by omega), hr, dF_one (show n % 10 < 10 by omega)]
        simp only [Option.bind]
        rw [need_sm (by simp only [List.length_cons, List.length_nil]; omega), dF, if_neg h10]
        rfl
def q71_ (x : As [Ty.int .i64]) : Option (As [Ty.str]) := if -9223372036854775808 ≤ x.1 ∧ x.1 ≤ 9223372036854775807 then some (itF x.1, ()) else none
theorem rdF_at {x : Int} (h0 : -9223372036854775808 ≤ x) (h1 : x ≤ 9223372036854775807) : rdF 21 (x, ()) = some (itF x, ()) := by
  have hp : (9223372036854775808 : Nat) < 10 ^ (19 + 1) := by decide
  by_cases h : x < 0
  · obtain ⟨n, hn⟩ : ∃ n : Nat, x = -(n : Int) := ⟨x.natAbs, by omega⟩
    subst hn
    rw [rdF_neg 19 n (by omega) (by omega) (by omega) (by omega)]
    unfold itF
    rw [if_pos h, show (-(n : Int)).natAbs = n by omega]
  · obtain ⟨n, hn⟩ : ∃ n : Nat, x = (n : Int) := ⟨x.toNat, by omega⟩
    subst hn
    rw [rdF_val 20 n (by omega) (by omega) (by omega), dF_eq 20 n (by omega)]
    unfold itF
    rw [if_neg h, Int.toNat_natCast, dF_eq 19 n (by omega)]
theorem qkv_ : CtOk Tryz.prog I0 23 ⟨qa8_, q71_⟩ := by
  intro F w0 pl x y ss own vs hx
  refine rdF_ok 21 F w0 pl x y ss own vs ?_
  have hx : q71_ x = some y := hx
  obtain ⟨x, u⟩ := x
  unfold q71_ at hx
  split at hx
  · next hb =>
    obtain ⟨hb0, hb1⟩ : -9223372036854775808 ≤ x ∧ x ≤ 9223372036854775807 := hb
    cases hx
    exact rdF_at hb0 hb1
  · cases hx
end Go.Proofs.Lx
end
