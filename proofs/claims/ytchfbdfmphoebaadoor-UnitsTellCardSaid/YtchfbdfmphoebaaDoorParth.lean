/- Proved in the last of these 9 parts (this is part 8): UnitsTell is true for every input. Conditions: those of the given statement, and no others. -/
import Derived.Test.YtchfbdfmphoebaaDoorPartg
set_option linter.unusedVariables false
set_option linter.unusedSimpArgs false
set_option linter.unusedSectionVars false
section
/- The two readers of decimals are one. -/
namespace Go.Proofs.Lx
open Go Ev Sx Pl
set_option maxRecDepth 10000
theorem rf_bound {z : Bool} : ∀ {q : List UInt8} {n : Int} {pt : Bool} {bh ah : Nat} {N : Int} {B : Nat}, rf z q n pt bh ah = some (N, B) → n ≤ 1000000000000000009 → N ≤ 1000000000000000009 ∧ B ≤ 6
  | [], n, pt, bh, ah, N, B, h, hn => by
    unfold rf at h
    split at h
    · cases h
    · rename_i h1
      cases h
      exact ⟨hn, by omega⟩
  | c :: q, n, pt, bh, ah, N, B, h, hn => by
    unfold rf at h
    split at h
    · exact rf_bound h hn
    · split at h
      · cases h
      · rename_i h1 h2
        have hc : dg c = true := by
          cases hd : dg c
          · exact absurd (.inl hd) h2
          · rfl
        have := dg_iff.1 hc
        exact rf_bound h (by omega)
/-- digits behind a point -/
theorem rf_frac {z : Bool} : ∀ {r : List UInt8} {n : Int} {bh ah : Nat}, 0 < ah → 0 ≤ n →
    ((∀ c ∈ r, dg c = true) → (rf z r n true bh ah = none ∨ rf z r n true bh ah = (if bh + r.length = 0 ∨ 6 < bh + r.length then none else some (dvn n r, bh + r.length))) ∧ (dvn n r ≤ 1000000000000000000 → rf z r n true bh ah = (if bh + r.length = 0 ∨ 6 < bh + r.length then none else some (dvn n r, bh + r.length)))) ∧
    ((¬ ∀ c ∈ r, dg c = true) → rf z r n true bh ah = none)
  | [], n, bh, ah, ha, hn => by
    have e : rf z [] n true bh ah = (if bh + ([] : List UInt8).length = 0 ∨ 6 < bh + ([] : List UInt8).length then none else some (dvn n [], bh + ([] : List UInt8).length)) := by
      show (if ah = 0 ∨ (true = true ∧ bh = 0) ∨ 6 < bh then none else some (n, bh)) = (if bh + 0 = 0 ∨ 6 < bh + 0 then none else some (n, bh))
      by_cases h : bh = 0 ∨ 6 < bh
      · rw [if_pos (h.elim (fun h => .inr (.inl ⟨rfl, h⟩)) (fun h => .inr (.inr h))), if_pos (by omega)]
      · rw [if_neg (by omega), if_neg (by omega)]
    exact ⟨fun _ => ⟨.inr e, fun _ => e⟩, fun h => absurd (fun c hc => by cases hc) h⟩
  | c :: r, n, bh, ah, ha, hn => by
    have h0 : ¬ (c = 46 ∧ true = false ∧ 0 < ah) := by simp
    by_cases hc : dg c = true
    · have hcv := dg_iff.1 hc
      obtain ⟨i1, i2⟩ := rf_frac (z := z) (r := r) (n := 10 * n + ((c.toNat : Int) - 48)) (bh := bh + 1) (ah := ah) ha (by omega)
      have e2 : bh + (c :: r).length = bh + 1 + r.length := by simp; omega
      by_cases hg : 100000000000000000 < n
      · have e : rf z (c :: r) n true bh ah = none := by
          unfold rf
          rw [if_neg h0, if_pos (.inr (.inr hg))]
        refine ⟨fun ha => ⟨.inl e, fun hle => ?_⟩, fun _ => e⟩
        have := dvn_ge (q := r) (n := 10 * n + ((c.toNat : Int) - 48)) (fun x hx => ha x (List.mem_cons_of_mem _ hx)) (by omega)
        rw [dvn_cons] at hle
        omega
      · have e : rf z (c :: r) n true bh ah = rf z r (10 * n + ((c.toNat : Int) - 48)) true (bh + 1) ah := by
          conv => lhs; unfold rf
          rw [if_neg h0, if_neg (by simp [hc]; omega)]
          rfl
        rw [e, e2, dvn_cons]
        refine ⟨fun ha => i1 (fun x hx => ha x (List.mem_cons_of_mem _ hx)), fun hn => i2 (fun hall => hn fun x hx => ?_)⟩
        rcases List.mem_cons.1 hx with rfl | hx
        · exact hc
        · exact hall x hx
    · have hc' : dg c = false := by simpa using hc
      have e : rf z (c :: r) n true bh ah = none := by
        unfold rf
        rw [if_neg h0, if_pos (.inl hc')]
      exact ⟨fun h => absurd (h c (List.mem_cons_self ..)) hc, fun _ => e⟩
/-- digits ahead of a point -/
theorem rf_whole {z : Bool} {tail : List UInt8} : ∀ {w : List UInt8} {n : Int} {ah : Nat}, 46 ∉ w → 0 ≤ n →
    ((∀ c ∈ w, dg c = true) → ¬ (z = true ∧ ah ≤ 1 ∧ 2 ≤ ah + w.length ∧ w ≠ []) → (rf z (w ++ tail) n false 0 ah = none ∨ rf z (w ++ tail) n false 0 ah = rf z tail (dvn n w) false 0 (ah + w.length)) ∧ (dvn n w ≤ 1000000000000000000 → rf z (w ++ tail) n false 0 ah = rf z tail (dvn n w) false 0 (ah + w.length))) ∧
    (((¬ ∀ c ∈ w, dg c = true) ∨ (z = true ∧ ah ≤ 1 ∧ 2 ≤ ah + w.length ∧ w ≠ [])) → rf z (w ++ tail) n false 0 ah = none)
  | [], n, ah, h46, hn => ⟨fun _ _ => ⟨.inr rfl, fun _ => rfl⟩, fun h => by
    rcases h with h | h
    · exact absurd (fun c hc => by cases hc) h
    · exact absurd rfl h.2.2.2⟩
  | c :: w, n, ah, h46, hn => by
    have hc46 : c ≠ 46 := fun e => h46 (by simp [e])
    have h0 : ¬ (c = 46 ∧ false = false ∧ 0 < ah) := fun h => hc46 h.1
    by_cases hc : dg c = true
    · have hcv := dg_iff.1 hc
      obtain ⟨i1, i2⟩ := rf_whole (z := z) (tail := tail) (w := w) (n := 10 * n + ((c.toNat : Int) - 48)) (ah := ah + 1) (fun h => h46 (List.mem_cons_of_mem _ h)) (by omega)
      have e2 : ah + (c :: w).length = ah + 1 + w.length := by simp; omega
      by_cases hz : ah = 1 ∧ z = true
      · have e : rf z (c :: w ++ tail) n false 0 ah = none := by
          show rf z (c :: (w ++ tail)) n false 0 ah = none
          unfold rf
          rw [if_neg h0, if_pos (.inr (.inl ⟨hz.1, hz.2, rfl⟩))]
        exact ⟨fun _ h => absurd ⟨hz.2, by omega, by simp; omega, by simp⟩ h, fun _ => e⟩
      · by_cases hg : 100000000000000000 < n
        · have e : rf z (c :: w ++ tail) n false 0 ah = none := by
            show rf z (c :: (w ++ tail)) n false 0 ah = none
            unfold rf
            rw [if_neg h0, if_pos (.inr (.inr hg))]
          refine ⟨fun ha _ => ⟨.inl e, fun hle => ?_⟩, fun _ => e⟩
          have := dvn_ge (q := w) (n := 10 * n + ((c.toNat : Int) - 48)) (fun x hx => ha x (List.mem_cons_of_mem _ hx)) (by omega)
          rw [dvn_cons] at hle
          omega
        · have e : rf z (c :: w ++ tail) n false 0 ah = rf z (w ++ tail) (10 * n + ((c.toNat : Int) - 48)) false 0 (ah + 1) := by
            show rf z (c :: (w ++ tail)) n false 0 ah = _
            conv => lhs; unfold rf
            have hno : ¬ (dg c = false ∨ (ah = 1 ∧ z = true ∧ false = false) ∨ 100000000000000000 < n) := by
              rintro (h | h | h)
              · rw [hc] at h; cases h
              · exact hz ⟨h.1, h.2.1⟩
              · exact hg h
            rw [if_neg h0, if_neg hno]
            rfl
          rw [e, e2, dvn_cons]
          refine ⟨fun ha hnz => i1 (fun x hx => ha x (List.mem_cons_of_mem _ hx)) (fun h => hnz ⟨h.1, by omega, by omega, by simp⟩), fun h => i2 ?_⟩
          rcases h with h | h
          · refine .inl (fun hall => h fun x hx => ?_)
            rcases List.mem_cons.1 hx with rfl | hx
            · exact hc
            · exact hall x hx
          · have hne : ah ≠ 1 := fun e => hz ⟨e, h.1⟩
            refine .inr ⟨h.1, by have := h.2.1; omega, by have := h.2.2.1; omega, fun hw => ?_⟩
            subst hw
            have := h.2.2.1
            exact hz ⟨by simp at this; omega, h.1⟩
    · have hc' : dg c = false := by simpa using hc
      have e : rf z (c :: w ++ tail) n false 0 ah = none := by
        show rf z (c :: (w ++ tail)) n false 0 ah = none
        unfold rf
        rw [if_neg h0, if_pos (.inl hc')]
      exact ⟨fun h => absurd (h c (List.mem_cons_self ..)) hc, fun _ => e⟩
/-! ### noughts off -/
def st0 : Nat → Int → Int × Nat
  | 0, n => (n, 0)
  | d + 1, n => if n.tmod 10 = 0 then st0 d (n.tdiv 10) else (n, d + 1)
def ofS (n : Int) (d : Nat) : PR := if 6 < (st0 d n).2 ∨ 1000000000000 < (st0 d n).1 ∨ (st0 d n).1 < -1000000000000 then ((0, 0), false) else (((st0 d n).1, ((st0 d n).2 : Int)), true)
theorem of_eq {n : Int} {d : Nat} (hd : d < 256) (h1 : -9223372036854775807 ≤ n) (h2 : n ≤ 9223372036854775807) : ref12_Of (n, (d : Int), ()) = some ((ofS n d).1, (ofS n d).2, ()) := by
  have key : ∀ (k : Nat) (st : Int × Int × Int × Int), (∃ (m : Int) (e : Nat), st = (m, (e : Int), 0, 0) ∧ e < 256 ∧ -9223372036854775807 ≤ m ∧ m ≤ 9223372036854775807) → st.2.1.toNat < k →
      loopF (fun (self : Int × Int × Int × Int → Option RP) (s : Int × Int × Int × Int) => ref12_Of_m1 (ref12_Of_K2 (fun a b c d => self (a, b, c, d))) (fun a b c d => self (a, b, c, d)) s.1 s.2.1 s.2.2.1 s.2.2.2) k st = some ((ofS st.1 st.2.1.toNat).1, (ofS st.1 st.2.1.toNat).2, ()) := by
    refine loopF_eq (σ := Int × Int × Int × Int) (μ := fun st => st.2.1.toNat) (G := fun st => some ((ofS st.1 st.2.1.toNat).1, (ofS st.1 st.2.1.toNat).2, ())) ?_
    rintro self st ⟨m, e, rfl, he, hm1, hm2⟩ ih
    simp only [Int.toNat_natCast] at ih ⊢
    unfold ref12_Of_m1
    have fin : st0 e m = (m, e) → ref12_Of_K2 (fun a b c d => self (a, b, c, d)) m (e : Int) false 0 0 = some ((ofS m e).1, (ofS m e).2, ()) := fun hs => by
      unfold ref12_Of_K2 ref12_Of_m2 ref12_Of_K3 ref12_Of_m3 ofS
      rw [hs, if_neg (by decide)]
      have bad : ref12_Of_K4 m (e : Int) true 0 0 = some ((0, 0), false, ()) := rfl
      by_cases h6 : 6 < e
      · rw [if_pos (by rw [gt_iff]; omega), bad, if_pos (.inl h6)]
      · rw [if_neg (by rw [gt_iff]; omega)]
        by_cases hb : 1000000000000 < m
        · rw [if_pos (by rw [gt_iff]; omega), bad, if_pos (.inr (.inl hb))]
        · rw [if_neg (by rw [gt_iff]; omega)]
          by_cases hs : m < -1000000000000
          · rw [show lt m (-1000000000000) = true by rw [lt_iff]; exact hs, bad, if_pos (.inr (.inr hs))]
          · rw [show lt m (-1000000000000) = false by simp [lt]; omega, if_neg (by dsimp only; omega)]
            unfold ref12_Of_K4 ref12_Of_m4
            rw [if_neg (by decide)]
            have : cvt .u8 (e : Int) = (e : Int) := wu8 (by omega) (by omega)
            rw [this]
    cases e with
    | zero =>
      rw [if_neg (by decide)]
      exact fin rfl
    | succ e =>
      rw [if_pos (by rw [gt_iff]; omega)]
      by_cases hr : m.tmod 10 = 0
      · have e1 : eqi (rem m 10) 0 = true := by rw [eqi_iff]; exact hr
        rw [e1]
        unfold ref12_Of_K2 ref12_Of_m2
        rw [if_pos rfl]
        have hq : -9223372036854775807 ≤ m.tdiv 10 ∧ m.tdiv 10 ≤ 9223372036854775807 := by
          rcases Int.le_total 0 m with h0 | h0
          · rw [Int.tdiv_eq_ediv_of_nonneg h0]; omega
          · have : m.tdiv 10 = -((-m).tdiv 10) := by rw [Int.neg_tdiv, Int.neg_neg]
            rw [this, Int.tdiv_eq_ediv_of_nonneg (by omega)]
            omega
        have e2 : quo .i64 m 10 = m.tdiv 10 := w64 (by omega) (by omega)
        have e3 : sub .i64 ((e + 1 : Nat) : Int) 1 = (e : Int) := by rw [sub64 (by omega) (by omega)]; omega
        rw [e2, e3]
        have := ih (m.tdiv 10, (e : Int), 0, 0) ⟨_, e, rfl, by omega, hq.1, hq.2⟩ (by simp)
        refine this.trans ?_
        simp only [Int.toNat_natCast, ofS]
        have e4 : st0 (e + 1) m = st0 e (m.tdiv 10) := by
          show (if m.tmod 10 = 0 then _ else _) = _
          rw [if_pos hr]
        rw [e4]
      · have e1 : eqi (rem m 10) 0 = false := by simpa [eqi, rem] using hr
        rw [e1]
        refine fin ?_
        unfold st0
        rw [if_neg hr]
  have := key 18446744073709551616 (n, (d : Int), 0, 0) ⟨n, d, rfl, hd, h1, h2⟩ (by simp; omega)
  refine Eq.trans this ?_
  simp
theorem st0_val (sg : Bool) (x : Int) (hx : 0 ≤ x) : ∀ (k : Nat) (r : List UInt8), r.length = k → (∀ c ∈ r, dg c = true) →
    st0 k (if sg then -(dvn x r) else dvn x r) = ((if sg then -(dvn x (stripz r)) else dvn x (stripz r)), (stripz r).length)
  | 0, r, hl, _ => by
    have : r = [] := List.eq_nil_of_length_eq_zero hl
    subst this
    rfl
  | k + 1, r, hl, hd => by
    rcases snoc_cases r with rfl | ⟨p, c, rfl⟩
    · simp at hl
    · simp at hl
      have hc := hd c (by simp)
      have hcv := dg_iff.1 hc
      have hp : ∀ c ∈ p, dg c = true := fun a ha => hd a (by simp [ha])
      have hge := dvn_ge (n := x) hp hx
      have e : dvn x (p ++ [c]) = 10 * dvn x p + ((c.toNat : Int) - 48) := by rw [dvn_app]; rfl
      have hmod : ∀ y : Int, 0 ≤ y → (if sg then -y else y).tmod 10 = (if sg then -(y % 10) else y % 10) := fun y hy => by
        cases sg
        · exact Int.tmod_eq_emod_of_nonneg hy
        · show (-y).tmod 10 = -(y % 10)
          rw [Int.neg_tmod, Int.tmod_eq_emod_of_nonneg hy]
      have hdiv : ∀ y : Int, 0 ≤ y → (if sg then -y else y).tdiv 10 = (if sg then -(y / 10) else y / 10) := fun y hy => by
        cases sg
        · exact Int.tdiv_eq_ediv_of_nonneg hy
        · show (-y).tdiv 10 = -(y / 10)
          rw [Int.neg_tdiv, Int.tdiv_eq_ediv_of_nonneg hy]
      unfold st0
      rw [e, hmod _ (by omega), hdiv _ (by omega)]
      have m1 : (10 * dvn x p + ((c.toNat : Int) - 48)) % 10 = (c.toNat : Int) - 48 := by omega
      have d1 : (10 * dvn x p + ((c.toNat : Int) - 48)) / 10 = dvn x p := by omega
      rw [m1, d1]
      by_cases h48 : c = 48
      · subst h48
        rw [if_pos (by cases sg <;> rfl), stripz_snoc0]
        exact st0_val sg x hx k p hl hp
      · have : c.toNat ≠ 48 := fun h => h48 (UInt8.toNat_inj.1 h)
        rw [if_neg (by cases sg <;> simp <;> omega), stripz_snoc p h48, e]
        simp [hl]
/-! ### the two are one -/
theorem dvn_strip : ∀ (r : List UInt8) (x : Int), (∀ c ∈ r, dg c = true) → 0 ≤ x → dvn x r ≤ dvn x (stripz r) * 10 ^ (r.length - (stripz r).length) ∧ 0 ≤ dvn x (stripz r) := by
  intro r
  generalize hk : r.length = k
  induction k generalizing r with
  | zero => 
    intro x _ hx
    have : r = [] := List.eq_nil_of_length_eq_zero hk
    subst this
    exact ⟨by simp [stripz], hx⟩
  | succ k ih =>
    intro x hd hx
    rcases snoc_cases r with rfl | ⟨p, c, rfl⟩
    · simp at hk
    · simp at hk
      have hp : ∀ c ∈ p, dg c = true := fun a ha => hd a (by simp [ha])
      by_cases h48 : c = 48
      · subst h48
        obtain ⟨i1, i2⟩ := ih p hk x hp hx
        rw [stripz_snoc0]
        refine ⟨?_, i2⟩
        have e : dvn x (p ++ [48]) = 10 * dvn x p := by rw [dvn_app]; show 10 * dvn x p + ((48 : Int) - 48) = _; omega
        have hlen := stripz_len p
        have e2 : k + 1 - (stripz p).length = (k - (stripz p).length) + 1 := by omega
        rw [e, e2, Int.pow_succ]
        have : dvn x (stripz p) * (10 ^ (k - (stripz p).length) * 10) = 10 * (dvn x (stripz p) * 10 ^ (k - (stripz p).length)) := by rw [← Int.mul_assoc, Int.mul_comm]
        omega
      · rw [stripz_snoc p h48]
        have hge := dvn_ge (n := x) hd hx
        refine ⟨by simp [hk], by omega⟩
theorem refEnd_some (below : Bool) (w r : List UInt8) (hw : ∀ c ∈ w, dg c = true) (hr : ∀ c ∈ r, dg c = true) (h6 : r.length ≤ 6) (hN : dvn (dvn 0 w) r ≤ 1000000000000000009) :
    refEnd below (some (dvn (dvn 0 w) r, r.length)) = some ((if 1000000000000 < dvn (dvn 0 w) (stripz r) then ((0, 0), false) else ((if below then -(dvn (dvn 0 w) (stripz r)) else dvn (dvn 0 w) (stripz r), ((stripz r).length : Int)), true) : PR).1, (if 1000000000000 < dvn (dvn 0 w) (stripz r) then ((0, 0), false) else ((if below then -(dvn (dvn 0 w) (stripz r)) else dvn (dvn 0 w) (stripz r), ((stripz r).length : Int)), true) : PR).2, ()) := by
  have h0 : (0 : Int) ≤ dvn 0 w := dvn_ge hw (Int.le_refl _)
  have h1 := dvn_ge (n := dvn 0 w) hr h0
  have h2 := dvn_ge (q := stripz r) (n := dvn 0 w) (fun c hc => hr c (stripz_mem hc)) h0
  have hsl := stripz_len r
  have hv := st0_val below (dvn 0 w) h0 r.length r rfl hr
  have key : ofS (if below then -(dvn (dvn 0 w) r) else dvn (dvn 0 w) r) r.length = (if 1000000000000 < dvn (dvn 0 w) (stripz r) then ((0, 0), false) else ((if below then -(dvn (dvn 0 w) (stripz r)) else dvn (dvn 0 w) (stripz r), ((stripz r).length : Int)), true) : PR) := by
    unfold ofS
    rw [hv]
    dsimp only
    by_cases hb : 1000000000000 < dvn (dvn 0 w) (stripz r)
    · rw [if_pos hb]
      cases below
      · rw [if_pos (.inr (.inl hb))]
      · rw [if_pos (.inr (.inr (by simp; omega)))]
    · rw [if_neg hb]
      cases below
      · rw [if_neg (by simp; omega)]
      · rw [if_neg (by simp; omega)]
  rw [← key]
  show ref12_Parse_m8 ref12_Parse_K9 below _ (r.length : Int) false 0 0 = _
  unfold ref12_Parse_m8
  rw [if_neg (by decide)]
  cases below
  · rw [if_neg (by decide)]
    unfold ref12_Parse_K9 ref12_Parse_m9
    rw [of_eq (by omega) (by omega) (by omega), Option.bind_some]
    rfl
  · rw [if_pos rfl, neg64 (by omega) (by omega)]
    unfold ref12_Parse_K9 ref12_Parse_m9
    rw [of_eq (by omega) (by omega) (by omega), Option.bind_some]
    rfl
theorem big_strip {w r : List UInt8} (hw : ∀ c ∈ w, dg c = true) (hr : ∀ c ∈ r, dg c = true) (h6 : r.length ≤ 6) (hN : 1000000000000000000 < dvn (dvn 0 w) r) : 1000000000000 < dvn (dvn 0 w) (stripz r) := by
  have h0 : (0 : Int) ≤ dvn 0 w := dvn_ge hw (Int.le_refl _)
  obtain ⟨h1, h2⟩ := dvn_strip r (dvn 0 w) hr h0
  have hp : (10 : Int) ^ (r.length - (stripz r).length) ≤ 10 ^ 6 := by
    have h' : r.length - (stripz r).length ≤ 6 := by omega
    generalize r.length - (stripz r).length = j at h'
    match j, h' with
    | 0, _ => decide
    | 1, _ => decide
    | 2, _ => decide
    | 3, _ => decide
    | 4, _ => decide
    | 5, _ => decide
    | 6, _ => decide
  have := Int.mul_le_mul_of_nonneg_left hp h2
  have e : (10 : Int) ^ 6 = 1000000 := by decide
  rw [e] at this
  omega
theorem refT (below : Bool) (t : List UInt8) : refEnd below (rf (decide (t[0]? = some 48)) t 0 false 0 0) = some ((parseT below t).1, (parseT below t).2, ()) := by
  -- the pieces
  have main : ∀ (w r : List UInt8) (pt : Bool) (tail : List UInt8), 46 ∉ w → (pt = false → r = [] ∧ tail = []) → (pt = true → tail = 46 :: r) → t = w ++ tail → refEnd below (rf (decide (t[0]? = some 48)) t 0 false 0 0) = some ((parsePieces below w r pt).1, (parsePieces below w r pt).2, ()) := by
    intro w r pt tail h46 hf ht he
    generalize hz : decide (t[0]? = some 48) = z
    obtain ⟨p1, p2⟩ := rf_whole (z := z) (tail := tail) (w := w) (n := 0) (ah := 0) h46 (Int.le_refl _)
    rw [← he] at p1 p2
    unfold parsePieces
    have hbadw : (digs w = false ∨ (1 < w.length ∧ w[0]? = some 48)) → rf z t 0 false 0 0 = none := fun h => by
      by_cases hw : w = []
      · subst hw
        simp at he
        subst he
        cases pt
        · rw [(hf rfl).2]; rfl
        · rw [ht rfl]
          unfold rf
          rw [if_neg (by simp), if_pos (.inl rfl)]
      · apply p2
        by_cases hall : ∀ c ∈ w, dg c = true
        · right
          have hd : digs w = true := digs_iff.2 ⟨hall, hw⟩
          rcases h with h | h
          · rw [hd] at h; cases h
          · refine ⟨?_, by omega, by omega, hw⟩
            rw [← hz, he]
            cases w with
            | nil => exact absurd rfl hw
            | cons a b => simpa using h.2
        · exact .inl hall
    by_cases hbw : digs w = false ∨ (1 < w.length ∧ w[0]? = some 48)
    · rw [if_pos hbw, hbadw hbw]
      rfl
    · rw [if_neg hbw]
      have hdw : digs w = true := by
        cases h : digs w
        · exact absurd (.inl h) hbw
        · rfl
      obtain ⟨hw, hwne⟩ := digs_iff.1 hdw
      have hwl : 0 < w.length := List.length_pos_iff.2 hwne
      have h0 : (0 : Int) ≤ dvn 0 w := dvn_ge hw (Int.le_refl _)
      obtain ⟨q1, q2⟩ := p1 hw (fun h => by
        refine hbw (.inr ⟨by have := h.2.2.1; omega, ?_⟩)
        have := h.1
        rw [← hz, he] at this
        cases w with
        | nil => exact absurd rfl hwne
        | cons a b => simpa using this)
      rw [Nat.zero_add] at q1 q2
      -- the end, when all are digits
      have fin : (∀ c ∈ r, dg c = true) → r.length ≤ 6 → ((rf z t 0 false 0 0 = none ∧ 1000000000000000000 < dvn (dvn 0 w) r) ∨ rf z t 0 false 0 0 = some (dvn (dvn 0 w) r, r.length)) → refEnd below (rf z t 0 false 0 0) = some ((if 1000000000000 < dvn (dvn 0 w) (stripz r) then ((0, 0), false) else ((if below then -(dvn (dvn 0 w) (stripz r)) else dvn (dvn 0 w) (stripz r), ((stripz r).length : Int)), true) : PR).1, (if 1000000000000 < dvn (dvn 0 w) (stripz r) then ((0, 0), false) else ((if below then -(dvn (dvn 0 w) (stripz r)) else dvn (dvn 0 w) (stripz r), ((stripz r).length : Int)), true) : PR).2, ()) := fun hr h6 h => by
        rcases h with ⟨h, hN⟩ | h
        · rw [h, if_pos (big_strip hw hr h6 hN)]
          rfl
        · have := rf_bound h (by decide)
          rw [h]
          exact refEnd_some below w r hw hr h6 this.1
      cases pt
      · obtain ⟨rfl, rfl⟩ := hf rfl
        rw [if_neg (by simp)]
        refine fin (fun c hc => by cases hc) (by simp) ?_
        have e : rf z [] (dvn 0 w) false 0 w.length = some (dvn 0 w, 0) := by
          unfold rf
          rw [if_neg (by simp; omega)]
        rw [e] at q1 q2
        by_cases hN : dvn 0 w ≤ 1000000000000000000
        · exact .inr (q2 hN)
        · rcases q1 with h | h
          · exact .inl ⟨h, by rw [dvn_nil]; omega⟩
          · exact .inr h
      · have htl := ht rfl
        subst htl
        have e : rf z (46 :: r) (dvn 0 w) false 0 w.length = rf z r (dvn 0 w) true 0 w.length := by
          conv => lhs; unfold rf
          rw [if_pos ⟨rfl, rfl, hwl⟩]
        rw [e] at q1 q2
        obtain ⟨f1, f2⟩ := rf_frac (z := z) (r := r) (n := dvn 0 w) (bh := 0) (ah := w.length) hwl h0
        rw [Nat.zero_add] at f1
        have nn : rf z r (dvn 0 w) true 0 w.length = none → rf z t 0 false 0 0 = none := fun h => by
          rcases q1 with h' | h'
          · exact h'
          · rw [h', h]
        by_cases hr : digs r = false ∨ 6 < r.length
        · rw [if_pos ⟨rfl, hr⟩]
          have : rf z t 0 false 0 0 = none := by
            apply nn
            by_cases hall : ∀ c ∈ r, dg c = true
            · obtain ⟨g1, g2⟩ := f1 hall
              have hc : r.length = 0 ∨ 6 < r.length := by
                rcases hr with hr | hr
                · left
                  by_cases hne : r = []
                  · simp [hne]
                  · rw [digs_iff.2 ⟨hall, hne⟩] at hr; cases hr
                · exact .inr hr
              rw [if_pos hc] at g1
              exact g1.elim id id
            · exact f2 hall
          rw [this]
          rfl
        · rw [if_neg (fun h => hr h.2)]
          have hdr : digs r = true := by
            cases h : digs r
            · exact absurd (.inl h) hr
            · rfl
          obtain ⟨hrd, hrne⟩ := digs_iff.1 hdr
          have h6 : r.length ≤ 6 := by omega
          have hpos : 0 < r.length := List.length_pos_iff.2 hrne
          obtain ⟨g1, g2⟩ := f1 hrd
          rw [if_neg (by omega)] at g1 g2
          have hge := dvn_ge (n := dvn 0 w) hrd h0
          refine fin hrd h6 ?_
          by_cases hN : dvn (dvn 0 w) r ≤ 1000000000000000000
          · right
            rw [q2 (by omega), g2 hN]
          · rcases g1 with h | h
            · exact .inl ⟨nn h, by omega⟩
            · rcases q1 with h' | h'
              · exact .inl ⟨h', by omega⟩
              · right
                rw [h', h]
  rcases split_at 46 t with h46 | ⟨p, q, e, h46⟩
  · rw [parseT_no h46]
    exact main t [] false [] h46 (fun _ => ⟨rfl, rfl⟩) (fun h => by cases h) (by simp)
  · rw [e, parseT_yes h46, ← e]
    exact main p q true (46 :: q) h46 (fun h => by cases h) (fun _ => rfl) e
theorem refParse_eq {s : List UInt8} (hl : s.length < 1000000) : ref12_Parse (s, ()) = some ((parseS s).1, (parseS s).2, ()) := by
  have go : ∀ (t : List UInt8) (below : Bool), t.length < 1000000 → ref12_Parse_K2 t below 0 0 = some ((parseT below t).1, (parseT below t).2, ()) := fun t below ht => by
    rw [← refT]
    have := ref_loop t below ht 18446744073709551616 (t, below, 0, false, 0, 0, 0, 0, 0) ⟨0, false, 0, 0, 0, rfl, by omega, by omega, by omega, by omega⟩ (by simp; omega)
    exact this
  show ref12_Parse_m0 ref12_Parse_K1 s = _
  unfold ref12_Parse_m0
  cases s with
  | nil =>
    rw [if_neg (by decide)]
    exact go [] false (by simp)
  | cons a q =>
    rw [if_pos (by rw [gt_iff, ofNat_eq]; simp), at_zero, Option.bind_some]
    by_cases ha : a = 45
    · rw [(eqi_byte 45).2 ha]
      unfold ref12_Parse_K1 ref12_Parse_m1
      rw [if_pos rfl, cut_one, Option.bind_some]
      have : parseS (a :: q) = parseT true q := by simp [parseS, ha]
      rw [this]
      exact go q true (by simp at hl; omega)
    · have : eqi (Int.ofNat a.toNat) 45 = false := by
        cases h : eqi (Int.ofNat a.toNat) 45
        · rfl
        · exact absurd ((eqi_byte 45).1 h) ha
      rw [this]
      unfold ref12_Parse_K1 ref12_Parse_m1
      rw [if_neg (by decide)]
      have : parseS (a :: q) = parseT false (a :: q) := by simp [parseS, ha]
      rw [this]
      exact go (a :: q) false hl
end Go.Proofs.Lx

end

section
/- UnitsTell: shown, compared. -/
namespace Go.Proofs.Lx
open Go Ev Sx Pl
set_option maxRecDepth 100000
theorem digits_eq {n : Nat} (h : n ≤ 1000000000000) : ref12_Digits ((n : Int), ()) = some (dd n, ()) := by
  show (if 0 ≤ (n : Int) ∧ (n : Int) ≤ 9223372036854775807 then some (dF 19 (n : Int).toNat, ()) else none) = _
  rw [if_pos ⟨by omega, by omega⟩, Int.toNat_natCast, dF_eq 19 n (by omega)]
theorem dd_split : ∀ (D n : Nat), 10 ^ D ≤ n → dd n = dd (n / 10 ^ D) ++ fx D (n % 10 ^ D)
  | 0, n, _ => by simp [fx]
  | D + 1, n, h => by
    rw [Nat.pow_succ] at h
    have hp : 0 < 10 ^ D := Nat.pow_pos (by omega)
    rw [dd_big (by omega), dd_split D (n / 10) (by omega), fx, List.append_assoc]
    have e1 : n / 10 / 10 ^ D = n / 10 ^ (D + 1) := by rw [Nat.div_div_eq_div_mul, Nat.pow_succ, Nat.mul_comm]
    have e2 : n % 10 ^ (D + 1) / 10 = n / 10 % 10 ^ D := by
      rw [Nat.pow_succ, Nat.mul_comm (10 ^ D) 10, Nat.mod_mul_right_div_self]
    have e3 : n % 10 ^ (D + 1) % 10 = n % 10 := by
      rw [Nat.pow_succ, Nat.mul_comm (10 ^ D) 10, Nat.mod_mul_right_mod]
    rw [e1, e2, e3]
theorem dd_pad {D n : Nat} (hD : 1 ≤ D) : List.replicate (D + 1 - (dd n).length) 48 ++ dd n = dd (n / 10 ^ D) ++ fx D (n % 10 ^ D) := by
  by_cases h : 10 ^ D ≤ n
  · have hs := dd_split D n h
    have hl : D + 1 ≤ (dd n).length := by
      have hne := dd_ne (n / 10 ^ D)
      have : 0 < (dd (n / 10 ^ D)).length := List.length_pos_iff.2 hne
      rw [hs, List.length_append, fx_len]
      omega
    rw [show D + 1 - (dd n).length = 0 by omega]
    exact hs
  · have hlt : n < 10 ^ D := by omega
    have hl := dd_len hD hlt
    rw [Nat.div_eq_of_lt hlt, Nat.mod_eq_of_lt hlt, ← pad_fx D n hD hlt, show D + 1 - (dd n).length = (D - (dd n).length) + 1 by omega, List.replicate_succ]
    have : dd 0 = [48] := by rw [dd_small (by decide)]; rfl
    rw [this]
    rfl
theorem show_K3 {sign p q : List UInt8} {d : Int × Int} {D : Nat} (hd : d.2 = (D : Int)) (hq : q.length = D) (h6 : D ≤ 6) (hp : p.length ≤ 1000) (hs : sign.length ≤ 1) :
    ref12_Show_K3 sign (p ++ q) d = some (sign ++ p ++ 46 :: q, ()) := by
  unfold ref12_Show_K3 ref12_Show_m3
  have e1 : Sx.sub .i64 (Int.ofNat (p ++ q).length) (cvt .i64 d.2) = (p.length : Int) := by
    have : Int.ofNat (p ++ q).length = ((p.length + D : Nat) : Int) := by simp [hq]
    rw [this, hd, cvt64 (by omega) (by omega), sub64 (by omega) (by omega)]
    omega
  rw [e1, cut_app0, Option.bind_some, cut_app1]
  have l1 : (sign ++ p).length ≤ 1001 := by simp; omega
  have l2 : (sign ++ p ++ [46]).length ≤ 1002 := by simp; omega
  rw [need_small (by omega), need_small (by omega), Option.bind_some, need_small (by omega)]
  simp
theorem rshow_loop {sign : List UInt8} {d : Int × Int} {D : Nat} (hd : d.2 = (D : Int)) (h6 : D ≤ 6) (hs : sign.length ≤ 1) : ∀ (r N : Nat) (s : List UInt8), s.length + r ≤ 1000 → (r = 0 ∨ s.length + r = D + 1) → D < s.length + r →
    loopF ref12_Show_K2_F (N + r + 1) (sign, s, d) = ref12_Show_K3 sign (List.replicate r 48 ++ s) d
  | 0, N, s, hl, _, h => by
    rw [loopF_succ, ref12_Show_K2_Fe]
    unfold ref12_Show_m2
    have e : Int.ofNat s.length = (s.length : Int) := rfl
    rw [if_neg (by rw [le_iff, hd, cvt64 (by omega) (by omega), e]; omega)]
    rfl
  | r + 1, N, s, hl, hr, h => by
    rw [loopF_succ, ref12_Show_K2_Fe]
    unfold ref12_Show_m2
    have e : Int.ofNat s.length = (s.length : Int) := rfl
    rw [if_pos (by rw [le_iff, hd, cvt64 (by omega) (by omega), e]; omega), need_small (by omega)]
    have := rshow_loop hd h6 hs r N (48 :: s) (by simp; omega) (by right; simp; omega) (by simp; omega)
    refine Eq.trans this ?_
    rw [List.replicate_succ']
    simp
theorem rshow_eq {d : Int × Int} {sg : Bool} {n D : Nat} (h : RtD d sg n D) : ref12_Show (d, ()) = some (shw sg n D, ()) := by
  have hle := h.le
  have h6 := h.d6
  have h2 := h.e2
  have hlen : (dd n).length ≤ 13 := dd_len (by decide) (by omega)
  show ref12_Show_m0 ref12_Show_K1 d = _
  have e0 : ref12_Show_m0 ref12_Show_K1 d = ref12_Show_K1 (n : Int) (if sg then [45] else []) d := by
    unfold ref12_Show_m0
    have e1 := h.e1
    cases sg with
    | true =>
      have := h.nz rfl
      have e : d.1 = -(n : Int) := e1
      rw [if_pos (by rw [lt_iff]; omega), neg64 (by omega) (by omega)]
      have : -d.1 = (n : Int) := by omega
      rw [this]
      rfl
    | false =>
      have e : d.1 = (n : Int) := e1
      rw [if_neg (by rw [lt_iff]; omega), e]
      rfl
  rw [e0]
  have hs : (if sg then [45] else [] : List UInt8).length ≤ 1 := by cases sg <;> simp
  unfold shw
  generalize (if sg then [45] else [] : List UInt8) = sign at hs ⊢
  unfold ref12_Show_K1 ref12_Show_m1
  rw [digits_eq hle, Option.bind_some]
  dsimp only
  by_cases h0 : D = 0
  · subst h0
    rw [if_pos (by rw [eqi_iff, h2]; rfl), need_small (by omega), if_pos rfl]
    simp
  · rw [if_neg (by rw [eqi_iff, h2]; omega), ref12_Show_K2_Ke, if_neg h0]
    have := rshow_loop (sign := sign) h2 h6 hs (D + 1 - (dd n).length) (18446744073709551615 - (D + 1 - (dd n).length)) (dd n) (by omega) (by omega) (by omega)
    rw [show 18446744073709551615 - (D + 1 - (dd n).length) + (D + 1 - (dd n).length) + 1 = 18446744073709551616 by omega] at this
    refine Eq.trans this ?_
    rw [dd_pad (by omega)]
    have hl2 : (dd (n / 10 ^ D)).length ≤ 13 := dd_len (by decide) (by have := Nat.div_le_self n (10 ^ D); omega)
    exact show_K3 h2 (fx_len _ _) h6 (by omega) hs
theorem mill_loop (sg : Bool) : ∀ (r i v N : Nat), i + r = 6 → v * 10 ^ r ≤ 1000000000000000000 →
    loopF ref12_millionth_K1_F (N + r + 1) (sgn sg v, (i : Int)) = some (sgn sg (v * 10 ^ r), ())
  | 0, i, v, N, h, hv => by
    rw [loopF_succ, ref12_millionth_K1_Fe]
    unfold ref12_millionth_m1
    rw [if_neg (by rw [lt_iff]; omega), Nat.pow_zero, Nat.mul_one]
  | r + 1, i, v, N, h, hv => by
    rw [loopF_succ, ref12_millionth_K1_Fe]
    unfold ref12_millionth_m1
    have hp : 0 < 10 ^ r := Nat.pow_pos (by omega)
    have e : v * 10 ^ (r + 1) = v * 10 * 10 ^ r := by rw [Nat.pow_succ]; ac_rfl
    rw [e] at hv ⊢
    have hv10 : v * 10 ≤ 1000000000000000000 := Nat.le_trans (Nat.le_mul_of_pos_right _ hp) hv
    rw [if_pos (by rw [lt_iff]; omega), succ64 (by omega)]
    have : mul .i64 (sgn sg v) 10 = sgn sg (v * 10) := sgn_mul (w := 10) (by omega)
    rw [this]
    exact mill_loop sg r (i + 1) (v * 10) N (by omega) hv
theorem pow6 {D n : Nat} (hle : n ≤ 1000000000000) : n * 10 ^ (6 - D) ≤ 1000000000000000000 := by
  have hpow : 10 ^ (6 - D) ≤ 10 ^ 6 := Nat.pow_le_pow_right (by omega) (by omega)
  have : n * 10 ^ (6 - D) ≤ 1000000000000 * 10 ^ 6 := Nat.mul_le_mul hle hpow
  omega
theorem mill_eq {d : Int × Int} {sg : Bool} {n D : Nat} (h : RtD d sg n D) : ref12_millionth (d, ()) = some (sgn sg (n * 10 ^ (6 - D)), ()) := by
  have h6 := h.d6
  have hle := h.le
  show ref12_millionth_m0 ref12_millionth_K1 d = _
  unfold ref12_millionth_m0
  rw [h.e2, cvt64 (by omega) (by omega), ref12_millionth_K1_Ke]
  have e1 : d.1 = sgn sg n := h.e1
  rw [e1]
  have := mill_loop sg (6 - D) D n (18446744073709551615 - (6 - D)) (by omega) (pow6 hle)
  rw [show 18446744073709551615 - (6 - D) + (6 - D) + 1 = 18446744073709551616 by omega] at this
  exact this
def cmI (x y : Int) : Int := if lt x y then -1 else if gt x y then 1 else 0
theorem rcmp_eq {a b : Int × Int} {s1 s2 : Bool} {n1 n2 D1 D2 : Nat} (ha : RtD a s1 n1 D1) (hb : RtD b s2 n2 D2) :
    ref12_Cmp (a, b, ()) = some (cmI (sgn s1 (n1 * 10 ^ (6 - D1))) (sgn s2 (n2 * 10 ^ (6 - D2))), ()) := by
  show ref12_Cmp_m0 a b = _
  unfold ref12_Cmp_m0 cmI
  rw [mill_eq ha, Option.bind_some, mill_eq hb, Option.bind_some]
  dsimp only
  split
  · rfl
  · split <;> rfl
theorem ucmp_eq {a b : Int × Int} {s1 s2 : Bool} {n1 n2 D1 D2 : Nat} (ha : RtD a s1 n1 D1) (hb : RtD b s2 n2 D2) :
    units_Cmp (a, b, ()) = some (cmI (sgn s1 (n1 * 10 ^ (6 - D1))) (sgn s2 (n2 * 10 ^ (6 - D2))), ()) := by
  have h1 := ha.d6
  have h2 := hb.d6
  have e1 : a.1 = sgn s1 n1 := ha.e1
  have e2 : b.1 = sgn s2 n2 := hb.e1
  have l1 := pow6 (D := D1) ha.le
  have l2 := pow6 (D := D2) hb.le
  show units_Cmp_m0 units_Cmp_K1 a b = _
  unfold units_Cmp_m0
  rw [ha.right, Option.bind_some]
  dsimp only
  rw [if_neg (by decide), hb.right, Option.bind_some]
  dsimp only
  unfold units_Cmp_K1 units_Cmp_m1 cmI
  rw [if_neg (by decide), ha.e2, hb.e2, cvt64 (by omega) (by omega), cvt64 (by omega) (by omega)]
  have q1 : Sx.sub .i64 6 (D1 : Int) = ((6 - D1 : Nat) : Int) := by
    rw [sub64 (by omega) (by omega)]
    omega
  have q2 : Sx.sub .i64 6 (D2 : Int) = ((6 - D2 : Nat) : Int) := by
    rw [sub64 (by omega) (by omega)]
    omega
  rw [q1, q2, power_eq (by omega), Option.bind_some, power_eq (by omega), Option.bind_some]
  dsimp only
  rw [e1, e2, sgn_mul (by omega), sgn_mul (by omega)]
  split
  · rfl
  · split <;> rfl
end Go.Proofs.Lx

end

section
/- UnitsTell: the units. -/
namespace Go.Proofs.Lx
open Go Ev Sx Pl
set_option maxRecDepth 100000
def knS (name : List UInt8) : Option (List UInt8 × Int × Int) :=
  if eqs [] name = true then some ([], 1, 1) else if eqs [37] name = true then some ([], 1, 1) else if eqs [109] name = true then some ([109], 1, 1) else if eqs [99, 109] name = true then some ([109], 1, 100) else if eqs [109, 109] name = true then some ([109], 1, 1000) else if eqs [115] name = true then some ([115], 1, 1) else if eqs [109, 115] name = true then some ([115], 1, 1000) else if eqs [109, 105, 110] name = true then some ([115], 60, 1) else if eqs [104] name = true then some ([115], 3600, 1) else if eqs [98, 97, 114] name = true then some ([98, 97, 114], 1, 1) else if eqs [109, 98, 97, 114] name = true then some ([98, 97, 114], 1, 1000) else if eqs [107, 80, 97] name = true then some ([98, 97, 114], 1, 100) else if eqs [107, 103] name = true then some ([107, 103], 1, 1) else if eqs [103] name = true then some ([107, 103], 1, 1000) else if eqs [116] name = true then some ([107, 103], 1000, 1) else if eqs [108] name = true then some ([108], 1, 1) else if eqs [109, 108] name = true then some ([108], 1, 1000) else if eqs [67] name = true then some ([67], 1, 1) else none
theorem uknown_eq (x : List UInt8) : units_Known (x, ()) = some ((knS x).getD ([], 0, 0), (knS x).isSome, ()) := rfl
theorem eqs_f {a b : List UInt8} (h : ¬ a = b) : eqs a b = false := by
  cases e : eqs a b with
  | true => exact absurd (eqs_iff.1 e) h
  | false => rfl
theorem known_same (x : List UInt8) : ref12_Known (x, ()) = units_Known (x, ()) := by
  by_cases h : x = []; · subst h; kernel_rfl
  by_cases h1 : x = [37]; · subst h1; kernel_rfl
  by_cases h2 : x = [109]; · subst h2; kernel_rfl
  by_cases h3 : x = [99, 109]; · subst h3; kernel_rfl
  by_cases h4 : x = [109, 109]; · subst h4; kernel_rfl
  by_cases h5 : x = [115]; · subst h5; kernel_rfl
  by_cases h6 : x = [109, 115]; · subst h6; kernel_rfl
  by_cases h7 : x = [109, 105, 110]; · subst h7; kernel_rfl
  by_cases h8 : x = [104]; · subst h8; kernel_rfl
  by_cases h9 : x = [98, 97, 114]; · subst h9; kernel_rfl
  by_cases h10 : x = [109, 98, 97, 114]; · subst h10; kernel_rfl
  by_cases h11 : x = [107, 80, 97]; · subst h11; kernel_rfl
  by_cases h12 : x = [107, 103]; · subst h12; kernel_rfl
  by_cases h13 : x = [103]; · subst h13; kernel_rfl
  by_cases h14 : x = [116]; · subst h14; kernel_rfl
  by_cases h15 : x = [108]; · subst h15; kernel_rfl
  by_cases h16 : x = [109, 108]; · subst h16; kernel_rfl
  by_cases h17 : x = [67]; · subst h17; kernel_rfl
  rw [uknown_eq]
  show ref12_Known_m0 ref12_Known_K1 x = _
  unfold ref12_Known_m0 ref12_Known_K1 ref12_Known_m1 ref12_Known_K2 ref12_Known_m2 knS
  rw [eqs_f h, eqs_f h1, eqs_f h2, eqs_f h3, eqs_f h4, eqs_f h5, eqs_f h6, eqs_f h7, eqs_f h8, eqs_f h9, eqs_f h10, eqs_f h11, eqs_f h12, eqs_f h13, eqs_f h14, eqs_f h15, eqs_f h16, eqs_f h17]
  rw [eqs_f (Ne.symm h), eqs_f (Ne.symm h1), eqs_f (Ne.symm h2), eqs_f (Ne.symm h3), eqs_f (Ne.symm h4), eqs_f (Ne.symm h5), eqs_f (Ne.symm h6), eqs_f (Ne.symm h7), eqs_f (Ne.symm h8), eqs_f (Ne.symm h9), eqs_f (Ne.symm h10), eqs_f (Ne.symm h11), eqs_f (Ne.symm h12), eqs_f (Ne.symm h13), eqs_f (Ne.symm h14), eqs_f (Ne.symm h15), eqs_f (Ne.symm h16), eqs_f (Ne.symm h17)]
  rfl
/-! ### right ones -/
def rgt (d : Int × Int) : Bool := decide (-1000000000000 ≤ d.1 ∧ d.1 ≤ 1000000000000 ∧ d.2 ≤ 6 ∧ (d.2 = 0 ∨ d.1.tmod 10 ≠ 0))
theorem right_eq (d : Int × Int) : units_Right (d, ()) = some (rgt d, ()) := by
  obtain ⟨x, y⟩ := d
  show units_Right_m0 (x, y) = _
  unfold units_Right_m0 rgt
  dsimp only
  by_cases h1 : -1000000000000 ≤ x
  · rw [if_pos (ge_iff.2 h1)]
    by_cases h2 : x ≤ 1000000000000
    · rw [if_pos (le_iff.2 h2)]
      by_cases h3 : y ≤ 6
      · rw [if_pos (le_iff.2 h3)]
        by_cases h4 : y = 0
        · rw [if_pos (eqi_iff.2 h4), decide_eq_true ⟨h1, h2, h3, Or.inl h4⟩]
        · rw [if_neg (fun e => h4 (eqi_iff.1 e))]
          by_cases h5 : x.tmod 10 = 0
          · have e : nei (rem x 10) 0 = false := by
              cases q : nei (rem x 10) 0 with
              | true => exact absurd h5 (nei_iff.1 q)
              | false => rfl
            rw [e, decide_eq_false]
            rintro ⟨_, _, _, h | h⟩
            · exact h4 h
            · exact h h5
          · rw [nei_iff.2 (show rem x 10 ≠ 0 from h5), decide_eq_true ⟨h1, h2, h3, Or.inr h5⟩]
      · rw [if_neg (fun e => h3 (le_iff.1 e)), decide_eq_false (fun h => h3 h.2.2.1)]
    · rw [if_neg (fun e => h2 (le_iff.1 e)), decide_eq_false (fun h => h2 h.2.1)]
  · rw [if_neg (fun e => h1 (ge_iff.1 e)), decide_eq_false (fun h => h1 h.1)]
theorem rright_eq (d : Int × Int) : ref12_Right (d, ()) = some (rgt d, ()) := right_eq d
theorem rgt_rt {d : Int × Int} (h : rgt d = true) (h0 : 0 ≤ d.2) : ∃ sg n D, RtD d sg n D := by
  obtain ⟨x, y⟩ := d
  obtain ⟨h1, h2, h3, h4⟩ := of_decide_eq_true h
  have h0 : 0 ≤ y := h0
  have h3 : y ≤ 6 := h3
  obtain ⟨sg, n, hr⟩ := rtd_of (D := y.toNat) ⟨h1, h2⟩ (by omega) (fun e => by
    rcases h4 with h4 | h4
    · have h4 : y = 0 := h4
      omega
    · exact h4)
  rw [Int.toNat_of_nonneg h0] at hr
  exact ⟨sg, n, _, hr⟩
/-! ### times, to -/
theorem times_same {d : Int × Int} (h0 : 0 ≤ d.2) (num den : Int) : ∃ r : (Int × Int) × Bool, units_Times (d, num, den, ()) = some (r.1, r.2, ()) ∧ ref12_Times (d, num, den, ()) = some (r.1, r.2, ()) := by
  have hr := right_eq d
  cases hg : rgt d with
  | false =>
    rw [hg] at hr
    exact ⟨((0, 0), false), times_bad (.inl hr), rtimes_bad (.inl hr)⟩
  | true =>
    rw [hg] at hr
    by_cases hb : 1 ≤ num ∧ num ≤ 1000000000 ∧ 1 ≤ den ∧ den ≤ 1000000000
    · obtain ⟨sg, n, D, hd⟩ := rgt_rt hg h0
      have e1 : num = (num.toNat : Int) := by omega
      have e2 : den = (den.toNat : Int) := by omega
      rw [e1, e2]
      exact ⟨_, times_eq hd (by omega) (by omega), rtimes_eq hd (by omega) (by omega)⟩
    · exact ⟨((0, 0), false), times_bad (.inr ⟨hr, hb⟩), rtimes_bad (.inr ⟨hr, hb⟩)⟩
theorem to_end {d : Int × Int} (h0 : 0 ≤ d.2) (t : Bool) (a b : Int) (x y : List UInt8 × Int × Int) :
    ∃ r : (Int × Int) × Bool, units_To_K1 t d.1 d.2 a b x.1 x.2.1 x.2.2 y.1 y.2.1 y.2.2 = some (r.1, r.2, ()) ∧ ref12_To_K1 t d.1 d.2 a b x.1 x.2.1 x.2.2 y.1 y.2.1 y.2.2 = some (r.1, r.2, ()) := by
  unfold units_To_K1 units_To_m1 ref12_To_K1 ref12_To_m1
  cases t with
  | true => exact ⟨((0, 0), false), rfl, rfl⟩
  | false =>
    rw [if_neg (by decide), if_neg (by decide)]
    obtain ⟨r, h1, h2⟩ := times_same (d := (d.1, d.2)) h0 (mul .i64 x.2.1 y.2.2) (mul .i64 x.2.2 y.2.1)
    rw [h1, h2]
    exact ⟨r, rfl, rfl⟩
theorem to_same {d : Int × Int} (h0 : 0 ≤ d.2) (f t : List UInt8) : ∃ r : (Int × Int) × Bool, units_To (d, f, t, ()) = some (r.1, r.2, ()) ∧ ref12_To (d, f, t, ()) = some (r.1, r.2, ()) := by
  have e1 : units_To (d, f, t, ()) = (if (!(knS f).isSome) = true then units_To_K1 true d.1 d.2 0 0 ((knS f).getD ([], 0, 0)).1 ((knS f).getD ([], 0, 0)).2.1 ((knS f).getD ([], 0, 0)).2.2 ((knS t).getD ([], 0, 0)).1 ((knS t).getD ([], 0, 0)).2.1 ((knS t).getD ([], 0, 0)).2.2 else if (!(knS t).isSome) = true then units_To_K1 true d.1 d.2 0 0 ((knS f).getD ([], 0, 0)).1 ((knS f).getD ([], 0, 0)).2.1 ((knS f).getD ([], 0, 0)).2.2 ((knS t).getD ([], 0, 0)).1 ((knS t).getD ([], 0, 0)).2.1 ((knS t).getD ([], 0, 0)).2.2 else units_To_K1 (nes ((knS f).getD ([], 0, 0)).1 ((knS t).getD ([], 0, 0)).1) d.1 d.2 0 0 ((knS f).getD ([], 0, 0)).1 ((knS f).getD ([], 0, 0)).2.1 ((knS f).getD ([], 0, 0)).2.2 ((knS t).getD ([], 0, 0)).1 ((knS t).getD ([], 0, 0)).2.1 ((knS t).getD ([], 0, 0)).2.2) := rfl
  have e2 : ref12_To (d, f, t, ()) = (if (!(knS f).isSome) = true then ref12_To_K1 true d.1 d.2 0 0 ((knS f).getD ([], 0, 0)).1 ((knS f).getD ([], 0, 0)).2.1 ((knS f).getD ([], 0, 0)).2.2 ((knS t).getD ([], 0, 0)).1 ((knS t).getD ([], 0, 0)).2.1 ((knS t).getD ([], 0, 0)).2.2 else if (!(knS t).isSome) = true then ref12_To_K1 true d.1 d.2 0 0 ((knS f).getD ([], 0, 0)).1 ((knS f).getD ([], 0, 0)).2.1 ((knS f).getD ([], 0, 0)).2.2 ((knS t).getD ([], 0, 0)).1 ((knS t).getD ([], 0, 0)).2.1 ((knS t).getD ([], 0, 0)).2.2 else ref12_To_K1 (nes ((knS f).getD ([], 0, 0)).1 ((knS t).getD ([], 0, 0)).1) d.1 d.2 0 0 ((knS f).getD ([], 0, 0)).1 ((knS f).getD ([], 0, 0)).2.1 ((knS f).getD ([], 0, 0)).2.2 ((knS t).getD ([], 0, 0)).1 ((knS t).getD ([], 0, 0)).2.1 ((knS t).getD ([], 0, 0)).2.2) := by
    show ref12_To_m0 ref12_To_K1 d f t = _
    unfold ref12_To_m0
    rw [known_same f, known_same t, uknown_eq f, uknown_eq t, Option.bind_some, Option.bind_some]
  rw [e1, e2]
  generalize (knS f).getD ([], 0, 0) = x
  generalize (knS t).getD ([], 0, 0) = y
  split
  · exact to_end h0 _ _ _ x y
  · split
    · exact to_end h0 _ _ _ x y
    · exact to_end h0 _ _ _ x y
end Go.Proofs.Lx

end

section
/- UnitsTell: registers. -/
namespace Go.Proofs.Lx
open Go Ev Sx Pl
set_option maxRecDepth 100000
theorem u16w (x : Int) : IntKind.u16.wrap x = x % 65536 := by
  simp only [IntKind.wrap, IntKind.signed, IntKind.bits]
  simp
def wdS (signed : Bool) (X : Int) : Int × Bool := if signed then (if -32768 ≤ X ∧ X ≤ 32767 then (X % 65536, true) else (0, false)) else if 0 ≤ X ∧ X ≤ 65535 then (X, true) else (0, false)
theorem uword_K2 (signed : Bool) (X : Int) (t : Bool) (ht : t = true ↔ (X < -32768 ∨ 65536 ≤ X)) : units_Word_K2 signed X t = some ((wdS signed X).1, (wdS signed X).2, ()) := by
  unfold units_Word_K2 units_Word_m2 wdS
  by_cases h : t = true
  · have hX := ht.1 h
    rw [if_pos h]
    cases signed with
    | true => rw [if_pos rfl, if_neg (by omega)]
    | false => rw [if_neg (show ¬ (false = true) by decide), if_neg (by omega)]
  · have hX : ¬ (X < -32768 ∨ 65536 ≤ X) := fun e => h (ht.2 e)
    rw [if_neg h]
    cases signed with
    | true =>
      rw [if_pos (show (true = true) from rfl), if_pos (show (true = true) from rfl)]
      show Option.bind (words_Word_m0 words_Word_K1 X) _ = _
      unfold words_Word_m0 words_Word_K1 words_Word_m1
      rw [if_neg (by rw [lt_iff]; omega)]
      by_cases h2 : X ≤ 32767
      · rw [if_neg (by rw [ge_iff]; omega), if_pos ⟨by omega, h2⟩]
        show some (IntKind.u16.wrap X, true, ()) = _
        rw [u16w]
      · rw [if_pos (by rw [ge_iff]; omega), if_neg (by omega)]
        rfl
    | false =>
      rw [if_neg (show ¬ (false = true) by decide), if_neg (show ¬ (false = true) by decide)]
      by_cases h2 : X < 0
      · rw [if_pos (lt_iff.2 h2), if_neg (by omega)]
      · rw [if_neg (fun e => h2 (lt_iff.1 e)), if_pos ⟨by omega, by omega⟩]
        show some (IntKind.u16.wrap X, true, ()) = _
        rw [u16w, Int.emod_eq_of_lt (by omega) (by omega)]
theorem rword_K3 (signed : Bool) {X : Int} (hX : -1000000000000000000 ≤ X ∧ X ≤ 1000000000000000000) : ref12_Word_K3 signed X = some ((wdS signed X).1, (wdS signed X).2, ()) := by
  have k5 : ∀ Y : Int, ref12_Word_K5 Y = if 0 ≤ Y ∧ Y ≤ 65535 then some (Y, true, ()) else some (0, false, ()) := by
    intro Y
    unfold ref12_Word_K5 ref12_Word_m5 ref12_Word_K6 ref12_Word_m6
    by_cases h : Y < 0
    · rw [if_pos (lt_iff.2 h), if_pos (show (true = true) from rfl), if_neg (by omega)]
    · rw [if_neg (fun e => h (lt_iff.1 e))]
      by_cases h2 : 65535 < Y
      · rw [if_pos (gt_iff.2 h2), if_neg (by omega)]
      · rw [if_neg (fun e => h2 (gt_iff.1 e)), if_pos ⟨by omega, by omega⟩]
        show some (IntKind.u16.wrap Y, true, ()) = _
        rw [u16w, Int.emod_eq_of_lt (by omega) (by omega)]
  unfold ref12_Word_K3 ref12_Word_m3 wdS
  cases signed with
  | false =>
    rw [if_neg (show ¬ (false = true) by decide), if_neg (show ¬ (false = true) by decide), k5]
    split <;> rfl
  | true =>
    rw [if_pos (show (true = true) from rfl), if_pos (show (true = true) from rfl)]
    unfold ref12_Word_K4 ref12_Word_m4
    by_cases h : X < -32768
    · rw [if_pos (lt_iff.2 h), if_pos (show (true = true) from rfl), if_neg (by omega)]
    · rw [if_neg (fun e => h (lt_iff.1 e))]
      by_cases h2 : 32767 < X
      · rw [if_pos (gt_iff.2 h2), if_neg (by omega)]
      · rw [if_neg (fun e => h2 (gt_iff.1 e)), if_pos (show -32768 ≤ X ∧ X ≤ 32767 from ⟨by omega, by omega⟩)]
        by_cases h3 : X < 0
        · rw [if_pos (lt_iff.2 h3), add64 (by omega) (by omega), k5, if_pos ⟨by omega, by omega⟩]
          have : X % 65536 = X + 65536 := by omega
          rw [this]
        · rw [if_neg (fun e => h3 (lt_iff.1 e)), k5, if_pos ⟨by omega, by omega⟩]
          have : X % 65536 = X := by omega
          rw [this]
theorem rword_loop (sg signed : Bool) (g : Nat) (hg : g ≤ 6) : ∀ (r i v N : Nat), i + r = g → v * 10 ^ r ≤ 1000000000000000000 →
    loopF ref12_Word_K2_F (N + r + 1) ((g : Int), signed, sgn sg v, (i : Int)) = ref12_Word_K3 signed (sgn sg (v * 10 ^ r))
  | 0, i, v, N, h, hv => by
    rw [loopF_succ, ref12_Word_K2_Fe]
    unfold ref12_Word_m2
    rw [if_neg (by rw [lt_iff]; omega), Nat.pow_zero, Nat.mul_one]
  | r + 1, i, v, N, h, hv => by
    rw [loopF_succ, ref12_Word_K2_Fe]
    unfold ref12_Word_m2
    have hp : 0 < 10 ^ r := Nat.pow_pos (by omega)
    have e : v * 10 ^ (r + 1) = v * 10 * 10 ^ r := by rw [Nat.pow_succ]; ac_rfl
    rw [e] at hv ⊢
    have hv10 : v * 10 ≤ 1000000000000000000 := Nat.le_trans (Nat.le_mul_of_pos_right _ hp) hv
    rw [if_pos (by rw [lt_iff]; omega), succ64 (by omega)]
    have : mul .i64 (sgn sg v) 10 = sgn sg (v * 10) := sgn_mul (w := 10) (by omega)
    rw [this]
    exact rword_loop sg signed g hg r (i + 1) (v * 10) N (by omega) hv
theorem sgn_b {sg : Bool} {v : Nat} (h : v ≤ 1000000000000000000) : -1000000000000000000 ≤ sgn sg v ∧ sgn sg v ≤ 1000000000000000000 := by
  unfold sgn
  split <;> omega
theorem word_same {d : Int × Int} (h0 : 0 ≤ d.2) (digits : Int) (signed : Bool) : ∃ r : Int × Bool, units_Word (d, digits, signed, ()) = some (r.1, r.2, ()) ∧ ref12_Word (d, digits, signed, ()) = some (r.1, r.2, ()) := by
  have e1 : units_Word (d, digits, signed, ()) = units_Word_m0 units_Word_K1 d digits signed := rfl
  have e2 : ref12_Word (d, digits, signed, ()) = ref12_Word_m0 ref12_Word_K1 d digits signed := rfl
  have bad1 : units_Word_K1 digits signed true d = some (0, false, ()) := rfl
  have bad2 : ref12_Word_K1 digits signed true d = some (0, false, ()) := rfl
  rw [e1, e2]
  unfold units_Word_m0 ref12_Word_m0
  rw [right_eq, rright_eq, Option.bind_some, Option.bind_some]
  dsimp only
  cases hg : rgt d with
  | false => exact ⟨(0, false), by rw [if_pos (show ((!false) = true) from rfl), bad1], by rw [if_pos (show ((!false) = true) from rfl), bad2]⟩
  | true =>
    obtain ⟨sg, n, D, hd⟩ := rgt_rt hg h0
    have hD := hd.d6
    rw [if_neg (show ¬ ((!true) = true) by decide), if_neg (show ¬ ((!true) = true) by decide), hd.e2, cvt64 (by omega) (by omega)]
    by_cases q : (D : Int) ≤ digits ∧ digits ≤ 6
    · obtain ⟨g, rfl⟩ : ∃ g : Nat, digits = (g : Int) := ⟨digits.toNat, by omega⟩
      have hX : n * 10 ^ (g - D) ≤ 1000000000000000000 := by
        have hpow : 10 ^ (g - D) ≤ 10 ^ 6 := Nat.pow_le_pow_right (by omega) (by omega)
        have := Nat.mul_le_mul hd.le hpow
        omega
      have hb := sgn_b (sg := sg) hX
      refine ⟨wdS signed (sgn sg (n * 10 ^ (g - D))), ?_, ?_⟩
      · rw [if_neg (by rw [lt_iff]; omega)]
        have : gt (g : Int) 6 = false := by rw [gt_dec, decide_eq_false]; omega
        rw [this]
        unfold units_Word_K1 units_Word_m1
        rw [if_neg (show ¬ (false = true) by decide), hd.e2, cvt64 (by omega) (by omega)]
        have e3 : Sx.sub .i64 (g : Int) (D : Int) = ((g - D : Nat) : Int) := by
          rw [sub64 (by omega) (by omega)]
          omega
        have e4 : d.1 = sgn sg n := hd.e1
        rw [e3, power_eq (by omega), Option.bind_some]
        dsimp only
        rw [e4, sgn_mul (by omega)]
        generalize sgn sg (n * 10 ^ (g - D)) = X at hb ⊢
        by_cases h1 : X < -32768
        · rw [if_pos (lt_iff.2 h1)]
          exact uword_K2 signed X true (by simp [h1])
        · rw [if_neg (fun e => h1 (lt_iff.1 e))]
          refine uword_K2 signed X _ ?_
          rw [ge_iff]
          omega
      · rw [if_neg (by rw [lt_iff]; omega), if_neg (by rw [gt_iff]; omega)]
        have : gt (D : Int) (g : Int) = false := by rw [gt_dec, decide_eq_false]; omega
        rw [this]
        unfold ref12_Word_K1 ref12_Word_m1
        rw [if_neg (show ¬ (false = true) by decide), hd.e2, cvt64 (by omega) (by omega)]
        have e4 : d.1 = sgn sg n := hd.e1
        rw [e4, ref12_Word_K2_Ke]
        have := rword_loop sg signed g (by omega) (g - D) D n (18446744073709551615 - (g - D)) (by omega) hX
        rw [show 18446744073709551615 - (g - D) + (g - D) + 1 = 18446744073709551616 by omega] at this
        refine Eq.trans this ?_
        exact rword_K3 signed hb
    · refine ⟨(0, false), ?_, ?_⟩
      · by_cases h1 : digits < (D : Int)
        · rw [if_pos (lt_iff.2 h1)]
          exact bad1
        · rw [if_neg (fun e => h1 (lt_iff.1 e)), gt_iff.2 (show 6 < digits by omega)]
          exact bad1
      · by_cases h1 : digits < 0
        · rw [if_pos (lt_iff.2 h1)]
          exact bad2
        · rw [if_neg (fun e => h1 (lt_iff.1 e))]
          by_cases h2 : 6 < digits
          · rw [if_pos (gt_iff.2 h2)]
            exact bad2
          · rw [if_neg (fun e => h2 (gt_iff.1 e)), gt_iff.2 (show digits < (D : Int) by omega)]
            exact bad2
/-! ### what a register is worth -/
theorem uworth_loop (sg : Bool) (t : Int × Int) : ∀ (k v N : Nat), k ≤ 6 → v ≤ 1000000000000 →
    loopF units_Worth_K3_F (N + k + 1) ((k : Int), sgn sg v, t) = some ((sgn sg (stN k v).2, ((stN k v).1 : Int)), true, ())
  | 0, v, N, _, _ => by
    rw [loopF_succ, units_Worth_K3_Fe]
    unfold units_Worth_m3
    rw [if_neg (by rw [gt_iff]; omega)]
    rfl
  | k + 1, v, N, h6, hv => by
    rw [loopF_succ, units_Worth_K3_Fe]
    unfold units_Worth_m3
    rw [if_pos (by rw [gt_iff]; omega)]
    unfold units_Worth_K4 units_Worth_m4 stN
    by_cases hz : v % 10 = 0
    · rw [if_pos (by rw [eqi_iff]; exact (sgn_mod sg v).2 hz), if_pos hz, sgn_div sg (by omega)]
      have e2 : Sx.sub .i64 ((k + 1 : Nat) : Int) 1 = (k : Int) := by
        rw [sub64 (by omega) (by omega)]
        omega
      rw [e2]
      exact uworth_loop sg t k (v / 10) N (by omega) (by omega)
    · rw [if_neg (by rw [eqi_iff]; exact fun e => hz ((sgn_mod sg v).1 e)), if_neg hz]
      unfold units_Worth_K5 units_Worth_m5
      have : cvt .u8 ((k + 1 : Nat) : Int) = ((k + 1 : Nat) : Int) := wu8 (by omega) (by omega)
      rw [this]
theorem uworth_K3 (sg : Bool) {k v : Nat} (hk : k ≤ 6) (hv : v ≤ 1000000000000) (t : Int × Int) : units_Worth_K3 (k : Int) (sgn sg v) t = some ((tmS sg (okN (stN k v))).1, (tmS sg (okN (stN k v))).2, ()) := by
  have h := uworth_loop sg t k v (18446744073709551615 - k) hk hv
  rw [show 18446744073709551615 - k + k + 1 = 18446744073709551616 by omega] at h
  rw [units_Worth_K3_Ke]
  refine Eq.trans h ?_
  have hl := stN_le k v
  unfold okN
  rw [if_pos (by omega)]
  rfl
def wval (signed : Bool) (w : Int) : Int := if signed then (if 32768 ≤ w then w - 65536 else w) else w
theorem i16w (x : Int) (h : 0 ≤ x ∧ x ≤ 65535) : IntKind.i16.wrap x = if 32768 ≤ x then x - 65536 else x := by
  show (if (true && decide (x % 65536 ≥ 32768)) = true then x % 65536 - 65536 else x % 65536) = _
  have e : x % 65536 = x := by omega
  rw [e]
  by_cases q : 32768 ≤ x
  · rw [if_pos q, if_pos (by simp; omega)]
  · rw [if_neg q, if_neg (by simp; omega)]
theorem wval_b {signed : Bool} {w : Int} (h : 0 ≤ w ∧ w ≤ 65535) : -65536 ≤ wval signed w ∧ wval signed w ≤ 65535 := by
  unfold wval
  split
  · split <;> omega
  · omega
theorem worth_same {w : Int} (h : 0 ≤ w ∧ w ≤ 65535) (digits : Int) (signed : Bool) : ∃ r : (Int × Int) × Bool, units_Worth (w, digits, signed, ()) = some (r.1, r.2, ()) ∧ ref12_Worth (w, digits, signed, ()) = some (r.1, r.2, ()) := by
  have e1 : units_Worth (w, digits, signed, ()) = units_Worth_m0 units_Worth_K1 w digits signed := rfl
  have e2 : ref12_Worth (w, digits, signed, ()) = ref12_Worth_m0 ref12_Worth_K1 w digits signed := rfl
  have bad1 : units_Worth_K1 w digits signed true (0, 0) = some ((0, 0), false, ()) := rfl
  have bad2 : ref12_Worth_K1 w digits signed true (0, 0) = some ((0, 0), false, ()) := rfl
  rw [e1, e2]
  unfold units_Worth_m0 ref12_Worth_m0
  by_cases h1 : digits < 0
  · exact ⟨((0, 0), false), by rw [if_pos (lt_iff.2 h1), bad1], by rw [if_pos (lt_iff.2 h1), bad2]⟩
  · rw [if_neg (fun e => h1 (lt_iff.1 e)), if_neg (fun e => h1 (lt_iff.1 e))]
    by_cases h2 : 6 < digits
    · rw [gt_iff.2 h2]
      exact ⟨((0, 0), false), bad1, bad2⟩
    · have hf : gt digits 6 = false := by rw [gt_dec, decide_eq_false h2]
      rw [hf]
      obtain ⟨k, rfl⟩ : ∃ k : Nat, digits = (k : Int) := ⟨digits.toNat, by omega⟩
      have hb := wval_b (signed := signed) h
      have hc : cvt .i64 w = w := cvt64 (by omega) (by omega)
      obtain ⟨sg, v, hv, hvb⟩ : ∃ (sg : Bool) (v : Nat), wval signed w = sgn sg v ∧ v ≤ 65536 := by
        by_cases q : wval signed w < 0
        · exact ⟨true, (-wval signed w).toNat, by unfold sgn; rw [if_pos rfl]; omega, by omega⟩
        · exact ⟨false, (wval signed w).toNat, by unfold sgn; rw [if_neg (by decide)]; omega, by omega⟩
      refine ⟨tmS sg (okN (stN k v)), ?_, ?_⟩
      · have : units_Worth_K1 w (k : Int) signed false (0, 0) = units_Worth_K3 (k : Int) (wval signed w) (0, 0) := by
          unfold units_Worth_K1 units_Worth_m1 units_Worth_K2 units_Worth_m2 wval
          rw [if_neg (by decide)]
          cases signed with
          | true =>
            rw [if_pos rfl, if_pos rfl]
            show units_Worth_K3 (k : Int) (cvt .i64 (cvt .i16 w)) (0, 0) = _
            have : cvt .i16 w = if 32768 ≤ w then w - 65536 else w := i16w w h
            rw [this, cvt64 (by split <;> omega) (by split <;> omega)]
          | false =>
            rw [if_neg (by decide), if_neg (by decide), hc]
        rw [this, hv]
        exact uworth_K3 sg (by omega) (by omega) _
      · have : ref12_Worth_K1 w (k : Int) signed false (0, 0) = ref12_Worth_K3 (k : Int) (wval signed w) (0, 0) := by
          unfold ref12_Worth_K1 ref12_Worth_m1 ref12_Worth_K2 ref12_Worth_m2 wval
          rw [if_neg (by decide), hc]
          cases signed with
          | true =>
            rw [if_pos rfl, if_pos rfl]
            by_cases q : 32768 ≤ w
            · rw [if_pos (ge_iff.2 q), if_pos q, sub64 (by omega) (by omega)]
            · rw [if_neg (fun e => q (ge_iff.1 e)), if_neg q]
          | false =>
            rw [if_neg (by decide), if_neg (by decide), if_neg (by decide)]
        rw [this, hv]
        unfold ref12_Worth_K3 ref12_Worth_m3
        rw [ofN_eq sg (by omega) (by omega), Option.bind_some]
end Go.Proofs.Lx

end

section
/- UnitsTell as a plain law. -/
namespace Go.Proofs.Lx
open Go Ev Sx Pl
set_option maxRecDepth 100000
theorem eqi_s (x : Int) : eqi x x = true := eqi_iff.2 rfl
theorem eqs_s (x : List UInt8) : eqs x x = true := eqs_iff.2 rfl
theorem eqb_s (x : Bool) : eqb x x = true := by cases x <;> rfl
theorem neb_s (x : Bool) : neb x x = false := by cases x <;> rfl
theorem nes_s (x : List UInt8) : nes x x = false := by
  cases e : nes x x with
  | true => exact absurd rfl (nes_iff.1 e)
  | false => rfl
theorem nei_s (x : Int) : nei x x = false := by
  cases e : nei x x with
  | true => exact absurd rfl (nei_iff.1 e)
  | false => rfl
theorem tell_K3 {a : Int × Int} (ha : 0 ≤ a.2) {w : Int} (hw : 0 ≤ w ∧ w ≤ 65535) (num den : Int) (f t : List UInt8) (digits : Int) (signed : Bool) :
    law12_UnitsTell_K3 num den f t w digits signed false a = some (true, ()) := by
  unfold law12_UnitsTell_K3 law12_UnitsTell_m3
  obtain ⟨r1, e1, e2⟩ := times_same ha num den
  obtain ⟨r2, e3, e4⟩ := to_same ha f t
  obtain ⟨r3, e5, e6⟩ := word_same ha digits signed
  obtain ⟨r4, e7, e8⟩ := worth_same hw digits signed
  rw [if_neg (show ¬ (false = true) by decide), e1, e2, known_same, uknown_eq, e3, e4, e5, e6, e7, e8]
  simp only [Option.bind_some, eqi_s, eqs_s, eqb_s, Bool.and_self, if_true, awake12]
theorem tell_K2 {a b : Int × Int} (ha : 0 ≤ a.2) (hb : 0 ≤ b.2) {w : Int} (hw : 0 ≤ w ∧ w ≤ 65535) (num den : Int) (f t : List UInt8) (digits : Int) (signed : Bool) :
    law12_UnitsTell_K2 num den f t w digits signed false a b = some (true, ()) := by
  unfold law12_UnitsTell_K2 law12_UnitsTell_m2
  rw [if_neg (show ¬ (false = true) by decide), rright_eq, rright_eq, Option.bind_some]
  dsimp only
  have k3 := tell_K3 ha hw num den f t digits signed
  cases hga : rgt a with
  | false =>
    rw [if_neg (show ¬ (false = true) by decide), Option.bind_some]
    dsimp only
    rw [if_neg (show ¬ (false = true) by decide)]
    exact k3
  | true =>
    obtain ⟨s1, n1, D1, h1⟩ := rgt_rt hga ha
    rw [if_pos (show (true = true) from rfl), show_eq h1, rshow_eq h1, Option.bind_some, Option.bind_some]
    dsimp only
    rw [nes_s, if_neg (show ¬ (false = true) by decide), Option.bind_some]
    dsimp only
    rw [if_pos (show (true = true) from rfl), Option.bind_some]
    dsimp only
    cases hgb : rgt b with
    | false =>
      rw [if_neg (show ¬ (false = true) by decide)]
      exact k3
    | true =>
      obtain ⟨s2, n2, D2, h2⟩ := rgt_rt hgb hb
      rw [if_pos (show (true = true) from rfl), ucmp_eq h1 h2, rcmp_eq h1 h2, Option.bind_some, Option.bind_some]
      dsimp only
      rw [nei_s]
      exact k3
theorem tell_law {s : List UInt8} {a b : Int × Int} (ha : 0 ≤ a.2) (hb : 0 ≤ b.2) {w : Int} (hw : 0 ≤ w ∧ w ≤ 65535) (num den : Int) (f t : List UInt8) (digits : Int) (signed : Bool) :
    law12_UnitsTell (s, a, b, num, den, f, t, w, digits, signed, ()) = some (true, ()) := by
  show law12_UnitsTell_m0 law12_UnitsTell_K1 s a b num den f t w digits signed = _
  unfold law12_UnitsTell_m0
  have k1 : law12_UnitsTell_K1 s num den f t w digits signed true a b = some (true, ()) := by
    unfold law12_UnitsTell_K1 law12_UnitsTell_m1
    rw [if_pos (show (true = true) from rfl), awake12]
    rfl
  by_cases h1 : gt (Int.ofNat s.length) 40 = true
  · rw [if_pos h1]
    exact k1
  · rw [if_neg h1]
    by_cases h2 : gt (Int.ofNat f.length) 10 = true
    · rw [if_pos h2]
      exact k1
    · rw [if_neg h2]
      cases h3 : gt (Int.ofNat t.length) 10 with
      | true => exact k1
      | false =>
        have hl : s.length < 1000000 := by
          have : ¬ (40 : Int) < Int.ofNat s.length := fun e => h1 (gt_iff.2 e)
          rw [ofNat_eq] at this
          omega
        unfold law12_UnitsTell_K1 law12_UnitsTell_m1
        rw [if_neg (show ¬ (false = true) by decide), parse_eq hl, refParse_eq hl, Option.bind_some, Option.bind_some]
        dsimp only
        rw [same_dec, neb_s, if_neg (show ¬ ((!true) = true) by decide), if_neg (show ¬ (false = true) by decide), right_eq, rright_eq, Option.bind_some, Option.bind_some]
        dsimp only
        rw [neb_s]
        exact tell_K2 ha hb hw num den f t digits signed
theorem ok16u {x : Int} (h : (Lit.int .u16 x).wf = true) : 0 ≤ x ∧ x ≤ 65535 := by
  simp [Lit.wf] at h
  have e1 : IntKind.u16.min = 0 := rfl
  have e2 : IntKind.u16.max = 65535 := rfl
  omega
theorem ut_row (x : As [.str, .pr (.int .i64) (.int .u8), .pr (.int .i64) (.int .u8), .int .i64, .int .i64, .str, .str, .int .u16, .int .i64, .bool]) (h : Rw.okA [.str, .pr (.int .i64) (.int .u8), .pr (.int .i64) (.int .u8), .int .i64, .int .i64, .str, .str, .int .u16, .int .i64, .bool] x) : law12_UnitsTell x = some (true, ()) :=
  tell_law (s := x.1) (a := x.2.1) (b := x.2.2.1) (ok8u h.2.1.2).1 (ok8u h.2.2.1.2).1 (ok16u h.2.2.2.2.2.2.2.1) x.2.2.2.1 x.2.2.2.2.1 x.2.2.2.2.2.1 x.2.2.2.2.2.2.1 x.2.2.2.2.2.2.2.2.1 x.2.2.2.2.2.2.2.2.2.1
end Go.Proofs.Lx

end
