/- Proved in the last of these 10 parts (this is part 4): UnitsTimes: for every argument the card's run of the law answers true. Conditions: those of the given statement, and no others. -/
import Derived.Test.YtihfogahdofdmaaDoorPartc
set_option linter.unusedVariables false
set_option linter.unusedSimpArgs false
set_option linter.unusedSectionVars false
section
/- What Worth, Word and some compute. -/
namespace SxYtihfogahdofdmaaDoor
open Go Sx
theorem tm10 (x : Int) : 10 * x.tdiv 10 + x.tmod 10 = x ∧ -10 < x.tmod 10 ∧ x.tmod 10 < 10 :=
  ⟨Int.mul_tdiv_add_tmod x 10, Int.lt_tmod_of_pos x (by decide), Int.tmod_lt_of_pos x (by decide)⟩
theorem quo10 {x : Int} (h1 : -9000000000000000000 ≤ x) (h2 : x ≤ 9000000000000000000) : quo .i64 x 10 = x.tdiv 10 := by
  unfold quo
  have := tm10 x
  exact wrap64 (by omega) (by omega)
theorem cvt_u8 (n : Nat) (h : n ≤ 6) : cvt .u8 (n : Int) = n := wrapu8 (by omega) (by omega)
theorem m16_loop : ∀ (n : Nat) (m : Nat) (v : Int), n ≤ 6 → n < m → -9000000000000000000 ≤ v → v ≤ 9000000000000000000 →
    loopF (m16_L4 64) m ((n : Int), v) = some ((⟨(strip n v).2, ((strip n v).1 : Nat)⟩ : TDec), true)
  | n, 0, v, _, h, _, _ => by omega
  | 0, m + 1, v, _, _, _, _ => by
    simp only [loopF, m16_L4, m16_J5, m16_J3, gt, strip]
    simp [cvt, IntKind.wrap, IntKind.signed, IntKind.bits]
  | n + 1, m + 1, v, h6, hm, h1, h2 => by
    have hs : sub .i64 ((n + 1 : Nat) : Int) 1 = (n : Int) := by
      unfold sub
      rw [wrap64 (by omega) (by omega)]
      omega
    have hb := tm10 v
    have ih := m16_loop n m (v.tdiv 10) (by omega) (by omega) (by omega) (by omega)
    have hg : gt ((n + 1 : Nat) : Int) 0 = true := decide_eq_true (by omega)
    simp only [loopF, m16_L4, m16_J5, m16_J3, hg, if_true, eqi, rem, hs, quo10 h1 h2, strip]
    by_cases h : v.tmod 10 = 0
    · simp only [h, beq_self_eq_true, if_true, ih]
    · have hc := cvt_u8 (n + 1) h6
      simp [h]
      simpa using hc
/-- what a register stands for -/
def val (w : Int) (s : Bool) : Int := if s then (if w < 32768 then w else w - 65536) else w
theorem m39_eq {w : Int} (h1 : 0 ≤ w) (h2 : w ≤ 65535) : m39 64 w = some (val w true) := by
  unfold m39 val cvt
  simp only [IntKind.wrap, IntKind.signed, IntKind.bits]
  simp
  split <;> omega
theorem m16_eq {w : Int} {n : Nat} (s : Bool) (h1 : 0 ≤ w) (h2 : w ≤ 65535) (hn : n ≤ 6) :
    m16 64 w n s = some ((⟨(strip n (val w s)).2, ((strip n (val w s)).1 : Nat)⟩ : TDec), true) := by
  have e1 : lt (n : Int) 0 = false := by simp [lt]
  have e2 : gt (n : Int) 6 = false := by simp [gt]; omega
  have hv : -65536 ≤ val w s ∧ val w s ≤ 65535 := by unfold val; split <;> (try split) <;> omega
  have hl := m16_loop n 64 (val w s) hn (by omega) (by omega) (by omega)
  unfold m16
  simp only [e1, e2, m16_J1, if_false, Bool.false_eq_true]
  cases s
  · have : cvt .i64 w = w := wrap64 (by omega) (by omega)
    simp only [Bool.false_eq_true, if_false, m16_J2, this]
    exact hl
  · simp only [if_true, m39_eq h1 h2, Option.bind_some, m16_J2]
    exact hl
theorem strip_right {n : Nat} {v : Int} (hn : n ≤ 6) (h1 : -1000000000000 ≤ v) (h2 : v ≤ 1000000000000) : RightD ⟨(strip n v).2, ((strip n v).1 : Nat)⟩ := by
  obtain ⟨h3, _, h5⟩ := strip_spec n v
  have h6 := strip_abs n v 1000000000000 ⟨h1, h2⟩
  refine ⟨h6.1, h6.2, by simp, by simp; omega, ?_⟩
  rcases h5 with h5 | h5
  · exact .inl (by simp [h5])
  · exact .inr h5
end SxYtihfogahdofdmaaDoor

end

section
/- Word, Cmp, some. -/
namespace SxYtihfogahdofdmaaDoor
open Go Sx
theorem p10_le : ∀ n, n ≤ 6 → p10 n ≤ 1000000
  | 0, _ => by decide
  | 1, _ => by decide
  | 2, _ => by decide
  | 3, _ => by decide
  | 4, _ => by decide
  | 5, _ => by decide
  | 6, _ => by decide
  | n + 7, h => by omega
theorem mulB {a b A B : Int} (ha : -A ≤ a ∧ a ≤ A) (hb : 0 ≤ b ∧ b ≤ B) (hA : 0 ≤ A) : -(A * B) ≤ a * b ∧ a * b ≤ A * B := by
  have h1 : a * b ≤ A * b := Int.mul_le_mul_of_nonneg_right ha.2 hb.1
  have h2 : A * b ≤ A * B := Int.mul_le_mul_of_nonneg_left hb.2 hA
  have h3 : -A * b ≤ a * b := Int.mul_le_mul_of_nonneg_right ha.1 hb.1
  rw [Int.neg_mul] at h3
  omega
theorem right_mul {d : TDec} (h : RightD d) {n : Nat} (hn : n ≤ 6) : mul .i64 d.N (p10 n) = d.N * p10 n ∧ -1000000000000000000 ≤ d.N * p10 n ∧ d.N * p10 n ≤ 1000000000000000000 := by
  have := mulB (a := d.N) (b := p10 n) (A := 1000000000000) (B := 1000000) ⟨h.1, h.2.1⟩ ⟨Int.le_of_lt (p10_pos n), p10_le n hn⟩ (by decide)
  refine ⟨wrap64 (by omega) (by omega), by omega, by omega⟩
def wordOf (X : Int) (s : Bool) : Int × Bool :=
  if (if s then -32768 ≤ X ∧ X ≤ 32767 else 0 ≤ X ∧ X ≤ 65535) then (X % 65536, true) else (0, false)
theorem cvt16 (X : Int) : cvt .u16 X = X % 65536 := wrapu16
theorem m40_eq (X : Int) : m40 64 X = some (wordOf X true) := by
  unfold m40 wordOf
  simp only [m40_J1, lt, ge, cvt16]
  by_cases h1 : X < -32768
  · have : ¬ (-32768 ≤ X ∧ X ≤ 32767) := by omega
    simp [h1, this]
  · by_cases h2 : X ≥ 32768
    · have : ¬ (-32768 ≤ X ∧ X ≤ 32767) := by omega
      simp [h1, h2, this]
    · have : (-32768 ≤ X ∧ X ≤ 32767) := by omega
      simp [h1, h2, this]
theorem cvt64 {x : Int} (h1 : -9000000000000000000 ≤ x) (h2 : x ≤ 9000000000000000000) : cvt .i64 x = x := wrap64 (by omega) (by omega)
theorem m17_eq {d : TDec} (h : RightD d) {n : Nat} (s : Bool) (hn : n ≤ 6) (hD : d.D.toNat ≤ n) : m17 64 d n s = some (wordOf (d.N * p10 (n - d.D.toNat)) s) := by
  have h0 := h.2.2.1
  have h6 := h.2.2.2.1
  have e1 : lt (n : Int) (cvt .i64 d.D) = false := by
    rw [cvt64 (by omega) (by omega)]
    exact decide_eq_false (by omega)
  have e2 : gt (n : Int) 6 = false := decide_eq_false (by omega)
  have e3 : sub .i64 (n : Int) (cvt .i64 d.D) = ((n - d.D.toNat : Nat) : Int) := by
    rw [cvt64 (by omega) (by omega)]
    unfold sub
    rw [wrap64 (by omega) (by omega)]
    omega
  obtain ⟨e4, b1, b2⟩ := right_mul h (n := n - d.D.toNat) (by omega)
  unfold m17
  simp only [m14_right h, Option.bind_some, if_true, e1, e2, Bool.false_eq_true, if_false, m17_J1, e3, m37_eq _ (show n - d.D.toNat ≤ 6 by omega), e4, m17_J2, m40_eq, cvt16]
  generalize d.N * p10 (n - d.D.toNat) = X at b1 b2
  by_cases q1 : X < -32768
  · have q : wordOf X s = (0, false) := by
      unfold wordOf
      rw [if_neg (by cases s <;> simp <;> omega)]
    simp [lt, q1, q]
  · by_cases q2 : X ≥ 65536
    · have q : wordOf X s = (0, false) := by
        unfold wordOf
        rw [if_neg (by cases s <;> simp <;> omega)]
      simp [lt, ge, q1, q2, q]
    · cases s
      · by_cases q3 : X < 0
        · have q : wordOf X false = (0, false) := by
            unfold wordOf
            rw [if_neg (by simp; omega)]
          simp [lt, ge, q1, q2, q, q3]
        · have q : wordOf X false = (X % 65536, true) := by
            unfold wordOf
            rw [if_pos (by simp; omega)]
          simp [lt, ge, q1, q2, q, q3]
      · simp [lt, ge, q1, q2]
theorem m17_far {d : TDec} (h : RightD d) {n : Int} (s : Bool) (hn : n < d.D ∨ 6 < n) (hb : -1000 ≤ n ∧ n ≤ 1000) : m17 64 d n s = some (0, false) := by
  have h0 := h.2.2.1
  have h6 := h.2.2.2.1
  unfold m17
  simp only [m14_right h, Option.bind_some, if_true, cvt64 (x := d.D) (by omega) (by omega)]
  by_cases q : n < d.D
  · simp [lt, q, m17_J1]
  · have q2 : 6 < n := by omega
    simp [lt, gt, q, q2, m17_J1]
/-- Cmp of right ones -/
theorem m15_eq {a b : TDec} (ha : RightD a) (hb : RightD b) :
    m15 64 a b = some (if a.N * p10 (6 - a.D.toNat) < b.N * p10 (6 - b.D.toNat) then -1 else if a.N * p10 (6 - a.D.toNat) > b.N * p10 (6 - b.D.toNat) then 1 else 0) := by
  have e : ∀ {d : TDec}, RightD d → sub .i64 6 (cvt .i64 d.D) = ((6 - d.D.toNat : Nat) : Int) := by
    intro d hd
    have h0 := hd.2.2.1
    have h6 := hd.2.2.2.1
    rw [cvt64 (by omega) (by omega)]
    unfold sub
    rw [wrap64 (by omega) (by omega)]
    omega
  obtain ⟨x1, _, _⟩ := right_mul ha (n := 6 - a.D.toNat) (by omega)
  obtain ⟨y1, _, _⟩ := right_mul hb (n := 6 - b.D.toNat) (by omega)
  unfold m15
  simp only [m14_right ha, m14_right hb, Option.bind_some, if_true, m15_J1, Bool.not_true, Bool.false_eq_true, if_false, e ha, e hb, m37_eq _ (show 6 - a.D.toNat ≤ 6 by omega), m37_eq _ (show 6 - b.D.toNat ≤ 6 by omega), x1, y1, lt, gt, decide_eq_true_eq]
  split
  · rfl
  · split <;> rfl
theorem m9_loop : ∀ (n : Nat) (m : Nat) (v : Int), n ≤ 6 → n < m → -9000000000000000000 ≤ v → v ≤ 9000000000000000000 →
    loopF (m9_L2 64) m (v, (n : Int)) = some (⟨(strip n v).2, ((strip n v).1 : Nat)⟩ : TDec)
  | n, 0, v, _, h, _, _ => by omega
  | 0, m + 1, v, _, _, _, _ => by
    simp only [loopF, m9_L2, m9_J3, m9_J1, gt, strip]
    simp
  | n + 1, m + 1, v, h6, hm, h1, h2 => by
    have hs : sub .u8 ((n + 1 : Nat) : Int) 1 = (n : Int) := by
      unfold sub
      rw [wrapu8 (by omega) (by omega)]
      omega
    have hb := tm10 v
    have ih := m9_loop n m (v.tdiv 10) (by omega) (by omega) (by omega) (by omega)
    have hg : gt ((n + 1 : Nat) : Int) 0 = true := decide_eq_true (by omega)
    simp only [loopF, m9_L2, m9_J3, m9_J1, hg, if_true, eqi, rem, hs, quo10 h1 h2, strip]
    by_cases h : v.tmod 10 = 0
    · simp only [h, beq_self_eq_true, if_true, ih]
    · simp [h]
theorem m9_eq {d : TDec} (hD : 0 ≤ d.D) : ∃ e, m9 64 d = some e ∧ RightD e := by
  have h1 := Int.tmod_lt_of_pos d.N (show (0 : Int) < 1000000000001 by decide)
  have h2 := Int.lt_tmod_of_pos d.N (show (0 : Int) < 1000000000001 by decide)
  have h3 := Int.tmod_lt_of_pos d.D (show (0 : Int) < 7 by decide)
  have h4 := Int.tmod_nonneg 7 hD
  have e : rem d.D 7 = ((d.D.tmod 7).toNat : Int) := by unfold rem; omega
  refine ⟨_, ?_, strip_right (n := (d.D.tmod 7).toNat) (v := d.N.tmod 1000000000001) (by omega) (by omega) (by omega)⟩
  unfold m9
  rw [e]
  exact m9_loop _ 64 _ (by omega) (by omega) (by unfold rem; omega) (by unfold rem; omega)
end SxYtihfogahdofdmaaDoor

end

section
/- Written by program (gen.py): the model of math/bits.Mul64, and the proof that its code computes it. -/
namespace SxYtihfogahdofdmaaDoor
open Go Go.RowKit Sx Go.Proofs
set_option linter.unusedVariables false
set_option linter.unusedSimpArgs false
attribute [local irreducible] WL WX CW OW
/-! ### 36: "math/bits.Mul64" -/
def m36 (fuel : Nat) (p0_0 : Int) (p1_0 : Int) : Option (Int × Int) :=
  (some (mul .u64 (band .u64 p0_0 4294967295) (band .u64 p1_0 4294967295))).bind fun x_1 => (some (add .u64 (mul .u64 (shr .u64 p0_0 32) (band .u64 p1_0 4294967295)) (shr .u64 x_1 32))).bind fun x_2 => (some (add .u64 (band .u64 x_2 4294967295) (mul .u64 (band .u64 p0_0 4294967295) (shr .u64 p1_0 32)))).bind fun x_3 => (some (add .u64 (mul .u64 (shr .u64 p0_0 32) (shr .u64 p1_0 32)) (shr .u64 x_2 32))).bind fun x_4 => some ((add .u64 x_4 (shr .u64 x_3 32)), (mul .u64 p0_0 p1_0))
@[reducible] def Q36 (F : Lx) (w0 : World) (r : (Int × Int)) (v : Value) (w' : World) : Prop := v = .tuple #[.int .u64 r.1, .int .u64 r.2] ∧ Below w0.heap.size w0 w'
set_option maxRecDepth 100000 in
set_option maxHeartbeats 4000000 in
theorem f36_ok (fuel : Nat) (F : Lx) (w0 : World) (hF : ∀ k, some k ∈ F → k < w0.heap.size) {p0_0 : Int} {p1_0 : Int} {r : (Int × Int)} (hm : m36 fuel p0_0 p1_0 = some r) :
    Calls Tryd.prog 36 #[.int .u64 p0_0, .int .u64 p1_0] w0 (fun e w' => ∃ v, e = .returned v ∧ Q36 F w0 r v w') := by
  have hPF : PF (bodyPost Tryd.prog Tryd.f36 (fun e w' => ∃ v, e = .returned v ∧ Q36 F w0 r v w')) := PF.body (fun c w h => by obtain ⟨v, e, _⟩ := h; cases e)
  have hL := LOk.start hF
  have hB := Below.refl w0.heap.size w0
  unfold m36 at hm
  refine enter (l := [.int .u64 p0_0, .int .u64 p1_0, undef, undef, undef, undef, undef, undef, undef, undef, undef, undef, undef, undef, undef, undef, undef, undef, undef, undef, undef, undef, undef, undef, undef, undef, undef, undef, undef, undef, undef, undef, undef, undef, undef, undef, undef, undef, undef, undef, undef, undef, undef, undef, undef, undef, undef, undef, undef, undef, undef]) Tryd.func36 rfl Tryd.ntmps36 (by kernel_rfl) ?_
  refine cw_seq ?_
  refine cw_region ?_
  refine wl_val (v := .int .u64 0) (w' := w0) (by kernel_rfl) (run_assign (v := .int .u64 0) (by kernel_rfl)) ?_
  refine wl_val (v := .int .u64 0) (w' := w0) (by kernel_rfl) (run_assign (v := .int .u64 0) (by kernel_rfl)) ?_
  refine wl_nil ?_
  refine then_n ?_
  refine cw_seq ?_
  refine cw_region ?_
  refine wl_val (v := .int .u64 p0_0) (w' := w0) (by kernel_rfl) (run_move (v := .int .u64 p0_0) (by kernel_rfl)) ?_
  refine wl_val (v := .int .u64 (band .u64 p0_0 4294967295)) (w' := w0) (by kernel_rfl) (run_band (k := .u64) (a := p0_0) (b := 4294967295) (by kernel_rfl) (by kernel_rfl)) ?_
  refine wl_val (v := .int .u64 (band .u64 p0_0 4294967295)) (w' := w0) (by kernel_rfl) (run_assign (v := .int .u64 (band .u64 p0_0 4294967295)) (by kernel_rfl)) ?_
  refine wl_nil ?_
  refine then_n ?_
  refine cw_seq ?_
  refine cw_region ?_
  refine wl_val (v := .int .u64 p0_0) (w' := w0) (by kernel_rfl) (run_move (v := .int .u64 p0_0) (by kernel_rfl)) ?_
  refine wl_val (v := .int .u64 (shr .u64 p0_0 32)) (w' := w0) (by kernel_rfl) (run_shr (k := .u64) (a := p0_0) (k' := .u64) (b := 32) (by kernel_rfl) (by kernel_rfl) rfl) ?_
  refine wl_val (v := .int .u64 (shr .u64 p0_0 32)) (w' := w0) (by kernel_rfl) (run_assign (v := .int .u64 (shr .u64 p0_0 32)) (by kernel_rfl)) ?_
  refine wl_nil ?_
  refine then_n ?_
  refine cw_seq ?_
  refine cw_region ?_
  refine wl_val (v := .int .u64 p1_0) (w' := w0) (by kernel_rfl) (run_move (v := .int .u64 p1_0) (by kernel_rfl)) ?_
  refine wl_val (v := .int .u64 (band .u64 p1_0 4294967295)) (w' := w0) (by kernel_rfl) (run_band (k := .u64) (a := p1_0) (b := 4294967295) (by kernel_rfl) (by kernel_rfl)) ?_
  refine wl_val (v := .int .u64 (band .u64 p1_0 4294967295)) (w' := w0) (by kernel_rfl) (run_assign (v := .int .u64 (band .u64 p1_0 4294967295)) (by kernel_rfl)) ?_
  refine wl_nil ?_
  refine then_n ?_
  refine cw_norm [.int .u64 p0_0, .int .u64 p1_0, undef, undef, .int .u64 0, .int .u64 0, .int .u64 (band .u64 p0_0 4294967295), .int .u64 (shr .u64 p0_0 32), .int .u64 (band .u64 p1_0 4294967295), undef, undef, undef, undef, undef, .int .u64 p0_0, .int .u64 (band .u64 p0_0 4294967295), .int .u64 p0_0, .int .u64 (shr .u64 p0_0 32), .int .u64 p1_0, .int .u64 (band .u64 p1_0 4294967295), undef, undef, undef, undef, undef, undef, undef, undef, undef, undef, undef, undef, undef, undef, undef, undef, undef, undef, undef, undef, undef, undef, undef, undef, undef, undef, undef, undef, undef, undef, undef] (by kernel_rfl) ?_
  refine cw_seq ?_
  refine cw_region ?_
  refine wl_val (v := .int .u64 p1_0) (w' := w0) (by kernel_rfl) (run_move (v := .int .u64 p1_0) (by kernel_rfl)) ?_
  refine wl_val (v := .int .u64 (shr .u64 p1_0 32)) (w' := w0) (by kernel_rfl) (run_shr (k := .u64) (a := p1_0) (k' := .u64) (b := 32) (by kernel_rfl) (by kernel_rfl) rfl) ?_
  refine wl_val (v := .int .u64 (shr .u64 p1_0 32)) (w' := w0) (by kernel_rfl) (run_assign (v := .int .u64 (shr .u64 p1_0 32)) (by kernel_rfl)) ?_
  refine wl_nil ?_
  refine then_n ?_
  refine cw_seq ?_
  refine cw_region ?_
  refine wl_val (v := .int .u64 (band .u64 p0_0 4294967295)) (w' := w0) (by kernel_rfl) (run_move (v := .int .u64 (band .u64 p0_0 4294967295)) (by kernel_rfl)) ?_
  refine wl_val (v := .int .u64 (band .u64 p1_0 4294967295)) (w' := w0) (by kernel_rfl) (run_move (v := .int .u64 (band .u64 p1_0 4294967295)) (by kernel_rfl)) ?_
  obtain ⟨x_1, h_1, hm⟩ := bind_e hm
  refine wl_val (v := .int .u64 x_1) (w' := w0) (by kernel_rfl) (by rw [← Option.some.inj h_1]; exact run_mul (k := .u64) (a := (band .u64 p0_0 4294967295)) (b := (band .u64 p1_0 4294967295)) (by kernel_rfl) (by kernel_rfl)) ?_
  refine wl_val (v := .int .u64 x_1) (w' := w0) (by kernel_rfl) (run_assign (v := .int .u64 x_1) (by kernel_rfl)) ?_
  refine wl_nil ?_
  refine then_n ?_
  refine cw_seq ?_
  refine cw_region ?_
  refine wl_val (v := .int .u64 (shr .u64 p0_0 32)) (w' := w0) (by kernel_rfl) (run_move (v := .int .u64 (shr .u64 p0_0 32)) (by kernel_rfl)) ?_
  refine wl_val (v := .int .u64 (band .u64 p1_0 4294967295)) (w' := w0) (by kernel_rfl) (run_move (v := .int .u64 (band .u64 p1_0 4294967295)) (by kernel_rfl)) ?_
  refine wl_val (v := .int .u64 (mul .u64 (shr .u64 p0_0 32) (band .u64 p1_0 4294967295))) (w' := w0) (by kernel_rfl) (run_mul (k := .u64) (a := (shr .u64 p0_0 32)) (b := (band .u64 p1_0 4294967295)) (by kernel_rfl) (by kernel_rfl)) ?_
  refine wl_val (v := .int .u64 x_1) (w' := w0) (by kernel_rfl) (run_move (v := .int .u64 x_1) (by kernel_rfl)) ?_
  refine wl_val (v := .int .u64 (shr .u64 x_1 32)) (w' := w0) (by kernel_rfl) (run_shr (k := .u64) (a := x_1) (k' := .u64) (b := 32) (by kernel_rfl) (by kernel_rfl) rfl) ?_
  obtain ⟨x_2, h_2, hm⟩ := bind_e hm
  refine wl_val (v := .int .u64 x_2) (w' := w0) (by kernel_rfl) (by rw [← Option.some.inj h_2]; exact run_add (k := .u64) (a := (mul .u64 (shr .u64 p0_0 32) (band .u64 p1_0 4294967295))) (b := (shr .u64 x_1 32)) (by kernel_rfl) (by kernel_rfl)) ?_
  refine wl_val (v := .int .u64 x_2) (w' := w0) (by kernel_rfl) (run_assign (v := .int .u64 x_2) (by kernel_rfl)) ?_
  refine wl_nil ?_
  refine then_n ?_
  refine cw_norm [.int .u64 p0_0, .int .u64 p1_0, undef, undef, .int .u64 0, .int .u64 0, .int .u64 (band .u64 p0_0 4294967295), .int .u64 (shr .u64 p0_0 32), .int .u64 (band .u64 p1_0 4294967295), .int .u64 (shr .u64 p1_0 32), .int .u64 x_1, .int .u64 x_2, undef, undef, .int .u64 p0_0, .int .u64 (band .u64 p0_0 4294967295), .int .u64 p0_0, .int .u64 (shr .u64 p0_0 32), .int .u64 p1_0, .int .u64 (band .u64 p1_0 4294967295), .int .u64 p1_0, .int .u64 (shr .u64 p1_0 32), .int .u64 (band .u64 p0_0 4294967295), .int .u64 (band .u64 p1_0 4294967295), .int .u64 x_1, .int .u64 (shr .u64 p0_0 32), .int .u64 (band .u64 p1_0 4294967295), .int .u64 (mul .u64 (shr .u64 p0_0 32) (band .u64 p1_0 4294967295)), .int .u64 x_1, .int .u64 (shr .u64 x_1 32), .int .u64 x_2, undef, undef, undef, undef, undef, undef, undef, undef, undef, undef, undef, undef, undef, undef, undef, undef, undef, undef, undef, undef] (by kernel_rfl) ?_
  refine cw_seq ?_
  refine cw_region ?_
  refine wl_val (v := .int .u64 x_2) (w' := w0) (by kernel_rfl) (run_move (v := .int .u64 x_2) (by kernel_rfl)) ?_
  refine wl_val (v := .int .u64 (band .u64 x_2 4294967295)) (w' := w0) (by kernel_rfl) (run_band (k := .u64) (a := x_2) (b := 4294967295) (by kernel_rfl) (by kernel_rfl)) ?_
  refine wl_val (v := .int .u64 (band .u64 x_2 4294967295)) (w' := w0) (by kernel_rfl) (run_assign (v := .int .u64 (band .u64 x_2 4294967295)) (by kernel_rfl)) ?_
  refine wl_nil ?_
  refine then_n ?_
  refine cw_seq ?_
  refine cw_region ?_
  refine wl_val (v := .int .u64 x_2) (w' := w0) (by kernel_rfl) (run_move (v := .int .u64 x_2) (by kernel_rfl)) ?_
  refine wl_val (v := .int .u64 (shr .u64 x_2 32)) (w' := w0) (by kernel_rfl) (run_shr (k := .u64) (a := x_2) (k' := .u64) (b := 32) (by kernel_rfl) (by kernel_rfl) rfl) ?_
  refine wl_val (v := .int .u64 (shr .u64 x_2 32)) (w' := w0) (by kernel_rfl) (run_assign (v := .int .u64 (shr .u64 x_2 32)) (by kernel_rfl)) ?_
  refine wl_nil ?_
  refine then_n ?_
  refine cw_seq ?_
  refine cw_region ?_
  refine wl_val (v := .int .u64 (band .u64 x_2 4294967295)) (w' := w0) (by kernel_rfl) (run_move (v := .int .u64 (band .u64 x_2 4294967295)) (by kernel_rfl)) ?_
  refine wl_val (v := .int .u64 (band .u64 p0_0 4294967295)) (w' := w0) (by kernel_rfl) (run_move (v := .int .u64 (band .u64 p0_0 4294967295)) (by kernel_rfl)) ?_
  refine wl_val (v := .int .u64 (shr .u64 p1_0 32)) (w' := w0) (by kernel_rfl) (run_move (v := .int .u64 (shr .u64 p1_0 32)) (by kernel_rfl)) ?_
  refine wl_val (v := .int .u64 (mul .u64 (band .u64 p0_0 4294967295) (shr .u64 p1_0 32))) (w' := w0) (by kernel_rfl) (run_mul (k := .u64) (a := (band .u64 p0_0 4294967295)) (b := (shr .u64 p1_0 32)) (by kernel_rfl) (by kernel_rfl)) ?_
  obtain ⟨x_3, h_3, hm⟩ := bind_e hm
  refine wl_val (v := .int .u64 x_3) (w' := w0) (by kernel_rfl) (by rw [← Option.some.inj h_3]; exact run_add (k := .u64) (a := (band .u64 x_2 4294967295)) (b := (mul .u64 (band .u64 p0_0 4294967295) (shr .u64 p1_0 32))) (by kernel_rfl) (by kernel_rfl)) ?_
  refine wl_val (v := .int .u64 x_3) (w' := w0) (by kernel_rfl) (run_assign (v := .int .u64 x_3) (by kernel_rfl)) ?_
  refine wl_nil ?_
  refine then_n ?_
  refine cw_norm [.int .u64 p0_0, .int .u64 p1_0, undef, undef, .int .u64 0, .int .u64 0, .int .u64 (band .u64 p0_0 4294967295), .int .u64 (shr .u64 p0_0 32), .int .u64 (band .u64 p1_0 4294967295), .int .u64 (shr .u64 p1_0 32), .int .u64 x_1, .int .u64 x_2, .int .u64 x_3, .int .u64 (shr .u64 x_2 32), .int .u64 p0_0, .int .u64 (band .u64 p0_0 4294967295), .int .u64 p0_0, .int .u64 (shr .u64 p0_0 32), .int .u64 p1_0, .int .u64 (band .u64 p1_0 4294967295), .int .u64 p1_0, .int .u64 (shr .u64 p1_0 32), .int .u64 (band .u64 p0_0 4294967295), .int .u64 (band .u64 p1_0 4294967295), .int .u64 x_1, .int .u64 (shr .u64 p0_0 32), .int .u64 (band .u64 p1_0 4294967295), .int .u64 (mul .u64 (shr .u64 p0_0 32) (band .u64 p1_0 4294967295)), .int .u64 x_1, .int .u64 (shr .u64 x_1 32), .int .u64 x_2, .int .u64 x_2, .int .u64 (band .u64 x_2 4294967295), .int .u64 x_2, .int .u64 (shr .u64 x_2 32), .int .u64 (band .u64 x_2 4294967295), .int .u64 (band .u64 p0_0 4294967295), .int .u64 (shr .u64 p1_0 32), .int .u64 (mul .u64 (band .u64 p0_0 4294967295) (shr .u64 p1_0 32)), .int .u64 x_3, undef, undef, undef, undef, undef, undef, undef, undef, undef, undef, undef] (by kernel_rfl) ?_
  refine cw_seq ?_
  refine cw_region ?_
  refine wl_val (v := .int .u64 (shr .u64 p0_0 32)) (w' := w0) (by kernel_rfl) (run_move (v := .int .u64 (shr .u64 p0_0 32)) (by kernel_rfl)) ?_
  refine wl_val (v := .int .u64 (shr .u64 p1_0 32)) (w' := w0) (by kernel_rfl) (run_move (v := .int .u64 (shr .u64 p1_0 32)) (by kernel_rfl)) ?_
  refine wl_val (v := .int .u64 (mul .u64 (shr .u64 p0_0 32) (shr .u64 p1_0 32))) (w' := w0) (by kernel_rfl) (run_mul (k := .u64) (a := (shr .u64 p0_0 32)) (b := (shr .u64 p1_0 32)) (by kernel_rfl) (by kernel_rfl)) ?_
  refine wl_val (v := .int .u64 (shr .u64 x_2 32)) (w' := w0) (by kernel_rfl) (run_move (v := .int .u64 (shr .u64 x_2 32)) (by kernel_rfl)) ?_
  obtain ⟨x_4, h_4, hm⟩ := bind_e hm
  refine wl_val (v := .int .u64 x_4) (w' := w0) (by kernel_rfl) (by rw [← Option.some.inj h_4]; exact run_add (k := .u64) (a := (mul .u64 (shr .u64 p0_0 32) (shr .u64 p1_0 32))) (b := (shr .u64 x_2 32)) (by kernel_rfl) (by kernel_rfl)) ?_
  refine wl_val (v := .int .u64 x_3) (w' := w0) (by kernel_rfl) (run_move (v := .int .u64 x_3) (by kernel_rfl)) ?_
  refine wl_val (v := .int .u64 (shr .u64 x_3 32)) (w' := w0) (by kernel_rfl) (run_shr (k := .u64) (a := x_3) (k' := .u64) (b := 32) (by kernel_rfl) (by kernel_rfl) rfl) ?_
  refine wl_val (v := .int .u64 (add .u64 x_4 (shr .u64 x_3 32))) (w' := w0) (by kernel_rfl) (run_add (k := .u64) (a := x_4) (b := (shr .u64 x_3 32)) (by kernel_rfl) (by kernel_rfl)) ?_
  refine wl_val (v := .int .u64 (add .u64 x_4 (shr .u64 x_3 32))) (w' := w0) (by kernel_rfl) (run_assign (v := .int .u64 (add .u64 x_4 (shr .u64 x_3 32))) (by kernel_rfl)) ?_
  refine wl_nil ?_
  refine then_n ?_
  refine cw_seq ?_
  refine cw_region ?_
  refine wl_val (v := .int .u64 p0_0) (w' := w0) (by kernel_rfl) (run_move (v := .int .u64 p0_0) (by kernel_rfl)) ?_
  refine wl_val (v := .int .u64 p1_0) (w' := w0) (by kernel_rfl) (run_move (v := .int .u64 p1_0) (by kernel_rfl)) ?_
  refine wl_val (v := .int .u64 (mul .u64 p0_0 p1_0)) (w' := w0) (by kernel_rfl) (run_mul (k := .u64) (a := p0_0) (b := p1_0) (by kernel_rfl) (by kernel_rfl)) ?_
  refine wl_val (v := .int .u64 (mul .u64 p0_0 p1_0)) (w' := w0) (by kernel_rfl) (run_assign (v := .int .u64 (mul .u64 p0_0 p1_0)) (by kernel_rfl)) ?_
  refine wl_nil ?_
  refine then_n ?_
  refine cw_norm [.int .u64 p0_0, .int .u64 p1_0, undef, undef, .int .u64 (add .u64 x_4 (shr .u64 x_3 32)), .int .u64 (mul .u64 p0_0 p1_0), .int .u64 (band .u64 p0_0 4294967295), .int .u64 (shr .u64 p0_0 32), .int .u64 (band .u64 p1_0 4294967295), .int .u64 (shr .u64 p1_0 32), .int .u64 x_1, .int .u64 x_2, .int .u64 x_3, .int .u64 (shr .u64 x_2 32), .int .u64 p0_0, .int .u64 (band .u64 p0_0 4294967295), .int .u64 p0_0, .int .u64 (shr .u64 p0_0 32), .int .u64 p1_0, .int .u64 (band .u64 p1_0 4294967295), .int .u64 p1_0, .int .u64 (shr .u64 p1_0 32), .int .u64 (band .u64 p0_0 4294967295), .int .u64 (band .u64 p1_0 4294967295), .int .u64 x_1, .int .u64 (shr .u64 p0_0 32), .int .u64 (band .u64 p1_0 4294967295), .int .u64 (mul .u64 (shr .u64 p0_0 32) (band .u64 p1_0 4294967295)), .int .u64 x_1, .int .u64 (shr .u64 x_1 32), .int .u64 x_2, .int .u64 x_2, .int .u64 (band .u64 x_2 4294967295), .int .u64 x_2, .int .u64 (shr .u64 x_2 32), .int .u64 (band .u64 x_2 4294967295), .int .u64 (band .u64 p0_0 4294967295), .int .u64 (shr .u64 p1_0 32), .int .u64 (mul .u64 (band .u64 p0_0 4294967295) (shr .u64 p1_0 32)), .int .u64 x_3, .int .u64 (shr .u64 p0_0 32), .int .u64 (shr .u64 p1_0 32), .int .u64 (mul .u64 (shr .u64 p0_0 32) (shr .u64 p1_0 32)), .int .u64 (shr .u64 x_2 32), .int .u64 x_4, .int .u64 x_3, .int .u64 (shr .u64 x_3 32), .int .u64 (add .u64 x_4 (shr .u64 x_3 32)), .int .u64 p0_0, .int .u64 p1_0, .int .u64 (mul .u64 p0_0 p1_0)] (by kernel_rfl) ?_
  refine cw_ret ?_
  obtain rfl := Option.some.inj hm
  exact ret2 (v := .int .u64 (add .u64 x_4 (shr .u64 x_3 32))) (v' := .int .u64 (mul .u64 p0_0 p1_0)) rfl (resv_tmp (by kernel_rfl)) (resv_tmp (by kernel_rfl)) ⟨_, rfl, by kernel_rfl, hB⟩
end SxYtihfogahdofdmaaDoor

end

section
/- Written by program (gen.py): the model of math/bits.Len64, and the proof that its code computes it. -/
namespace SxYtihfogahdofdmaaDoor
open Go Go.RowKit Sx Go.Proofs
set_option linter.unusedVariables false
set_option linter.unusedSimpArgs false
attribute [local irreducible] WL WX CW OW
/-! ### 74: "math/bits.Len64" -/
def m74_J3 (fuel : Nat) (x_3 : Int) (n_3 : Int) : Option Int :=
  (at? ([0, 1, 2, 2, 3, 3, 3, 3, 4, 4, 4, 4, 4, 4, 4, 4, 5, 5, 5, 5, 5, 5, 5, 5, 5, 5, 5, 5, 5, 5, 5, 5, 6, 6, 6, 6, 6, 6, 6, 6, 6, 6, 6, 6, 6, 6, 6, 6, 6, 6, 6, 6, 6, 6, 6, 6, 6, 6, 6, 6, 6, 6, 6, 6, 7, 7, 7, 7, 7, 7, 7, 7, 7, 7, 7, 7, 7, 7, 7, 7, 7, 7, 7, 7, 7, 7, 7, 7, 7, 7, 7, 7, 7, 7, 7, 7, 7, 7, 7, 7, 7, 7, 7, 7, 7, 7, 7, 7, 7, 7, 7, 7, 7, 7, 7, 7, 7, 7, 7, 7, 7, 7, 7, 7, 7, 7, 7, 7, 8, 8, 8, 8, 8, 8, 8, 8, 8, 8, 8, 8, 8, 8, 8, 8, 8, 8, 8, 8, 8, 8, 8, 8, 8, 8, 8, 8, 8, 8, 8, 8, 8, 8, 8, 8, 8, 8, 8, 8, 8, 8, 8, 8, 8, 8, 8, 8, 8, 8, 8, 8, 8, 8, 8, 8, 8, 8, 8, 8, 8, 8, 8, 8, 8, 8, 8, 8, 8, 8, 8, 8, 8, 8, 8, 8, 8, 8, 8, 8, 8, 8, 8, 8, 8, 8, 8, 8, 8, 8, 8, 8, 8, 8, 8, 8, 8, 8, 8, 8, 8, 8, 8, 8, 8, 8, 8, 8, 8, 8, 8, 8, 8, 8, 8, 8, 8, 8, 8, 8, 8, 8, 8, 8, 8, 8, 8, 8] : List UInt8) (cvt .u8 x_3)).bind fun b_1 => some (add .i64 n_3 (cvt .i64 (b_1.toNat : Int)))
def m74_J2 (fuel : Nat) (x_2 : Int) (n_2 : Int) : Option Int :=
  if (ge x_2 256) then (m74_J3 fuel  (shr .u64 x_2 8) (add .i64 n_2 8)) else (m74_J3 fuel  x_2 n_2)
def m74_J1 (fuel : Nat) (x_1 : Int) (n_1 : Int) : Option Int :=
  if (ge x_1 65536) then (m74_J2 fuel  (shr .u64 x_1 16) (add .i64 n_1 16)) else (m74_J2 fuel  x_1 n_1)
def m74 (fuel : Nat) (p0_0 : Int) : Option Int :=
  if (ge p0_0 4294967296) then (m74_J1 fuel  (shr .u64 p0_0 32) 32) else (m74_J1 fuel  p0_0 0)
@[reducible] def Q74 (F : Lx) (w0 : World) (r : Int) (v : Value) (w' : World) : Prop := v = .int .i64 r ∧ Below w0.heap.size w0 w'
set_option maxRecDepth 100000 in
set_option maxHeartbeats 4000000 in
theorem f74_ok (fuel : Nat) (F : Lx) (w0 : World) (hF : ∀ k, some k ∈ F → k < w0.heap.size) {p0_0 : Int} {r : Int} (hm : m74 fuel p0_0 = some r) :
    Calls Tryd.prog 74 #[.int .u64 p0_0] w0 (fun e w' => ∃ v, e = .returned v ∧ Q74 F w0 r v w') := by
  have hPF : PF (bodyPost Tryd.prog Tryd.f74 (fun e w' => ∃ v, e = .returned v ∧ Q74 F w0 r v w')) := PF.body (fun c w h => by obtain ⟨v, e, _⟩ := h; cases e)
  have hL := LOk.start hF
  have hB := Below.refl w0.heap.size w0
  unfold m74 at hm
  refine enter (l := [.int .u64 p0_0, undef, undef, undef, undef, undef, undef, undef, undef, undef, undef, undef, undef, undef, undef, undef, undef, undef, undef, undef, undef, undef, undef, undef, undef]) Tryd.func74 rfl Tryd.ntmps74 (by kernel_rfl) ?_
  refine cw_seq ?_
  refine cw_region ?_
  refine wl_val (v := .int .i64 0) (w' := w0) (by kernel_rfl) (run_assign (v := .int .i64 0) (by kernel_rfl)) ?_
  refine wl_nil ?_
  refine then_n ?_
  refine cw_cut (fun l' w' => ∃ x_1 n_1, ∃ u_1 : Nat → Value, l' = [.int .u64 x_1, undef, .int .i64 n_1, (u_1 0), (u_1 1), (u_1 2), (u_1 3), undef, undef, undef, undef, undef, undef, undef, undef, undef, undef, undef, undef, undef, undef, undef, undef, undef, undef] ∧ LOk w0.heap.size [] F w' ∧ Below w0.heap.size w0 w' ∧ m74_J1 fuel x_1 n_1 = some r) ?_ ?_
  · refine cw_seq ?_
    refine cw_region ?_
    refine wl_val (v := .int .u64 p0_0) (w' := w0) (by kernel_rfl) (run_move (v := .int .u64 p0_0) (by kernel_rfl)) ?_
    refine wl_val (v := .bool (ge p0_0 4294967296)) (w' := w0) (by kernel_rfl) (run_ge (k := .u64) (a := p0_0) (b := 4294967296) (by kernel_rfl) (by kernel_rfl)) ?_
    refine wl_nil ?_
    refine then_n ?_
    refine cw_cond (t := (ge p0_0 4294967296)) (by kernel_rfl) (fun hc_6 => ?_) (fun hc_6 => ?_)
    · have hm := ite_t hm hc_6
      refine cw_seq ?_
      refine cw_region ?_
      refine wl_val (v := .int .u64 p0_0) (w' := w0) (by kernel_rfl) (run_move (v := .int .u64 p0_0) (by kernel_rfl)) ?_
      refine wl_val (v := .int .u64 (shr .u64 p0_0 32)) (w' := w0) (by kernel_rfl) (run_shr (k := .u64) (a := p0_0) (k' := .u64) (b := 32) (by kernel_rfl) (by kernel_rfl) rfl) ?_
      refine wl_val (v := .int .u64 (shr .u64 p0_0 32)) (w' := w0) (by kernel_rfl) (run_assign (v := .int .u64 (shr .u64 p0_0 32)) (by kernel_rfl)) ?_
      refine wl_nil ?_
      refine then_n ?_
      refine cw_region ?_
      refine wl_val (v := .int .i64 32) (w' := w0) (by kernel_rfl) (run_assign (v := .int .i64 32) (by kernel_rfl)) ?_
      refine wl_nil ?_
      exact then_c ⟨(shr .u64 p0_0 32), 32, (fun i => ([.int .u64 p0_0, .bool (ge p0_0 4294967296), .int .u64 p0_0, .int .u64 (shr .u64 p0_0 32)] : List Value).getD i undef), by kernel_rfl, hL, hB, hm⟩
    · have hm := ite_f hm hc_6
      refine cw_skip ?_
      exact then_c ⟨p0_0, 0, (fun i => ([.int .u64 p0_0, .bool (ge p0_0 4294967296), undef, undef] : List Value).getD i undef), by kernel_rfl, hL, hB, hm⟩
  · intro l1 w_1 hI
    obtain ⟨x_1, n_1, u_1, rfl, hL, hB, hm⟩ := hI
    unfold m74_J1 at hm
    refine cw_cut (fun l' w' => ∃ x_2 n_2, ∃ u_2 : Nat → Value, l' = [.int .u64 x_2, undef, .int .i64 n_2, (u_1 0), (u_1 1), (u_1 2), (u_1 3), (u_2 0), (u_2 1), (u_2 2), (u_2 3), (u_2 4), (u_2 5), undef, undef, undef, undef, undef, undef, undef, undef, undef, undef, undef, undef] ∧ LOk w0.heap.size [] F w' ∧ Below w0.heap.size w0 w' ∧ m74_J2 fuel x_2 n_2 = some r) ?_ ?_
    · refine cw_seq ?_
      refine cw_region ?_
      refine wl_val (v := .int .u64 x_1) (w' := w_1) (by kernel_rfl) (run_move (v := .int .u64 x_1) (by kernel_rfl)) ?_
      refine wl_val (v := .bool (ge x_1 65536)) (w' := w_1) (by kernel_rfl) (run_ge (k := .u64) (a := x_1) (b := 65536) (by kernel_rfl) (by kernel_rfl)) ?_
      refine wl_nil ?_
      refine then_n ?_
      refine cw_cond (t := (ge x_1 65536)) (by kernel_rfl) (fun hc_5 => ?_) (fun hc_5 => ?_)
      · have hm := ite_t hm hc_5
        refine cw_seq ?_
        refine cw_region ?_
        refine wl_val (v := .int .u64 x_1) (w' := w_1) (by kernel_rfl) (run_move (v := .int .u64 x_1) (by kernel_rfl)) ?_
        refine wl_val (v := .int .u64 (shr .u64 x_1 16)) (w' := w_1) (by kernel_rfl) (run_shr (k := .u64) (a := x_1) (k' := .u64) (b := 16) (by kernel_rfl) (by kernel_rfl) rfl) ?_
        refine wl_val (v := .int .u64 (shr .u64 x_1 16)) (w' := w_1) (by kernel_rfl) (run_assign (v := .int .u64 (shr .u64 x_1 16)) (by kernel_rfl)) ?_
        refine wl_nil ?_
        refine then_n ?_
        refine cw_region ?_
        refine wl_val (v := .int .i64 n_1) (w' := w_1) (by kernel_rfl) (run_move (v := .int .i64 n_1) (by kernel_rfl)) ?_
        refine wl_val (v := .int .i64 (add .i64 n_1 16)) (w' := w_1) (by kernel_rfl) (run_add (k := .i64) (a := n_1) (b := 16) (by kernel_rfl) (by kernel_rfl)) ?_
        refine wl_val (v := .int .i64 (add .i64 n_1 16)) (w' := w_1) (by kernel_rfl) (run_assign (v := .int .i64 (add .i64 n_1 16)) (by kernel_rfl)) ?_
        refine wl_nil ?_
        exact then_c ⟨(shr .u64 x_1 16), (add .i64 n_1 16), (fun i => ([.int .u64 x_1, .bool (ge x_1 65536), .int .u64 x_1, .int .u64 (shr .u64 x_1 16), .int .i64 n_1, .int .i64 (add .i64 n_1 16)] : List Value).getD i undef), by kernel_rfl, hL, hB, hm⟩
      · have hm := ite_f hm hc_5
        refine cw_skip ?_
        exact then_c ⟨x_1, n_1, (fun i => ([.int .u64 x_1, .bool (ge x_1 65536), undef, undef, undef, undef] : List Value).getD i undef), by kernel_rfl, hL, hB, hm⟩
    · intro l1 w_2 hI
      obtain ⟨x_2, n_2, u_2, rfl, hL, hB, hm⟩ := hI
      unfold m74_J2 at hm
      refine cw_cut (fun l' w' => ∃ x_3 n_3, ∃ u_3 : Nat → Value, l' = [.int .u64 x_3, undef, .int .i64 n_3, (u_1 0), (u_1 1), (u_1 2), (u_1 3), (u_2 0), (u_2 1), (u_2 2), (u_2 3), (u_2 4), (u_2 5), (u_3 0), (u_3 1), (u_3 2), (u_3 3), (u_3 4), (u_3 5), undef, undef, undef, undef, undef, undef] ∧ LOk w0.heap.size [] F w' ∧ Below w0.heap.size w0 w' ∧ m74_J3 fuel x_3 n_3 = some r) ?_ ?_
      · refine cw_seq ?_
        refine cw_region ?_
        refine wl_val (v := .int .u64 x_2) (w' := w_2) (by kernel_rfl) (run_move (v := .int .u64 x_2) (by kernel_rfl)) ?_
        refine wl_val (v := .bool (ge x_2 256)) (w' := w_2) (by kernel_rfl) (run_ge (k := .u64) (a := x_2) (b := 256) (by kernel_rfl) (by kernel_rfl)) ?_
        refine wl_nil ?_
        refine then_n ?_
        refine cw_cond (t := (ge x_2 256)) (by kernel_rfl) (fun hc_4 => ?_) (fun hc_4 => ?_)
        · have hm := ite_t hm hc_4
          refine cw_seq ?_
          refine cw_region ?_
          refine wl_val (v := .int .u64 x_2) (w' := w_2) (by kernel_rfl) (run_move (v := .int .u64 x_2) (by kernel_rfl)) ?_
          refine wl_val (v := .int .u64 (shr .u64 x_2 8)) (w' := w_2) (by kernel_rfl) (run_shr (k := .u64) (a := x_2) (k' := .u64) (b := 8) (by kernel_rfl) (by kernel_rfl) rfl) ?_
          refine wl_val (v := .int .u64 (shr .u64 x_2 8)) (w' := w_2) (by kernel_rfl) (run_assign (v := .int .u64 (shr .u64 x_2 8)) (by kernel_rfl)) ?_
          refine wl_nil ?_
          refine then_n ?_
          refine cw_region ?_
          refine wl_val (v := .int .i64 n_2) (w' := w_2) (by kernel_rfl) (run_move (v := .int .i64 n_2) (by kernel_rfl)) ?_
          refine wl_val (v := .int .i64 (add .i64 n_2 8)) (w' := w_2) (by kernel_rfl) (run_add (k := .i64) (a := n_2) (b := 8) (by kernel_rfl) (by kernel_rfl)) ?_
          refine wl_val (v := .int .i64 (add .i64 n_2 8)) (w' := w_2) (by kernel_rfl) (run_assign (v := .int .i64 (add .i64 n_2 8)) (by kernel_rfl)) ?_
          refine wl_nil ?_
          exact then_c ⟨(shr .u64 x_2 8), (add .i64 n_2 8), (fun i => ([.int .u64 x_2, .bool (ge x_2 256), .int .u64 x_2, .int .u64 (shr .u64 x_2 8), .int .i64 n_2, .int .i64 (add .i64 n_2 8)] : List Value).getD i undef), by kernel_rfl, hL, hB, hm⟩
        · have hm := ite_f hm hc_4
          refine cw_skip ?_
          exact then_c ⟨x_2, n_2, (fun i => ([.int .u64 x_2, .bool (ge x_2 256), undef, undef, undef, undef] : List Value).getD i undef), by kernel_rfl, hL, hB, hm⟩
      · intro l1 w_3 hI
        obtain ⟨x_3, n_3, u_3, rfl, hL, hB, hm⟩ := hI
        unfold m74_J3 at hm
        refine cw_seq ?_
        refine cw_region ?_
        refine wl_val (v := .int .i64 n_3) (w' := w_3) (by kernel_rfl) (run_move (v := .int .i64 n_3) (by kernel_rfl)) ?_
        refine wl_val (v := .int .u64 x_3) (w' := w_3) (by kernel_rfl) (run_move (v := .int .u64 x_3) (by kernel_rfl)) ?_
        refine wl_val (v := .int .u8 (cvt .u8 x_3)) (w' := w_3) (by kernel_rfl) (run_cvt (k := .u64) (a := x_3) Tryd.underlying55 Tryd.underlying5 (by kernel_rfl)) ?_
        obtain ⟨b_1, h_1, hm⟩ := bind_e hm
        obtain ⟨h_20, h_21, _⟩ := at_some h_1
        refine wl_val (v := .int .u8 (b_1.toNat : Int)) (w' := w_3) (by kernel_rfl) (run_index_str (s := ([0, 1, 2, 2, 3, 3, 3, 3, 4, 4, 4, 4, 4, 4, 4, 4, 5, 5, 5, 5, 5, 5, 5, 5, 5, 5, 5, 5, 5, 5, 5, 5, 6, 6, 6, 6, 6, 6, 6, 6, 6, 6, 6, 6, 6, 6, 6, 6, 6, 6, 6, 6, 6, 6, 6, 6, 6, 6, 6, 6, 6, 6, 6, 6, 7, 7, 7, 7, 7, 7, 7, 7, 7, 7, 7, 7, 7, 7, 7, 7, 7, 7, 7, 7, 7, 7, 7, 7, 7, 7, 7, 7, 7, 7, 7, 7, 7, 7, 7, 7, 7, 7, 7, 7, 7, 7, 7, 7, 7, 7, 7, 7, 7, 7, 7, 7, 7, 7, 7, 7, 7, 7, 7, 7, 7, 7, 7, 7, 8, 8, 8, 8, 8, 8, 8, 8, 8, 8, 8, 8, 8, 8, 8, 8, 8, 8, 8, 8, 8, 8, 8, 8, 8, 8, 8, 8, 8, 8, 8, 8, 8, 8, 8, 8, 8, 8, 8, 8, 8, 8, 8, 8, 8, 8, 8, 8, 8, 8, 8, 8, 8, 8, 8, 8, 8, 8, 8, 8, 8, 8, 8, 8, 8, 8, 8, 8, 8, 8, 8, 8, 8, 8, 8, 8, 8, 8, 8, 8, 8, 8, 8, 8, 8, 8, 8, 8, 8, 8, 8, 8, 8, 8, 8, 8, 8, 8, 8, 8, 8, 8, 8, 8, 8, 8, 8, 8, 8, 8, 8, 8, 8, 8, 8, 8, 8, 8, 8, 8, 8, 8, 8, 8, 8, 8, 8, 8] : List UInt8)) (k := .u8) (j := (cvt .u8 x_3)) Tryd.underlying9 (by kernel_rfl) (by kernel_rfl) h_20 h_21) ?_
        refine wl_val (v := .int .i64 (cvt .i64 (b_1.toNat : Int))) (w' := w_3) (by kernel_rfl) (run_cvt (k := .u8) (a := (b_1.toNat : Int)) Tryd.underlying5 Tryd.underlying3 (by kernel_rfl)) ?_
        refine wl_val (v := .int .i64 (add .i64 n_3 (cvt .i64 (b_1.toNat : Int)))) (w' := w_3) (by kernel_rfl) (run_add (k := .i64) (a := n_3) (b := (cvt .i64 (b_1.toNat : Int))) (by kernel_rfl) (by kernel_rfl)) ?_
        refine wl_val (v := .int .i64 (add .i64 n_3 (cvt .i64 (b_1.toNat : Int)))) (w' := w_3) (by kernel_rfl) (run_assign (v := .int .i64 (add .i64 n_3 (cvt .i64 (b_1.toNat : Int)))) (by kernel_rfl)) ?_
        refine wl_nil ?_
        refine then_n ?_
        refine cw_ret ?_
        obtain rfl := Option.some.inj hm
        exact ret1 (v := .int .i64 (add .i64 n_3 (cvt .i64 (b_1.toNat : Int)))) rfl (resv_tmp (by kernel_rfl)) ⟨_, rfl, by kernel_rfl, hB⟩
end SxYtihfogahdofdmaaDoor

end

section
/- Written by program (gen.py): the model of math/bits.LeadingZeros64, and the proof that its code computes it. -/
namespace SxYtihfogahdofdmaaDoor
open Go Go.RowKit Sx Go.Proofs
set_option linter.unusedVariables false
set_option linter.unusedSimpArgs false
attribute [local irreducible] WL WX CW OW
/-! ### 61: "math/bits.LeadingZeros64" -/
def m61 (fuel : Nat) (p0_0 : Int) : Option Int :=
  (m74 fuel p0_0).bind fun r_1 => some (sub .i64 64 r_1)
@[reducible] def Q61 (F : Lx) (w0 : World) (r : Int) (v : Value) (w' : World) : Prop := v = .int .i64 r ∧ Below w0.heap.size w0 w'
set_option maxRecDepth 100000 in
set_option maxHeartbeats 4000000 in
theorem f61_ok (fuel : Nat) (F : Lx) (w0 : World) (hF : ∀ k, some k ∈ F → k < w0.heap.size) {p0_0 : Int} {r : Int} (hm : m61 fuel p0_0 = some r) :
    Calls Tryd.prog 61 #[.int .u64 p0_0] w0 (fun e w' => ∃ v, e = .returned v ∧ Q61 F w0 r v w') := by
  have hPF : PF (bodyPost Tryd.prog Tryd.f61 (fun e w' => ∃ v, e = .returned v ∧ Q61 F w0 r v w')) := PF.body (fun c w h => by obtain ⟨v, e, _⟩ := h; cases e)
  have hL := LOk.start hF
  have hB := Below.refl w0.heap.size w0
  unfold m61 at hm
  refine enter (l := [.int .u64 p0_0, undef, undef, undef, undef, undef]) Tryd.func61 rfl Tryd.ntmps61 (by kernel_rfl) ?_
  refine cw_seq ?_
  refine cw_region ?_
  refine wl_val (v := .int .i64 0) (w' := w0) (by kernel_rfl) (run_assign (v := .int .i64 0) (by kernel_rfl)) ?_
  refine wl_nil ?_
  refine then_n ?_
  refine cw_seq ?_
  refine cw_region ?_
  refine wl_val (v := .int .u64 p0_0) (w' := w0) (by kernel_rfl) (run_move (v := .int .u64 p0_0) (by kernel_rfl)) ?_
  obtain ⟨r_1, h_1, hm⟩ := bind_e hm
  refine wl_op (by kernel_rfl) (ow_enter (run_callf (vs := [.int .u64 p0_0]) Tryd.func74 nm_74 (by kernel_rfl) (by kernel_rfl)) (f74_ok (p0_0 := p0_0) fuel _ w0 hL.lt  h_1) ?_)
  intro vR w_1 hR
  obtain ⟨rfl, hBe⟩ := hR
  have hS := Stp.call hL (Fz.of_below hBe [])
  replace hB := hS.below hL hB
  replace hL := hS.hL
  refine wl_val (v := .int .i64 (sub .i64 64 r_1)) (w' := w_1) (by kernel_rfl) (run_sub (k := .i64) (a := 64) (b := r_1) (by kernel_rfl) (by kernel_rfl)) ?_
  refine wl_val (v := .int .i64 (sub .i64 64 r_1)) (w' := w_1) (by kernel_rfl) (run_assign (v := .int .i64 (sub .i64 64 r_1)) (by kernel_rfl)) ?_
  refine wl_nil ?_
  refine then_n ?_
  refine cw_ret ?_
  obtain rfl := Option.some.inj hm
  exact ret1 (v := .int .i64 (sub .i64 64 r_1)) rfl (resv_tmp (by kernel_rfl)) ⟨_, rfl, by kernel_rfl, hB⟩
end SxYtihfogahdofdmaaDoor

end

section
/- Written by program (gen.py): the model of math/bits.Div64, and the proof that its code computes it. -/
namespace SxYtihfogahdofdmaaDoor
open Go Go.RowKit Sx Go.Proofs
set_option linter.unusedVariables false
set_option linter.unusedSimpArgs false
attribute [local irreducible] WL WX CW OW
/-! ### 38: "math/bits.Div64" -/
def m38_J4 (fuel : Nat) (p1_0 : Int) (p2_0 : Int) (r_1 : Int) (q1_2 : Int) (x_17 : Int) (q0_2 : Int) : Option (Int × Int) :=
  (some (add .u64 (mul .u64 x_17 4294967296) (band .u64 (shl .u64 p1_0 (cvt .u64 r_1)) 4294967295))).bind fun x_32 => (some (sub .u64 x_32 (mul .u64 q0_2 (shl .u64 p2_0 (cvt .u64 r_1))))).bind fun x_33 => need (ge (cvt .u64 r_1) 0) (some ((add .u64 (mul .u64 q1_2 4294967296) q0_2), (shr .u64 x_33 (cvt .u64 r_1))))
def m38_J6 (fuel : Nat) (p1_0 : Int) (p2_0 : Int) (r_1 : Int) (q1_2 : Int) (x_17 : Int) (rhat_3 : Int) (q0_3 : Int) (self_1 : ((Int × Int) → Option (Int × Int))) (x_45 : Bool) : Option (Int × Int) :=
  if x_45 then ((some (add .u64 rhat_3 (shr .u64 (shl .u64 p2_0 (cvt .u64 r_1)) 32))).bind fun x_46 => if (ge x_46 4294967296) then (m38_J4 fuel p1_0 p2_0 r_1 q1_2 x_17 (sub .u64 q0_3 1)) else (self_1 (x_46, (sub .u64 q0_3 1)))) else (m38_J4 fuel p1_0 p2_0 r_1 q1_2 x_17 q0_3)
def m38_L5 (fuel : Nat) (p1_0 : Int) (p2_0 : Int) (r_1 : Int) (q1_2 : Int) (x_17 : Int) (self_1 : Int × Int → Option (Int × Int)) : Int × Int → Option (Int × Int) := fun (rhat_3, q0_3) =>
  if (ge q0_3 4294967296) then (m38_J6 fuel p1_0 p2_0 r_1 q1_2 x_17 rhat_3 q0_3 self_1 true) else ((some (mul .u64 q0_3 (band .u64 (shl .u64 p2_0 (cvt .u64 r_1)) 4294967295))).bind fun x_47 => (some (add .u64 (mul .u64 4294967296 rhat_3) (band .u64 (shl .u64 p1_0 (cvt .u64 r_1)) 4294967295))).bind fun x_48 => m38_J6 fuel p1_0 p2_0 r_1 q1_2 x_17 rhat_3 q0_3 self_1 (gt x_47 x_48))
def m38_J3 (fuel : Nat) (p1_0 : Int) (p2_0 : Int) (r_1 : Int) (x_1 : Int) (q1_2 : Int) : Option (Int × Int) :=
  (some (add .u64 (mul .u64 x_1 4294967296) (shr .u64 (shl .u64 p1_0 (cvt .u64 r_1)) 32))).bind fun x_16 => (some (sub .u64 x_16 (mul .u64 q1_2 (shl .u64 p2_0 (cvt .u64 r_1))))).bind fun x_17 => need (nei (shr .u64 (shl .u64 p2_0 (cvt .u64 r_1)) 32) 0) ((some (mul .u64 (quo .u64 x_17 (shr .u64 (shl .u64 p2_0 (cvt .u64 r_1)) 32)) (shr .u64 (shl .u64 p2_0 (cvt .u64 r_1)) 32))).bind fun x_18 => loopF (m38_L5 fuel p1_0 p2_0 r_1 q1_2 x_17) fuel ((sub .u64 x_17 x_18), (quo .u64 x_17 (shr .u64 (shl .u64 p2_0 (cvt .u64 r_1)) 32))))
def m38_J8 (fuel : Nat) (p1_0 : Int) (p2_0 : Int) (r_1 : Int) (x_1 : Int) (q1_3 : Int) (rhat_4 : Int) (self_2 : ((Int × Int) → Option (Int × Int))) (x_60 : Bool) : Option (Int × Int) :=
  if x_60 then ((some (add .u64 rhat_4 (shr .u64 (shl .u64 p2_0 (cvt .u64 r_1)) 32))).bind fun x_61 => if (ge x_61 4294967296) then (m38_J3 fuel p1_0 p2_0 r_1 x_1 (sub .u64 q1_3 1)) else (self_2 ((sub .u64 q1_3 1), x_61))) else (m38_J3 fuel p1_0 p2_0 r_1 x_1 q1_3)
def m38_L7 (fuel : Nat) (p1_0 : Int) (p2_0 : Int) (r_1 : Int) (x_1 : Int) (self_2 : Int × Int → Option (Int × Int)) : Int × Int → Option (Int × Int) := fun (q1_3, rhat_4) =>
  if (ge q1_3 4294967296) then (m38_J8 fuel p1_0 p2_0 r_1 x_1 q1_3 rhat_4 self_2 true) else ((some (mul .u64 q1_3 (band .u64 (shl .u64 p2_0 (cvt .u64 r_1)) 4294967295))).bind fun x_62 => (some (add .u64 (mul .u64 4294967296 rhat_4) (shr .u64 (shl .u64 p1_0 (cvt .u64 r_1)) 32))).bind fun x_63 => m38_J8 fuel p1_0 p2_0 r_1 x_1 q1_3 rhat_4 self_2 (gt x_62 x_63))
def m38_J2 (fuel : Nat) (p0_0 : Int) (p1_0 : Int) (p2_0 : Int) : Option (Int × Int) :=
  if (eqi p0_0 0) then (need (nei p2_0 0) (need (nei p2_0 0) (some ((quo .u64 p1_0 p2_0), (rem p1_0 p2_0))))) else ((m61 fuel p2_0).bind fun r_1 => need (ge (cvt .u64 r_1) 0) (need (ge (cvt .u64 r_1) 0) (need (ge (sub .u64 64 (cvt .u64 r_1)) 0) ((some (bor .u64 (shl .u64 p0_0 (cvt .u64 r_1)) (shr .u64 p1_0 (sub .u64 64 (cvt .u64 r_1))))).bind fun x_1 => need (ge (cvt .u64 r_1) 0) (need (nei (shr .u64 (shl .u64 p2_0 (cvt .u64 r_1)) 32) 0) ((some (mul .u64 (quo .u64 x_1 (shr .u64 (shl .u64 p2_0 (cvt .u64 r_1)) 32)) (shr .u64 (shl .u64 p2_0 (cvt .u64 r_1)) 32))).bind fun x_2 => loopF (m38_L7 fuel p1_0 p2_0 r_1 x_1) fuel ((quo .u64 x_1 (shr .u64 (shl .u64 p2_0 (cvt .u64 r_1)) 32)), (sub .u64 x_1 x_2))))))))
def m38_J1 (fuel : Nat) (p0_0 : Int) (p1_0 : Int) (p2_0 : Int) : Option (Int × Int) :=
  if (le p2_0 p0_0) then (none) else (m38_J2 fuel p0_0 p1_0 p2_0 )
def m38 (fuel : Nat) (p0_0 : Int) (p1_0 : Int) (p2_0 : Int) : Option (Int × Int) :=
  if (eqi p2_0 0) then (none) else (m38_J1 fuel p0_0 p1_0 p2_0 )
@[reducible] def Q38 (F : Lx) (w0 : World) (r : (Int × Int)) (v : Value) (w' : World) : Prop := v = .tuple #[.int .u64 r.1, .int .u64 r.2] ∧ Below w0.heap.size w0 w'
set_option maxRecDepth 100000 in
set_option maxHeartbeats 4000000 in
theorem f38_ok (fuel : Nat) (F : Lx) (w0 : World) (hF : ∀ k, some k ∈ F → k < w0.heap.size) {p0_0 : Int} {p1_0 : Int} {p2_0 : Int} {r : (Int × Int)} (hm : m38 fuel p0_0 p1_0 p2_0 = some r) :
    Calls Tryd.prog 38 #[.int .u64 p0_0, .int .u64 p1_0, .int .u64 p2_0] w0 (fun e w' => ∃ v, e = .returned v ∧ Q38 F w0 r v w') := by
  have hPF : PF (bodyPost Tryd.prog Tryd.f38 (fun e w' => ∃ v, e = .returned v ∧ Q38 F w0 r v w')) := PF.body (fun c w h => by obtain ⟨v, e, _⟩ := h; cases e)
  have hL := LOk.start hF
  have hB := Below.refl w0.heap.size w0
  unfold m38 at hm
  refine enter (l := [.int .u64 p0_0, .int .u64 p1_0, .int .u64 p2_0, undef, undef, undef, undef, undef, undef, undef, undef, undef, undef, undef, undef, undef, undef, undef, undef, undef, undef, undef, undef, undef, undef, undef, undef, undef, undef, undef, undef, undef, undef, undef, undef, undef, undef, undef, undef, undef, undef, undef, undef, undef, undef, undef, undef, undef, undef, undef, undef, undef, undef, undef, undef, undef, undef, undef, undef, undef, undef, undef, undef, undef, undef, undef, undef, undef, undef, undef, undef, undef, undef, undef, undef, undef, undef, undef, undef, undef, undef, undef, undef, undef, undef, undef, undef, undef, undef, undef, undef, undef, undef, undef, undef, undef, undef, undef, undef, undef, undef, undef, undef, undef, undef, undef, undef, undef, undef, undef, undef, undef, undef, undef, undef, undef, undef, undef, undef, undef, undef, undef, undef, undef, undef, undef, undef, undef, undef, undef, undef, undef, undef, undef, undef]) Tryd.func38 rfl Tryd.ntmps38 (by kernel_rfl) ?_
  refine cw_seq ?_
  refine cw_region ?_
  refine wl_val (v := .int .u64 0) (w' := w0) (by kernel_rfl) (run_assign (v := .int .u64 0) (by kernel_rfl)) ?_
  refine wl_val (v := .int .u64 0) (w' := w0) (by kernel_rfl) (run_assign (v := .int .u64 0) (by kernel_rfl)) ?_
  refine wl_nil ?_
  refine then_n ?_
  refine cw_cut (fun l' w' => ∃ u_1 : Nat → Value, l' = [.int .u64 p0_0, .int .u64 p1_0, .int .u64 p2_0, undef, undef, undef, .int .u64 0, .int .u64 0, undef, undef, undef, undef, undef, undef, undef, undef, undef, undef, undef, (u_1 0), (u_1 1), (u_1 2), undef, undef, undef, undef, undef, undef, undef, undef, undef, undef, undef, undef, undef, undef, undef, undef, undef, undef, undef, undef, undef, undef, undef, undef, undef, undef, undef, undef, undef, undef, undef, undef, undef, undef, undef, undef, undef, undef, undef, undef, undef, undef, undef, undef, undef, undef, undef, undef, undef, undef, undef, undef, undef, undef, undef, undef, undef, undef, undef, undef, undef, undef, undef, undef, undef, undef, undef, undef, undef, undef, undef, undef, undef, undef, undef, undef, undef, undef, undef, undef, undef, undef, undef, undef, undef, undef, undef, undef, undef, undef, undef, undef, undef, undef, undef, undef, undef, undef, undef, undef, undef, undef, undef, undef, undef, undef, undef, undef, undef, undef, undef, undef, undef] ∧ LOk w0.heap.size [] F w' ∧ Below w0.heap.size w0 w' ∧ m38_J1 fuel p0_0 p1_0 p2_0  = some r) ?_ ?_
  · refine cw_seq ?_
    refine cw_region ?_
    refine wl_val (v := .int .u64 p2_0) (w' := w0) (by kernel_rfl) (run_move (v := .int .u64 p2_0) (by kernel_rfl)) ?_
    refine wl_val (v := .bool (eqi p2_0 0)) (w' := w0) (by kernel_rfl) (run_eqi (k := .u64) (a := p2_0) (b := 0) (by kernel_rfl) (by kernel_rfl)) ?_
    refine wl_nil ?_
    refine then_n ?_
    refine cw_cond (t := (eqi p2_0 0)) (by kernel_rfl) (fun hc_43 => ?_) (fun hc_43 => ?_)
    · have hm := ite_t hm hc_43
      refine cw_region ?_
      cases hm
    · have hm := ite_f hm hc_43
      refine cw_skip ?_
      exact then_c ⟨(fun i => ([.int .u64 p2_0, .bool (eqi p2_0 0), undef] : List Value).getD i undef), by kernel_rfl, hL, hB, hm⟩
  · intro l1 w_1 hI
    obtain ⟨u_1, rfl, hL, hB, hm⟩ := hI
    unfold m38_J1 at hm
    refine cw_cut (fun l' w' => ∃ u_2 : Nat → Value, l' = [.int .u64 p0_0, .int .u64 p1_0, .int .u64 p2_0, undef, undef, undef, .int .u64 0, .int .u64 0, undef, undef, undef, undef, undef, undef, undef, undef, undef, undef, undef, (u_1 0), (u_1 1), (u_1 2), (u_2 0), (u_2 1), (u_2 2), (u_2 3), undef, undef, undef, undef, undef, undef, undef, undef, undef, undef, undef, undef, undef, undef, undef, undef, undef, undef, undef, undef, undef, undef, undef, undef, undef, undef, undef, undef, undef, undef, undef, undef, undef, undef, undef, undef, undef, undef, undef, undef, undef, undef, undef, undef, undef, undef, undef, undef, undef, undef, undef, undef, undef, undef, undef, undef, undef, undef, undef, undef, undef, undef, undef, undef, undef, undef, undef, undef, undef, undef, undef, undef, undef, undef, undef, undef, undef, undef, undef, undef, undef, undef, undef, undef, undef, undef, undef, undef, undef, undef, undef, undef, undef, undef, undef, undef, undef, undef, undef, undef, undef, undef, undef, undef, undef, undef, undef, undef, undef] ∧ LOk w0.heap.size [] F w' ∧ Below w0.heap.size w0 w' ∧ m38_J2 fuel p0_0 p1_0 p2_0  = some r) ?_ ?_
    · refine cw_seq ?_
      refine cw_region ?_
      refine wl_val (v := .int .u64 p2_0) (w' := w_1) (by kernel_rfl) (run_move (v := .int .u64 p2_0) (by kernel_rfl)) ?_
      refine wl_val (v := .int .u64 p0_0) (w' := w_1) (by kernel_rfl) (run_move (v := .int .u64 p0_0) (by kernel_rfl)) ?_
      refine wl_val (v := .bool (le p2_0 p0_0)) (w' := w_1) (by kernel_rfl) (run_le (k := .u64) (a := p2_0) (b := p0_0) (by kernel_rfl) (by kernel_rfl)) ?_
      refine wl_nil ?_
      refine then_n ?_
      refine cw_cond (t := (le p2_0 p0_0)) (by kernel_rfl) (fun hc_42 => ?_) (fun hc_42 => ?_)
      · have hm := ite_t hm hc_42
        refine cw_region ?_
        cases hm
      · have hm := ite_f hm hc_42
        refine cw_skip ?_
        exact then_c ⟨(fun i => ([.int .u64 p2_0, .int .u64 p0_0, .bool (le p2_0 p0_0), undef] : List Value).getD i undef), by kernel_rfl, hL, hB, hm⟩
    · intro l1 w_2 hI
      obtain ⟨u_2, rfl, hL, hB, hm⟩ := hI
      unfold m38_J2 at hm
      refine cw_seq ?_
      refine cw_seq ?_
      refine cw_region ?_
      refine wl_val (v := .int .u64 p0_0) (w' := w_2) (by kernel_rfl) (run_move (v := .int .u64 p0_0) (by kernel_rfl)) ?_
      refine wl_val (v := .bool (eqi p0_0 0)) (w' := w_2) (by kernel_rfl) (run_eqi (k := .u64) (a := p0_0) (b := 0) (by kernel_rfl) (by kernel_rfl)) ?_
      refine wl_nil ?_
      refine then_n ?_
      refine cw_cond (t := (eqi p0_0 0)) (by kernel_rfl) (fun hc_3 => ?_) (fun hc_3 => ?_)
      · have hm := ite_t hm hc_3
        refine cw_seq ?_
        refine cw_region_draw [(0, true), (1, true), (2, true), (3, true), (4, true), (5, true), (6, true), (7, true)] (fun x => Fz [] w_2 x) rfl (by kernel_rfl) (PF.then (PF.then hPF)) (Fz.drew _ _) ?_
        have hZ : Fz [] w_2 w_2.drew := Fz.drew _ _
        have hS0 : Stp w0.heap.size [] [] F [] w_2 w_2.drew := Stp.call hL (Fz.drew _ _)
        generalize w_2.drew = w_3 at hS0 hZ ⊢
        refine wx_take (v := .int .u64 p1_0) (by kernel_rfl) (fun w' hS => run_move (v := .int .u64 p1_0) (by kernel_rfl)) ?_
        refine wx_take (v := .int .u64 p2_0) (by kernel_rfl) (fun w' hS => run_move (v := .int .u64 p2_0) (by kernel_rfl)) ?_
        obtain ⟨h_3, hm⟩ := need_e hm
        refine wx_take (v := .int .u64 (quo .u64 p1_0 p2_0)) (by kernel_rfl) (fun w' hS => run_quo (k := .u64) (a := p1_0) (b := p2_0) (by kernel_rfl) (by kernel_rfl) (by simpa [nei] using h_3)) ?_
        refine wx_take (v := .int .u64 p1_0) (by kernel_rfl) (fun w' hS => run_move (v := .int .u64 p1_0) (by kernel_rfl)) ?_
        refine wx_take (v := .int .u64 p2_0) (by kernel_rfl) (fun w' hS => run_move (v := .int .u64 p2_0) (by kernel_rfl)) ?_
        obtain ⟨h_4, hm⟩ := need_e hm
        refine wx_take (v := .int .u64 (rem p1_0 p2_0)) (by kernel_rfl) (fun w' hS => run_rem (k := .u64) (a := p1_0) (b := p2_0) (by kernel_rfl) (by kernel_rfl) (by simpa [nei] using h_4)) ?_
        refine wx_take (v := .int .u64 (quo .u64 p1_0 p2_0)) (by kernel_rfl) (fun w' hS => run_assign (v := .int .u64 (quo .u64 p1_0 p2_0)) (by kernel_rfl)) ?_
        refine wx_take (v := .int .u64 (rem p1_0 p2_0)) (by kernel_rfl) (fun w' hS => run_assign (v := .int .u64 (rem p1_0 p2_0)) (by kernel_rfl)) ?_
        refine wx_nil ?_
        replace hB := hS0.below hL hB
        replace hL := hS0.hL
        refine then_n ?_
        refine cw_ret ?_
        refine then_ret ?_
        obtain rfl := Option.some.inj hm
        exact ret2 (v := .int .u64 (quo .u64 p1_0 p2_0)) (v' := .int .u64 (rem p1_0 p2_0)) rfl (resv_tmp (by kernel_rfl)) (resv_tmp (by kernel_rfl)) ⟨_, rfl, by kernel_rfl, hB⟩
      · have hm := ite_f hm hc_3
        refine cw_skip ?_
        refine then_n ?_
        refine cw_seq ?_
        refine cw_region ?_
        refine wl_val (v := .int .u64 p2_0) (w' := w_2) (by kernel_rfl) (run_move (v := .int .u64 p2_0) (by kernel_rfl)) ?_
        obtain ⟨r_1, h_5, hm⟩ := bind_e hm
        refine wl_op (by kernel_rfl) (ow_enter (run_callf (vs := [.int .u64 p2_0]) Tryd.func61 nm_61 (by kernel_rfl) (by kernel_rfl)) (f61_ok (p0_0 := p2_0) fuel _ w_2 hL.lt  h_5) ?_)
        intro vR w_4 hR
        obtain ⟨rfl, hBe⟩ := hR
        have hS := Stp.call hL (Fz.of_below hBe [])
        replace hB := hS.below hL hB
        replace hL := hS.hL
        refine wl_val (v := .int .u64 (cvt .u64 r_1)) (w' := w_4) (by kernel_rfl) (run_cvt (k := .i64) (a := r_1) Tryd.underlying3 Tryd.underlying72 (by kernel_rfl)) ?_
        refine wl_val (v := .int .u64 (cvt .u64 r_1)) (w' := w_4) (by kernel_rfl) (run_assign (v := .int .u64 (cvt .u64 r_1)) (by kernel_rfl)) ?_
        refine wl_nil ?_
        refine then_n ?_
        refine cw_seq ?_
        refine cw_region ?_
        refine wl_val (v := .int .u64 p2_0) (w' := w_4) (by kernel_rfl) (run_move (v := .int .u64 p2_0) (by kernel_rfl)) ?_
        refine wl_val (v := .int .u64 (cvt .u64 r_1)) (w' := w_4) (by kernel_rfl) (run_move (v := .int .u64 (cvt .u64 r_1)) (by kernel_rfl)) ?_
        obtain ⟨h_6, hm⟩ := need_e hm
        refine wl_val (v := .int .u64 (shl .u64 p2_0 (cvt .u64 r_1))) (w' := w_4) (by kernel_rfl) (run_shl (k := .u64) (a := p2_0) (k' := .u64) (b := (cvt .u64 r_1)) (by kernel_rfl) (by kernel_rfl) h_6) ?_
        refine wl_val (v := .int .u64 (shl .u64 p2_0 (cvt .u64 r_1))) (w' := w_4) (by kernel_rfl) (run_assign (v := .int .u64 (shl .u64 p2_0 (cvt .u64 r_1))) (by kernel_rfl)) ?_
        refine wl_nil ?_
        refine then_n ?_
        refine cw_seq ?_
        refine cw_region ?_
        refine wl_val (v := .int .u64 (shl .u64 p2_0 (cvt .u64 r_1))) (w' := w_4) (by kernel_rfl) (run_move (v := .int .u64 (shl .u64 p2_0 (cvt .u64 r_1))) (by kernel_rfl)) ?_
        refine wl_val (v := .int .u64 (shr .u64 (shl .u64 p2_0 (cvt .u64 r_1)) 32)) (w' := w_4) (by kernel_rfl) (run_shr (k := .u64) (a := (shl .u64 p2_0 (cvt .u64 r_1))) (k' := .u64) (b := 32) (by kernel_rfl) (by kernel_rfl) rfl) ?_
        refine wl_val (v := .int .u64 (shr .u64 (shl .u64 p2_0 (cvt .u64 r_1)) 32)) (w' := w_4) (by kernel_rfl) (run_assign (v := .int .u64 (shr .u64 (shl .u64 p2_0 (cvt .u64 r_1)) 32)) (by kernel_rfl)) ?_
        refine wl_nil ?_
        refine then_n ?_
        refine cw_norm [.int .u64 p0_0, .int .u64 p1_0, .int .u64 (shl .u64 p2_0 (cvt .u64 r_1)), undef, undef, undef, .int .u64 0, .int .u64 0, .int .u64 (cvt .u64 r_1), .int .u64 (shr .u64 (shl .u64 p2_0 (cvt .u64 r_1)) 32), undef, undef, undef, undef, undef, undef, undef, undef, undef, (u_1 0), (u_1 1), (u_1 2), (u_2 0), (u_2 1), (u_2 2), (u_2 3), .int .u64 p0_0, .bool (eqi p0_0 0), undef, undef, undef, undef, undef, undef, .int .u64 p2_0, .int .i64 r_1, .int .u64 (cvt .u64 r_1), .int .u64 p2_0, .int .u64 (cvt .u64 r_1), .int .u64 (shl .u64 p2_0 (cvt .u64 r_1)), .int .u64 (shl .u64 p2_0 (cvt .u64 r_1)), .int .u64 (shr .u64 (shl .u64 p2_0 (cvt .u64 r_1)) 32), undef, undef, undef, undef, undef, undef, undef, undef, undef, undef, undef, undef, undef, undef, undef, undef, undef, undef, undef, undef, undef, undef, undef, undef, undef, undef, undef, undef, undef, undef, undef, undef, undef, undef, undef, undef, undef, undef, undef, undef, undef, undef, undef, undef, undef, undef, undef, undef, undef, undef, undef, undef, undef, undef, undef, undef, undef, undef, undef, undef, undef, undef, undef, undef, undef, undef, undef, undef, undef, undef, undef, undef, undef, undef, undef, undef, undef, undef, undef, undef, undef, undef, undef, undef, undef, undef, undef, undef, undef, undef, undef, undef, undef] (by kernel_rfl) ?_
        refine cw_seq ?_
        refine cw_region ?_
        refine wl_val (v := .int .u64 (shl .u64 p2_0 (cvt .u64 r_1))) (w' := w_4) (by kernel_rfl) (run_move (v := .int .u64 (shl .u64 p2_0 (cvt .u64 r_1))) (by kernel_rfl)) ?_
        refine wl_val (v := .int .u64 (band .u64 (shl .u64 p2_0 (cvt .u64 r_1)) 4294967295)) (w' := w_4) (by kernel_rfl) (run_band (k := .u64) (a := (shl .u64 p2_0 (cvt .u64 r_1))) (b := 4294967295) (by kernel_rfl) (by kernel_rfl)) ?_
        refine wl_val (v := .int .u64 (band .u64 (shl .u64 p2_0 (cvt .u64 r_1)) 4294967295)) (w' := w_4) (by kernel_rfl) (run_assign (v := .int .u64 (band .u64 (shl .u64 p2_0 (cvt .u64 r_1)) 4294967295)) (by kernel_rfl)) ?_
        refine wl_nil ?_
        refine then_n ?_
        refine cw_seq ?_
        refine cw_region ?_
        refine wl_val (v := .int .u64 p0_0) (w' := w_4) (by kernel_rfl) (run_move (v := .int .u64 p0_0) (by kernel_rfl)) ?_
        refine wl_val (v := .int .u64 (cvt .u64 r_1)) (w' := w_4) (by kernel_rfl) (run_move (v := .int .u64 (cvt .u64 r_1)) (by kernel_rfl)) ?_
        obtain ⟨h_7, hm⟩ := need_e hm
        refine wl_val (v := .int .u64 (shl .u64 p0_0 (cvt .u64 r_1))) (w' := w_4) (by kernel_rfl) (run_shl (k := .u64) (a := p0_0) (k' := .u64) (b := (cvt .u64 r_1)) (by kernel_rfl) (by kernel_rfl) h_7) ?_
        refine wl_val (v := .int .u64 p1_0) (w' := w_4) (by kernel_rfl) (run_move (v := .int .u64 p1_0) (by kernel_rfl)) ?_
        refine wl_val (v := .int .u64 (cvt .u64 r_1)) (w' := w_4) (by kernel_rfl) (run_move (v := .int .u64 (cvt .u64 r_1)) (by kernel_rfl)) ?_
        refine wl_val (v := .int .u64 (sub .u64 64 (cvt .u64 r_1))) (w' := w_4) (by kernel_rfl) (run_sub (k := .u64) (a := 64) (b := (cvt .u64 r_1)) (by kernel_rfl) (by kernel_rfl)) ?_
        obtain ⟨h_8, hm⟩ := need_e hm
        refine wl_val (v := .int .u64 (shr .u64 p1_0 (sub .u64 64 (cvt .u64 r_1)))) (w' := w_4) (by kernel_rfl) (run_shr (k := .u64) (a := p1_0) (k' := .u64) (b := (sub .u64 64 (cvt .u64 r_1))) (by kernel_rfl) (by kernel_rfl) h_8) ?_
        obtain ⟨x_1, h_9, hm⟩ := bind_e hm
        refine wl_val (v := .int .u64 x_1) (w' := w_4) (by kernel_rfl) (by rw [← Option.some.inj h_9]; exact run_bor (k := .u64) (a := (shl .u64 p0_0 (cvt .u64 r_1))) (b := (shr .u64 p1_0 (sub .u64 64 (cvt .u64 r_1)))) (by kernel_rfl) (by kernel_rfl)) ?_
        refine wl_val (v := .int .u64 x_1) (w' := w_4) (by kernel_rfl) (run_assign (v := .int .u64 x_1) (by kernel_rfl)) ?_
        refine wl_nil ?_
        refine then_n ?_
        refine cw_norm [.int .u64 p0_0, .int .u64 p1_0, .int .u64 (shl .u64 p2_0 (cvt .u64 r_1)), undef, undef, undef, .int .u64 0, .int .u64 0, .int .u64 (cvt .u64 r_1), .int .u64 (shr .u64 (shl .u64 p2_0 (cvt .u64 r_1)) 32), .int .u64 (band .u64 (shl .u64 p2_0 (cvt .u64 r_1)) 4294967295), .int .u64 x_1, undef, undef, undef, undef, undef, undef, undef, (u_1 0), (u_1 1), (u_1 2), (u_2 0), (u_2 1), (u_2 2), (u_2 3), .int .u64 p0_0, .bool (eqi p0_0 0), undef, undef, undef, undef, undef, undef, .int .u64 p2_0, .int .i64 r_1, .int .u64 (cvt .u64 r_1), .int .u64 p2_0, .int .u64 (cvt .u64 r_1), .int .u64 (shl .u64 p2_0 (cvt .u64 r_1)), .int .u64 (shl .u64 p2_0 (cvt .u64 r_1)), .int .u64 (shr .u64 (shl .u64 p2_0 (cvt .u64 r_1)) 32), .int .u64 (shl .u64 p2_0 (cvt .u64 r_1)), .int .u64 (band .u64 (shl .u64 p2_0 (cvt .u64 r_1)) 4294967295), .int .u64 p0_0, .int .u64 (cvt .u64 r_1), .int .u64 (shl .u64 p0_0 (cvt .u64 r_1)), .int .u64 p1_0, .int .u64 (cvt .u64 r_1), .int .u64 (sub .u64 64 (cvt .u64 r_1)), .int .u64 (shr .u64 p1_0 (sub .u64 64 (cvt .u64 r_1))), .int .u64 x_1, undef, undef, undef, undef, undef, undef, undef, undef, undef, undef, undef, undef, undef, undef, undef, undef, undef, undef, undef, undef, undef, undef, undef, undef, undef, undef, undef, undef, undef, undef, undef, undef, undef, undef, undef, undef, undef, undef, undef, undef, undef, undef, undef, undef, undef, undef, undef, undef, undef, undef, undef, undef, undef, undef, undef, undef, undef, undef, undef, undef, undef, undef, undef, undef, undef, undef, undef, undef, undef, undef, undef, undef, undef, undef, undef, undef, undef, undef, undef, undef, undef, undef, undef] (by kernel_rfl) ?_
        refine cw_seq ?_
        refine cw_region ?_
        refine wl_val (v := .int .u64 p1_0) (w' := w_4) (by kernel_rfl) (run_move (v := .int .u64 p1_0) (by kernel_rfl)) ?_
        refine wl_val (v := .int .u64 (cvt .u64 r_1)) (w' := w_4) (by kernel_rfl) (run_move (v := .int .u64 (cvt .u64 r_1)) (by kernel_rfl)) ?_
        obtain ⟨h_10, hm⟩ := need_e hm
        refine wl_val (v := .int .u64 (shl .u64 p1_0 (cvt .u64 r_1))) (w' := w_4) (by kernel_rfl) (run_shl (k := .u64) (a := p1_0) (k' := .u64) (b := (cvt .u64 r_1)) (by kernel_rfl) (by kernel_rfl) h_10) ?_
        refine wl_val (v := .int .u64 (shl .u64 p1_0 (cvt .u64 r_1))) (w' := w_4) (by kernel_rfl) (run_assign (v := .int .u64 (shl .u64 p1_0 (cvt .u64 r_1))) (by kernel_rfl)) ?_
        refine wl_nil ?_
        refine then_n ?_
        refine cw_seq ?_
        refine cw_region ?_
        refine wl_val (v := .int .u64 (shl .u64 p1_0 (cvt .u64 r_1))) (w' := w_4) (by kernel_rfl) (run_move (v := .int .u64 (shl .u64 p1_0 (cvt .u64 r_1))) (by kernel_rfl)) ?_
        refine wl_val (v := .int .u64 (shr .u64 (shl .u64 p1_0 (cvt .u64 r_1)) 32)) (w' := w_4) (by kernel_rfl) (run_shr (k := .u64) (a := (shl .u64 p1_0 (cvt .u64 r_1))) (k' := .u64) (b := 32) (by kernel_rfl) (by kernel_rfl) rfl) ?_
        refine wl_val (v := .int .u64 (shr .u64 (shl .u64 p1_0 (cvt .u64 r_1)) 32)) (w' := w_4) (by kernel_rfl) (run_assign (v := .int .u64 (shr .u64 (shl .u64 p1_0 (cvt .u64 r_1)) 32)) (by kernel_rfl)) ?_
        refine wl_nil ?_
        refine then_n ?_
        refine cw_seq ?_
        refine cw_region ?_
        refine wl_val (v := .int .u64 (shl .u64 p1_0 (cvt .u64 r_1))) (w' := w_4) (by kernel_rfl) (run_move (v := .int .u64 (shl .u64 p1_0 (cvt .u64 r_1))) (by kernel_rfl)) ?_
        refine wl_val (v := .int .u64 (band .u64 (shl .u64 p1_0 (cvt .u64 r_1)) 4294967295)) (w' := w_4) (by kernel_rfl) (run_band (k := .u64) (a := (shl .u64 p1_0 (cvt .u64 r_1))) (b := 4294967295) (by kernel_rfl) (by kernel_rfl)) ?_
        refine wl_val (v := .int .u64 (band .u64 (shl .u64 p1_0 (cvt .u64 r_1)) 4294967295)) (w' := w_4) (by kernel_rfl) (run_assign (v := .int .u64 (band .u64 (shl .u64 p1_0 (cvt .u64 r_1)) 4294967295)) (by kernel_rfl)) ?_
        refine wl_nil ?_
        refine then_n ?_
        refine cw_seq ?_
        refine cw_region ?_
        refine wl_val (v := .int .u64 x_1) (w' := w_4) (by kernel_rfl) (run_move (v := .int .u64 x_1) (by kernel_rfl)) ?_
        refine wl_val (v := .int .u64 (shr .u64 (shl .u64 p2_0 (cvt .u64 r_1)) 32)) (w' := w_4) (by kernel_rfl) (run_move (v := .int .u64 (shr .u64 (shl .u64 p2_0 (cvt .u64 r_1)) 32)) (by kernel_rfl)) ?_
        obtain ⟨h_11, hm⟩ := need_e hm
        refine wl_val (v := .int .u64 (quo .u64 x_1 (shr .u64 (shl .u64 p2_0 (cvt .u64 r_1)) 32))) (w' := w_4) (by kernel_rfl) (run_quo (k := .u64) (a := x_1) (b := (shr .u64 (shl .u64 p2_0 (cvt .u64 r_1)) 32)) (by kernel_rfl) (by kernel_rfl) (by simpa [nei] using h_11)) ?_
        refine wl_val (v := .int .u64 (quo .u64 x_1 (shr .u64 (shl .u64 p2_0 (cvt .u64 r_1)) 32))) (w' := w_4) (by kernel_rfl) (run_assign (v := .int .u64 (quo .u64 x_1 (shr .u64 (shl .u64 p2_0 (cvt .u64 r_1)) 32))) (by kernel_rfl)) ?_
        refine wl_nil ?_
        refine then_n ?_
        refine cw_norm [.int .u64 p0_0, .int .u64 p1_0, .int .u64 (shl .u64 p2_0 (cvt .u64 r_1)), undef, undef, undef, .int .u64 0, .int .u64 0, .int .u64 (cvt .u64 r_1), .int .u64 (shr .u64 (shl .u64 p2_0 (cvt .u64 r_1)) 32), .int .u64 (band .u64 (shl .u64 p2_0 (cvt .u64 r_1)) 4294967295), .int .u64 x_1, .int .u64 (shl .u64 p1_0 (cvt .u64 r_1)), .int .u64 (shr .u64 (shl .u64 p1_0 (cvt .u64 r_1)) 32), .int .u64 (band .u64 (shl .u64 p1_0 (cvt .u64 r_1)) 4294967295), .int .u64 (quo .u64 x_1 (shr .u64 (shl .u64 p2_0 (cvt .u64 r_1)) 32)), undef, undef, undef, (u_1 0), (u_1 1), (u_1 2), (u_2 0), (u_2 1), (u_2 2), (u_2 3), .int .u64 p0_0, .bool (eqi p0_0 0), undef, undef, undef, undef, undef, undef, .int .u64 p2_0, .int .i64 r_1, .int .u64 (cvt .u64 r_1), .int .u64 p2_0, .int .u64 (cvt .u64 r_1), .int .u64 (shl .u64 p2_0 (cvt .u64 r_1)), .int .u64 (shl .u64 p2_0 (cvt .u64 r_1)), .int .u64 (shr .u64 (shl .u64 p2_0 (cvt .u64 r_1)) 32), .int .u64 (shl .u64 p2_0 (cvt .u64 r_1)), .int .u64 (band .u64 (shl .u64 p2_0 (cvt .u64 r_1)) 4294967295), .int .u64 p0_0, .int .u64 (cvt .u64 r_1), .int .u64 (shl .u64 p0_0 (cvt .u64 r_1)), .int .u64 p1_0, .int .u64 (cvt .u64 r_1), .int .u64 (sub .u64 64 (cvt .u64 r_1)), .int .u64 (shr .u64 p1_0 (sub .u64 64 (cvt .u64 r_1))), .int .u64 x_1, .int .u64 p1_0, .int .u64 (cvt .u64 r_1), .int .u64 (shl .u64 p1_0 (cvt .u64 r_1)), .int .u64 (shl .u64 p1_0 (cvt .u64 r_1)), .int .u64 (shr .u64 (shl .u64 p1_0 (cvt .u64 r_1)) 32), .int .u64 (shl .u64 p1_0 (cvt .u64 r_1)), .int .u64 (band .u64 (shl .u64 p1_0 (cvt .u64 r_1)) 4294967295), .int .u64 x_1, .int .u64 (shr .u64 (shl .u64 p2_0 (cvt .u64 r_1)) 32), .int .u64 (quo .u64 x_1 (shr .u64 (shl .u64 p2_0 (cvt .u64 r_1)) 32)), undef, undef, undef, undef, undef, undef, undef, undef, undef, undef, undef, undef, undef, undef, undef, undef, undef, undef, undef, undef, undef, undef, undef, undef, undef, undef, undef, undef, undef, undef, undef, undef, undef, undef, undef, undef, undef, undef, undef, undef, undef, undef, undef, undef, undef, undef, undef, undef, undef, undef, undef, undef, undef, undef, undef, undef, undef, undef, undef, undef, undef, undef, undef, undef, undef, undef, undef, undef, undef, undef, undef, undef, undef] (by kernel_rfl) ?_
        refine cw_seq ?_
        refine cw_region ?_
        refine wl_val (v := .int .u64 x_1) (w' := w_4) (by kernel_rfl) (run_move (v := .int .u64 x_1) (by kernel_rfl)) ?_
        refine wl_val (v := .int .u64 (quo .u64 x_1 (shr .u64 (shl .u64 p2_0 (cvt .u64 r_1)) 32))) (w' := w_4) (by kernel_rfl) (run_move (v := .int .u64 (quo .u64 x_1 (shr .u64 (shl .u64 p2_0 (cvt .u64 r_1)) 32))) (by kernel_rfl)) ?_
        refine wl_val (v := .int .u64 (shr .u64 (shl .u64 p2_0 (cvt .u64 r_1)) 32)) (w' := w_4) (by kernel_rfl) (run_move (v := .int .u64 (shr .u64 (shl .u64 p2_0 (cvt .u64 r_1)) 32)) (by kernel_rfl)) ?_
        obtain ⟨x_2, h_12, hm⟩ := bind_e hm
        refine wl_val (v := .int .u64 x_2) (w' := w_4) (by kernel_rfl) (by rw [← Option.some.inj h_12]; exact run_mul (k := .u64) (a := (quo .u64 x_1 (shr .u64 (shl .u64 p2_0 (cvt .u64 r_1)) 32))) (b := (shr .u64 (shl .u64 p2_0 (cvt .u64 r_1)) 32)) (by kernel_rfl) (by kernel_rfl)) ?_
        refine wl_val (v := .int .u64 (sub .u64 x_1 x_2)) (w' := w_4) (by kernel_rfl) (run_sub (k := .u64) (a := x_1) (b := x_2) (by kernel_rfl) (by kernel_rfl)) ?_
        refine wl_val (v := .int .u64 (sub .u64 x_1 x_2)) (w' := w_4) (by kernel_rfl) (run_assign (v := .int .u64 (sub .u64 x_1 x_2)) (by kernel_rfl)) ?_
        refine wl_nil ?_
        refine then_n ?_
        refine cw_cut (fun l' w' => ∃ q1_2, ∃ u_8 : Nat → Value, l' = [.int .u64 p0_0, .int .u64 p1_0, .int .u64 (shl .u64 p2_0 (cvt .u64 r_1)), undef, undef, undef, .int .u64 0, .int .u64 0, .int .u64 (cvt .u64 r_1), .int .u64 (shr .u64 (shl .u64 p2_0 (cvt .u64 r_1)) 32), .int .u64 (band .u64 (shl .u64 p2_0 (cvt .u64 r_1)) 4294967295), .int .u64 x_1, .int .u64 (shl .u64 p1_0 (cvt .u64 r_1)), .int .u64 (shr .u64 (shl .u64 p1_0 (cvt .u64 r_1)) 32), .int .u64 (band .u64 (shl .u64 p1_0 (cvt .u64 r_1)) 4294967295), .int .u64 q1_2, (u_8 0), undef, undef, (u_1 0), (u_1 1), (u_1 2), (u_2 0), (u_2 1), (u_2 2), (u_2 3), .int .u64 p0_0, .bool (eqi p0_0 0), undef, undef, undef, undef, undef, undef, .int .u64 p2_0, .int .i64 r_1, .int .u64 (cvt .u64 r_1), .int .u64 p2_0, .int .u64 (cvt .u64 r_1), .int .u64 (shl .u64 p2_0 (cvt .u64 r_1)), .int .u64 (shl .u64 p2_0 (cvt .u64 r_1)), .int .u64 (shr .u64 (shl .u64 p2_0 (cvt .u64 r_1)) 32), .int .u64 (shl .u64 p2_0 (cvt .u64 r_1)), .int .u64 (band .u64 (shl .u64 p2_0 (cvt .u64 r_1)) 4294967295), .int .u64 p0_0, .int .u64 (cvt .u64 r_1), .int .u64 (shl .u64 p0_0 (cvt .u64 r_1)), .int .u64 p1_0, .int .u64 (cvt .u64 r_1), .int .u64 (sub .u64 64 (cvt .u64 r_1)), .int .u64 (shr .u64 p1_0 (sub .u64 64 (cvt .u64 r_1))), .int .u64 x_1, .int .u64 p1_0, .int .u64 (cvt .u64 r_1), .int .u64 (shl .u64 p1_0 (cvt .u64 r_1)), .int .u64 (shl .u64 p1_0 (cvt .u64 r_1)), .int .u64 (shr .u64 (shl .u64 p1_0 (cvt .u64 r_1)) 32), .int .u64 (shl .u64 p1_0 (cvt .u64 r_1)), .int .u64 (band .u64 (shl .u64 p1_0 (cvt .u64 r_1)) 4294967295), .int .u64 x_1, .int .u64 (shr .u64 (shl .u64 p2_0 (cvt .u64 r_1)) 32), .int .u64 (quo .u64 x_1 (shr .u64 (shl .u64 p2_0 (cvt .u64 r_1)) 32)), .int .u64 x_1, .int .u64 (quo .u64 x_1 (shr .u64 (shl .u64 p2_0 (cvt .u64 r_1)) 32)), .int .u64 (shr .u64 (shl .u64 p2_0 (cvt .u64 r_1)) 32), .int .u64 x_2, .int .u64 (sub .u64 x_1 x_2), (u_8 1), (u_8 2), (u_8 3), (u_8 4), (u_8 5), (u_8 6), (u_8 7), (u_8 8), (u_8 9), (u_8 10), (u_8 11), (u_8 12), (u_8 13), (u_8 14), (u_8 15), (u_8 16), (u_8 17), (u_8 18), (u_8 19), undef, undef, undef, undef, undef, undef, undef, undef, undef, undef, undef, undef, undef, undef, undef, undef, undef, undef, undef, undef, undef, undef, undef, undef, undef, undef, undef, undef, undef, undef, undef, undef, undef, undef, undef, undef, undef, undef, undef, undef, undef, undef, undef, undef, undef, undef, undef, undef, undef] ∧ LOk w0.heap.size [] F w' ∧ Below w0.heap.size w0 w' ∧ m38_J3 fuel p1_0 p2_0 r_1 x_1 q1_2 = some r) ?_ ?_
        · refine cw_block ?_
          refine cw_loop (σ := Int × Int) (m38_L7 fuel p1_0 p2_0 r_1 x_1) r (fun s l' w' => ∃ u_22 : Nat → Value, l' = [.int .u64 p0_0, .int .u64 p1_0, .int .u64 (shl .u64 p2_0 (cvt .u64 r_1)), undef, undef, undef, .int .u64 0, .int .u64 0, .int .u64 (cvt .u64 r_1), .int .u64 (shr .u64 (shl .u64 p2_0 (cvt .u64 r_1)) 32), .int .u64 (band .u64 (shl .u64 p2_0 (cvt .u64 r_1)) 4294967295), .int .u64 x_1, .int .u64 (shl .u64 p1_0 (cvt .u64 r_1)), .int .u64 (shr .u64 (shl .u64 p1_0 (cvt .u64 r_1)) 32), .int .u64 (band .u64 (shl .u64 p1_0 (cvt .u64 r_1)) 4294967295), .int .u64 s.1, .int .u64 s.2, undef, undef, (u_1 0), (u_1 1), (u_1 2), (u_2 0), (u_2 1), (u_2 2), (u_2 3), .int .u64 p0_0, .bool (eqi p0_0 0), undef, undef, undef, undef, undef, undef, .int .u64 p2_0, .int .i64 r_1, .int .u64 (cvt .u64 r_1), .int .u64 p2_0, .int .u64 (cvt .u64 r_1), .int .u64 (shl .u64 p2_0 (cvt .u64 r_1)), .int .u64 (shl .u64 p2_0 (cvt .u64 r_1)), .int .u64 (shr .u64 (shl .u64 p2_0 (cvt .u64 r_1)) 32), .int .u64 (shl .u64 p2_0 (cvt .u64 r_1)), .int .u64 (band .u64 (shl .u64 p2_0 (cvt .u64 r_1)) 4294967295), .int .u64 p0_0, .int .u64 (cvt .u64 r_1), .int .u64 (shl .u64 p0_0 (cvt .u64 r_1)), .int .u64 p1_0, .int .u64 (cvt .u64 r_1), .int .u64 (sub .u64 64 (cvt .u64 r_1)), .int .u64 (shr .u64 p1_0 (sub .u64 64 (cvt .u64 r_1))), .int .u64 x_1, .int .u64 p1_0, .int .u64 (cvt .u64 r_1), .int .u64 (shl .u64 p1_0 (cvt .u64 r_1)), .int .u64 (shl .u64 p1_0 (cvt .u64 r_1)), .int .u64 (shr .u64 (shl .u64 p1_0 (cvt .u64 r_1)) 32), .int .u64 (shl .u64 p1_0 (cvt .u64 r_1)), .int .u64 (band .u64 (shl .u64 p1_0 (cvt .u64 r_1)) 4294967295), .int .u64 x_1, .int .u64 (shr .u64 (shl .u64 p2_0 (cvt .u64 r_1)) 32), .int .u64 (quo .u64 x_1 (shr .u64 (shl .u64 p2_0 (cvt .u64 r_1)) 32)), .int .u64 x_1, .int .u64 (quo .u64 x_1 (shr .u64 (shl .u64 p2_0 (cvt .u64 r_1)) 32)), .int .u64 (shr .u64 (shl .u64 p2_0 (cvt .u64 r_1)) 32), .int .u64 x_2, .int .u64 (sub .u64 x_1 x_2), (u_22 0), (u_22 1), (u_22 2), (u_22 3), (u_22 4), (u_22 5), (u_22 6), (u_22 7), (u_22 8), (u_22 9), (u_22 10), (u_22 11), (u_22 12), (u_22 13), (u_22 14), (u_22 15), (u_22 16), (u_22 17), (u_22 18), undef, undef, undef, undef, undef, undef, undef, undef, undef, undef, undef, undef, undef, undef, undef, undef, undef, undef, undef, undef, undef, undef, undef, undef, undef, undef, undef, undef, undef, undef, undef, undef, undef, undef, undef, undef, undef, undef, undef, undef, undef, undef, undef, undef, undef, undef, undef, undef, undef] ∧ LOk w0.heap.size [] F w' ∧ Below w0.heap.size w0 w') ?_ (s := ((quo .u64 x_1 (shr .u64 (shl .u64 p2_0 (cvt .u64 r_1)) 32)), (sub .u64 x_1 x_2))) (n := fuel) ⟨(fun i => ([undef, undef, undef, undef, undef, undef, undef, undef, undef, undef, undef, undef, undef, undef, undef, undef, undef, undef, undef] : List Value).getD i undef), by kernel_rfl, hL, hB⟩ hm
          intro self_2 s l1 w_9 hI hm
          obtain ⟨q1_3, rhat_4⟩ := s
          try dsimp only at hI
          obtain ⟨u_22, rfl, hL, hB⟩ := hI
          unfold m38_L7 at hm
          refine cw_seq ?_
          refine cw_cut (fun l' w' => ∃ x_60, ∃ u_24 : Nat → Value, l' = [.int .u64 p0_0, .int .u64 p1_0, .int .u64 (shl .u64 p2_0 (cvt .u64 r_1)), undef, undef, undef, .int .u64 0, .int .u64 0, .int .u64 (cvt .u64 r_1), .int .u64 (shr .u64 (shl .u64 p2_0 (cvt .u64 r_1)) 32), .int .u64 (band .u64 (shl .u64 p2_0 (cvt .u64 r_1)) 4294967295), .int .u64 x_1, .int .u64 (shl .u64 p1_0 (cvt .u64 r_1)), .int .u64 (shr .u64 (shl .u64 p1_0 (cvt .u64 r_1)) 32), .int .u64 (band .u64 (shl .u64 p1_0 (cvt .u64 r_1)) 4294967295), .int .u64 q1_3, .int .u64 rhat_4, undef, undef, (u_1 0), (u_1 1), (u_1 2), (u_2 0), (u_2 1), (u_2 2), (u_2 3), .int .u64 p0_0, .bool (eqi p0_0 0), undef, undef, undef, undef, undef, undef, .int .u64 p2_0, .int .i64 r_1, .int .u64 (cvt .u64 r_1), .int .u64 p2_0, .int .u64 (cvt .u64 r_1), .int .u64 (shl .u64 p2_0 (cvt .u64 r_1)), .int .u64 (shl .u64 p2_0 (cvt .u64 r_1)), .int .u64 (shr .u64 (shl .u64 p2_0 (cvt .u64 r_1)) 32), .int .u64 (shl .u64 p2_0 (cvt .u64 r_1)), .int .u64 (band .u64 (shl .u64 p2_0 (cvt .u64 r_1)) 4294967295), .int .u64 p0_0, .int .u64 (cvt .u64 r_1), .int .u64 (shl .u64 p0_0 (cvt .u64 r_1)), .int .u64 p1_0, .int .u64 (cvt .u64 r_1), .int .u64 (sub .u64 64 (cvt .u64 r_1)), .int .u64 (shr .u64 p1_0 (sub .u64 64 (cvt .u64 r_1))), .int .u64 x_1, .int .u64 p1_0, .int .u64 (cvt .u64 r_1), .int .u64 (shl .u64 p1_0 (cvt .u64 r_1)), .int .u64 (shl .u64 p1_0 (cvt .u64 r_1)), .int .u64 (shr .u64 (shl .u64 p1_0 (cvt .u64 r_1)) 32), .int .u64 (shl .u64 p1_0 (cvt .u64 r_1)), .int .u64 (band .u64 (shl .u64 p1_0 (cvt .u64 r_1)) 4294967295), .int .u64 x_1, .int .u64 (shr .u64 (shl .u64 p2_0 (cvt .u64 r_1)) 32), .int .u64 (quo .u64 x_1 (shr .u64 (shl .u64 p2_0 (cvt .u64 r_1)) 32)), .int .u64 x_1, .int .u64 (quo .u64 x_1 (shr .u64 (shl .u64 p2_0 (cvt .u64 r_1)) 32)), .int .u64 (shr .u64 (shl .u64 p2_0 (cvt .u64 r_1)) 32), .int .u64 x_2, .int .u64 (sub .u64 x_1 x_2), (u_24 0), (u_24 1), (u_24 2), (u_24 3), (u_24 4), (u_24 5), (u_24 6), (u_24 7), (u_24 8), (u_24 9), (u_24 10), .bool x_60, (u_22 12), (u_22 13), (u_22 14), (u_22 15), (u_22 16), (u_22 17), (u_22 18), undef, undef, undef, undef, undef, undef, undef, undef, undef, undef, undef, undef, undef, undef, undef, undef, undef, undef, undef, undef, undef, undef, undef, undef, undef, undef, undef, undef, undef, undef, undef, undef, undef, undef, undef, undef, undef, undef, undef, undef, undef, undef, undef, undef, undef, undef, undef, undef, undef] ∧ LOk w0.heap.size [] F w' ∧ Below w0.heap.size w0 w' ∧ m38_J8 fuel p1_0 p2_0 r_1 x_1 q1_3 rhat_4 self_2 x_60 = some r) ?_ ?_
          · refine cw_region ?_
            refine wl_val (v := .int .u64 q1_3) (w' := w_9) (by kernel_rfl) (run_move (v := .int .u64 q1_3) (by kernel_rfl)) ?_
            refine wl_val (v := .bool (ge q1_3 4294967296)) (w' := w_9) (by kernel_rfl) (run_ge (k := .u64) (a := q1_3) (b := 4294967296) (by kernel_rfl) (by kernel_rfl)) ?_
            refine wl_val (v := .bool (ge q1_3 4294967296)) (w' := w_9) (by kernel_rfl) (run_move (v := .bool (ge q1_3 4294967296)) (by kernel_rfl)) ?_
            rcases Bool.eq_false_or_eq_true (ge q1_3 4294967296) with hc_41 | hc_41
            · have hm := ite_t hm hc_41
              refine wl_not (wg (c := (ge q1_3 4294967296)) (want := false) (by kernel_rfl) hc_41 rfl) ?_
              refine wl_not (wg (c := (ge q1_3 4294967296)) (want := false) (by kernel_rfl) hc_41 rfl) ?_
              refine wl_not (wg (c := (ge q1_3 4294967296)) (want := false) (by kernel_rfl) hc_41 rfl) ?_
              refine wl_not (wg (c := (ge q1_3 4294967296)) (want := false) (by kernel_rfl) hc_41 rfl) ?_
              refine wl_not (wg (c := (ge q1_3 4294967296)) (want := false) (by kernel_rfl) hc_41 rfl) ?_
              refine wl_not (wg (c := (ge q1_3 4294967296)) (want := false) (by kernel_rfl) hc_41 rfl) ?_
              refine wl_norm [.int .u64 p0_0, .int .u64 p1_0, .int .u64 (shl .u64 p2_0 (cvt .u64 r_1)), undef, undef, undef, .int .u64 0, .int .u64 0, .int .u64 (cvt .u64 r_1), .int .u64 (shr .u64 (shl .u64 p2_0 (cvt .u64 r_1)) 32), .int .u64 (band .u64 (shl .u64 p2_0 (cvt .u64 r_1)) 4294967295), .int .u64 x_1, .int .u64 (shl .u64 p1_0 (cvt .u64 r_1)), .int .u64 (shr .u64 (shl .u64 p1_0 (cvt .u64 r_1)) 32), .int .u64 (band .u64 (shl .u64 p1_0 (cvt .u64 r_1)) 4294967295), .int .u64 q1_3, .int .u64 rhat_4, undef, undef, (u_1 0), (u_1 1), (u_1 2), (u_2 0), (u_2 1), (u_2 2), (u_2 3), .int .u64 p0_0, .bool (eqi p0_0 0), undef, undef, undef, undef, undef, undef, .int .u64 p2_0, .int .i64 r_1, .int .u64 (cvt .u64 r_1), .int .u64 p2_0, .int .u64 (cvt .u64 r_1), .int .u64 (shl .u64 p2_0 (cvt .u64 r_1)), .int .u64 (shl .u64 p2_0 (cvt .u64 r_1)), .int .u64 (shr .u64 (shl .u64 p2_0 (cvt .u64 r_1)) 32), .int .u64 (shl .u64 p2_0 (cvt .u64 r_1)), .int .u64 (band .u64 (shl .u64 p2_0 (cvt .u64 r_1)) 4294967295), .int .u64 p0_0, .int .u64 (cvt .u64 r_1), .int .u64 (shl .u64 p0_0 (cvt .u64 r_1)), .int .u64 p1_0, .int .u64 (cvt .u64 r_1), .int .u64 (sub .u64 64 (cvt .u64 r_1)), .int .u64 (shr .u64 p1_0 (sub .u64 64 (cvt .u64 r_1))), .int .u64 x_1, .int .u64 p1_0, .int .u64 (cvt .u64 r_1), .int .u64 (shl .u64 p1_0 (cvt .u64 r_1)), .int .u64 (shl .u64 p1_0 (cvt .u64 r_1)), .int .u64 (shr .u64 (shl .u64 p1_0 (cvt .u64 r_1)) 32), .int .u64 (shl .u64 p1_0 (cvt .u64 r_1)), .int .u64 (band .u64 (shl .u64 p1_0 (cvt .u64 r_1)) 4294967295), .int .u64 x_1, .int .u64 (shr .u64 (shl .u64 p2_0 (cvt .u64 r_1)) 32), .int .u64 (quo .u64 x_1 (shr .u64 (shl .u64 p2_0 (cvt .u64 r_1)) 32)), .int .u64 x_1, .int .u64 (quo .u64 x_1 (shr .u64 (shl .u64 p2_0 (cvt .u64 r_1)) 32)), .int .u64 (shr .u64 (shl .u64 p2_0 (cvt .u64 r_1)) 32), .int .u64 x_2, .int .u64 (sub .u64 x_1 x_2), .int .u64 q1_3, .bool (ge q1_3 4294967296), .bool (ge q1_3 4294967296), undef, undef, undef, undef, undef, undef, (u_22 9), (u_22 10), (u_22 11), (u_22 12), (u_22 13), (u_22 14), (u_22 15), (u_22 16), (u_22 17), (u_22 18), undef, undef, undef, undef, undef, undef, undef, undef, undef, undef, undef, undef, undef, undef, undef, undef, undef, undef, undef, undef, undef, undef, undef, undef, undef, undef, undef, undef, undef, undef, undef, undef, undef, undef, undef, undef, undef, undef, undef, undef, undef, undef, undef, undef, undef, undef, undef, undef, undef] (by kernel_rfl) ?_
              refine wl_not (wg (c := (ge q1_3 4294967296)) (want := false) (by kernel_rfl) hc_41 rfl) ?_
              refine wl_not (wg (c := (ge q1_3 4294967296)) (want := false) (by kernel_rfl) hc_41 rfl) ?_
              refine wl_val (v := .bool true) (w' := w_9) (by kernel_rfl) (run_pick_t (v := .bool true) (tr2 (c := (ge q1_3 4294967296)) (by kernel_rfl) hc_41) (by kernel_rfl)) ?_
              refine wl_nil ?_
              exact then_c ⟨true, (fun i => ([.int .u64 q1_3, .bool (ge q1_3 4294967296), .bool (ge q1_3 4294967296), undef, undef, undef, undef, undef, undef, undef, undef] : List Value).getD i undef), by kernel_rfl, hL, hB, hm⟩
            · have hm := ite_f hm hc_41
              refine wl_val (v := .int .u64 q1_3) (w' := w_9) (wg (c := (ge q1_3 4294967296)) (want := false) (by kernel_rfl) hc_41 rfl) (run_move (v := .int .u64 q1_3) (by kernel_rfl)) ?_
              refine wl_val (v := .int .u64 (band .u64 (shl .u64 p2_0 (cvt .u64 r_1)) 4294967295)) (w' := w_9) (wg (c := (ge q1_3 4294967296)) (want := false) (by kernel_rfl) hc_41 rfl) (run_move (v := .int .u64 (band .u64 (shl .u64 p2_0 (cvt .u64 r_1)) 4294967295)) (by kernel_rfl)) ?_
              obtain ⟨x_62, h_62, hm⟩ := bind_e hm
              refine wl_val (v := .int .u64 x_62) (w' := w_9) (wg (c := (ge q1_3 4294967296)) (want := false) (by kernel_rfl) hc_41 rfl) (by rw [← Option.some.inj h_62]; exact run_mul (k := .u64) (a := q1_3) (b := (band .u64 (shl .u64 p2_0 (cvt .u64 r_1)) 4294967295)) (by kernel_rfl) (by kernel_rfl)) ?_
              refine wl_val (v := .int .u64 rhat_4) (w' := w_9) (wg (c := (ge q1_3 4294967296)) (want := false) (by kernel_rfl) hc_41 rfl) (run_move (v := .int .u64 rhat_4) (by kernel_rfl)) ?_
              refine wl_val (v := .int .u64 (mul .u64 4294967296 rhat_4)) (w' := w_9) (wg (c := (ge q1_3 4294967296)) (want := false) (by kernel_rfl) hc_41 rfl) (run_mul (k := .u64) (a := 4294967296) (b := rhat_4) (by kernel_rfl) (by kernel_rfl)) ?_
              refine wl_val (v := .int .u64 (shr .u64 (shl .u64 p1_0 (cvt .u64 r_1)) 32)) (w' := w_9) (wg (c := (ge q1_3 4294967296)) (want := false) (by kernel_rfl) hc_41 rfl) (run_move (v := .int .u64 (shr .u64 (shl .u64 p1_0 (cvt .u64 r_1)) 32)) (by kernel_rfl)) ?_
              refine wl_norm [.int .u64 p0_0, .int .u64 p1_0, .int .u64 (shl .u64 p2_0 (cvt .u64 r_1)), undef, undef, undef, .int .u64 0, .int .u64 0, .int .u64 (cvt .u64 r_1), .int .u64 (shr .u64 (shl .u64 p2_0 (cvt .u64 r_1)) 32), .int .u64 (band .u64 (shl .u64 p2_0 (cvt .u64 r_1)) 4294967295), .int .u64 x_1, .int .u64 (shl .u64 p1_0 (cvt .u64 r_1)), .int .u64 (shr .u64 (shl .u64 p1_0 (cvt .u64 r_1)) 32), .int .u64 (band .u64 (shl .u64 p1_0 (cvt .u64 r_1)) 4294967295), .int .u64 q1_3, .int .u64 rhat_4, undef, undef, (u_1 0), (u_1 1), (u_1 2), (u_2 0), (u_2 1), (u_2 2), (u_2 3), .int .u64 p0_0, .bool (eqi p0_0 0), undef, undef, undef, undef, undef, undef, .int .u64 p2_0, .int .i64 r_1, .int .u64 (cvt .u64 r_1), .int .u64 p2_0, .int .u64 (cvt .u64 r_1), .int .u64 (shl .u64 p2_0 (cvt .u64 r_1)), .int .u64 (shl .u64 p2_0 (cvt .u64 r_1)), .int .u64 (shr .u64 (shl .u64 p2_0 (cvt .u64 r_1)) 32), .int .u64 (shl .u64 p2_0 (cvt .u64 r_1)), .int .u64 (band .u64 (shl .u64 p2_0 (cvt .u64 r_1)) 4294967295), .int .u64 p0_0, .int .u64 (cvt .u64 r_1), .int .u64 (shl .u64 p0_0 (cvt .u64 r_1)), .int .u64 p1_0, .int .u64 (cvt .u64 r_1), .int .u64 (sub .u64 64 (cvt .u64 r_1)), .int .u64 (shr .u64 p1_0 (sub .u64 64 (cvt .u64 r_1))), .int .u64 x_1, .int .u64 p1_0, .int .u64 (cvt .u64 r_1), .int .u64 (shl .u64 p1_0 (cvt .u64 r_1)), .int .u64 (shl .u64 p1_0 (cvt .u64 r_1)), .int .u64 (shr .u64 (shl .u64 p1_0 (cvt .u64 r_1)) 32), .int .u64 (shl .u64 p1_0 (cvt .u64 r_1)), .int .u64 (band .u64 (shl .u64 p1_0 (cvt .u64 r_1)) 4294967295), .int .u64 x_1, .int .u64 (shr .u64 (shl .u64 p2_0 (cvt .u64 r_1)) 32), .int .u64 (quo .u64 x_1 (shr .u64 (shl .u64 p2_0 (cvt .u64 r_1)) 32)), .int .u64 x_1, .int .u64 (quo .u64 x_1 (shr .u64 (shl .u64 p2_0 (cvt .u64 r_1)) 32)), .int .u64 (shr .u64 (shl .u64 p2_0 (cvt .u64 r_1)) 32), .int .u64 x_2, .int .u64 (sub .u64 x_1 x_2), .int .u64 q1_3, .bool (ge q1_3 4294967296), .bool (ge q1_3 4294967296), .int .u64 q1_3, .int .u64 (band .u64 (shl .u64 p2_0 (cvt .u64 r_1)) 4294967295), .int .u64 x_62, .int .u64 rhat_4, .int .u64 (mul .u64 4294967296 rhat_4), .int .u64 (shr .u64 (shl .u64 p1_0 (cvt .u64 r_1)) 32), (u_22 9), (u_22 10), (u_22 11), (u_22 12), (u_22 13), (u_22 14), (u_22 15), (u_22 16), (u_22 17), (u_22 18), undef, undef, undef, undef, undef, undef, undef, undef, undef, undef, undef, undef, undef, undef, undef, undef, undef, undef, undef, undef, undef, undef, undef, undef, undef, undef, undef, undef, undef, undef, undef, undef, undef, undef, undef, undef, undef, undef, undef, undef, undef, undef, undef, undef, undef, undef, undef, undef, undef] (by kernel_rfl) ?_
              obtain ⟨x_63, h_63, hm⟩ := bind_e hm
              refine wl_val (v := .int .u64 x_63) (w' := w_9) (wg (c := (ge q1_3 4294967296)) (want := false) (by kernel_rfl) hc_41 rfl) (by rw [← Option.some.inj h_63]; exact run_add (k := .u64) (a := (mul .u64 4294967296 rhat_4)) (b := (shr .u64 (shl .u64 p1_0 (cvt .u64 r_1)) 32)) (by kernel_rfl) (by kernel_rfl)) ?_
              refine wl_val (v := .bool (gt x_62 x_63)) (w' := w_9) (wg (c := (ge q1_3 4294967296)) (want := false) (by kernel_rfl) hc_41 rfl) (run_gt (k := .u64) (a := x_62) (b := x_63) (by kernel_rfl) (by kernel_rfl)) ?_
              refine wl_val (v := .bool (gt x_62 x_63)) (w' := w_9) (by kernel_rfl) (run_pick_f (v := .bool (gt x_62 x_63)) (tr2 (c := (ge q1_3 4294967296)) (by kernel_rfl) hc_41) (by kernel_rfl)) ?_
              refine wl_nil ?_
              exact then_c ⟨(gt x_62 x_63), (fun i => ([.int .u64 q1_3, .bool (ge q1_3 4294967296), .bool (ge q1_3 4294967296), .int .u64 q1_3, .int .u64 (band .u64 (shl .u64 p2_0 (cvt .u64 r_1)) 4294967295), .int .u64 x_62, .int .u64 rhat_4, .int .u64 (mul .u64 4294967296 rhat_4), .int .u64 (shr .u64 (shl .u64 p1_0 (cvt .u64 r_1)) 32), .int .u64 x_63, .bool (gt x_62 x_63)] : List Value).getD i undef), by kernel_rfl, hL, hB, hm⟩
          · intro l1 w_10 hI
            obtain ⟨x_60, u_24, rfl, hL, hB, hm⟩ := hI
            unfold m38_J8 at hm
            refine cw_cond (t := x_60) (by kernel_rfl) (fun hc_39 => ?_) (fun hc_39 => ?_)
            · have hm := ite_t hm hc_39
              refine cw_skip ?_
              refine then_n ?_
              refine cw_block ?_
              refine cw_seq ?_
              refine cw_region ?_
              refine wl_val (v := .int .u64 q1_3) (w' := w_10) (by kernel_rfl) (run_move (v := .int .u64 q1_3) (by kernel_rfl)) ?_
              refine wl_val (v := .int .u64 (sub .u64 q1_3 1)) (w' := w_10) (by kernel_rfl) (run_sub (k := .u64) (a := q1_3) (b := 1) (by kernel_rfl) (by kernel_rfl)) ?_
              refine wl_val (v := .int .u64 (sub .u64 q1_3 1)) (w' := w_10) (by kernel_rfl) (run_assign (v := .int .u64 (sub .u64 q1_3 1)) (by kernel_rfl)) ?_
              refine wl_nil ?_
              refine then_n ?_
              refine cw_seq ?_
              refine cw_region ?_
              refine wl_val (v := .int .u64 rhat_4) (w' := w_10) (by kernel_rfl) (run_move (v := .int .u64 rhat_4) (by kernel_rfl)) ?_
              refine wl_val (v := .int .u64 (shr .u64 (shl .u64 p2_0 (cvt .u64 r_1)) 32)) (w' := w_10) (by kernel_rfl) (run_move (v := .int .u64 (shr .u64 (shl .u64 p2_0 (cvt .u64 r_1)) 32)) (by kernel_rfl)) ?_
              obtain ⟨x_61, h_61, hm⟩ := bind_e hm
              refine wl_val (v := .int .u64 x_61) (w' := w_10) (by kernel_rfl) (by rw [← Option.some.inj h_61]; exact run_add (k := .u64) (a := rhat_4) (b := (shr .u64 (shl .u64 p2_0 (cvt .u64 r_1)) 32)) (by kernel_rfl) (by kernel_rfl)) ?_
              refine wl_val (v := .int .u64 x_61) (w' := w_10) (by kernel_rfl) (run_assign (v := .int .u64 x_61) (by kernel_rfl)) ?_
              refine wl_nil ?_
              refine then_n ?_
              refine cw_seq ?_
              refine cw_region ?_
              refine wl_val (v := .int .u64 x_61) (w' := w_10) (by kernel_rfl) (run_move (v := .int .u64 x_61) (by kernel_rfl)) ?_
              refine wl_val (v := .bool (ge x_61 4294967296)) (w' := w_10) (by kernel_rfl) (run_ge (k := .u64) (a := x_61) (b := 4294967296) (by kernel_rfl) (by kernel_rfl)) ?_
              refine wl_nil ?_
              refine then_n ?_
              refine cw_cond (t := (ge x_61 4294967296)) (by kernel_rfl) (fun hc_40 => ?_) (fun hc_40 => ?_)
              · have hm := ite_t hm hc_40
                refine cw_exit ?_
                refine inBlock_other rfl ?_
                refine then_exit ?_
                refine inBlock_same ?_
                exact then_c ⟨(sub .u64 q1_3 1), (fun i => ([.int .u64 x_61, (u_24 0), (u_24 1), (u_24 2), (u_24 3), (u_24 4), (u_24 5), (u_24 6), (u_24 7), (u_24 8), (u_24 9), (u_24 10), .bool x_60, .int .u64 q1_3, .int .u64 (sub .u64 q1_3 1), .int .u64 rhat_4, .int .u64 (shr .u64 (shl .u64 p2_0 (cvt .u64 r_1)) 32), .int .u64 x_61, .int .u64 x_61, .bool (ge x_61 4294967296)] : List Value).getD i undef), by kernel_rfl, hL, hB, hm⟩
              · have hm := ite_f hm hc_40
                refine cw_skip ?_
                refine inBlock_n ?_
                exact ⟨_, rfl, ((sub .u64 q1_3 1), x_61), ⟨(fun i => ([(u_24 0), (u_24 1), (u_24 2), (u_24 3), (u_24 4), (u_24 5), (u_24 6), (u_24 7), (u_24 8), (u_24 9), (u_24 10), .bool x_60, .int .u64 q1_3, .int .u64 (sub .u64 q1_3 1), .int .u64 rhat_4, .int .u64 (shr .u64 (shl .u64 p2_0 (cvt .u64 r_1)) 32), .int .u64 x_61, .int .u64 x_61, .bool (ge x_61 4294967296)] : List Value).getD i undef), by kernel_rfl, hL, hB⟩, hm⟩
            · have hm := ite_f hm hc_39
              refine cw_exit ?_
              refine then_exit ?_
              refine then_exit ?_
              refine inBlock_same ?_
              exact then_c ⟨q1_3, (fun i => ([.int .u64 rhat_4, (u_24 0), (u_24 1), (u_24 2), (u_24 3), (u_24 4), (u_24 5), (u_24 6), (u_24 7), (u_24 8), (u_24 9), (u_24 10), .bool x_60, (u_22 12), (u_22 13), (u_22 14), (u_22 15), (u_22 16), (u_22 17), (u_22 18)] : List Value).getD i undef), by kernel_rfl, hL, hB, hm⟩
        · intro l1 w_5 hI
          obtain ⟨q1_2, u_8, rfl, hL, hB, hm⟩ := hI
          unfold m38_J3 at hm
          refine cw_seq ?_
          refine cw_region ?_
          refine wl_val (v := .int .u64 x_1) (w' := w_5) (by kernel_rfl) (run_move (v := .int .u64 x_1) (by kernel_rfl)) ?_
          refine wl_val (v := .int .u64 (mul .u64 x_1 4294967296)) (w' := w_5) (by kernel_rfl) (run_mul (k := .u64) (a := x_1) (b := 4294967296) (by kernel_rfl) (by kernel_rfl)) ?_
          refine wl_val (v := .int .u64 (shr .u64 (shl .u64 p1_0 (cvt .u64 r_1)) 32)) (w' := w_5) (by kernel_rfl) (run_move (v := .int .u64 (shr .u64 (shl .u64 p1_0 (cvt .u64 r_1)) 32)) (by kernel_rfl)) ?_
          obtain ⟨x_16, h_23, hm⟩ := bind_e hm
          refine wl_val (v := .int .u64 x_16) (w' := w_5) (by kernel_rfl) (by rw [← Option.some.inj h_23]; exact run_add (k := .u64) (a := (mul .u64 x_1 4294967296)) (b := (shr .u64 (shl .u64 p1_0 (cvt .u64 r_1)) 32)) (by kernel_rfl) (by kernel_rfl)) ?_
          refine wl_val (v := .int .u64 q1_2) (w' := w_5) (by kernel_rfl) (run_move (v := .int .u64 q1_2) (by kernel_rfl)) ?_
          refine wl_val (v := .int .u64 (shl .u64 p2_0 (cvt .u64 r_1))) (w' := w_5) (by kernel_rfl) (run_move (v := .int .u64 (shl .u64 p2_0 (cvt .u64 r_1))) (by kernel_rfl)) ?_
          refine wl_val (v := .int .u64 (mul .u64 q1_2 (shl .u64 p2_0 (cvt .u64 r_1)))) (w' := w_5) (by kernel_rfl) (run_mul (k := .u64) (a := q1_2) (b := (shl .u64 p2_0 (cvt .u64 r_1))) (by kernel_rfl) (by kernel_rfl)) ?_
          obtain ⟨x_17, h_24, hm⟩ := bind_e hm
          refine wl_val (v := .int .u64 x_17) (w' := w_5) (by kernel_rfl) (by rw [← Option.some.inj h_24]; exact run_sub (k := .u64) (a := x_16) (b := (mul .u64 q1_2 (shl .u64 p2_0 (cvt .u64 r_1)))) (by kernel_rfl) (by kernel_rfl)) ?_
          refine wl_val (v := .int .u64 x_17) (w' := w_5) (by kernel_rfl) (run_assign (v := .int .u64 x_17) (by kernel_rfl)) ?_
          refine wl_nil ?_
          refine then_n ?_
          refine cw_seq ?_
          refine cw_region ?_
          refine wl_val (v := .int .u64 x_17) (w' := w_5) (by kernel_rfl) (run_move (v := .int .u64 x_17) (by kernel_rfl)) ?_
          refine wl_val (v := .int .u64 (shr .u64 (shl .u64 p2_0 (cvt .u64 r_1)) 32)) (w' := w_5) (by kernel_rfl) (run_move (v := .int .u64 (shr .u64 (shl .u64 p2_0 (cvt .u64 r_1)) 32)) (by kernel_rfl)) ?_
          obtain ⟨h_25, hm⟩ := need_e hm
          refine wl_val (v := .int .u64 (quo .u64 x_17 (shr .u64 (shl .u64 p2_0 (cvt .u64 r_1)) 32))) (w' := w_5) (by kernel_rfl) (run_quo (k := .u64) (a := x_17) (b := (shr .u64 (shl .u64 p2_0 (cvt .u64 r_1)) 32)) (by kernel_rfl) (by kernel_rfl) (by simpa [nei] using h_25)) ?_
          refine wl_val (v := .int .u64 (quo .u64 x_17 (shr .u64 (shl .u64 p2_0 (cvt .u64 r_1)) 32))) (w' := w_5) (by kernel_rfl) (run_assign (v := .int .u64 (quo .u64 x_17 (shr .u64 (shl .u64 p2_0 (cvt .u64 r_1)) 32))) (by kernel_rfl)) ?_
          refine wl_nil ?_
          refine then_n ?_
          refine cw_norm [.int .u64 p0_0, .int .u64 p1_0, .int .u64 (shl .u64 p2_0 (cvt .u64 r_1)), undef, undef, undef, .int .u64 0, .int .u64 0, .int .u64 (cvt .u64 r_1), .int .u64 (shr .u64 (shl .u64 p2_0 (cvt .u64 r_1)) 32), .int .u64 (band .u64 (shl .u64 p2_0 (cvt .u64 r_1)) 4294967295), .int .u64 x_1, .int .u64 (shl .u64 p1_0 (cvt .u64 r_1)), .int .u64 (shr .u64 (shl .u64 p1_0 (cvt .u64 r_1)) 32), .int .u64 (band .u64 (shl .u64 p1_0 (cvt .u64 r_1)) 4294967295), .int .u64 q1_2, (u_8 0), .int .u64 x_17, .int .u64 (quo .u64 x_17 (shr .u64 (shl .u64 p2_0 (cvt .u64 r_1)) 32)), (u_1 0), (u_1 1), (u_1 2), (u_2 0), (u_2 1), (u_2 2), (u_2 3), .int .u64 p0_0, .bool (eqi p0_0 0), undef, undef, undef, undef, undef, undef, .int .u64 p2_0, .int .i64 r_1, .int .u64 (cvt .u64 r_1), .int .u64 p2_0, .int .u64 (cvt .u64 r_1), .int .u64 (shl .u64 p2_0 (cvt .u64 r_1)), .int .u64 (shl .u64 p2_0 (cvt .u64 r_1)), .int .u64 (shr .u64 (shl .u64 p2_0 (cvt .u64 r_1)) 32), .int .u64 (shl .u64 p2_0 (cvt .u64 r_1)), .int .u64 (band .u64 (shl .u64 p2_0 (cvt .u64 r_1)) 4294967295), .int .u64 p0_0, .int .u64 (cvt .u64 r_1), .int .u64 (shl .u64 p0_0 (cvt .u64 r_1)), .int .u64 p1_0, .int .u64 (cvt .u64 r_1), .int .u64 (sub .u64 64 (cvt .u64 r_1)), .int .u64 (shr .u64 p1_0 (sub .u64 64 (cvt .u64 r_1))), .int .u64 x_1, .int .u64 p1_0, .int .u64 (cvt .u64 r_1), .int .u64 (shl .u64 p1_0 (cvt .u64 r_1)), .int .u64 (shl .u64 p1_0 (cvt .u64 r_1)), .int .u64 (shr .u64 (shl .u64 p1_0 (cvt .u64 r_1)) 32), .int .u64 (shl .u64 p1_0 (cvt .u64 r_1)), .int .u64 (band .u64 (shl .u64 p1_0 (cvt .u64 r_1)) 4294967295), .int .u64 x_1, .int .u64 (shr .u64 (shl .u64 p2_0 (cvt .u64 r_1)) 32), .int .u64 (quo .u64 x_1 (shr .u64 (shl .u64 p2_0 (cvt .u64 r_1)) 32)), .int .u64 x_1, .int .u64 (quo .u64 x_1 (shr .u64 (shl .u64 p2_0 (cvt .u64 r_1)) 32)), .int .u64 (shr .u64 (shl .u64 p2_0 (cvt .u64 r_1)) 32), .int .u64 x_2, .int .u64 (sub .u64 x_1 x_2), (u_8 1), (u_8 2), (u_8 3), (u_8 4), (u_8 5), (u_8 6), (u_8 7), (u_8 8), (u_8 9), (u_8 10), (u_8 11), (u_8 12), (u_8 13), (u_8 14), (u_8 15), (u_8 16), (u_8 17), (u_8 18), (u_8 19), .int .u64 x_1, .int .u64 (mul .u64 x_1 4294967296), .int .u64 (shr .u64 (shl .u64 p1_0 (cvt .u64 r_1)) 32), .int .u64 x_16, .int .u64 q1_2, .int .u64 (shl .u64 p2_0 (cvt .u64 r_1)), .int .u64 (mul .u64 q1_2 (shl .u64 p2_0 (cvt .u64 r_1))), .int .u64 x_17, .int .u64 x_17, .int .u64 (shr .u64 (shl .u64 p2_0 (cvt .u64 r_1)) 32), .int .u64 (quo .u64 x_17 (shr .u64 (shl .u64 p2_0 (cvt .u64 r_1)) 32)), undef, undef, undef, undef, undef, undef, undef, undef, undef, undef, undef, undef, undef, undef, undef, undef, undef, undef, undef, undef, undef, undef, undef, undef, undef, undef, undef, undef, undef, undef, undef, undef, undef, undef, undef, undef, undef, undef] (by kernel_rfl) ?_
          refine cw_seq ?_
          refine cw_region ?_
          refine wl_val (v := .int .u64 x_17) (w' := w_5) (by kernel_rfl) (run_move (v := .int .u64 x_17) (by kernel_rfl)) ?_
          refine wl_val (v := .int .u64 (quo .u64 x_17 (shr .u64 (shl .u64 p2_0 (cvt .u64 r_1)) 32))) (w' := w_5) (by kernel_rfl) (run_move (v := .int .u64 (quo .u64 x_17 (shr .u64 (shl .u64 p2_0 (cvt .u64 r_1)) 32))) (by kernel_rfl)) ?_
          refine wl_val (v := .int .u64 (shr .u64 (shl .u64 p2_0 (cvt .u64 r_1)) 32)) (w' := w_5) (by kernel_rfl) (run_move (v := .int .u64 (shr .u64 (shl .u64 p2_0 (cvt .u64 r_1)) 32)) (by kernel_rfl)) ?_
          obtain ⟨x_18, h_26, hm⟩ := bind_e hm
          refine wl_val (v := .int .u64 x_18) (w' := w_5) (by kernel_rfl) (by rw [← Option.some.inj h_26]; exact run_mul (k := .u64) (a := (quo .u64 x_17 (shr .u64 (shl .u64 p2_0 (cvt .u64 r_1)) 32))) (b := (shr .u64 (shl .u64 p2_0 (cvt .u64 r_1)) 32)) (by kernel_rfl) (by kernel_rfl)) ?_
          refine wl_val (v := .int .u64 (sub .u64 x_17 x_18)) (w' := w_5) (by kernel_rfl) (run_sub (k := .u64) (a := x_17) (b := x_18) (by kernel_rfl) (by kernel_rfl)) ?_
          refine wl_val (v := .int .u64 (sub .u64 x_17 x_18)) (w' := w_5) (by kernel_rfl) (run_assign (v := .int .u64 (sub .u64 x_17 x_18)) (by kernel_rfl)) ?_
          refine wl_nil ?_
          refine then_n ?_
          refine cw_cut (fun l' w' => ∃ q0_2, ∃ u_14 : Nat → Value, l' = [.int .u64 p0_0, .int .u64 p1_0, .int .u64 (shl .u64 p2_0 (cvt .u64 r_1)), undef, undef, undef, .int .u64 0, .int .u64 0, .int .u64 (cvt .u64 r_1), .int .u64 (shr .u64 (shl .u64 p2_0 (cvt .u64 r_1)) 32), .int .u64 (band .u64 (shl .u64 p2_0 (cvt .u64 r_1)) 4294967295), .int .u64 x_1, .int .u64 (shl .u64 p1_0 (cvt .u64 r_1)), .int .u64 (shr .u64 (shl .u64 p1_0 (cvt .u64 r_1)) 32), .int .u64 (band .u64 (shl .u64 p1_0 (cvt .u64 r_1)) 4294967295), .int .u64 q1_2, (u_14 0), .int .u64 x_17, .int .u64 q0_2, (u_1 0), (u_1 1), (u_1 2), (u_2 0), (u_2 1), (u_2 2), (u_2 3), .int .u64 p0_0, .bool (eqi p0_0 0), undef, undef, undef, undef, undef, undef, .int .u64 p2_0, .int .i64 r_1, .int .u64 (cvt .u64 r_1), .int .u64 p2_0, .int .u64 (cvt .u64 r_1), .int .u64 (shl .u64 p2_0 (cvt .u64 r_1)), .int .u64 (shl .u64 p2_0 (cvt .u64 r_1)), .int .u64 (shr .u64 (shl .u64 p2_0 (cvt .u64 r_1)) 32), .int .u64 (shl .u64 p2_0 (cvt .u64 r_1)), .int .u64 (band .u64 (shl .u64 p2_0 (cvt .u64 r_1)) 4294967295), .int .u64 p0_0, .int .u64 (cvt .u64 r_1), .int .u64 (shl .u64 p0_0 (cvt .u64 r_1)), .int .u64 p1_0, .int .u64 (cvt .u64 r_1), .int .u64 (sub .u64 64 (cvt .u64 r_1)), .int .u64 (shr .u64 p1_0 (sub .u64 64 (cvt .u64 r_1))), .int .u64 x_1, .int .u64 p1_0, .int .u64 (cvt .u64 r_1), .int .u64 (shl .u64 p1_0 (cvt .u64 r_1)), .int .u64 (shl .u64 p1_0 (cvt .u64 r_1)), .int .u64 (shr .u64 (shl .u64 p1_0 (cvt .u64 r_1)) 32), .int .u64 (shl .u64 p1_0 (cvt .u64 r_1)), .int .u64 (band .u64 (shl .u64 p1_0 (cvt .u64 r_1)) 4294967295), .int .u64 x_1, .int .u64 (shr .u64 (shl .u64 p2_0 (cvt .u64 r_1)) 32), .int .u64 (quo .u64 x_1 (shr .u64 (shl .u64 p2_0 (cvt .u64 r_1)) 32)), .int .u64 x_1, .int .u64 (quo .u64 x_1 (shr .u64 (shl .u64 p2_0 (cvt .u64 r_1)) 32)), .int .u64 (shr .u64 (shl .u64 p2_0 (cvt .u64 r_1)) 32), .int .u64 x_2, .int .u64 (sub .u64 x_1 x_2), (u_8 1), (u_8 2), (u_8 3), (u_8 4), (u_8 5), (u_8 6), (u_8 7), (u_8 8), (u_8 9), (u_8 10), (u_8 11), (u_8 12), (u_8 13), (u_8 14), (u_8 15), (u_8 16), (u_8 17), (u_8 18), (u_8 19), .int .u64 x_1, .int .u64 (mul .u64 x_1 4294967296), .int .u64 (shr .u64 (shl .u64 p1_0 (cvt .u64 r_1)) 32), .int .u64 x_16, .int .u64 q1_2, .int .u64 (shl .u64 p2_0 (cvt .u64 r_1)), .int .u64 (mul .u64 q1_2 (shl .u64 p2_0 (cvt .u64 r_1))), .int .u64 x_17, .int .u64 x_17, .int .u64 (shr .u64 (shl .u64 p2_0 (cvt .u64 r_1)) 32), .int .u64 (quo .u64 x_17 (shr .u64 (shl .u64 p2_0 (cvt .u64 r_1)) 32)), .int .u64 x_17, .int .u64 (quo .u64 x_17 (shr .u64 (shl .u64 p2_0 (cvt .u64 r_1)) 32)), .int .u64 (shr .u64 (shl .u64 p2_0 (cvt .u64 r_1)) 32), .int .u64 x_18, .int .u64 (sub .u64 x_17 x_18), (u_14 1), (u_14 2), (u_14 3), (u_14 4), (u_14 5), (u_14 6), (u_14 7), (u_14 8), (u_14 9), (u_14 10), (u_14 11), (u_14 12), (u_14 13), (u_14 14), (u_14 15), (u_14 16), (u_14 17), (u_14 18), (u_14 19), undef, undef, undef, undef, undef, undef, undef, undef, undef, undef, undef, undef, undef, undef] ∧ LOk w0.heap.size [] F w' ∧ Below w0.heap.size w0 w' ∧ m38_J4 fuel p1_0 p2_0 r_1 q1_2 x_17 q0_2 = some r) ?_ ?_
          · refine cw_block ?_
            refine cw_loop (σ := Int × Int) (m38_L5 fuel p1_0 p2_0 r_1 q1_2 x_17) r (fun s l' w' => ∃ u_17 : Nat → Value, l' = [.int .u64 p0_0, .int .u64 p1_0, .int .u64 (shl .u64 p2_0 (cvt .u64 r_1)), undef, undef, undef, .int .u64 0, .int .u64 0, .int .u64 (cvt .u64 r_1), .int .u64 (shr .u64 (shl .u64 p2_0 (cvt .u64 r_1)) 32), .int .u64 (band .u64 (shl .u64 p2_0 (cvt .u64 r_1)) 4294967295), .int .u64 x_1, .int .u64 (shl .u64 p1_0 (cvt .u64 r_1)), .int .u64 (shr .u64 (shl .u64 p1_0 (cvt .u64 r_1)) 32), .int .u64 (band .u64 (shl .u64 p1_0 (cvt .u64 r_1)) 4294967295), .int .u64 q1_2, .int .u64 s.1, .int .u64 x_17, .int .u64 s.2, (u_1 0), (u_1 1), (u_1 2), (u_2 0), (u_2 1), (u_2 2), (u_2 3), .int .u64 p0_0, .bool (eqi p0_0 0), undef, undef, undef, undef, undef, undef, .int .u64 p2_0, .int .i64 r_1, .int .u64 (cvt .u64 r_1), .int .u64 p2_0, .int .u64 (cvt .u64 r_1), .int .u64 (shl .u64 p2_0 (cvt .u64 r_1)), .int .u64 (shl .u64 p2_0 (cvt .u64 r_1)), .int .u64 (shr .u64 (shl .u64 p2_0 (cvt .u64 r_1)) 32), .int .u64 (shl .u64 p2_0 (cvt .u64 r_1)), .int .u64 (band .u64 (shl .u64 p2_0 (cvt .u64 r_1)) 4294967295), .int .u64 p0_0, .int .u64 (cvt .u64 r_1), .int .u64 (shl .u64 p0_0 (cvt .u64 r_1)), .int .u64 p1_0, .int .u64 (cvt .u64 r_1), .int .u64 (sub .u64 64 (cvt .u64 r_1)), .int .u64 (shr .u64 p1_0 (sub .u64 64 (cvt .u64 r_1))), .int .u64 x_1, .int .u64 p1_0, .int .u64 (cvt .u64 r_1), .int .u64 (shl .u64 p1_0 (cvt .u64 r_1)), .int .u64 (shl .u64 p1_0 (cvt .u64 r_1)), .int .u64 (shr .u64 (shl .u64 p1_0 (cvt .u64 r_1)) 32), .int .u64 (shl .u64 p1_0 (cvt .u64 r_1)), .int .u64 (band .u64 (shl .u64 p1_0 (cvt .u64 r_1)) 4294967295), .int .u64 x_1, .int .u64 (shr .u64 (shl .u64 p2_0 (cvt .u64 r_1)) 32), .int .u64 (quo .u64 x_1 (shr .u64 (shl .u64 p2_0 (cvt .u64 r_1)) 32)), .int .u64 x_1, .int .u64 (quo .u64 x_1 (shr .u64 (shl .u64 p2_0 (cvt .u64 r_1)) 32)), .int .u64 (shr .u64 (shl .u64 p2_0 (cvt .u64 r_1)) 32), .int .u64 x_2, .int .u64 (sub .u64 x_1 x_2), (u_8 1), (u_8 2), (u_8 3), (u_8 4), (u_8 5), (u_8 6), (u_8 7), (u_8 8), (u_8 9), (u_8 10), (u_8 11), (u_8 12), (u_8 13), (u_8 14), (u_8 15), (u_8 16), (u_8 17), (u_8 18), (u_8 19), .int .u64 x_1, .int .u64 (mul .u64 x_1 4294967296), .int .u64 (shr .u64 (shl .u64 p1_0 (cvt .u64 r_1)) 32), .int .u64 x_16, .int .u64 q1_2, .int .u64 (shl .u64 p2_0 (cvt .u64 r_1)), .int .u64 (mul .u64 q1_2 (shl .u64 p2_0 (cvt .u64 r_1))), .int .u64 x_17, .int .u64 x_17, .int .u64 (shr .u64 (shl .u64 p2_0 (cvt .u64 r_1)) 32), .int .u64 (quo .u64 x_17 (shr .u64 (shl .u64 p2_0 (cvt .u64 r_1)) 32)), .int .u64 x_17, .int .u64 (quo .u64 x_17 (shr .u64 (shl .u64 p2_0 (cvt .u64 r_1)) 32)), .int .u64 (shr .u64 (shl .u64 p2_0 (cvt .u64 r_1)) 32), .int .u64 x_18, .int .u64 (sub .u64 x_17 x_18), (u_17 0), (u_17 1), (u_17 2), (u_17 3), (u_17 4), (u_17 5), (u_17 6), (u_17 7), (u_17 8), (u_17 9), (u_17 10), (u_17 11), (u_17 12), (u_17 13), (u_17 14), (u_17 15), (u_17 16), (u_17 17), (u_17 18), undef, undef, undef, undef, undef, undef, undef, undef, undef, undef, undef, undef, undef, undef] ∧ LOk w0.heap.size [] F w' ∧ Below w0.heap.size w0 w') ?_ (s := ((sub .u64 x_17 x_18), (quo .u64 x_17 (shr .u64 (shl .u64 p2_0 (cvt .u64 r_1)) 32)))) (n := fuel) ⟨(fun i => ([undef, undef, undef, undef, undef, undef, undef, undef, undef, undef, undef, undef, undef, undef, undef, undef, undef, undef, undef] : List Value).getD i undef), by kernel_rfl, hL, hB⟩ hm
            intro self_1 s l1 w_7 hI hm
            obtain ⟨rhat_3, q0_3⟩ := s
            try dsimp only at hI
            obtain ⟨u_17, rfl, hL, hB⟩ := hI
            unfold m38_L5 at hm
            refine cw_seq ?_
            refine cw_cut (fun l' w' => ∃ x_45, ∃ u_19 : Nat → Value, l' = [.int .u64 p0_0, .int .u64 p1_0, .int .u64 (shl .u64 p2_0 (cvt .u64 r_1)), undef, undef, undef, .int .u64 0, .int .u64 0, .int .u64 (cvt .u64 r_1), .int .u64 (shr .u64 (shl .u64 p2_0 (cvt .u64 r_1)) 32), .int .u64 (band .u64 (shl .u64 p2_0 (cvt .u64 r_1)) 4294967295), .int .u64 x_1, .int .u64 (shl .u64 p1_0 (cvt .u64 r_1)), .int .u64 (shr .u64 (shl .u64 p1_0 (cvt .u64 r_1)) 32), .int .u64 (band .u64 (shl .u64 p1_0 (cvt .u64 r_1)) 4294967295), .int .u64 q1_2, .int .u64 rhat_3, .int .u64 x_17, .int .u64 q0_3, (u_1 0), (u_1 1), (u_1 2), (u_2 0), (u_2 1), (u_2 2), (u_2 3), .int .u64 p0_0, .bool (eqi p0_0 0), undef, undef, undef, undef, undef, undef, .int .u64 p2_0, .int .i64 r_1, .int .u64 (cvt .u64 r_1), .int .u64 p2_0, .int .u64 (cvt .u64 r_1), .int .u64 (shl .u64 p2_0 (cvt .u64 r_1)), .int .u64 (shl .u64 p2_0 (cvt .u64 r_1)), .int .u64 (shr .u64 (shl .u64 p2_0 (cvt .u64 r_1)) 32), .int .u64 (shl .u64 p2_0 (cvt .u64 r_1)), .int .u64 (band .u64 (shl .u64 p2_0 (cvt .u64 r_1)) 4294967295), .int .u64 p0_0, .int .u64 (cvt .u64 r_1), .int .u64 (shl .u64 p0_0 (cvt .u64 r_1)), .int .u64 p1_0, .int .u64 (cvt .u64 r_1), .int .u64 (sub .u64 64 (cvt .u64 r_1)), .int .u64 (shr .u64 p1_0 (sub .u64 64 (cvt .u64 r_1))), .int .u64 x_1, .int .u64 p1_0, .int .u64 (cvt .u64 r_1), .int .u64 (shl .u64 p1_0 (cvt .u64 r_1)), .int .u64 (shl .u64 p1_0 (cvt .u64 r_1)), .int .u64 (shr .u64 (shl .u64 p1_0 (cvt .u64 r_1)) 32), .int .u64 (shl .u64 p1_0 (cvt .u64 r_1)), .int .u64 (band .u64 (shl .u64 p1_0 (cvt .u64 r_1)) 4294967295), .int .u64 x_1, .int .u64 (shr .u64 (shl .u64 p2_0 (cvt .u64 r_1)) 32), .int .u64 (quo .u64 x_1 (shr .u64 (shl .u64 p2_0 (cvt .u64 r_1)) 32)), .int .u64 x_1, .int .u64 (quo .u64 x_1 (shr .u64 (shl .u64 p2_0 (cvt .u64 r_1)) 32)), .int .u64 (shr .u64 (shl .u64 p2_0 (cvt .u64 r_1)) 32), .int .u64 x_2, .int .u64 (sub .u64 x_1 x_2), (u_8 1), (u_8 2), (u_8 3), (u_8 4), (u_8 5), (u_8 6), (u_8 7), (u_8 8), (u_8 9), (u_8 10), (u_8 11), (u_8 12), (u_8 13), (u_8 14), (u_8 15), (u_8 16), (u_8 17), (u_8 18), (u_8 19), .int .u64 x_1, .int .u64 (mul .u64 x_1 4294967296), .int .u64 (shr .u64 (shl .u64 p1_0 (cvt .u64 r_1)) 32), .int .u64 x_16, .int .u64 q1_2, .int .u64 (shl .u64 p2_0 (cvt .u64 r_1)), .int .u64 (mul .u64 q1_2 (shl .u64 p2_0 (cvt .u64 r_1))), .int .u64 x_17, .int .u64 x_17, .int .u64 (shr .u64 (shl .u64 p2_0 (cvt .u64 r_1)) 32), .int .u64 (quo .u64 x_17 (shr .u64 (shl .u64 p2_0 (cvt .u64 r_1)) 32)), .int .u64 x_17, .int .u64 (quo .u64 x_17 (shr .u64 (shl .u64 p2_0 (cvt .u64 r_1)) 32)), .int .u64 (shr .u64 (shl .u64 p2_0 (cvt .u64 r_1)) 32), .int .u64 x_18, .int .u64 (sub .u64 x_17 x_18), (u_19 0), (u_19 1), (u_19 2), (u_19 3), (u_19 4), (u_19 5), (u_19 6), (u_19 7), (u_19 8), (u_19 9), (u_19 10), .bool x_45, (u_17 12), (u_17 13), (u_17 14), (u_17 15), (u_17 16), (u_17 17), (u_17 18), undef, undef, undef, undef, undef, undef, undef, undef, undef, undef, undef, undef, undef, undef] ∧ LOk w0.heap.size [] F w' ∧ Below w0.heap.size w0 w' ∧ m38_J6 fuel p1_0 p2_0 r_1 q1_2 x_17 rhat_3 q0_3 self_1 x_45 = some r) ?_ ?_
            · refine cw_region ?_
              refine wl_val (v := .int .u64 q0_3) (w' := w_7) (by kernel_rfl) (run_move (v := .int .u64 q0_3) (by kernel_rfl)) ?_
              refine wl_val (v := .bool (ge q0_3 4294967296)) (w' := w_7) (by kernel_rfl) (run_ge (k := .u64) (a := q0_3) (b := 4294967296) (by kernel_rfl) (by kernel_rfl)) ?_
              refine wl_val (v := .bool (ge q0_3 4294967296)) (w' := w_7) (by kernel_rfl) (run_move (v := .bool (ge q0_3 4294967296)) (by kernel_rfl)) ?_
              rcases Bool.eq_false_or_eq_true (ge q0_3 4294967296) with hc_31 | hc_31
              · have hm := ite_t hm hc_31
                refine wl_not (wg (c := (ge q0_3 4294967296)) (want := false) (by kernel_rfl) hc_31 rfl) ?_
                refine wl_not (wg (c := (ge q0_3 4294967296)) (want := false) (by kernel_rfl) hc_31 rfl) ?_
                refine wl_not (wg (c := (ge q0_3 4294967296)) (want := false) (by kernel_rfl) hc_31 rfl) ?_
                refine wl_not (wg (c := (ge q0_3 4294967296)) (want := false) (by kernel_rfl) hc_31 rfl) ?_
                refine wl_not (wg (c := (ge q0_3 4294967296)) (want := false) (by kernel_rfl) hc_31 rfl) ?_
                refine wl_not (wg (c := (ge q0_3 4294967296)) (want := false) (by kernel_rfl) hc_31 rfl) ?_
                refine wl_norm [.int .u64 p0_0, .int .u64 p1_0, .int .u64 (shl .u64 p2_0 (cvt .u64 r_1)), undef, undef, undef, .int .u64 0, .int .u64 0, .int .u64 (cvt .u64 r_1), .int .u64 (shr .u64 (shl .u64 p2_0 (cvt .u64 r_1)) 32), .int .u64 (band .u64 (shl .u64 p2_0 (cvt .u64 r_1)) 4294967295), .int .u64 x_1, .int .u64 (shl .u64 p1_0 (cvt .u64 r_1)), .int .u64 (shr .u64 (shl .u64 p1_0 (cvt .u64 r_1)) 32), .int .u64 (band .u64 (shl .u64 p1_0 (cvt .u64 r_1)) 4294967295), .int .u64 q1_2, .int .u64 rhat_3, .int .u64 x_17, .int .u64 q0_3, (u_1 0), (u_1 1), (u_1 2), (u_2 0), (u_2 1), (u_2 2), (u_2 3), .int .u64 p0_0, .bool (eqi p0_0 0), undef, undef, undef, undef, undef, undef, .int .u64 p2_0, .int .i64 r_1, .int .u64 (cvt .u64 r_1), .int .u64 p2_0, .int .u64 (cvt .u64 r_1), .int .u64 (shl .u64 p2_0 (cvt .u64 r_1)), .int .u64 (shl .u64 p2_0 (cvt .u64 r_1)), .int .u64 (shr .u64 (shl .u64 p2_0 (cvt .u64 r_1)) 32), .int .u64 (shl .u64 p2_0 (cvt .u64 r_1)), .int .u64 (band .u64 (shl .u64 p2_0 (cvt .u64 r_1)) 4294967295), .int .u64 p0_0, .int .u64 (cvt .u64 r_1), .int .u64 (shl .u64 p0_0 (cvt .u64 r_1)), .int .u64 p1_0, .int .u64 (cvt .u64 r_1), .int .u64 (sub .u64 64 (cvt .u64 r_1)), .int .u64 (shr .u64 p1_0 (sub .u64 64 (cvt .u64 r_1))), .int .u64 x_1, .int .u64 p1_0, .int .u64 (cvt .u64 r_1), .int .u64 (shl .u64 p1_0 (cvt .u64 r_1)), .int .u64 (shl .u64 p1_0 (cvt .u64 r_1)), .int .u64 (shr .u64 (shl .u64 p1_0 (cvt .u64 r_1)) 32), .int .u64 (shl .u64 p1_0 (cvt .u64 r_1)), .int .u64 (band .u64 (shl .u64 p1_0 (cvt .u64 r_1)) 4294967295), .int .u64 x_1, .int .u64 (shr .u64 (shl .u64 p2_0 (cvt .u64 r_1)) 32), .int .u64 (quo .u64 x_1 (shr .u64 (shl .u64 p2_0 (cvt .u64 r_1)) 32)), .int .u64 x_1, .int .u64 (quo .u64 x_1 (shr .u64 (shl .u64 p2_0 (cvt .u64 r_1)) 32)), .int .u64 (shr .u64 (shl .u64 p2_0 (cvt .u64 r_1)) 32), .int .u64 x_2, .int .u64 (sub .u64 x_1 x_2), (u_8 1), (u_8 2), (u_8 3), (u_8 4), (u_8 5), (u_8 6), (u_8 7), (u_8 8), (u_8 9), (u_8 10), (u_8 11), (u_8 12), (u_8 13), (u_8 14), (u_8 15), (u_8 16), (u_8 17), (u_8 18), (u_8 19), .int .u64 x_1, .int .u64 (mul .u64 x_1 4294967296), .int .u64 (shr .u64 (shl .u64 p1_0 (cvt .u64 r_1)) 32), .int .u64 x_16, .int .u64 q1_2, .int .u64 (shl .u64 p2_0 (cvt .u64 r_1)), .int .u64 (mul .u64 q1_2 (shl .u64 p2_0 (cvt .u64 r_1))), .int .u64 x_17, .int .u64 x_17, .int .u64 (shr .u64 (shl .u64 p2_0 (cvt .u64 r_1)) 32), .int .u64 (quo .u64 x_17 (shr .u64 (shl .u64 p2_0 (cvt .u64 r_1)) 32)), .int .u64 x_17, .int .u64 (quo .u64 x_17 (shr .u64 (shl .u64 p2_0 (cvt .u64 r_1)) 32)), .int .u64 (shr .u64 (shl .u64 p2_0 (cvt .u64 r_1)) 32), .int .u64 x_18, .int .u64 (sub .u64 x_17 x_18), .int .u64 q0_3, .bool (ge q0_3 4294967296), .bool (ge q0_3 4294967296), undef, undef, undef, undef, undef, undef, (u_17 9), (u_17 10), (u_17 11), (u_17 12), (u_17 13), (u_17 14), (u_17 15), (u_17 16), (u_17 17), (u_17 18), undef, undef, undef, undef, undef, undef, undef, undef, undef, undef, undef, undef, undef, undef] (by kernel_rfl) ?_
                refine wl_not (wg (c := (ge q0_3 4294967296)) (want := false) (by kernel_rfl) hc_31 rfl) ?_
                refine wl_not (wg (c := (ge q0_3 4294967296)) (want := false) (by kernel_rfl) hc_31 rfl) ?_
                refine wl_val (v := .bool true) (w' := w_7) (by kernel_rfl) (run_pick_t (v := .bool true) (tr2 (c := (ge q0_3 4294967296)) (by kernel_rfl) hc_31) (by kernel_rfl)) ?_
                refine wl_nil ?_
                exact then_c ⟨true, (fun i => ([.int .u64 q0_3, .bool (ge q0_3 4294967296), .bool (ge q0_3 4294967296), undef, undef, undef, undef, undef, undef, undef, undef] : List Value).getD i undef), by kernel_rfl, hL, hB, hm⟩
              · have hm := ite_f hm hc_31
                refine wl_val (v := .int .u64 q0_3) (w' := w_7) (wg (c := (ge q0_3 4294967296)) (want := false) (by kernel_rfl) hc_31 rfl) (run_move (v := .int .u64 q0_3) (by kernel_rfl)) ?_
                refine wl_val (v := .int .u64 (band .u64 (shl .u64 p2_0 (cvt .u64 r_1)) 4294967295)) (w' := w_7) (wg (c := (ge q0_3 4294967296)) (want := false) (by kernel_rfl) hc_31 rfl) (run_move (v := .int .u64 (band .u64 (shl .u64 p2_0 (cvt .u64 r_1)) 4294967295)) (by kernel_rfl)) ?_
                obtain ⟨x_47, h_50, hm⟩ := bind_e hm
                refine wl_val (v := .int .u64 x_47) (w' := w_7) (wg (c := (ge q0_3 4294967296)) (want := false) (by kernel_rfl) hc_31 rfl) (by rw [← Option.some.inj h_50]; exact run_mul (k := .u64) (a := q0_3) (b := (band .u64 (shl .u64 p2_0 (cvt .u64 r_1)) 4294967295)) (by kernel_rfl) (by kernel_rfl)) ?_
                refine wl_val (v := .int .u64 rhat_3) (w' := w_7) (wg (c := (ge q0_3 4294967296)) (want := false) (by kernel_rfl) hc_31 rfl) (run_move (v := .int .u64 rhat_3) (by kernel_rfl)) ?_
                refine wl_val (v := .int .u64 (mul .u64 4294967296 rhat_3)) (w' := w_7) (wg (c := (ge q0_3 4294967296)) (want := false) (by kernel_rfl) hc_31 rfl) (run_mul (k := .u64) (a := 4294967296) (b := rhat_3) (by kernel_rfl) (by kernel_rfl)) ?_
                refine wl_val (v := .int .u64 (band .u64 (shl .u64 p1_0 (cvt .u64 r_1)) 4294967295)) (w' := w_7) (wg (c := (ge q0_3 4294967296)) (want := false) (by kernel_rfl) hc_31 rfl) (run_move (v := .int .u64 (band .u64 (shl .u64 p1_0 (cvt .u64 r_1)) 4294967295)) (by kernel_rfl)) ?_
                refine wl_norm [.int .u64 p0_0, .int .u64 p1_0, .int .u64 (shl .u64 p2_0 (cvt .u64 r_1)), undef, undef, undef, .int .u64 0, .int .u64 0, .int .u64 (cvt .u64 r_1), .int .u64 (shr .u64 (shl .u64 p2_0 (cvt .u64 r_1)) 32), .int .u64 (band .u64 (shl .u64 p2_0 (cvt .u64 r_1)) 4294967295), .int .u64 x_1, .int .u64 (shl .u64 p1_0 (cvt .u64 r_1)), .int .u64 (shr .u64 (shl .u64 p1_0 (cvt .u64 r_1)) 32), .int .u64 (band .u64 (shl .u64 p1_0 (cvt .u64 r_1)) 4294967295), .int .u64 q1_2, .int .u64 rhat_3, .int .u64 x_17, .int .u64 q0_3, (u_1 0), (u_1 1), (u_1 2), (u_2 0), (u_2 1), (u_2 2), (u_2 3), .int .u64 p0_0, .bool (eqi p0_0 0), undef, undef, undef, undef, undef, undef, .int .u64 p2_0, .int .i64 r_1, .int .u64 (cvt .u64 r_1), .int .u64 p2_0, .int .u64 (cvt .u64 r_1), .int .u64 (shl .u64 p2_0 (cvt .u64 r_1)), .int .u64 (shl .u64 p2_0 (cvt .u64 r_1)), .int .u64 (shr .u64 (shl .u64 p2_0 (cvt .u64 r_1)) 32), .int .u64 (shl .u64 p2_0 (cvt .u64 r_1)), .int .u64 (band .u64 (shl .u64 p2_0 (cvt .u64 r_1)) 4294967295), .int .u64 p0_0, .int .u64 (cvt .u64 r_1), .int .u64 (shl .u64 p0_0 (cvt .u64 r_1)), .int .u64 p1_0, .int .u64 (cvt .u64 r_1), .int .u64 (sub .u64 64 (cvt .u64 r_1)), .int .u64 (shr .u64 p1_0 (sub .u64 64 (cvt .u64 r_1))), .int .u64 x_1, .int .u64 p1_0, .int .u64 (cvt .u64 r_1), .int .u64 (shl .u64 p1_0 (cvt .u64 r_1)), .int .u64 (shl .u64 p1_0 (cvt .u64 r_1)), .int .u64 (shr .u64 (shl .u64 p1_0 (cvt .u64 r_1)) 32), .int .u64 (shl .u64 p1_0 (cvt .u64 r_1)), .int .u64 (band .u64 (shl .u64 p1_0 (cvt .u64 r_1)) 4294967295), .int .u64 x_1, .int .u64 (shr .u64 (shl .u64 p2_0 (cvt .u64 r_1)) 32), .int .u64 (quo .u64 x_1 (shr .u64 (shl .u64 p2_0 (cvt .u64 r_1)) 32)), .int .u64 x_1, .int .u64 (quo .u64 x_1 (shr .u64 (shl .u64 p2_0 (cvt .u64 r_1)) 32)), .int .u64 (shr .u64 (shl .u64 p2_0 (cvt .u64 r_1)) 32), .int .u64 x_2, .int .u64 (sub .u64 x_1 x_2), (u_8 1), (u_8 2), (u_8 3), (u_8 4), (u_8 5), (u_8 6), (u_8 7), (u_8 8), (u_8 9), (u_8 10), (u_8 11), (u_8 12), (u_8 13), (u_8 14), (u_8 15), (u_8 16), (u_8 17), (u_8 18), (u_8 19), .int .u64 x_1, .int .u64 (mul .u64 x_1 4294967296), .int .u64 (shr .u64 (shl .u64 p1_0 (cvt .u64 r_1)) 32), .int .u64 x_16, .int .u64 q1_2, .int .u64 (shl .u64 p2_0 (cvt .u64 r_1)), .int .u64 (mul .u64 q1_2 (shl .u64 p2_0 (cvt .u64 r_1))), .int .u64 x_17, .int .u64 x_17, .int .u64 (shr .u64 (shl .u64 p2_0 (cvt .u64 r_1)) 32), .int .u64 (quo .u64 x_17 (shr .u64 (shl .u64 p2_0 (cvt .u64 r_1)) 32)), .int .u64 x_17, .int .u64 (quo .u64 x_17 (shr .u64 (shl .u64 p2_0 (cvt .u64 r_1)) 32)), .int .u64 (shr .u64 (shl .u64 p2_0 (cvt .u64 r_1)) 32), .int .u64 x_18, .int .u64 (sub .u64 x_17 x_18), .int .u64 q0_3, .bool (ge q0_3 4294967296), .bool (ge q0_3 4294967296), .int .u64 q0_3, .int .u64 (band .u64 (shl .u64 p2_0 (cvt .u64 r_1)) 4294967295), .int .u64 x_47, .int .u64 rhat_3, .int .u64 (mul .u64 4294967296 rhat_3), .int .u64 (band .u64 (shl .u64 p1_0 (cvt .u64 r_1)) 4294967295), (u_17 9), (u_17 10), (u_17 11), (u_17 12), (u_17 13), (u_17 14), (u_17 15), (u_17 16), (u_17 17), (u_17 18), undef, undef, undef, undef, undef, undef, undef, undef, undef, undef, undef, undef, undef, undef] (by kernel_rfl) ?_
                obtain ⟨x_48, h_51, hm⟩ := bind_e hm
                refine wl_val (v := .int .u64 x_48) (w' := w_7) (wg (c := (ge q0_3 4294967296)) (want := false) (by kernel_rfl) hc_31 rfl) (by rw [← Option.some.inj h_51]; exact run_add (k := .u64) (a := (mul .u64 4294967296 rhat_3)) (b := (band .u64 (shl .u64 p1_0 (cvt .u64 r_1)) 4294967295)) (by kernel_rfl) (by kernel_rfl)) ?_
                refine wl_val (v := .bool (gt x_47 x_48)) (w' := w_7) (wg (c := (ge q0_3 4294967296)) (want := false) (by kernel_rfl) hc_31 rfl) (run_gt (k := .u64) (a := x_47) (b := x_48) (by kernel_rfl) (by kernel_rfl)) ?_
                refine wl_val (v := .bool (gt x_47 x_48)) (w' := w_7) (by kernel_rfl) (run_pick_f (v := .bool (gt x_47 x_48)) (tr2 (c := (ge q0_3 4294967296)) (by kernel_rfl) hc_31) (by kernel_rfl)) ?_
                refine wl_nil ?_
                exact then_c ⟨(gt x_47 x_48), (fun i => ([.int .u64 q0_3, .bool (ge q0_3 4294967296), .bool (ge q0_3 4294967296), .int .u64 q0_3, .int .u64 (band .u64 (shl .u64 p2_0 (cvt .u64 r_1)) 4294967295), .int .u64 x_47, .int .u64 rhat_3, .int .u64 (mul .u64 4294967296 rhat_3), .int .u64 (band .u64 (shl .u64 p1_0 (cvt .u64 r_1)) 4294967295), .int .u64 x_48, .bool (gt x_47 x_48)] : List Value).getD i undef), by kernel_rfl, hL, hB, hm⟩
            · intro l1 w_8 hI
              obtain ⟨x_45, u_19, rfl, hL, hB, hm⟩ := hI
              unfold m38_J6 at hm
              refine cw_cond (t := x_45) (by kernel_rfl) (fun hc_29 => ?_) (fun hc_29 => ?_)
              · have hm := ite_t hm hc_29
                refine cw_skip ?_
                refine then_n ?_
                refine cw_block ?_
                refine cw_seq ?_
                refine cw_region ?_
                refine wl_val (v := .int .u64 q0_3) (w' := w_8) (by kernel_rfl) (run_move (v := .int .u64 q0_3) (by kernel_rfl)) ?_
                refine wl_val (v := .int .u64 (sub .u64 q0_3 1)) (w' := w_8) (by kernel_rfl) (run_sub (k := .u64) (a := q0_3) (b := 1) (by kernel_rfl) (by kernel_rfl)) ?_
                refine wl_val (v := .int .u64 (sub .u64 q0_3 1)) (w' := w_8) (by kernel_rfl) (run_assign (v := .int .u64 (sub .u64 q0_3 1)) (by kernel_rfl)) ?_
                refine wl_nil ?_
                refine then_n ?_
                refine cw_seq ?_
                refine cw_region ?_
                refine wl_val (v := .int .u64 rhat_3) (w' := w_8) (by kernel_rfl) (run_move (v := .int .u64 rhat_3) (by kernel_rfl)) ?_
                refine wl_val (v := .int .u64 (shr .u64 (shl .u64 p2_0 (cvt .u64 r_1)) 32)) (w' := w_8) (by kernel_rfl) (run_move (v := .int .u64 (shr .u64 (shl .u64 p2_0 (cvt .u64 r_1)) 32)) (by kernel_rfl)) ?_
                obtain ⟨x_46, h_49, hm⟩ := bind_e hm
                refine wl_val (v := .int .u64 x_46) (w' := w_8) (by kernel_rfl) (by rw [← Option.some.inj h_49]; exact run_add (k := .u64) (a := rhat_3) (b := (shr .u64 (shl .u64 p2_0 (cvt .u64 r_1)) 32)) (by kernel_rfl) (by kernel_rfl)) ?_
                refine wl_val (v := .int .u64 x_46) (w' := w_8) (by kernel_rfl) (run_assign (v := .int .u64 x_46) (by kernel_rfl)) ?_
                refine wl_nil ?_
                refine then_n ?_
                refine cw_seq ?_
                refine cw_region ?_
                refine wl_val (v := .int .u64 x_46) (w' := w_8) (by kernel_rfl) (run_move (v := .int .u64 x_46) (by kernel_rfl)) ?_
                refine wl_val (v := .bool (ge x_46 4294967296)) (w' := w_8) (by kernel_rfl) (run_ge (k := .u64) (a := x_46) (b := 4294967296) (by kernel_rfl) (by kernel_rfl)) ?_
                refine wl_nil ?_
                refine then_n ?_
                refine cw_cond (t := (ge x_46 4294967296)) (by kernel_rfl) (fun hc_30 => ?_) (fun hc_30 => ?_)
                · have hm := ite_t hm hc_30
                  refine cw_exit ?_
                  refine inBlock_other rfl ?_
                  refine then_exit ?_
                  refine inBlock_same ?_
                  exact then_c ⟨(sub .u64 q0_3 1), (fun i => ([.int .u64 x_46, (u_19 0), (u_19 1), (u_19 2), (u_19 3), (u_19 4), (u_19 5), (u_19 6), (u_19 7), (u_19 8), (u_19 9), (u_19 10), .bool x_45, .int .u64 q0_3, .int .u64 (sub .u64 q0_3 1), .int .u64 rhat_3, .int .u64 (shr .u64 (shl .u64 p2_0 (cvt .u64 r_1)) 32), .int .u64 x_46, .int .u64 x_46, .bool (ge x_46 4294967296)] : List Value).getD i undef), by kernel_rfl, hL, hB, hm⟩
                · have hm := ite_f hm hc_30
                  refine cw_skip ?_
                  refine inBlock_n ?_
                  exact ⟨_, rfl, (x_46, (sub .u64 q0_3 1)), ⟨(fun i => ([(u_19 0), (u_19 1), (u_19 2), (u_19 3), (u_19 4), (u_19 5), (u_19 6), (u_19 7), (u_19 8), (u_19 9), (u_19 10), .bool x_45, .int .u64 q0_3, .int .u64 (sub .u64 q0_3 1), .int .u64 rhat_3, .int .u64 (shr .u64 (shl .u64 p2_0 (cvt .u64 r_1)) 32), .int .u64 x_46, .int .u64 x_46, .bool (ge x_46 4294967296)] : List Value).getD i undef), by kernel_rfl, hL, hB⟩, hm⟩
              · have hm := ite_f hm hc_29
                refine cw_exit ?_
                refine then_exit ?_
                refine then_exit ?_
                refine inBlock_same ?_
                exact then_c ⟨q0_3, (fun i => ([.int .u64 rhat_3, (u_19 0), (u_19 1), (u_19 2), (u_19 3), (u_19 4), (u_19 5), (u_19 6), (u_19 7), (u_19 8), (u_19 9), (u_19 10), .bool x_45, (u_17 12), (u_17 13), (u_17 14), (u_17 15), (u_17 16), (u_17 17), (u_17 18)] : List Value).getD i undef), by kernel_rfl, hL, hB, hm⟩
          · intro l1 w_6 hI
            obtain ⟨q0_2, u_14, rfl, hL, hB, hm⟩ := hI
            unfold m38_J4 at hm
            refine cw_seq ?_
            refine cw_region ?_
            refine wl_val (v := .int .u64 q1_2) (w' := w_6) (by kernel_rfl) (run_move (v := .int .u64 q1_2) (by kernel_rfl)) ?_
            refine wl_val (v := .int .u64 (mul .u64 q1_2 4294967296)) (w' := w_6) (by kernel_rfl) (run_mul (k := .u64) (a := q1_2) (b := 4294967296) (by kernel_rfl) (by kernel_rfl)) ?_
            refine wl_val (v := .int .u64 q0_2) (w' := w_6) (by kernel_rfl) (run_move (v := .int .u64 q0_2) (by kernel_rfl)) ?_
            refine wl_val (v := .int .u64 (add .u64 (mul .u64 q1_2 4294967296) q0_2)) (w' := w_6) (by kernel_rfl) (run_add (k := .u64) (a := (mul .u64 q1_2 4294967296)) (b := q0_2) (by kernel_rfl) (by kernel_rfl)) ?_
            refine wl_val (v := .int .u64 x_17) (w' := w_6) (by kernel_rfl) (run_move (v := .int .u64 x_17) (by kernel_rfl)) ?_
            refine wl_val (v := .int .u64 (mul .u64 x_17 4294967296)) (w' := w_6) (by kernel_rfl) (run_mul (k := .u64) (a := x_17) (b := 4294967296) (by kernel_rfl) (by kernel_rfl)) ?_
            refine wl_val (v := .int .u64 (band .u64 (shl .u64 p1_0 (cvt .u64 r_1)) 4294967295)) (w' := w_6) (by kernel_rfl) (run_move (v := .int .u64 (band .u64 (shl .u64 p1_0 (cvt .u64 r_1)) 4294967295)) (by kernel_rfl)) ?_
            obtain ⟨x_32, h_37, hm⟩ := bind_e hm
            refine wl_val (v := .int .u64 x_32) (w' := w_6) (by kernel_rfl) (by rw [← Option.some.inj h_37]; exact run_add (k := .u64) (a := (mul .u64 x_17 4294967296)) (b := (band .u64 (shl .u64 p1_0 (cvt .u64 r_1)) 4294967295)) (by kernel_rfl) (by kernel_rfl)) ?_
            refine wl_val (v := .int .u64 q0_2) (w' := w_6) (by kernel_rfl) (run_move (v := .int .u64 q0_2) (by kernel_rfl)) ?_
            refine wl_val (v := .int .u64 (shl .u64 p2_0 (cvt .u64 r_1))) (w' := w_6) (by kernel_rfl) (run_move (v := .int .u64 (shl .u64 p2_0 (cvt .u64 r_1))) (by kernel_rfl)) ?_
            refine wl_val (v := .int .u64 (mul .u64 q0_2 (shl .u64 p2_0 (cvt .u64 r_1)))) (w' := w_6) (by kernel_rfl) (run_mul (k := .u64) (a := q0_2) (b := (shl .u64 p2_0 (cvt .u64 r_1))) (by kernel_rfl) (by kernel_rfl)) ?_
            obtain ⟨x_33, h_38, hm⟩ := bind_e hm
            refine wl_val (v := .int .u64 x_33) (w' := w_6) (by kernel_rfl) (by rw [← Option.some.inj h_38]; exact run_sub (k := .u64) (a := x_32) (b := (mul .u64 q0_2 (shl .u64 p2_0 (cvt .u64 r_1)))) (by kernel_rfl) (by kernel_rfl)) ?_
            refine wl_val (v := .int .u64 (cvt .u64 r_1)) (w' := w_6) (by kernel_rfl) (run_move (v := .int .u64 (cvt .u64 r_1)) (by kernel_rfl)) ?_
            obtain ⟨h_39, hm⟩ := need_e hm
            refine wl_val (v := .int .u64 (shr .u64 x_33 (cvt .u64 r_1))) (w' := w_6) (by kernel_rfl) (run_shr (k := .u64) (a := x_33) (k' := .u64) (b := (cvt .u64 r_1)) (by kernel_rfl) (by kernel_rfl) h_39) ?_
            refine wl_norm [.int .u64 p0_0, .int .u64 p1_0, .int .u64 (shl .u64 p2_0 (cvt .u64 r_1)), undef, undef, undef, .int .u64 0, .int .u64 0, .int .u64 (cvt .u64 r_1), .int .u64 (shr .u64 (shl .u64 p2_0 (cvt .u64 r_1)) 32), .int .u64 (band .u64 (shl .u64 p2_0 (cvt .u64 r_1)) 4294967295), .int .u64 x_1, .int .u64 (shl .u64 p1_0 (cvt .u64 r_1)), .int .u64 (shr .u64 (shl .u64 p1_0 (cvt .u64 r_1)) 32), .int .u64 (band .u64 (shl .u64 p1_0 (cvt .u64 r_1)) 4294967295), .int .u64 q1_2, (u_14 0), .int .u64 x_17, .int .u64 q0_2, (u_1 0), (u_1 1), (u_1 2), (u_2 0), (u_2 1), (u_2 2), (u_2 3), .int .u64 p0_0, .bool (eqi p0_0 0), undef, undef, undef, undef, undef, undef, .int .u64 p2_0, .int .i64 r_1, .int .u64 (cvt .u64 r_1), .int .u64 p2_0, .int .u64 (cvt .u64 r_1), .int .u64 (shl .u64 p2_0 (cvt .u64 r_1)), .int .u64 (shl .u64 p2_0 (cvt .u64 r_1)), .int .u64 (shr .u64 (shl .u64 p2_0 (cvt .u64 r_1)) 32), .int .u64 (shl .u64 p2_0 (cvt .u64 r_1)), .int .u64 (band .u64 (shl .u64 p2_0 (cvt .u64 r_1)) 4294967295), .int .u64 p0_0, .int .u64 (cvt .u64 r_1), .int .u64 (shl .u64 p0_0 (cvt .u64 r_1)), .int .u64 p1_0, .int .u64 (cvt .u64 r_1), .int .u64 (sub .u64 64 (cvt .u64 r_1)), .int .u64 (shr .u64 p1_0 (sub .u64 64 (cvt .u64 r_1))), .int .u64 x_1, .int .u64 p1_0, .int .u64 (cvt .u64 r_1), .int .u64 (shl .u64 p1_0 (cvt .u64 r_1)), .int .u64 (shl .u64 p1_0 (cvt .u64 r_1)), .int .u64 (shr .u64 (shl .u64 p1_0 (cvt .u64 r_1)) 32), .int .u64 (shl .u64 p1_0 (cvt .u64 r_1)), .int .u64 (band .u64 (shl .u64 p1_0 (cvt .u64 r_1)) 4294967295), .int .u64 x_1, .int .u64 (shr .u64 (shl .u64 p2_0 (cvt .u64 r_1)) 32), .int .u64 (quo .u64 x_1 (shr .u64 (shl .u64 p2_0 (cvt .u64 r_1)) 32)), .int .u64 x_1, .int .u64 (quo .u64 x_1 (shr .u64 (shl .u64 p2_0 (cvt .u64 r_1)) 32)), .int .u64 (shr .u64 (shl .u64 p2_0 (cvt .u64 r_1)) 32), .int .u64 x_2, .int .u64 (sub .u64 x_1 x_2), (u_8 1), (u_8 2), (u_8 3), (u_8 4), (u_8 5), (u_8 6), (u_8 7), (u_8 8), (u_8 9), (u_8 10), (u_8 11), (u_8 12), (u_8 13), (u_8 14), (u_8 15), (u_8 16), (u_8 17), (u_8 18), (u_8 19), .int .u64 x_1, .int .u64 (mul .u64 x_1 4294967296), .int .u64 (shr .u64 (shl .u64 p1_0 (cvt .u64 r_1)) 32), .int .u64 x_16, .int .u64 q1_2, .int .u64 (shl .u64 p2_0 (cvt .u64 r_1)), .int .u64 (mul .u64 q1_2 (shl .u64 p2_0 (cvt .u64 r_1))), .int .u64 x_17, .int .u64 x_17, .int .u64 (shr .u64 (shl .u64 p2_0 (cvt .u64 r_1)) 32), .int .u64 (quo .u64 x_17 (shr .u64 (shl .u64 p2_0 (cvt .u64 r_1)) 32)), .int .u64 x_17, .int .u64 (quo .u64 x_17 (shr .u64 (shl .u64 p2_0 (cvt .u64 r_1)) 32)), .int .u64 (shr .u64 (shl .u64 p2_0 (cvt .u64 r_1)) 32), .int .u64 x_18, .int .u64 (sub .u64 x_17 x_18), (u_14 1), (u_14 2), (u_14 3), (u_14 4), (u_14 5), (u_14 6), (u_14 7), (u_14 8), (u_14 9), (u_14 10), (u_14 11), (u_14 12), (u_14 13), (u_14 14), (u_14 15), (u_14 16), (u_14 17), (u_14 18), (u_14 19), .int .u64 q1_2, .int .u64 (mul .u64 q1_2 4294967296), .int .u64 q0_2, .int .u64 (add .u64 (mul .u64 q1_2 4294967296) q0_2), .int .u64 x_17, .int .u64 (mul .u64 x_17 4294967296), .int .u64 (band .u64 (shl .u64 p1_0 (cvt .u64 r_1)) 4294967295), .int .u64 x_32, .int .u64 q0_2, .int .u64 (shl .u64 p2_0 (cvt .u64 r_1)), .int .u64 (mul .u64 q0_2 (shl .u64 p2_0 (cvt .u64 r_1))), .int .u64 x_33, .int .u64 (cvt .u64 r_1), .int .u64 (shr .u64 x_33 (cvt .u64 r_1))] (by kernel_rfl) ?_
            refine wl_val (v := .int .u64 (add .u64 (mul .u64 q1_2 4294967296) q0_2)) (w' := w_6) (by kernel_rfl) (run_assign (v := .int .u64 (add .u64 (mul .u64 q1_2 4294967296) q0_2)) (by kernel_rfl)) ?_
            refine wl_val (v := .int .u64 (shr .u64 x_33 (cvt .u64 r_1))) (w' := w_6) (by kernel_rfl) (run_assign (v := .int .u64 (shr .u64 x_33 (cvt .u64 r_1))) (by kernel_rfl)) ?_
            refine wl_nil ?_
            refine then_n ?_
            refine cw_ret ?_
            obtain rfl := Option.some.inj hm
            exact ret2 (v := .int .u64 (add .u64 (mul .u64 q1_2 4294967296) q0_2)) (v' := .int .u64 (shr .u64 x_33 (cvt .u64 r_1))) rfl (resv_tmp (by kernel_rfl)) (resv_tmp (by kernel_rfl)) ⟨_, rfl, by kernel_rfl, hB⟩
end SxYtihfogahdofdmaaDoor

end

section
/- Plain laws: products of two words, quotients by a small number. -/
namespace SxYtihfogahdofdmaaDoor
open Go Sx
theorem wu64 (x : Int) : IntKind.u64.wrap x = x % 18446744073709551616 := by
  simp only [IntKind.wrap, IntKind.signed, IntKind.bits]
  simp
theorem wu64' {x : Int} (h1 : 0 ≤ x) (h2 : x < 18446744073709551616) : IntKind.u64.wrap x = x := by rw [wu64]; omega
theorem band_lo {x : Int} (h1 : 0 ≤ x) (h2 : x < 18446744073709551616) : band .u64 x 4294967295 = x % 4294967296 := by
  obtain ⟨n, rfl⟩ := Int.eq_ofNat_of_zero_le h1
  have e : (BitVec.ofInt 64 (n : Int) &&& BitVec.ofInt 64 4294967295).toNat = n % 4294967296 := by
    rw [BitVec.toNat_and]
    have a1 : (BitVec.ofInt 64 (n : Int)).toNat = n := by simp [BitVec.toNat_ofInt]; omega
    have a2 : (BitVec.ofInt 64 4294967295).toNat = 2 ^ 32 - 1 := by decide
    rw [a1, a2, Nat.and_two_pow_sub_one_eq_mod]
  show IntKind.u64.wrap ((BitVec.ofInt 64 (n : Int) &&& BitVec.ofInt 64 4294967295).toNat : Int) = _
  rw [e, wu64' (by omega) (by omega)]
  omega
theorem shr_k {x : Int} (k : Nat) (hk : k ≤ 64) : shr .u64 x (k : Int) = x / 2 ^ k := by
  unfold shr
  simp only [IntKind.bits, Int.toNat_natCast, Nat.min_eq_left hk]
  rw [Int.fdiv_eq_ediv_of_nonneg _ (Int.le_of_lt (Int.pow_pos (by decide)))]
theorem shr_32 {x : Int} (_ : 0 ≤ x) : shr .u64 x 32 = x / 4294967296 := shr_k 32 (by decide)
theorem mul_b {a b : Int} (A B C : Int) (hC : A * B = C) (ha : 0 ≤ a ∧ a ≤ A) (hb : 0 ≤ b ∧ b ≤ B) : 0 ≤ a * b ∧ a * b ≤ C := by
  subst hC
  exact ⟨Int.mul_nonneg ha.1 hb.1, Int.mul_le_mul ha.2 hb.2 hb.1 (by omega)⟩
theorem m36_eq {x y : Int} (hx : 0 ≤ x) (hx' : x < 18446744073709551616) (hy : 0 ≤ y) (hy' : y < 18446744073709551616) :
    m36 64 x y = some (x * y / 18446744073709551616, x * y % 18446744073709551616) := by
  unfold m36
  simp only [band_lo hx hx', band_lo hy hy', shr_32 hx, shr_32 hy, Option.bind_some]
  have bA := mul_b (a := x % 4294967296) (b := y % 4294967296) 4294967295 4294967295 18446744065119617025 (by decide) (by omega) (by omega)
  have bB := mul_b (a := x / 4294967296) (b := y % 4294967296) 4294967295 4294967295 18446744065119617025 (by decide) (by omega) (by omega)
  have bC := mul_b (a := x % 4294967296) (b := y / 4294967296) 4294967295 4294967295 18446744065119617025 (by decide) (by omega) (by omega)
  have bD := mul_b (a := x / 4294967296) (b := y / 4294967296) 4294967295 4294967295 18446744065119617025 (by decide) (by omega) (by omega)
  have hxy : x * y = (x / 4294967296 * (y / 4294967296)) * 18446744073709551616 + (x / 4294967296 * (y % 4294967296) + x % 4294967296 * (y / 4294967296)) * 4294967296 + x % 4294967296 * (y % 4294967296) := by
    have e1 : x = 4294967296 * (x / 4294967296) + x % 4294967296 := by omega
    have e2 : y = 4294967296 * (y / 4294967296) + y % 4294967296 := by omega
    generalize x / 4294967296 = x1 at *
    generalize x % 4294967296 = x0 at *
    generalize y / 4294967296 = y1 at *
    generalize y % 4294967296 = y0 at *
    subst e1 e2
    grind
  unfold add mul
  rw [hxy]
  generalize x % 4294967296 * (y % 4294967296) = A at *
  generalize x / 4294967296 * (y % 4294967296) = B at *
  generalize x % 4294967296 * (y / 4294967296) = C at *
  generalize x / 4294967296 * (y / 4294967296) = D at *
  rw [wu64' (x := A) (by omega) (by omega), wu64' (x := B) (by omega) (by omega), wu64' (x := C) (by omega) (by omega), wu64' (x := D) (by omega) (by omega)]
  rw [shr_32 (x := A) (by omega)]
  rw [wu64' (x := B + A / 4294967296) (by omega) (by omega), band_lo (by omega) (by omega), shr_32 (by omega)]
  rw [wu64' (x := (B + A / 4294967296) % 4294967296 + C) (by omega) (by omega), shr_32 (by omega)]
  rw [wu64' (x := D + (B + A / 4294967296) / 4294967296) (by omega) (by omega)]
  rw [wu64' (x := D + (B + A / 4294967296) / 4294967296 + _) (by omega) (by omega), wu64]
  congr 2
  omega
end SxYtihfogahdofdmaaDoor

end

section
/- Plain laws: how many bits a number has; quotients of two words by a small number. -/
namespace SxYtihfogahdofdmaaDoor
open Go Sx
def len8 : List UInt8 := [0, 1, 2, 2, 3, 3, 3, 3, 4, 4, 4, 4, 4, 4, 4, 4, 5, 5, 5, 5, 5, 5, 5, 5, 5, 5, 5, 5, 5, 5, 5, 5, 6, 6, 6, 6, 6, 6, 6, 6, 6, 6, 6, 6, 6, 6, 6, 6, 6, 6, 6, 6, 6, 6, 6, 6, 6, 6, 6, 6, 6, 6, 6, 6, 7, 7, 7, 7, 7, 7, 7, 7, 7, 7, 7, 7, 7, 7, 7, 7, 7, 7, 7, 7, 7, 7, 7, 7, 7, 7, 7, 7, 7, 7, 7, 7, 7, 7, 7, 7, 7, 7, 7, 7, 7, 7, 7, 7, 7, 7, 7, 7, 7, 7, 7, 7, 7, 7, 7, 7, 7, 7, 7, 7, 7, 7, 7, 7, 8, 8, 8, 8, 8, 8, 8, 8, 8, 8, 8, 8, 8, 8, 8, 8, 8, 8, 8, 8, 8, 8, 8, 8, 8, 8, 8, 8, 8, 8, 8, 8, 8, 8, 8, 8, 8, 8, 8, 8, 8, 8, 8, 8, 8, 8, 8, 8, 8, 8, 8, 8, 8, 8, 8, 8, 8, 8, 8, 8, 8, 8, 8, 8, 8, 8, 8, 8, 8, 8, 8, 8, 8, 8, 8, 8, 8, 8, 8, 8, 8, 8, 8, 8, 8, 8, 8, 8, 8, 8, 8, 8, 8, 8, 8, 8, 8, 8, 8, 8, 8, 8, 8, 8, 8, 8, 8, 8, 8, 8, 8, 8, 8, 8, 8, 8, 8, 8, 8, 8, 8, 8, 8, 8, 8, 8, 8, 8]
set_option maxRecDepth 10000 in
theorem len8_spec : ∀ x : Fin 256, ∃ c, len8[x.val]? = some c ∧ c.toNat ≤ 8 ∧ x.val < 2 ^ c.toNat ∧ (x.val = 0 ∨ 2 ^ c.toNat ≤ 2 * x.val) := by
  have h : (List.finRange 256).all (fun x => match len8[x.val]? with | some c => decide (c.toNat ≤ 8 ∧ x.val < 2 ^ c.toNat ∧ (x.val = 0 ∨ 2 ^ c.toNat ≤ 2 * x.val)) | none => false) = true := by decide +kernel
  intro x
  have hx := List.all_eq_true.1 h x (List.mem_finRange x)
  split at hx
  · rename_i c hc
    exact ⟨c, hc, of_decide_eq_true hx⟩
  · cases hx
theorem m74_J3_eq {x n : Int} (h1 : 0 ≤ x) (h2 : x < 256) (hn : 0 ≤ n) (hn' : n ≤ 100) : ∃ c : Nat, m74_J3 64 x n = some (n + c) ∧ c ≤ 8 ∧ x < 2 ^ c ∧ (x = 0 ∨ (2 : Int) ^ c ≤ 2 * x) := by
  obtain ⟨m, rfl⟩ := Int.eq_ofNat_of_zero_le h1
  obtain ⟨c, h3, h4, h5, h6⟩ := len8_spec ⟨m, by omega⟩
  refine ⟨c.toNat, ?_, h4, ?_, ?_⟩
  · have e1 : cvt .u8 (m : Int) = m := wrapu8 (by omega) (by omega)
    have e2 : at? len8 (m : Int) = some c := by
      unfold at?
      rw [if_pos (by omega)]
      exact h3
    show ((at? len8 (cvt .u8 (m : Int))).bind fun b_1 => some (add .i64 n (cvt .i64 (b_1.toNat : Int)))) = _
    rw [e1, e2]
    simp only [Option.bind_some]
    rw [cvt64 (by omega) (by omega)]
    unfold add
    rw [wrap64 (by omega) (by omega)]
  · have : ((m : Nat) : Int) < ((2 ^ c.toNat : Nat) : Int) := by exact_mod_cast h5
    simpa using this
  · rcases h6 with h6 | h6
    · left; simp at h6; omega
    · right
      have : ((2 ^ c.toNat : Nat) : Int) ≤ ((2 * m : Nat) : Int) := by exact_mod_cast h6
      simpa using this
/-- the bits of a number below 2^32 -/
theorem m74_eq {y : Int} (h1 : 1 ≤ y) (h2 : y < 4294967296) : ∃ n : Nat, m74 64 y = some (n : Int) ∧ n ≤ 32 ∧ y < 2 ^ n ∧ (2 : Int) ^ n ≤ 2 * y := by
  have e0 : ge y 4294967296 = false := decide_eq_false (by omega)
  unfold m74
  simp only [e0, Bool.false_eq_true, if_false, m74_J1]
  have p8 : (2 : Int) ^ 8 = 256 := by decide
  have p16 : (2 : Int) ^ 16 = 65536 := by decide
  by_cases q1 : 65536 ≤ y
  · have e1 : ge y 65536 = true := decide_eq_true (by omega)
    have e2 : shr .u64 y 16 = y / 65536 := by have := shr_k (x := y) 16 (by decide); rw [p16] at this; exact this
    have e3 : add .i64 0 16 = 16 := by kernel_rfl
    simp only [e1, if_true, e2, e3, m74_J2]
    by_cases q2 : 256 ≤ y / 65536
    · have e4 : ge (y / 65536) 256 = true := decide_eq_true (by omega)
      have e5 : shr .u64 (y / 65536) 8 = y / 65536 / 256 := by have := shr_k (x := y / 65536) 8 (by decide); rw [p8] at this; exact this
      have e6 : add .i64 16 8 = 24 := by kernel_rfl
      simp only [e4, if_true, e5, e6]
      obtain ⟨c, h3, h4, h5, h6⟩ := m74_J3_eq (x := y / 65536 / 256) (n := 24) (by omega) (by omega) (by omega) (by omega)
      refine ⟨24 + c, by rw [h3]; simp, by omega, ?_, ?_⟩
      · rw [Int.pow_add, show (2 : Int) ^ 24 = 16777216 by decide]; omega
      · rw [Int.pow_add, show (2 : Int) ^ 24 = 16777216 by decide]; omega
    · have e4 : ge (y / 65536) 256 = false := decide_eq_false (by omega)
      simp only [e4, Bool.false_eq_true, if_false]
      obtain ⟨c, h3, h4, h5, h6⟩ := m74_J3_eq (x := y / 65536) (n := 16) (by omega) (by omega) (by omega) (by omega)
      refine ⟨16 + c, by rw [h3]; simp, by omega, ?_, ?_⟩
      · rw [Int.pow_add, p16]; omega
      · rw [Int.pow_add, p16]; omega
  · have e1 : ge y 65536 = false := decide_eq_false (by omega)
    simp only [e1, Bool.false_eq_true, if_false, m74_J2]
    by_cases q2 : 256 ≤ y
    · have e4 : ge y 256 = true := decide_eq_true (by omega)
      have e5 : shr .u64 y 8 = y / 256 := by have := shr_k (x := y) 8 (by decide); rw [p8] at this; exact this
      have e6 : add .i64 0 8 = 8 := by kernel_rfl
      simp only [e4, if_true, e5, e6]
      obtain ⟨c, h3, h4, h5, h6⟩ := m74_J3_eq (x := y / 256) (n := 8) (by omega) (by omega) (by omega) (by omega)
      refine ⟨8 + c, by rw [h3]; simp, by omega, ?_, ?_⟩
      · rw [Int.pow_add, p8]; omega
      · rw [Int.pow_add, p8]; omega
    · have e4 : ge y 256 = false := decide_eq_false (by omega)
      simp only [e4, Bool.false_eq_true, if_false]
      obtain ⟨c, h3, h4, h5, h6⟩ := m74_J3_eq (x := y) (n := 0) (by omega) (by omega) (by omega) (by omega)
      refine ⟨c, by rw [h3]; simp, by omega, h5, ?_⟩
      omega
end SxYtihfogahdofdmaaDoor

end

section
/- Plain laws: quotients of two words by a number of at most 32 bits. -/
namespace SxYtihfogahdofdmaaDoor
open Go Sx
theorem m61_eq {y : Int} (h1 : 1 ≤ y) (h2 : y < 4294967296) : ∃ n : Nat, m61 64 y = some (((64 - n : Nat)) : Int) ∧ n ≤ 32 ∧ y < 2 ^ n ∧ (2 : Int) ^ n ≤ 2 * y := by
  obtain ⟨n, h3, h4, h5, h6⟩ := m74_eq h1 h2
  refine ⟨n, ?_, h4, h5, h6⟩
  unfold m61
  rw [h3]
  simp only [Option.bind_some]
  unfold sub
  rw [wrap64 (by omega) (by omega)]
  congr 1
  omega
theorem shl_k {x : Int} (k : Nat) (hk : k ≤ 64) : shl .u64 x (k : Int) = (x * 2 ^ k) % 18446744073709551616 := by
  unfold shl
  simp only [IntKind.bits, Int.toNat_natCast, Nat.min_eq_left hk]
  exact wu64 _
theorem cvtu (x : Int) : cvt .u64 x = x % 18446744073709551616 := wu64 x
theorem ofInt_nat {N : Nat} (h : (N : Int) < 18446744073709551616) : (BitVec.ofInt 64 (N : Int)).toNat = N := by simp; omega
theorem bor_add {a b : Int} (k : Nat) (ha : 0 ≤ a) (hb : 0 ≤ b) (hb' : b < 2 ^ k) (hs : a * 2 ^ k + b < 18446744073709551616) : bor .u64 (a * 2 ^ k) b = a * 2 ^ k + b := by
  obtain ⟨m, rfl⟩ := Int.eq_ofNat_of_zero_le ha
  obtain ⟨n, rfl⟩ := Int.eq_ofNat_of_zero_le hb
  have hc : ((m : Int) * 2 ^ k) = ((m * 2 ^ k : Nat) : Int) := by simp
  have hn : n < 2 ^ k := by exact_mod_cast hb'
  have hs' : ((m * 2 ^ k : Nat) : Int) + (n : Int) < 18446744073709551616 := by rw [← hc]; exact hs
  have e : (BitVec.ofInt 64 ((m * 2 ^ k : Nat) : Int) ||| BitVec.ofInt 64 (n : Int)).toNat = m * 2 ^ k + n := by
    rw [BitVec.toNat_or]
    have a1 := ofInt_nat (N := m * 2 ^ k) (by omega)
    have a2 := ofInt_nat (N := n) (by omega)
    rw [a1, a2, ← Nat.shiftLeft_eq, Nat.shiftLeft_add_eq_or_of_lt hn]
  rw [hc]
  show IntKind.u64.wrap ((BitVec.ofInt 64 ((m * 2 ^ k : Nat) : Int) ||| BitVec.ofInt 64 (n : Int)).toNat : Int) = _
  rw [e, wu64' (by omega) (by omega)]
  simp
theorem quou {a b : Int} (ha : 0 ≤ a) (ha' : a < 18446744073709551616) (hb : 0 < b) : quo .u64 a b = a / b := by
  unfold quo
  rw [Int.tdiv_eq_ediv_of_nonneg ha, wu64' (Int.ediv_nonneg ha (by omega))]
  exact Int.lt_of_le_of_lt (Int.ediv_le_self b ha) ha'
theorem remu {a b : Int} (ha : 0 ≤ a) : rem a b = a % b := by
  unfold rem
  rw [Int.tmod_eq_emod_of_nonneg ha]
theorem loopF64 {σ R : Type} (F : (σ → Option R) → σ → Option R) (s : σ) : loopF F 64 s = F (loopF F 63) s := rfl
set_option maxHeartbeats 4000000 in
theorem m38_eq {hi lo y : Int} (h1 : 1 ≤ y) (h2 : y < 4294967296) (hh : 0 ≤ hi) (hhy : hi < y) (hl : 0 ≤ lo) (hl' : lo < 18446744073709551616) :
    m38 64 hi lo y = some ((hi * 18446744073709551616 + lo) / y, (hi * 18446744073709551616 + lo) % y) := by
  have e0 : eqi y 0 = false := by simp [eqi]; omega
  have e1 : le y hi = false := decide_eq_false (by omega)
  have e2 : nei y 0 = true := by simp [nei]; omega
  unfold m38
  simp only [e0, Bool.false_eq_true, if_false, m38_J1, e1, m38_J2]
  by_cases hz : hi = 0
  · subst hz
    have e3 : eqi 0 0 = true := rfl
    simp only [e3, if_true, need, e2, quou hl hl' (by omega : 0 < y), remu hl]
    simp
  · have e3 : eqi hi 0 = false := by simp [eqi]; omega
    obtain ⟨n, hs, hn, hy1, hy2⟩ := m61_eq h1 h2
    simp only [e3, Bool.false_eq_true, if_false, hs, Option.bind_some]
    -- the shift
    have es : cvt .u64 (((64 - n : Nat)) : Int) = ((64 - n : Nat) : Int) := by rw [cvtu]; omega
    have et : sub .u64 64 ((64 - n : Nat) : Int) = ((n : Nat) : Int) := by
      unfold sub
      rw [wu64' (by omega) (by omega)]
      omega
    have g1 : ge ((64 - n : Nat) : Int) 0 = true := decide_eq_true (by omega)
    have g2 : ge ((n : Nat) : Int) 0 = true := decide_eq_true (by omega)
    simp only [es, et, g1, g2, need, if_true]
    -- T = 2^n, K = 2^(32-n), P = 2^(64-n)
    obtain ⟨T, hT⟩ : ∃ T : Int, T = 2 ^ n := ⟨_, rfl⟩
    obtain ⟨K, hK⟩ : ∃ K : Int, K = 2 ^ (32 - n) := ⟨_, rfl⟩
    have hT0 : 0 < T := by rw [hT]; exact Int.pow_pos (by decide)
    have hK0 : 0 < K := by rw [hK]; exact Int.pow_pos (by decide)
    have hTK : T * K = 4294967296 := by
      rw [hT, hK, ← Int.pow_add, show n + (32 - n) = 32 by omega]; decide
    have hP : (2 : Int) ^ (64 - n) = K * 4294967296 := by
      rw [hK, show (4294967296 : Int) = 2 ^ 32 by decide, ← Int.pow_add, show 32 - n + 32 = 64 - n by omega]
    rw [← hT] at hy1 hy2
    have hTP : T * (K * 4294967296) = 18446744073709551616 := by grind
    have hYK1 : y * K < 4294967296 := by rw [← hTK]; exact Int.mul_lt_mul_of_pos_right hy1 hK0
    have hYK2 : 2147483648 ≤ y * K := by
      have : T * K ≤ 2 * y * K := Int.mul_le_mul_of_nonneg_right hy2 (by omega)
      rw [hTK] at this
      grind
    have eY : shl .u64 y ((64 - n : Nat) : Int) = (y * K) * 4294967296 := by
      rw [shl_k _ (by omega), hP, ← Int.mul_assoc]
      omega
    obtain ⟨Z, hZ⟩ : ∃ Z : Int, Z = y * K := ⟨_, rfl⟩
    rw [← hZ] at hYK1 hYK2 eY
    have eYn1 : shr .u64 (Z * 4294967296) 32 = Z := by rw [shr_32 (by omega)]; omega
    have eYn0 : band .u64 (Z * 4294967296) 4294967295 = 0 := by rw [band_lo (by omega) (by omega)]; omega
    -- lo in its two pieces
    have eLo1 : shr .u64 lo ((n : Nat) : Int) = lo / T := by rw [shr_k n (by omega), ← hT]
    have eLo2 : shl .u64 lo ((64 - n : Nat) : Int) = (lo % T) * (K * 4294967296) := by
      rw [shl_k _ (by omega), hP, ← hTP, Int.mul_comm lo, Int.mul_comm T, Int.mul_emod_mul_of_pos _ _ (by omega : 0 < K * 4294967296), Int.mul_comm]
    have bLo1 : 0 ≤ lo / T := Int.ediv_nonneg hl (by omega)
    have bLo1' : lo / T < K * 4294967296 := Int.ediv_lt_of_lt_mul hT0 (by rw [Int.mul_comm, hTP]; exact hl')
    have bHi : hi * (K * 4294967296) + lo / T < Z * 4294967296 := by
      have : (hi + 1) * (K * 4294967296) ≤ y * (K * 4294967296) := Int.mul_le_mul_of_nonneg_right (by omega) (by omega)
      rw [hZ]
      grind
    have eHi : shl .u64 hi ((64 - n : Nat) : Int) = hi * (K * 4294967296) := by
      rw [shl_k _ (by omega), hP]
      have : 0 ≤ hi * (K * 4294967296) := Int.mul_nonneg hh (by omega)
      omega
    have eU : bor .u64 (shl .u64 hi ((64 - n : Nat) : Int)) (shr .u64 lo ((n : Nat) : Int)) = hi * (K * 4294967296) + lo / T := by
      rw [eHi, eLo1, ← hP]
      rw [← hP] at bLo1' bHi
      exact bor_add _ hh bLo1 bLo1' (by omega)
    have bU0 : 0 ≤ hi * (K * 4294967296) + lo / T := Int.add_nonneg (Int.mul_nonneg hh (by omega)) bLo1
    have bV0 : 0 ≤ (lo % T) * (K * 4294967296) := Int.mul_nonneg (Int.emod_nonneg _ (by omega)) (by omega)
    have bV1 : (lo % T) * (K * 4294967296) < 18446744073709551616 := by
      rw [← hTP]
      exact Int.mul_lt_mul_of_pos_right (Int.emod_lt_of_pos _ hT0) (by omega)
    obtain ⟨V, hV⟩ : ∃ V : Int, V = (lo % T) * (K * 4294967296) := ⟨_, rfl⟩
    obtain ⟨U, hU⟩ : ∃ U : Int, U = hi * (K * 4294967296) + lo / T := ⟨_, rfl⟩
    rw [← hV] at eLo2 bV0 bV1
    rw [← hU] at eU bHi bU0
    have hsum : (hi * 18446744073709551616 + lo) * (K * 4294967296) = U * 18446744073709551616 + V := by
      have : lo = T * (lo / T) + lo % T := by have := Int.mul_ediv_add_emod lo T; omega
      rw [hU, hV]
      generalize lo / T = a at *
      generalize lo % T = b at *
      subst this
      rw [← hTP]
      grind
    -- the first digit
    have hq1 : U = Z * (U / Z) + U % Z := by have := Int.mul_ediv_add_emod U Z; omega
    have hr1 : 0 ≤ U % Z ∧ U % Z < Z := ⟨Int.emod_nonneg _ (by omega), Int.emod_lt_of_pos _ (by omega)⟩
    have hq1' : 0 ≤ U / Z ∧ U / Z < 4294967296 := ⟨Int.ediv_nonneg bU0 (by omega), Int.ediv_lt_of_lt_mul (by omega) (by rw [Int.mul_comm]; exact bHi)⟩
    have en : nei Z 0 = true := by simp [nei]; omega
    have eq1 : quo .u64 U Z = U / Z := quou bU0 (by omega) (by omega)
    simp only [eU, eY, eYn1, eYn0, eLo2, en, eq1, if_true, Option.bind_some]
    obtain ⟨q1, hq1d⟩ : ∃ q, q = U / Z := ⟨_, rfl⟩
    obtain ⟨r1, hr1d⟩ : ∃ r, r = U % Z := ⟨_, rfl⟩
    rw [← hq1d, ← hr1d] at hq1
    rw [← hr1d] at hr1
    rw [← hq1d] at hq1'
    simp only [← hq1d]
    have bZq1 : 0 ≤ Z * q1 := Int.mul_nonneg (by omega) hq1'.1
    have c1 : q1 * Z = Z * q1 := Int.mul_comm _ _
    have m1 : mul .u64 q1 Z = Z * q1 := by unfold mul; rw [c1, wu64' (by omega) (by omega)]
    have s1 : sub .u64 U (Z * q1) = r1 := by unfold sub; rw [wu64' (by omega) (by omega)]; omega
    have lg1 : ge q1 4294967296 = false := decide_eq_false (by omega)
    have m0 : mul .u64 q1 0 = 0 := by unfold mul; rw [Int.mul_zero]; rfl
    have eV1 : shr .u64 V 32 = V / 4294967296 := shr_32 bV0
    have eV0 : band .u64 V 4294967295 = V % 4294967296 := band_lo bV0 bV1
    have lz : ∀ x : Int, gt 0 (add .u64 (mul .u64 4294967296 x) (V / 4294967296)) = false := fun x => by
      apply decide_eq_false
      unfold add
      rw [wu64]
      omega
    rw [m1, s1]
    simp only [loopF64, es, m38_L7, lg1, Bool.false_eq_true, if_false, eYn0, m0, eV1, Option.bind_some, lz, m38_J8, m38_J3, en, need, if_true, eYn1, eLo2, eY]
    -- the second digit
    have mY1 : mul .u64 q1 (Z * 4294967296) = (Z * q1 * 4294967296) % 18446744073709551616 := by
      unfold mul; rw [wu64, ← Int.mul_assoc, c1]
    have mU : mul .u64 U 4294967296 = (U * 4294967296) % 18446744073709551616 := by unfold mul; rw [wu64]
    have hW : sub .u64 (add .u64 (mul .u64 U 4294967296) (V / 4294967296)) (mul .u64 q1 (Z * 4294967296)) = r1 * 4294967296 + V / 4294967296 := by
      rw [mY1, mU]
      unfold sub add
      rw [wu64, wu64]
      generalize Z * q1 = A at *
      omega
    obtain ⟨W, hWd⟩ : ∃ W : Int, W = r1 * 4294967296 + V / 4294967296 := ⟨_, rfl⟩
    rw [← hWd] at hW
    have bW : 0 ≤ W ∧ W < Z * 4294967296 := by omega
    rw [hW]
    have eq0 : quo .u64 W Z = W / Z := quou (by omega) (by omega) (by omega)
    simp only [eq0]
    have hq0 : W = Z * (W / Z) + W % Z := by have := Int.mul_ediv_add_emod W Z; omega
    have hr0 : 0 ≤ W % Z ∧ W % Z < Z := ⟨Int.emod_nonneg _ (by omega), Int.emod_lt_of_pos _ (by omega)⟩
    have hq0' : 0 ≤ W / Z ∧ W / Z < 4294967296 := ⟨Int.ediv_nonneg bW.1 (by omega), Int.ediv_lt_of_lt_mul (by omega) (by rw [Int.mul_comm]; exact bW.2)⟩
    obtain ⟨q0, hq0d⟩ : ∃ q, q = W / Z := ⟨_, rfl⟩
    obtain ⟨r0, hr0d⟩ : ∃ r, r = W % Z := ⟨_, rfl⟩
    rw [← hq0d, ← hr0d] at hq0
    rw [← hr0d] at hr0
    rw [← hq0d] at hq0'
    simp only [← hq0d]
    have bZq0 : 0 ≤ Z * q0 := Int.mul_nonneg (by omega) hq0'.1
    have c0 : q0 * Z = Z * q0 := Int.mul_comm _ _
    have lg0 : ge q0 4294967296 = false := decide_eq_false (by omega)
    have m00 : mul .u64 q0 0 = 0 := by unfold mul; rw [Int.mul_zero]; rfl
    have lz0 : ∀ x : Int, gt 0 (add .u64 (mul .u64 4294967296 x) (V % 4294967296)) = false := fun x => by
      apply decide_eq_false
      unfold add
      rw [wu64]
      omega
    simp only [loopF64, es, m38_L5, lg0, Bool.false_eq_true, if_false, eYn0, m00, eV0, eLo2, eY, Option.bind_some, lz0, m38_J6, m38_J4, es, g1, need, if_true]
    have mY0 : mul .u64 q0 (Z * 4294967296) = (Z * q0 * 4294967296) % 18446744073709551616 := by
      unfold mul; rw [wu64, ← Int.mul_assoc, c0]
    have mW : mul .u64 W 4294967296 = (W * 4294967296) % 18446744073709551616 := by unfold mul; rw [wu64]
    have hR : sub .u64 (add .u64 (mul .u64 W 4294967296) (V % 4294967296)) (mul .u64 q0 (Z * 4294967296)) = r0 * 4294967296 + V % 4294967296 := by
      rw [mY0, mW]
      unfold sub add
      rw [wu64, wu64]
      generalize Z * q0 = A at *
      omega
    have hQ : add .u64 (mul .u64 q1 4294967296) q0 = q1 * 4294967296 + q0 := by
      unfold add mul
      rw [wu64' (x := q1 * 4294967296) (by omega) (by omega), wu64' (by omega) (by omega)]
    rw [hR, hQ, shr_k (64 - n) (by omega), hP]
    -- all of it
    have hall : (hi * 18446744073709551616 + lo) * (K * 4294967296) = y * (q1 * 4294967296 + q0) * (K * 4294967296) + (r0 * 4294967296 + V % 4294967296) := by
      rw [hsum]
      have eV : V = 4294967296 * (V / 4294967296) + V % 4294967296 := by omega
      generalize V / 4294967296 = V1 at *
      generalize V % 4294967296 = V0 at *
      rw [eV, hq1]
      have : U = Z * q1 + r1 := hq1
      have h3 : r1 * 4294967296 + V1 = Z * q0 + r0 := by omega
      have h4 : Z * q1 + r1 = Z * q1 + r1 := rfl
      subst hZ
      have h5 : r1 * 18446744073709551616 + 4294967296 * V1 = (y * K * q0 + r0) * 4294967296 := by omega
      grind
    have hdiv : r0 * 4294967296 + V % 4294967296 = (hi * 18446744073709551616 + lo - y * (q1 * 4294967296 + q0)) * (K * 4294967296) := by
      rw [Int.sub_mul, hall]; omega
    have hquot : (r0 * 4294967296 + V % 4294967296) / (K * 4294967296) = hi * 18446744073709551616 + lo - y * (q1 * 4294967296 + q0) := by
      rw [hdiv, Int.mul_ediv_cancel _ (by omega : K * 4294967296 ≠ 0)]
    have hb : 0 ≤ r0 * 4294967296 + V % 4294967296 ∧ r0 * 4294967296 + V % 4294967296 < y * (K * 4294967296) := by
      rw [← Int.mul_assoc, ← hZ]; omega
    rw [hquot]
    have hlt : hi * 18446744073709551616 + lo - y * (q1 * 4294967296 + q0) < y := by
      rw [hdiv] at hb
      exact Int.lt_of_mul_lt_mul_right hb.2 (by omega)
    have hge : 0 ≤ hi * 18446744073709551616 + lo - y * (q1 * 4294967296 + q0) := by
      rw [← hquot]
      exact Int.ediv_nonneg hb.1 (by omega)
    generalize hi * 18446744073709551616 + lo = X at *
    generalize q1 * 4294967296 + q0 = q at *
    have hX : X = (X - y * q) + y * q := by omega
    congr 2
    · have : X / y = (X - y * q) / y + q := by
        conv => lhs; rw [hX]
        rw [Int.add_mul_ediv_left _ _ (by omega : y ≠ 0)]
      rw [this, Int.ediv_eq_zero_of_lt hge hlt]
      omega
    · have : X % y = (X - y * q) % y := by
        conv => lhs; rw [hX]
        rw [Int.add_mul_emod_self_left]
      rw [this, Int.emod_eq_of_lt hge hlt]
end SxYtihfogahdofdmaaDoor

end
