/- Proved in the last of these 10 parts (this is part 9): UnitsWays answers true at every decimal, at every three units, and at every name. Conditions: those of the given statement, and no others. -/
import Derived.Test.YtihfogahdofdmaaDoorPartd
import Derived.Test.YtihfogahdofdmaaDoorParth
set_option linter.unusedVariables false
set_option linter.unusedSimpArgs false
set_option linter.unusedSectionVars false
/- UnitsWays, as a law of the model. -/
namespace SxYtihfogahdofdmaaDoor
open Go Sx
theorem times_same {d : TDec} (hd : RightD d) {n m : Int} (hn : 1 ≤ n) (h : m = n) : timesD d n m = (d, true) := by
  subst h
  unfold timesD
  rw [Int.mul_ediv_cancel _ (by omega : m ≠ 0), if_pos ⟨Int.mul_emod_left _ _, fits_six hd⟩, deca_six hd]
theorem times_yes {d : TDec} {n m : Int} (h : (timesD d n m).2 = true) : RightD (timesD d n m).1 ∧ six (timesD d n m).1 * m = six d * n := by
  unfold timesD at h ⊢
  by_cases q : six d * n % m = 0 ∧ fits (six d * n / m) = true
  · rw [if_pos q]
    exact ⟨right_deca q.2, by rw [six_deca]; exact Int.ediv_mul_cancel (Int.dvd_of_emod_eq_zero q.1)⟩
  · rw [if_neg q] at h
    cases h
theorem times_of {d e : TDec} {n m : Int} (he : RightD e) (hm : 1 ≤ m) (h : six e * m = six d * n) : timesD d n m = (e, true) := by
  unfold timesD
  rw [← h, Int.mul_ediv_cancel _ (by omega : m ≠ 0), if_pos ⟨Int.mul_emod_left _ _, fits_six he⟩, deca_six he]
def tab : List ((List UInt8) × TUnit) := (m33 64).getD []
def nms : List (List UInt8) := (m8 64).getD []
theorem m33_tab : m33 64 = some tab := by kernel_rfl
theorem m8_nms : m8 64 = some nms := by kernel_rfl
theorem tab_keys : tab.map (·.1) = nms := by kernel_rfl
theorem nms_len : nms.length = 18 := by kernel_rfl
theorem mget_some {K V : Type} [DecidableEq K] (k : K) : ∀ xs : List (K × V), (mget xs k).isSome = decide (k ∈ xs.map (·.1))
  | [] => by simp [mget]
  | (a, b) :: r => by
    unfold mget
    by_cases h : a = k
    · simp [h]
    · rw [if_neg h, mget_some k r]
      have : k ≠ a := fun e => h e.symm
      simp [this]
theorem unit_of {a : List UInt8} (h : a ∈ nms) : ∃ u, mget tab a = some u ∧ (1 ≤ u.Num ∧ u.Num ≤ 3600) ∧ (1 ≤ u.Den ∧ u.Den ≤ 1000) := by
  have hk : (nms.all fun a => (mget tab a).any fun u => decide ((1 ≤ u.Num ∧ u.Num ≤ 3600) ∧ (1 ≤ u.Den ∧ u.Den ≤ 1000))) = true := by decide +kernel
  have := List.all_eq_true.1 hk a h
  cases hu : mget tab a with
  | none => simp [hu] at this
  | some u =>
    rw [hu] at this
    exact ⟨u, rfl, of_decide_eq_true this⟩
theorem m10_eq {a : List UInt8} {u : TUnit} (h : mget tab a = some u) : m10 64 a = some (u, true) := by
  unfold m10
  simp only [m33_tab, Option.bind_some, h, Option.getD_some, Option.isSome_some]
theorem m10_is (s : List UInt8) : ∃ u, m10 64 s = some (u, decide (s ∈ nms)) := by
  unfold m10
  simp only [m33_tab, Option.bind_some, mget_some, tab_keys]
  exact ⟨_, rfl⟩
def toD (d : TDec) (u v : TUnit) : TDec × Bool := if u.Base = v.Base then timesD d (u.Num * v.Den) (u.Den * v.Num) else (⟨0, 0⟩, false)
theorem m11_eq {d : TDec} {a b : List UInt8} {u v : TUnit} (hd : RightD d) (ha : mget tab a = some u) (hb : mget tab b = some v)
    (hu : (1 ≤ u.Num ∧ u.Num ≤ 3600) ∧ (1 ≤ u.Den ∧ u.Den ≤ 1000)) (hv : (1 ≤ v.Num ∧ v.Num ≤ 3600) ∧ (1 ≤ v.Den ∧ v.Den ≤ 1000)) : m11 64 d a b = some (toD d u v) := by
  have b1 := mul_b (a := u.Num) (b := v.Den) 3600 1000 3600000 (by decide) (by omega) (by omega)
  have b2 := mul_b (a := u.Den) (b := v.Num) 1000 3600 3600000 (by decide) (by omega) (by omega)
  have p1 : 0 < u.Num * v.Den := Int.mul_pos (by omega) (by omega)
  have p2 : 0 < u.Den * v.Num := Int.mul_pos (by omega) (by omega)
  have e1 : mul .i64 u.Num v.Den = u.Num * v.Den := wrap64 (by omega) (by omega)
  have e2 : mul .i64 u.Den v.Num = u.Den * v.Num := wrap64 (by omega) (by omega)
  unfold m11
  simp only [m33_tab, Option.bind_some, ha, hb, Option.getD_some, Option.isSome_some, if_true, m11_J1, e1, e2]
  rw [m13_eq hd (by omega) (by omega) (by omega) (by omega)]
  unfold toD nes
  by_cases h : u.Base = v.Base
  · simp [h]
  · simp [h]
theorem m3_loop (s : List UInt8) (u : TUnit) : ∀ (n i : Nat), 18 ≤ n + i → i ≤ 18 → (decide (s ∈ nms) = true → s ∈ nms.drop i) →
    loopF (m3_L7 64 s nms (u, decide (s ∈ nms))) (n + 1) (i : Int) = some true
  | n, i, h1, h2, hs => by
    unfold loopF m3_L7
    rw [nms_len]
    by_cases hi : i < 18
    · have e1 : lt (i : Int) ((18 : Nat) : Int) = true := decide_eq_true (by omega)
      obtain ⟨e, he⟩ : ∃ e, nms[i]? = some e := ⟨_, List.getElem?_eq_getElem (by rw [nms_len]; exact hi)⟩
      have e2 : at? nms (i : Int) = some e := by
        unfold at?
        rw [if_pos (by omega)]
        exact he
      simp only [e1, if_true, e2, Option.bind_some]
      have hmem : e ∈ nms := List.mem_of_getElem? he
      by_cases q : e = s
      · subst q
        have e3 : decide (e ∈ nms) = true := decide_eq_true hmem
        simp only [eqs, beq_self_eq_true, if_true, e3, awake_m, Option.bind_some, m3_J8]
      · have e3 : eqs e s = false := by simp [eqs, q]
        have e4 : add .i64 (i : Int) 1 = ((i + 1 : Nat) : Int) := by
          unfold add
          rw [wrap64 (by omega) (by omega)]
          omega
        simp only [e3, Bool.false_eq_true, if_false, e4]
        cases n with
        | zero => omega
        | succ n =>
          refine m3_loop s u n (i + 1) (by omega) (by omega) (fun hk => ?_)
          have := hs hk
          rw [List.drop_eq_getElem_cons (by rw [nms_len]; exact hi)] at this
          rcases List.mem_cons.1 this with h | h
          · exfalso
            apply q
            rw [h]
            rw [List.getElem?_eq_getElem (by rw [nms_len]; exact hi)] at he
            exact (Option.some.inj he).symm
          · exact h
    · have e1 : lt (i : Int) ((18 : Nat) : Int) = false := decide_eq_false (by omega)
      simp only [e1, Bool.false_eq_true, if_false, m3_J5, m3_J6]
      by_cases hk : decide (s ∈ nms) = true
      · have := hs hk
        rw [List.drop_eq_nil_of_le (by rw [nms_len]; omega)] at this
        cases this
      · have hk' : decide (s ∈ nms) = false := by simpa using hk
        simp only [hk', Bool.false_eq_true, if_false, awake_m, Option.bind_some]
        split <;> rfl
theorem m3_J4_true (s : List UInt8) : m3_J4 64 s nms = some true := by
  unfold m3_J4
  obtain ⟨u, hu⟩ := m10_is s
  rw [hu]
  exact m3_loop s u 63 0 (by decide) (by decide) (fun h => of_decide_eq_true h)
theorem dec_eq (a : TDec) : (!((eqi a.N a.N) && ((eqi a.D a.D) && true))) = false := by simp [eqi]
theorem pick_unit {i : Int} (h0 : 0 ≤ i) (h1 : i ≤ 255) : ∃ a, at? nms (rem (cvt .i64 i) ((18 : Nat) : Int)) = some a ∧ a ∈ nms := by
  rw [cvt64 (by omega) (by omega)]
  unfold rem
  have r0 := Int.tmod_nonneg (18 : Int) h0
  have r1 := Int.tmod_lt_of_pos i (show (0 : Int) < 18 by decide)
  have e : ((18 : Nat) : Int) = 18 := rfl
  rw [e]
  unfold at?
  rw [if_pos r0]
  have hlt : (i.tmod 18).toNat < nms.length := by rw [nms_len]; omega
  exact ⟨_, List.getElem?_eq_getElem hlt, List.getElem_mem hlt⟩
theorem ways_law {i j k : Int} {d : TDec} (s : List UInt8) (hi : 0 ≤ i ∧ i ≤ 255) (hj : 0 ≤ j ∧ j ≤ 255) (hk : 0 ≤ k ∧ k ≤ 255) (hD : 0 ≤ d.D) : m3 64 d i j k s = some true := by
  obtain ⟨a, ea, ha⟩ := pick_unit hi.1 hi.2
  obtain ⟨b, eb, hb⟩ := pick_unit hj.1 hj.2
  obtain ⟨c, ec, hc⟩ := pick_unit hk.1 hk.2
  obtain ⟨u, hu, bu⟩ := unit_of ha
  obtain ⟨v, hv, bv⟩ := unit_of hb
  obtain ⟨w, hw, bw⟩ := unit_of hc
  obtain ⟨x, hx, rx⟩ := m9_eq (d := d) hD
  have hne : nei ((18 : Nat) : Int) 0 = true := by kernel_rfl
  have g1 : lt u.Num 1 = false := decide_eq_false (by omega)
  have g2 : lt u.Den 1 = false := decide_eq_false (by omega)
  unfold m3
  simp only [m8_nms, Option.bind_some, nms_len, need, hne, if_true, ea, eb, ec, hx, m10_eq hu, m10_eq hv, g1, g2, Bool.false_eq_true, if_false, m3_J1]
  have p1 : 0 < u.Num * u.Den := Int.mul_pos (by omega) (by omega)
  have t1 : toD x u u = (x, true) := by
    unfold toD
    rw [if_pos rfl]
    exact times_same rx (by omega) (Int.mul_comm _ _)
  simp only [m11_eq rx hu hu bu bu, t1, Option.bind_some, if_true, dec_eq, m3_J2, Bool.false_eq_true, if_false, m11_eq rx hu hv bu bv]
  by_cases q1 : (toD x u v).2 = true
  · have hB : u.Base = v.Base := by
      unfold toD at q1
      by_cases h : u.Base = v.Base
      · exact h
      · rw [if_neg h] at q1; cases q1
    have e1 : nes u.Base v.Base = false := by simp [nes, hB]
    have et : toD x u v = timesD x (u.Num * v.Den) (u.Den * v.Num) := by unfold toD; rw [if_pos hB]
    rw [et] at q1
    obtain ⟨re, he⟩ := times_yes q1
    obtain ⟨e, e0⟩ : ∃ e, timesD x (u.Num * v.Den) (u.Den * v.Num) = (e, true) := ⟨_, Prod.ext rfl q1⟩
    rw [e0] at re he
    rw [et, e0]
    simp only [if_true, e1, m3_J3, Bool.false_eq_true, if_false]
    have t2 : toD e v u = (x, true) := by
      unfold toD
      rw [if_pos hB.symm]
      refine times_of rx (Int.mul_pos (by omega) (by omega)) ?_
      rw [Int.mul_comm v.Den, Int.mul_comm v.Num]
      exact he.symm
    simp only [m11_eq re hv hu bv bu, t2, Option.bind_some, if_true, dec_eq, m3_J9, Bool.false_eq_true, if_false, m11_eq re hv hw bv bw]
    by_cases q2 : (toD e v w).2 = true
    · have hB2 : v.Base = w.Base := by
        unfold toD at q2
        by_cases h : v.Base = w.Base
        · exact h
        · rw [if_neg h] at q2; cases q2
      have et2 : toD e v w = timesD e (v.Num * w.Den) (v.Den * w.Num) := by unfold toD; rw [if_pos hB2]
      rw [et2] at q2
      obtain ⟨rf, hf⟩ := times_yes q2
      obtain ⟨f, f0⟩ : ∃ f, timesD e (v.Num * w.Den) (v.Den * w.Num) = (f, true) := ⟨_, Prod.ext rfl q2⟩
      rw [f0] at rf hf
      rw [et2, f0]
      simp only [if_true]
      have t3 : toD x u w = (f, true) := by
        unfold toD
        rw [if_pos (hB.trans hB2)]
        refine times_of rf (Int.mul_pos (by omega) (by omega)) ?_
        have hp : v.Den ≠ 0 := by omega
        have hp2 : v.Num ≠ 0 := by omega
        apply Int.eq_of_mul_eq_mul_right hp
        apply Int.eq_of_mul_eq_mul_right hp2
        have a1 : six f * (u.Den * w.Num) * v.Den * v.Num = (six f * (v.Den * w.Num)) * (u.Den * v.Num) := by grind
        have a2 : six x * (u.Num * w.Den) * v.Den * v.Num = (six x * (u.Num * v.Den)) * (v.Num * w.Den) := by grind
        rw [a1, a2, hf, ← he]
        grind
      simp only [m11_eq rx hu hw bu bw, t3, Option.bind_some, if_true, dec_eq, m3_J10, Bool.false_eq_true, if_false]
      exact m3_J4_true s
    · have q2' : (toD e v w).2 = false := by simpa using q2
      simp only [q2', Bool.false_eq_true, if_false]
      exact m3_J4_true s
  · have q1' : (toD x u v).2 = false := by simpa using q1
    simp only [q1', Bool.false_eq_true, if_false, m3_J3]
    exact m3_J4_true s
end SxYtihfogahdofdmaaDoor
