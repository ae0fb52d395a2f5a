/- Proved in the last of these 8 parts (this is part 7): PlanOver: whatever the bank, the blocks and the place where they are cut, the law returns true.. Conditions: those of the given statement, and no others. -/
import Derived.Test.YtnamnibaedolaaaPartf
import Derived.Test.YtnamnibaedolaaaParte
set_option linter.unusedVariables false
set_option linter.unusedSimpArgs false
set_option linter.unusedSectionVars false
section
set_option maxRecDepth 100000
namespace Go.Proofs.Lx
open Go Ev Sx Pl
theorem k6_go (bank was : List Int) (N : Nat) (hN : N ≤ 1000000) : ∀ (k i n : Nat) (all : List Int), i + k = N -> k < n -> all.length = N -> loopF q3l_ n (bank, Int.ofNat N, (i : Int), was, all) = qu_ bank was
  | k, _, 0, _, _, h, _ => by omega
  | 0, i, n + 1, all, h, _, hl => by
    rw [q9_, q46_]
    unfold q1i_
    rw [if_neg (by rw [lt_iff, q1_]; omega)]
  | k + 1, i, n + 1, all, h, hn, hl => by
    have hw : i < all.length := by omega
    rw [q9_, q46_]
    unfold q1i_
    rw [if_pos (by rw [lt_iff, q1_]; omega), at_get (List.getElem?_eq_getElem hw), Option.bind_some, Option.bind_some, Option.bind_some, Option.bind_some, show add .i64 (i : Int) 1 = ((i + 1 : Nat) : Int) from succ64 (by omega)]
    exact k6_go bank was N hN k (i + 1) n _ (by omega) (by omega) (by simpa using hl)
theorem k5_done (bank was all : List Int) (h : all.length ≤ 1000000) : q1h_ bank false was all = qu_ bank was := by
  show q32_ q21_ bank false was all = _
  unfold q32_
  rw [if_neg (by decide), q4z_]
  exact k6_go bank was all.length h all.length 0 18446744073709551616 all (by omega) (by omega) rfl
theorem awake_b : (Option.bind (q16_ ()) fun (y : Bool × Unit) => (some (y.fst, ()) : Option (As [.bool]))) = some (true, ()) := by rw [awake]; rfl
theorem k7_done (bank : List Int) (h : bank.length ≤ 1000000) : qu_ bank bank = some (true, ()) := by
  show q37_ bank bank = _
  unfold q37_
  rw [regs_dr bank bank h h, Option.bind_some, if_pos (by simp)]
  exact awake_b
theorem k4_done (bank : List Int) (l : List Bk) (a : Int) (hb : bank.length ≤ 100) (hl : l.length ≤ 10) (hf : FitB l) (ha : 0 ≤ a ∧ a ≤ 255) : q1g_ bank l a = some (true, ()) := by
  show q30_ q1h_ bank l a = _
  unfold q30_
  have e1 : add .i64 (Int.ofNat l.length) 1 = ((l.length + 1 : Nat) : Int) := succ64 (by omega)
  have e2 : cvt .i64 a = a := cvt64 (by omega) (by omega)
  obtain ⟨n, rfl⟩ := Int.eq_ofNat_of_zero_le ha.1
  have e3 : rem (n : Int) ((l.length + 1 : Nat) : Int) = ((n % (l.length + 1) : Nat) : Int) := by
    unfold rem
    rw [Int.tmod_eq_emod_of_nonneg (by omega)]
    omega
  have hk : n % (l.length + 1) ≤ l.length := by have := Nat.mod_lt n (show 0 < l.length + 1 by omega); omega
  generalize n % (l.length + 1) = k at e3 hk
  have hft : ∀ k, FitB (l.take k) := fun k => ⟨by rw [List.length_take]; omega, fun b hb => hf.2 b (List.mem_of_mem_take hb)⟩
  have hfd : ∀ k, FitB (l.drop k) := fun k => ⟨by rw [List.length_drop]; omega, fun b hb => hf.2 b (List.mem_of_mem_drop hb)⟩
  have hlen : ∀ k, (over bank k).length ≤ 1000000 := fun k => by rw [over_len]; omega
  rw [need_small (by omega), over_n bank l (by omega) hf, Option.bind_some, e1, e2, e3, need_t (by rw [qj_]; omega), if_neg (by rw [qj_, q1_, q1_]; simp [over_len]),
    regs_dr bank bank (by omega) (by omega), Option.bind_some, if_neg (by simp), over_n bank [] (by omega) ⟨by simp, by simp⟩, Option.bind_some]
  rw [show q2k_ (bank, over bank [], ()) = _ from regs_rd (over bank []) bank (by rw [over_len]; omega) (by omega), Option.bind_some, if_neg (by simp [over]), cut_to hk, Option.bind_some, cut_from hk, Option.bind_some,
    over_n bank (l.take k) (by omega) (hft k), Option.bind_some, over_r _ (l.drop k) (hlen _) (hfd k), Option.bind_some]
  rw [regs_rr _ _ (by rw [over_len]; exact hlen _) (hlen _), Option.bind_some, if_neg (by rw [<- over_app, List.take_append_drop]; simp), over_r _ l (hlen _) hf, Option.bind_some,
    regs_rr _ _ (by rw [over_len]; exact hlen _) (hlen _), Option.bind_some]
  have : (!decide (over (over bank l) l = over bank l)) = false := by rw [over_idem]; simp
  show q1h_ bank (!decide (over (over bank l) l = over bank l)) bank (over bank l) = _
  rw [this, k5_done bank bank _ (hlen _), k7_done bank (by omega)]
theorem k2_over (bank : List Int) (l : List Bk) (a : Int) (hb : bank.length ≤ 100) (hl : l.length ≤ 10) (ha : 0 ≤ a ∧ a ≤ 255) : ∀ (k i n : Nat), i + k = l.length -> k < n -> (∀ b ∈ l.take i, b.2.length ≤ 20 ∧ -50 ≤ b.1 ∧ b.1 ≤ 200) ->
    loopF q2e_ n (bank, l, a, l, Int.ofNat l.length, (i : Int)) = some (true, ())
  | k, _, 0, _, h, _ => by omega
  | 0, i, n + 1, h, _, hp => by
    rw [q9_, q4b_]
    unfold q1j_
    rw [if_neg (by rw [lt_iff, q1_]; omega)]
    rw [List.take_of_length_le (by omega)] at hp
    exact k4_done bank l a hb hl ⟨by omega, fun b hb => by have := hp b hb; omega⟩ ha
  | k + 1, i, n + 1, h, hn, hp => by
    have hw : i < l.length := by omega
    rw [q9_, q4b_]
    unfold q1j_
    have k3 : ∀ c, (c = false -> l[i].2.length ≤ 20 ∧ -50 ≤ l[i].1 ∧ l[i].1 ≤ 200) -> q1k_ (fun bank l at' t22 t23 t24 => loopF q2e_ n (bank, l, at', t22, t23, t24)) bank l a l (Int.ofNat l.length) (i : Int) c = some (true, ()) := fun c hc => by
      show q2x_ _ bank l a l (Int.ofNat l.length) (i : Int) c = _
      unfold q2x_
      cases c with
      | true => rw [if_pos rfl]; exact awake_b
      | false =>
        rw [if_neg (by decide), show add .i64 (i : Int) 1 = ((i + 1 : Nat) : Int) from succ64 (by omega)]
        refine k2_over bank l a hb hl ha k (i + 1) n (by omega) (by omega) fun b hb => ?_
        rw [List.take_add_one, List.getElem?_eq_getElem hw] at hb
        rcases List.mem_append.1 hb with hb | hb
        · exact hp b hb
        · simp at hb; subst hb; exact hc rfl
    rw [if_pos (by rw [lt_iff, q1_]; omega), at_get (List.getElem?_eq_getElem hw), Option.bind_some]
    by_cases h1 : 20 < l[i].2.length
    · rw [if_pos (by rw [gt_iff, q1_]; omega)]
      exact k3 true (fun h => by cases h)
    · rw [if_neg (by rw [gt_iff, q1_]; omega)]
      by_cases h2 : l[i].1 < -50
      · rw [if_pos (lt_iff.2 h2)]
        exact k3 true (fun h => by cases h)
      · rw [if_neg (by rw [lt_iff]; exact h2)]
        refine k3 _ fun h => ?_
        rw [gt_dec] at h
        simp at h
        omega
theorem planOver_law (bank : List Int) (l : List Bk) (a : Int) (ha : 0 ≤ a ∧ a ≤ 255) : q3t_ (bank, l, a, ()) = some (true, ()) := by
  show q2y_ q20_ bank l a = _
  unfold q2y_
  have k1 : ∀ c, (c = false -> bank.length ≤ 100 ∧ l.length ≤ 10) -> q20_ bank l a c = some (true, ()) := fun c hc => by
    show q33_ q1z_ bank l a c = _
    unfold q33_
    cases c with
    | true => rw [if_pos rfl]; exact awake_b
    | false =>
      obtain ⟨h1, h2⟩ := hc rfl
      rw [if_neg (by decide), q52_]
      exact k2_over bank l a h1 h2 ha l.length 0 18446744073709551616 (by omega) (by omega) (fun b hb => by simp at hb)
  by_cases h1 : 100 < bank.length
  · rw [if_pos (by rw [gt_iff, q1_]; omega)]
    exact k1 true (fun h => by cases h)
  · rw [if_neg (by rw [gt_iff, q1_]; omega)]
    refine k1 _ fun h => ?_
    rw [gt_dec, q1_] at h
    simp at h
    omega
theorem planOver_row (x : As [.sl (.int .u16), .sl (.pr (.int .i64) (.sl (.int .u16))), .int .u8]) (h : Rw.okA [.sl (.int .u16), .sl (.pr (.int .i64) (.sl (.int .u16))), .int .u8] x) : q3t_ x = some (true, ()) :=
  planOver_law x.1 x.2.1 x.2.2.1 (by
    have h1 : (Lit.int .u8 x.2.2.1).wf = true := h.2.2.1
    simp [Lit.wf, IntKind.min, IntKind.max, IntKind.signed, IntKind.bits] at h1
    omega)
end Go.Proofs.Lx
end
