/- Proved in the last of these 8 parts (this is part 7): PollNone, whatever its arguments, returns true and leaves them as they were, with no condition.. Conditions: those of the given statement, and no others. -/
import Derived.Test.YtbpmjafbgbcjeaaPartf
import Derived.Test.YtbpmjafbgbcjeaaPartd
set_option linter.unusedVariables false
set_option linter.unusedSimpArgs false
set_option linter.unusedSectionVars false
section
/- Requests: which are right, and their bytes. -/
namespace Go.Proofs.Lx
open Go Ev Sx Pl
set_option maxRecDepth 100000
abbrev TA := Int × Int × Int × Int × List Int × List Bool
structure OkA (a : TA) : Prop where
  f0 : 0 ≤ a.1
  f1 : a.1 ≤ 255
  at0 : 0 ≤ a.2.1
  at1 : a.2.1 ≤ 65535
  m0 : 0 ≤ a.2.2.1
  m1 : a.2.2.1 ≤ 65535
  t0 : 0 ≤ a.2.2.2.1
  t1 : a.2.2.2.1 ≤ 65535
  w : ∀ x ∈ a.2.2.2.2.1, 0 ≤ x ∧ x ≤ 65535
  lw : a.2.2.2.2.1.length ≤ 100000
  lb : a.2.2.2.2.2.length ≤ 100000
def shp (f : Int) : Option (Int × Int × Int × Bool × Bool) :=
  if eqi 1 f = true then some (2000, 0, 0, false, false) else if eqi 2 f = true then some (2000, 0, 0, false, false) else if eqi 3 f = true then some (125, 0, 0, false, false) else
  if eqi 4 f = true then some (125, 0, 0, false, false) else if eqi 5 f = true then some (0, 1, 0, false, false) else if eqi 6 f = true then some (0, 0, 1, false, false) else
  if eqi 15 f = true then some (1968, 1968, 0, false, true) else if eqi 16 f = true then some (123, 0, 123, false, true) else if eqi 23 f = true then some (125, 0, 121, true, false) else none
def shpD (f : Int) : Int × Int × Int × Bool × Bool := (shp f).getD (0, 0, 0, false, false)
theorem shape_eq (f : Int) : ask_shape (f, ()) = some (shpD f, (shp f).isSome, ()) := rfl
theorem shp_cases (f : Int) : ((f = 1 ∨ f = 2) ∧ shp f = some (2000, 0, 0, false, false)) ∨ ((f = 3 ∨ f = 4) ∧ shp f = some (125, 0, 0, false, false)) ∨ (f = 5 ∧ shp f = some (0, 1, 0, false, false)) ∨
    (f = 6 ∧ shp f = some (0, 0, 1, false, false)) ∨ (f = 15 ∧ shp f = some (1968, 1968, 0, false, true)) ∨ (f = 16 ∧ shp f = some (123, 0, 123, false, true)) ∨ (f = 23 ∧ shp f = some (125, 0, 121, true, false)) ∨
    ((f ≠ 1 ∧ f ≠ 2 ∧ f ≠ 3 ∧ f ≠ 4 ∧ f ≠ 5 ∧ f ≠ 6 ∧ f ≠ 15 ∧ f ≠ 16 ∧ f ≠ 23) ∧ shp f = none) := by
  by_cases h1 : f = 1
  · subst h1; exact .inl ⟨.inl rfl, rfl⟩
  by_cases h2 : f = 2
  · subst h2; exact .inl ⟨.inr rfl, rfl⟩
  by_cases h3 : f = 3
  · subst h3; exact .inr (.inl ⟨.inl rfl, rfl⟩)
  by_cases h4 : f = 4
  · subst h4; exact .inr (.inl ⟨.inr rfl, rfl⟩)
  by_cases h5 : f = 5
  · subst h5; exact .inr (.inr (.inl ⟨rfl, rfl⟩))
  by_cases h6 : f = 6
  · subst h6; exact .inr (.inr (.inr (.inl ⟨rfl, rfl⟩)))
  by_cases h7 : f = 15
  · subst h7; exact .inr (.inr (.inr (.inr (.inl ⟨rfl, rfl⟩))))
  by_cases h8 : f = 16
  · subst h8; exact .inr (.inr (.inr (.inr (.inr (.inl ⟨rfl, rfl⟩)))))
  by_cases h9 : f = 23
  · subst h9; exact .inr (.inr (.inr (.inr (.inr (.inr (.inl ⟨rfl, rfl⟩))))))
  refine .inr (.inr (.inr (.inr (.inr (.inr (.inr ⟨⟨h1, h2, h3, h4, h5, h6, h7, h8, h9⟩, ?_⟩))))))
  have e : ∀ n : Int, f ≠ n → ¬ eqi n f = true := fun n hn h => hn (eqi_iff.1 h).symm
  unfold shp
  rw [if_neg (e _ h1), if_neg (e _ h2), if_neg (e _ h3), if_neg (e _ h4), if_neg (e _ h5), if_neg (e _ h6), if_neg (e _ h7), if_neg (e _ h8), if_neg (e _ h9)]
def withinV (n most : Int) : Bool := if eqi most 0 = true then eqi n 0 else if ge n 1 = true then le n most else false
theorem within_eq (n most : Int) : ask_within (n, most, ()) = some (withinV n most, ()) := by
  show ask_within_m0 n most = _
  unfold ask_within_m0 withinV
  split
  · rfl
  · split <;> rfl
def rightS (a : TA) (s : Int × Int × Int × Bool × Bool) : Bool := (s.2.2.2.1 || eqi a.2.2.2.1 0) && (withinV a.2.2.1 s.1 && (withinV (Int.ofNat a.2.2.2.2.2.length) s.2.1 && (withinV (Int.ofNat a.2.2.2.2.1.length) s.2.2.1 &&
  (!s.2.2.2.2 || eqi (Int.ofNat a.2.2.2.2.2.length + Int.ofNat a.2.2.2.2.1.length) a.2.2.1))))
def rightA (a : TA) : Bool := match shp a.1 with
  | none => false
  | some s => rightS a s
theorem right_K2 (t : Bool) (a1 a2 a3 a4 : Int) (a5 : List Int) (a6 : List Bool) (s1 s2 s3 : Int) (s4 s5 : Bool) :
    ask_Right_K2 t a1 a2 a3 a4 a5 a6 s1 s2 s3 s4 s5 = some (!t && (!s5 || eqi (add .i64 (Int.ofNat a6.length) (Int.ofNat a5.length)) (cvt .i64 a3)), ()) := by
  unfold ask_Right_K2 ask_Right_m2
  cases t <;> cases s5 <;> rfl
theorem right_K1 (t : Bool) (a1 a2 a3 a4 : Int) (a5 : List Int) (a6 : List Bool) (s1 s2 s3 : Int) (s4 s5 : Bool) :
    ask_Right_K1 t a1 a2 a3 a4 a5 a6 s1 s2 s3 s4 s5 = some (!t && (withinV (cvt .i64 a3) s1 && (withinV (Int.ofNat a6.length) s2 && (withinV (Int.ofNat a5.length) s3 && (!s5 || eqi (add .i64 (Int.ofNat a6.length) (Int.ofNat a5.length)) (cvt .i64 a3))))), ()) := by
  unfold ask_Right_K1 ask_Right_m1
  rw [within_eq, within_eq, within_eq]
  simp only [Option.bind_some, right_K2]
  cases t <;> cases withinV (cvt .i64 a3) s1 <;> cases withinV (Int.ofNat a6.length) s2 <;> cases withinV (Int.ofNat a5.length) s3 <;> rfl
theorem right_eq {a : TA} (h : OkA a) : ask_Right (a, ()) = some (rightA a, ()) := by
  show ask_Right_m0 ask_Right_K1 a = _
  unfold ask_Right_m0
  have h1 := h.m0
  have h2 := h.m1
  have h3 := h.lw
  have h4 := h.lb
  rw [shape_eq, Option.bind_some]
  simp only [right_K1]
  rw [cvt64 (by omega) (by omega), add64 (by rw [ofNat_eq, ofNat_eq]; omega) (by rw [ofNat_eq, ofNat_eq]; omega)]
  unfold rightA shpD
  cases shp a.1 with
  | none => rfl
  | some s =>
    obtain ⟨s1, s2, s3, s4, s5⟩ := s
    unfold rightS
    have e : nei a.2.2.2.1 0 = !eqi a.2.2.2.1 0 := rfl
    rw [e]
    cases s4 <;> cases eqi a.2.2.2.1 0 <;> rfl
theorem two_eq {y : Int} : ([cvt .u8 (shr .u16 y 8), cvt .u8 y] : List Int) = two y := by
  rw [cvt8, cvt8, shr8 _ _ (by decide)]
  rfl
theorem numbers_eq {l out : List Int} (h : out.length + 2 * l.length ≤ 1000000) : ask_numbers (l, out, ()) = some (out ++ l.flatMap two, ()) := by
  show ask_numbers_m0 ask_numbers_K1 l out = _
  unfold ask_numbers_m0 ask_numbers_K1
  refine (loop_idx (xs := l) (mk := fun i acc => (l, Int.ofNat l.length, (i : Int), acc)) (stp := fun o y => o ++ two y) (fin := fun acc => some (acc, ())) (fun i acc => acc.length ≤ out.length + 2 * i) ?_ ?_ ?_ l.length 0 out _ (by omega) (by omega) (by omega)).trans ?_
  · intro self i acc x hx hI
    have hi := (List.getElem?_eq_some_iff.1 hx).1
    show ask_numbers_m1 _ l (Int.ofNat l.length) (i : Int) acc = _
    unfold ask_numbers_m1
    rw [if_pos (by rw [lt_iff, ofNat_eq]; omega), at_get hx, Option.bind_some, need_small (by omega), two_eq, succ64 (by omega)]
  · intro i acc x hx hI
    simp [two]
    omega
  · intro self acc _
    show ask_numbers_m1 _ l (Int.ofNat l.length) (l.length : Int) acc = _
    unfold ask_numbers_m1
    rw [if_neg (by rw [lt_iff, ofNat_eq]; omega)]
  · rw [List.drop_zero, foldl_app]
end Go.Proofs.Lx

end

section
/- Packed bits, lists of numbers. -/
namespace Pl
open Go Ev Sx
/-- a loop whose states are known -/
theorem loop_det {σ R : Type} {F : (σ → Option R) → σ → Option R} {mk : Nat → σ} {N : Nat} {r : Option R} (hs : ∀ self i, i < N → F self (mk i) = self (mk (i + 1))) (he : ∀ self, F self (mk N) = r) :
    ∀ (k i n : Nat), i + k = N → k < n → loopF F n (mk i) = r
  | _, _, 0, _, h => by omega
  | 0, i, n + 1, h, _ => by
    have : i = N := by omega
    subst this
    rw [loopF_succ, he]
  | k + 1, i, n + 1, h, hn => by rw [loopF_succ, hs _ _ (by omega), loop_det hs he k (i + 1) n (by omega) (by omega)]
theorem quo_nat {i d : Nat} (hi : i < 4611686018427387904) : quo .i64 (i : Int) (d : Int) = ((i / d : Nat) : Int) := by
  unfold quo
  have h := Nat.div_le_self i d
  have e : (i : Int).tdiv (d : Int) = ((i / d : Nat) : Int) := by rw [Int.ofNat_tdiv]
  rw [e]
  generalize i / d = q at h ⊢
  exact w64 (by omega) (by omega)
theorem rem_nat {i d : Nat} : rem (i : Int) (d : Int) = ((i % d : Nat) : Int) := by
  unfold rem
  rw [Int.ofNat_tmod]
/-- what is filled, place by place -/
theorem fill_step {α : Type} {f : Nat → α} {init : List α} {i : Nat} (hi : i < init.length) : ((List.range i).map f ++ init.drop i).set i (f i) = (List.range (i + 1)).map f ++ init.drop (i + 1) := by
  rw [List.drop_eq_getElem_cons hi, List.set_append_right _ _ (by simp)]
  simp only [List.length_map, List.length_range, Nat.sub_self, List.set_cons_zero, List.range_succ, List.map_append, List.map_cons, List.map_nil, List.append_assoc, List.singleton_append]
end Pl
namespace Go.Proofs.Lx
open Go Ev Sx Pl
set_option maxRecDepth 100000
def byteV : List Bool → Int
  | [] => 0
  | b :: r => (if b = true then 1 else 0) + 2 * byteV r
theorem byteV_rng : ∀ t : List Bool, 0 ≤ byteV t ∧ byteV t < 2 ^ t.length
  | [] => by simp [byteV]
  | b :: r => by
    have := byteV_rng r
    rw [List.length_cons, Int.pow_succ]
    unfold byteV
    split <;> omega
theorem byteV_snoc (b : Bool) : ∀ t : List Bool, byteV (t ++ [b]) = byteV t + (if b = true then 2 ^ t.length else 0)
  | [] => by cases b <;> rfl
  | a :: r => by
    rw [List.cons_append]
    unfold byteV
    rw [byteV_snoc b r, List.length_cons, Int.pow_succ]
    cases b <;> simp <;> omega
theorem byteV_bit : ∀ (t : List Bool) (k : Nat), byteV t / 2 ^ k % 2 = (if t.getD k false = true then 1 else 0)
  | [], k => by simp [byteV]
  | b :: r, 0 => by
    unfold byteV
    cases b <;> simp <;> omega
  | b :: r, k + 1 => by
    have := byteV_bit r k
    rw [List.getD_cons_succ, ← this]
    have e : ((if b = true then (1 : Int) else 0) + 2 * byteV r) / 2 ^ (k + 1) = byteV r / 2 ^ k := by
      rw [Int.pow_succ, Int.mul_comm (2 ^ k) 2, ← Int.ediv_ediv_of_nonneg (by decide)]
      congr 1
      split <;> omega
    show ((if b = true then (1 : Int) else 0) + 2 * byteV r) / 2 ^ (k + 1) % 2 = _
    rw [e]
def packN (n : Nat) : Nat := (n + 7) / 8
def packP (bits : List Bool) (i : Nat) : List Int := (List.range (packN bits.length)).map fun j => byteV (((bits.take i).drop (8 * j)).take 8)
def packS (bits : List Bool) : List Int := (List.range (packN bits.length)).map fun j => byteV ((bits.drop (8 * j)).take 8)
theorem packP_len (bits : List Bool) (i : Nat) : (packP bits i).length = packN bits.length := by simp [packP]
theorem packS_len (bits : List Bool) : (packS bits).length = packN bits.length := by simp [packS]
theorem packP_all (bits : List Bool) : packP bits bits.length = packS bits := by unfold packP packS; rw [List.take_length]
theorem packP_zero (bits : List Bool) : packP bits 0 = List.replicate (packN bits.length) 0 := by
  unfold packP
  rw [List.take_zero]
  simp only [List.drop_nil, List.take_nil, byteV]
  exact List.map_const' ..|>.trans (by simp)
theorem chunk_next {bits : List Bool} {i j : Nat} {y : Bool} (hy : bits[i]? = some y) : ((bits.take (i + 1)).drop (8 * j)).take 8 = ((bits.take i).drop (8 * j)).take 8 ++ (if j = i / 8 then [y] else []) := by
  have hi := (List.getElem?_eq_some_iff.1 hy).1
  have e : bits.take (i + 1) = bits.take i ++ [y] := by rw [List.take_add_one, hy]; rfl
  have hl : (bits.take i).length = i := by rw [List.length_take]; omega
  by_cases h : j = i / 8
  · rw [if_pos h, e, List.drop_append_of_le_length (by omega)]
    have h1 : ((bits.take i).drop (8 * j) ++ [y]).length ≤ 8 := by rw [List.length_append, List.length_drop, hl, List.length_singleton]; omega
    rw [List.take_of_length_le h1, List.take_of_length_le (l := (bits.take i).drop (8 * j)) (by rw [List.length_drop, hl]; omega)]
  · rw [if_neg h, List.append_nil]
    by_cases h2 : 8 * j ≤ i
    · rw [e, List.drop_append_of_le_length (by omega), List.take_append_of_le_length (by simp; omega)]
    · rw [List.drop_of_length_le (by simp; omega), List.drop_of_length_le (by simp; omega)]
theorem packP_next {bits : List Bool} {i : Nat} {y : Bool} (hy : bits[i]? = some y) :
    ∃ v, (packP bits i)[i / 8]? = some v ∧ 0 ≤ v ∧ v < 2 ^ (i % 8) ∧ packP bits (i + 1) = (if y = true then (packP bits i).set (i / 8) (v + 2 ^ (i % 8)) else packP bits i) := by
  have hi := (List.getElem?_eq_some_iff.1 hy).1
  have hm : i / 8 < packN bits.length := by unfold packN; omega
  have hlen : ((((bits.take i).drop (8 * (i / 8))).take 8)).length = i % 8 := by simp; omega
  refine ⟨byteV (((bits.take i).drop (8 * (i / 8))).take 8), ?_, (byteV_rng _).1, ?_, ?_⟩
  · unfold packP
    rw [List.getElem?_map, List.getElem?_range hm]
    rfl
  · have := (byteV_rng (((bits.take i).drop (8 * (i / 8))).take 8)).2
    rwa [hlen] at this
  · apply List.ext_getElem?
    intro j
    have hj : ∀ q, (packP bits q)[j]? = if j < packN bits.length then some (byteV (((bits.take q).drop (8 * j)).take 8)) else none := by
      intro q
      unfold packP
      rw [List.getElem?_map]
      split
      · rename_i h; rw [List.getElem?_range h]; rfl
      · rename_i h; rw [List.getElem?_eq_none (by simp; omega)]; rfl
    rw [hj]
    by_cases hjm : j < packN bits.length
    · rw [if_pos hjm, chunk_next hy]
      by_cases hji : j = i / 8
      · rw [if_pos hji, byteV_snoc]
        cases y with
        | true =>
          rw [if_pos rfl, if_pos rfl, hji, hlen, List.getElem?_set_self (by rw [packP_len]; exact hm)]
        | false =>
          rw [if_neg (by decide), if_neg (by decide), hj, if_pos hjm, Int.add_zero]
      · rw [if_neg hji, List.append_nil]
        cases y with
        | true => rw [if_pos rfl, List.getElem?_set_ne (by omega), hj, if_pos hjm]
        | false => rw [if_neg (by decide), hj, if_pos hjm]
    · rw [if_neg hjm]
      cases y with
      | true => rw [if_pos rfl, List.getElem?_set_ne (by omega), hj, if_neg hjm]
      | false => rw [if_neg (by decide), hj, if_neg hjm]
theorem bor_bit {v : Int} {k : Nat} (h0 : 0 ≤ v) (h1 : v < 2 ^ k) (hk : k < 8) : bor .u8 v (shl .u8 1 (k : Int)) = v + 2 ^ k := by
  have key : ∀ (k : Fin 8) (v : Fin 128), v.1 < 2 ^ k.1 → bor .u8 (v.1 : Int) (shl .u8 1 (k.1 : Int)) = (v.1 : Int) + 2 ^ k.1 := by decide +kernel
  obtain ⟨n, rfl⟩ := Int.eq_ofNat_of_zero_le h0
  have h2 : n < 2 ^ k := by exact_mod_cast h1
  have h3 : 2 ^ k ≤ 2 ^ 7 := Nat.pow_le_pow_right (by decide) (by omega)
  exact key ⟨k, hk⟩ ⟨n, by omega⟩ h2
theorem pack_eq {bits : List Bool} (h : bits.length ≤ 100000) : ask_Pack (bits, ()) = some (packS bits, ()) := by
  show ask_Pack_m0 ask_Pack_K1 bits = _
  have hK : ask_Pack_K1 bits (packN bits.length : Int) = some (packS bits, ()) := by
    unfold ask_Pack_K1 ask_Pack_m1
    have hN : packN bits.length ≤ 100000 := by unfold packN; omega
    rw [need_t (by rw [ge_iff]; omega), need_t (capOk_self _), Int.toNat_natCast, need_small (by omega)]
    unfold ask_Pack_K2
    rw [← packP_zero, ← packP_all]
    refine loop_det (mk := fun i => (bits, Int.ofNat bits.length, (i : Int), packP bits i)) (N := bits.length) ?_ ?_ bits.length 0 _ (by omega) (by omega)
    · intro self i hi
      have hy : bits[i]? = some (bits[i]'hi) := List.getElem?_eq_getElem hi
      obtain ⟨v, hv, h0, h1, e⟩ := packP_next hy
      show ask_Pack_m2 _ bits (Int.ofNat bits.length) (i : Int) (packP bits i) = _
      unfold ask_Pack_m2
      have hq : quo .i64 (i : Int) 8 = ((i / 8 : Nat) : Int) := quo_nat (d := 8) (by omega)
      have hr : rem (i : Int) 8 = ((i % 8 : Nat) : Int) := rem_nat (d := 8)
      rw [if_pos (by rw [lt_iff, ofNat_eq]; omega), at_get hy, Option.bind_some, hq, hr, at_get hv, succ64 (by omega)]
      simp only [Option.bind_some]
      rw [need_t (by rw [ge_iff]; omega), bor_bit h0 h1 (Nat.mod_lt _ (by decide)), Int.toNat_natCast, e]
      split <;> rfl
    · intro self
      show ask_Pack_m2 _ bits (Int.ofNat bits.length) (bits.length : Int) (packP bits bits.length) = _
      unfold ask_Pack_m2
      rw [if_neg (by rw [lt_iff, ofNat_eq]; omega)]
  unfold ask_Pack_m0
  have hq : quo .i64 (Int.ofNat bits.length) 8 = ((bits.length / 8 : Nat) : Int) := quo_nat (d := 8) (by omega)
  rw [hq]
  split
  · rename_i h1
    rw [gt_iff, ofNat_eq] at h1
    rw [succ64 (by omega)]
    have : bits.length / 8 + 1 = packN bits.length := by unfold packN; omega
    rw [this]
    exact hK
  · rename_i h1
    rw [gt_iff, ofNat_eq] at h1
    have : bits.length / 8 = packN bits.length := by unfold packN; omega
    rw [this]
    exact hK
def bitV (y : Int) (k : Nat) : Bool := eqi (band .u8 (shr .u8 y (k : Int)) 1) 1
theorem bitV_eq {y : Int} {k : Nat} (h0 : 0 ≤ y) (h1 : y < 256) (hk : k < 8) : bitV y k = decide (y / 2 ^ k % 2 = 1) := by
  have key : ∀ (k : Fin 8) (v : Fin 256), bitV (v.1 : Int) k.1 = decide ((v.1 : Int) / 2 ^ k.1 % 2 = 1) := by decide +kernel
  obtain ⟨n, rfl⟩ := Int.eq_ofNat_of_zero_le h0
  exact key ⟨k, hk⟩ ⟨n, by omega⟩
def unpackS (b : List Int) : List Bool := (List.range (8 * b.length)).map fun i => bitV (b.getD (i / 8) 0) (i % 8)
theorem unpack_eq {b : List Int} (h : b.length ≤ 100000) : ask_Unpack (b, ()) = some (unpackS b, ()) := by
  show ask_Unpack_m0 ask_Unpack_K1 b = _
  unfold ask_Unpack_m0
  have hm : mul .i64 8 (Int.ofNat b.length) = ((8 * b.length : Nat) : Int) := by
    rw [mul64 (by rw [ofNat_eq]; omega) (by rw [ofNat_eq]; omega)]
    simp
  rw [hm, need_t (by rw [ge_iff]; omega), need_t (capOk_self _), Int.toNat_natCast, need_small (by omega), List.length_replicate]
  unfold ask_Unpack_K1 unpackS
  refine (loop_det (mk := fun i => (b, Int.ofNat (8 * b.length), (i : Int), (List.range i).map (fun i => bitV (b.getD (i / 8) 0) (i % 8)) ++ (List.replicate (8 * b.length) false).drop i)) (N := 8 * b.length) ?_ ?_ (8 * b.length) 0 _ (by omega) (by omega))
  · intro self i hi
    show ask_Unpack_m1 _ b (Int.ofNat (8 * b.length)) (i : Int) _ = _
    unfold ask_Unpack_m1
    have hq : quo .i64 (i : Int) 8 = ((i / 8 : Nat) : Int) := quo_nat (d := 8) (by omega)
    have hr : rem (i : Int) 8 = ((i % 8 : Nat) : Int) := rem_nat (d := 8)
    have hlt : i / 8 < b.length := by omega
    have hb : b[i / 8]? = some (b[i / 8]'hlt) := List.getElem?_eq_getElem hlt
    have hlen : ((List.range i).map (fun i => bitV (b.getD (i / 8) 0) (i % 8)) ++ (List.replicate (8 * b.length) false).drop i).length = 8 * b.length := by simp; omega
    have ho : ((List.range i).map (fun i => bitV (b.getD (i / 8) 0) (i % 8)) ++ (List.replicate (8 * b.length) false).drop i)[i]? = some (((List.range i).map (fun i => bitV (b.getD (i / 8) 0) (i % 8)) ++ (List.replicate (8 * b.length) false).drop i)[i]'(by omega)) := List.getElem?_eq_getElem (by omega)
    rw [if_pos (by rw [lt_iff, ofNat_eq]; omega), hq, hr, at_get hb, Option.bind_some, need_t (by rw [ge_iff]; omega), at_get ho, Option.bind_some, Option.bind_some, succ64 (by omega), Int.toNat_natCast]
    have e : eqi (band .u8 (shr .u8 (b[i / 8]'hlt) ((i % 8 : Nat) : Int)) 1) 1 = bitV (b.getD (i / 8) 0) (i % 8) := by
      rw [List.getD_eq_getElem?_getD, hb]
      rfl
    rw [e, fill_step (f := fun i => bitV (b.getD (i / 8) 0) (i % 8)) (by simp; omega)]
  · intro self
    show ask_Unpack_m1 _ b (Int.ofNat (8 * b.length)) ((8 * b.length : Nat) : Int) _ = _
    unfold ask_Unpack_m1
    rw [if_neg (by rw [lt_iff, ofNat_eq]; omega), List.drop_of_length_le (by simp), List.append_nil]
end Go.Proofs.Lx

end

section
/- The bytes of requests. -/
namespace Go.Proofs.Lx
open Go Ev Sx Pl
set_option maxRecDepth 100000
/-- what a right request is -/
inductive RA : TA → Prop where
  | bits (f p n : Int) (hf : f = 1 ∨ f = 2) (h1 : 1 ≤ n) (h2 : n ≤ 2000) : RA (f, p, n, 0, [], [])
  | words (f p n : Int) (hf : f = 3 ∨ f = 4) (h1 : 1 ≤ n) (h2 : n ≤ 125) : RA (f, p, n, 0, [], [])
  | coil (p : Int) (b : Bool) : RA (5, p, 0, 0, [], [b])
  | word (p : Int) (x : Int) : RA (6, p, 0, 0, [x], [])
  | coils (p : Int) (l : List Bool) (h1 : 1 ≤ l.length) (h2 : l.length ≤ 1968) : RA (15, p, (l.length : Int), 0, [], l)
  | regs (p : Int) (l : List Int) (h1 : 1 ≤ l.length) (h2 : l.length ≤ 123) : RA (16, p, (l.length : Int), 0, l, [])
  | swap (p n t : Int) (l : List Int) (h1 : 1 ≤ l.length) (h2 : l.length ≤ 121) (h3 : 1 ≤ n) (h4 : n ≤ 125) : RA (23, p, n, t, l, [])
theorem within0 {n : Int} (h : withinV n 0 = true) : n = 0 := eqi_iff.1 h
theorem within1 {n m : Int} (hm : 0 < m) (h : withinV n m = true) : 1 ≤ n ∧ n ≤ m := by
  unfold withinV at h
  rw [if_neg (by rw [eqi_iff]; omega)] at h
  split at h
  · rename_i h1; exact ⟨ge_iff.1 h1, le_iff.1 h⟩
  · cases h
theorem len0 {α : Type} {l : List α} (h : Int.ofNat l.length = 0) : l = [] := by
  rw [ofNat_eq] at h
  exact List.eq_nil_of_length_eq_zero (by omega)
theorem len1 {α : Type} {l : List α} (h : 1 ≤ Int.ofNat l.length ∧ Int.ofNat l.length ≤ 1) : ∃ x, l = [x] := by
  rw [ofNat_eq] at h
  exact List.length_eq_one_iff.1 (by omega)
theorem rightA_RA {a : TA} (hr : rightA a = true) : RA a := by
  obtain ⟨f, p, n, t, ws, bs⟩ := a
  unfold rightA at hr
  simp only at hr
  rcases shp_cases f with ⟨hf, e⟩ | ⟨hf, e⟩ | ⟨hf, e⟩ | ⟨hf, e⟩ | ⟨hf, e⟩ | ⟨hf, e⟩ | ⟨hf, e⟩ | ⟨hf, e⟩ <;> rw [e] at hr <;> simp only [rightS, Bool.and_eq_true, Bool.false_or, Bool.true_or, Bool.not_false, Bool.not_true, true_and, and_true] at hr
  · obtain ⟨h1, h2, h3, h4⟩ := hr
    have h2 := within1 (by decide) h2
    rw [eqi_iff.1 h1, len0 (within0 h3), len0 (within0 h4)]
    exact .bits f p n hf h2.1 h2.2
  · obtain ⟨h1, h2, h3, h4⟩ := hr
    have h2 := within1 (by decide) h2
    rw [eqi_iff.1 h1, len0 (within0 h3), len0 (within0 h4)]
    exact .words f p n hf h2.1 h2.2
  · obtain ⟨h1, h2, h3, h4⟩ := hr
    obtain ⟨b, rfl⟩ := len1 (within1 (by decide) h3)
    rw [eqi_iff.1 h1, within0 h2, len0 (within0 h4), hf]
    exact .coil p b
  · obtain ⟨h1, h2, h3, h4⟩ := hr
    obtain ⟨b, rfl⟩ := len1 (within1 (by decide) h4)
    rw [eqi_iff.1 h1, within0 h2, len0 (within0 h3), hf]
    exact .word p b
  · obtain ⟨h1, h2, h3, h4, h5⟩ := hr
    have h3 := within1 (by decide) h3
    have e4 := len0 (within0 h4)
    subst e4
    rw [eqi_iff.1 h1, ← eqi_iff.1 h5, hf]
    rw [ofNat_eq] at h3
    exact .coils p bs (by omega) (by omega)
  · obtain ⟨h1, h2, h3, h4, h5⟩ := hr
    have h4 := within1 (by decide) h4
    have e3 := len0 (within0 h3)
    subst e3
    have e5 : (ws.length : Int) = n := by have := eqi_iff.1 h5; simpa using this
    rw [eqi_iff.1 h1, ← e5, hf]
    rw [ofNat_eq] at h4
    exact .regs p ws (by omega) (by omega)
  · obtain ⟨h2, h3, h4⟩ := hr
    have h2 := within1 (by decide) h2
    have h4 := within1 (by decide) h4
    rw [len0 (within0 h3), hf]
    rw [ofNat_eq] at h4
    exact .swap p n t ws (by omega) (by omega) h2.1 h2.2
  · cases hr
def askB (a : TA) : List Int :=
  if a.1 = 5 then a.1 :: two a.2.1 ++ two (if a.2.2.2.2.2.headD false = true then 65280 else 0)
  else if a.1 = 6 then a.1 :: two a.2.1 ++ a.2.2.2.2.1.flatMap two
  else if a.1 = 15 then a.1 :: two a.2.1 ++ two a.2.2.1 ++ [(packN a.2.2.2.2.2.length : Int)] ++ packS a.2.2.2.2.2
  else if a.1 = 16 then a.1 :: two a.2.1 ++ two a.2.2.1 ++ [2 * (a.2.2.2.2.1.length : Int)] ++ a.2.2.2.2.1.flatMap two
  else if a.1 = 23 then a.1 :: two a.2.1 ++ two a.2.2.1 ++ two a.2.2.2.1 ++ two (a.2.2.2.2.1.length : Int) ++ [2 * (a.2.2.2.2.1.length : Int)] ++ a.2.2.2.2.1.flatMap two
  else a.1 :: two a.2.1 ++ two a.2.2.1
theorem flat_two_len (l : List Int) : (l.flatMap two).length = 2 * l.length := by
  induction l with
  | nil => rfl
  | cons x r ih => rw [List.flatMap_cons, List.length_append, ih]; simp [two]; omega
theorem two_len (x : Int) : (two x).length = 2 := rfl
theorem askB_len {a : TA} (h : RA a) : 5 ≤ (askB a).length ∧ (askB a).length ≤ 253 := by
  cases h with
  | bits f p n hf h1 h2 => rcases hf with rfl | rfl <;> exact ⟨Nat.le.refl, (by decide : 5 ≤ 253)⟩
  | words f p n hf h1 h2 => rcases hf with rfl | rfl <;> exact ⟨Nat.le.refl, (by decide : 5 ≤ 253)⟩
  | coil p b => exact ⟨Nat.le.refl, (by decide : 5 ≤ 253)⟩
  | word p x => exact ⟨Nat.le.refl, (by decide : 5 ≤ 253)⟩
  | coils p l h1 h2 =>
    show 5 ≤ ((15 : Int) :: two p ++ two _ ++ [_] ++ packS l).length ∧ ((15 : Int) :: two p ++ two _ ++ [_] ++ packS l).length ≤ 253
    simp only [List.length_append, List.length_cons, List.length_nil, packS_len, two_len]
    unfold packN
    omega
  | regs p l h1 h2 =>
    show 5 ≤ ((16 : Int) :: two p ++ two _ ++ [_] ++ l.flatMap two).length ∧ ((16 : Int) :: two p ++ two _ ++ [_] ++ l.flatMap two).length ≤ 253
    simp only [List.length_append, List.length_cons, List.length_nil, flat_two_len, two_len]
    omega
  | swap p n t l h1 h2 h3 h4 =>
    show 5 ≤ ((23 : Int) :: two p ++ two _ ++ two _ ++ two _ ++ [_] ++ l.flatMap two).length ∧ ((23 : Int) :: two p ++ two _ ++ two _ ++ two _ ++ [_] ++ l.flatMap two).length ≤ 253
    simp only [List.length_append, List.length_cons, List.length_nil, flat_two_len, two_len]
    omega
abbrev BO := Option (As [.sl (.int .u8), .int .i64])
theorem bK0 (f p n : Int) (s1 : Int) (out : List Int) (h5 : f = 1 ∨ f = 2 ∨ f = 3 ∨ f = 4) : ask_Bytes_K1 f p n 0 [] [] s1 0 0 false false out = some (out, 0, ()) := by
  rcases h5 with rfl | rfl | rfl | rfl <;> rfl
theorem bK5 (p : Int) (b : Bool) (out : List Int) : ask_Bytes_K1 5 p 0 0 [] [b] 0 1 0 false false out = Option.bind (ask_numbers ([if b = true then 65280 else 0], out, ())) fun y => (some (y.1, 0, ()) : BO) := by
  cases b <;> rfl
theorem bK6 (p x : Int) (out : List Int) : ask_Bytes_K1 6 p 0 0 [x] [] 0 0 1 false false out = Option.bind (ask_numbers ([x], out, ())) fun y => (some (y.1, 0, ()) : BO) := rfl
theorem bK15 (p n : Int) (l : List Bool) (out : List Int) : ask_Bytes_K1 15 p n 0 [] l 1968 1968 0 false true out =
    Option.bind (ask_Pack (l, ())) fun y => need (small (out.length + 1)) (need (small ((out ++ [Int.ofNat (y.1.length % 256)]).length + y.1.length)) (some (out ++ [Int.ofNat (y.1.length % 256)] ++ y.1, 0, ()) : BO)) := rfl
theorem bK16 (p n : Int) (l : List Int) (out : List Int) : ask_Bytes_K1 16 p n 0 l [] 123 0 123 false true out =
    need (small (out.length + 1)) (Option.bind (ask_numbers (l, out ++ [cvt .u8 (mul .i64 2 (Int.ofNat l.length))], ())) fun y => (some (y.1, 0, ()) : BO)) := rfl
theorem bK23 (p n t : Int) (l : List Int) (out : List Int) : ask_Bytes_K1 23 p n t l [] 125 0 121 true false out =
    Option.bind (ask_numbers ([t, Int.ofNat (l.length % 65536)], out, ())) fun y => need (small (y.1.length + 1)) (Option.bind (ask_numbers (l, y.1 ++ [cvt .u8 (mul .i64 2 (Int.ofNat l.length))], ())) fun y => (some (y.1, 0, ()) : BO)) := rfl
theorem nums1 (x : Int) {out : List Int} (h : out.length ≤ 900000) : ask_numbers ([x], out, ()) = some (out ++ two x, ()) := by
  rw [numbers_eq (by simp; omega)]
  simp
theorem bytes_eq {a : TA} (h : OkA a) : ask_Bytes (a, ()) = if rightA a = true then some (askB a, 0, ()) else some ([], 12, ()) := by
  show ask_Bytes_m0 ask_Bytes_K1 a = _
  unfold ask_Bytes_m0
  rw [right_eq h, Option.bind_some]
  cases hr : rightA a with
  | false => rfl
  | true =>
    have hra := rightA_RA hr
    rw [if_neg (by decide), if_pos rfl, shape_eq, Option.bind_some]
    clear hr h
    have hin : ∀ f p : Int, ask_numbers ([p], [f], ()) = some (f :: two p, ()) := fun f p => nums1 p (by simp)
    have hin2 : ∀ f p n : Int, ask_numbers ([n], f :: two p, ()) = some (f :: two p ++ two n, ()) := fun f p n => nums1 n (by simp [two])
    cases hra with
    | bits f p n hf h1 h2 =>
      rcases hf with rfl | rfl <;> rw [hin, Option.bind_some, if_pos (by rfl), hin2, Option.bind_some]
      · exact bK0 1 p n 2000 _ (.inl rfl)
      · exact bK0 2 p n 2000 _ (.inr (.inl rfl))
    | words f p n hf h1 h2 =>
      rcases hf with rfl | rfl <;> rw [hin, Option.bind_some, if_pos (by rfl), hin2, Option.bind_some]
      · exact bK0 3 p n 125 _ (.inr (.inr (.inl rfl)))
      · exact bK0 4 p n 125 _ (.inr (.inr (.inr rfl)))
    | coil p b =>
      rw [hin, Option.bind_some, if_neg (by show ¬ gt 0 0 = true; decide)]
      exact (bK5 p b _).trans (by rw [nums1 _ (by simp [two]), Option.bind_some]; rfl)
    | word p x =>
      rw [hin, Option.bind_some, if_neg (by show ¬ gt 0 0 = true; decide)]
      exact (bK6 p x _).trans (by rw [nums1 _ (by simp [two]), Option.bind_some]; simp [askB])
    | coils p l h1 h2 =>
      rw [hin, Option.bind_some, if_pos (by rfl), hin2, Option.bind_some]
      refine (bK15 p _ l _).trans ?_
      rw [pack_eq (by omega), Option.bind_some, need_small (by simp [two]), need_small (by simp [two, packS_len, packN]; omega)]
      refine congrArg (fun x => some (x, 0, ())) ?_
      have e : packN l.length % 256 = packN l.length := by unfold packN; omega
      rw [packS_len, e]
      rfl
    | regs p l h1 h2 =>
      rw [hin, Option.bind_some, if_pos (by rfl), hin2, Option.bind_some]
      refine (bK16 p _ l _).trans ?_
      rw [need_small (by simp [two]), mul64 (by rw [ofNat_eq]; omega) (by rw [ofNat_eq]; omega), cvt8, numbers_eq (by simp [two]; omega), Option.bind_some]
      refine congrArg (fun x => some (x, 0, ())) ?_
      have e : (2 * Int.ofNat l.length) % 256 = 2 * (l.length : Int) := by rw [ofNat_eq]; omega
      rw [e]
      rfl
    | swap p n t l h1 h2 h3 h4 =>
      rw [hin, Option.bind_some, if_pos (by rfl), hin2, Option.bind_some]
      refine (bK23 p n t l _).trans ?_
      rw [numbers_eq (by simp [two]), Option.bind_some, need_small (by simp [two]), mul64 (by rw [ofNat_eq]; omega) (by rw [ofNat_eq]; omega), cvt8, numbers_eq (by simp [two]; omega), Option.bind_some]
      refine congrArg (fun x => some (x, 0, ())) ?_
      have e : (2 * Int.ofNat l.length) % 256 = 2 * (l.length : Int) := by rw [ofNat_eq]; omega
      have e2 : Int.ofNat (l.length % 65536) = (l.length : Int) := by rw [ofNat_eq]; omega
      rw [e, e2]
      simp [askB]
end Go.Proofs.Lx

end

section
/- Polls: what they send, by ticks, and which are the same. -/
namespace Pl
open Go Ev Sx
theorem zip_at {α β : Type} {s1 : List α} {s2 : List β} (h : s1.length = s2.length) {i : Nat} {x : α × β} (hx : (s1.zip s2)[i]? = some x) : s1[i]? = some x.1 ∧ s2[i]? = some x.2 := by
  rw [List.getElem?_zip_eq_some] at hx
  exact hx
/-- two rows are compared, element by element -/
theorem goL_eq {α : Type} [DecidableEq α] {ne : α → α → Bool} (hne : ∀ a b, ne a b = !decide (a = b)) : ∀ (s1 s2 : List α), s1.length = s2.length →
    goL (R := Bool × Unit) (fun (_ : Unit) (x : α × α) k => if ne x.1 x.2 = true then some (false, ()) else k ()) (fun _ => some (true, ())) (s1.zip s2) () = some (decide (s1 = s2), ())
  | [], [], _ => rfl
  | a :: r, b :: q, h => by
    rw [List.zip_cons_cons]
    show (if ne a b = true then some (false, ()) else goL _ _ (r.zip q) ()) = _
    rw [hne]
    by_cases e : a = b
    · subst e
      rw [if_neg (by simp), goL_eq hne r q (by simpa using h)]
      simp
    · rw [if_pos (by simp [e])]
      simp [e]
end Pl
namespace Go.Proofs.Lx
open Go Ev Sx Pl
set_option maxRecDepth 100000
theorem equalW_eq {s1 s2 : List Int} (h : s1.length ≤ 1000000) : slices_Equal_Guint16 (s1, s2, ()) = some (decide (s1 = s2), ()) := by
  show slices_Equal_Guint16_m0 slices_Equal_Guint16_K1 s1 s2 = _
  unfold slices_Equal_Guint16_m0
  by_cases hl : s1.length = s2.length
  · rw [if_neg (by rw [nei_iff, ofNat_eq, ofNat_eq]; omega)]
    unfold slices_Equal_Guint16_K1
    have hz : (s1.zip s2).length = s1.length := by rw [List.length_zip]; omega
    rw [← goL_eq (ne := nei) (fun a b => by simp [nei]; rfl) s1 s2 hl]
    refine loop_go (xs := s1.zip s2) (mk := fun i _ => (s1, s2, Int.ofNat s1.length, (i : Int))) ?_ ?_ s1.length 0 () _ (by rw [hz]; omega) (by omega)
    · intro self i acc x hx
      have hi := (List.getElem?_eq_some_iff.1 hx).1
      obtain ⟨h1, h2⟩ := zip_at hl hx
      show slices_Equal_Guint16_m1 _ s1 s2 (Int.ofNat s1.length) (i : Int) = _
      unfold slices_Equal_Guint16_m1
      rw [if_pos (by rw [lt_iff, ofNat_eq]; omega), at_get h1, Option.bind_some, at_get h2, Option.bind_some, succ64 (by omega)]
    · intro self acc
      show slices_Equal_Guint16_m1 _ s1 s2 (Int.ofNat s1.length) (((s1.zip s2).length : Nat) : Int) = _
      unfold slices_Equal_Guint16_m1
      rw [if_neg (by rw [lt_iff, ofNat_eq]; omega)]
  · rw [if_pos (by rw [nei_iff, ofNat_eq, ofNat_eq]; omega), decide_eq_false (fun e => hl (by rw [e]))]
theorem equalB_eq {s1 s2 : List Bool} (h : s1.length ≤ 1000000) : slices_Equal_Gbool (s1, s2, ()) = some (decide (s1 = s2), ()) := by
  show slices_Equal_Gbool_m0 slices_Equal_Gbool_K1 s1 s2 = _
  unfold slices_Equal_Gbool_m0
  by_cases hl : s1.length = s2.length
  · rw [if_neg (by rw [nei_iff, ofNat_eq, ofNat_eq]; omega)]
    unfold slices_Equal_Gbool_K1
    have hz : (s1.zip s2).length = s1.length := by rw [List.length_zip]; omega
    rw [← goL_eq (ne := neb) (fun a b => by cases a <;> cases b <;> rfl) s1 s2 hl]
    refine loop_go (xs := s1.zip s2) (mk := fun i _ => (s1, s2, Int.ofNat s1.length, (i : Int))) ?_ ?_ s1.length 0 () _ (by rw [hz]; omega) (by omega)
    · intro self i acc x hx
      have hi := (List.getElem?_eq_some_iff.1 hx).1
      obtain ⟨h1, h2⟩ := zip_at hl hx
      show slices_Equal_Gbool_m1 _ s1 s2 (Int.ofNat s1.length) (i : Int) = _
      unfold slices_Equal_Gbool_m1
      rw [if_pos (by rw [lt_iff, ofNat_eq]; omega), at_get h1, Option.bind_some, at_get h2, Option.bind_some, succ64 (by omega)]
    · intro self acc
      show slices_Equal_Gbool_m1 _ s1 s2 (Int.ofNat s1.length) (((s1.zip s2).length : Nat) : Int) = _
      unfold slices_Equal_Gbool_m1
      rw [if_neg (by rw [lt_iff, ofNat_eq]; omega)]
  · rw [if_pos (by rw [nei_iff, ofNat_eq, ofNat_eq]; omega), decide_eq_false (fun e => hl (by rw [e]))]
abbrev BB := Option (As [.bool])
theorem if_dec {p : Prop} [Decidable p] {b : Bool} {k : BB} {q : Bool} (h : b = true ↔ p) (hk : p → k = some (q, ())) : (if b = true then k else some (false, ())) = some (decide p && q, ()) := by
  by_cases hp : p
  · rw [if_pos (h.2 hp), hk hp, decide_eq_true hp]; rfl
  · rw [if_neg (fun e => hp (h.1 e)), decide_eq_false hp]; rfl
instance decA5 : DecidableEq (Int × Int × Int × List Int × List Bool) := inferInstance
instance decA : DecidableEq TA := inferInstance
theorem sameA_eq {a b : TA} (h1 : a.2.2.2.2.1.length ≤ 1000000) (h2 : a.2.2.2.2.2.length ≤ 1000000) : ask_Same (a, b, ()) = some (decide (a = b), ()) := by
  show ask_Same_m0 a b = _
  unfold ask_Same_m0
  rw [equalW_eq h1, Option.bind_some, equalB_eq h2, Option.bind_some]
  obtain ⟨a1, a2, a3, a4, a5, a6⟩ := a
  obtain ⟨b1, b2, b3, b4, b5, b6⟩ := b
  rw [if_dec (eqi_iff) fun _ => if_dec (eqi_iff) fun _ => if_dec (eqi_iff) fun _ => if_dec (eqi_iff) fun _ => if_dec (p := a5 = b5) (by simp) fun _ => rfl]
  refine congrArg (fun x => some (x, ())) ?_
  rw [Bool.eq_iff_iff]
  simp [Prod.ext_iff]
abbrev TP := Int × Int × Int × Int × Bool × TA × Int × Int × Int
instance decP1 : DecidableEq (TA × Int × Int × Int) := inferInstance
instance decP2 : DecidableEq (Int × Bool × TA × Int × Int × Int) := inferInstance
instance decP : DecidableEq TP := inferInstance
theorem eqb_iff {a b : Bool} : eqb a b = true ↔ a = b := by cases a <;> cases b <;> decide
theorem samep_eq {a b : TP} (h1 : a.2.2.2.2.2.1.2.2.2.2.1.length ≤ 1000000) (h2 : a.2.2.2.2.2.1.2.2.2.2.2.length ≤ 1000000) : poll_Same (a, b, ()) = some (decide (a = b), ()) := by
  show poll_Same_m0 a b = _
  unfold poll_Same_m0
  rw [sameA_eq h1 h2, Option.bind_some]
  obtain ⟨a1, a2, a3, a4, a5, a6, a7, a8, a9⟩ := a
  obtain ⟨b1, b2, b3, b4, b5, b6, b7, b8, b9⟩ := b
  rw [if_dec (eqi_iff) fun _ => if_dec (eqi_iff) fun _ => if_dec (eqi_iff) fun _ => if_dec (eqi_iff) fun _ => if_dec (eqb_iff) fun _ => if_dec (eqi_iff) fun _ => if_dec (eqi_iff) fun _ => if_dec (eqi_iff) fun _ => rfl]
  refine congrArg (fun x => some (x, ())) ?_
  rw [Bool.eq_iff_iff]
  simp only [Bool.and_eq_true, decide_eq_true_eq, Prod.ext_iff]
  constructor
  · rintro ⟨h1, h2, h3, h4, h5, h6, h7, h8, h9⟩; exact ⟨h1, h2, h3, h4, h5, h9, h6, h7, h8⟩
  · rintro ⟨h1, h2, h3, h4, h5, h9, h6, h7, h8⟩; exact ⟨h1, h2, h3, h4, h5, h6, h7, h8, h9⟩
theorem cloneW_eq {s : List Int} (h : s.length ≤ 1000000) : slices_Clone_Guint16 (s, ()) = some (s, ()) := by
  show slices_Clone_Guint16_m0 s = _
  unfold slices_Clone_Guint16_m0
  split
  · rename_i h0
    rw [len0 (eqi_iff.1 h0)]
    rfl
  · rw [need_small (by omega)]
    rfl
theorem cloneB_eq {s : List Bool} (h : s.length ≤ 1000000) : slices_Clone_Gbool (s, ()) = some (s, ()) := by
  show slices_Clone_Gbool_m0 s = _
  unfold slices_Clone_Gbool_m0
  split
  · rename_i h0
    rw [len0 (eqi_iff.1 h0)]
    rfl
  · rw [need_small (by omega)]
    rfl
theorem copied_eq {a : TA} (h1 : a.2.2.2.2.1.length ≤ 1000000) (h2 : a.2.2.2.2.2.length ≤ 1000000) : poll_copied (a, ()) = some (a, ()) := by
  show poll_copied_m0 a = _
  unfold poll_copied_m0
  rw [cloneW_eq h1, Option.bind_some, cloneB_eq h2, Option.bind_some]
theorem own_eq {p : TP} (h1 : p.2.2.2.2.2.1.2.2.2.2.1.length ≤ 1000000) (h2 : p.2.2.2.2.2.1.2.2.2.2.2.length ≤ 1000000) : poll_own (p, ()) = some (p, ()) := by
  show poll_own_m0 p = _
  unfold poll_own_m0
  rw [copied_eq h1 h2, Option.bind_some]
/-! ### frames -/
def mbapV (tx unit : Int) (pdu : List Int) : List Int := [tx / 256 % 256, tx % 256, 0, 0, 0, (pdu.length + 1 : Nat) % 256, unit] ++ pdu
theorem mbap_eq {tx unit : Int} {pdu : List Int} (h1 : 1 ≤ pdu.length) (h2 : pdu.length ≤ 253) : mbap_Pack ((tx, unit, pdu), ()) = some (mbapV tx unit pdu, 0, ()) := by
  show mbap_Pack_m0 mbap_Pack_K1 (tx, unit, pdu) = _
  unfold mbap_Pack_m0
  rw [if_neg (by rw [lt_iff]; simp only [ofNat_eq]; omega)]
  show mbap_Pack_m1 (Int.ofNat pdu.length) (gt (Int.ofNat pdu.length) 253) tx unit pdu = _
  unfold mbap_Pack_m1
  have e : add .i64 7 (Int.ofNat pdu.length) = ((7 + pdu.length : Nat) : Int) := addn64 (n := 7) (by omega)
  rw [if_neg (by rw [gt_iff, ofNat_eq]; omega), e, need_t (capOk_0 (by omega)), need_t (by rw [small_iff]; omega), need_small (by omega), need_small (by simp; omega), cvt8, cvt8, cvt8, shr8 _ _ (by decide), ofNat_eq, succ64 (by omega)]
  rfl
def frameV (link unit tx : Int) (a : TA) : List Int := if link = 2 then mbapV tx unit (askB a) else putV (unit :: askB a)
theorem tcpf_eq {unit tx : Int} {a : TA} (h : OkA a) (hr : rightA a = true) : poll_tcp_frame ((), unit, tx, a, ()) = some (mbapV tx unit (askB a), ()) := by
  show poll_tcp_frame_m0 () unit tx a = _
  unfold poll_tcp_frame_m0
  have hl := askB_len (rightA_RA hr)
  rw [bytes_eq h, if_pos hr, Option.bind_some, if_neg (by show ¬ nei 0 0 = true; decide)]
  dsimp only
  rw [mbap_eq (by omega) (by omega), Option.bind_some, if_neg (by show ¬ nei 0 0 = true; decide)]
theorem rtub_eq {unit : Int} {pdu : List Int} (hu : 1 ≤ unit) (hu2 : unit ≤ 247) (h1 : 1 ≤ pdu.length) (h2 : pdu.length ≤ 253) : rtu_Bytes (unit, pdu, ()) = some (putV (unit :: pdu), 0, ()) := by
  show rtu_Bytes_m0 rtu_Bytes_K1 unit pdu = _
  unfold rtu_Bytes_m0
  have e : rtu_isUnit (unit, ()) = some (true, ()) := by
    show rtu_isUnit_m0 unit = _
    unfold rtu_isUnit_m0
    rw [if_pos (ge_iff.2 hu), le_iff.2 hu2]
  rw [e, Option.bind_some, if_neg (by decide), if_neg (by rw [lt_iff, ofNat_eq]; omega)]
  show rtu_Bytes_m1 unit pdu (gt (Int.ofNat pdu.length) 253) = _
  unfold rtu_Bytes_m1
  rw [if_neg (by rw [gt_iff, ofNat_eq]; omega), need_small (by omega), put_eq (by simp; omega), Option.bind_some]
theorem serf_eq {unit tx : Int} {a : TA} (h : OkA a) (hr : rightA a = true) (hu : 1 ≤ unit) (hu2 : unit ≤ 247) : poll_serial_frame ((), unit, tx, a, ()) = some (putV (unit :: askB a), ()) := by
  show poll_serial_frame_m0 () unit tx a = _
  unfold poll_serial_frame_m0
  have hl := askB_len (rightA_RA hr)
  have e : rtu_Ask (unit, a, ()) = some (putV (unit :: askB a), 0, ()) := by
    show rtu_Ask_m0 unit a = _
    unfold rtu_Ask_m0
    rw [bytes_eq h, if_pos hr, Option.bind_some, if_neg (by show ¬ nei 0 0 = true; decide)]
    dsimp only
    rw [rtub_eq hu hu2 (by omega) (by omega), Option.bind_some]
  rw [e, Option.bind_some, if_neg (by show ¬ nei 0 0 = true; decide)]
/-- a poll that may be -/
structure OkP (p : TP) : Prop where
  u0 : 1 ≤ p.1
  u1 : p.1 ≤ 247
  l : p.2.1 = 1 ∨ p.2.1 = 2
  t0 : 1 ≤ p.2.2.1
  t1 : p.2.2.1 ≤ 100000
  r0 : 0 ≤ p.2.2.2.1
  r1 : p.2.2.2.1 ≤ 1000
  a : OkA p.2.2.2.2.2.1
  x0 : 0 ≤ p.2.2.2.2.2.2.1
  x1 : p.2.2.2.2.2.2.1 ≤ 65535
def nextV (link tx : Int) : Int := if link = 2 then (tx + 1) % 65536 else tx
def sentP (p : TP) : TP := (p.1, p.2.1, p.2.2.1, p.2.2.2.1, p.2.2.2.2.1, p.2.2.2.2.2.1, nextV p.2.1 p.2.2.2.2.2.2.1, p.2.2.1, p.2.2.2.2.2.2.2.2)
def sentB (p : TP) : List Int := frameV p.2.1 p.1 (nextV p.2.1 p.2.2.2.2.2.2.1) p.2.2.2.2.2.1
theorem sent_eq {p : TP} (h : OkP p) (hr : rightA p.2.2.2.2.2.1 = true) : poll_sent (p, ()) = some (sentP p, sentB p, ()) := by
  show poll_sent_m0 p = _
  unfold poll_sent_m0 sentP sentB frameV nextV
  by_cases hl : p.2.1 = 2
  · have e : poll_tcp_next ((), p.2.2.2.2.2.2.1, ()) = some ((p.2.2.2.2.2.2.1 + 1) % 65536, ()) := congrArg (fun x => some (x, ())) (wr16 _)
    rw [if_pos (eqi_iff.2 hl), e, Option.bind_some, tcpf_eq h.a hr, Option.bind_some, if_pos hl, if_pos hl]
  · have e : poll_serial_next ((), p.2.2.2.2.2.2.1, ()) = some (p.2.2.2.2.2.2.1, ()) := rfl
    rw [if_neg (fun e => hl (eqi_iff.1 e)), e, Option.bind_some, serf_eq h.a hr h.u0 h.u1, Option.bind_some, if_neg hl, if_neg hl]
theorem putV_len (b : List Int) : (putV b).length = b.length + 2 := by simp [putV]
theorem sentB_len {p : TP} (hr : rightA p.2.2.2.2.2.1 = true) : 8 ≤ (sentB p).length ∧ (sentB p).length ≤ 260 := by
  have hl := askB_len (rightA_RA hr)
  unfold sentB frameV
  split
  · simp [mbapV]; omega
  · rw [putV_len]; simp; omega
/-! ### what is done with a poll -/
def zA : TA := (0, 0, 0, 0, [], [])
def waitP (p : TP) (a : TA) : TP := (p.1, p.2.1, p.2.2.1, p.2.2.2.1, true, a, p.2.2.2.2.2.2.1, p.2.2.2.2.2.2.2.1, p.2.2.2.1)
theorem send_eq {p : TP} {a : TA} (h : OkP p) (ha : OkA a) : poll_Send (p, a, ()) =
    if p.2.2.2.2.1 = true then some (p, [], 30, ()) else if rightA a = true then some (sentP (waitP p a), sentB (waitP p a), 0, ()) else some (p, [], 12, ()) := by
  show poll_Send_m0 p a = _
  unfold poll_Send_m0
  have h1 := h.a.lw
  have h2 := h.a.lb
  have h3 := ha.lw
  have h4 := ha.lb
  rw [own_eq (by omega) (by omega), Option.bind_some, right_eq ha, Option.bind_some]
  split
  · rfl
  · cases hr : rightA a with
    | false => rfl
    | true =>
      rw [if_neg (by decide), if_pos rfl, copied_eq (by omega) (by omega), Option.bind_some]
      dsimp only
      have hw : OkP (waitP p a) := ⟨h.u0, h.u1, h.l, h.t0, h.t1, h.r0, h.r1, ha, h.x0, h.x1⟩
      have e := sent_eq hw hr
      unfold waitP at e
      rw [e]
      rfl
def dropP (p : TP) : TP := (p.1, p.2.1, p.2.2.1, p.2.2.2.1, false, zA, p.2.2.2.2.2.2.1, 0, 0)
theorem drop_eq (p : TP) : poll_Drop (p, ()) = some (dropP p, ()) := rfl
def leftP (p : TP) (n : Int) : TP := (p.1, p.2.1, p.2.2.1, p.2.2.2.1, p.2.2.2.2.1, p.2.2.2.2.2.1, p.2.2.2.2.2.2.1, n, p.2.2.2.2.2.2.2.2)
def againP (p : TP) (n m : Int) : TP := (p.1, p.2.1, p.2.2.1, p.2.2.2.1, p.2.2.2.2.1, p.2.2.2.2.2.1, p.2.2.2.2.2.2.1, n, m)
def tickV (p : TP) : TP × List Int × Bool :=
  if p.2.2.2.2.1 = true then
    if p.2.2.2.2.2.2.2.1 = 1 then
      if 0 < p.2.2.2.2.2.2.2.2 then (sentP (againP p 0 (p.2.2.2.2.2.2.2.2 - 1)), sentB (againP p 0 (p.2.2.2.2.2.2.2.2 - 1)), false)
      else (dropP p, [], true)
    else (leftP p (p.2.2.2.2.2.2.2.1 - 1), [], false)
  else (p, [], false)
theorem tick_eq {p : TP} (h : OkP p) (hr : p.2.2.2.2.1 = true → rightA p.2.2.2.2.2.1 = true ∧ 1 ≤ p.2.2.2.2.2.2.2.1 ∧ p.2.2.2.2.2.2.2.1 ≤ 100000 ∧ 0 ≤ p.2.2.2.2.2.2.2.2 ∧ p.2.2.2.2.2.2.2.2 ≤ 1000) :
    poll_Tick (p, ()) = some ((tickV p).1, (tickV p).2.1, (tickV p).2.2, ()) := by
  show poll_Tick_m0 p = _
  unfold poll_Tick_m0
  have h1 := h.a.lw
  have h2 := h.a.lb
  rw [own_eq (by omega) (by omega), Option.bind_some]
  dsimp only
  unfold tickV
  by_cases hw : p.2.2.2.2.1 = true
  · obtain ⟨q1, q2, q3, q4, q5⟩ := hr hw
    rw [if_neg (by rw [hw]; decide), if_pos hw, sub64 (by omega) (by omega)]
    by_cases hl : p.2.2.2.2.2.2.2.1 = 1
    · rw [if_neg (by rw [nei_iff]; omega), if_pos hl]
      by_cases hg : 0 < p.2.2.2.2.2.2.2.2
      · rw [if_pos (by rw [gt_iff]; omega), if_pos hg, sub64 (by omega) (by omega), hl]
        have e0 : (1 : Int) - 1 = 0 := rfl
        rw [e0]
        have hw' : OkP (againP p 0 (p.2.2.2.2.2.2.2.2 - 1)) := ⟨h.u0, h.u1, h.l, h.t0, h.t1, h.r0, h.r1, h.a, h.x0, h.x1⟩
        have e := sent_eq hw' q1
        unfold againP at e
        rw [e]
        rfl
      · rw [if_neg (by rw [gt_iff]; omega), if_neg hg, drop_eq, Option.bind_some]
        rfl
    · rw [if_pos (by rw [nei_iff]; omega), if_neg hl]
      rfl
  · have hw' : p.2.2.2.2.1 = false := by simpa using hw
    rw [if_pos (by rw [hw']; rfl), if_neg hw]
def rangesV (u l t r : Int) : Bool := decide ((1 ≤ u ∧ u ≤ 247) ∧ (l = 1 ∨ l = 2) ∧ (1 ≤ t ∧ t ≤ 100000) ∧ 0 ≤ r ∧ r ≤ 1000)
theorem ranges_eq (u l t r : Int) : poll_ranges (u, l, t, r, ()) = some (rangesV u l t r, ()) := by
  show poll_ranges_m0 u l t r = _
  unfold poll_ranges_m0 rangesV
  simp only [ge_iff, le_iff, eqi_iff]
  by_cases h1 : 1 ≤ u <;> by_cases h2 : u ≤ 247 <;> by_cases h5 : 1 ≤ t <;> by_cases h6 : t ≤ 100000 <;> by_cases h7 : 0 ≤ r <;> simp only [h1, h2, h5, h6, h7, if_true, if_false, true_and, false_and, and_false, and_true] <;>
    by_cases h3 : l = 1 <;> by_cases h4 : l = 2 <;> simp [h3, h4, le] <;> omega
def zP : TP := (0, 0, 0, 0, false, zA, 0, 0, 0)
theorem new_eq (u l t r : Int) : poll_New (u, l, t, r, ()) = if rangesV u l t r = true then some ((u, l, t, r, false, zA, 0, 0, 0), 0, ()) else some (zP, 2, ()) := by
  show poll_New_m0 u l t r = _
  unfold poll_New_m0
  rw [ranges_eq, Option.bind_some]
  cases rangesV u l t r <;> rfl
end Go.Proofs.Lx

end

section
/- PollNone, as a plain law. -/
namespace Pl
open Go Ev Sx
theorem ok8 {x : Int} (h : (Lit.int .u8 x).wf = true) : 0 ≤ x ∧ x ≤ 255 := by
  simp [Lit.wf] at h
  have e1 : IntKind.u8.min = 0 := rfl
  have e2 : IntKind.u8.max = 255 := rfl
  omega
theorem ok16 {x : Int} (h : (Lit.int .u16 x).wf = true) : 0 ≤ x ∧ x ≤ 65535 := by
  simp [Lit.wf] at h
  have e1 : IntKind.u16.min = 0 := rfl
  have e2 : IntKind.u16.max = 65535 := rfl
  omega
theorem ok64 {x : Int} (h : (Lit.int .i64 x).wf = true) : -9223372036854775808 ≤ x ∧ x ≤ 9223372036854775807 := by
  simp [Lit.wf] at h
  have e1 : IntKind.i64.min = -9223372036854775808 := rfl
  have e2 : IntKind.i64.max = 9223372036854775807 := rfl
  omega
end Pl
namespace Go.Proofs.Lx
open Go Ev Sx Pl
set_option maxRecDepth 100000
def fewV (ws : List Int) (bs : List Bool) : Bool := decide (ws.length ≤ 200) && decide (bs.length ≤ 2100)
theorem few_eq (ws : List Int) (bs : List Bool) : low_Few (ws, bs, ()) = some (fewV ws bs, ()) := by
  show low_Few_m0 ws bs = _
  unfold low_Few_m0 fewV
  by_cases h : ws.length ≤ 200
  · rw [if_pos (by rw [le_iff, ofNat_eq]; omega), decide_eq_true h, Bool.true_and, le_dec]
    refine congrArg (fun x => some (x, ())) ?_
    rw [ofNat_eq]
    by_cases h2 : bs.length ≤ 2100
    · rw [decide_eq_true h2, decide_eq_true (by omega)]
    · rw [decide_eq_false h2, decide_eq_false (by omega)]
  · rw [if_neg (by rw [le_iff, ofNat_eq]; omega), decide_eq_false h]
    rfl
theorem few_iff {ws : List Int} {bs : List Bool} : fewV ws bs = true ↔ ws.length ≤ 200 ∧ bs.length ≤ 2100 := by simp [fewV]
abbrev tA : Ty := .pr (.int .u8) (.pr (.int .u16) (.pr (.int .u16) (.pr (.int .u16) (.pr (.sl (.int .u16)) (.sl .bool)))))
theorem okA_of {a : TA} (h : Rw.okV tA a) (hf : fewV a.2.2.2.2.1 a.2.2.2.2.2 = true) : OkA a := by
  obtain ⟨h1, h2, h3, h4, h5, h6⟩ := h
  have hf := few_iff.1 hf
  exact ⟨(ok8 h1).1, (ok8 h1).2, (ok16 h2).1, (ok16 h2).2, (ok16 h3).1, (ok16 h3).2, (ok16 h4).1, (ok16 h4).2, fun x hx => ok16 (h5.2 x hx), by omega, by omega⟩
theorem awake22 : law22_awake () = some (true, ()) := by kernel_rfl
theorem zA_ok : OkA zA := ⟨by decide, by decide, by decide, by decide, by decide, by decide, by decide, by decide, by simp [zA], by decide, by decide⟩
theorem ranges_if {β : Type} (J : Bool → β) (u l t r : Int) : (if ge u 1 = true then if le u 247 = true then if eqi l 1 = true then if ge t 1 = true then if le t 100000 = true then if ge r 0 = true then J (le r 1000) else J false else J false else J false else
    if eqi l 2 = true then if ge t 1 = true then if le t 100000 = true then if ge r 0 = true then J (le r 1000) else J false else J false else J false else J false else J false else J false) = J (rangesV u l t r) := by
  have h := ranges_eq u l t r
  have h : poll_ranges_m0 u l t r = _ := h
  unfold poll_ranges_m0 at h
  revert h
  generalize rangesV u l t r = q
  generalize ge u 1 = b1
  generalize le u 247 = b2
  generalize eqi l 1 = b3
  generalize eqi l 2 = b4
  generalize ge t 1 = b5
  generalize le t 100000 = b6
  generalize ge r 0 = b7
  generalize le r 1000 = b8
  intro h
  cases b1 <;> cases b2 <;> cases b3 <;> cases b4 <;> cases b5 <;> cases b6 <;> cases b7 <;> cases h <;> rfl
theorem rangesV_ok {u l t r : Int} (h : rangesV u l t r = true) : OkP (u, l, t, r, false, zA, 0, 0, 0) := by
  have h := of_decide_eq_true h
  exact ⟨h.1.1, h.1.2, h.2.1, h.2.2.1.1, h.2.2.1.2, h.2.2.2.1, h.2.2.2.2, zA_ok, by show (0 : Int) ≤ 0; decide, by show (0 : Int) ≤ 65535; decide⟩
theorem none_law (unit link timeout retries : Int) (a : TA) (ticks : Int) (ha : Rw.okV tA a) (ht : 0 ≤ ticks ∧ ticks ≤ 255) : law22_PollNone (unit, link, timeout, retries, a, ticks, ()) = some (true, ()) := by
  show law22_PollNone_m0 law22_PollNone_K1 unit link timeout retries a ticks = _
  unfold law22_PollNone_m0
  rw [few_eq, Option.bind_some, awake22, Option.bind_some]
  cases hf : fewV a.2.2.2.2.1 a.2.2.2.2.2 with
  | false => rfl
  | true =>
    have hA := okA_of ha hf
    rw [if_neg (by decide), new_eq]
    cases hr : rangesV unit link timeout retries with
    | false =>
      rw [if_neg (by decide), Option.bind_some]
      refine (ranges_if (fun b => law22_PollNone_K1 ticks 2 b a.1 a.2.1 a.2.2.1 a.2.2.2.1 a.2.2.2.2.1 a.2.2.2.2.2 0 0 0 0 false 0 0 0 0 [] [] 0 0 0) unit link timeout retries).trans ?_
      rw [hr]
      show Option.bind (law22_awake ()) (fun y => some (y.1, ())) = _
      rw [awake22]
      rfl
    | true =>
      rw [if_pos rfl, Option.bind_some]
      refine (ranges_if (fun b => law22_PollNone_K1 ticks 0 b a.1 a.2.1 a.2.2.1 a.2.2.2.1 a.2.2.2.2.1 a.2.2.2.2.2 unit link timeout retries false 0 0 0 0 [] [] 0 0 0) unit link timeout retries).trans ?_
      rw [hr]
      show law22_PollNone_K3 ticks 0 a.1 a.2.1 a.2.2.1 a.2.2.2.1 a.2.2.2.2.1 a.2.2.2.2.2 unit link timeout retries false 0 0 0 0 [] [] 0 0 0 = _
      unfold law22_PollNone_K3
      have hP := rangesV_ok hr
      obtain ⟨N, rfl⟩ := Int.eq_ofNat_of_zero_le ht.1
      refine loop_det (mk := fun i => ((N : Int), (i : Int), a.1, a.2.1, a.2.2.1, a.2.2.2.1, a.2.2.2.2.1, a.2.2.2.2.2, unit, link, timeout, retries, false, 0, 0, 0, 0, [], [], 0, 0, 0)) (N := N) ?_ ?_ N 0 _ (by omega) (by omega)
      · intro self i hi
        show law22_PollNone_m3 _ _ _ (N : Int) (i : Int) a.1 a.2.1 a.2.2.1 a.2.2.2.1 a.2.2.2.2.1 a.2.2.2.2.2 unit link timeout retries false 0 0 0 0 [] [] 0 0 0 = _
        unfold law22_PollNone_m3
        have et : poll_Tick ((unit, link, timeout, retries, false, (0, 0, 0, 0, [], []), 0, 0, 0), ()) = some ((unit, link, timeout, retries, false, zA, 0, 0, 0), [], false, ()) := tick_eq hP (fun h => by cases h)
        have es : poll_Same ((unit, link, timeout, retries, false, (0, 0, 0, 0, [], []), 0, 0, 0), (unit, link, timeout, retries, false, zA, 0, 0, 0), ()) = some (true, ()) := by
          rw [samep_eq (by show 0 ≤ 1000000; decide) (by show 0 ≤ 1000000; decide)]
          simp [zA]
        rw [if_pos (by rw [lt_iff]; omega), et, Option.bind_some, if_neg (by show ¬ gt 0 0 = true; decide), if_neg (by show ¬ false = true; decide), es, Option.bind_some]
        show law22_PollNone_m4 _ (N : Int) (i : Int) false a.1 a.2.1 a.2.2.1 a.2.2.2.1 a.2.2.2.2.1 a.2.2.2.2.2 unit link timeout retries false 0 0 0 0 [] [] 0 0 0 = _
        unfold law22_PollNone_m4
        have ea : add .u8 (i : Int) 1 = ((i + 1 : Nat) : Int) := by
          unfold add
          rw [wu8 (by omega) (by omega)]
          rfl
        rw [if_neg (by decide), ea]
      · intro self
        show law22_PollNone_m3 _ _ _ (N : Int) (N : Int) a.1 a.2.1 a.2.2.1 a.2.2.2.1 a.2.2.2.2.1 a.2.2.2.2.2 unit link timeout retries false 0 0 0 0 [] [] 0 0 0 = _
        unfold law22_PollNone_m3
        rw [if_neg (by rw [lt_iff]; omega)]
        show law22_PollNone_m5 a.1 a.2.1 a.2.2.1 a.2.2.2.1 a.2.2.2.2.1 a.2.2.2.2.2 unit link timeout retries false 0 0 0 0 [] [] 0 0 0 = _
        unfold law22_PollNone_m5
        have es : poll_Send ((unit, link, timeout, retries, false, (0, 0, 0, 0, [], []), 0, 0, 0), (a.1, a.2.1, a.2.2.1, a.2.2.2.1, a.2.2.2.2.1, a.2.2.2.2.2), ()) = _ := send_eq hP hA
        have er : ask_Right ((a.1, a.2.1, a.2.2.1, a.2.2.2.1, a.2.2.2.2.1, a.2.2.2.2.2), ()) = _ := right_eq hA
        rw [es, er, if_neg (by show ¬ false = true; decide), awake22]
        cases hq : rightA a with
        | true => rfl
        | false =>
          rw [if_neg (by decide), Option.bind_some, Option.bind_some]
          have es : poll_Same ((unit, link, timeout, retries, false, (0, 0, 0, 0, [], []), 0, 0, 0), (unit, link, timeout, retries, false, zA, 0, 0, 0), ()) = some (true, ()) := by
            rw [samep_eq (by show 0 ≤ 1000000; decide) (by show 0 ≤ 1000000; decide)]
            simp [zA]
          rw [if_pos (by show eqb (eqi 12 0) false = true; decide), if_neg (by show ¬ eqi 12 0 = true; decide), if_pos (by show eqi 12 12 = true; decide), if_pos (by show eqi 0 0 = true; decide)]
          dsimp only
          rw [show zA = (0, 0, 0, 0, [], []) from rfl] at es
          rw [es]
          rfl
theorem none_row (x : As [.int .u8, .int .u8, .int .i64, .int .i64, tA, .int .u8]) (h : Rw.okA [.int .u8, .int .u8, .int .i64, .int .i64, tA, .int .u8] x) : law22_PollNone x = some (true, ()) :=
  none_law x.1 x.2.1 x.2.2.1 x.2.2.2.1 x.2.2.2.2.1 x.2.2.2.2.2.1 h.2.2.2.2.1 (ok8 h.2.2.2.2.2.1)
end Go.Proofs.Lx

end
