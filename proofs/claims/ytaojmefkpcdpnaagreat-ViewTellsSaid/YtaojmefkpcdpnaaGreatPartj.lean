/- Proved in the last of these 12 parts (this is part 10): what registers show, what is replied, and which lines a memory shows, is exactly as the document defines. Conditions: those of the given statement, and no others. -/
import Derived.Test.YtaojmefkpcdpnaaGreatParti
import Derived.Test.YtaojmefkpcdpnaaGreatParte
set_option linter.unusedVariables false
set_option linter.unusedSimpArgs false
set_option linter.unusedSectionVars false
section
namespace Pl
open Go Ev Sx
theorem loop_det {σ R : Type} {F : (σ -> Option R) -> σ -> Option R} {mk : Nat -> σ} {N : Nat} {r : Option R} (hs : ∀ self i, i < N -> F self (mk i) = self (mk (i + 1))) (he : ∀ self, F self (mk N) = r) :
    ∀ (k i n : Nat), i + k = N -> k < n -> loopF F n (mk i) = r
  | _, _, 0, _, h => by omega
  | 0, i, n + 1, h, _ => by
    have : i = N := by omega
    subst this
    rw [loopF_succ, he]
  | k + 1, i, n + 1, h, hn => by rw [loopF_succ, hs _ _ (by omega), loop_det hs he k (i + 1) n (by omega) (by omega)]
theorem quo_nat {i d : Nat} (hi : i < 4611686018427387904) : quo .i64 (i : Int) (d : Int) = ((i / d : Nat) : Int) := by
  unfold quo
  have h := Nat.div_le_self i d
  have e : (i : Int).tdiv (d : Int) = ((i / d : Nat) : Int) := by rw [Int.ofNat_tdiv]
  rw [e]
  generalize i / d = q at h ⊢
  exact w64 (by omega) (by omega)
theorem rem_nat {i d : Nat} : rem (i : Int) (d : Int) = ((i % d : Nat) : Int) := by
  unfold rem
  rw [Int.ofNat_tmod]
theorem fill_step {α : Type} {f : Nat -> α} {init : List α} {i : Nat} (hi : i < init.length) : ((List.range i).map f ++ init.drop i).set i (f i) = (List.range (i + 1)).map f ++ init.drop (i + 1) := by
  rw [List.drop_eq_getElem_cons hi, List.set_append_right _ _ (by simp)]
  simp only [List.length_map, List.length_range, Nat.sub_self, List.set_cons_zero, List.range_succ, List.map_append, List.map_cons, List.map_nil, List.append_assoc, List.singleton_append]
end Pl
namespace Go.Proofs.Lx
open Go Ev Sx Pl
set_option maxRecDepth 100000
def byteV : List Bool -> Int
  | [] => 0
  | b :: r => (if b = true then 1 else 0) + 2 * byteV r
theorem byteV_rng : ∀ t : List Bool, 0 ≤ byteV t ∧ byteV t < 2 ^ t.length
  | [] => by simp [byteV]
  | b :: r => by
    have := byteV_rng r
    rw [List.length_cons, Int.pow_succ]
    unfold byteV
    split <;> omega
theorem byteV_snoc (b : Bool) : ∀ t : List Bool, byteV (t ++ [b]) = byteV t + (if b = true then 2 ^ t.length else 0)
  | [] => by cases b <;> rfl
  | a :: r => by
    rw [List.cons_append]
    unfold byteV
    rw [byteV_snoc b r, List.length_cons, Int.pow_succ]
    cases b <;> simp <;> omega
theorem byteV_bit : ∀ (t : List Bool) (k : Nat), byteV t / 2 ^ k % 2 = (if t.getD k false = true then 1 else 0)
  | [], k => by simp [byteV]
  | b :: r, 0 => by
    unfold byteV
    cases b <;> simp <;> omega
  | b :: r, k + 1 => by
    have := byteV_bit r k
    rw [List.getD_cons_succ, <- this]
    have e : ((if b = true then (1 : Int) else 0) + 2 * byteV r) / 2 ^ (k + 1) = byteV r / 2 ^ k := by
      rw [Int.pow_succ, Int.mul_comm (2 ^ k) 2, <- Int.ediv_ediv_of_nonneg (by decide)]
      congr 1
      split <;> omega
    show ((if b = true then (1 : Int) else 0) + 2 * byteV r) / 2 ^ (k + 1) % 2 = _
    rw [e]
def packN (n : Nat) : Nat := (n + 7) / 8
def packP (bits : List Bool) (i : Nat) : List Int := (List.range (packN bits.length)).map fun j => byteV (((bits.take i).drop (8 * j)).take 8)
def packS (bits : List Bool) : List Int := (List.range (packN bits.length)).map fun j => byteV ((bits.drop (8 * j)).take 8)
theorem packP_len (bits : List Bool) (i : Nat) : (packP bits i).length = packN bits.length := by simp [packP]
theorem packS_len (bits : List Bool) : (packS bits).length = packN bits.length := by simp [packS]
theorem packP_all (bits : List Bool) : packP bits bits.length = packS bits := by unfold packP packS; rw [List.take_length]
theorem packP_zero (bits : List Bool) : packP bits 0 = List.replicate (packN bits.length) 0 := by
  unfold packP
  rw [List.take_zero]
  simp only [List.drop_nil, List.take_nil, byteV]
  exact List.map_const' ..|>.trans (by simp)
theorem chunk_next {bits : List Bool} {i j : Nat} {y : Bool} (hy : bits[i]? = some y) : ((bits.take (i + 1)).drop (8 * j)).take 8 = ((bits.take i).drop (8 * j)).take 8 ++ (if j = i / 8 then [y] else []) := by
  have hi := (List.getElem?_eq_some_iff.1 hy).1
  have e : bits.take (i + 1) = bits.take i ++ [y] := by rw [List.take_add_one, hy]; rfl
  have hl : (bits.take i).length = i := by rw [List.length_take]; omega
  by_cases h : j = i / 8
  · rw [if_pos h, e, List.drop_append_of_le_length (by omega)]
    have h1 : ((bits.take i).drop (8 * j) ++ [y]).length ≤ 8 := by rw [List.length_append, List.length_drop, hl, List.length_singleton]; omega
    rw [List.take_of_length_le h1, List.take_of_length_le (l := (bits.take i).drop (8 * j)) (by rw [List.length_drop, hl]; omega)]
  · rw [if_neg h, List.append_nil]
    by_cases h2 : 8 * j ≤ i
    · rw [e, List.drop_append_of_le_length (by omega), List.take_append_of_le_length (by simp; omega)]
    · rw [List.drop_of_length_le (by simp; omega), List.drop_of_length_le (by simp; omega)]
theorem packP_next {bits : List Bool} {i : Nat} {y : Bool} (hy : bits[i]? = some y) :
    ∃ v, (packP bits i)[i / 8]? = some v ∧ 0 ≤ v ∧ v < 2 ^ (i % 8) ∧ packP bits (i + 1) = (if y = true then (packP bits i).set (i / 8) (v + 2 ^ (i % 8)) else packP bits i) := by
  have hi := (List.getElem?_eq_some_iff.1 hy).1
  have hm : i / 8 < packN bits.length := by unfold packN; omega
  have hlen : ((((bits.take i).drop (8 * (i / 8))).take 8)).length = i % 8 := by simp; omega
  refine ⟨byteV (((bits.take i).drop (8 * (i / 8))).take 8), ?_, (byteV_rng _).1, ?_, ?_⟩
  · unfold packP
    rw [List.getElem?_map, List.getElem?_range hm]
    rfl
  · have := (byteV_rng (((bits.take i).drop (8 * (i / 8))).take 8)).2
    rwa [hlen] at this
  · apply List.ext_getElem?
    intro j
    have hj : ∀ q, (packP bits q)[j]? = if j < packN bits.length then some (byteV (((bits.take q).drop (8 * j)).take 8)) else none := by
      intro q
      unfold packP
      rw [List.getElem?_map]
      split
      · rename_i h; rw [List.getElem?_range h]; rfl
      · rename_i h; rw [List.getElem?_eq_none (by simp; omega)]; rfl
    rw [hj]
    by_cases hjm : j < packN bits.length
    · rw [if_pos hjm, chunk_next hy]
      by_cases hji : j = i / 8
      · rw [if_pos hji, byteV_snoc]
        cases y with
        | true =>
          rw [if_pos rfl, if_pos rfl, hji, hlen, List.getElem?_set_self (by rw [packP_len]; exact hm)]
        | false =>
          rw [if_neg (by decide), if_neg (by decide), hj, if_pos hjm, Int.add_zero]
      · rw [if_neg hji, List.append_nil]
        cases y with
        | true => rw [if_pos rfl, List.getElem?_set_ne (by omega), hj, if_pos hjm]
        | false => rw [if_neg (by decide), hj, if_pos hjm]
    · rw [if_neg hjm]
      cases y with
      | true => rw [if_pos rfl, List.getElem?_set_ne (by omega), hj, if_neg hjm]
      | false => rw [if_neg (by decide), hj, if_neg hjm]
theorem bor_bit {v : Int} {k : Nat} (h0 : 0 ≤ v) (h1 : v < 2 ^ k) (hk : k < 8) : bor .u8 v (shl .u8 1 (k : Int)) = v + 2 ^ k := by
  have key : ∀ (k : Fin 8) (v : Fin 128), v.1 < 2 ^ k.1 -> bor .u8 (v.1 : Int) (shl .u8 1 (k.1 : Int)) = (v.1 : Int) + 2 ^ k.1 := by decide +kernel
  obtain ⟨n, rfl⟩ := Int.eq_ofNat_of_zero_le h0
  have h2 : n < 2 ^ k := by exact_mod_cast h1
  have h3 : 2 ^ k ≤ 2 ^ 7 := Nat.pow_le_pow_right (by decide) (by omega)
  exact key ⟨k, hk⟩ ⟨n, by omega⟩ h2
theorem pack_eq {bits : List Bool} (h : bits.length ≤ 100000) : ask_Pack (bits, ()) = some (packS bits, ()) := by
  show qkc_ qc7_ bits = _
  have hK : qc7_ bits (packN bits.length : Int) = some (packS bits, ()) := by
    unfold qc7_ qnr_
    have hN : packN bits.length ≤ 100000 := by unfold packN; omega
    rw [need_t (by rw [ge_iff]; omega), need_t (capOk_self _), Int.toNat_natCast, need_small (by omega)]
    unfold qjy_
    rw [<- packP_zero, <- packP_all]
    refine loop_det (mk := fun i => (bits, Int.ofNat bits.length, (i : Int), packP bits i)) (N := bits.length) ?_ ?_ bits.length 0 _ (by omega) (by omega)
    · intro self i hi
      have hy : bits[i]? = some (bits[i]'hi) := List.getElem?_eq_getElem hi
      obtain ⟨v, hv, h0, h1, e⟩ := packP_next hy
      show qc4_ _ bits (Int.ofNat bits.length) (i : Int) (packP bits i) = _
      unfold qc4_
      have hq : quo .i64 (i : Int) 8 = ((i / 8 : Nat) : Int) := quo_nat (d := 8) (by omega)
      have hr : rem (i : Int) 8 = ((i % 8 : Nat) : Int) := rem_nat (d := 8)
      rw [if_pos (by rw [lt_iff, ofNat_eq]; omega), at_get hy, Option.bind_some, hq, hr, at_get hv, succ64 (by omega)]
      simp only [Option.bind_some]
      rw [need_t (by rw [ge_iff]; omega), bor_bit h0 h1 (Nat.mod_lt _ (by decide)), Int.toNat_natCast, e]
      split <;> rfl
    · intro self
      show qc4_ _ bits (Int.ofNat bits.length) (bits.length : Int) (packP bits bits.length) = _
      unfold qc4_
      rw [if_neg (by rw [lt_iff, ofNat_eq]; omega)]
  unfold qkc_
  have hq : quo .i64 (Int.ofNat bits.length) 8 = ((bits.length / 8 : Nat) : Int) := quo_nat (d := 8) (by omega)
  rw [hq]
  split
  · rename_i h1
    rw [gt_iff, ofNat_eq, show rem (bits.length : Int) 8 = ((bits.length % 8 : Nat) : Int) from rem_nat (d := 8)] at h1
    rw [succ64 (by omega)]
    have : bits.length / 8 + 1 = packN bits.length := by unfold packN; omega
    rw [this]
    exact hK
  · rename_i h1
    rw [gt_iff, ofNat_eq, show rem (bits.length : Int) 8 = ((bits.length % 8 : Nat) : Int) from rem_nat (d := 8)] at h1
    have : bits.length / 8 = packN bits.length := by unfold packN; omega
    rw [this]
    exact hK
def bitV (y : Int) (k : Nat) : Bool := eqi (band .u8 (shr .u8 y (k : Int)) 1) 1
theorem bitV_eq {y : Int} {k : Nat} (h0 : 0 ≤ y) (h1 : y < 256) (hk : k < 8) : bitV y k = decide (y / 2 ^ k % 2 = 1) := by
  have key : ∀ (k : Fin 8) (v : Fin 256), bitV (v.1 : Int) k.1 = decide ((v.1 : Int) / 2 ^ k.1 % 2 = 1) := by decide +kernel
  obtain ⟨n, rfl⟩ := Int.eq_ofNat_of_zero_le h0
  exact key ⟨k, hk⟩ ⟨n, by omega⟩
def unpackS (b : List Int) : List Bool := (List.range (8 * b.length)).map fun i => bitV (b.getD (i / 8) 0) (i % 8)
theorem unpack_eq {b : List Int} (h : b.length ≤ 100000) : ask_Unpack (b, ()) = some (unpackS b, ()) := by
  show qfz_ qb9_ b = _
  unfold qfz_
  have hm : mul .i64 8 (Int.ofNat b.length) = ((8 * b.length : Nat) : Int) := by
    rw [mul64 (by rw [ofNat_eq]; omega) (by rw [ofNat_eq]; omega)]
    simp
  rw [hm, need_t (by rw [ge_iff]; omega), need_t (capOk_self _), Int.toNat_natCast, need_small (by omega), List.length_replicate]
  unfold qb9_ unpackS
  refine (loop_det (mk := fun i => (b, Int.ofNat (8 * b.length), (i : Int), (List.range i).map (fun i => bitV (b.getD (i / 8) 0) (i % 8)) ++ (List.replicate (8 * b.length) false).drop i)) (N := 8 * b.length) ?_ ?_ (8 * b.length) 0 _ (by omega) (by omega))
  · intro self i hi
    show q8h_ _ b (Int.ofNat (8 * b.length)) (i : Int) _ = _
    unfold q8h_
    have hq : quo .i64 (i : Int) 8 = ((i / 8 : Nat) : Int) := quo_nat (d := 8) (by omega)
    have hr : rem (i : Int) 8 = ((i % 8 : Nat) : Int) := rem_nat (d := 8)
    have hlt : i / 8 < b.length := by omega
    have hb : b[i / 8]? = some (b[i / 8]'hlt) := List.getElem?_eq_getElem hlt
    have hlen : ((List.range i).map (fun i => bitV (b.getD (i / 8) 0) (i % 8)) ++ (List.replicate (8 * b.length) false).drop i).length = 8 * b.length := by simp; omega
    have ho : ((List.range i).map (fun i => bitV (b.getD (i / 8) 0) (i % 8)) ++ (List.replicate (8 * b.length) false).drop i)[i]? = some (((List.range i).map (fun i => bitV (b.getD (i / 8) 0) (i % 8)) ++ (List.replicate (8 * b.length) false).drop i)[i]'(by omega)) := List.getElem?_eq_getElem (by omega)
    rw [if_pos (by rw [lt_iff, ofNat_eq]; omega), hq, hr, at_get hb, Option.bind_some, need_t (by rw [ge_iff]; omega), at_get ho, Option.bind_some, Option.bind_some, succ64 (by omega), Int.toNat_natCast]
    have e : eqi (band .u8 (shr .u8 (b[i / 8]'hlt) ((i % 8 : Nat) : Int)) 1) 1 = bitV (b.getD (i / 8) 0) (i % 8) := by
      rw [List.getD_eq_getElem?_getD, hb]
      rfl
    rw [e, fill_step (f := fun i => bitV (b.getD (i / 8) 0) (i % 8)) (by simp; omega)]
  · intro self
    show q8h_ _ b (Int.ofNat (8 * b.length)) ((8 * b.length : Nat) : Int) _ = _
    unfold q8h_
    rw [if_neg (by rw [lt_iff, ofNat_eq]; omega), List.drop_of_length_le (by simp), List.append_nil]
end Go.Proofs.Lx
end
section
namespace Go.Proofs.Lx
open Go Ev Sx Pl
set_option maxRecDepth 100000
inductive RA : TA -> Prop where
  | bits (f p n : Int) (hf : f = 1 ∨ f = 2) (h1 : 1 ≤ n) (h2 : n ≤ 2000) : RA (f, p, n, 0, [], [])
  | words (f p n : Int) (hf : f = 3 ∨ f = 4) (h1 : 1 ≤ n) (h2 : n ≤ 125) : RA (f, p, n, 0, [], [])
  | coil (p : Int) (b : Bool) : RA (5, p, 0, 0, [], [b])
  | word (p : Int) (x : Int) : RA (6, p, 0, 0, [x], [])
  | coils (p : Int) (l : List Bool) (h1 : 1 ≤ l.length) (h2 : l.length ≤ 1968) : RA (15, p, (l.length : Int), 0, [], l)
  | regs (p : Int) (l : List Int) (h1 : 1 ≤ l.length) (h2 : l.length ≤ 123) : RA (16, p, (l.length : Int), 0, l, [])
  | swap (p n t : Int) (l : List Int) (h1 : 1 ≤ l.length) (h2 : l.length ≤ 121) (h3 : 1 ≤ n) (h4 : n ≤ 125) : RA (23, p, n, t, l, [])
theorem within0 {n : Int} (h : withinV n 0 = true) : n = 0 := eqi_iff.1 h
theorem within1 {n m : Int} (hm : 0 < m) (h : withinV n m = true) : 1 ≤ n ∧ n ≤ m := by
  unfold withinV at h
  rw [if_neg (by rw [eqi_iff]; omega)] at h
  split at h
  · rename_i h1; exact ⟨ge_iff.1 h1, le_iff.1 h⟩
  · cases h
theorem len0 {α : Type} {l : List α} (h : Int.ofNat l.length = 0) : l = [] := by
  rw [ofNat_eq] at h
  exact List.eq_nil_of_length_eq_zero (by omega)
theorem len1 {α : Type} {l : List α} (h : 1 ≤ Int.ofNat l.length ∧ Int.ofNat l.length ≤ 1) : ∃ x, l = [x] := by
  rw [ofNat_eq] at h
  exact List.length_eq_one_iff.1 (by omega)
theorem rightA_RA {a : TA} (hr : rightA a = true) : RA a := by
  obtain ⟨f, p, n, t, ws, bs⟩ := a
  unfold rightA at hr
  simp only at hr
  rcases shp_cases f with ⟨hf, e⟩ | ⟨hf, e⟩ | ⟨hf, e⟩ | ⟨hf, e⟩ | ⟨hf, e⟩ | ⟨hf, e⟩ | ⟨hf, e⟩ | ⟨hf, e⟩ <;> rw [e] at hr <;> simp only [rightS, Bool.and_eq_true, Bool.false_or, Bool.true_or, Bool.not_false, Bool.not_true, true_and, and_true] at hr
  · obtain ⟨h1, h2, h3, h4⟩ := hr
    have h2 := within1 (by decide) h2
    rw [eqi_iff.1 h1, len0 (within0 h3), len0 (within0 h4)]
    exact .bits f p n hf h2.1 h2.2
  · obtain ⟨h1, h2, h3, h4⟩ := hr
    have h2 := within1 (by decide) h2
    rw [eqi_iff.1 h1, len0 (within0 h3), len0 (within0 h4)]
    exact .words f p n hf h2.1 h2.2
  · obtain ⟨h1, h2, h3, h4⟩ := hr
    obtain ⟨b, rfl⟩ := len1 (within1 (by decide) h3)
    rw [eqi_iff.1 h1, within0 h2, len0 (within0 h4), hf]
    exact .coil p b
  · obtain ⟨h1, h2, h3, h4⟩ := hr
    obtain ⟨b, rfl⟩ := len1 (within1 (by decide) h4)
    rw [eqi_iff.1 h1, within0 h2, len0 (within0 h3), hf]
    exact .word p b
  · obtain ⟨h1, h2, h3, h4, h5⟩ := hr
    have h3 := within1 (by decide) h3
    have e4 := len0 (within0 h4)
    subst e4
    rw [eqi_iff.1 h1, <- eqi_iff.1 h5, hf]
    rw [ofNat_eq] at h3
    exact .coils p bs (by omega) (by omega)
  · obtain ⟨h1, h2, h3, h4, h5⟩ := hr
    have h4 := within1 (by decide) h4
    have e3 := len0 (within0 h3)
    subst e3
    have e5 : (ws.length : Int) = n := by have := eqi_iff.1 h5; simpa using this
    rw [eqi_iff.1 h1, <- e5, hf]
    rw [ofNat_eq] at h4
    exact .regs p ws (by omega) (by omega)
  · obtain ⟨h2, h3, h4⟩ := hr
    have h2 := within1 (by decide) h2
    have h4 := within1 (by decide) h4
    rw [len0 (within0 h3), hf]
    rw [ofNat_eq] at h4
    exact .swap p n t ws (by omega) (by omega) h2.1 h2.2
  · cases hr
def askB (a : TA) : List Int :=
  if a.1 = 5 then a.1 :: two a.2.1 ++ two (if a.2.2.2.2.2.headD false = true then 65280 else 0)
  else if a.1 = 6 then a.1 :: two a.2.1 ++ a.2.2.2.2.1.flatMap two
  else if a.1 = 15 then a.1 :: two a.2.1 ++ two a.2.2.1 ++ [(packN a.2.2.2.2.2.length : Int)] ++ packS a.2.2.2.2.2
  else if a.1 = 16 then a.1 :: two a.2.1 ++ two a.2.2.1 ++ [2 * (a.2.2.2.2.1.length : Int)] ++ a.2.2.2.2.1.flatMap two
  else if a.1 = 23 then a.1 :: two a.2.1 ++ two a.2.2.1 ++ two a.2.2.2.1 ++ two (a.2.2.2.2.1.length : Int) ++ [2 * (a.2.2.2.2.1.length : Int)] ++ a.2.2.2.2.1.flatMap two
  else a.1 :: two a.2.1 ++ two a.2.2.1
theorem flat_two_len (l : List Int) : (l.flatMap two).length = 2 * l.length := by
  induction l with
  | nil => rfl
  | cons x r ih => rw [List.flatMap_cons, List.length_append, ih]; simp [two]; omega
theorem two_len (x : Int) : (two x).length = 2 := rfl
theorem askB_len {a : TA} (h : RA a) : 5 ≤ (askB a).length ∧ (askB a).length ≤ 253 := by
  cases h with
  | bits f p n hf h1 h2 => rcases hf with rfl | rfl <;> exact ⟨Nat.le.refl, (by decide : 5 ≤ 253)⟩
  | words f p n hf h1 h2 => rcases hf with rfl | rfl <;> exact ⟨Nat.le.refl, (by decide : 5 ≤ 253)⟩
  | coil p b => exact ⟨Nat.le.refl, (by decide : 5 ≤ 253)⟩
  | word p x => exact ⟨Nat.le.refl, (by decide : 5 ≤ 253)⟩
  | coils p l h1 h2 =>
    show 5 ≤ ((15 : Int) :: two p ++ two _ ++ [_] ++ packS l).length ∧ ((15 : Int) :: two p ++ two _ ++ [_] ++ packS l).length ≤ 253
    simp only [List.length_append, List.length_cons, List.length_nil, packS_len, two_len]
    unfold packN
    omega
  | regs p l h1 h2 =>
    show 5 ≤ ((16 : Int) :: two p ++ two _ ++ [_] ++ l.flatMap two).length ∧ ((16 : Int) :: two p ++ two _ ++ [_] ++ l.flatMap two).length ≤ 253
    simp only [List.length_append, List.length_cons, List.length_nil, flat_two_len, two_len]
    omega
  | swap p n t l h1 h2 h3 h4 =>
    show 5 ≤ ((23 : Int) :: two p ++ two _ ++ two _ ++ two _ ++ [_] ++ l.flatMap two).length ∧ ((23 : Int) :: two p ++ two _ ++ two _ ++ two _ ++ [_] ++ l.flatMap two).length ≤ 253
    simp only [List.length_append, List.length_cons, List.length_nil, flat_two_len, two_len]
    omega
abbrev BO := Option (As [.sl (.int .u8), .int .i64])
theorem bK0 (f p n s1 : Int) (out : List Int) (h5 : f = 1 ∨ f = 2 ∨ f = 3 ∨ f = 4) : q42_ f p n 0 [] [] s1 0 0 false false out = some (out, 0, ()) := by
  rcases h5 with rfl | rfl | rfl | rfl <;> rfl
theorem bK5 (p : Int) (b : Bool) (out : List Int) : q42_ 5 p 0 0 [] [b] 0 1 0 false false out = Option.bind (ask_numbers ([if b = true then 65280 else 0], out, ())) fun y => (some (y.1, 0, ()) : BO) := by
  cases b <;> rfl
theorem bK6 (p x : Int) (out : List Int) : q42_ 6 p 0 0 [x] [] 0 0 1 false false out = Option.bind (ask_numbers ([x], out, ())) fun y => (some (y.1, 0, ()) : BO) := rfl
theorem bK15 (p n : Int) (l : List Bool) (out : List Int) : q42_ 15 p n 0 [] l 1968 1968 0 false true out =
    Option.bind (ask_Pack (l, ())) fun y => need (small (out.length + 1)) (need (small ((out ++ [Int.ofNat (y.1.length % 256)]).length + y.1.length)) (some (out ++ [Int.ofNat (y.1.length % 256)] ++ y.1, 0, ()) : BO)) := rfl
theorem bK16 (p n : Int) (l out : List Int) : q42_ 16 p n 0 l [] 123 0 123 false true out =
    need (small (out.length + 1)) (Option.bind (ask_numbers (l, out ++ [cvt .u8 (mul .i64 2 (Int.ofNat l.length))], ())) fun y => (some (y.1, 0, ()) : BO)) := rfl
theorem bK23 (p n t : Int) (l out : List Int) : q42_ 23 p n t l [] 125 0 121 true false out =
    Option.bind (ask_numbers ([t, Int.ofNat (l.length % 65536)], out, ())) fun y => need (small (y.1.length + 1)) (Option.bind (ask_numbers (l, y.1 ++ [cvt .u8 (mul .i64 2 (Int.ofNat l.length))], ())) fun y => (some (y.1, 0, ()) : BO)) := rfl
theorem nums1 (x : Int) {out : List Int} (h : out.length ≤ 900000) : ask_numbers ([x], out, ()) = some (out ++ two x, ()) := by
  rw [numbers_eq (by simp; omega)]
  simp
theorem bytes_eq {a : TA} (h : OkA a) : ask_Bytes (a, ()) = if rightA a = true then some (askB a, 0, ()) else some ([], 12, ()) := by
  show qhg_ q42_ a = _
  unfold qhg_
  rw [right_eq h, Option.bind_some]
  cases hr : rightA a with
  | false => rfl
  | true =>
    have hra := rightA_RA hr
    rw [if_neg (by decide), if_pos rfl, shape_eq, Option.bind_some]
    clear hr h
    have hin : ∀ f p : Int, ask_numbers ([p], [f], ()) = some (f :: two p, ()) := fun f p => nums1 p (by simp)
    have hin2 : ∀ f p n : Int, ask_numbers ([n], f :: two p, ()) = some (f :: two p ++ two n, ()) := fun f p n => nums1 n (by simp [two])
    cases hra with
    | bits f p n hf h1 h2 =>
      rcases hf with rfl | rfl <;> rw [hin, Option.bind_some, if_pos (by rfl), hin2, Option.bind_some]
      · exact bK0 1 p n 2000 _ (.inl rfl)
      · exact bK0 2 p n 2000 _ (.inr (.inl rfl))
    | words f p n hf h1 h2 =>
      rcases hf with rfl | rfl <;> rw [hin, Option.bind_some, if_pos (by rfl), hin2, Option.bind_some]
      · exact bK0 3 p n 125 _ (.inr (.inr (.inl rfl)))
      · exact bK0 4 p n 125 _ (.inr (.inr (.inr rfl)))
    | coil p b =>
      rw [hin, Option.bind_some, if_neg (by show ¬ gt 0 0 = true; decide)]
      exact (bK5 p b _).trans (by rw [nums1 _ (by simp [two]), Option.bind_some]; rfl)
    | word p x =>
      rw [hin, Option.bind_some, if_neg (by show ¬ gt 0 0 = true; decide)]
      exact (bK6 p x _).trans (by rw [nums1 _ (by simp [two]), Option.bind_some]; simp [askB])
    | coils p l h1 h2 =>
      rw [hin, Option.bind_some, if_pos (by rfl), hin2, Option.bind_some]
      refine (bK15 p _ l _).trans ?_
      rw [pack_eq (by omega), Option.bind_some, need_small (by simp [two]), need_small (by simp [two, packS_len, packN]; omega)]
      refine congrArg (fun x => some (x, 0, ())) ?_
      have e : packN l.length % 256 = packN l.length := by unfold packN; omega
      rw [packS_len, e]
      rfl
    | regs p l h1 h2 =>
      rw [hin, Option.bind_some, if_pos (by rfl), hin2, Option.bind_some]
      refine (bK16 p _ l _).trans ?_
      rw [need_small (by simp [two]), mul64 (by rw [ofNat_eq]; omega) (by rw [ofNat_eq]; omega), cvt8, numbers_eq (by simp [two]; omega), Option.bind_some]
      refine congrArg (fun x => some (x, 0, ())) ?_
      have e : (2 * Int.ofNat l.length) % 256 = 2 * (l.length : Int) := by rw [ofNat_eq]; omega
      rw [e]
      rfl
    | swap p n t l h1 h2 h3 h4 =>
      rw [hin, Option.bind_some, if_pos (by rfl), hin2, Option.bind_some]
      refine (bK23 p n t l _).trans ?_
      rw [numbers_eq (by simp [two]), Option.bind_some, need_small (by simp [two]), mul64 (by rw [ofNat_eq]; omega) (by rw [ofNat_eq]; omega), cvt8, numbers_eq (by simp [two]; omega), Option.bind_some]
      refine congrArg (fun x => some (x, 0, ())) ?_
      have e : (2 * Int.ofNat l.length) % 256 = 2 * (l.length : Int) := by rw [ofNat_eq]; omega
      have e2 : Int.ofNat (l.length % 65536) = (l.length : Int) := by rw [ofNat_eq]; omega
      rw [e, e2]
      simp [askB]
end Go.Proofs.Lx
end
section
namespace Pl
open Go Ev Sx
theorem zip_at {α β : Type} {s1 : List α} {s2 : List β} (h : s1.length = s2.length) {i : Nat} {x : α × β} (hx : (s1.zip s2)[i]? = some x) : s1[i]? = some x.1 ∧ s2[i]? = some x.2 := by
  rw [List.getElem?_zip_eq_some] at hx
  exact hx
theorem goL_eq {α : Type} [DecidableEq α] {ne : α -> α -> Bool} (hne : ∀ a b, ne a b = !decide (a = b)) : ∀ (s1 s2 : List α), s1.length = s2.length ->
    goL (R := Bool × Unit) (fun (_ : Unit) (x : α × α) k => if ne x.1 x.2 = true then some (false, ()) else k ()) (fun _ => some (true, ())) (s1.zip s2) () = some (decide (s1 = s2), ())
  | [], [], _ => rfl
  | a :: r, b :: q, h => by
    rw [List.zip_cons_cons]
    show (if ne a b = true then some (false, ()) else goL _ _ (r.zip q) ()) = _
    rw [hne]
    by_cases e : a = b
    · subst e
      rw [if_neg (by simp), goL_eq hne r q (by simpa using h)]
      simp
    · rw [if_pos (by simp [e])]
      simp [e]
end Pl
namespace Go.Proofs.Lx
open Go Ev Sx Pl
set_option maxRecDepth 100000
theorem equalW_eq {s1 s2 : List Int} (h : s1.length ≤ 1000000) : slices_Equal_Guint16 (s1, s2, ()) = some (decide (s1 = s2), ()) := by
  show q5t_ q3s_ s1 s2 = _
  unfold q5t_
  by_cases hl : s1.length = s2.length
  · rw [if_neg (by rw [nei_iff, ofNat_eq, ofNat_eq]; omega)]
    unfold q3s_
    have hz : (s1.zip s2).length = s1.length := by rw [List.length_zip]; omega
    rw [<- goL_eq (ne := nei) (fun a b => by simp [nei]; rfl) s1 s2 hl]
    refine loop_go (xs := s1.zip s2) (mk := fun i _ => (s1, s2, Int.ofNat s1.length, (i : Int))) ?_ ?_ s1.length 0 () _ (by rw [hz]; omega) (by omega)
    · intro self i acc x hx
      have hi := (List.getElem?_eq_some_iff.1 hx).1
      obtain ⟨h1, h2⟩ := zip_at hl hx
      show q2g_ _ s1 s2 (Int.ofNat s1.length) (i : Int) = _
      unfold q2g_
      rw [if_pos (by rw [lt_iff, ofNat_eq]; omega), at_get h1, Option.bind_some, at_get h2, Option.bind_some, succ64 (by omega)]
    · intro self acc
      show q2g_ _ s1 s2 (Int.ofNat s1.length) (((s1.zip s2).length : Nat) : Int) = _
      unfold q2g_
      rw [if_neg (by rw [lt_iff, ofNat_eq]; omega)]
  · rw [if_pos (by rw [nei_iff, ofNat_eq, ofNat_eq]; omega), decide_eq_false (fun e => hl (by rw [e]))]
theorem equalB_eq {s1 s2 : List Bool} (h : s1.length ≤ 1000000) : slices_Equal_Gbool (s1, s2, ()) = some (decide (s1 = s2), ()) := by
  show q6j_ q4p_ s1 s2 = _
  unfold q6j_
  by_cases hl : s1.length = s2.length
  · rw [if_neg (by rw [nei_iff, ofNat_eq, ofNat_eq]; omega)]
    unfold q4p_
    have hz : (s1.zip s2).length = s1.length := by rw [List.length_zip]; omega
    rw [<- goL_eq (ne := neb) (fun a b => by cases a <;> cases b <;> rfl) s1 s2 hl]
    refine loop_go (xs := s1.zip s2) (mk := fun i _ => (s1, s2, Int.ofNat s1.length, (i : Int))) ?_ ?_ s1.length 0 () _ (by rw [hz]; omega) (by omega)
    · intro self i acc x hx
      have hi := (List.getElem?_eq_some_iff.1 hx).1
      obtain ⟨h1, h2⟩ := zip_at hl hx
      show q37_ _ s1 s2 (Int.ofNat s1.length) (i : Int) = _
      unfold q37_
      rw [if_pos (by rw [lt_iff, ofNat_eq]; omega), at_get h1, Option.bind_some, at_get h2, Option.bind_some, succ64 (by omega)]
    · intro self acc
      show q37_ _ s1 s2 (Int.ofNat s1.length) (((s1.zip s2).length : Nat) : Int) = _
      unfold q37_
      rw [if_neg (by rw [lt_iff, ofNat_eq]; omega)]
  · rw [if_pos (by rw [nei_iff, ofNat_eq, ofNat_eq]; omega), decide_eq_false (fun e => hl (by rw [e]))]
abbrev BB := Option (As [.bool])
theorem if_dec {p : Prop} [Decidable p] {b : Bool} {k : BB} {q : Bool} (h : b = true ↔ p) (hk : p -> k = some (q, ())) : (if b = true then k else some (false, ())) = some (decide p && q, ()) := by
  by_cases hp : p
  · rw [if_pos (h.2 hp), hk hp, decide_eq_true hp]; rfl
  · rw [if_neg (fun e => hp (h.1 e)), decide_eq_false hp]; rfl
instance decA5 : DecidableEq (Int × Int × Int × List Int × List Bool) := inferInstance
instance decA : DecidableEq TA := inferInstance
abbrev TP := Int × Int × Int × Int × Bool × TA × Int × Int × Int
instance decP1 : DecidableEq (TA × Int × Int × Int) := inferInstance
instance decP2 : DecidableEq (Int × Bool × TA × Int × Int × Int) := inferInstance
instance decP : DecidableEq TP := inferInstance
theorem cloneW_eq {s : List Int} (h : s.length ≤ 1000000) : slices_Clone_Guint16 (s, ()) = some (s, ()) := by
  show q5u_ s = _
  unfold q5u_
  split
  · rename_i h0
    rw [len0 (eqi_iff.1 h0)]
    rfl
  · rw [need_small (by omega)]
    all_goals rfl
theorem cloneB_eq {s : List Bool} (h : s.length ≤ 1000000) : slices_Clone_Gbool (s, ()) = some (s, ()) := by
  show q6p_ s = _
  unfold q6p_
  split
  · rename_i h0
    rw [len0 (eqi_iff.1 h0)]
    rfl
  · rw [need_small (by omega)]
    all_goals rfl
structure OkP (p : TP) : Prop where
  u0 : 1 ≤ p.1
  u1 : p.1 ≤ 247
  l : p.2.1 = 1 ∨ p.2.1 = 2
  t0 : 1 ≤ p.2.2.1
  t1 : p.2.2.1 ≤ 100000
  r0 : 0 ≤ p.2.2.2.1
  r1 : p.2.2.2.1 ≤ 1000
  a : OkA p.2.2.2.2.2.1
  x0 : 0 ≤ p.2.2.2.2.2.2.1
  x1 : p.2.2.2.2.2.2.1 ≤ 65535
end Go.Proofs.Lx
end
section
namespace Pl
open Go Ev Sx
theorem shl8 {y : Int} (h0 : 0 ≤ y) (h1 : y ≤ 255) : shl .u16 (cvt .u16 y) 8 = 256 * y := by
  rw [cvt16]
  unfold shl
  have : min (8 : Int).toNat IntKind.u16.bits = 8 := by decide
  rw [this, wr16]
  omega
theorem bor_hi {a b : Int} (ha : 0 ≤ a) (ha2 : a ≤ 255) (hb : 0 ≤ b) (hb' : b ≤ 255) : bor .u16 (256 * a) b = 256 * a + b := by
  obtain ⟨n, rfl⟩ := Int.eq_ofNat_of_zero_le ha
  obtain ⟨m, rfl⟩ := Int.eq_ofNat_of_zero_le hb
  unfold bor
  rw [wr16]
  have e1 : (BitVec.ofInt IntKind.u16.bits (256 * (n : Int))).toNat = 256 * n := by
    rw [BitVec.toNat_ofInt]
    have : ((2 ^ IntKind.u16.bits : Nat) : Int) = 65536 := by decide
    rw [this]
    omega
  have e2 : (BitVec.ofInt IntKind.u16.bits (m : Int)).toNat = m := by
    rw [BitVec.toNat_ofInt]
    have : ((2 ^ IntKind.u16.bits : Nat) : Int) = 65536 := by decide
    rw [this]
    omega
  rw [BitVec.toNat_or, e1, e2]
  have e3 : 256 * n ||| m = 256 * n + m := by
    have := Nat.two_pow_add_eq_or_of_lt (i := 8) (b := m) (by omega) n
    rw [show (2 : Nat) ^ 8 = 256 from rfl] at this
    exact this.symm
  rw [e3]
  omega
def numV (y z : Int) : Int := bor .u16 (shl .u16 (cvt .u16 y) 8) (cvt .u16 z)
theorem numV_rng (y z : Int) : 0 ≤ numV y z ∧ numV y z < 65536 := u16_rng _
theorem numV_eq {y z : Int} (h0 : 0 ≤ y) (h1 : y ≤ 255) (h2 : 0 ≤ z) (h3 : z ≤ 255) : numV y z = 256 * y + z := by
  unfold numV
  rw [shl8 h0 h1, cvt16]
  have : z % 65536 = z := by omega
  rw [this, bor_hi h0 h1 h2 h3]
def listS (b : List Int) : List Int := (List.range (b.length / 2)).map fun i => numV (b.getD (2 * i) 0) (b.getD (2 * i + 1) 0)
end Pl
namespace Go.Proofs.Lx
open Go Ev Sx Pl
set_option maxRecDepth 100000
abbrev TR := Int × Int × List Bool × List Int × Int × Int
instance decR5 : DecidableEq (Int × List Bool × List Int × Int × Int) := inferInstance
instance decR : DecidableEq TR := inferInstance
structure SmR (r : TR) : Prop where
  b : r.2.2.1.length ≤ 100000
  w : r.2.2.2.1.length ≤ 100000
theorem sameR_eq {a b : TR} (h : SmR a) : reply_Same (a, b, ()) = some (decide (a = b), ()) := by
  show qfx_ a b = _
  unfold qfx_
  have h1 := h.b
  have h2 := h.w
  rw [equalW_eq (by omega), Option.bind_some, equalB_eq (by omega), Option.bind_some]
  obtain ⟨a1, a2, a3, a4, a5, a6⟩ := a
  obtain ⟨b1, b2, b3, b4, b5, b6⟩ := b
  rw [if_dec (eqi_iff) fun _ => if_dec (eqi_iff) fun _ => if_dec (eqi_iff) fun _ => if_dec (eqi_iff) fun _ => if_dec (p := a3 = b3) (by simp) fun _ => rfl]
  refine congrArg (fun x => some (x, ())) ?_
  rw [Bool.eq_iff_iff]
  simp only [Bool.and_eq_true, decide_eq_true_eq, Prod.ext_iff]
  constructor
  · rintro ⟨h1, h2, h3, h4, h5, h6⟩; exact ⟨h1, h2, h5, h6, h3, h4⟩
  · rintro ⟨h1, h2, h5, h6, h3, h4⟩; exact ⟨h1, h2, h3, h4, h5, h6⟩
def exR (r : TR) : Bool := decide (r.1 < 128) && (decide (1 ≤ r.2.1) && (decide (r.2.1 ≤ 4) && decide (r = (rem r.1 128, r.2.1, [], [], 0, 0))))
def bitR (r : TR) : Bool := decide (8 ≤ r.2.2.1.length) && (decide (r.2.2.1.length ≤ 2000) && (decide (r.2.2.1.length % 8 = 0) && decide (r = (r.1, 0, r.2.2.1, [], 0, 0))))
def wordR (r : TR) : Bool := decide (1 ≤ r.2.2.2.1.length) && (decide (r.2.2.2.1.length ≤ 125) && decide (r = (r.1, 0, [], r.2.2.2.1, 0, 0)))
def obR (r : TR) : Bool := decide (r.2.2.1.length = 1) && decide (r = (r.1, 0, r.2.2.1, [], r.2.2.2.2.1, 0))
def owR (r : TR) : Bool := decide (r.2.2.2.1.length = 1) && decide (r = (r.1, 0, [], r.2.2.2.1, r.2.2.2.2.1, 0))
def ctR (k : Int) (r : TR) : Bool := decide (1 ≤ r.2.2.2.2.2) && (decide (r.2.2.2.2.2 ≤ k) && decide (r = (r.1, 0, [], [], r.2.2.2.2.1, r.2.2.2.2.2)))
theorem exR_eq {r : TR} (h : SmR r) : reply_exception_right ((), r, ()) = some (exR r, ()) := by
  show q5a_ () r = _
  unfold q5a_ exR
  have e : reply_Wrong (r.1, r.2.1, ()) = some ((rem r.1 128, r.2.1, [], [], 0, 0), ()) := rfl
  rw [e, Option.bind_some, sameR_eq h, Option.bind_some]
  rw [if_dec (lt_iff) fun _ => if_dec (ge_iff) fun _ => if_dec (le_iff) fun _ => rfl]
theorem bitR_eq {r : TR} (h : SmR r) : reply_bitList_right ((), r, ()) = some (bitR r, ()) := by
  show q69_ () r = _
  unfold q69_ bitR
  rw [sameR_eq h, Option.bind_some]
  rw [if_dec (p := 8 ≤ r.2.2.1.length) (by rw [ge_iff, ofNat_eq]; omega) fun _ => if_dec (p := r.2.2.1.length ≤ 2000) (by rw [le_iff, ofNat_eq]; omega) fun _ => if_dec (p := r.2.2.1.length % 8 = 0) (by rw [eqi_iff, ofNat_eq, show rem (r.2.2.1.length : Int) 8 = ((r.2.2.1.length % 8 : Nat) : Int) from rem_nat (d := 8)]; omega) fun _ => rfl]
theorem wordR_eq {r : TR} (h : SmR r) : reply_wordList_right ((), r, ()) = some (wordR r, ()) := by
  show q5s_ () r = _
  unfold q5s_ wordR
  rw [sameR_eq h, Option.bind_some]
  rw [if_dec (p := 1 ≤ r.2.2.2.1.length) (by rw [ge_iff, ofNat_eq]; omega) fun _ => if_dec (p := r.2.2.2.1.length ≤ 125) (by rw [le_iff, ofNat_eq]; omega) fun _ => rfl]
theorem obR_eq {r : TR} (h : SmR r) : reply_oneBit_right ((), r, ()) = some (obR r, ()) := by
  show q6d_ () r = _
  unfold q6d_ obR
  rw [sameR_eq h, Option.bind_some]
  rw [if_dec (p := r.2.2.1.length = 1) (by rw [eqi_iff, ofNat_eq]; omega) fun _ => rfl]
theorem owR_eq {r : TR} (h : SmR r) : reply_oneWord_right ((), r, ()) = some (owR r, ()) := by
  show q67_ () r = _
  unfold q67_ owR
  rw [sameR_eq h, Option.bind_some]
  rw [if_dec (p := r.2.2.2.1.length = 1) (by rw [eqi_iff, ofNat_eq]; omega) fun _ => rfl]
theorem ctR_eq {r : TR} {k : Int} (h : SmR r) : reply_count_right (k, r, ()) = some (ctR k r, ()) := by
  show q6z_ k r = _
  unfold q6z_ ctR
  rw [sameR_eq h, Option.bind_some]
  rw [if_dec (ge_iff) fun _ => if_dec (le_iff) fun _ => rfl]
def rightR (r : TR) : Bool := if nei r.2.1 0 = true then exR r else if eqi r.1 1 = true then bitR r else if eqi r.1 2 = true then bitR r else if eqi r.1 3 = true then wordR r else if eqi r.1 4 = true then wordR r else if eqi r.1 23 = true then wordR r else
  if eqi r.1 5 = true then obR r else if eqi r.1 6 = true then owR r else if eqi r.1 15 = true then ctR 1968 r else if eqi r.1 16 = true then ctR 123 r else false
def exB (r : TR) : List Int := [add .u8 r.1 128, r.2.1]
def bitB (r : TR) : List Int := r.1 :: (packN r.2.2.1.length : Int) % 256 :: packS r.2.2.1
def wordB (r : TR) : List Int := [r.1, 2 * (r.2.2.2.1.length : Int) % 256] ++ r.2.2.2.1.flatMap two
def obB (r : TR) : List Int := r.1 :: two r.2.2.2.2.1 ++ two (if r.2.2.1.headD false = true then 65280 else 0)
def owB (r : TR) : List Int := r.1 :: two r.2.2.2.2.1 ++ two (r.2.2.2.1.headD 0)
def ctB (r : TR) : List Int := r.1 :: two r.2.2.2.2.1 ++ two r.2.2.2.2.2
theorem rnumbers_eq {l out : List Int} (h : out.length + 2 * l.length ≤ 1000000) : reply_numbers (l, out, ()) = some (out ++ l.flatMap two, ()) := by
  show qb5_ q7q_ l out = _
  unfold qb5_ q7q_
  refine (loop_idx (xs := l) (mk := fun i acc => (l, Int.ofNat l.length, (i : Int), acc)) (stp := fun o y => o ++ two y) (fin := fun acc => some (acc, ())) (fun i acc => acc.length ≤ out.length + 2 * i) ?_ ?_ ?_ l.length 0 out _ (by omega) (by omega) (by omega)).trans ?_
  · intro self i acc x hx hI
    have hi := (List.getElem?_eq_some_iff.1 hx).1
    show q5x_ _ l (Int.ofNat l.length) (i : Int) acc = _
    unfold q5x_
    rw [if_pos (by rw [lt_iff, ofNat_eq]; omega), at_get hx, Option.bind_some, need_small (by omega), two_eq, succ64 (by omega)]
  · intro i acc x hx hI
    simp [two]
    omega
  · intro self acc _
    show q5x_ _ l (Int.ofNat l.length) (l.length : Int) acc = _
    unfold q5x_
    rw [if_neg (by rw [lt_iff, ofNat_eq]; omega)]
  · rw [List.drop_zero, foldl_app]
theorem exB_eq (r : TR) : reply_exception_write ((), r, ()) = some (exB r, ()) := rfl
theorem bitB_eq {r : TR} (h : SmR r) : reply_bitList_write ((), r, ()) = some (bitB r, ()) := by
  show q66_ () r = _
  unfold q66_
  have hb := h.b
  rw [pack_eq hb, Option.bind_some, need_small (by rw [packS_len]; unfold packN; omega), packS_len]
  rfl
theorem wordB_eq {r : TR} (h : SmR r) : reply_wordList_write ((), r, ()) = some (wordB r, ()) := by
  show q5r_ () r = _
  unfold q5r_
  have hw := h.w
  rw [mul64 (by rw [ofNat_eq]; omega) (by rw [ofNat_eq]; omega), cvt8, rnumbers_eq (by simp; omega), Option.bind_some]
  rfl
theorem obB_eq {r : TR} (h : obR r = true) : reply_oneBit_write ((), r, ()) = some (obB r, ()) := by
  unfold obR at h
  rw [Bool.and_eq_true] at h
  obtain ⟨x, hx⟩ := List.length_eq_one_iff.1 (of_decide_eq_true h.1)
  show q6e_ q38_ () r = _
  unfold q6e_
  rw [hx, at_zero, Option.bind_some]
  have key : ∀ (v : Int) (r2 : Int) (r3 : List Bool) (r4 : List Int) (r6 : Int), q38_ v r.1 r2 r3 r4 r.2.2.2.2.1 r6 = some (r.1 :: two r.2.2.2.2.1 ++ two v, ()) := fun v r2 r3 r4 r6 => by
    unfold q38_ qa6_
    rw [rnumbers_eq (by simp), Option.bind_some]
    simp
  unfold obB
  rw [hx]
  cases x with
  | true => rw [if_pos rfl, key]; rfl
  | false => rw [if_neg (by decide), key]; rfl
theorem amb_same {R : Type} {eq : R -> R -> Bool} (h : ∀ x, eq x x = true) (o : R) : amb eq [some o, some o] = some o := by
  show (if eq o o = true then some o else none) = _
  rw [if_pos (h o)]
theorem eqAs_refl : ∀ (rs : List Ty) (x : As rs), eqAs rs x x = true
  | [], _ => rfl
  | t :: r, x => by
    show (eqV t x.1 x.1 && eqAs r x.2 x.2) = true
    rw [eqV_refl, eqAs_refl r]
    rfl
theorem owB_eq {r : TR} (h : owR r = true) : reply_oneWord_write ((), r, ()) = some (owB r, ()) := by
  unfold owR at h
  rw [Bool.and_eq_true] at h
  obtain ⟨x, hx⟩ := List.length_eq_one_iff.1 (of_decide_eq_true h.1)
  show q6a_ () r = _
  unfold q6a_
  rw [hx, at_zero, Option.bind_some, rnumbers_eq (by simp), Option.bind_some, amb_same (eqAs_refl _)]
  unfold owB
  rw [hx]
  simp
theorem ctB_eq (k : Int) (r : TR) : reply_count_write (k, r, ()) = some (ctB r, ()) := by
  show q6y_ k r = _
  unfold q6y_
  rw [rnumbers_eq (by simp), Option.bind_some]
  simp [ctB]
end Go.Proofs.Lx
end
section
namespace Go.Proofs.Lx
open Go Ev Sx Pl
set_option maxRecDepth 100000
theorem listS_len (b : List Int) : (listS b).length = b.length / 2 := by simp [listS]
theorem unpackS_len (b : List Int) : (unpackS b).length = 8 * b.length := by simp [unpackS]
theorem cut_tail {α : Type} (x : α) (r : List α) : cut (x :: r) 1 (Int.ofNat (x :: r).length) = some r := cut_one x r
theorem at_one {α : Type} (p q : α) (r : List α) : at? (p :: q :: r) 1 = some q := rfl
end Go.Proofs.Lx
end
section
namespace Go.Proofs.Lx
open Go Ev Sx Pl
set_option maxRecDepth 100000
end Go.Proofs.Lx
end
section
namespace Pl
open Go Ev Sx
end Pl
namespace Go.Proofs.Lx
open Go Ev Sx Pl
set_option maxRecDepth 100000
end Go.Proofs.Lx
end
section
namespace Pl
open Go Ev Sx
theorem listS_two (y z : Int) (r : List Int) : listS (y :: z :: r) = numV y z :: listS r := by
  unfold listS
  have e : (y :: z :: r).length / 2 = r.length / 2 + 1 := by simp; omega
  rw [e, List.range_succ_eq_map, List.map_cons, List.map_map]
  congr 1
end Pl
namespace Go.Proofs.Lx
open Go Ev Sx Pl
set_option maxRecDepth 100000
theorem numV_two {x : Int} (h0 : 0 ≤ x) (h1 : x ≤ 65535) : numV (x / 256 % 256) (x % 256) = x := by
  rw [numV_eq (by omega) (by omega) (by omega) (by omega)]
  omega
theorem listS_of_two {x : Int} (h0 : 0 ≤ x) (h1 : x ≤ 65535) (r : List Int) : listS (x / 256 % 256 :: x % 256 :: r) = x :: listS r := by rw [listS_two, numV_two h0 h1]
theorem listS_flat : ∀ {l : List Int}, (∀ x ∈ l, 0 ≤ x ∧ x ≤ 65535) -> listS (l.flatMap two) = l
  | [], _ => rfl
  | x :: r, h => by
    rw [List.flatMap_cons]
    show listS (x / 256 % 256 :: x % 256 :: r.flatMap two) = _
    have hx := h x (by simp)
    rw [listS_of_two hx.1 hx.2, listS_flat fun y hy => h y (List.mem_cons_of_mem _ hy)]
theorem byteV_256 {t : List Bool} (h : t.length ≤ 8) : 0 ≤ byteV t ∧ byteV t < 256 := by
  have h1 := byteV_rng t
  have h2 : 2 ^ t.length ≤ 2 ^ 8 := Nat.pow_le_pow_right (by decide) h
  have h3 : ((2 ^ t.length : Nat) : Int) = (2 : Int) ^ t.length := by norm_cast
  have h4 : (2 : Nat) ^ 8 = 256 := by decide
  exact ⟨h1.1, by omega⟩
theorem unpack_pack (l : List Bool) : (unpackS (packS l)).take l.length = l := by
  apply List.ext_getElem?
  intro i
  rw [List.getElem?_take]
  by_cases hi : i < l.length
  · rw [if_pos hi]
    unfold unpackS
    have hm : i < 8 * (packS l).length := by rw [packS_len]; unfold packN; omega
    rw [List.getElem?_map, List.getElem?_range hm, Option.map_some]
    have hq : i / 8 < packN l.length := by unfold packN; omega
    have e : (packS l).getD (i / 8) 0 = byteV ((l.drop (8 * (i / 8))).take 8) := by
      unfold packS
      rw [List.getD_eq_getElem?_getD, List.getElem?_map, List.getElem?_range hq]
      rfl
    have hr := byteV_256 (t := (l.drop (8 * (i / 8))).take 8) (by simp; omega)
    rw [e, bitV_eq hr.1 hr.2 (Nat.mod_lt _ (by decide)), byteV_bit]
    have e2 : ((l.drop (8 * (i / 8))).take 8).getD (i % 8) false = l[i] := by
      rw [List.getD_eq_getElem?_getD, List.getElem?_take, if_pos (Nat.mod_lt _ (by decide)), List.getElem?_drop]
      have : 8 * (i / 8) + i % 8 = i := by omega
      rw [this, List.getElem?_eq_getElem hi]
      rfl
    rw [e2, List.getElem?_eq_getElem hi]
    cases l[i] <;> rfl
  · rw [if_neg hi, List.getElem?_eq_none (by omega)]
abbrev tup (p : TP) : TP := (p.1, p.2.1, p.2.2.1, p.2.2.2.1, p.2.2.2.2.1, (p.2.2.2.2.2.1.1, p.2.2.2.2.2.1.2.1, p.2.2.2.2.2.1.2.2.1, p.2.2.2.2.2.1.2.2.2.1, p.2.2.2.2.2.1.2.2.2.2.1, p.2.2.2.2.2.1.2.2.2.2.2), p.2.2.2.2.2.2.1, p.2.2.2.2.2.2.2.1, p.2.2.2.2.2.2.2.2)
theorem two_bytes (x : Int) : ∀ y ∈ two x, 0 ≤ y ∧ y ≤ 255 := by
  intro y hy
  simp [two] at hy
  rcases hy with rfl | rfl <;> omega
theorem flat_bytes (l : List Int) : ∀ y ∈ l.flatMap two, 0 ≤ y ∧ y ≤ 255 := by
  intro y hy
  obtain ⟨x, _, hx⟩ := List.mem_flatMap.1 hy
  exact two_bytes x y hx
theorem pack_bytes (l : List Bool) : ∀ y ∈ packS l, 0 ≤ y ∧ y ≤ 255 := by
  intro y hy
  unfold packS at hy
  obtain ⟨j, _, rfl⟩ := List.mem_map.1 hy
  have := byteV_256 (t := (l.drop (8 * j)).take 8) (by simp; omega)
  omega
theorem askB_bytes {a : TA} (h : RA a) : ∀ y ∈ askB a, 0 ≤ y ∧ y ≤ 255 := by
  have app : ∀ {l r : List Int}, (∀ y ∈ l, 0 ≤ y ∧ y ≤ 255) -> (∀ y ∈ r, 0 ≤ y ∧ y ≤ 255) -> ∀ y ∈ l ++ r, 0 ≤ y ∧ y ≤ 255 := fun h1 h2 y hy => by
    rcases List.mem_append.1 hy with h | h
    · exact h1 y h
    · exact h2 y h
  have con : ∀ {x : Int} {r : List Int}, (0 ≤ x ∧ x ≤ 255) -> (∀ y ∈ r, 0 ≤ y ∧ y ≤ 255) -> ∀ y ∈ x :: r, 0 ≤ y ∧ y ≤ 255 := fun h1 h2 y hy => by
    rcases List.mem_cons.1 hy with h | h
    · subst h; exact h1
    · exact h2 y h
  have nil : ∀ y ∈ ([] : List Int), 0 ≤ y ∧ y ≤ 255 := fun y hy => by cases hy
  cases h with
  | bits f p n hf h1 h2 =>
    rcases hf with rfl | rfl
    · show ∀ y ∈ (1 : Int) :: two p ++ two n, 0 ≤ y ∧ y ≤ 255
      exact app (con (by decide) (two_bytes p)) (two_bytes n)
    · show ∀ y ∈ (2 : Int) :: two p ++ two n, 0 ≤ y ∧ y ≤ 255
      exact app (con (by decide) (two_bytes p)) (two_bytes n)
  | words f p n hf h1 h2 =>
    rcases hf with rfl | rfl
    · show ∀ y ∈ (3 : Int) :: two p ++ two n, 0 ≤ y ∧ y ≤ 255
      exact app (con (by decide) (two_bytes p)) (two_bytes n)
    · show ∀ y ∈ (4 : Int) :: two p ++ two n, 0 ≤ y ∧ y ≤ 255
      exact app (con (by decide) (two_bytes p)) (two_bytes n)
  | coil p b =>
    show ∀ y ∈ (5 : Int) :: two p ++ two (if b = true then 65280 else 0), 0 ≤ y ∧ y ≤ 255
    exact app (con (by decide) (two_bytes p)) (two_bytes _)
  | word p x =>
    show ∀ y ∈ (6 : Int) :: two p ++ [x].flatMap two, 0 ≤ y ∧ y ≤ 255
    exact app (con (by decide) (two_bytes p)) (flat_bytes _)
  | coils p l h1 h2 =>
    show ∀ y ∈ (15 : Int) :: two p ++ two (l.length : Int) ++ [(packN l.length : Int)] ++ packS l, 0 ≤ y ∧ y ≤ 255
    exact app (app (app (con (by decide) (two_bytes p)) (two_bytes _)) (con (by unfold packN; omega) nil)) (pack_bytes l)
  | regs p l h1 h2 =>
    show ∀ y ∈ (16 : Int) :: two p ++ two (l.length : Int) ++ [2 * (l.length : Int)] ++ l.flatMap two, 0 ≤ y ∧ y ≤ 255
    exact app (app (app (con (by decide) (two_bytes p)) (two_bytes _)) (con (by omega) nil)) (flat_bytes l)
  | swap p n t l h1 h2 h3 h4 =>
    show ∀ y ∈ (23 : Int) :: two p ++ two n ++ two t ++ two (l.length : Int) ++ [2 * (l.length : Int)] ++ l.flatMap two, 0 ≤ y ∧ y ≤ 255
    exact app (app (app (app (app (con (by decide) (two_bytes p)) (two_bytes _)) (two_bytes _)) (two_bytes _)) (con (by omega) nil)) (flat_bytes l)
end Go.Proofs.Lx
end
section
namespace Go.Proofs.Lx
open Go Ev Sx Pl
set_option maxRecDepth 100000
theorem alist_eq {b : List Int} (h : b.length ≤ 100000) : ask_list (b, ()) = some (listS b, ()) := by
  show qjx_ qfj_ b = _
  unfold qjx_
  have hq : quo .i64 (Int.ofNat b.length) 2 = ((b.length / 2 : Nat) : Int) := quo_nat (d := 2) (by omega)
  rw [hq, need_t (by rw [ge_iff]; omega), need_t (capOk_self _), Int.toNat_natCast, need_small (by omega), List.length_replicate]
  unfold qfj_ listS
  refine (loop_det (mk := fun i => (b, Int.ofNat (b.length / 2), (i : Int), (List.range i).map (fun i => numV (b.getD (2 * i) 0) (b.getD (2 * i + 1) 0)) ++ (List.replicate (b.length / 2) (0 : Int)).drop i)) (N := b.length / 2) ?_ ?_ (b.length / 2) 0 _ (by omega) (by omega))
  · intro self i hi
    show qc5_ _ b (Int.ofNat (b.length / 2)) (i : Int) _ = _
    unfold qc5_
    have hm : mul .i64 2 (i : Int) = ((2 * i : Nat) : Int) := by
      rw [mul64 (by omega) (by omega)]
      simp
    have h1 : b[2 * i]? = some (b[2 * i]'(by omega)) := List.getElem?_eq_getElem (by omega)
    have h2 : b[2 * i + 1]? = some (b[2 * i + 1]'(by omega)) := List.getElem?_eq_getElem (by omega)
    have ho : ((List.range i).map (fun i => numV (b.getD (2 * i) 0) (b.getD (2 * i + 1) 0)) ++ (List.replicate (b.length / 2) (0 : Int)).drop i)[i]? = some (((List.range i).map (fun i => numV (b.getD (2 * i) 0) (b.getD (2 * i + 1) 0)) ++ (List.replicate (b.length / 2) (0 : Int)).drop i)[i]'(by simp; omega)) := List.getElem?_eq_getElem (by simp; omega)
    rw [if_pos (by rw [lt_iff, ofNat_eq]; omega), hm, succ64 (by omega), at_get h1, at_get h2, at_get ho, succ64 (by omega), Int.toNat_natCast]
    simp only [Option.bind_some]
    have e : bor .u16 (shl .u16 (cvt .u16 (b[2 * i]'(by omega))) 8) (cvt .u16 (b[2 * i + 1]'(by omega))) = numV (b.getD (2 * i) 0) (b.getD (2 * i + 1) 0) := by
      rw [List.getD_eq_getElem?_getD, List.getD_eq_getElem?_getD, h1, h2]
      rfl
    rw [e, fill_step (f := fun i => numV (b.getD (2 * i) 0) (b.getD (2 * i + 1) 0)) (by simp; omega)]
  · intro self
    show qc5_ _ b (Int.ofNat (b.length / 2)) ((b.length / 2 : Nat) : Int) _ = _
    unfold qc5_
    rw [if_neg (by rw [lt_iff, ofNat_eq]; omega), List.drop_of_length_le (by simp), List.append_nil]
theorem wr_word (p x y : Int) : ask_written ((6, p, 0, 0, [], []), (0, 0, 1, false, false), [x, y], ()) = some ((6, p, 0, 0, [numV x y], []), true, ()) := by
  show Option.bind (ask_list ([x, y], ())) (fun z => some ((6, p, 0, 0, z.1, []), true, ())) = _
  rw [alist_eq (by show 2 ≤ 100000; decide), Option.bind_some, listS_two]
  rfl
theorem wr_coils (p k : Int) (l : List Bool) (h1 : 1 ≤ l.length) (h2 : l.length ≤ 1968) : ask_written ((15, p, (l.length : Int), 0, [], []), (1968, 1968, 0, false, true), k :: packS l, ()) = some ((15, p, (l.length : Int), 0, [], l), true, ()) := by
  have hlen := packS_len l
  show (if lt (Int.ofNat (k :: packS l).length) 2 = true then _ else Option.bind (cut (k :: packS l) 1 (Int.ofNat (k :: packS l).length)) (fun y => Option.bind (ask_Unpack (y, ())) fun y => if lt (Int.ofNat y.1.length) (cvt .i64 (l.length : Int)) = true then some ((0, 0, 0, 0, [], []), false, ()) else Option.bind (cut y.1 0 (l.length : Int)) fun y_1 => need (le (l.length : Int) (l.length : Int)) (need (le (l.length : Int) (Int.ofNat y.1.length)) (some ((15, p, (l.length : Int), 0, [], y_1), true, ()))))) = _
  have hN : 1 ≤ packN l.length ∧ packN l.length ≤ 300 := by unfold packN; omega
  have hu : l.length ≤ (unpackS (packS l)).length := by rw [unpackS_len, packS_len]; unfold packN; omega
  rw [if_neg (by rw [lt_iff, ofNat_eq, List.length_cons, packS_len]; omega), cut_tail, Option.bind_some, unpack_eq (by rw [packS_len]; omega), Option.bind_some, cvt64 (by omega) (by omega)]
  dsimp only
  rw [if_neg (by rw [lt_iff, ofNat_eq]; omega), cut_to hu, Option.bind_some, need_t (by rw [le_iff]; omega), need_t (by rw [le_iff, ofNat_eq]; omega), unpack_pack]
theorem wr_regs (p n k : Int) (l : List Int) (h : ∀ x ∈ l, 0 ≤ x ∧ x ≤ 65535) (h1 : 1 ≤ l.length) (h2 : l.length ≤ 123) : ask_written ((16, p, n, 0, [], []), (123, 0, 123, false, true), k :: l.flatMap two, ()) = some ((16, p, n, 0, l, []), true, ()) := by
  have hlen := flat_two_len l
  show (if lt (Int.ofNat (k :: l.flatMap two).length) 2 = true then _ else Option.bind (cut (k :: l.flatMap two) 1 (Int.ofNat (k :: l.flatMap two).length)) (fun y => Option.bind (ask_list (y, ())) fun y => some ((16, p, n, 0, y.1, []), true, ()))) = _
  rw [if_neg (by rw [lt_iff, ofNat_eq, List.length_cons, hlen]; omega), cut_tail, Option.bind_some, alist_eq (by omega), Option.bind_some, listS_flat h]
theorem wr_swap (p n t k : Int) (l : List Int) (h : ∀ x ∈ l, 0 ≤ x ∧ x ≤ 65535) (h1 : 1 ≤ l.length) (h2 : l.length ≤ 123) : ask_written ((23, p, n, t, [], []), (125, 0, 121, true, false), k :: l.flatMap two, ()) = some ((23, p, n, t, l, []), true, ()) := by
  have hlen := flat_two_len l
  show (if lt (Int.ofNat (k :: l.flatMap two).length) 2 = true then _ else Option.bind (cut (k :: l.flatMap two) 1 (Int.ofNat (k :: l.flatMap two).length)) (fun y => Option.bind (ask_list (y, ())) fun y => some ((23, p, n, t, y.1, []), true, ()))) = _
  rw [if_neg (by rw [lt_iff, ofNat_eq, List.length_cons, hlen]; omega), cut_tail, Option.bind_some, alist_eq (by omega), Option.bind_some, listS_flat h]
theorem rd_many {f p1 p2 n1 n2 : Int} {r : List Int} (hr : r.length ≤ 248) {m bb ww : Int} {tt ee : Bool} (hs : shp f = some (m, bb, ww, tt, ee)) (hm : gt m 0 = true) :
    ask_read (f :: p1 :: p2 :: n1 :: n2 :: r, ()) = q4x_ (numV p1 p2 :: numV n1 n2 :: listS r) r 0 0 0 0 m bb ww tt ee f (numV p1 p2) (numV n1 n2) 0 := by
  show q4w_ q74_ _ = _
  unfold q4w_
  rw [if_neg (by rw [lt_iff, ofNat_eq]; simp; omega)]
  have hg : gt (Int.ofNat (f :: p1 :: p2 :: n1 :: n2 :: r).length) 253 = false := by
    rw [<- Bool.not_eq_true, gt_iff, ofNat_eq]; simp; omega
  rw [hg]
  show q72_ q4x_ _ false 0 0 0 0 = _
  unfold q72_
  have ec3 : cut (f :: p1 :: p2 :: n1 :: n2 :: r) 3 (Int.ofNat (f :: p1 :: p2 :: n1 :: n2 :: r).length) = some (n1 :: n2 :: r) := cut_from (i := 3) (by simp)
  have ec5 : cut (f :: p1 :: p2 :: n1 :: n2 :: r) 5 (Int.ofNat (f :: p1 :: p2 :: n1 :: n2 :: r).length) = some r := cut_from (i := 5) (by simp)
  rw [if_neg (by decide), at_zero, Option.bind_some, shape_eq, Option.bind_some]
  unfold shpD
  rw [hs]
  rw [if_neg (by show ¬ (!true) = true; decide), cut_tail, Option.bind_some, alist_eq (by simp; omega), Option.bind_some, Option.bind_some, listS_two, listS_two, at_zero, Option.bind_some, ec3, Option.bind_some]
  dsimp only [Option.getD]
  rw [if_pos hm, at_one, Option.bind_some, ec5, Option.bind_some]
theorem rd_one {f p1 p2 n1 n2 : Int} {bb ww : Int} {tt ee : Bool} (hs : shp f = some (0, bb, ww, tt, ee)) :
    ask_read ([f, p1, p2, n1, n2], ()) = q4x_ [numV p1 p2, numV n1 n2] [n1, n2] 0 0 0 0 0 bb ww tt ee f (numV p1 p2) 0 0 := by
  show q72_ q4x_ [f, p1, p2, n1, n2] false 0 0 0 0 = _
  unfold q72_
  have ec3 : cut [f, p1, p2, n1, n2] 3 (Int.ofNat [f, p1, p2, n1, n2].length) = some [n1, n2] := rfl
  rw [if_neg (by decide), at_zero, Option.bind_some, shape_eq, Option.bind_some]
  unfold shpD
  rw [hs]
  rw [if_neg (by show ¬ (!true) = true; decide), cut_tail, Option.bind_some, alist_eq (by simp), Option.bind_some, Option.bind_some, listS_two, listS_two, at_zero, Option.bind_some, ec3, Option.bind_some, if_neg (by show ¬ gt 0 0 = true; decide)]
  rfl
theorem read_eq {a : TA} (h : OkA a) (hr : rightA a = true) : ask_read (askB a, ()) = some (a, true, ()) := by
  have hra := rightA_RA hr
  have hp := numV_two h.at0 h.at1
  have hn := numV_two h.m0 h.m1
  have ht := numV_two h.t0 h.t1
  have hw := h.w
  clear hr h
  cases hra with
  | bits f p n hf h1 h2 =>
    dsimp only at hp hn
    rcases hf with rfl | rfl
    · refine (rd_many (f := 1) (r := []) (by show 0 ≤ 248; decide) (m := 2000) (bb := 0) (ww := 0) (tt := false) (ee := false) rfl rfl).trans ?_
      rw [hp, hn]; rfl
    · refine (rd_many (f := 2) (r := []) (by show 0 ≤ 248; decide) (m := 2000) (bb := 0) (ww := 0) (tt := false) (ee := false) rfl rfl).trans ?_
      rw [hp, hn]; rfl
  | words f p n hf h1 h2 =>
    dsimp only at hp hn
    rcases hf with rfl | rfl
    · refine (rd_many (f := 3) (r := []) (by show 0 ≤ 248; decide) (m := 125) (bb := 0) (ww := 0) (tt := false) (ee := false) rfl rfl).trans ?_
      rw [hp, hn]; rfl
    · refine (rd_many (f := 4) (r := []) (by show 0 ≤ 248; decide) (m := 125) (bb := 0) (ww := 0) (tt := false) (ee := false) rfl rfl).trans ?_
      rw [hp, hn]; rfl
  | coil p b =>
    dsimp only at hp
    cases b with
    | true =>
      refine (rd_one (f := 5) (n1 := 65280 / 256 % 256) (n2 := 65280 % 256) (bb := 1) (ww := 0) (tt := false) (ee := false) rfl).trans ?_
      rw [hp]; rfl
    | false =>
      refine (rd_one (f := 5) (n1 := 0 / 256 % 256) (n2 := 0 % 256) (bb := 1) (ww := 0) (tt := false) (ee := false) rfl).trans ?_
      rw [hp]; rfl
  | word p x =>
    dsimp only at hp hw
    have hx := hw x (by simp)
    refine (rd_one (f := 6) (n1 := x / 256 % 256) (n2 := x % 256) (bb := 0) (ww := 1) (tt := false) (ee := false) rfl).trans ?_
    rw [hp]
    show Option.bind (ask_written ((6, p, 0, 0, [], []), (0, 0, 1, false, false), [x / 256 % 256, x % 256], ())) (fun y => some (y.1, y.2.1, ())) = _
    rw [wr_word, Option.bind_some, numV_two hx.1 hx.2]
  | coils p l h1 h2 =>
    dsimp only at hp hn
    have hN : packN l.length ≤ 247 := by unfold packN; omega
    refine (rd_many (f := 15) (r := (packN l.length : Int) :: packS l) (by rw [List.length_cons, packS_len]; omega) (m := 1968) (bb := 1968) (ww := 0) (tt := false) (ee := true) rfl rfl).trans ?_
    rw [hp, hn]
    show Option.bind (ask_written ((15, p, (l.length : Int), 0, [], []), (1968, 1968, 0, false, true), (packN l.length : Int) :: packS l, ())) (fun y => some (y.1, y.2.1, ())) = _
    rw [wr_coils p _ l h1 h2, Option.bind_some]
  | regs p l h1 h2 =>
    dsimp only at hp hn hw
    refine (rd_many (f := 16) (r := 2 * (l.length : Int) :: l.flatMap two) (by rw [List.length_cons, flat_two_len]; omega) (m := 123) (bb := 0) (ww := 123) (tt := false) (ee := true) rfl rfl).trans ?_
    rw [hp, hn]
    show Option.bind (ask_written ((16, p, (l.length : Int), 0, [], []), (123, 0, 123, false, true), 2 * (l.length : Int) :: l.flatMap two, ())) (fun y => some (y.1, y.2.1, ())) = _
    rw [wr_regs p _ _ l hw h1 h2, Option.bind_some]
  | swap p n t l h1 h2 h3 h4 =>
    dsimp only at hp hn ht hw
    refine (rd_many (f := 23) (r := t / 256 % 256 :: t % 256 :: (l.length : Int) / 256 % 256 :: (l.length : Int) % 256 :: 2 * (l.length : Int) :: l.flatMap two) (by simp only [List.length_cons, flat_two_len]; omega) (m := 125) (bb := 0) (ww := 121) (tt := true) (ee := false) rfl rfl).trans ?_
    rw [hp, hn, listS_two, ht]
    show (if lt (Int.ofNat (t / 256 % 256 :: t % 256 :: (l.length : Int) / 256 % 256 :: (l.length : Int) % 256 :: 2 * (l.length : Int) :: l.flatMap two).length) 4 = true then some ((0, 0, 0, 0, [], []), false, ()) else Option.bind (cut (t / 256 % 256 :: t % 256 :: (l.length : Int) / 256 % 256 :: (l.length : Int) % 256 :: 2 * (l.length : Int) :: l.flatMap two) 4 (Int.ofNat (t / 256 % 256 :: t % 256 :: (l.length : Int) / 256 % 256 :: (l.length : Int) % 256 :: 2 * (l.length : Int) :: l.flatMap two).length)) (fun y_1 => Option.bind (ask_written ((23, p, n, t, [], []), (125, 0, 121, true, false), y_1, ())) (fun y => some (y.1, y.2.1, ())))) = _
    have ec : cut (t / 256 % 256 :: t % 256 :: (l.length : Int) / 256 % 256 :: (l.length : Int) % 256 :: 2 * (l.length : Int) :: l.flatMap two) 4 (Int.ofNat (t / 256 % 256 :: t % 256 :: (l.length : Int) / 256 % 256 :: (l.length : Int) % 256 :: 2 * (l.length : Int) :: l.flatMap two).length) = some (2 * (l.length : Int) :: l.flatMap two) := cut_from (i := 4) (by simp)
    rw [if_neg (by rw [lt_iff, ofNat_eq]; simp only [List.length_cons]; omega), ec, Option.bind_some, wr_swap p n t _ l hw h1 (by omega), Option.bind_some]
theorem aparse_eq {a : TA} (h : OkA a) (hr : rightA a = true) : ask_Parse (askB a, ()) = some (a, 0, ()) := by
  show qae_ qcv_ (askB a) = _
  unfold qae_
  have e : bytes_Equal (askB a, askB a, ()) = some (true, ()) := by
    show some (eqs (toS (askB a)) (toS (askB a)), ()) = _
    rw [eqs_iff.2 rfl]
  rw [read_eq h hr, Option.bind_some, if_neg (by show ¬ (!true) = true; decide), bytes_eq h, if_pos hr, Option.bind_some, if_neg (by show ¬ nei 0 0 = true; decide)]
  dsimp only
  rw [e]
  rfl
end Go.Proofs.Lx
end
section
namespace Go.Proofs.Lx
open Go Ev Sx Pl
set_option maxRecDepth 100000
structure OkR (r : TR) : Prop where
  f0 : 0 ≤ r.1
  f1 : r.1 ≤ 255
  e0 : 0 ≤ r.2.1
  e1 : r.2.1 ≤ 255
  w : ∀ x ∈ r.2.2.2.1, 0 ≤ x ∧ x ≤ 65535
  at0 : 0 ≤ r.2.2.2.2.1
  at1 : r.2.2.2.2.1 ≤ 65535
  m0 : 0 ≤ r.2.2.2.2.2
  m1 : r.2.2.2.2.2 ≤ 65535
  lb : r.2.2.1.length ≤ 100000
  lw : r.2.2.2.1.length ≤ 100000
inductive RR : TR -> Prop where
  | ex (f e : Int) (h0 : 0 ≤ f) (h : f < 128) (h1 : 1 ≤ e) (h2 : e ≤ 4) : RR (f, e, [], [], 0, 0)
  | bits (f : Int) (l : List Bool) (hf : f = 1 ∨ f = 2) (h1 : 8 ≤ l.length) (h2 : l.length ≤ 2000) (h3 : l.length % 8 = 0) : RR (f, 0, l, [], 0, 0)
  | words (f : Int) (l : List Int) (hf : f = 3 ∨ f = 4 ∨ f = 23) (h1 : 1 ≤ l.length) (h2 : l.length ≤ 125) : RR (f, 0, [], l, 0, 0)
  | coil (b : Bool) (p : Int) : RR (5, 0, [b], [], p, 0)
  | word (x p : Int) : RR (6, 0, [], [x], p, 0)
  | coils (p n : Int) (h1 : 1 ≤ n) (h2 : n ≤ 1968) : RR (15, 0, [], [], p, n)
  | regs (p n : Int) (h1 : 1 ≤ n) (h2 : n ≤ 123) : RR (16, 0, [], [], p, n)
theorem rem128 {f : Int} (h0 : 0 ≤ f) (h : f < 128) : rem f 128 = f := by
  unfold rem
  rw [Int.tmod_eq_emod_of_nonneg h0]
  omega
theorem rightR_RR {r : TR} (h : OkR r) (hr : rightR r = true) : RR r := by
  unfold rightR at hr
  have hf0 := h.f0
  clear h
  split at hr
  · unfold exR at hr
    simp only [Bool.and_eq_true, decide_eq_true_eq] at hr
    obtain ⟨h1, h2, h3, h4⟩ := hr
    rw [h4, rem128 hf0 h1]
    exact .ex _ _ hf0 h1 h2 h3
  · have bit : ∀ {f : Int}, r.1 = f -> (f = 1 ∨ f = 2) -> bitR r = true -> RR r := fun {f} e hf hb => by
      unfold bitR at hb
      simp only [Bool.and_eq_true, decide_eq_true_eq] at hb
      obtain ⟨h1, h2, h3, h4⟩ := hb
      rw [h4, e]
      exact .bits _ _ hf h1 h2 h3
    have wrd : ∀ {f : Int}, r.1 = f -> (f = 3 ∨ f = 4 ∨ f = 23) -> wordR r = true -> RR r := fun {f} e hf hb => by
      unfold wordR at hb
      simp only [Bool.and_eq_true, decide_eq_true_eq] at hb
      obtain ⟨h1, h2, h3⟩ := hb
      rw [h3, e]
      exact .words _ _ hf h1 h2
    split at hr
    · rename_i e; exact bit (eqi_iff.1 e) (.inl rfl) hr
    · split at hr
      · rename_i e; exact bit (eqi_iff.1 e) (.inr rfl) hr
      · split at hr
        · rename_i e; exact wrd (eqi_iff.1 e) (.inl rfl) hr
        · split at hr
          · rename_i e; exact wrd (eqi_iff.1 e) (.inr (.inl rfl)) hr
          · split at hr
            · rename_i e; exact wrd (eqi_iff.1 e) (.inr (.inr rfl)) hr
            · split at hr
              · rename_i e
                unfold obR at hr
                simp only [Bool.and_eq_true, decide_eq_true_eq] at hr
                obtain ⟨x, hx⟩ := List.length_eq_one_iff.1 hr.1
                rw [hr.2, eqi_iff.1 e, hx]
                exact .coil x _
              · split at hr
                · rename_i e
                  unfold owR at hr
                  simp only [Bool.and_eq_true, decide_eq_true_eq] at hr
                  obtain ⟨x, hx⟩ := List.length_eq_one_iff.1 hr.1
                  rw [hr.2, eqi_iff.1 e, hx]
                  exact .word x _
                · split at hr
                  · rename_i e
                    unfold ctR at hr
                    simp only [Bool.and_eq_true, decide_eq_true_eq] at hr
                    rw [hr.2.2, eqi_iff.1 e]
                    exact .coils _ _ hr.1 hr.2.1
                  · split at hr
                    · rename_i e
                      unfold ctR at hr
                      simp only [Bool.and_eq_true, decide_eq_true_eq] at hr
                      rw [hr.2.2, eqi_iff.1 e]
                      exact .regs _ _ hr.1 hr.2.1
                    · cases hr
def repB (r : TR) : List Int := if nei r.2.1 0 = true then exB r else if eqi r.1 1 = true then bitB r else if eqi r.1 2 = true then bitB r else if eqi r.1 3 = true then wordB r else if eqi r.1 4 = true then wordB r else if eqi r.1 23 = true then wordB r else
  if eqi r.1 5 = true then obB r else if eqi r.1 6 = true then owB r else if eqi r.1 15 = true then ctB r else if eqi r.1 16 = true then ctB r else []
end Go.Proofs.Lx
end
section
namespace Go.Proofs.Lx
open Go Ev Sx Pl
set_option maxRecDepth 100000
theorem wr_if {c : Bool} {w : Option (List Int × Unit)} {x : List Int} (hw : c = true -> w = some (x, ())) :
    (if c = true then Option.bind w fun y => (some (y.1, 0, ()) : Option (As [.sl (.int .u8), .int .i64])) else some ([], 13, ())) = if c = true then some (x, 0, ()) else some ([], 13, ()) := by
  by_cases h : c = true
  · rw [if_pos h, if_pos h, hw h]
    rfl
  · rw [if_neg h, if_neg h]
abbrev RB := Option (As [.sl (.int .u8), .int .i64])
theorem if_step {c : Bool} {A B : RB} {ra rb : Bool} {xa xb : List Int} (h1 : A = if ra = true then some (xa, 0, ()) else some ([], 13, ())) (h2 : B = if rb = true then some (xb, 0, ()) else some ([], 13, ())) :
    (if c = true then A else B) = if (if c = true then ra else rb) = true then some ((if c = true then xa else xb), 0, ()) else some ([], 13, ()) := by
  cases c with
  | true => exact h1
  | false => exact h2
theorem rbytes_eq {r : TR} (h : SmR r) : reply_Bytes (r, ()) = if rightR r = true then some (repB r, 0, ()) else some ([], 13, ()) := by
  show qdx_ r = _
  unfold qdx_ rightR repB
  rw [exR_eq h, bitR_eq h, wordR_eq h, obR_eq h, owR_eq h, ctR_eq h, ctR_eq h]
  simp only [Option.bind_some]
  have wex := wr_if (c := exR r) (fun _ => exB_eq r)
  have wbit := wr_if (c := bitR r) (fun _ => bitB_eq h)
  have wword := wr_if (c := wordR r) (fun _ => wordB_eq h)
  have wob := wr_if (c := obR r) (fun hc => obB_eq hc)
  have wow := wr_if (c := owR r) (fun hc => owB_eq hc)
  have wc1 := wr_if (c := ctR 1968 r) (fun _ => ctB_eq 1968 r)
  have wc2 := wr_if (c := ctR 123 r) (fun _ => ctB_eq 123 r)
  exact if_step wex (if_step wbit (if_step wbit (if_step wword (if_step wword (if_step wword (if_step wob (if_step wow (if_step wc1 (if_step wc2 rfl)))))))))
theorem listS_rng (b : List Int) : ∀ x ∈ listS b, 0 ≤ x ∧ x ≤ 65535 := by
  intro x hx
  unfold listS at hx
  obtain ⟨i, _, rfl⟩ := List.mem_map.1 hx
  have := numV_rng (b.getD (2 * i) 0) (b.getD (2 * i + 1) 0)
  omega
theorem written_any {f p n t : Int} (hf : 0 ≤ f ∧ f ≤ 255) (hp : 0 ≤ p ∧ p ≤ 65535) (hn : 0 ≤ n ∧ n ≤ 65535) (ht : 0 ≤ t ∧ t ≤ 65535) (s : Int × Int × Int × Bool × Bool) {rest : List Int} (hl : rest.length ≤ 300) :
    ∃ (a : TA) (ok : Bool), ask_written ((f, p, n, t, [], []), s, rest, ()) = some (a, ok, ()) ∧ (ok = true -> OkA a) := by
  have mkw : ∀ l : List Int, (∀ x ∈ l, 0 ≤ x ∧ x ≤ 65535) -> l.length ≤ 100000 -> OkA (f, p, n, t, l, []) := fun l h1 h2 => ⟨hf.1, hf.2, hp.1, hp.2, hn.1, hn.2, ht.1, ht.2, h1, h2, Nat.zero_le _⟩
  have mkb : ∀ l : List Bool, l.length ≤ 100000 -> OkA (f, p, n, t, [], l) := fun l h2 => ⟨hf.1, hf.2, hp.1, hp.2, hn.1, hn.2, ht.1, ht.2, (fun x hx => by cases hx), Nat.zero_le _, h2⟩
  show ∃ (a : TA) (ok : Bool), qdk_ qdh_ (f, p, n, t, [], []) s rest = _ ∧ _
  unfold qdk_
  dsimp only
  by_cases h1 : eqi (add .i64 s.2.1 s.2.2.1) 0 = true
  · rw [if_pos h1]
    exact ⟨_, _, rfl, fun _ => mkw [] (fun x hx => by cases hx) (Nat.zero_le _)⟩
  · rw [if_neg h1]
    by_cases h2 : rest.length < 2
    · rw [if_pos (by rw [lt_iff, ofNat_eq]; omega)]
      exact ⟨_, _, rfl, fun e => by cases e⟩
    · rw [if_neg (by rw [lt_iff, ofNat_eq]; omega)]
      by_cases h5 : eqi f 5 = true
      · rw [if_pos h5]
        match rest, h2 with
        | y :: r, _ =>
          rw [at_zero, Option.bind_some]
          exact ⟨_, _, rfl, fun _ => mkb [nei y 0] (by show 1 ≤ 100000; decide)⟩
        | [], h2 => exact absurd (by decide) h2
      · rw [if_neg h5]
        by_cases h6 : eqi f 6 = true
        · rw [if_pos h6, alist_eq (by omega), Option.bind_some]
          exact ⟨_, _, rfl, fun _ => mkw _ (listS_rng _) (by rw [listS_len]; omega)⟩
        · rw [if_neg h6]
          match rest, h2 with
          | [], h2 => exact absurd (by decide) h2
          | y :: r, _ =>
            have hr : r.length ≤ 300 := by simp at hl; omega
            by_cases hb : gt s.2.1 0 = true
            · rw [if_pos hb, cut_tail, Option.bind_some, unpack_eq (by omega), Option.bind_some]
              dsimp only
              rw [cvt64 (by omega) (by omega)]
              by_cases hlt : lt (Int.ofNat (unpackS r).length) n = true
              · rw [if_pos hlt]
                exact ⟨_, _, rfl, fun e => by cases e⟩
              · rw [if_neg hlt]
                rw [lt_iff, ofNat_eq, unpackS_len] at hlt
                obtain ⟨k, rfl⟩ := Int.eq_ofNat_of_zero_le hn.1
                rw [cut_to (by rw [unpackS_len]; omega), Option.bind_some, need_t (by rw [le_iff]; omega), need_t (by rw [le_iff, ofNat_eq, unpackS_len]; omega)]
                exact ⟨_, _, rfl, fun _ => mkb _ (by rw [List.length_take, unpackS_len]; omega)⟩
            · rw [if_neg hb, cut_tail, Option.bind_some, alist_eq (by omega), Option.bind_some]
              exact ⟨_, _, rfl, fun _ => mkw _ (listS_rng _) (by rw [listS_len]; omega)⟩
theorem five_of {b : List Int} (h : 5 ≤ b.length) : ∃ f p1 p2 n1 n2 r, b = f :: p1 :: p2 :: n1 :: n2 :: r := by
  match b, h with
  | f :: p1 :: p2 :: n1 :: n2 :: r, _ => exact ⟨f, p1, p2, n1, n2, r, rfl⟩
theorem aread_any {b : List Int} (hb : ∀ x ∈ b, 0 ≤ x ∧ x ≤ 255) : ∃ (a : TA) (ok : Bool), ask_read (b, ()) = some (a, ok, ()) ∧ (ok = true -> OkA a) := by
  have bad : q74_ b true 0 0 0 0 = some ((0, 0, 0, 0, [], []), false, ()) := rfl
  by_cases h5 : b.length < 5
  · refine ⟨(0, 0, 0, 0, [], []), false, ?_, fun e => by cases e⟩
    show q4w_ q74_ b = _
    unfold q4w_
    rw [if_pos (by rw [lt_iff, ofNat_eq]; omega)]
    exact bad
  · by_cases h253 : 253 < b.length
    · refine ⟨(0, 0, 0, 0, [], []), false, ?_, fun e => by cases e⟩
      show q4w_ q74_ b = _
      unfold q4w_
      rw [if_neg (by rw [lt_iff, ofNat_eq]; omega), show gt (Int.ofNat b.length) 253 = true from gt_iff.2 (by rw [ofNat_eq]; omega)]
      exact bad
    · obtain ⟨f, p1, p2, n1, n2, r, rfl⟩ := five_of (b := b) (by omega)
      have hf : 0 ≤ f ∧ f ≤ 255 := hb f (by simp)
      have hr : r.length ≤ 248 := by simp at h253; omega
      have hg : gt (Int.ofNat (f :: p1 :: p2 :: n1 :: n2 :: r).length) 253 = false := by
        rw [<- Bool.not_eq_true, gt_iff, ofNat_eq]; simp; omega
      have hm0 : ask_read (f :: p1 :: p2 :: n1 :: n2 :: r, ()) = q72_ q4x_ (f :: p1 :: p2 :: n1 :: n2 :: r) false 0 0 0 0 := by
        show q4w_ q74_ _ = _
        unfold q4w_
        rw [if_neg (by rw [lt_iff, ofNat_eq]; simp; omega), hg]
        rfl
      have ec3 : cut (f :: p1 :: p2 :: n1 :: n2 :: r) 3 (Int.ofNat (f :: p1 :: p2 :: n1 :: n2 :: r).length) = some (n1 :: n2 :: r) := cut_from (i := 3) (by simp)
      have ec5 : cut (f :: p1 :: p2 :: n1 :: n2 :: r) 5 (Int.ofNat (f :: p1 :: p2 :: n1 :: n2 :: r).length) = some r := cut_from (i := 5) (by simp)
      have nn : ∀ x y, 0 ≤ numV x y ∧ numV x y ≤ 65535 := fun x y => by have := numV_rng x y; omega
      have tail : ∀ (l rest : List Int) (s : Int × Int × Int × Bool × Bool) (n : Int), (∃ q, l = numV p1 p2 :: numV n1 n2 :: q ∧ (4 ≤ rest.length -> q ≠ [] ∧ ∀ x ∈ q, 0 ≤ x ∧ x ≤ 65535)) -> rest.length ≤ 300 -> (0 ≤ n ∧ n ≤ 65535) ->
          ∃ (a : TA) (ok : Bool), q4x_ l rest 0 0 0 0 s.1 s.2.1 s.2.2.1 s.2.2.2.1 s.2.2.2.2 f (numV p1 p2) n 0 = some (a, ok, ()) ∧ (ok = true -> OkA a) := by
        rintro l rest s n ⟨q, rfl, hq⟩ hrl hn
        have k3 : ∀ (rest : List Int) (t : Int), rest.length ≤ 300 -> (0 ≤ t ∧ t ≤ 65535) -> ∃ (a : TA) (ok : Bool), qk4_ rest 0 0 0 0 s.1 s.2.1 s.2.2.1 s.2.2.2.1 s.2.2.2.2 f (numV p1 p2) n t = some (a, ok, ()) ∧ (ok = true -> OkA a) := fun rest t h1 h2 => by
          obtain ⟨a, ok, e1, e2⟩ := written_any hf (nn p1 p2) hn h2 s h1
          refine ⟨a, ok, ?_, e2⟩
          show Option.bind (ask_written ((f, numV p1 p2, n, t, [], []), s, rest, ())) _ = _
          rw [e1]
          rfl
        unfold q4x_ qo8_
        by_cases ht : s.2.2.2.1 = true
        · rw [if_pos ht]
          by_cases h4 : rest.length < 4
          · rw [if_pos (by rw [lt_iff, ofNat_eq]; omega)]
            exact ⟨_, _, rfl, fun e => by cases e⟩
          · rw [if_neg (by rw [lt_iff, ofNat_eq]; omega)]
            obtain ⟨hq1, hq2⟩ := hq (by omega)
            match q, hq1, hq2 with
            | z :: q, _, hq2 =>
              have hat : at? (numV p1 p2 :: numV n1 n2 :: z :: q) 2 = some z := rfl
              rw [hat, Option.bind_some]
              have hc : cut rest 4 (Int.ofNat rest.length) = some (rest.drop 4) := cut_from (i := 4) (by omega)
              rw [hc, Option.bind_some]
              exact k3 _ z (by rw [List.length_drop]; omega) (hq2 z (by simp))
            | [], hq1, _ => exact absurd rfl hq1
        · rw [if_neg ht]
          exact k3 rest 0 hrl ⟨by decide, by decide⟩
      rw [hm0]
      unfold q72_
      rw [if_neg (by decide), at_zero, Option.bind_some, shape_eq, Option.bind_some]
      cases hs : shp f with
      | none => exact ⟨_, false, rfl, fun e => by cases e⟩
      | some s =>
        dsimp only
        rw [if_neg (by show ¬ (!true) = true; decide), cut_tail, Option.bind_some, alist_eq (by simp; omega), Option.bind_some, Option.bind_some, listS_two, listS_two, at_zero, Option.bind_some, ec3, Option.bind_some]
        have hsd : shpD f = s := by unfold shpD; rw [hs]; rfl
        rw [hsd]
        have hq4 : 4 ≤ r.length -> listS r ≠ [] ∧ ∀ x ∈ listS r, 0 ≤ x ∧ x ≤ 65535 := fun h => ⟨fun e => by have := listS_len r; rw [e] at this; simp at this; omega, listS_rng r⟩
        by_cases hm : gt s.1 0 = true
        · rw [if_pos hm, at_one, Option.bind_some, ec5, Option.bind_some]
          exact tail _ r s _ ⟨listS r, rfl, hq4⟩ (by omega) (nn n1 n2)
        · rw [if_neg hm]
          by_cases h4 : 4 ≤ (n1 :: n2 :: r).length
          · refine tail _ (n1 :: n2 :: r) s 0 ⟨listS r, rfl, fun _ => ?_⟩ (by simp; omega) ⟨by decide, by decide⟩
            refine ⟨fun e => ?_, listS_rng r⟩
            have := listS_len r
            rw [e] at this
            simp at this h4
            omega
          · exact tail _ (n1 :: n2 :: r) s 0 ⟨listS r, rfl, fun h => absurd h h4⟩ (by simp; omega) ⟨by decide, by decide⟩
theorem aparse_any {b : List Int} (hb : ∀ x ∈ b, 0 ≤ x ∧ x ≤ 255) : ∃ (a : TA) (e : Int), ask_Parse (b, ()) = some (a, e, ()) ∧ ((e = 0 ∧ OkA a ∧ rightA a = true ∧ toS (askB a) = toS b) ∨ e = 12) := by
  obtain ⟨a, ok, h1, h2⟩ := aread_any hb
  show ∃ (a' : TA) (e : Int), qae_ qcv_ b = some (a', e, ()) ∧ _
  unfold qae_
  rw [h1, Option.bind_some]
  cases ok with
  | false => exact ⟨_, _, rfl, .inr rfl⟩
  | true =>
    have ha := h2 rfl
    dsimp only
    rw [if_neg (by decide), bytes_eq ha]
    cases hr : rightA a with
    | false => exact ⟨_, _, rfl, .inr rfl⟩
    | true =>
      rw [if_pos rfl, Option.bind_some, if_neg (show ¬ nei 0 0 = true by decide)]
      dsimp only
      have e : bytes_Equal (askB a, b, ()) = some (eqs (toS (askB a)) (toS b), ()) := rfl
      rw [e, Option.bind_some]
      cases he : eqs (toS (askB a)) (toS b) with
      | false => exact ⟨_, _, rfl, .inr rfl⟩
      | true => exact ⟨a, 0, rfl, .inl ⟨rfl, ha, hr, eqs_iff.1 he⟩⟩
theorem look_any {f : Int} {b : List Int} (hb : ∀ x ∈ f :: b, 0 ≤ x ∧ x ≤ 255) : ∃ (a : TA) (e : Int), ask_Look (f :: b, ()) = some (a, e, ()) ∧ ((e = 0 ∧ OkA a ∧ rightA a = true ∧ toS (askB a) = toS (f :: b)) ∨ ((e = 1 ∨ e = 3) ∧ a = (f, 0, 0, 0, [], []))) := by
  obtain ⟨a, e, h1, h2⟩ := aparse_any hb
  show ∃ (a' : TA) (e : Int), qby_ (f :: b) = some (a', e, ()) ∧ _
  unfold qby_
  rw [if_neg (by rw [eqi_iff, ofNat_eq, List.length_cons]; omega), h1, Option.bind_some]
  dsimp only
  rcases h2 with ⟨rfl, ha⟩ | rfl
  · exact ⟨a, 0, rfl, .inl ⟨rfl, ha⟩⟩
  · rw [if_neg (by decide), at_zero, Option.bind_some, Option.bind_some, shape_eq, Option.bind_some]
    dsimp only
    split
    · exact ⟨_, _, rfl, .inr ⟨.inl rfl, rfl⟩⟩
    · exact ⟨_, _, rfl, .inr ⟨.inr rfl, rfl⟩⟩
end Go.Proofs.Lx
end
section
namespace Go.Proofs.Lx
open Go Ev Sx Pl
set_option maxRecDepth 100000
abbrev TArea := Int × Int × Bool × Bool × Bool
def covS (x : TArea) (i : Int) : Bool := decide (1 ≤ x.2.1 ∧ x.1 ≤ i ∧ i < x.1 + x.2.1)
def firstS (l : List TArea) (i : Int) : Option TArea := l.find? fun x => covS x i
def wantF (w : TArea -> Bool) (l : List TArea) (i : Int) : Bool := match firstS l i with
  | some x => w x
  | none => false
def eachS (w : TArea -> Bool) (l : List TArea) (p : Int) (m : Nat) : Bool := (List.range m).all fun k => wantF w l (p + (k : Int))
def OkAr (x : TArea) : Prop := -9223372036854775808 ≤ x.1 ∧ x.1 ≤ 9223372036854775807 ∧ -9223372036854775808 ≤ x.2.1 ∧ x.2.1 ≤ 9223372036854775807
theorem capOk_sf (n : Int) : capOk n n = true := by
  unfold capOk
  rw [if_pos rfl]
theorem meet_gen {x : TArea} {p e : Int} (h0 : 0 ≤ p) (hpe : p ≤ e) (he : e ≤ 1000000000000) (hx : OkAr x) :
    ∃ f t, model_meet (x, p, e, ()) = some (f, t, ()) ∧ p ≤ f ∧ f ≤ e ∧ t ≤ e ∧ ∀ i, p ≤ i -> i < e -> (covS x i = true ↔ f ≤ i ∧ i < t) := by
  obtain ⟨x1, x2, x3, x4⟩ := hx
  show ∃ f t, qg7_ q8t_ x p e = _ ∧ _
  unfold qg7_
  have none : ∃ f t, q8t_ p e true x = some (f, t, ()) ∧ f = p ∧ t = p := ⟨p, p, rfl, rfl, rfl⟩
  by_cases hm : x.2.1 < 1
  · rw [if_pos (lt_iff.2 hm)]
    obtain ⟨f, t, h1, rfl, rfl⟩ := none
    refine ⟨_, _, h1, Int.le_refl _, hpe, hpe, fun i hi hie => ?_⟩
    unfold covS
    rw [decide_eq_true_eq]
    omega
  · rw [if_neg (fun h => hm (lt_iff.1 h))]
    by_cases ha : e ≤ x.1
    · rw [ge_iff.2 ha]
      obtain ⟨f, t, h1, rfl, rfl⟩ := none
      refine ⟨_, _, h1, Int.le_refl _, hpe, hpe, fun i hi hie => ?_⟩
      unfold covS
      rw [decide_eq_true_eq]
      omega
    · rw [show ge x.1 e = false from decide_eq_false ha]
      have K3 : ∀ t, qbn_ p t x = some (if p < x.1 then x.1 else p, t, ()) := fun t => by
        unfold qbn_ qlc_
        simp only [gt_iff]
      have K2t : q8s_ p e e true x = some (if p < x.1 then x.1 else p, (if x.1 + x.2.1 < e then x.1 + x.2.1 else e), ()) ∨ ¬ (x.1 < 0 ∨ x.2.1 < e - x.1) := by
        by_cases hc : x.1 < 0 ∨ x.2.1 < e - x.1
        · left
          unfold q8s_ qg9_
          have hadd : add .i64 x.1 x.2.1 = x.1 + x.2.1 := add64 (by omega) (by omega)
          rw [if_pos rfl, K3, hadd]
          simp only [lt_iff]
        · exact .inr hc
      have fin : ∀ t, (t = (if x.1 + x.2.1 < e then x.1 + x.2.1 else e)) -> p ≤ (if p < x.1 then x.1 else p) ∧ (if p < x.1 then x.1 else p) ≤ e ∧ t ≤ e ∧ ∀ i, p ≤ i -> i < e -> (covS x i = true ↔ (if p < x.1 then x.1 else p) ≤ i ∧ i < t) := fun t ht => by
        subst ht
        refine ⟨by split <;> omega, by split <;> omega, by split <;> omega, fun i hi hie => ?_⟩
        unfold covS
        rw [decide_eq_true_eq]
        split <;> split <;> omega
      unfold q8t_ ql9_
      rw [if_neg (by decide)]
      by_cases hn : x.1 < 0
      · rw [if_pos (lt_iff.2 hn)]
        rcases K2t with h | h
        · obtain ⟨g1, g2, g3, g4⟩ := fin _ rfl
          exact ⟨_, _, h, g1, g2, g3, g4⟩
        · exact absurd (.inl hn) h
      · rw [if_neg (fun h => hn (lt_iff.1 h)), sub64 (by omega) (by omega)]
        by_cases hc : x.2.1 < e - x.1
        · rw [lt_iff.2 hc]
          rcases K2t with h | h
          · obtain ⟨g1, g2, g3, g4⟩ := fin _ rfl
            exact ⟨_, _, h, g1, g2, g3, g4⟩
          · exact absurd (.inr hc) h
        · rw [show lt x.2.1 (e - x.1) = false from decide_eq_false hc]
          unfold q8s_ qg9_
          rw [if_neg (by decide), K3]
          obtain ⟨g1, g2, g3, g4⟩ := fin e (by rw [if_neg (by omega)])
          exact ⟨_, _, rfl, g1, g2, g3, g4⟩
theorem first_take {l : List TArea} {t : Nat} {i : Int} {y : TArea} (h : firstS (l.take t) i = some y) : firstS l i = some y := by
  have : firstS l i = (firstS (l.take t) i).or (firstS (l.drop t) i) := by
    unfold firstS
    rw [<- List.find?_append, List.take_append_drop]
  rw [this, h]
  rfl
theorem first_next {l : List TArea} {t : Nat} (ht : t < l.length) (i : Int) : firstS (l.take (t + 1)) i = (firstS (l.take t) i).or (if covS l[t] i = true then some l[t] else none) := by
  unfold firstS
  rw [List.take_succ_eq_append_getElem ht, List.find?_append]
  congr 1
  simp only [List.find?_cons, List.find?_nil]
  cases covS l[t] i <;> rfl
def MetI (w : TArea -> Bool) (l : List TArea) (p : Int) (m : Nat) (c : Int -> Bool) (met : List Bool) (left : Int) : Prop :=
  met.length = m ∧ left = ((met.countP fun b => !b : Nat) : Int) ∧ ∀ k : Nat, k < m -> met[k]? = some (c (p + (k : Int))) ∧ (c (p + (k : Int)) = true -> wantF w l (p + (k : Int)) = true)
theorem met_0 (w : TArea -> Bool) (l : List TArea) (p : Int) (m : Nat) : MetI w l p m (fun i => (firstS (l.take 0) i).isSome) (List.replicate m false) (m : Int) := by
  refine ⟨List.length_replicate .., ?_, fun k hk => ⟨?_, fun e => by cases e⟩⟩
  · rw [List.countP_replicate]
    rfl
  · rw [List.getElem?_replicate, if_pos hk]
    rfl
theorem met_zero {w : TArea -> Bool} {l : List TArea} {p : Int} {m : Nat} {c : Int -> Bool} {met : List Bool} {left : Int} (h : MetI w l p m c met left) (h0 : left = 0) : eachS w l p m = true := by
  obtain ⟨h1, h2, h3⟩ := h
  unfold eachS
  rw [List.all_eq_true]
  intro k hk
  rw [List.mem_range] at hk
  obtain ⟨e1, e2⟩ := h3 k hk
  refine e2 ?_
  have hz : met.countP (fun b => !b) = 0 := by omega
  have := List.countP_eq_zero.1 hz _ (List.mem_of_getElem? e1)
  simpa using this
theorem met_left {w : TArea -> Bool} {l : List TArea} {p : Int} {m : Nat} {met : List Bool} {left : Int} (h : MetI w l p m (fun i => (firstS l i).isSome) met left) (h0 : left ≠ 0) : eachS w l p m = false := by
  obtain ⟨h1, h2, h3⟩ := h
  rw [<- Bool.not_eq_true]
  intro hall
  unfold eachS at hall
  rw [List.all_eq_true] at hall
  apply h0
  rw [h2]
  have : met.countP (fun b => !b) = 0 := by
    rw [List.countP_eq_zero]
    intro b hb
    obtain ⟨k, hk, rfl⟩ := List.getElem_of_mem hb
    have e1 := (h3 k (by omega)).1
    have hw := hall k (List.mem_range.2 (by omega))
    unfold wantF at hw
    rw [List.getElem?_eq_getElem hk] at e1
    dsimp only at e1
    cases hf : firstS l (p + (k : Int)) with
    | none => rw [hf] at hw; cases hw
    | some y =>
      rw [hf] at e1
      have e1 : met[k] = true := by simpa using e1
      rw [e1]
      decide
  rw [this]
  rfl
theorem met_false {w : TArea -> Bool} {l : List TArea} {p : Int} {m k : Nat} (hk : k < m) (h : wantF w l (p + (k : Int)) = false) : eachS w l p m = false := by
  rw [<- Bool.not_eq_true]
  intro hall
  unfold eachS at hall
  rw [List.all_eq_true] at hall
  have := hall k (List.mem_range.2 hk)
  rw [h] at this
  cases this
theorem met_cong {w : TArea -> Bool} {l : List TArea} {p : Int} {m : Nat} {c c' : Int -> Bool} {met : List Bool} {left : Int} (h : MetI w l p m c met left) (hc : ∀ k : Nat, k < m -> c' (p + (k : Int)) = c (p + (k : Int))) : MetI w l p m c' met left :=
  ⟨h.1, h.2.1, fun k hk => by rw [hc k hk]; exact h.2.2 k hk⟩
theorem met_set {w : TArea -> Bool} {l : List TArea} {p : Int} {m k : Nat} {c : Int -> Bool} {met : List Bool} {left : Int} (h : MetI w l p m c met left) (hk : k < m) (hf : c (p + (k : Int)) = false) (hw : wantF w l (p + (k : Int)) = true) :
    MetI w l p m (fun i => c i || decide (i = p + (k : Int))) (met.set k true) (left - 1) := by
  obtain ⟨h1, h2, h3⟩ := h
  have hg := (h3 k hk).1
  have hkl : k < met.length := by omega
  rw [List.getElem?_eq_getElem hkl, hf] at hg
  have hg : met[k] = false := by simpa using hg
  refine ⟨by simp [h1], ?_, fun j hj => ?_⟩
  · have hpos : 0 < met.countP (fun b => !b) := by
      rw [List.countP_pos_iff]
      exact ⟨met[k], List.getElem_mem hkl, by rw [hg]; rfl⟩
    rw [List.countP_set hkl, hg, h2]
    simp only [Bool.not_false, if_true, Bool.not_true, Bool.false_eq_true, if_false]
    omega
  · obtain ⟨e1, e2⟩ := h3 j hj
    dsimp only
    by_cases hjk : k = j
    · subst hjk
      refine ⟨?_, fun _ => hw⟩
      rw [List.getElem?_set_self hkl, decide_eq_true rfl, Bool.or_true]
    · have : ¬ (p + (j : Int) = p + (k : Int)) := by omega
      refine ⟨?_, fun e => ?_⟩
      · rw [List.getElem?_set_ne hjk, e1, decide_eq_false this, Bool.or_false]
      · rw [decide_eq_false this, Bool.or_false] at e
        exact e2 e
def qkm_ (u1 : Int -> Int -> Int -> List (Int × Int × Bool × Bool × Bool) -> Int -> Int -> List Bool -> Option (As [.bool])) := (fun (self : (Int) × (Int) × (Int) × (Int) × (Int) × (List (Int × Int × Bool × Bool × Bool)) × (Int) × (Int) × (List Bool) × (Int × Int × Bool × Bool × Bool) -> Option (As [.bool])) (s : (Int) × (Int) × (Int) × (Int) × (Int) × (List (Int × Int × Bool × Bool × Bool)) × (Int) × (Int) × (List Bool) × (Int × Int × Bool × Bool × Bool)) => q8d_ (q4d_ u1 (fun at' many left to' i t19 t20 t21 met x => self (at', many, left, to', i, t19, t20, t21, met, x))) u1 (fun at' many left to' i t19 t20 t21 met x => self (at', many, left, to', i, t19, t20, t21, met, x)) s.1 s.2.1 s.2.2.1 s.2.2.2.1 s.2.2.2.2.1 s.2.2.2.2.2.1 s.2.2.2.2.2.2.1 s.2.2.2.2.2.2.2.1 s.2.2.2.2.2.2.2.2.1 s.2.2.2.2.2.2.2.2.2)
theorem qrn_ (u1 : Int -> Int -> Int -> List (Int × Int × Bool × Bool × Bool) -> Int -> Int -> List Bool -> Option (As [.bool])) (self : (Int) × (Int) × (Int) × (Int) × (Int) × (List (Int × Int × Bool × Bool × Bool)) × (Int) × (Int) × (List Bool) × (Int × Int × Bool × Bool × Bool) -> Option (As [.bool])) (at' many left to' i : Int) (t19 : List (Int × Int × Bool × Bool × Bool)) (t20 t21 : Int) (met : List Bool) (x : Int × Int × Bool × Bool × Bool) : qkm_ u1 self (at', many, left, to', i, t19, t20, t21, met, x) = q8d_ (q4d_ u1 (fun at' many left to' i t19 t20 t21 met x => self (at', many, left, to', i, t19, t20, t21, met, x))) u1 (fun at' many left to' i t19 t20 t21 met x => self (at', many, left, to', i, t19, t20, t21, met, x)) at' many left to' i t19 t20 t21 met x := rfl
theorem qro_ (u1 : Int -> Int -> Int -> List (Int × Int × Bool × Bool × Bool) -> Int -> Int -> List Bool -> Option (As [.bool])) (at' many left to' i : Int) (t19 : List (Int × Int × Bool × Bool × Bool)) (t20 t21 : Int) (met : List Bool) (x : Int × Int × Bool × Bool × Bool) : q4b_ u1 at' many left to' i t19 t20 t21 met x = loopF (qkm_ u1) 18446744073709551616 (at', many, left, to', i, t19, t20, t21, met, x) := rfl
def ql3_  := (fun (self : (Int) × (Int) × (Int) × (List (Int × Int × Bool × Bool × Bool)) × (Int) × (Int) × (List Bool) -> Option (As [.bool])) (s : (Int) × (Int) × (Int) × (List (Int × Int × Bool × Bool × Bool)) × (Int) × (Int) × (List Bool)) => q80_ (q5w_) (q4b_ (fun at' many left t19 t20 t21 met => self (at', many, left, t19, t20, t21, met))) (fun at' many left t19 t20 t21 met => self (at', many, left, t19, t20, t21, met)) s.1 s.2.1 s.2.2.1 s.2.2.2.1 s.2.2.2.2.1 s.2.2.2.2.2.1 s.2.2.2.2.2.2)
theorem qrc_  (self : (Int) × (Int) × (Int) × (List (Int × Int × Bool × Bool × Bool)) × (Int) × (Int) × (List Bool) -> Option (As [.bool])) (at' : Int) (many : Int) (left : Int) (t19 : List (Int × Int × Bool × Bool × Bool)) (t20 : Int) (t21 : Int) (met : List Bool) : ql3_ self (at', many, left, t19, t20, t21, met) = q80_ (q5w_) (q4b_ (fun at' many left t19 t20 t21 met => self (at', many, left, t19, t20, t21, met))) (fun at' many left t19 t20 t21 met => self (at', many, left, t19, t20, t21, met)) at' many left t19 t20 t21 met := rfl
theorem qrf_  (at' : Int) (many : Int) (left : Int) (t19 : List (Int × Int × Bool × Bool × Bool)) (t20 : Int) (t21 : Int) (met : List Bool) : q7u_ at' many left t19 t20 t21 met = loopF (ql3_) 18446744073709551616 (at', many, left, t19, t20, t21, met) := rfl
def qks_ (u1 : Int -> Int -> Int -> List (Int × Int × Bool × Bool × Bool) -> Int -> Int -> List Bool -> Option (As [.bool])) := (fun (self : (Int) × (Int) × (Int) × (Int) × (Int) × (List (Int × Int × Bool × Bool × Bool)) × (Int) × (Int) × (List Bool) × (Int × Int × Bool × Bool × Bool) -> Option (As [.bool])) (s : (Int) × (Int) × (Int) × (Int) × (Int) × (List (Int × Int × Bool × Bool × Bool)) × (Int) × (Int) × (List Bool) × (Int × Int × Bool × Bool × Bool)) => q7w_ (q4e_ u1 (fun at' many left to' i t19 t20 t21 met x => self (at', many, left, to', i, t19, t20, t21, met, x))) u1 (fun at' many left to' i t19 t20 t21 met x => self (at', many, left, to', i, t19, t20, t21, met, x)) s.1 s.2.1 s.2.2.1 s.2.2.2.1 s.2.2.2.2.1 s.2.2.2.2.2.1 s.2.2.2.2.2.2.1 s.2.2.2.2.2.2.2.1 s.2.2.2.2.2.2.2.2.1 s.2.2.2.2.2.2.2.2.2)
theorem qre_ (u1 : Int -> Int -> Int -> List (Int × Int × Bool × Bool × Bool) -> Int -> Int -> List Bool -> Option (As [.bool])) (self : (Int) × (Int) × (Int) × (Int) × (Int) × (List (Int × Int × Bool × Bool × Bool)) × (Int) × (Int) × (List Bool) × (Int × Int × Bool × Bool × Bool) -> Option (As [.bool])) (at' many left to' i : Int) (t19 : List (Int × Int × Bool × Bool × Bool)) (t20 t21 : Int) (met : List Bool) (x : Int × Int × Bool × Bool × Bool) : qks_ u1 self (at', many, left, to', i, t19, t20, t21, met, x) = q7w_ (q4e_ u1 (fun at' many left to' i t19 t20 t21 met x => self (at', many, left, to', i, t19, t20, t21, met, x))) u1 (fun at' many left to' i t19 t20 t21 met x => self (at', many, left, to', i, t19, t20, t21, met, x)) at' many left to' i t19 t20 t21 met x := rfl
theorem qrr_ (u1 : Int -> Int -> Int -> List (Int × Int × Bool × Bool × Bool) -> Int -> Int -> List Bool -> Option (As [.bool])) (at' many left to' i : Int) (t19 : List (Int × Int × Bool × Bool × Bool)) (t20 t21 : Int) (met : List Bool) (x : Int × Int × Bool × Bool × Bool) : q49_ u1 at' many left to' i t19 t20 t21 met x = loopF (qks_ u1) 18446744073709551616 (at', many, left, to', i, t19, t20, t21, met, x) := rfl
def qkv_  := (fun (self : (Int) × (Int) × (Int) × (List (Int × Int × Bool × Bool × Bool)) × (Int) × (Int) × (List Bool) -> Option (As [.bool])) (s : (Int) × (Int) × (Int) × (List (Int × Int × Bool × Bool × Bool)) × (Int) × (Int) × (List Bool)) => q89_ (q5z_) (q49_ (fun at' many left t19 t20 t21 met => self (at', many, left, t19, t20, t21, met))) (fun at' many left t19 t20 t21 met => self (at', many, left, t19, t20, t21, met)) s.1 s.2.1 s.2.2.1 s.2.2.2.1 s.2.2.2.2.1 s.2.2.2.2.2.1 s.2.2.2.2.2.2)
theorem qra_  (self : (Int) × (Int) × (Int) × (List (Int × Int × Bool × Bool × Bool)) × (Int) × (Int) × (List Bool) -> Option (As [.bool])) (at' : Int) (many : Int) (left : Int) (t19 : List (Int × Int × Bool × Bool × Bool)) (t20 : Int) (t21 : Int) (met : List Bool) : qkv_ self (at', many, left, t19, t20, t21, met) = q89_ (q5z_) (q49_ (fun at' many left t19 t20 t21 met => self (at', many, left, t19, t20, t21, met))) (fun at' many left t19 t20 t21 met => self (at', many, left, t19, t20, t21, met)) at' many left t19 t20 t21 met := rfl
theorem qrk_  (at' : Int) (many : Int) (left : Int) (t19 : List (Int × Int × Bool × Bool × Bool)) (t20 : Int) (t21 : Int) (met : List Bool) : q87_ at' many left t19 t20 t21 met = loopF (qkv_) 18446744073709551616 (at', many, left, t19, t20, t21, met) := rfl
def qkz_ (u1 : Int -> Int -> Int -> List (Int × Int × Bool × Bool × Bool) -> Int -> Int -> Int -> Int -> List Bool -> Option (As [.bool, .int .i64, .int .i64])) := (fun (self : (Int) × (Int) × (Int) × (Int) × (Int) × (List (Int × Int × Bool × Bool × Bool)) × (Int) × (Int) × (Int) × (Int) × (List Bool) × (Int × Int × Bool × Bool × Bool) -> Option (As [.bool, .int .i64, .int .i64])) (s : (Int) × (Int) × (Int) × (Int) × (Int) × (List (Int × Int × Bool × Bool × Bool)) × (Int) × (Int) × (Int) × (Int) × (List Bool) × (Int × Int × Bool × Bool × Bool)) => q7s_ (q4c_ u1 (fun at' many left to' i t19 t20 t21 o o_2 met x => self (at', many, left, to', i, t19, t20, t21, o, o_2, met, x))) u1 (fun at' many left to' i t19 t20 t21 o o_2 met x => self (at', many, left, to', i, t19, t20, t21, o, o_2, met, x)) s.1 s.2.1 s.2.2.1 s.2.2.2.1 s.2.2.2.2.1 s.2.2.2.2.2.1 s.2.2.2.2.2.2.1 s.2.2.2.2.2.2.2.1 s.2.2.2.2.2.2.2.2.1 s.2.2.2.2.2.2.2.2.2.1 s.2.2.2.2.2.2.2.2.2.2.1 s.2.2.2.2.2.2.2.2.2.2.2)
theorem qrg_ (u1 : Int -> Int -> Int -> List (Int × Int × Bool × Bool × Bool) -> Int -> Int -> Int -> Int -> List Bool -> Option (As [.bool, .int .i64, .int .i64])) (self : (Int) × (Int) × (Int) × (Int) × (Int) × (List (Int × Int × Bool × Bool × Bool)) × (Int) × (Int) × (Int) × (Int) × (List Bool) × (Int × Int × Bool × Bool × Bool) -> Option (As [.bool, .int .i64, .int .i64])) (at' many left to' i : Int) (t19 : List (Int × Int × Bool × Bool × Bool)) (t20 t21 o o_2 : Int) (met : List Bool) (x : Int × Int × Bool × Bool × Bool) : qkz_ u1 self (at', many, left, to', i, t19, t20, t21, o, o_2, met, x) = q7s_ (q4c_ u1 (fun at' many left to' i t19 t20 t21 o o_2 met x => self (at', many, left, to', i, t19, t20, t21, o, o_2, met, x))) u1 (fun at' many left to' i t19 t20 t21 o o_2 met x => self (at', many, left, to', i, t19, t20, t21, o, o_2, met, x)) at' many left to' i t19 t20 t21 o o_2 met x := rfl
theorem qrq_ (u1 : Int -> Int -> Int -> List (Int × Int × Bool × Bool × Bool) -> Int -> Int -> Int -> Int -> List Bool -> Option (As [.bool, .int .i64, .int .i64])) (at' many left to' i : Int) (t19 : List (Int × Int × Bool × Bool × Bool)) (t20 t21 o o_2 : Int) (met : List Bool) (x : Int × Int × Bool × Bool × Bool) : q47_ u1 at' many left to' i t19 t20 t21 o o_2 met x = loopF (qkz_ u1) 18446744073709551616 (at', many, left, to', i, t19, t20, t21, o, o_2, met, x) := rfl
def qkp_  := (fun (self : (Int) × (Int) × (Int) × (List (Int × Int × Bool × Bool × Bool)) × (Int) × (Int) × (Int) × (Int) × (List Bool) -> Option (As [.bool, .int .i64, .int .i64])) (s : (Int) × (Int) × (Int) × (List (Int × Int × Bool × Bool × Bool)) × (Int) × (Int) × (Int) × (Int) × (List Bool)) => q8b_ (q5v_) (q47_ (fun at' many left t19 t20 t21 o o_2 met => self (at', many, left, t19, t20, t21, o, o_2, met))) (fun at' many left t19 t20 t21 o o_2 met => self (at', many, left, t19, t20, t21, o, o_2, met)) s.1 s.2.1 s.2.2.1 s.2.2.2.1 s.2.2.2.2.1 s.2.2.2.2.2.1 s.2.2.2.2.2.2.1 s.2.2.2.2.2.2.2.1 s.2.2.2.2.2.2.2.2)
theorem qrp_  (self : (Int) × (Int) × (Int) × (List (Int × Int × Bool × Bool × Bool)) × (Int) × (Int) × (Int) × (Int) × (List Bool) -> Option (As [.bool, .int .i64, .int .i64])) (at' : Int) (many : Int) (left : Int) (t19 : List (Int × Int × Bool × Bool × Bool)) (t20 : Int) (t21 : Int) (o : Int) (o_2 : Int) (met : List Bool) : qkp_ self (at', many, left, t19, t20, t21, o, o_2, met) = q8b_ (q5v_) (q47_ (fun at' many left t19 t20 t21 o o_2 met => self (at', many, left, t19, t20, t21, o, o_2, met))) (fun at' many left t19 t20 t21 o o_2 met => self (at', many, left, t19, t20, t21, o, o_2, met)) at' many left t19 t20 t21 o o_2 met := rfl
theorem qrb_  (at' : Int) (many : Int) (left : Int) (t19 : List (Int × Int × Bool × Bool × Bool)) (t20 : Int) (t21 : Int) (o : Int) (o_2 : Int) (met : List Bool) : q7x_ at' many left t19 t20 t21 o o_2 met = loopF (qkp_) 18446744073709551616 (at', many, left, t19, t20, t21, o, o_2, met) := rfl
def qki_ (u1 : Int -> Int -> Int -> List (Int × Int × Bool × Bool × Bool) -> Int -> Int -> Int -> Int -> List Bool -> Option (As [.bool, .int .i64, .int .i64])) := (fun (self : (Int) × (Int) × (Int) × (Int) × (Int) × (List (Int × Int × Bool × Bool × Bool)) × (Int) × (Int) × (Int) × (Int) × (List Bool) × (Int × Int × Bool × Bool × Bool) -> Option (As [.bool, .int .i64, .int .i64])) (s : (Int) × (Int) × (Int) × (Int) × (Int) × (List (Int × Int × Bool × Bool × Bool)) × (Int) × (Int) × (Int) × (Int) × (List Bool) × (Int × Int × Bool × Bool × Bool)) => q8c_ (q4a_ u1 (fun at' many left to' i t19 t20 t21 o o_2 met x => self (at', many, left, to', i, t19, t20, t21, o, o_2, met, x))) u1 (fun at' many left to' i t19 t20 t21 o o_2 met x => self (at', many, left, to', i, t19, t20, t21, o, o_2, met, x)) s.1 s.2.1 s.2.2.1 s.2.2.2.1 s.2.2.2.2.1 s.2.2.2.2.2.1 s.2.2.2.2.2.2.1 s.2.2.2.2.2.2.2.1 s.2.2.2.2.2.2.2.2.1 s.2.2.2.2.2.2.2.2.2.1 s.2.2.2.2.2.2.2.2.2.2.1 s.2.2.2.2.2.2.2.2.2.2.2)
theorem qrm_ (u1 : Int -> Int -> Int -> List (Int × Int × Bool × Bool × Bool) -> Int -> Int -> Int -> Int -> List Bool -> Option (As [.bool, .int .i64, .int .i64])) (self : (Int) × (Int) × (Int) × (Int) × (Int) × (List (Int × Int × Bool × Bool × Bool)) × (Int) × (Int) × (Int) × (Int) × (List Bool) × (Int × Int × Bool × Bool × Bool) -> Option (As [.bool, .int .i64, .int .i64])) (at' many left to' i : Int) (t19 : List (Int × Int × Bool × Bool × Bool)) (t20 t21 o o_2 : Int) (met : List Bool) (x : Int × Int × Bool × Bool × Bool) : qki_ u1 self (at', many, left, to', i, t19, t20, t21, o, o_2, met, x) = q8c_ (q4a_ u1 (fun at' many left to' i t19 t20 t21 o o_2 met x => self (at', many, left, to', i, t19, t20, t21, o, o_2, met, x))) u1 (fun at' many left to' i t19 t20 t21 o o_2 met x => self (at', many, left, to', i, t19, t20, t21, o, o_2, met, x)) at' many left to' i t19 t20 t21 o o_2 met x := rfl
theorem qrl_ (u1 : Int -> Int -> Int -> List (Int × Int × Bool × Bool × Bool) -> Int -> Int -> Int -> Int -> List Bool -> Option (As [.bool, .int .i64, .int .i64])) (at' many left to' i : Int) (t19 : List (Int × Int × Bool × Bool × Bool)) (t20 t21 o o_2 : Int) (met : List Bool) (x : Int × Int × Bool × Bool × Bool) : q48_ u1 at' many left to' i t19 t20 t21 o o_2 met x = loopF (qki_ u1) 18446744073709551616 (at', many, left, to', i, t19, t20, t21, o, o_2, met, x) := rfl
def ql1_  := (fun (self : (Int) × (Int) × (Int) × (List (Int × Int × Bool × Bool × Bool)) × (Int) × (Int) × (Int) × (Int) × (List Bool) -> Option (As [.bool, .int .i64, .int .i64])) (s : (Int) × (Int) × (Int) × (List (Int × Int × Bool × Bool × Bool)) × (Int) × (Int) × (Int) × (Int) × (List Bool)) => q83_ (q61_) (q48_ (fun at' many left t19 t20 t21 o o_2 met => self (at', many, left, t19, t20, t21, o, o_2, met))) (fun at' many left t19 t20 t21 o o_2 met => self (at', many, left, t19, t20, t21, o, o_2, met)) s.1 s.2.1 s.2.2.1 s.2.2.2.1 s.2.2.2.2.1 s.2.2.2.2.2.1 s.2.2.2.2.2.2.1 s.2.2.2.2.2.2.2.1 s.2.2.2.2.2.2.2.2)
theorem qrj_  (self : (Int) × (Int) × (Int) × (List (Int × Int × Bool × Bool × Bool)) × (Int) × (Int) × (Int) × (Int) × (List Bool) -> Option (As [.bool, .int .i64, .int .i64])) (at' : Int) (many : Int) (left : Int) (t19 : List (Int × Int × Bool × Bool × Bool)) (t20 : Int) (t21 : Int) (o : Int) (o_2 : Int) (met : List Bool) : ql1_ self (at', many, left, t19, t20, t21, o, o_2, met) = q83_ (q61_) (q48_ (fun at' many left t19 t20 t21 o o_2 met => self (at', many, left, t19, t20, t21, o, o_2, met))) (fun at' many left t19 t20 t21 o o_2 met => self (at', many, left, t19, t20, t21, o, o_2, met)) at' many left t19 t20 t21 o o_2 met := rfl
theorem qri_  (at' : Int) (many : Int) (left : Int) (t19 : List (Int × Int × Bool × Bool × Bool)) (t20 : Int) (t21 : Int) (o : Int) (o_2 : Int) (met : List Bool) : q7r_ at' many left t19 t20 t21 o o_2 met = loopF (ql1_) 18446744073709551616 (at', many, left, t19, t20, t21, o, o_2, met) := rfl
theorem each_br_in (u1 : Int -> Int -> Int -> List TArea -> Int -> Int -> List Bool -> Option (As [.bool])) {w : TArea -> Bool} {l : List TArea} {p : Int} {m t : Nat} {r : As [.bool]} (hp : 0 ≤ p) (hpm : p + (m : Int) ≤ 1000000000000) (ht : t < l.length) (hw : ∀ x, model_table_bool_readable_z1 (x, ()) = some (w x, ())) {f to' : Int} (hf : p ≤ f) (hfe : f ≤ p + (m : Int)) (hte : to' ≤ p + (m : Int))
    (hcov : ∀ i, p ≤ i -> i < p + (m : Int) -> (covS l[t] i = true ↔ f ≤ i ∧ i < to')) (hR : ∀ met left, MetI w l p m (fun i => (firstS (l.take (t + 1)) i).isSome) met left -> u1 p (m : Int) left l (l.length : Int) (add .i64 (t : Int) 1) met = some r) (hr : eachS w l p m = false -> r = (false, ()))
    (met : List Bool) (left : Int) (h : MetI w l p m (fun i => (firstS (l.take t) i).isSome) met left) :
    q4b_ u1 p (m : Int) left to' f l (l.length : Int) (t : Int) met l[t] = some r := by
  rw [qro_]
  refine loopF_eq (Inv := fun s => ∃ (i : Int) (met : List Bool) (left : Int), s = (p, (m : Int), left, to', i, l, (l.length : Int), (t : Int), met, l[t]) ∧ f ≤ i ∧ (i ≤ to' ∨ i = f) ∧ MetI w l p m (fun j => (firstS (l.take t) j).isSome || (decide (f ≤ j) && decide (j < i))) met left)
    (μ := fun s => (to' - s.2.2.2.2.1).toNat) (G := fun _ => some r) ?_ _ _ ⟨f, met, left, rfl, Int.le_refl _, .inr rfl, met_cong h fun k hk => by
      have : (decide (f ≤ p + (k : Int)) && decide (p + (k : Int) < f)) = false := by
        by_cases hh : f ≤ p + (k : Int)
        · rw [decide_eq_false (show ¬ (p + (k : Int) < f) by omega), Bool.and_false]
        · rw [decide_eq_false hh, Bool.false_and]
      rw [this, Bool.or_false]⟩ (by dsimp only; omega)
  rintro self s ⟨i, met, left, rfl, hi1, hi2, hI⟩ ih
  rw [qrn_]
  unfold q8d_
  by_cases hlt : i < to'
  · rw [if_pos (lt_iff.2 hlt)]
    have hk : (i - p).toNat < m := by omega
    have hki : p + (((i - p).toNat : Nat) : Int) = i := by omega
    have hs : sub .i64 i p = (((i - p).toNat : Nat) : Int) := by rw [sub64 (by omega) (by omega)]; omega
    obtain ⟨g1, g2⟩ := hI.2.2 _ hk
    dsimp only at g1 g2
    rw [hki] at g1 g2
    have hdf : (decide (f ≤ i) && decide (i < i)) = false := by rw [decide_eq_false (show ¬ i < i by omega), Bool.and_false]
    rw [hdf, Bool.or_false] at g1 g2
    have K4 : ∀ left met, q4d_ u1 (fun at' many left to' i t19 t20 t21 met x => self (at', many, left, to', i, t19, t20, t21, met, x)) p (m : Int) left to' i l (l.length : Int) (t : Int) met l[t] = self (p, (m : Int), left, to', i + 1, l, (l.length : Int), (t : Int), met, l[t]) := fun left met => by
      unfold q4d_ qh0_
      rw [add64 (by omega) (by omega)]
    have hcong : ∀ (k : Nat), k < m -> ∀ b : Bool, b = (((firstS (l.take t) (p + (k : Int))).isSome || (decide (f ≤ p + (k : Int)) && decide (p + (k : Int) < i))) || decide (p + (k : Int) = i)) -> ((firstS (l.take t) (p + (k : Int))).isSome || (decide (f ≤ p + (k : Int)) && decide (p + (k : Int) < i + 1))) = b := fun k hk b hc => by
      rw [hc, Bool.or_assoc]
      congr 1
      rw [Bool.eq_iff_iff]
      simp only [Bool.or_eq_true, Bool.and_eq_true, decide_eq_true_eq]
      omega
    rw [hs, at_get g1]
    simp only [Option.bind_some]
    cases hb : (firstS (l.take t) i).isSome with
    | true =>
      rw [if_pos rfl, K4]
      refine ih _ ⟨i + 1, met, left, rfl, by omega, .inl (by omega), met_cong hI (fun k hk => hcong k hk _ ?_)⟩ (by dsimp only; omega)
      by_cases hki' : p + (k : Int) = i
      · rw [hki', hb, Bool.true_or, Bool.true_or]
      · rw [decide_eq_false hki', Bool.or_false]
    | false =>
      rw [if_neg (by decide), hw, Option.bind_some]
      dsimp only
      have hnone : firstS (l.take t) i = none := by simpa using hb
      have hfirst : firstS l i = some l[t] := by
        have hc := (hcov i (by omega) (by omega)).2 ⟨hi1, hlt⟩
        have := first_next ht i
        rw [hnone, hc] at this
        exact first_take this
      have hwf : wantF w l i = w l[t] := by
        unfold wantF
        rw [hfirst]
      cases hwx : w l[t] with
      | false =>
        rw [if_pos (by decide)]
        rw [hr (met_false hk (by rw [hki, hwf, hwx]))]
      | true =>
        rw [if_neg (by decide)]
        have hset := met_set hI hk (by rw [hki, hdf, Bool.or_false]; exact hb) (by rw [hki, hwf, hwx])
        rw [Int.toNat_natCast, K4]
        have hl1 : sub .i64 left 1 = left - 1 := by
          have := hI.2.1
          have h2 := List.countP_le_length (p := fun b : Bool => !b) (l := met)
          have h3 := hI.1
          rw [sub64 (by omega) (by omega)]
        rw [hl1]
        refine ih _ ⟨i + 1, _, _, rfl, by omega, .inl (by omega), met_cong hset (fun k hk => hcong k hk _ ?_)⟩ (by dsimp only; omega)
        rw [hki]
  · rw [if_neg (fun e => hlt (lt_iff.1 e))]
    refine hR met left (met_cong hI fun k hk => ?_)
    have hc := hcov (p + (k : Int)) (by omega) (by omega)
    rw [first_next ht]
    have hcb : covS l[t] (p + (k : Int)) = (decide (f ≤ p + (k : Int)) && decide (p + (k : Int) < i)) := by
      rw [Bool.eq_iff_iff, hc]
      simp only [Bool.and_eq_true, decide_eq_true_eq]
      omega
    rw [<- hcb]
    cases hx : firstS (l.take t) (p + (k : Int)) with
    | some y => rfl
    | none =>
      cases covS l[t] (p + (k : Int)) <;> rfl
theorem each_br_eq {w : TArea -> Bool} {l : List TArea} {p : Int} {m : Nat} (hp : 0 ≤ p) (hm : m ≤ 1000000) (hpm : p ≤ 1000000) (hl : l.length ≤ 1000000) (ho : ∀ x ∈ l, OkAr x) (hw : ∀ x, model_table_bool_readable_z1 (x, ()) = some (w x, ())) : model_each_br (l, p, (m : Int), ()) = some (eachS w l p m, ()) := by
  show qb1_ q7u_ l p (m : Int) = _
  unfold qb1_
  rw [need_t (ge_iff.2 (by omega)), need_t (capOk_sf _), Int.toNat_natCast, need_small (by omega)]
  rw [qrf_]
  refine loopF_eq (Inv := fun s => ∃ (t : Nat) (met : List Bool) (left : Int), s = (p, (m : Int), left, l, (l.length : Int), (t : Int), met) ∧ t ≤ l.length ∧ MetI w l p m (fun i => (firstS (l.take t) i).isSome) met left)
    (μ := fun s => (Int.ofNat l.length - s.2.2.2.2.2.1).toNat) (G := fun _ => some (eachS w l p m, ())) ?_ _ _ ⟨0, _, _, rfl, Nat.zero_le _, met_0 w l p m⟩ (by dsimp only; rw [ofNat_eq]; omega)
  rintro self s ⟨t, met, left, rfl, ht, hI⟩ ih
  rw [qrc_]
  unfold q80_
  have k2 : q5w_ left = some (eqi left 0, ()) := rfl
  by_cases hlt : t < l.length
  · have hg := List.getElem?_eq_getElem hlt
    rw [if_pos (by rw [lt_iff]; omega), at_get hg, Option.bind_some]
    by_cases h0 : left = 0
    · rw [if_pos (eqi_iff.2 h0), k2, eqi_iff.2 h0, met_zero hI h0]
    · rw [if_neg (fun e => h0 (eqi_iff.1 e)), add64 (by omega) (by omega)]
      obtain ⟨f, t', e1, e2, e3, e4, e5⟩ := meet_gen (x := l[t]) (p := p) (e := p + (m : Int)) hp (by omega) (by omega) (ho _ (List.getElem_mem hlt))
      rw [e1, Option.bind_some]
      refine each_br_in _ hp (by omega) hlt hw e2 e3 e4 e5 (fun met left hI' => ?_) (fun e => by rw [e]) met left hI
      rw [succ64 (by omega)]
      exact ih _ ⟨t + 1, met, left, rfl, by omega, hI'⟩ (by dsimp only; rw [ofNat_eq]; omega)
  · have htl : t = l.length := by omega
    subst htl
    rw [if_neg (by rw [lt_iff]; omega), k2]
    by_cases h0 : left = 0
    · rw [eqi_iff.2 h0, met_zero hI h0]
    · rw [List.take_length] at hI
      rw [met_left hI h0, show eqi left 0 = false from decide_eq_false h0]
theorem each_ur_in (u1 : Int -> Int -> Int -> List TArea -> Int -> Int -> List Bool -> Option (As [.bool])) {w : TArea -> Bool} {l : List TArea} {p : Int} {m t : Nat} {r : As [.bool]} (hp : 0 ≤ p) (hpm : p + (m : Int) ≤ 1000000000000) (ht : t < l.length) (hw : ∀ x, model_table_uint16_readable_z1 (x, ()) = some (w x, ())) {f to' : Int} (hf : p ≤ f) (hfe : f ≤ p + (m : Int)) (hte : to' ≤ p + (m : Int))
    (hcov : ∀ i, p ≤ i -> i < p + (m : Int) -> (covS l[t] i = true ↔ f ≤ i ∧ i < to')) (hR : ∀ met left, MetI w l p m (fun i => (firstS (l.take (t + 1)) i).isSome) met left -> u1 p (m : Int) left l (l.length : Int) (add .i64 (t : Int) 1) met = some r) (hr : eachS w l p m = false -> r = (false, ()))
    (met : List Bool) (left : Int) (h : MetI w l p m (fun i => (firstS (l.take t) i).isSome) met left) :
    q49_ u1 p (m : Int) left to' f l (l.length : Int) (t : Int) met l[t] = some r := by
  rw [qrr_]
  refine loopF_eq (Inv := fun s => ∃ (i : Int) (met : List Bool) (left : Int), s = (p, (m : Int), left, to', i, l, (l.length : Int), (t : Int), met, l[t]) ∧ f ≤ i ∧ (i ≤ to' ∨ i = f) ∧ MetI w l p m (fun j => (firstS (l.take t) j).isSome || (decide (f ≤ j) && decide (j < i))) met left)
    (μ := fun s => (to' - s.2.2.2.2.1).toNat) (G := fun _ => some r) ?_ _ _ ⟨f, met, left, rfl, Int.le_refl _, .inr rfl, met_cong h fun k hk => by
      have : (decide (f ≤ p + (k : Int)) && decide (p + (k : Int) < f)) = false := by
        by_cases hh : f ≤ p + (k : Int)
        · rw [decide_eq_false (show ¬ (p + (k : Int) < f) by omega), Bool.and_false]
        · rw [decide_eq_false hh, Bool.false_and]
      rw [this, Bool.or_false]⟩ (by dsimp only; omega)
  rintro self s ⟨i, met, left, rfl, hi1, hi2, hI⟩ ih
  rw [qre_]
  unfold q7w_
  by_cases hlt : i < to'
  · rw [if_pos (lt_iff.2 hlt)]
    have hk : (i - p).toNat < m := by omega
    have hki : p + (((i - p).toNat : Nat) : Int) = i := by omega
    have hs : sub .i64 i p = (((i - p).toNat : Nat) : Int) := by rw [sub64 (by omega) (by omega)]; omega
    obtain ⟨g1, g2⟩ := hI.2.2 _ hk
    dsimp only at g1 g2
    rw [hki] at g1 g2
    have hdf : (decide (f ≤ i) && decide (i < i)) = false := by rw [decide_eq_false (show ¬ i < i by omega), Bool.and_false]
    rw [hdf, Bool.or_false] at g1 g2
    have K4 : ∀ left met, q4e_ u1 (fun at' many left to' i t19 t20 t21 met x => self (at', many, left, to', i, t19, t20, t21, met, x)) p (m : Int) left to' i l (l.length : Int) (t : Int) met l[t] = self (p, (m : Int), left, to', i + 1, l, (l.length : Int), (t : Int), met, l[t]) := fun left met => by
      unfold q4e_ qh1_
      rw [add64 (by omega) (by omega)]
    have hcong : ∀ (k : Nat), k < m -> ∀ b : Bool, b = (((firstS (l.take t) (p + (k : Int))).isSome || (decide (f ≤ p + (k : Int)) && decide (p + (k : Int) < i))) || decide (p + (k : Int) = i)) -> ((firstS (l.take t) (p + (k : Int))).isSome || (decide (f ≤ p + (k : Int)) && decide (p + (k : Int) < i + 1))) = b := fun k hk b hc => by
      rw [hc, Bool.or_assoc]
      congr 1
      rw [Bool.eq_iff_iff]
      simp only [Bool.or_eq_true, Bool.and_eq_true, decide_eq_true_eq]
      omega
    rw [hs, at_get g1]
    simp only [Option.bind_some]
    cases hb : (firstS (l.take t) i).isSome with
    | true =>
      rw [if_pos rfl, K4]
      refine ih _ ⟨i + 1, met, left, rfl, by omega, .inl (by omega), met_cong hI (fun k hk => hcong k hk _ ?_)⟩ (by dsimp only; omega)
      by_cases hki' : p + (k : Int) = i
      · rw [hki', hb, Bool.true_or, Bool.true_or]
      · rw [decide_eq_false hki', Bool.or_false]
    | false =>
      rw [if_neg (by decide), hw, Option.bind_some]
      dsimp only
      have hnone : firstS (l.take t) i = none := by simpa using hb
      have hfirst : firstS l i = some l[t] := by
        have hc := (hcov i (by omega) (by omega)).2 ⟨hi1, hlt⟩
        have := first_next ht i
        rw [hnone, hc] at this
        exact first_take this
      have hwf : wantF w l i = w l[t] := by
        unfold wantF
        rw [hfirst]
      cases hwx : w l[t] with
      | false =>
        rw [if_pos (by decide)]
        rw [hr (met_false hk (by rw [hki, hwf, hwx]))]
      | true =>
        rw [if_neg (by decide)]
        have hset := met_set hI hk (by rw [hki, hdf, Bool.or_false]; exact hb) (by rw [hki, hwf, hwx])
        rw [Int.toNat_natCast, K4]
        have hl1 : sub .i64 left 1 = left - 1 := by
          have := hI.2.1
          have h2 := List.countP_le_length (p := fun b : Bool => !b) (l := met)
          have h3 := hI.1
          rw [sub64 (by omega) (by omega)]
        rw [hl1]
        refine ih _ ⟨i + 1, _, _, rfl, by omega, .inl (by omega), met_cong hset (fun k hk => hcong k hk _ ?_)⟩ (by dsimp only; omega)
        rw [hki]
  · rw [if_neg (fun e => hlt (lt_iff.1 e))]
    refine hR met left (met_cong hI fun k hk => ?_)
    have hc := hcov (p + (k : Int)) (by omega) (by omega)
    rw [first_next ht]
    have hcb : covS l[t] (p + (k : Int)) = (decide (f ≤ p + (k : Int)) && decide (p + (k : Int) < i)) := by
      rw [Bool.eq_iff_iff, hc]
      simp only [Bool.and_eq_true, decide_eq_true_eq]
      omega
    rw [<- hcb]
    cases hx : firstS (l.take t) (p + (k : Int)) with
    | some y => rfl
    | none =>
      cases covS l[t] (p + (k : Int)) <;> rfl
theorem each_ur_eq {w : TArea -> Bool} {l : List TArea} {p : Int} {m : Nat} (hp : 0 ≤ p) (hm : m ≤ 1000000) (hpm : p ≤ 1000000) (hl : l.length ≤ 1000000) (ho : ∀ x ∈ l, OkAr x) (hw : ∀ x, model_table_uint16_readable_z1 (x, ()) = some (w x, ())) : model_each_ur (l, p, (m : Int), ()) = some (eachS w l p m, ()) := by
  show qb6_ q87_ l p (m : Int) = _
  unfold qb6_
  rw [need_t (ge_iff.2 (by omega)), need_t (capOk_sf _), Int.toNat_natCast, need_small (by omega)]
  rw [qrk_]
  refine loopF_eq (Inv := fun s => ∃ (t : Nat) (met : List Bool) (left : Int), s = (p, (m : Int), left, l, (l.length : Int), (t : Int), met) ∧ t ≤ l.length ∧ MetI w l p m (fun i => (firstS (l.take t) i).isSome) met left)
    (μ := fun s => (Int.ofNat l.length - s.2.2.2.2.2.1).toNat) (G := fun _ => some (eachS w l p m, ())) ?_ _ _ ⟨0, _, _, rfl, Nat.zero_le _, met_0 w l p m⟩ (by dsimp only; rw [ofNat_eq]; omega)
  rintro self s ⟨t, met, left, rfl, ht, hI⟩ ih
  rw [qra_]
  unfold q89_
  have k2 : q5z_ left = some (eqi left 0, ()) := rfl
  by_cases hlt : t < l.length
  · have hg := List.getElem?_eq_getElem hlt
    rw [if_pos (by rw [lt_iff]; omega), at_get hg, Option.bind_some]
    by_cases h0 : left = 0
    · rw [if_pos (eqi_iff.2 h0), k2, eqi_iff.2 h0, met_zero hI h0]
    · rw [if_neg (fun e => h0 (eqi_iff.1 e)), add64 (by omega) (by omega)]
      obtain ⟨f, t', e1, e2, e3, e4, e5⟩ := meet_gen (x := l[t]) (p := p) (e := p + (m : Int)) hp (by omega) (by omega) (ho _ (List.getElem_mem hlt))
      rw [e1, Option.bind_some]
      refine each_ur_in _ hp (by omega) hlt hw e2 e3 e4 e5 (fun met left hI' => ?_) (fun e => by rw [e]) met left hI
      rw [succ64 (by omega)]
      exact ih _ ⟨t + 1, met, left, rfl, by omega, hI'⟩ (by dsimp only; rw [ofNat_eq]; omega)
  · have htl : t = l.length := by omega
    subst htl
    rw [if_neg (by rw [lt_iff]; omega), k2]
    by_cases h0 : left = 0
    · rw [eqi_iff.2 h0, met_zero hI h0]
    · rw [List.take_length] at hI
      rw [met_left hI h0, show eqi left 0 = false from decide_eq_false h0]
theorem each_bw_in (u1 : Int -> Int -> Int -> List TArea -> Int -> Int -> Int -> Int -> List Bool -> Option (As [.bool, .int .i64, .int .i64])) {w : TArea -> Bool} {l : List TArea} {p : Int} {m t : Nat} {r : As [.bool, .int .i64, .int .i64]} {o o2 : Int} (hp : 0 ≤ p) (hpm : p + (m : Int) ≤ 1000000000000) (ht : t < l.length) (hw : ∀ x, model_table_bool_writable_z1 (x, o, o2, ()) = some (w x, o, o2, ())) {f to' : Int} (hf : p ≤ f) (hfe : f ≤ p + (m : Int)) (hte : to' ≤ p + (m : Int))
    (hcov : ∀ i, p ≤ i -> i < p + (m : Int) -> (covS l[t] i = true ↔ f ≤ i ∧ i < to')) (hR : ∀ met left, MetI w l p m (fun i => (firstS (l.take (t + 1)) i).isSome) met left -> u1 p (m : Int) left l (l.length : Int) (add .i64 (t : Int) 1) o o2 met = some r) (hr : eachS w l p m = false -> r = (false, o, o2, ()))
    (met : List Bool) (left : Int) (h : MetI w l p m (fun i => (firstS (l.take t) i).isSome) met left) :
    q47_ u1 p (m : Int) left to' f l (l.length : Int) (t : Int) o o2 met l[t] = some r := by
  rw [qrq_]
  refine loopF_eq (Inv := fun s => ∃ (i : Int) (met : List Bool) (left : Int), s = (p, (m : Int), left, to', i, l, (l.length : Int), (t : Int), o, o2, met, l[t]) ∧ f ≤ i ∧ (i ≤ to' ∨ i = f) ∧ MetI w l p m (fun j => (firstS (l.take t) j).isSome || (decide (f ≤ j) && decide (j < i))) met left)
    (μ := fun s => (to' - s.2.2.2.2.1).toNat) (G := fun _ => some r) ?_ _ _ ⟨f, met, left, rfl, Int.le_refl _, .inr rfl, met_cong h fun k hk => by
      have : (decide (f ≤ p + (k : Int)) && decide (p + (k : Int) < f)) = false := by
        by_cases hh : f ≤ p + (k : Int)
        · rw [decide_eq_false (show ¬ (p + (k : Int) < f) by omega), Bool.and_false]
        · rw [decide_eq_false hh, Bool.false_and]
      rw [this, Bool.or_false]⟩ (by dsimp only; omega)
  rintro self s ⟨i, met, left, rfl, hi1, hi2, hI⟩ ih
  rw [qrg_]
  unfold q7s_
  by_cases hlt : i < to'
  · rw [if_pos (lt_iff.2 hlt)]
    have hk : (i - p).toNat < m := by omega
    have hki : p + (((i - p).toNat : Nat) : Int) = i := by omega
    have hs : sub .i64 i p = (((i - p).toNat : Nat) : Int) := by rw [sub64 (by omega) (by omega)]; omega
    obtain ⟨g1, g2⟩ := hI.2.2 _ hk
    dsimp only at g1 g2
    rw [hki] at g1 g2
    have hdf : (decide (f ≤ i) && decide (i < i)) = false := by rw [decide_eq_false (show ¬ i < i by omega), Bool.and_false]
    rw [hdf, Bool.or_false] at g1 g2
    have K4 : ∀ left met, q4c_ u1 (fun at' many left to' i t19 t20 t21 o o2 met x => self (at', many, left, to', i, t19, t20, t21, o, o2, met, x)) p (m : Int) left to' i l (l.length : Int) (t : Int) o o2 met l[t] = self (p, (m : Int), left, to', i + 1, l, (l.length : Int), (t : Int), o, o2, met, l[t]) := fun left met => by
      unfold q4c_ qh2_
      rw [add64 (by omega) (by omega)]
    have hcong : ∀ (k : Nat), k < m -> ∀ b : Bool, b = (((firstS (l.take t) (p + (k : Int))).isSome || (decide (f ≤ p + (k : Int)) && decide (p + (k : Int) < i))) || decide (p + (k : Int) = i)) -> ((firstS (l.take t) (p + (k : Int))).isSome || (decide (f ≤ p + (k : Int)) && decide (p + (k : Int) < i + 1))) = b := fun k hk b hc => by
      rw [hc, Bool.or_assoc]
      congr 1
      rw [Bool.eq_iff_iff]
      simp only [Bool.or_eq_true, Bool.and_eq_true, decide_eq_true_eq]
      omega
    rw [hs, at_get g1]
    simp only [Option.bind_some]
    cases hb : (firstS (l.take t) i).isSome with
    | true =>
      rw [if_pos rfl, K4]
      refine ih _ ⟨i + 1, met, left, rfl, by omega, .inl (by omega), met_cong hI (fun k hk => hcong k hk _ ?_)⟩ (by dsimp only; omega)
      by_cases hki' : p + (k : Int) = i
      · rw [hki', hb, Bool.true_or, Bool.true_or]
      · rw [decide_eq_false hki', Bool.or_false]
    | false =>
      rw [if_neg (by decide), hw, Option.bind_some]
      dsimp only
      have hnone : firstS (l.take t) i = none := by simpa using hb
      have hfirst : firstS l i = some l[t] := by
        have hc := (hcov i (by omega) (by omega)).2 ⟨hi1, hlt⟩
        have := first_next ht i
        rw [hnone, hc] at this
        exact first_take this
      have hwf : wantF w l i = w l[t] := by
        unfold wantF
        rw [hfirst]
      cases hwx : w l[t] with
      | false =>
        rw [if_pos (by decide)]
        rw [hr (met_false hk (by rw [hki, hwf, hwx]))]
      | true =>
        rw [if_neg (by decide)]
        have hset := met_set hI hk (by rw [hki, hdf, Bool.or_false]; exact hb) (by rw [hki, hwf, hwx])
        rw [Int.toNat_natCast, K4]
        have hl1 : sub .i64 left 1 = left - 1 := by
          have := hI.2.1
          have h2 := List.countP_le_length (p := fun b : Bool => !b) (l := met)
          have h3 := hI.1
          rw [sub64 (by omega) (by omega)]
        rw [hl1]
        refine ih _ ⟨i + 1, _, _, rfl, by omega, .inl (by omega), met_cong hset (fun k hk => hcong k hk _ ?_)⟩ (by dsimp only; omega)
        rw [hki]
  · rw [if_neg (fun e => hlt (lt_iff.1 e))]
    refine hR met left (met_cong hI fun k hk => ?_)
    have hc := hcov (p + (k : Int)) (by omega) (by omega)
    rw [first_next ht]
    have hcb : covS l[t] (p + (k : Int)) = (decide (f ≤ p + (k : Int)) && decide (p + (k : Int) < i)) := by
      rw [Bool.eq_iff_iff, hc]
      simp only [Bool.and_eq_true, decide_eq_true_eq]
      omega
    rw [<- hcb]
    cases hx : firstS (l.take t) (p + (k : Int)) with
    | some y => rfl
    | none =>
      cases covS l[t] (p + (k : Int)) <;> rfl
theorem each_bw_eq {w : TArea -> Bool} {l : List TArea} {p : Int} {m : Nat} (hp : 0 ≤ p) (hm : m ≤ 1000000) (hpm : p ≤ 1000000) (hl : l.length ≤ 1000000) (ho : ∀ x ∈ l, OkAr x) {o o2 : Int} (hw : ∀ x, model_table_bool_writable_z1 (x, o, o2, ()) = some (w x, o, o2, ())) : model_each_bw (l, p, (m : Int), o, o2, ()) = some (eachS w l p m, o, o2, ()) := by
  show qax_ q7x_ l p (m : Int) o o2 = _
  unfold qax_
  rw [need_t (ge_iff.2 (by omega)), need_t (capOk_sf _), Int.toNat_natCast, need_small (by omega)]
  rw [qrb_]
  refine loopF_eq (Inv := fun s => ∃ (t : Nat) (met : List Bool) (left : Int), s = (p, (m : Int), left, l, (l.length : Int), (t : Int), o, o2, met) ∧ t ≤ l.length ∧ MetI w l p m (fun i => (firstS (l.take t) i).isSome) met left)
    (μ := fun s => (Int.ofNat l.length - s.2.2.2.2.2.1).toNat) (G := fun _ => some (eachS w l p m, o, o2, ())) ?_ _ _ ⟨0, _, _, rfl, Nat.zero_le _, met_0 w l p m⟩ (by dsimp only; rw [ofNat_eq]; omega)
  rintro self s ⟨t, met, left, rfl, ht, hI⟩ ih
  rw [qrp_]
  unfold q8b_
  have k2 : q5v_ left o o2 = some (eqi left 0, o, o2, ()) := rfl
  by_cases hlt : t < l.length
  · have hg := List.getElem?_eq_getElem hlt
    rw [if_pos (by rw [lt_iff]; omega), at_get hg, Option.bind_some]
    by_cases h0 : left = 0
    · rw [if_pos (eqi_iff.2 h0), k2, eqi_iff.2 h0, met_zero hI h0]
    · rw [if_neg (fun e => h0 (eqi_iff.1 e)), add64 (by omega) (by omega)]
      obtain ⟨f, t', e1, e2, e3, e4, e5⟩ := meet_gen (x := l[t]) (p := p) (e := p + (m : Int)) hp (by omega) (by omega) (ho _ (List.getElem_mem hlt))
      rw [e1, Option.bind_some]
      refine each_bw_in _ hp (by omega) hlt hw e2 e3 e4 e5 (fun met left hI' => ?_) (fun e => by rw [e]) met left hI
      rw [succ64 (by omega)]
      exact ih _ ⟨t + 1, met, left, rfl, by omega, hI'⟩ (by dsimp only; rw [ofNat_eq]; omega)
  · have htl : t = l.length := by omega
    subst htl
    rw [if_neg (by rw [lt_iff]; omega), k2]
    by_cases h0 : left = 0
    · rw [eqi_iff.2 h0, met_zero hI h0]
    · rw [List.take_length] at hI
      rw [met_left hI h0, show eqi left 0 = false from decide_eq_false h0]
theorem each_uw_in (u1 : Int -> Int -> Int -> List TArea -> Int -> Int -> Int -> Int -> List Bool -> Option (As [.bool, .int .i64, .int .i64])) {w : TArea -> Bool} {l : List TArea} {p : Int} {m t : Nat} {r : As [.bool, .int .i64, .int .i64]} {o o2 : Int} (hp : 0 ≤ p) (hpm : p + (m : Int) ≤ 1000000000000) (ht : t < l.length) (hw : ∀ x, model_table_uint16_writable_z1 (x, o, o2, ()) = some (w x, o, o2, ())) {f to' : Int} (hf : p ≤ f) (hfe : f ≤ p + (m : Int)) (hte : to' ≤ p + (m : Int))
    (hcov : ∀ i, p ≤ i -> i < p + (m : Int) -> (covS l[t] i = true ↔ f ≤ i ∧ i < to')) (hR : ∀ met left, MetI w l p m (fun i => (firstS (l.take (t + 1)) i).isSome) met left -> u1 p (m : Int) left l (l.length : Int) (add .i64 (t : Int) 1) o o2 met = some r) (hr : eachS w l p m = false -> r = (false, o, o2, ()))
    (met : List Bool) (left : Int) (h : MetI w l p m (fun i => (firstS (l.take t) i).isSome) met left) :
    q48_ u1 p (m : Int) left to' f l (l.length : Int) (t : Int) o o2 met l[t] = some r := by
  rw [qrl_]
  refine loopF_eq (Inv := fun s => ∃ (i : Int) (met : List Bool) (left : Int), s = (p, (m : Int), left, to', i, l, (l.length : Int), (t : Int), o, o2, met, l[t]) ∧ f ≤ i ∧ (i ≤ to' ∨ i = f) ∧ MetI w l p m (fun j => (firstS (l.take t) j).isSome || (decide (f ≤ j) && decide (j < i))) met left)
    (μ := fun s => (to' - s.2.2.2.2.1).toNat) (G := fun _ => some r) ?_ _ _ ⟨f, met, left, rfl, Int.le_refl _, .inr rfl, met_cong h fun k hk => by
      have : (decide (f ≤ p + (k : Int)) && decide (p + (k : Int) < f)) = false := by
        by_cases hh : f ≤ p + (k : Int)
        · rw [decide_eq_false (show ¬ (p + (k : Int) < f) by omega), Bool.and_false]
        · rw [decide_eq_false hh, Bool.false_and]
      rw [this, Bool.or_false]⟩ (by dsimp only; omega)
  rintro self s ⟨i, met, left, rfl, hi1, hi2, hI⟩ ih
  rw [qrm_]
  unfold q8c_
  by_cases hlt : i < to'
  · rw [if_pos (lt_iff.2 hlt)]
    have hk : (i - p).toNat < m := by omega
    have hki : p + (((i - p).toNat : Nat) : Int) = i := by omega
    have hs : sub .i64 i p = (((i - p).toNat : Nat) : Int) := by rw [sub64 (by omega) (by omega)]; omega
    obtain ⟨g1, g2⟩ := hI.2.2 _ hk
    dsimp only at g1 g2
    rw [hki] at g1 g2
    have hdf : (decide (f ≤ i) && decide (i < i)) = false := by rw [decide_eq_false (show ¬ i < i by omega), Bool.and_false]
    rw [hdf, Bool.or_false] at g1 g2
    have K4 : ∀ left met, q4a_ u1 (fun at' many left to' i t19 t20 t21 o o2 met x => self (at', many, left, to', i, t19, t20, t21, o, o2, met, x)) p (m : Int) left to' i l (l.length : Int) (t : Int) o o2 met l[t] = self (p, (m : Int), left, to', i + 1, l, (l.length : Int), (t : Int), o, o2, met, l[t]) := fun left met => by
      unfold q4a_ qgy_
      rw [add64 (by omega) (by omega)]
    have hcong : ∀ (k : Nat), k < m -> ∀ b : Bool, b = (((firstS (l.take t) (p + (k : Int))).isSome || (decide (f ≤ p + (k : Int)) && decide (p + (k : Int) < i))) || decide (p + (k : Int) = i)) -> ((firstS (l.take t) (p + (k : Int))).isSome || (decide (f ≤ p + (k : Int)) && decide (p + (k : Int) < i + 1))) = b := fun k hk b hc => by
      rw [hc, Bool.or_assoc]
      congr 1
      rw [Bool.eq_iff_iff]
      simp only [Bool.or_eq_true, Bool.and_eq_true, decide_eq_true_eq]
      omega
    rw [hs, at_get g1]
    simp only [Option.bind_some]
    cases hb : (firstS (l.take t) i).isSome with
    | true =>
      rw [if_pos rfl, K4]
      refine ih _ ⟨i + 1, met, left, rfl, by omega, .inl (by omega), met_cong hI (fun k hk => hcong k hk _ ?_)⟩ (by dsimp only; omega)
      by_cases hki' : p + (k : Int) = i
      · rw [hki', hb, Bool.true_or, Bool.true_or]
      · rw [decide_eq_false hki', Bool.or_false]
    | false =>
      rw [if_neg (by decide), hw, Option.bind_some]
      dsimp only
      have hnone : firstS (l.take t) i = none := by simpa using hb
      have hfirst : firstS l i = some l[t] := by
        have hc := (hcov i (by omega) (by omega)).2 ⟨hi1, hlt⟩
        have := first_next ht i
        rw [hnone, hc] at this
        exact first_take this
      have hwf : wantF w l i = w l[t] := by
        unfold wantF
        rw [hfirst]
      cases hwx : w l[t] with
      | false =>
        rw [if_pos (by decide)]
        rw [hr (met_false hk (by rw [hki, hwf, hwx]))]
      | true =>
        rw [if_neg (by decide)]
        have hset := met_set hI hk (by rw [hki, hdf, Bool.or_false]; exact hb) (by rw [hki, hwf, hwx])
        rw [Int.toNat_natCast, K4]
        have hl1 : sub .i64 left 1 = left - 1 := by
          have := hI.2.1
          have h2 := List.countP_le_length (p := fun b : Bool => !b) (l := met)
          have h3 := hI.1
          rw [sub64 (by omega) (by omega)]
        rw [hl1]
        refine ih _ ⟨i + 1, _, _, rfl, by omega, .inl (by omega), met_cong hset (fun k hk => hcong k hk _ ?_)⟩ (by dsimp only; omega)
        rw [hki]
  · rw [if_neg (fun e => hlt (lt_iff.1 e))]
    refine hR met left (met_cong hI fun k hk => ?_)
    have hc := hcov (p + (k : Int)) (by omega) (by omega)
    rw [first_next ht]
    have hcb : covS l[t] (p + (k : Int)) = (decide (f ≤ p + (k : Int)) && decide (p + (k : Int) < i)) := by
      rw [Bool.eq_iff_iff, hc]
      simp only [Bool.and_eq_true, decide_eq_true_eq]
      omega
    rw [<- hcb]
    cases hx : firstS (l.take t) (p + (k : Int)) with
    | some y => rfl
    | none =>
      cases covS l[t] (p + (k : Int)) <;> rfl
theorem each_uw_eq {w : TArea -> Bool} {l : List TArea} {p : Int} {m : Nat} (hp : 0 ≤ p) (hm : m ≤ 1000000) (hpm : p ≤ 1000000) (hl : l.length ≤ 1000000) (ho : ∀ x ∈ l, OkAr x) {o o2 : Int} (hw : ∀ x, model_table_uint16_writable_z1 (x, o, o2, ()) = some (w x, o, o2, ())) : model_each_uw (l, p, (m : Int), o, o2, ()) = some (eachS w l p m, o, o2, ()) := by
  show qav_ q7r_ l p (m : Int) o o2 = _
  unfold qav_
  rw [need_t (ge_iff.2 (by omega)), need_t (capOk_sf _), Int.toNat_natCast, need_small (by omega)]
  rw [qri_]
  refine loopF_eq (Inv := fun s => ∃ (t : Nat) (met : List Bool) (left : Int), s = (p, (m : Int), left, l, (l.length : Int), (t : Int), o, o2, met) ∧ t ≤ l.length ∧ MetI w l p m (fun i => (firstS (l.take t) i).isSome) met left)
    (μ := fun s => (Int.ofNat l.length - s.2.2.2.2.2.1).toNat) (G := fun _ => some (eachS w l p m, o, o2, ())) ?_ _ _ ⟨0, _, _, rfl, Nat.zero_le _, met_0 w l p m⟩ (by dsimp only; rw [ofNat_eq]; omega)
  rintro self s ⟨t, met, left, rfl, ht, hI⟩ ih
  rw [qrj_]
  unfold q83_
  have k2 : q61_ left o o2 = some (eqi left 0, o, o2, ()) := rfl
  by_cases hlt : t < l.length
  · have hg := List.getElem?_eq_getElem hlt
    rw [if_pos (by rw [lt_iff]; omega), at_get hg, Option.bind_some]
    by_cases h0 : left = 0
    · rw [if_pos (eqi_iff.2 h0), k2, eqi_iff.2 h0, met_zero hI h0]
    · rw [if_neg (fun e => h0 (eqi_iff.1 e)), add64 (by omega) (by omega)]
      obtain ⟨f, t', e1, e2, e3, e4, e5⟩ := meet_gen (x := l[t]) (p := p) (e := p + (m : Int)) hp (by omega) (by omega) (ho _ (List.getElem_mem hlt))
      rw [e1, Option.bind_some]
      refine each_uw_in _ hp (by omega) hlt hw e2 e3 e4 e5 (fun met left hI' => ?_) (fun e => by rw [e]) met left hI
      rw [succ64 (by omega)]
      exact ih _ ⟨t + 1, met, left, rfl, by omega, hI'⟩ (by dsimp only; rw [ofNat_eq]; omega)
  · have htl : t = l.length := by omega
    subst htl
    rw [if_neg (by rw [lt_iff]; omega), k2]
    by_cases h0 : left = 0
    · rw [eqi_iff.2 h0, met_zero hI h0]
    · rw [List.take_length] at hI
      rw [met_left hI h0, show eqi left 0 = false from decide_eq_false h0]
end Go.Proofs.Lx
end
section
namespace Go.Proofs.Lx
open Go Ev Sx Pl
set_option maxRecDepth 100000
abbrev TJob := Int × Int × List Int × Int
def rightJ : Int -> List TJob -> Bool
  | _, [] => true
  | b, j :: r => decide (b < j.1 ∧ j.2.1 ≠ 0 ∧ j.2.2.1.length ≤ 8192 ∧ 1 ≤ j.2.2.2 ∧ j.2.2.2 ≤ 5) && rightJ j.1 r
theorem rightJ_cons (b : Int) (j : TJob) (r : List TJob) : rightJ b (j :: r) = (decide (b < j.1 ∧ j.2.1 ≠ 0 ∧ j.2.2.1.length ≤ 8192 ∧ 1 ≤ j.2.2.2 ∧ j.2.2.2 ≤ 5) && rightJ j.1 r) := rfl
theorem rightJ_go : ∀ (r : List TJob) (b : Int), goL (R := Bool × Unit) (fun (b : Int) (j : TJob) k => if b < j.1 ∧ j.2.1 ≠ 0 ∧ j.2.2.1.length ≤ 8192 ∧ 1 ≤ j.2.2.2 ∧ j.2.2.2 ≤ 5 then k j.1 else some (false, ())) (fun _ => some (true, ())) r b = some (rightJ b r, ())
  | [], _ => rfl
  | j :: r, b => by
    show (if _ then goL _ _ r j.1 else _) = _
    rw [rightJ_go r j.1, rightJ_cons]
    split
    · rename_i h
      rw [decide_eq_true h, Bool.true_and]
    · rename_i h
      rw [decide_eq_false h, Bool.false_and]
end Go.Proofs.Lx
end
section
namespace Go.Proofs.Lx
open Go Ev Sx Pl
set_option maxRecDepth 100000
def idxI (v : Int) : Nat -> List Int -> Int
  | _, [] => -1
  | i, x :: r => if v = x then (i : Int) else idxI v (i + 1) r
theorem idxI_cons (v x : Int) (i : Nat) (r : List Int) : idxI v i (x :: r) = if v = x then (i : Int) else idxI v (i + 1) r := rfl
theorem idxI_ge (v : Int) : ∀ (r : List Int) (i : Nat), 0 ≤ idxI v i r ↔ v ∈ r
  | [], _ => by simp [idxI]
  | x :: r, i => by
    unfold idxI
    rw [List.mem_cons]
    by_cases h : v = x
    · rw [if_pos h]; simp [h]
    · rw [if_neg h, idxI_ge v r]; simp [h]
theorem index_eq {s : List Int} (hl : s.length ≤ 1000000) (v : Int) : slices_Index_Guint32 (s, v, ()) = some (idxI v 0 s, ()) := by
  have key : ∀ (r : List Int) (i : Nat), goI (R := Int × Unit) (fun i (_ : Unit) (x : Int) k => if v = x then some ((i : Int), ()) else k ()) (fun _ => some (-1, ())) i r () = some (idxI v i r, ()) := by
    intro r
    induction r with
    | nil => intro i; rfl
    | cons x r ih =>
      intro i
      show (if v = x then _ else goI _ _ (i + 1) r ()) = _
      rw [ih, idxI_cons]
      split <;> rfl
  show q3t_ s v (Int.ofNat s.length) ((0 : Nat) : Int) = _
  rw [<- key]
  unfold q3t_
  refine loop_goi (xs := s) (mk := fun i _ => (s, v, Int.ofNat s.length, (i : Int))) ?_ ?_ s.length 0 () _ (by omega) (by omega)
  · intro self i _ x hx
    have hi := (List.getElem?_eq_some_iff.1 hx).1
    show q2i_ _ s v (Int.ofNat s.length) (i : Int) = _
    unfold q2i_
    rw [if_pos (by rw [lt_iff, ofNat_eq]; omega), at_get hx, Option.bind_some, succ64 (by omega)]
    simp only [eqi_iff]
  · intro self _
    show q2i_ _ s v (Int.ofNat s.length) (s.length : Int) = _
    unfold q2i_
    rw [if_neg (by rw [lt_iff, ofNat_eq]; omega)]
theorem contains_eq {s : List Int} (hl : s.length ≤ 1000000) (v : Int) : slices_Contains_Guint32 (s, v, ()) = some (decide (v ∈ s), ()) := by
  show q45_ s v = _
  unfold q45_
  rw [index_eq hl, Option.bind_some]
  have : ge (idxI v 0 s) 0 = decide (v ∈ s) := by
    rw [Bool.eq_iff_iff, ge_iff, decide_eq_true_eq]
    exact idxI_ge v s 0
  rw [this]
def stW (waits : List Int) (j : TJob) : Int := if j.2.2.2 = 1 ∧ j.1 ∈ waits then 6 else j.2.2.2
def shownS (l : List TJob) : List TJob := l.drop (l.length - 12)
def lineS (waits : List Int) (j : TJob) : List Int := [j.1 / 65536, j.1 % 65536, stW waits j, j.2.1]
def h0 (l : List TJob) (n : Int) : List Int := [n, (shownS l).length]
def memH (l : List TJob) (waits : List Int) : List Int := (if 65535 < l.length then 65535 else (l.length : Int)) :: ((shownS l).length : Int) :: ((shownS l).flatMap (lineS waits) ++ List.replicate (4 * (12 - (shownS l).length)) 0)
theorem shown_len (l : List TJob) : (shownS l).length ≤ 12 ∧ (shownS l).length ≤ l.length ∧ (l.length ≤ 12 -> (shownS l).length = l.length) ∧ (12 ≤ l.length -> (shownS l).length = 12) := by
  unfold shownS
  rw [List.length_drop]
  omega
theorem flat4 {α β : Type} {f : α -> List β} (hf : ∀ x, (f x).length = 4) : ∀ l : List α, (l.flatMap f).length = 4 * l.length
  | [] => rfl
  | x :: l => by rw [List.flatMap_cons, List.length_append, hf, flat4 hf l, List.length_cons]; omega
theorem line4 (waits : List Int) (j : TJob) : (lineS waits j).length = 4 := rfl
theorem memH_len (l : List TJob) (waits : List Int) : (memH l waits).length = 50 := by
  have := shown_len l
  unfold memH
  rw [List.length_cons, List.length_cons, List.length_append, flat4 (line4 waits), List.length_replicate]
  omega
theorem parts_eq {x : Int} (h1 : 0 ≤ x) (h2 : x < 4294967296) : words_Parts (x, ()) = some (x / 65536, x % 65536, ()) := by
  show qe8_ x = _
  unfold qe8_
  have : Sx.shr .u32 x 16 = x / 65536 := by
    unfold Sx.shr
    have : min (16 : Int).toNat IntKind.u32.bits = 16 := rfl
    rw [this, Int.fdiv_eq_ediv_of_nonneg _ (by decide)]
    rfl
  rw [this, cvt16, cvt16, Int.emod_eq_of_lt (by omega) (by omega)]
def OkJ (j : TJob) : Prop := 0 ≤ j.1 ∧ j.1 < 4294967296 ∧ 0 ≤ j.2.1 ∧ j.2.1 < 256 ∧ 0 ≤ j.2.2.2 ∧ j.2.2.2 < 256
def memP (a b : Int) (waits : List Int) (s : List TJob) (i : Nat) : List Int := (a :: b :: (s.take i).flatMap (lineS waits)) ++ List.replicate (4 * (12 - i)) 0
theorem four_set {P Q : List Int} (p q r s z0 z1 z2 z3 : Int) {n : Nat} (hn : P.length = n) :
    at? (P ++ z0 :: z1 :: z2 :: z3 :: Q) (n : Int) = some z0 ∧
    at? (List.set (P ++ z0 :: z1 :: z2 :: z3 :: Q) n p) ((n + 1 : Nat) : Int) = some z1 ∧
    at? (List.set (List.set (P ++ z0 :: z1 :: z2 :: z3 :: Q) n p) (n + 1) q) ((n + 2 : Nat) : Int) = some z2 ∧
    at? (List.set (List.set (List.set (P ++ z0 :: z1 :: z2 :: z3 :: Q) n p) (n + 1) q) (n + 2) r) ((n + 3 : Nat) : Int) = some z3 ∧
    List.set (List.set (List.set (List.set (P ++ z0 :: z1 :: z2 :: z3 :: Q) n p) (n + 1) q) (n + 2) r) (n + 3) s = P ++ p :: q :: r :: s :: Q := by
  subst hn
  have e1 : List.set (P ++ z0 :: z1 :: z2 :: z3 :: Q) P.length p = P ++ p :: z1 :: z2 :: z3 :: Q := set_at _ _ _ _
  have e2 : List.set (P ++ p :: z1 :: z2 :: z3 :: Q) (P.length + 1) q = P ++ p :: q :: z2 :: z3 :: Q := by
    rw [List.set_append_right _ _ (by omega)]; congr 1; rw [show P.length + 1 - P.length = 1 by omega]; rfl
  have e3 : List.set (P ++ p :: q :: z2 :: z3 :: Q) (P.length + 2) r = P ++ p :: q :: r :: z3 :: Q := by
    rw [List.set_append_right _ _ (by omega)]; congr 1; rw [show P.length + 2 - P.length = 2 by omega]; rfl
  have e4 : List.set (P ++ p :: q :: r :: z3 :: Q) (P.length + 3) s = P ++ p :: q :: r :: s :: Q := by
    rw [List.set_append_right _ _ (by omega)]; congr 1; rw [show P.length + 3 - P.length = 3 by omega]; rfl
  have g : ∀ (k : Nat) (L : List Int) (z : Int), L[k]? = some z -> at? (P ++ L) ((P.length + k : Nat) : Int) = some z := fun k L z h => at_get (by rw [List.getElem?_append_right (by omega), show P.length + k - P.length = k by omega]; exact h)
  rw [e1, e2, e3, e4]
  exact ⟨g 0 _ _ rfl, g 1 _ _ rfl, g 2 _ _ rfl, g 3 _ _ rfl, rfl⟩
theorem vmem_eq {l : List TJob} (hl : l.length ≤ 1000000) {waits : List Int} (hw : waits.length ≤ 1000000) (ho : ∀ j ∈ l, OkJ j) : view_Mem (l, waits, ()) = some (([], [], memH l waits, []), ()) := by
  obtain ⟨n1, n2, n3, n4⟩ := shown_len l
  have hlast : view_last_Gapi_Job (l, 12, ()) = some (shownS l, ()) := by
    show q6g_ l 12 = _
    unfold q6g_
    have e : (if gt 0 (sub .i64 (Int.ofNat l.length) 12) = true then 0 else sub .i64 (Int.ofNat l.length) 12) = ((l.length - 12 : Nat) : Int) := by
      rw [ofNat_eq, sub64 (by omega) (by omega)]
      by_cases h : l.length < 12
      · rw [if_pos (by rw [gt_iff]; omega)]; omega
      · rw [if_neg (by rw [gt_iff]; omega)]; omega
    rw [e, cut_from (by omega)]
    rfl
  show qkf_ qbw_ l waits = _
  unfold qkf_
  rw [hlast, Option.bind_some]
  dsimp only
  have ea : cvt .u16 (if lt 65535 (Int.ofNat l.length) = true then 65535 else Int.ofNat l.length) = (if 65535 < l.length then 65535 else (l.length : Int)) := by
    rw [ofNat_eq, cvt16]
    by_cases h : 65535 < l.length
    · rw [if_pos (by rw [lt_iff]; omega), if_pos h]; rfl
    · rw [if_neg (by rw [lt_iff]; omega), if_neg h]; omega
  have eb : cvt .u16 (Int.ofNat (shownS l).length) = ((shownS l).length : Int) := by
    rw [ofNat_eq, cvt16]; omega
  rw [ea, eb]
  unfold memH
  generalize (if 65535 < l.length then 65535 else (l.length : Int)) = a
  show qbw_ waits (shownS l) (Int.ofNat (shownS l).length) ((0 : Nat) : Int) (memP a (shownS l).length waits (shownS l) 0) = _
  have fin : some ((([] : List Bool), ([] : List Bool), a :: ((shownS l).length : Int) :: ((shownS l).flatMap (lineS waits) ++ List.replicate (4 * (12 - (shownS l).length)) 0), ([] : List Int)), ()) = qfi_ (memP a (shownS l).length waits (shownS l) (shownS l).length) := by
    unfold memP qfi_ qo7_
    rw [List.take_length]
    rfl
  rw [fin]
  unfold qbw_
  have hsub : ∀ j ∈ shownS l, OkJ j := fun j hj => ho j (List.mem_of_mem_drop hj)
  generalize hS : shownS l = S at *
  refine loop_dt (N := S.length) (mk := fun i => (waits, S, Int.ofNat S.length, (i : Int), memP a (S.length : Int) waits S i)) ?_ ?_ S.length 0 _ (by omega) (by omega)
  · intro self i hi
    have hj := List.getElem?_eq_getElem hi
    have hok := hsub _ (List.getElem_mem hi)
    generalize hjj : S[i] = j at hj hok
    show qbs_ _ _ _ waits S (Int.ofNat S.length) (i : Int) (memP a (S.length : Int) waits S i) = _
    unfold qbs_
    rw [if_pos (by rw [lt_iff, ofNat_eq]; omega), at_get hj, Option.bind_some, parts_eq hok.1 hok.2.1, Option.bind_some]
    dsimp only
    have hP : (a :: (S.length : Int) :: (S.take i).flatMap (lineS waits)).length = 2 + 4 * i := by
      rw [List.length_cons, List.length_cons, flat4 (line4 waits), List.length_take]; omega
    have hR : List.replicate (4 * (12 - i)) (0 : Int) = 0 :: 0 :: 0 :: 0 :: List.replicate (4 * (12 - (i + 1))) 0 := by
      rw [show 4 * (12 - i) = 4 * (12 - (i + 1)) + 4 by omega]
      rfl
    have hm : memP a (S.length : Int) waits S i = (a :: (S.length : Int) :: (S.take i).flatMap (lineS waits)) ++ 0 :: 0 :: 0 :: 0 :: List.replicate (4 * (12 - (i + 1))) 0 := by
      unfold memP
      rw [hR]
    obtain ⟨g0, g1, g2, g3, g4⟩ := four_set (P := a :: (S.length : Int) :: (S.take i).flatMap (lineS waits)) (Q := List.replicate (4 * (12 - (i + 1))) 0) (j.1 / 65536) (j.1 % 65536) (stW waits j) j.2.1 0 0 0 0 hP
    rw [<- hm] at g0 g1 g2 g3 g4
    have e0 : add .i64 2 (mul .i64 4 (i : Int)) = ((2 + 4 * i : Nat) : Int) := by
      rw [mul64 (by omega) (by omega), add64 (by omega) (by omega)]; omega
    have e1 : add .i64 ((2 + 4 * i : Nat) : Int) 1 = ((2 + 4 * i + 1 : Nat) : Int) := succ64 (by omega)
    have e2 : add .i64 ((2 + 4 * i : Nat) : Int) 2 = ((2 + 4 * i + 2 : Nat) : Int) := by rw [add64 (by omega) (by omega)]; omega
    have e3 : add .i64 ((2 + 4 * i : Nat) : Int) 3 = ((2 + 4 * i + 3 : Nat) : Int) := by rw [add64 (by omega) (by omega)]; omega
    rw [e0, e1]
    simp only [Int.toNat_natCast]
    rw [g0, Option.bind_some, Option.bind_some, g1, Option.bind_some, Option.bind_some]
    have K4 : ∀ st, st = stW waits j -> qf6_ (fun waits t25 t26 t27 h => self (waits, t25, t26, t27, h)) waits ((2 + 4 * i : Nat) : Int) st S (Int.ofNat S.length) (i : Int) (List.set (List.set (memP a (S.length : Int) waits S i) (2 + 4 * i) (j.1 / 65536)) (2 + 4 * i + 1) (j.1 % 65536)) j = self (waits, S, Int.ofNat S.length, ((i + 1 : Nat) : Int), memP a (S.length : Int) waits S (i + 1)) := by
      intro st hst
      unfold qf6_ qnp_
      have hc : cvt .u16 st = stW waits j := by
        rw [hst, cvt16]
        unfold stW
        have := hok.2.2.2.2
        split <;> omega
      have hd : cvt .u16 j.2.1 = j.2.1 := by
        have := hok.2.2
        rw [cvt16]; omega
      rw [e2, e3]
      simp only [Int.toNat_natCast]
      rw [g2, Option.bind_some, Option.bind_some, hc, g3, Option.bind_some, Option.bind_some, hd, g4, succ64 (by omega)]
      congr 1
      unfold memP
      rw [List.take_succ_eq_append_getElem hi, hjj, List.flatMap_append]
      simp [lineS]
    have K2 : ∀ t, (t = true -> stW waits j = 6) -> (t = false -> stW waits j = j.2.2.2) -> qfe_ (fun waits t25 t26 t27 h => self (waits, t25, t26, t27, h)) waits ((2 + 4 * i : Nat) : Int) j.2.2.2 S (Int.ofNat S.length) (i : Int) t (List.set (List.set (memP a (S.length : Int) waits S i) (2 + 4 * i) (j.1 / 65536)) (2 + 4 * i + 1) (j.1 % 65536)) j = self (waits, S, Int.ofNat S.length, ((i + 1 : Nat) : Int), memP a (S.length : Int) waits S (i + 1)) := by
      intro t ht hf
      unfold qfe_ qns_
      cases t with
      | true => rw [if_pos rfl]; exact K4 _ (ht rfl).symm
      | false => rw [if_neg (by decide)]; exact K4 _ (hf rfl).symm
    by_cases h : j.2.2.2 = 1
    · rw [if_pos (eqi_iff.2 h), contains_eq hw, Option.bind_some]
      refine K2 _ (fun ht => ?_) (fun ht => ?_)
      · unfold stW
        rw [if_pos ⟨h, of_decide_eq_true ht⟩]
      · unfold stW
        rw [if_neg (fun e => of_decide_eq_false ht e.2)]
    · rw [if_neg (fun e => h (eqi_iff.1 e))]
      refine K2 false (fun ht => by cases ht) (fun _ => ?_)
      unfold stW
      rw [if_neg (fun e => h e.1)]
  · intro self
    show qbs_ _ _ _ waits S (Int.ofNat S.length) (S.length : Int) _ = _
    unfold qbs_
    rw [if_neg (by rw [lt_iff, ofNat_eq]; omega)]
end Go.Proofs.Lx
end
section
namespace Go.Proofs.Lx
open Go Ev Sx Pl
set_option maxRecDepth 100000
abbrev TLine := Int × Int × Int
abbrev TMem := List Bool × List Bool × List Int × List Int
abbrev RRd := Option (List TLine × Bool × Unit)
theorem cvt32 (x : Int) : cvt .u32 x = x % 4294967296 := by
  show IntKind.u32.wrap x = _
  simp only [IntKind.wrap, IntKind.signed, IntKind.bits]
  simp
theorem wide_eq {a b : Int} (ha : 0 ≤ a) (ha2 : a < 65536) (hb : 0 ≤ b) (hb2 : b < 65536) : words_Wide (a, b, ()) = some (65536 * a + b, ()) := by
  obtain ⟨n, rfl⟩ := Int.eq_ofNat_of_zero_le ha
  obtain ⟨m, rfl⟩ := Int.eq_ofNat_of_zero_le hb
  show qfq_ (n : Int) (m : Int) = _
  unfold qfq_
  have hs : Sx.shl .u32 (cvt .u32 (n : Int)) 16 = ((65536 * n : Nat) : Int) := by
    rw [cvt32]
    unfold Sx.shl
    have : min (16 : Int).toNat IntKind.u32.bits = 16 := by decide
    rw [this]
    show cvt .u32 _ = _
    rw [cvt32]
    omega
  rw [hs, cvt32, Int.emod_eq_of_lt (by omega) (by omega)]
  have e1 : (BitVec.ofInt IntKind.u32.bits ((65536 * n : Nat) : Int)).toNat = 65536 * n := by
    rw [BitVec.toNat_ofInt]
    have : ((2 ^ IntKind.u32.bits : Nat) : Int) = 4294967296 := by decide
    rw [this]
    omega
  have e2 : (BitVec.ofInt IntKind.u32.bits (m : Int)).toNat = m := by
    rw [BitVec.toNat_ofInt]
    have : ((2 ^ IntKind.u32.bits : Nat) : Int) = 4294967296 := by decide
    rw [this]
    omega
  have e3 : 65536 * n ||| m = 65536 * n + m := by
    have := Nat.two_pow_add_eq_or_of_lt (i := 16) (b := m) (by omega) n
    rw [show (2 : Nat) ^ 16 = 65536 from rfl] at this
    exact this.symm
  unfold bor
  rw [BitVec.toNat_or, e1, e2, e3]
  show some (cvt .u32 _, ()) = _
  rw [cvt32]
  congr 2
  omega
def quads : List Int -> List TLine
  | a :: b :: c :: d :: r => (65536 * a + b, c, d) :: quads r
  | _ => []
theorem quads_nth : ∀ (i : Nat) {h : List Int} {a b c d : Int}, h[4 * i]? = some a -> h[4 * i + 1]? = some b -> h[4 * i + 2]? = some c -> h[4 * i + 3]? = some d -> (quads h)[i]? = some (65536 * a + b, c, d)
  | 0, x :: y :: z :: w :: r, a, b, c, d, h1, h2, h3, h4 => by
    simp at h1 h2 h3 h4
    subst h1 h2 h3 h4
    rfl
  | i + 1, x :: y :: z :: w :: r, a, b, c, d, h1, h2, h3, h4 => by
    show (quads r)[i]? = _
    rw [show 4 * (i + 1) = 4 * i + 4 by omega] at h1 h2 h3 h4
    exact quads_nth i (by simpa using h1) (by simpa [Nat.add_right_comm] using h2) (by simpa [Nat.add_right_comm] using h3) (by simpa [Nat.add_right_comm] using h4)
  | i, [], a, b, c, d, h1, h2, h3, h4 => by simp at h1
  | i, [x], a, b, c, d, h1, h2, h3, h4 => by simp at h2
  | i, [x, y], a, b, c, d, h1, h2, h3, h4 => by simp at h3
  | i, [x, y, z], a, b, c, d, h1, h2, h3, h4 => by simp at h4
theorem quads_len : ∀ (n : Nat) {h : List Int}, h.length = 4 * n -> (quads h).length = n
  | 0, h, e => by rw [List.eq_nil_of_length_eq_zero (show h.length = 0 by omega)]; rfl
  | n + 1, x :: y :: z :: w :: r, e => by
    show (quads r).length + 1 = _
    rw [quads_len n (by simp at e; omega)]
  | n + 1, [], e => by simp at e
  | n + 1, [x], e => by simp at e; omega
  | n + 1, [x, y], e => by simp at e; omega
  | n + 1, [x, y, z], e => by simp at e; omega
def possS (x : TLine) : Bool := decide (1 ≤ x.2.1 ∧ x.2.1 ≤ 6 ∧ 1 ≤ x.2.2 ∧ x.2.2 ≤ 255)
theorem poss_eq (x : TLine) : view_possible (x, ()) = some (possS x, ()) := by
  show qat_ x = _
  unfold qat_ possS
  simp only [ge_dec, le_dec, decide_eq_true_eq]
  grind
def okL : Int -> List TLine -> Bool
  | _, [] => true
  | b, x :: r => decide (b < x.1) && possS x && okL x.1 r
theorem okL_cons (b : Int) (x : TLine) (r : List TLine) : okL b (x :: r) = (decide (b < x.1) && possS x && okL x.1 r) := rfl
def noR : RRd := some ([], false, ())
theorem okL_go {fin : Int × List TLine -> RRd} : ∀ (r : List TLine) (b : Int) (l : List TLine), l.length + r.length ≤ 1000 -> (∀ c d m, fin (c, m) = fin (d, m)) ->
    goL (R := List TLine × Bool × Unit) (fun (a : Int × List TLine) (x : TLine) k => if (decide (a.1 < x.1) && possS x) = true then need (small (a.2.length + 1)) (k (x.1, a.2 ++ [x])) else noR) fin r (b, l) = if okL b r = true then fin (b, l ++ r) else noR
  | [], b, l, _, _ => by
    show fin (b, l) = _
    rw [List.append_nil]
    rfl
  | x :: r, b, l, hl, hf => by
    rw [List.length_cons] at hl
    show (if _ then need (small (l.length + 1)) (goL _ _ r (x.1, l ++ [x])) else noR) = _
    rw [okL_go r x.1 (l ++ [x]) (by rw [List.length_append, List.length_singleton]; omega) hf, need_small (by omega)]
    rw [List.append_assoc, List.singleton_append, okL_cons]
    cases hc : (decide (b < x.1) && possS x) with
    | false => rfl
    | true =>
      rw [Bool.true_and, if_pos rfl, hf x.1 b]
def readV (m : TMem) : RRd :=
  if m.1.length = 0 ∧ m.2.1.length = 0 ∧ m.2.2.2.length = 0 ∧ m.2.2.1.length = 50 then
    match m.2.2.1[0]?, m.2.2.1[1]? with
    | some a, some s => if s = (if 12 < a then 12 else a) then
        (if (okL (a - s) ((quads (m.2.2.1.drop 2)).take s.toNat) && (m.2.2.1.drop (2 + 4 * s.toNat)).all (fun x => decide (x = 0))) = true then some ((quads (m.2.2.1.drop 2)).take s.toNat, true, ()) else noR) else noR
    | _, _ => noR
  else noR
theorem zeros_eq {y : List Int} (hy : y.length ≤ 1000) (l : List TLine) : qd5_ y (Int.ofNat y.length) ((0 : Nat) : Int) l = if y.all (fun x => decide (x = 0)) = true then some (l, true, ()) else noR := by
  have key : ∀ r : List Int, goL (R := List TLine × Bool × Unit) (fun (_ : Unit) (x : Int) k => if x = 0 then k () else noR) (fun _ => some (l, true, ())) r () = if r.all (fun x => decide (x = 0)) = true then some (l, true, ()) else noR := by
    intro r
    induction r with
    | nil => rfl
    | cons x r ih =>
      show (if x = 0 then goL _ _ r () else noR) = _
      rw [ih, List.all_cons]
      by_cases h : x = 0
      · rw [if_pos h, decide_eq_true h, Bool.true_and]
      · rw [if_neg h, decide_eq_false h, Bool.false_and]
        rfl
  rw [<- key]
  unfold qd5_
  refine loop_go (xs := y) (mk := fun i _ => (y, Int.ofNat y.length, (i : Int), l)) ?_ ?_ y.length 0 () _ (by omega) (by omega)
  · intro self i _ x hx
    have hi := (List.getElem?_eq_some_iff.1 hx).1
    show qaf_ _ _ y (Int.ofNat y.length) (i : Int) l = _
    unfold qaf_
    rw [if_pos (by rw [lt_iff, ofNat_eq]; omega), at_get hx, Option.bind_some, succ64 (by omega)]
    by_cases h : x = 0
    · rw [if_neg (by rw [nei_iff]; exact fun e => e h), if_pos h]
    · rw [if_pos (nei_iff.2 h), if_neg h]
      rfl
  · intro self _
    show qaf_ _ _ y (Int.ofNat y.length) (y.length : Int) l = _
    unfold qaf_
    rw [if_neg (by rw [lt_iff, ofNat_eq]; omega)]
    rfl
theorem vread_K2 {h : List Int} (hl : h.length = 50) (hr : ∀ x ∈ h, 0 ≤ x ∧ x < 65536) {s : Nat} (hs : s ≤ 12) (b : Int) : q82_ h (s : Int) b (s : Int) ((0 : Nat) : Int) [] =
    if (okL b ((quads (h.drop 2)).take s) && (h.drop (2 + 4 * s)).all (fun x => decide (x = 0))) = true then some ((quads (h.drop 2)).take s, true, ()) else noR := by
  have hq : (quads (h.drop 2)).length = 12 := quads_len 12 (by rw [List.length_drop]; omega)
  have hxs : ((quads (h.drop 2)).take s).length = s := by rw [List.length_take]; omega
  have k4 : ∀ l, qa1_ h (s : Int) l = if (h.drop (2 + 4 * s)).all (fun x => decide (x = 0)) = true then some (l, true, ()) else noR := fun l => by
    have e0 : add .i64 2 (mul .i64 4 (s : Int)) = ((2 + 4 * s : Nat) : Int) := by
      rw [mul64 (by omega) (by omega), add64 (by omega) (by omega)]; omega
    unfold qa1_ qmi_
    rw [e0, cut_from (by omega), Option.bind_some]
    exact zeros_eq (by rw [List.length_drop]; omega) l
  have main : q82_ h (s : Int) b (s : Int) ((0 : Nat) : Int) [] = goL (R := List TLine × Bool × Unit) (fun (a : Int × List TLine) (x : TLine) k => if (decide (a.1 < x.1) && possS x) = true then need (small (a.2.length + 1)) (k (x.1, a.2 ++ [x])) else noR) (fun a => qa1_ h (s : Int) a.2) (((quads (h.drop 2)).take s).drop 0) (b, []) := by
    unfold q82_
    refine loop_go (xs := (quads (h.drop 2)).take s) (mk := fun i (a : Int × List TLine) => (h, (s : Int), a.1, (s : Int), (i : Int), a.2)) ?_ ?_ s 0 (b, []) _ (by omega) (by omega)
    · intro self i a x hx
      obtain ⟨b, l⟩ := a
      have hi : i < s := by
        have := (List.getElem?_eq_some_iff.1 hx).1
        omega
      have g0 : h[2 + 4 * i]? = some (h[2 + 4 * i]'(by omega)) := List.getElem?_eq_getElem (by omega)
      have g1 : h[2 + 4 * i + 1]? = some (h[2 + 4 * i + 1]'(by omega)) := List.getElem?_eq_getElem (by omega)
      have g2 : h[2 + 4 * i + 2]? = some (h[2 + 4 * i + 2]'(by omega)) := List.getElem?_eq_getElem (by omega)
      have g3 : h[2 + 4 * i + 3]? = some (h[2 + 4 * i + 3]'(by omega)) := List.getElem?_eq_getElem (by omega)
      have r0 := hr _ (List.getElem_mem (l := h) (n := 2 + 4 * i) (by omega))
      have r1 := hr _ (List.getElem_mem (l := h) (n := 2 + 4 * i + 1) (by omega))
      generalize (h[2 + 4 * i]'(by omega)) = p at g0 r0
      generalize (h[2 + 4 * i + 1]'(by omega)) = q at g1 r1
      generalize (h[2 + 4 * i + 2]'(by omega)) = u at g2
      generalize (h[2 + 4 * i + 3]'(by omega)) = v at g3
      have hx2 : x = (65536 * p + q, u, v) := by
        have := quads_nth i (h := h.drop 2) (a := p) (b := q) (c := u) (d := v) (by rw [List.getElem?_drop]; exact g0) (by rw [List.getElem?_drop]; exact g1) (by rw [List.getElem?_drop]; exact g2) (by rw [List.getElem?_drop]; exact g3)
        rw [List.getElem?_take_of_lt hi, this] at hx
        exact (Option.some.inj hx).symm
      show qad_ _ _ _ h (s : Int) b (s : Int) (i : Int) l = _
      unfold qad_
      have e0 : add .i64 2 (mul .i64 4 (i : Int)) = ((2 + 4 * i : Nat) : Int) := by
        rw [mul64 (by omega) (by omega), add64 (by omega) (by omega)]; omega
      have e1 : add .i64 ((2 + 4 * i : Nat) : Int) 1 = ((2 + 4 * i + 1 : Nat) : Int) := succ64 (by omega)
      have e2 : add .i64 ((2 + 4 * i : Nat) : Int) 2 = ((2 + 4 * i + 2 : Nat) : Int) := by rw [add64 (by omega) (by omega)]; omega
      have e3 : add .i64 ((2 + 4 * i : Nat) : Int) 3 = ((2 + 4 * i + 3 : Nat) : Int) := by rw [add64 (by omega) (by omega)]; omega
      rw [if_pos (by rw [lt_iff]; omega), e0, e1, e2, e3, at_get g0, Option.bind_some, at_get g1, Option.bind_some, at_get g2, Option.bind_some, at_get g3, Option.bind_some, amb2 (eqAs_refl _), wide_eq r0.1 r0.2 r1.1 r1.2, Option.bind_some]
      dsimp only
      rw [<- hx2]
      have K5 : ∀ t, q7y_ (fun h shown before t55 t56 l => self (h, shown, before, t55, t56, l)) h (s : Int) (s : Int) (i : Int) t l x = if t = true then noR else need (small (l.length + 1)) (self (h, (s : Int), x.1, (s : Int), ((i + 1 : Nat) : Int), l ++ [x])) := fun t => by
        unfold q7y_ qmz_
        rw [succ64 (by omega)]
        rfl
      unfold qi4_ qmm_
      rw [poss_eq]
      show (if le x.1 b = true then q7y_ _ h (s : Int) (s : Int) (i : Int) true l x else q7y_ _ h (s : Int) (s : Int) (i : Int) (!possS x) l x) = _
      rw [K5, K5]
      by_cases hb : b < x.1
      · rw [if_neg (by rw [le_iff]; omega), decide_eq_true hb, Bool.true_and]
        cases possS x <;> rfl
      · rw [if_pos (by rw [le_iff]; omega), decide_eq_false hb, Bool.false_and]
        rfl
    · intro self a
      show qad_ _ _ _ h (s : Int) a.1 (s : Int) ((((quads (h.drop 2)).take s).length : Nat) : Int) a.2 = _
      unfold qad_
      rw [if_neg (by rw [lt_iff, hxs]; omega)]
  rw [main, List.drop_zero, okL_go _ _ _ (by rw [hxs, List.length_nil]; omega) (fun _ _ _ => rfl), List.nil_append, k4]
  cases okL b ((quads (h.drop 2)).take s) <;> rfl
theorem vread_eq {m : TMem} (hr : ∀ x ∈ m.2.2.1, 0 ≤ x ∧ x < 65536) (hb : m.1.length ≤ 1000000 ∧ m.2.1.length ≤ 1000000 ∧ m.2.2.1.length ≤ 1000000 ∧ m.2.2.2.length ≤ 1000000) : view_Read (m, ()) = readV m := by
  obtain ⟨c, i, h, w⟩ := m
  have hr : ∀ x ∈ h, 0 ≤ x ∧ x < 65536 := hr
  show qin_ qcy_ (c, i, h, w) = _
  unfold qin_ readV
  have hn : ∀ n : Nat, nei (Int.ofNat n) 0 = true ↔ n ≠ 0 := fun n => by rw [nei_iff, ofNat_eq]; omega
  have K1t : qcy_ true (c, i, h, w) = noR := rfl
  dsimp only
  by_cases h1 : c.length = 0
  · rw [if_neg (by rw [hn]; omega)]
    by_cases h2 : i.length = 0
    · rw [if_neg (by rw [hn]; omega)]
      by_cases h3 : w.length = 0
      · rw [if_neg (by rw [hn]; omega)]
        by_cases h4 : h.length = 50
        · rw [if_pos ⟨h1, h2, h3, h4⟩]
          have : nei (Int.ofNat h.length) 50 = false := by rw [h4]; rfl
          rw [this]
          have g0 : h[0]? = some (h[0]'(by omega)) := List.getElem?_eq_getElem (by omega)
          have g1 : h[1]? = some (h[1]'(by omega)) := List.getElem?_eq_getElem (by omega)
          have r0 := hr _ (List.getElem_mem (l := h) (n := 0) (by omega))
          have r1 := hr _ (List.getElem_mem (l := h) (n := 1) (by omega))
          generalize (h[0]'(by omega)) = a at g0 r0
          generalize (h[1]'(by omega)) = s at g1 r1
          rw [g0, g1]
          show qhw_ q82_ false (c, i, h, w) = _
          unfold qhw_
          dsimp only
          have a0 : at? h 0 = some a := at_get (i := 0) g0
          have a1 : at? h 1 = some s := at_get (i := 1) g1
          rw [if_neg (by decide), a0, a1, Option.bind_some, Option.bind_some, Option.bind_some, cvt64 (by omega) (by omega), cvt64 (by omega) (by omega)]
          by_cases hs : s = (if 12 < a then 12 else a)
          · have hmin : (if lt 12 a = true then 12 else a) = (if 12 < a then 12 else a) := by simp only [lt_iff]
            rw [hmin, <- hs, if_neg (by rw [nei_iff]; exact fun e => e rfl), if_pos rfl]
            obtain ⟨n, rfl⟩ := Int.eq_ofNat_of_zero_le r1.1
            have hn12 : (n : Int) ≤ 12 ∧ (n : Int) ≤ a := by
              rw [hs]
              split <;> omega
            have hbf : cvt .u32 (sub .i64 a (n : Int)) = a - n := by
              rw [sub64 (by omega) (by omega), cvt32, Int.emod_eq_of_lt (by omega) (by omega)]
            rw [hbf]
            exact vread_K2 h4 hr (by omega) _
          · have hmin : (if lt 12 a = true then 12 else a) = (if 12 < a then 12 else a) := by simp only [lt_iff]
            rw [hmin, if_pos (by rw [nei_iff]; exact hs), if_neg hs]
            rfl
        · rw [if_neg (fun e => h4 e.2.2.2)]
          have : nei (Int.ofNat h.length) 50 = true := by rw [nei_iff, ofNat_eq]; omega
          rw [this]
          exact K1t
      · rw [if_pos (by rw [hn]; exact h3), if_neg (fun e => h3 e.2.2.1)]
        exact K1t
    · rw [if_pos (by rw [hn]; exact h2), if_neg (fun e => h2 e.2.1)]
      exact K1t
  · rw [if_pos (by rw [hn]; exact h1), if_neg (fun e => h1 e.1)]
    exact K1t
theorem memH_rng {l : List TJob} {waits : List Int} (ho : ∀ j ∈ l, OkJ j) : ∀ x ∈ memH l waits, 0 ≤ x ∧ x < 65536 := by
  have hn := shown_len l
  intro x hx
  unfold memH at hx
  rcases List.mem_cons.1 hx with rfl | hx
  · split <;> omega
  · rcases List.mem_cons.1 hx with rfl | hx
    · omega
    · rcases List.mem_append.1 hx with hx | hx
      · obtain ⟨j, hj, hx⟩ := List.mem_flatMap.1 hx
        have hok := ho j (List.mem_of_mem_drop hj)
        obtain ⟨o1, o2, o3, o4, o5, o6⟩ := hok
        have hst : 0 ≤ stW waits j ∧ stW waits j < 256 := by unfold stW; split <;> omega
        simp [lineS] at hx
        rcases hx with rfl | rfl | rfl | rfl <;> omega
      · have := List.eq_of_mem_replicate hx
        omega
end Go.Proofs.Lx
end
section
namespace Go.Proofs.Lx
open Go Ev Sx Pl
set_option maxRecDepth 100000
theorem awake29 : law29_awake () = some (true, ()) := by kernel_rfl
theorem okw8 {x : Int} (h : (Lit.int .u8 x).wf = true) : 0 ≤ x ∧ x < 256 := by
  simp [Lit.wf] at h
  have e1 : IntKind.u8.min = 0 := rfl
  have e2 : IntKind.u8.max = 255 := rfl
  omega
theorem okw16 {x : Int} (h : (Lit.int .u16 x).wf = true) : 0 ≤ x ∧ x < 65536 := by
  simp [Lit.wf] at h
  have e1 : IntKind.u16.min = 0 := rfl
  have e2 : IntKind.u16.max = 65535 := rfl
  omega
theorem okw32 {x : Int} (h : (Lit.int .u32 x).wf = true) : 0 ≤ x ∧ x < 4294967296 := by
  simp [Lit.wf] at h
  have e1 : IntKind.u32.min = 0 := rfl
  have e2 : IntKind.u32.max = 4294967295 := rfl
  omega
theorem okJ_of {j : TJob} (h : Rw.okV (.pr (.int .u32) (.pr (.int .u8) (.pr (.sl (.int .u8)) (.int .u8)))) j) : OkJ j := by
  have h1 := okw32 h.1
  have h2 := okw8 h.2.1
  have h3 := okw8 h.2.2.2
  exact ⟨h1.1, h1.2, h2.1, h2.2, h3.1, h3.2⟩
abbrev tJob : Ty := .pr (.int .u32) (.pr (.int .u8) (.pr (.sl (.int .u8)) (.int .u8)))
end Go.Proofs.Lx
end
section
namespace Go.Proofs.Lx
open Go Ev Sx Pl
set_option maxRecDepth 100000
abbrev TSpace := List TArea × List TArea × List TArea × List TArea
def A0 : TArea := (0, 50, true, false, false)
def S0 : TSpace := ([], [], [A0], [])
theorem space_eq : view_Space () = some (S0, ()) := rfl
theorem uses_eq (f : Int) : model_uses (f, ()) = some ((if f = 1 then (1, 0) else if f = 2 then (2, 0) else if f = 3 then (3, 0) else if f = 4 then (4, 0) else if f = 5 then (0, 1) else if f = 6 then (0, 3) else if f = 15 then (0, 1) else if f = 16 then (0, 3) else if f = 23 then (3, 3) else (0, 0)), ()) := by
  show qgk_ f = _
  unfold qgk_
  simp only [eqi_iff, gdV]
  have e : ∀ k : Int, (k = f) = (f = k) := fun k => propext ⟨fun h => h.symm, fun h => h.symm⟩
  simp only [e]
  repeat' split
  all_goals rfl
def rdW (x : TArea) : Bool := x.2.2.1
def wrW (p m : Int) (x : TArea) : Bool := x.2.2.2.1 && (!x.2.2.2.2 || (decide (x.1 = p) && decide (x.2.1 = m)))
theorem zwb (p m : Int) (x : TArea) : model_table_bool_writable_z1 (x, p, m, ()) = some (wrW p m x, p, m, ()) := by
  obtain ⟨a, b, c, d, e⟩ := x
  show q2x_ (a, b, c, d, e) p m = _
  unfold q2x_ wrW
  dsimp only
  cases d <;> cases e <;> try rfl
  rw [if_pos rfl, if_neg (by decide)]
  by_cases h : a = p
  · rw [if_pos (eqi_iff.2 h), decide_eq_true h]; rfl
  · rw [if_neg (fun e => h (eqi_iff.1 e)), decide_eq_false h]; rfl
theorem zwu (p m : Int) (x : TArea) : model_table_uint16_writable_z1 (x, p, m, ()) = some (wrW p m x, p, m, ()) := by
  obtain ⟨a, b, c, d, e⟩ := x
  show q29_ (a, b, c, d, e) p m = _
  unfold q29_ wrW
  dsimp only
  cases d <;> cases e <;> try rfl
  rw [if_pos rfl, if_neg (by decide)]
  by_cases h : a = p
  · rw [if_pos (eqi_iff.2 h), decide_eq_true h]; rfl
  · rw [if_neg (fun e => h (eqi_iff.1 e)), decide_eq_false h]; rfl
section
variable {l : List TArea} {p : Int} {m : Nat} (hp : 0 ≤ p) (hpm : p ≤ 1000000) (hm : m ≤ 1000000) (hl : l.length ≤ 1000000) (ho : ∀ x ∈ l, OkAr x)
include hp hpm hm hl ho
theorem tab_br (c : List Bool) : model_table_bool_readable ((l, c), p, (m : Int), ()) = some (eachS rdW l p m, ()) := by
  show Option.bind (model_each_br (l, p, (m : Int), ())) _ = _
  rw [each_br_eq hp hm hpm hl ho (w := rdW) (fun _ => rfl)]
  rfl
theorem tab_ur (c : List Int) : model_table_uint16_readable ((l, c), p, (m : Int), ()) = some (eachS rdW l p m, ()) := by
  show Option.bind (model_each_ur (l, p, (m : Int), ())) _ = _
  rw [each_ur_eq hp hm hpm hl ho (w := rdW) (fun _ => rfl)]
  rfl
theorem tab_bw (c : List Bool) : model_table_bool_writable ((l, c), p, (m : Int), ()) = some (eachS (wrW p m) l p m, ()) := by
  show Option.bind (model_each_bw (l, p, (m : Int), p, (m : Int), ())) _ = _
  rw [each_bw_eq hp hm hpm hl ho (w := wrW p m) (zwb p m)]
  rfl
theorem tab_uw (c : List Int) : model_table_uint16_writable ((l, c), p, (m : Int), ()) = some (eachS (wrW p m) l p m, ()) := by
  show Option.bind (model_each_uw (l, p, (m : Int), p, (m : Int), ())) _ = _
  rw [each_uw_eq hp hm hpm hl ho (w := wrW p m) (zwu p m)]
  rfl
end
theorem each_nil (w : TArea -> Bool) {p : Int} {m : Nat} (h : 1 ≤ m) : eachS w [] p m = false :=
  met_false (k := 0) (by omega) rfl
theorem each_A0r {p : Int} {m : Nat} (hp : 0 ≤ p) (h : 1 ≤ m) : eachS rdW [A0] p m = decide (p + m ≤ 50) := by
  have hw : ∀ i : Int, 0 ≤ i -> wantF rdW [A0] i = decide (i < 50) := fun i hi => by
    unfold wantF firstS
    rw [List.find?_cons, List.find?_nil]
    have : covS A0 i = decide (i < 50) := by
      unfold covS
      rw [decide_eq_decide]
      show 1 ≤ (50 : Int) ∧ 0 ≤ i ∧ i < 0 + 50 ↔ _
      omega
    rw [this]
    by_cases h : i < 50
    · rw [decide_eq_true h]; rfl
    · rw [decide_eq_false h]
  unfold eachS
  rw [Bool.eq_iff_iff, List.all_eq_true, decide_eq_true_eq]
  constructor
  · intro hall
    have := hall (m - 1) (List.mem_range.2 (by omega))
    rw [hw _ (by omega), decide_eq_true_eq] at this
    omega
  · intro hle k hk
    rw [List.mem_range] at hk
    rw [hw _ (by omega), decide_eq_true_eq]
    omega
theorem each_A0w {p : Int} {m : Nat} (q n : Int) (h : 1 ≤ m) : eachS (wrW q n) [A0] p m = false := by
  refine met_false (k := 0) (by omega) ?_
  unfold wantF firstS
  rw [List.find?_cons, List.find?_nil]
  cases covS A0 (p + ((0 : Nat) : Int)) <;> rfl
theorem okA0 : ∀ x ∈ [A0], OkAr x := fun x hx => by
  rw [List.mem_singleton] at hx
  subst hx
  exact ⟨by decide, by decide, by decide, by decide⟩
theorem okNil : ∀ x ∈ ([] : List TArea), OkAr x := fun x hx => by cases hx
def exS (a : TA) : Int := if a.1 = 3 ∧ a.2.1 + a.2.2.1 ≤ 50 then 0 else 2
theorem target_eq {a : TA} (h : OkA a) : model_target (a, ()) = some ((if a.1 = 23 then a.2.2.2.1 else a.2.1), ((a.2.2.2.2.2.length + a.2.2.2.2.1.length : Nat) : Int), ()) := by
  have := h.lw
  have := h.lb
  have h0 := h.at0
  have h1 := h.at1
  have h2 := h.t0
  have h3 := h.t1
  show qcd_ a = _
  unfold qcd_
  rw [ofNat_eq, ofNat_eq, addn64 (by omega), cvt64 (by omega) (by omega), cvt64 (by omega) (by omega)]
  simp only [eqi_iff]
  split <;> rfl
theorem check_eq {a : TA} (h : OkA a) (hr : rightA a = true) : model_Check (S0, a, ()) = some (exS a, ()) := by
  have hra := rightA_RA hr
  have ht := target_eq h
  have p0 := h.at0
  have p1 := h.at1
  have t0 := h.t0
  have t1 := h.t1
  have m0 := h.m0
  have m1 := h.m1
  show qem_ qz_ S0 a = _
  unfold qem_
  have ho : model_open (S0, ([], [], [], []), ()) = some ((([], []), ([], []), ([A0], []), [], []), ()) := rfl
  rw [right_eq h, hr, Option.bind_some, if_neg (by decide), ho, Option.bind_some, uses_eq, Option.bind_some]
  have K1t : ∀ v u, qz_ true a v u = some (2, ()) := fun v u => rfl
  have K1 : ∀ v u, qz_ false a v u = Option.bind (model_target (a, ())) fun y => if eqi u.2 1 = true then Option.bind (model_table_bool_writable (v.1, y.1, y.2.1, ())) fun y => q2y_ !y.1 else if eqi u.2 2 = true then Option.bind (model_table_bool_writable (v.2.1, y.1, y.2.1, ())) fun y => q2y_ !y.1 else if eqi u.2 3 = true then Option.bind (model_table_uint16_writable (v.2.2.1, y.1, y.2.1, ())) fun y => q2y_ !y.1 else if eqi u.2 4 = true then Option.bind (model_table_uint16_writable (v.2.2.2, y.1, y.2.1, ())) fun y => q2y_ !y.1 else q2y_ false := fun v u => rfl
  rw [ht] at K1
  simp only [Option.bind_some] at K1
  have K2t : q2y_ (!false) = some (2, ()) := rfl
  have K2f : q2y_ false = some (0, ()) := rfl
  cases hra with
  | bits f p n hf h1 h2 =>
    obtain ⟨n, rfl⟩ := Int.eq_ofNat_of_zero_le (show 0 ≤ n by omega)
    have hb := tab_br (l := []) (p := p) (m := n) p0 (by have : p ≤ 65535 := p1; omega) (by omega) (by decide) okNil []
    have hx : exS (f, p, (n : Int), 0, [], []) = 2 := if_neg (fun e => by have : f = 3 := e.1; omega)
    rw [each_nil _ (by omega)] at hb
    rw [hx]
    have p0 : 0 ≤ p := p0
    have p1 : p ≤ 65535 := p1
    have hc : cvt .i64 p = p := cvt64 (by omega) (by omega)
    have hc2 : cvt .i64 (n : Int) = n := cvt64 (by omega) (by omega)
    rw [<- hc, <- hc2] at hb
    rcases hf with rfl | rfl
    · show Option.bind (model_table_bool_readable (([], []), cvt .i64 p, cvt .i64 (n : Int), ())) (fun y => qz_ (!y.1) (1, p, (n : Int), 0, [], []) (([], []), ([], []), ([A0], []), [], []) (1, 0)) = _
      rw [hb]
      exact K1t _ _
    · show Option.bind (model_table_bool_readable (([], []), cvt .i64 p, cvt .i64 (n : Int), ())) (fun y => qz_ (!y.1) (2, p, (n : Int), 0, [], []) (([], []), ([], []), ([A0], []), [], []) (2, 0)) = _
      rw [hb]
      exact K1t _ _
  | words f p n hf h1 h2 =>
    obtain ⟨n, rfl⟩ := Int.eq_ofNat_of_zero_le (show 0 ≤ n by omega)
    have p0 : 0 ≤ p := p0
    have p1 : p ≤ 65535 := p1
    have hc : cvt .i64 p = p := cvt64 (by omega) (by omega)
    have hc2 : cvt .i64 (n : Int) = n := cvt64 (by omega) (by omega)
    rcases hf with rfl | rfl
    · have hu := tab_ur (l := [A0]) (p := p) (m := n) p0 (by omega) (by omega) (by decide) okA0 []
      rw [each_A0r p0 (by omega)] at hu
      show Option.bind (model_table_uint16_readable (([A0], []), cvt .i64 p, cvt .i64 (n : Int), ())) (fun y => qz_ (!y.1) (3, p, (n : Int), 0, [], []) (([], []), ([], []), ([A0], []), [], []) (3, 0)) = _
      rw [hc, hc2, hu, Option.bind_some]
      by_cases hle : p + (n : Int) ≤ 50
      · have hx : exS (3, p, (n : Int), 0, [], []) = 0 := if_pos ⟨rfl, hle⟩
        rw [decide_eq_true hle, hx]
        exact (K1 _ _).trans rfl
      · have hx : exS (3, p, (n : Int), 0, [], []) = 2 := if_neg (fun e => hle e.2)
        rw [decide_eq_false hle, hx]
        exact K1t _ _
    · have hu := tab_ur (l := []) (p := p) (m := n) p0 (by omega) (by omega) (by decide) okNil []
      rw [each_nil _ (by omega)] at hu
      have hx : exS (4, p, (n : Int), 0, [], []) = 2 := if_neg (fun e => by have : (4 : Int) = 3 := e.1; omega)
      show Option.bind (model_table_uint16_readable (([], []), cvt .i64 p, cvt .i64 (n : Int), ())) (fun y => qz_ (!y.1) (4, p, (n : Int), 0, [], []) (([], []), ([], []), ([A0], []), [], []) (4, 0)) = _
      rw [hc, hc2, hu, hx]
      exact K1t _ _
  | coil p b =>
    have hw := tab_bw (l := []) (p := p) (m := 1) p0 (by have : p ≤ 65535 := p1; omega) (by omega) (by decide) okNil []
    rw [each_nil _ (by omega)] at hw
    have hx : exS (5, p, 0, 0, [], [b]) = 2 := if_neg (fun e => by have : (5 : Int) = 3 := e.1; omega)
    rw [hx]
    show qz_ false (5, p, 0, 0, [], [b]) (([], []), ([], []), ([A0], []), [], []) (0, 1) = _
    rw [K1, if_pos (by decide)]
    refine (congrArg (fun z => Option.bind z _) hw).trans ?_
    rfl
  | word p x =>
    have hw := tab_uw (l := [A0]) (p := p) (m := 1) p0 (by have : p ≤ 65535 := p1; omega) (by omega) (by decide) okA0 []
    rw [each_A0w _ _ (by omega)] at hw
    have hx : exS (6, p, 0, 0, [x], []) = 2 := if_neg (fun e => by have : (6 : Int) = 3 := e.1; omega)
    rw [hx]
    show qz_ false (6, p, 0, 0, [x], []) (([], []), ([], []), ([A0], []), [], []) (0, 3) = _
    rw [K1, if_neg (by decide), if_neg (by decide), if_pos (by decide)]
    refine (congrArg (fun z => Option.bind z _) hw).trans ?_
    rfl
  | coils p l h1 h2 =>
    have hw := tab_bw (l := []) (p := p) (m := l.length) p0 (by have : p ≤ 65535 := p1; omega) (by omega) (by decide) okNil []
    rw [each_nil _ (by omega)] at hw
    have hx : exS (15, p, (l.length : Int), 0, [], l) = 2 := if_neg (fun e => by have : (15 : Int) = 3 := e.1; omega)
    rw [hx]
    show qz_ false (15, p, (l.length : Int), 0, [], l) (([], []), ([], []), ([A0], []), [], []) (0, 1) = _
    rw [K1, if_pos (by decide)]
    refine (congrArg (fun z => Option.bind z _) hw).trans ?_
    rfl
  | regs p l h1 h2 =>
    have hw := tab_uw (l := [A0]) (p := p) (m := l.length) p0 (by have : p ≤ 65535 := p1; omega) (by omega) (by decide) okA0 []
    rw [each_A0w _ _ (by omega)] at hw
    have hx : exS (16, p, (l.length : Int), 0, l, []) = 2 := if_neg (fun e => by have : (16 : Int) = 3 := e.1; omega)
    rw [hx]
    show qz_ false (16, p, (l.length : Int), 0, l, []) (([], []), ([], []), ([A0], []), [], []) (0, 3) = _
    rw [K1, if_neg (by decide), if_neg (by decide), if_pos (by decide)]
    dsimp only
    rw [if_neg (by decide), show (([] : List Bool).length + l.length) = l.length from Nat.zero_add _]
    refine (congrArg (fun z => Option.bind z _) hw).trans ?_
    rfl
  | swap p n t l h1 h2 h3 h4 =>
    obtain ⟨n, rfl⟩ := Int.eq_ofNat_of_zero_le (show 0 ≤ n by omega)
    have p0 : 0 ≤ p := p0
    have p1 : p ≤ 65535 := p1
    have hu := tab_ur (l := [A0]) (p := p) (m := n) p0 (by omega) (by omega) (by decide) okA0 []
    have hw := tab_uw (l := [A0]) (p := t) (m := l.length) t0 (by have : t ≤ 65535 := t1; omega) (by omega) (by decide) okA0 []
    rw [each_A0w _ _ (by omega)] at hw
    have hx : exS (23, p, (n : Int), t, l, []) = 2 := if_neg (fun e => by have : (23 : Int) = 3 := e.1; omega)
    rw [hx]
    have hc : cvt .i64 p = p := cvt64 (by omega) (by omega)
    have hc2 : cvt .i64 (n : Int) = n := cvt64 (by omega) (by omega)
    show Option.bind (model_table_uint16_readable (([A0], []), cvt .i64 p, cvt .i64 (n : Int), ())) (fun y => qz_ (!y.1) (23, p, (n : Int), t, l, []) (([], []), ([], []), ([A0], []), [], []) (3, 3)) = _
    rw [hc, hc2, hu, Option.bind_some]
    cases eachS rdW [A0] p n with
    | false => exact K1t _ _
    | true =>
      show qz_ false (23, p, (n : Int), t, l, []) (([], []), ([], []), ([A0], []), [], []) (3, 3) = _
      rw [K1, if_neg (by decide), if_neg (by decide), if_pos (by decide)]
      dsimp only
      rw [if_pos rfl, show (([] : List Bool).length + l.length) = l.length from Nat.zero_add _]
      refine (congrArg (fun z => Option.bind z _) hw).trans ?_
      rfl
end Go.Proofs.Lx
end
