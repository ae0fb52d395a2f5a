/- Proved in the last of these 10 parts (this is part 9): whatever is asked of the registers that show jobs: what reads registers that there are is replied with just these, all else is an exception. Conditions: those of the given statement, and no others. -/
import Derived.Test.YtaojmefkpcdpnaaParth
import Derived.Test.YtaojmefkpcdpnaaParte
set_option linter.unusedVariables false
set_option linter.unusedSimpArgs false
set_option linter.unusedSectionVars false
section
/- Any bytes, looked at; the bytes of any reply. -/
namespace Go.Proofs.Lx
open Go Ev Sx Pl
set_option maxRecDepth 100000
/-! ### the bytes of replies -/
theorem wr_if {c : Bool} {w : Option (List Int × Unit)} {x : List Int} (hw : c = true → w = some (x, ())) :
    (if c = true then Option.bind w fun y => (some (y.1, 0, ()) : Option (As [.sl (.int .u8), .int .i64])) else some ([], 13, ())) = if c = true then some (x, 0, ()) else some ([], 13, ()) := by
  by_cases h : c = true
  · rw [if_pos h, if_pos h, hw h]
    rfl
  · rw [if_neg h, if_neg h]
abbrev RB := Option (As [.sl (.int .u8), .int .i64])
theorem if_step {c : Bool} {A B : RB} {ra rb : Bool} {xa xb : List Int} (h1 : A = if ra = true then some (xa, 0, ()) else some ([], 13, ())) (h2 : B = if rb = true then some (xb, 0, ()) else some ([], 13, ())) :
    (if c = true then A else B) = if (if c = true then ra else rb) = true then some ((if c = true then xa else xb), 0, ()) else some ([], 13, ()) := by
  cases c with
  | true => exact h1
  | false => exact h2
theorem rbytes_eq {r : TR} (h : SmR r) : reply_Bytes (r, ()) = if rightR r = true then some (repB r, 0, ()) else some ([], 13, ()) := by
  show reply_Bytes_m0 r = _
  unfold reply_Bytes_m0 rightR repB
  rw [exR_eq h, bitR_eq h, wordR_eq h, obR_eq h, owR_eq h, ctR_eq h, ctR_eq h]
  simp only [Option.bind_some]
  have wex := wr_if (c := exR r) (fun _ => exB_eq r)
  have wbit := wr_if (c := bitR r) (fun _ => bitB_eq h)
  have wword := wr_if (c := wordR r) (fun _ => wordB_eq h)
  have wob := wr_if (c := obR r) (fun hc => obB_eq hc)
  have wow := wr_if (c := owR r) (fun hc => owB_eq hc)
  have wc1 := wr_if (c := ctR 1968 r) (fun _ => ctB_eq 1968 r)
  have wc2 := wr_if (c := ctR 123 r) (fun _ => ctB_eq 123 r)
  exact if_step wex (if_step wbit (if_step wbit (if_step wword (if_step wword (if_step wword (if_step wob (if_step wow (if_step wc1 (if_step wc2 rfl)))))))))
/-! ### any bytes, read as a request -/
theorem listS_rng (b : List Int) : ∀ x ∈ listS b, 0 ≤ x ∧ x ≤ 65535 := by
  intro x hx
  unfold listS at hx
  obtain ⟨i, _, rfl⟩ := List.mem_map.1 hx
  have := numV_rng (b.getD (2 * i) 0) (b.getD (2 * i + 1) 0)
  omega
theorem written_any {f p n t : Int} (hf : 0 ≤ f ∧ f ≤ 255) (hp : 0 ≤ p ∧ p ≤ 65535) (hn : 0 ≤ n ∧ n ≤ 65535) (ht : 0 ≤ t ∧ t ≤ 65535) (s : Int × Int × Int × Bool × Bool) {rest : List Int} (hl : rest.length ≤ 300) :
    ∃ (a : TA) (ok : Bool), ask_written ((f, p, n, t, [], []), s, rest, ()) = some (a, ok, ()) ∧ (ok = true → OkA a) := by
  have mkw : ∀ l : List Int, (∀ x ∈ l, 0 ≤ x ∧ x ≤ 65535) → l.length ≤ 100000 → OkA (f, p, n, t, l, []) := fun l h1 h2 => ⟨hf.1, hf.2, hp.1, hp.2, hn.1, hn.2, ht.1, ht.2, h1, h2, Nat.zero_le _⟩
  have mkb : ∀ l : List Bool, l.length ≤ 100000 → OkA (f, p, n, t, [], l) := fun l h2 => ⟨hf.1, hf.2, hp.1, hp.2, hn.1, hn.2, ht.1, ht.2, (fun x hx => by cases hx), Nat.zero_le _, h2⟩
  show ∃ (a : TA) (ok : Bool), ask_written_m0 ask_written_K1 (f, p, n, t, [], []) s rest = _ ∧ _
  unfold ask_written_m0
  dsimp only
  by_cases h1 : eqi (add .i64 s.2.1 s.2.2.1) 0 = true
  · rw [if_pos h1]
    exact ⟨_, _, rfl, fun _ => mkw [] (fun x hx => by cases hx) (Nat.zero_le _)⟩
  · rw [if_neg h1]
    by_cases h2 : rest.length < 2
    · rw [if_pos (by rw [lt_iff, ofNat_eq]; omega)]
      exact ⟨_, _, rfl, fun e => by cases e⟩
    · rw [if_neg (by rw [lt_iff, ofNat_eq]; omega)]
      by_cases h5 : eqi f 5 = true
      · rw [if_pos h5]
        match rest, h2 with
        | y :: r, _ =>
          rw [at_zero, Option.bind_some]
          exact ⟨_, _, rfl, fun _ => mkb [nei y 0] (by show 1 ≤ 100000; decide)⟩
        | [], h2 => exact absurd (by decide) h2
      · rw [if_neg h5]
        by_cases h6 : eqi f 6 = true
        · rw [if_pos h6, alist_eq (by omega), Option.bind_some]
          exact ⟨_, _, rfl, fun _ => mkw _ (listS_rng _) (by rw [listS_len]; omega)⟩
        · rw [if_neg h6]
          match rest, h2 with
          | [], h2 => exact absurd (by decide) h2
          | y :: r, _ =>
            have hr : r.length ≤ 300 := by simp at hl; omega
            by_cases hb : gt s.2.1 0 = true
            · rw [if_pos hb, cut_tail, Option.bind_some, unpack_eq (by omega), Option.bind_some]
              dsimp only
              rw [cvt64 (by omega) (by omega)]
              by_cases hlt : lt (Int.ofNat (unpackS r).length) n = true
              · rw [if_pos hlt]
                exact ⟨_, _, rfl, fun e => by cases e⟩
              · rw [if_neg hlt]
                rw [lt_iff, ofNat_eq, unpackS_len] at hlt
                obtain ⟨k, rfl⟩ := Int.eq_ofNat_of_zero_le hn.1
                rw [cut_to (by rw [unpackS_len]; omega), Option.bind_some, need_t (by rw [le_iff]; omega), need_t (by rw [le_iff, ofNat_eq, unpackS_len]; omega)]
                exact ⟨_, _, rfl, fun _ => mkb _ (by rw [List.length_take, unpackS_len]; omega)⟩
            · rw [if_neg hb, cut_tail, Option.bind_some, alist_eq (by omega), Option.bind_some]
              exact ⟨_, _, rfl, fun _ => mkw _ (listS_rng _) (by rw [listS_len]; omega)⟩
theorem five_of {b : List Int} (h : 5 ≤ b.length) : ∃ f p1 p2 n1 n2 r, b = f :: p1 :: p2 :: n1 :: n2 :: r := by
  match b, h with
  | f :: p1 :: p2 :: n1 :: n2 :: r, _ => exact ⟨f, p1, p2, n1, n2, r, rfl⟩
theorem aread_any {b : List Int} (hb : ∀ x ∈ b, 0 ≤ x ∧ x ≤ 255) : ∃ (a : TA) (ok : Bool), ask_read (b, ()) = some (a, ok, ()) ∧ (ok = true → OkA a) := by
  have bad : ask_read_K1 b true 0 0 0 0 = some ((0, 0, 0, 0, [], []), false, ()) := rfl
  by_cases h5 : b.length < 5
  · refine ⟨(0, 0, 0, 0, [], []), false, ?_, fun e => by cases e⟩
    show ask_read_m0 ask_read_K1 b = _
    unfold ask_read_m0
    rw [if_pos (by rw [lt_iff, ofNat_eq]; omega)]
    exact bad
  · by_cases h253 : 253 < b.length
    · refine ⟨(0, 0, 0, 0, [], []), false, ?_, fun e => by cases e⟩
      show ask_read_m0 ask_read_K1 b = _
      unfold ask_read_m0
      rw [if_neg (by rw [lt_iff, ofNat_eq]; omega), show gt (Int.ofNat b.length) 253 = true from gt_iff.2 (by rw [ofNat_eq]; omega)]
      exact bad
    · obtain ⟨f, p1, p2, n1, n2, r, rfl⟩ := five_of (b := b) (by omega)
      have hf : 0 ≤ f ∧ f ≤ 255 := hb f (by simp)
      have hr : r.length ≤ 248 := by simp at h253; omega
      have hg : gt (Int.ofNat (f :: p1 :: p2 :: n1 :: n2 :: r).length) 253 = false := by
        rw [← Bool.not_eq_true, gt_iff, ofNat_eq]; simp; omega
      have hm0 : ask_read (f :: p1 :: p2 :: n1 :: n2 :: r, ()) = ask_read_m1 ask_read_K2 (f :: p1 :: p2 :: n1 :: n2 :: r) false 0 0 0 0 := by
        show ask_read_m0 ask_read_K1 _ = _
        unfold ask_read_m0
        rw [if_neg (by rw [lt_iff, ofNat_eq]; simp; omega), hg]
        rfl
      have ec3 : cut (f :: p1 :: p2 :: n1 :: n2 :: r) 3 (Int.ofNat (f :: p1 :: p2 :: n1 :: n2 :: r).length) = some (n1 :: n2 :: r) := cut_from (i := 3) (by simp)
      have ec5 : cut (f :: p1 :: p2 :: n1 :: n2 :: r) 5 (Int.ofNat (f :: p1 :: p2 :: n1 :: n2 :: r).length) = some r := cut_from (i := 5) (by simp)
      have nn : ∀ x y, 0 ≤ numV x y ∧ numV x y ≤ 65535 := fun x y => by have := numV_rng x y; omega
      -- what stands behind the head
      have tail : ∀ (l rest : List Int) (s : Int × Int × Int × Bool × Bool) (n : Int), (∃ q, l = numV p1 p2 :: numV n1 n2 :: q ∧ (4 ≤ rest.length → q ≠ [] ∧ ∀ x ∈ q, 0 ≤ x ∧ x ≤ 65535)) → rest.length ≤ 300 → (0 ≤ n ∧ n ≤ 65535) →
          ∃ (a : TA) (ok : Bool), ask_read_K2 l rest 0 0 0 0 s.1 s.2.1 s.2.2.1 s.2.2.2.1 s.2.2.2.2 f (numV p1 p2) n 0 = some (a, ok, ()) ∧ (ok = true → OkA a) := by
        rintro l rest s n ⟨q, rfl, hq⟩ hrl hn
        have k3 : ∀ (rest : List Int) (t : Int), rest.length ≤ 300 → (0 ≤ t ∧ t ≤ 65535) → ∃ (a : TA) (ok : Bool), ask_read_K3 rest 0 0 0 0 s.1 s.2.1 s.2.2.1 s.2.2.2.1 s.2.2.2.2 f (numV p1 p2) n t = some (a, ok, ()) ∧ (ok = true → OkA a) := fun rest t h1 h2 => by
          obtain ⟨a, ok, e1, e2⟩ := written_any hf (nn p1 p2) hn h2 s h1
          refine ⟨a, ok, ?_, e2⟩
          show Option.bind (ask_written ((f, numV p1 p2, n, t, [], []), s, rest, ())) _ = _
          rw [e1]
          rfl
        unfold ask_read_K2 ask_read_m2
        by_cases ht : s.2.2.2.1 = true
        · rw [if_pos ht]
          by_cases h4 : rest.length < 4
          · rw [if_pos (by rw [lt_iff, ofNat_eq]; omega)]
            exact ⟨_, _, rfl, fun e => by cases e⟩
          · rw [if_neg (by rw [lt_iff, ofNat_eq]; omega)]
            obtain ⟨hq1, hq2⟩ := hq (by omega)
            match q, hq1, hq2 with
            | z :: q, _, hq2 =>
              have hat : at? (numV p1 p2 :: numV n1 n2 :: z :: q) 2 = some z := rfl
              rw [hat, Option.bind_some]
              have hc : cut rest 4 (Int.ofNat rest.length) = some (rest.drop 4) := cut_from (i := 4) (by omega)
              rw [hc, Option.bind_some]
              exact k3 _ z (by rw [List.length_drop]; omega) (hq2 z (by simp))
            | [], hq1, _ => exact absurd rfl hq1
        · rw [if_neg ht]
          exact k3 rest 0 hrl ⟨by decide, by decide⟩
      rw [hm0]
      unfold ask_read_m1
      rw [if_neg (by decide), at_zero, Option.bind_some, shape_eq, Option.bind_some]
      cases hs : shp f with
      | none => exact ⟨_, false, rfl, fun e => by cases e⟩
      | some s =>
        dsimp only
        rw [if_neg (by show ¬ (!true) = true; decide), cut_tail, Option.bind_some, alist_eq (by simp; omega), Option.bind_some, Option.bind_some, listS_two, listS_two, at_zero, Option.bind_some, ec3, Option.bind_some]
        have hsd : shpD f = s := by unfold shpD; rw [hs]; rfl
        rw [hsd]
        have hq4 : 4 ≤ r.length → listS r ≠ [] ∧ ∀ x ∈ listS r, 0 ≤ x ∧ x ≤ 65535 := fun h => ⟨fun e => by have := listS_len r; rw [e] at this; simp at this; omega, listS_rng r⟩
        by_cases hm : gt s.1 0 = true
        · rw [if_pos hm, at_one, Option.bind_some, ec5, Option.bind_some]
          exact tail _ r s _ ⟨listS r, rfl, hq4⟩ (by omega) (nn n1 n2)
        · rw [if_neg hm]
          by_cases h4 : 4 ≤ (n1 :: n2 :: r).length
          · refine tail _ (n1 :: n2 :: r) s 0 ⟨listS r, rfl, fun _ => ?_⟩ (by simp; omega) ⟨by decide, by decide⟩
            refine ⟨fun e => ?_, listS_rng r⟩
            have := listS_len r
            rw [e] at this
            simp at this h4
            omega
          · exact tail _ (n1 :: n2 :: r) s 0 ⟨listS r, rfl, fun h => absurd h h4⟩ (by simp; omega) ⟨by decide, by decide⟩
theorem aparse_any {b : List Int} (hb : ∀ x ∈ b, 0 ≤ x ∧ x ≤ 255) : ∃ (a : TA) (e : Int), ask_Parse (b, ()) = some (a, e, ()) ∧ ((e = 0 ∧ OkA a ∧ rightA a = true ∧ toS (askB a) = toS b) ∨ e = 12) := by
  obtain ⟨a, ok, h1, h2⟩ := aread_any hb
  show ∃ (a' : TA) (e : Int), ask_Parse_m0 ask_Parse_K1 b = some (a', e, ()) ∧ _
  unfold ask_Parse_m0
  rw [h1, Option.bind_some]
  cases ok with
  | false => exact ⟨_, _, rfl, .inr rfl⟩
  | true =>
    have ha := h2 rfl
    dsimp only
    rw [if_neg (by decide), bytes_eq ha]
    cases hr : rightA a with
    | false => exact ⟨_, _, rfl, .inr rfl⟩
    | true =>
      rw [if_pos rfl, Option.bind_some, if_neg (show ¬ nei 0 0 = true by decide)]
      dsimp only
      have e : bytes_Equal (askB a, b, ()) = some (eqs (toS (askB a)) (toS b), ()) := rfl
      rw [e, Option.bind_some]
      cases he : eqs (toS (askB a)) (toS b) with
      | false => exact ⟨_, _, rfl, .inr rfl⟩
      | true => exact ⟨a, 0, rfl, .inl ⟨rfl, ha, hr, eqs_iff.1 he⟩⟩
theorem look_any {f : Int} {b : List Int} (hb : ∀ x ∈ f :: b, 0 ≤ x ∧ x ≤ 255) : ∃ (a : TA) (e : Int), ask_Look (f :: b, ()) = some (a, e, ()) ∧ ((e = 0 ∧ OkA a ∧ rightA a = true ∧ toS (askB a) = toS (f :: b)) ∨ ((e = 1 ∨ e = 3) ∧ a = (f, 0, 0, 0, [], []))) := by
  obtain ⟨a, e, h1, h2⟩ := aparse_any hb
  show ∃ (a' : TA) (e : Int), ask_Look_m0 (f :: b) = some (a', e, ()) ∧ _
  unfold ask_Look_m0
  rw [if_neg (by rw [eqi_iff, ofNat_eq, List.length_cons]; omega), h1, Option.bind_some]
  dsimp only
  rcases h2 with ⟨rfl, ha⟩ | rfl
  · exact ⟨a, 0, rfl, .inl ⟨rfl, ha⟩⟩
  · rw [if_neg (by decide), at_zero, Option.bind_some, Option.bind_some, shape_eq, Option.bind_some]
    dsimp only
    split
    · exact ⟨_, _, rfl, .inr ⟨.inl rfl, rfl⟩⟩
    · exact ⟨_, _, rfl, .inr ⟨.inr rfl, rfl⟩⟩
end Go.Proofs.Lx

end

section
/- Addresses that a table's areas have: model.each, as plain Lean. -/
namespace Go.Proofs.Lx
open Go Ev Sx Pl
set_option maxRecDepth 100000
abbrev TArea := Int × Int × Bool × Bool × Bool
def covS (x : TArea) (i : Int) : Bool := decide (1 ≤ x.2.1 ∧ x.1 ≤ i ∧ i < x.1 + x.2.1)
def firstS (l : List TArea) (i : Int) : Option TArea := l.find? fun x => covS x i
def wantF (w : TArea → Bool) (l : List TArea) (i : Int) : Bool := match firstS l i with
  | some x => w x
  | none => false
/-- whether each address has an area, and the first one is as wanted -/
def eachS (w : TArea → Bool) (l : List TArea) (p : Int) (m : Nat) : Bool := (List.range m).all fun k => wantF w l (p + (k : Int))
def OkAr (x : TArea) : Prop := -9223372036854775808 ≤ x.1 ∧ x.1 ≤ 9223372036854775807 ∧ -9223372036854775808 ≤ x.2.1 ∧ x.2.1 ≤ 9223372036854775807
theorem capOk_sf (n : Int) : capOk n n = true := by
  unfold capOk
  rw [if_pos rfl]
theorem meet_gen {x : TArea} {p e : Int} (h0 : 0 ≤ p) (hpe : p ≤ e) (he : e ≤ 1000000000000) (hx : OkAr x) :
    ∃ f t, model_meet (x, p, e, ()) = some (f, t, ()) ∧ p ≤ f ∧ f ≤ e ∧ t ≤ e ∧ ∀ i, p ≤ i → i < e → (covS x i = true ↔ f ≤ i ∧ i < t) := by
  obtain ⟨x1, x2, x3, x4⟩ := hx
  show ∃ f t, model_meet_m0 model_meet_K1 x p e = _ ∧ _
  unfold model_meet_m0
  have none : ∃ f t, model_meet_K1 p e true x = some (f, t, ()) ∧ f = p ∧ t = p := ⟨p, p, rfl, rfl, rfl⟩
  by_cases hm : x.2.1 < 1
  · rw [if_pos (lt_iff.2 hm)]
    obtain ⟨f, t, h1, rfl, rfl⟩ := none
    refine ⟨_, _, h1, Int.le_refl _, hpe, hpe, fun i hi hie => ?_⟩
    unfold covS
    rw [decide_eq_true_eq]
    omega
  · rw [if_neg (fun h => hm (lt_iff.1 h))]
    by_cases ha : e ≤ x.1
    · rw [ge_iff.2 ha]
      obtain ⟨f, t, h1, rfl, rfl⟩ := none
      refine ⟨_, _, h1, Int.le_refl _, hpe, hpe, fun i hi hie => ?_⟩
      unfold covS
      rw [decide_eq_true_eq]
      omega
    · rw [show ge x.1 e = false from decide_eq_false ha]
      have K3 : ∀ t, model_meet_K3 p t x = some (if p < x.1 then x.1 else p, t, ()) := fun t => by
        unfold model_meet_K3 model_meet_m3
        simp only [gt_iff]
      have K2t : model_meet_K2 p e e true x = some (if p < x.1 then x.1 else p, (if x.1 + x.2.1 < e then x.1 + x.2.1 else e), ()) ∨ ¬ (x.1 < 0 ∨ x.2.1 < e - x.1) := by
        by_cases hc : x.1 < 0 ∨ x.2.1 < e - x.1
        · left
          unfold model_meet_K2 model_meet_m2
          have hadd : add .i64 x.1 x.2.1 = x.1 + x.2.1 := add64 (by omega) (by omega)
          rw [if_pos rfl, K3, hadd]
          simp only [lt_iff]
        · exact .inr hc
      have fin : ∀ t, (t = (if x.1 + x.2.1 < e then x.1 + x.2.1 else e)) → p ≤ (if p < x.1 then x.1 else p) ∧ (if p < x.1 then x.1 else p) ≤ e ∧ t ≤ e ∧ ∀ i, p ≤ i → i < e → (covS x i = true ↔ (if p < x.1 then x.1 else p) ≤ i ∧ i < t) := fun t ht => by
        subst ht
        refine ⟨by split <;> omega, by split <;> omega, by split <;> omega, fun i hi hie => ?_⟩
        unfold covS
        rw [decide_eq_true_eq]
        split <;> split <;> omega
      unfold model_meet_K1 model_meet_m1
      rw [if_neg (by decide)]
      by_cases hn : x.1 < 0
      · rw [if_pos (lt_iff.2 hn)]
        rcases K2t with h | h
        · obtain ⟨g1, g2, g3, g4⟩ := fin _ rfl
          exact ⟨_, _, h, g1, g2, g3, g4⟩
        · exact absurd (.inl hn) h
      · rw [if_neg (fun h => hn (lt_iff.1 h)), sub64 (by omega) (by omega)]
        by_cases hc : x.2.1 < e - x.1
        · rw [lt_iff.2 hc]
          rcases K2t with h | h
          · obtain ⟨g1, g2, g3, g4⟩ := fin _ rfl
            exact ⟨_, _, h, g1, g2, g3, g4⟩
          · exact absurd (.inr hc) h
        · rw [show lt x.2.1 (e - x.1) = false from decide_eq_false hc]
          unfold model_meet_K2 model_meet_m2
          rw [if_neg (by decide), K3]
          obtain ⟨g1, g2, g3, g4⟩ := fin e (by rw [if_neg (by omega)])
          exact ⟨_, _, rfl, g1, g2, g3, g4⟩
theorem first_take {l : List TArea} {t : Nat} {i : Int} {y : TArea} (h : firstS (l.take t) i = some y) : firstS l i = some y := by
  have : firstS l i = (firstS (l.take t) i).or (firstS (l.drop t) i) := by
    unfold firstS
    rw [← List.find?_append, List.take_append_drop]
  rw [this, h]
  rfl
theorem first_next {l : List TArea} {t : Nat} (ht : t < l.length) (i : Int) : firstS (l.take (t + 1)) i = (firstS (l.take t) i).or (if covS l[t] i = true then some l[t] else none) := by
  unfold firstS
  rw [List.take_succ_eq_append_getElem ht, List.find?_append]
  congr 1
  simp only [List.find?_cons, List.find?_nil]
  cases covS l[t] i <;> rfl
/-- what is known of the addresses that are met so far -/
def MetI (w : TArea → Bool) (l : List TArea) (p : Int) (m : Nat) (c : Int → Bool) (met : List Bool) (left : Int) : Prop :=
  met.length = m ∧ left = ((met.countP fun b => !b : Nat) : Int) ∧ ∀ k : Nat, k < m → met[k]? = some (c (p + (k : Int))) ∧ (c (p + (k : Int)) = true → wantF w l (p + (k : Int)) = true)
theorem met_0 (w : TArea → Bool) (l : List TArea) (p : Int) (m : Nat) : MetI w l p m (fun i => (firstS (l.take 0) i).isSome) (List.replicate m false) (m : Int) := by
  refine ⟨List.length_replicate .., ?_, fun k hk => ⟨?_, fun e => by cases e⟩⟩
  · rw [List.countP_replicate]
    rfl
  · rw [List.getElem?_replicate, if_pos hk]
    rfl
theorem met_zero {w : TArea → Bool} {l : List TArea} {p : Int} {m : Nat} {c : Int → Bool} {met : List Bool} {left : Int} (h : MetI w l p m c met left) (h0 : left = 0) : eachS w l p m = true := by
  obtain ⟨h1, h2, h3⟩ := h
  unfold eachS
  rw [List.all_eq_true]
  intro k hk
  rw [List.mem_range] at hk
  obtain ⟨e1, e2⟩ := h3 k hk
  refine e2 ?_
  have hz : met.countP (fun b => !b) = 0 := by omega
  have := List.countP_eq_zero.1 hz _ (List.mem_of_getElem? e1)
  simpa using this
theorem met_left {w : TArea → Bool} {l : List TArea} {p : Int} {m : Nat} {met : List Bool} {left : Int} (h : MetI w l p m (fun i => (firstS l i).isSome) met left) (h0 : left ≠ 0) : eachS w l p m = false := by
  obtain ⟨h1, h2, h3⟩ := h
  rw [← Bool.not_eq_true]
  intro hall
  unfold eachS at hall
  rw [List.all_eq_true] at hall
  apply h0
  rw [h2]
  have : met.countP (fun b => !b) = 0 := by
    rw [List.countP_eq_zero]
    intro b hb
    obtain ⟨k, hk, rfl⟩ := List.getElem_of_mem hb
    have e1 := (h3 k (by omega)).1
    have hw := hall k (List.mem_range.2 (by omega))
    unfold wantF at hw
    rw [List.getElem?_eq_getElem hk] at e1
    dsimp only at e1
    cases hf : firstS l (p + (k : Int)) with
    | none => rw [hf] at hw; cases hw
    | some y =>
      rw [hf] at e1
      have e1 : met[k] = true := by simpa using e1
      rw [e1]
      decide
  rw [this]
  rfl
theorem met_false {w : TArea → Bool} {l : List TArea} {p : Int} {m k : Nat} (hk : k < m) (h : wantF w l (p + (k : Int)) = false) : eachS w l p m = false := by
  rw [← Bool.not_eq_true]
  intro hall
  unfold eachS at hall
  rw [List.all_eq_true] at hall
  have := hall k (List.mem_range.2 hk)
  rw [h] at this
  cases this
theorem met_cong {w : TArea → Bool} {l : List TArea} {p : Int} {m : Nat} {c c' : Int → Bool} {met : List Bool} {left : Int} (h : MetI w l p m c met left) (hc : ∀ k : Nat, k < m → c' (p + (k : Int)) = c (p + (k : Int))) : MetI w l p m c' met left :=
  ⟨h.1, h.2.1, fun k hk => by rw [hc k hk]; exact h.2.2 k hk⟩
theorem met_set {w : TArea → Bool} {l : List TArea} {p : Int} {m k : Nat} {c : Int → Bool} {met : List Bool} {left : Int} (h : MetI w l p m c met left) (hk : k < m) (hf : c (p + (k : Int)) = false) (hw : wantF w l (p + (k : Int)) = true) :
    MetI w l p m (fun i => c i || decide (i = p + (k : Int))) (met.set k true) (left - 1) := by
  obtain ⟨h1, h2, h3⟩ := h
  have hg := (h3 k hk).1
  have hkl : k < met.length := by omega
  rw [List.getElem?_eq_getElem hkl, hf] at hg
  have hg : met[k] = false := by simpa using hg
  refine ⟨by simp [h1], ?_, fun j hj => ?_⟩
  · have hpos : 0 < met.countP (fun b => !b) := by
      rw [List.countP_pos_iff]
      exact ⟨met[k], List.getElem_mem hkl, by rw [hg]; rfl⟩
    rw [List.countP_set hkl, hg, h2]
    simp only [Bool.not_false, if_true, Bool.not_true, Bool.false_eq_true, if_false]
    omega
  · obtain ⟨e1, e2⟩ := h3 j hj
    dsimp only
    by_cases hjk : k = j
    · subst hjk
      refine ⟨?_, fun _ => hw⟩
      rw [List.getElem?_set_self hkl, decide_eq_true rfl, Bool.or_true]
    · have : ¬ (p + (j : Int) = p + (k : Int)) := by omega
      refine ⟨?_, fun e => ?_⟩
      · rw [List.getElem?_set_ne hjk, e1, decide_eq_false this, Bool.or_false]
      · rw [decide_eq_false this, Bool.or_false] at e
        exact e2 e
def model_each_br_K3_F (u1 : Int → Int → Int → List LAT2 → Int → Int → List Bool → Option (As [.bool])) := (fun (self : (Int) × (Int) × (Int) × (Int) × (Int) × (List LAT2) × (Int) × (Int) × (List Bool) × LAT2 → Option (As [.bool])) (s : (Int) × (Int) × (Int) × (Int) × (Int) × (List LAT2) × (Int) × (Int) × (List Bool) × LAT2) => model_each_br_m3 (model_each_br_K4 u1 (fun at' many left to' i t19 t20 t21 met x => self (at', many, left, to', i, t19, t20, t21, met, x))) u1 (fun at' many left to' i t19 t20 t21 met x => self (at', many, left, to', i, t19, t20, t21, met, x)) s.1 s.2.1 s.2.2.1 s.2.2.2.1 s.2.2.2.2.1 s.2.2.2.2.2.1 s.2.2.2.2.2.2.1 s.2.2.2.2.2.2.2.1 s.2.2.2.2.2.2.2.2.1 s.2.2.2.2.2.2.2.2.2)
theorem model_each_br_K3_Fe (u1 : Int → Int → Int → List LAT2 → Int → Int → List Bool → Option (As [.bool])) (self : (Int) × (Int) × (Int) × (Int) × (Int) × (List LAT2) × (Int) × (Int) × (List Bool) × LAT2 → Option (As [.bool])) (at' : Int) (many : Int) (left : Int) (to' : Int) (i : Int) (t19 : List LAT2) (t20 : Int) (t21 : Int) (met : List Bool) (x : Int × Int × Bool × Bool × Bool) : model_each_br_K3_F u1 self (at', many, left, to', i, t19, t20, t21, met, x) = model_each_br_m3 (model_each_br_K4 u1 (fun at' many left to' i t19 t20 t21 met x => self (at', many, left, to', i, t19, t20, t21, met, x))) u1 (fun at' many left to' i t19 t20 t21 met x => self (at', many, left, to', i, t19, t20, t21, met, x)) at' many left to' i t19 t20 t21 met x := rfl
theorem model_each_br_K3_Ke (u1 : Int → Int → Int → List LAT2 → Int → Int → List Bool → Option (As [.bool])) (at' : Int) (many : Int) (left : Int) (to' : Int) (i : Int) (t19 : List LAT2) (t20 : Int) (t21 : Int) (met : List Bool) (x : Int × Int × Bool × Bool × Bool) : model_each_br_K3 u1 at' many left to' i t19 t20 t21 met x = loopF (model_each_br_K3_F u1) 18446744073709551616 (at', many, left, to', i, t19, t20, t21, met, x) := rfl
def model_each_br_K1_F  := (fun (self : (Int) × (Int) × (Int) × (List LAT2) × (Int) × (Int) × (List Bool) → Option (As [.bool])) (s : (Int) × (Int) × (Int) × (List LAT2) × (Int) × (Int) × (List Bool)) => model_each_br_m1 (model_each_br_K2) (model_each_br_K3 (fun at' many left t19 t20 t21 met => self (at', many, left, t19, t20, t21, met))) (fun at' many left t19 t20 t21 met => self (at', many, left, t19, t20, t21, met)) s.1 s.2.1 s.2.2.1 s.2.2.2.1 s.2.2.2.2.1 s.2.2.2.2.2.1 s.2.2.2.2.2.2)
theorem model_each_br_K1_Fe  (self : (Int) × (Int) × (Int) × (List LAT2) × (Int) × (Int) × (List Bool) → Option (As [.bool])) (at' : Int) (many : Int) (left : Int) (t19 : List LAT2) (t20 : Int) (t21 : Int) (met : List Bool) : model_each_br_K1_F self (at', many, left, t19, t20, t21, met) = model_each_br_m1 (model_each_br_K2) (model_each_br_K3 (fun at' many left t19 t20 t21 met => self (at', many, left, t19, t20, t21, met))) (fun at' many left t19 t20 t21 met => self (at', many, left, t19, t20, t21, met)) at' many left t19 t20 t21 met := rfl
theorem model_each_br_K1_Ke  (at' : Int) (many : Int) (left : Int) (t19 : List LAT2) (t20 : Int) (t21 : Int) (met : List Bool) : model_each_br_K1 at' many left t19 t20 t21 met = loopF (model_each_br_K1_F) 18446744073709551616 (at', many, left, t19, t20, t21, met) := rfl
def model_each_ur_K3_F (u1 : Int → Int → Int → List LAT2 → Int → Int → List Bool → Option (As [.bool])) := (fun (self : (Int) × (Int) × (Int) × (Int) × (Int) × (List LAT2) × (Int) × (Int) × (List Bool) × LAT2 → Option (As [.bool])) (s : (Int) × (Int) × (Int) × (Int) × (Int) × (List LAT2) × (Int) × (Int) × (List Bool) × LAT2) => model_each_ur_m3 (model_each_ur_K4 u1 (fun at' many left to' i t19 t20 t21 met x => self (at', many, left, to', i, t19, t20, t21, met, x))) u1 (fun at' many left to' i t19 t20 t21 met x => self (at', many, left, to', i, t19, t20, t21, met, x)) s.1 s.2.1 s.2.2.1 s.2.2.2.1 s.2.2.2.2.1 s.2.2.2.2.2.1 s.2.2.2.2.2.2.1 s.2.2.2.2.2.2.2.1 s.2.2.2.2.2.2.2.2.1 s.2.2.2.2.2.2.2.2.2)
theorem model_each_ur_K3_Fe (u1 : Int → Int → Int → List LAT2 → Int → Int → List Bool → Option (As [.bool])) (self : (Int) × (Int) × (Int) × (Int) × (Int) × (List LAT2) × (Int) × (Int) × (List Bool) × LAT2 → Option (As [.bool])) (at' : Int) (many : Int) (left : Int) (to' : Int) (i : Int) (t19 : List LAT2) (t20 : Int) (t21 : Int) (met : List Bool) (x : Int × Int × Bool × Bool × Bool) : model_each_ur_K3_F u1 self (at', many, left, to', i, t19, t20, t21, met, x) = model_each_ur_m3 (model_each_ur_K4 u1 (fun at' many left to' i t19 t20 t21 met x => self (at', many, left, to', i, t19, t20, t21, met, x))) u1 (fun at' many left to' i t19 t20 t21 met x => self (at', many, left, to', i, t19, t20, t21, met, x)) at' many left to' i t19 t20 t21 met x := rfl
theorem model_each_ur_K3_Ke (u1 : Int → Int → Int → List LAT2 → Int → Int → List Bool → Option (As [.bool])) (at' : Int) (many : Int) (left : Int) (to' : Int) (i : Int) (t19 : List LAT2) (t20 : Int) (t21 : Int) (met : List Bool) (x : Int × Int × Bool × Bool × Bool) : model_each_ur_K3 u1 at' many left to' i t19 t20 t21 met x = loopF (model_each_ur_K3_F u1) 18446744073709551616 (at', many, left, to', i, t19, t20, t21, met, x) := rfl
def model_each_ur_K1_F  := (fun (self : (Int) × (Int) × (Int) × (List LAT2) × (Int) × (Int) × (List Bool) → Option (As [.bool])) (s : (Int) × (Int) × (Int) × (List LAT2) × (Int) × (Int) × (List Bool)) => model_each_ur_m1 (model_each_ur_K2) (model_each_ur_K3 (fun at' many left t19 t20 t21 met => self (at', many, left, t19, t20, t21, met))) (fun at' many left t19 t20 t21 met => self (at', many, left, t19, t20, t21, met)) s.1 s.2.1 s.2.2.1 s.2.2.2.1 s.2.2.2.2.1 s.2.2.2.2.2.1 s.2.2.2.2.2.2)
theorem model_each_ur_K1_Fe  (self : (Int) × (Int) × (Int) × (List LAT2) × (Int) × (Int) × (List Bool) → Option (As [.bool])) (at' : Int) (many : Int) (left : Int) (t19 : List LAT2) (t20 : Int) (t21 : Int) (met : List Bool) : model_each_ur_K1_F self (at', many, left, t19, t20, t21, met) = model_each_ur_m1 (model_each_ur_K2) (model_each_ur_K3 (fun at' many left t19 t20 t21 met => self (at', many, left, t19, t20, t21, met))) (fun at' many left t19 t20 t21 met => self (at', many, left, t19, t20, t21, met)) at' many left t19 t20 t21 met := rfl
theorem model_each_ur_K1_Ke  (at' : Int) (many : Int) (left : Int) (t19 : List LAT2) (t20 : Int) (t21 : Int) (met : List Bool) : model_each_ur_K1 at' many left t19 t20 t21 met = loopF (model_each_ur_K1_F) 18446744073709551616 (at', many, left, t19, t20, t21, met) := rfl
def model_each_bw_K3_F (u1 : Int → Int → Int → List LAT2 → Int → Int → Int → Int → List Bool → Option (As [.bool, .int .i64, .int .i64])) := (fun (self : (Int) × (Int) × (Int) × (Int) × (Int) × (List LAT2) × (Int) × (Int) × (Int) × (Int) × (List Bool) × LAT2 → Option (As [.bool, .int .i64, .int .i64])) (s : (Int) × (Int) × (Int) × (Int) × (Int) × (List LAT2) × (Int) × (Int) × (Int) × (Int) × (List Bool) × LAT2) => model_each_bw_m3 (model_each_bw_K4 u1 (fun at' many left to' i t19 t20 t21 o o_2 met x => self (at', many, left, to', i, t19, t20, t21, o, o_2, met, x))) u1 (fun at' many left to' i t19 t20 t21 o o_2 met x => self (at', many, left, to', i, t19, t20, t21, o, o_2, met, x)) s.1 s.2.1 s.2.2.1 s.2.2.2.1 s.2.2.2.2.1 s.2.2.2.2.2.1 s.2.2.2.2.2.2.1 s.2.2.2.2.2.2.2.1 s.2.2.2.2.2.2.2.2.1 s.2.2.2.2.2.2.2.2.2.1 s.2.2.2.2.2.2.2.2.2.2.1 s.2.2.2.2.2.2.2.2.2.2.2)
theorem model_each_bw_K3_Fe (u1 : Int → Int → Int → List LAT2 → Int → Int → Int → Int → List Bool → Option (As [.bool, .int .i64, .int .i64])) (self : (Int) × (Int) × (Int) × (Int) × (Int) × (List LAT2) × (Int) × (Int) × (Int) × (Int) × (List Bool) × LAT2 → Option (As [.bool, .int .i64, .int .i64])) (at' : Int) (many : Int) (left : Int) (to' : Int) (i : Int) (t19 : List LAT2) (t20 : Int) (t21 : Int) (o : Int) (o_2 : Int) (met : List Bool) (x : Int × Int × Bool × Bool × Bool) : model_each_bw_K3_F u1 self (at', many, left, to', i, t19, t20, t21, o, o_2, met, x) = model_each_bw_m3 (model_each_bw_K4 u1 (fun at' many left to' i t19 t20 t21 o o_2 met x => self (at', many, left, to', i, t19, t20, t21, o, o_2, met, x))) u1 (fun at' many left to' i t19 t20 t21 o o_2 met x => self (at', many, left, to', i, t19, t20, t21, o, o_2, met, x)) at' many left to' i t19 t20 t21 o o_2 met x := rfl
theorem model_each_bw_K3_Ke (u1 : Int → Int → Int → List LAT2 → Int → Int → Int → Int → List Bool → Option (As [.bool, .int .i64, .int .i64])) (at' : Int) (many : Int) (left : Int) (to' : Int) (i : Int) (t19 : List LAT2) (t20 : Int) (t21 : Int) (o : Int) (o_2 : Int) (met : List Bool) (x : Int × Int × Bool × Bool × Bool) : model_each_bw_K3 u1 at' many left to' i t19 t20 t21 o o_2 met x = loopF (model_each_bw_K3_F u1) 18446744073709551616 (at', many, left, to', i, t19, t20, t21, o, o_2, met, x) := rfl
def model_each_bw_K1_F  := (fun (self : (Int) × (Int) × (Int) × (List LAT2) × (Int) × (Int) × (Int) × (Int) × (List Bool) → Option (As [.bool, .int .i64, .int .i64])) (s : (Int) × (Int) × (Int) × (List LAT2) × (Int) × (Int) × (Int) × (Int) × (List Bool)) => model_each_bw_m1 (model_each_bw_K2) (model_each_bw_K3 (fun at' many left t19 t20 t21 o o_2 met => self (at', many, left, t19, t20, t21, o, o_2, met))) (fun at' many left t19 t20 t21 o o_2 met => self (at', many, left, t19, t20, t21, o, o_2, met)) s.1 s.2.1 s.2.2.1 s.2.2.2.1 s.2.2.2.2.1 s.2.2.2.2.2.1 s.2.2.2.2.2.2.1 s.2.2.2.2.2.2.2.1 s.2.2.2.2.2.2.2.2)
theorem model_each_bw_K1_Fe  (self : (Int) × (Int) × (Int) × (List LAT2) × (Int) × (Int) × (Int) × (Int) × (List Bool) → Option (As [.bool, .int .i64, .int .i64])) (at' : Int) (many : Int) (left : Int) (t19 : List LAT2) (t20 : Int) (t21 : Int) (o : Int) (o_2 : Int) (met : List Bool) : model_each_bw_K1_F self (at', many, left, t19, t20, t21, o, o_2, met) = model_each_bw_m1 (model_each_bw_K2) (model_each_bw_K3 (fun at' many left t19 t20 t21 o o_2 met => self (at', many, left, t19, t20, t21, o, o_2, met))) (fun at' many left t19 t20 t21 o o_2 met => self (at', many, left, t19, t20, t21, o, o_2, met)) at' many left t19 t20 t21 o o_2 met := rfl
theorem model_each_bw_K1_Ke  (at' : Int) (many : Int) (left : Int) (t19 : List LAT2) (t20 : Int) (t21 : Int) (o : Int) (o_2 : Int) (met : List Bool) : model_each_bw_K1 at' many left t19 t20 t21 o o_2 met = loopF (model_each_bw_K1_F) 18446744073709551616 (at', many, left, t19, t20, t21, o, o_2, met) := rfl
def model_each_uw_K3_F (u1 : Int → Int → Int → List LAT2 → Int → Int → Int → Int → List Bool → Option (As [.bool, .int .i64, .int .i64])) := (fun (self : (Int) × (Int) × (Int) × (Int) × (Int) × (List LAT2) × (Int) × (Int) × (Int) × (Int) × (List Bool) × LAT2 → Option (As [.bool, .int .i64, .int .i64])) (s : (Int) × (Int) × (Int) × (Int) × (Int) × (List LAT2) × (Int) × (Int) × (Int) × (Int) × (List Bool) × LAT2) => model_each_uw_m3 (model_each_uw_K4 u1 (fun at' many left to' i t19 t20 t21 o o_2 met x => self (at', many, left, to', i, t19, t20, t21, o, o_2, met, x))) u1 (fun at' many left to' i t19 t20 t21 o o_2 met x => self (at', many, left, to', i, t19, t20, t21, o, o_2, met, x)) s.1 s.2.1 s.2.2.1 s.2.2.2.1 s.2.2.2.2.1 s.2.2.2.2.2.1 s.2.2.2.2.2.2.1 s.2.2.2.2.2.2.2.1 s.2.2.2.2.2.2.2.2.1 s.2.2.2.2.2.2.2.2.2.1 s.2.2.2.2.2.2.2.2.2.2.1 s.2.2.2.2.2.2.2.2.2.2.2)
theorem model_each_uw_K3_Fe (u1 : Int → Int → Int → List LAT2 → Int → Int → Int → Int → List Bool → Option (As [.bool, .int .i64, .int .i64])) (self : (Int) × (Int) × (Int) × (Int) × (Int) × (List LAT2) × (Int) × (Int) × (Int) × (Int) × (List Bool) × LAT2 → Option (As [.bool, .int .i64, .int .i64])) (at' : Int) (many : Int) (left : Int) (to' : Int) (i : Int) (t19 : List LAT2) (t20 : Int) (t21 : Int) (o : Int) (o_2 : Int) (met : List Bool) (x : Int × Int × Bool × Bool × Bool) : model_each_uw_K3_F u1 self (at', many, left, to', i, t19, t20, t21, o, o_2, met, x) = model_each_uw_m3 (model_each_uw_K4 u1 (fun at' many left to' i t19 t20 t21 o o_2 met x => self (at', many, left, to', i, t19, t20, t21, o, o_2, met, x))) u1 (fun at' many left to' i t19 t20 t21 o o_2 met x => self (at', many, left, to', i, t19, t20, t21, o, o_2, met, x)) at' many left to' i t19 t20 t21 o o_2 met x := rfl
theorem model_each_uw_K3_Ke (u1 : Int → Int → Int → List LAT2 → Int → Int → Int → Int → List Bool → Option (As [.bool, .int .i64, .int .i64])) (at' : Int) (many : Int) (left : Int) (to' : Int) (i : Int) (t19 : List LAT2) (t20 : Int) (t21 : Int) (o : Int) (o_2 : Int) (met : List Bool) (x : Int × Int × Bool × Bool × Bool) : model_each_uw_K3 u1 at' many left to' i t19 t20 t21 o o_2 met x = loopF (model_each_uw_K3_F u1) 18446744073709551616 (at', many, left, to', i, t19, t20, t21, o, o_2, met, x) := rfl
def model_each_uw_K1_F  := (fun (self : (Int) × (Int) × (Int) × (List LAT2) × (Int) × (Int) × (Int) × (Int) × (List Bool) → Option (As [.bool, .int .i64, .int .i64])) (s : (Int) × (Int) × (Int) × (List LAT2) × (Int) × (Int) × (Int) × (Int) × (List Bool)) => model_each_uw_m1 (model_each_uw_K2) (model_each_uw_K3 (fun at' many left t19 t20 t21 o o_2 met => self (at', many, left, t19, t20, t21, o, o_2, met))) (fun at' many left t19 t20 t21 o o_2 met => self (at', many, left, t19, t20, t21, o, o_2, met)) s.1 s.2.1 s.2.2.1 s.2.2.2.1 s.2.2.2.2.1 s.2.2.2.2.2.1 s.2.2.2.2.2.2.1 s.2.2.2.2.2.2.2.1 s.2.2.2.2.2.2.2.2)
theorem model_each_uw_K1_Fe  (self : (Int) × (Int) × (Int) × (List LAT2) × (Int) × (Int) × (Int) × (Int) × (List Bool) → Option (As [.bool, .int .i64, .int .i64])) (at' : Int) (many : Int) (left : Int) (t19 : List LAT2) (t20 : Int) (t21 : Int) (o : Int) (o_2 : Int) (met : List Bool) : model_each_uw_K1_F self (at', many, left, t19, t20, t21, o, o_2, met) = model_each_uw_m1 (model_each_uw_K2) (model_each_uw_K3 (fun at' many left t19 t20 t21 o o_2 met => self (at', many, left, t19, t20, t21, o, o_2, met))) (fun at' many left t19 t20 t21 o o_2 met => self (at', many, left, t19, t20, t21, o, o_2, met)) at' many left t19 t20 t21 o o_2 met := rfl
theorem model_each_uw_K1_Ke  (at' : Int) (many : Int) (left : Int) (t19 : List LAT2) (t20 : Int) (t21 : Int) (o : Int) (o_2 : Int) (met : List Bool) : model_each_uw_K1 at' many left t19 t20 t21 o o_2 met = loopF (model_each_uw_K1_F) 18446744073709551616 (at', many, left, t19, t20, t21, o, o_2, met) := rfl

theorem each_br_in (u1 : Int → Int → Int → List TArea → Int → Int → List Bool → Option (As [.bool])) {w : TArea → Bool} {l : List TArea} {p : Int} {m t : Nat} {r : As [.bool]} (hp : 0 ≤ p) (hpm : p + (m : Int) ≤ 1000000000000) (ht : t < l.length) (hw : ∀ x, model_table_bool_readable_z1 (x, ()) = some (w x, ())) {f to' : Int} (hf : p ≤ f) (hfe : f ≤ p + (m : Int)) (hte : to' ≤ p + (m : Int))
    (hcov : ∀ i, p ≤ i → i < p + (m : Int) → (covS l[t] i = true ↔ f ≤ i ∧ i < to')) (hR : ∀ met left, MetI w l p m (fun i => (firstS (l.take (t + 1)) i).isSome) met left → u1 p (m : Int) left l (l.length : Int) (add .i64 (t : Int) 1) met = some r) (hr : eachS w l p m = false → r = (false, ()))
    (met : List Bool) (left : Int) (h : MetI w l p m (fun i => (firstS (l.take t) i).isSome) met left) :
    model_each_br_K3 u1 p (m : Int) left to' f l (l.length : Int) (t : Int) met l[t] = some r := by
  rw [model_each_br_K3_Ke]
  refine loopF_eq (Inv := fun s => ∃ (i : Int) (met : List Bool) (left : Int), s = (p, (m : Int), left, to', i, l, (l.length : Int), (t : Int), met, l[t]) ∧ f ≤ i ∧ (i ≤ to' ∨ i = f) ∧ MetI w l p m (fun j => (firstS (l.take t) j).isSome || (decide (f ≤ j) && decide (j < i))) met left)
    (μ := fun s => (to' - s.2.2.2.2.1).toNat) (G := fun _ => some r) ?_ _ _ ⟨f, met, left, rfl, Int.le_refl _, .inr rfl, met_cong h fun k hk => by
      have : (decide (f ≤ p + (k : Int)) && decide (p + (k : Int) < f)) = false := by
        by_cases hh : f ≤ p + (k : Int)
        · rw [decide_eq_false (show ¬ (p + (k : Int) < f) by omega), Bool.and_false]
        · rw [decide_eq_false hh, Bool.false_and]
      rw [this, Bool.or_false]⟩ (by dsimp only; omega)
  rintro self s ⟨i, met, left, rfl, hi1, hi2, hI⟩ ih
  rw [model_each_br_K3_Fe]
  unfold model_each_br_m3
  by_cases hlt : i < to'
  · rw [if_pos (lt_iff.2 hlt)]
    have hk : (i - p).toNat < m := by omega
    have hki : p + (((i - p).toNat : Nat) : Int) = i := by omega
    have hs : sub .i64 i p = (((i - p).toNat : Nat) : Int) := by rw [sub64 (by omega) (by omega)]; omega
    obtain ⟨g1, g2⟩ := hI.2.2 _ hk
    dsimp only at g1 g2
    rw [hki] at g1 g2
    have hdf : (decide (f ≤ i) && decide (i < i)) = false := by rw [decide_eq_false (show ¬ i < i by omega), Bool.and_false]
    rw [hdf, Bool.or_false] at g1 g2
    have K4 : ∀ left met, model_each_br_K4 u1 (fun at' many left to' i t19 t20 t21 met x => self (at', many, left, to', i, t19, t20, t21, met, x)) p (m : Int) left to' i l (l.length : Int) (t : Int) met l[t] = self (p, (m : Int), left, to', i + 1, l, (l.length : Int), (t : Int), met, l[t]) := fun left met => by
      unfold model_each_br_K4 model_each_br_m4
      rw [add64 (by omega) (by omega)]
    have hcong : ∀ (k : Nat), k < m → ∀ b : Bool, b = (((firstS (l.take t) (p + (k : Int))).isSome || (decide (f ≤ p + (k : Int)) && decide (p + (k : Int) < i))) || decide (p + (k : Int) = i)) → ((firstS (l.take t) (p + (k : Int))).isSome || (decide (f ≤ p + (k : Int)) && decide (p + (k : Int) < i + 1))) = b := fun k hk b hc => by
      rw [hc, Bool.or_assoc]
      congr 1
      rw [Bool.eq_iff_iff]
      simp only [Bool.or_eq_true, Bool.and_eq_true, decide_eq_true_eq]
      omega
    rw [hs, at_get g1]
    simp only [Option.bind_some]
    cases hb : (firstS (l.take t) i).isSome with
    | true =>
      rw [if_pos rfl, K4]
      refine ih _ ⟨i + 1, met, left, rfl, by omega, .inl (by omega), met_cong hI (fun k hk => hcong k hk _ ?_)⟩ (by dsimp only; omega)
      by_cases hki' : p + (k : Int) = i
      · rw [hki', hb, Bool.true_or, Bool.true_or]
      · rw [decide_eq_false hki', Bool.or_false]
    | false =>
      rw [if_neg (by decide), hw, Option.bind_some]
      dsimp only
      have hnone : firstS (l.take t) i = none := by simpa using hb
      have hfirst : firstS l i = some l[t] := by
        have hc := (hcov i (by omega) (by omega)).2 ⟨hi1, hlt⟩
        have := first_next ht i
        rw [hnone, hc] at this
        exact first_take this
      have hwf : wantF w l i = w l[t] := by
        unfold wantF
        rw [hfirst]
      cases hwx : w l[t] with
      | false =>
        rw [if_pos (by decide)]
        rw [hr (met_false hk (by rw [hki, hwf, hwx]))]
      | true =>
        rw [if_neg (by decide)]
        have hset := met_set hI hk (by rw [hki, hdf, Bool.or_false]; exact hb) (by rw [hki, hwf, hwx])
        rw [Int.toNat_natCast, K4]
        have hl1 : sub .i64 left 1 = left - 1 := by
          have := hI.2.1
          have h2 := List.countP_le_length (p := fun b : Bool => !b) (l := met)
          have h3 := hI.1
          rw [sub64 (by omega) (by omega)]
        rw [hl1]
        refine ih _ ⟨i + 1, _, _, rfl, by omega, .inl (by omega), met_cong hset (fun k hk => hcong k hk _ ?_)⟩ (by dsimp only; omega)
        rw [hki]
  · rw [if_neg (fun e => hlt (lt_iff.1 e))]
    refine hR met left (met_cong hI fun k hk => ?_)
    have hc := hcov (p + (k : Int)) (by omega) (by omega)
    rw [first_next ht]
    have hcb : covS l[t] (p + (k : Int)) = (decide (f ≤ p + (k : Int)) && decide (p + (k : Int) < i)) := by
      rw [Bool.eq_iff_iff, hc]
      simp only [Bool.and_eq_true, decide_eq_true_eq]
      omega
    rw [← hcb]
    cases hx : firstS (l.take t) (p + (k : Int)) with
    | some y => rfl
    | none =>
      cases covS l[t] (p + (k : Int)) <;> rfl
theorem each_br_eq {w : TArea → Bool} {l : List TArea} {p : Int} {m : Nat} (hp : 0 ≤ p) (hm : m ≤ 1000000) (hpm : p ≤ 1000000) (hl : l.length ≤ 1000000) (ho : ∀ x ∈ l, OkAr x) (hw : ∀ x, model_table_bool_readable_z1 (x, ()) = some (w x, ())) : model_each_br (l, p, (m : Int), ()) = some (eachS w l p m, ()) := by
  show model_each_br_m0 model_each_br_K1 l p (m : Int) = _
  unfold model_each_br_m0
  rw [need_t (ge_iff.2 (by omega)), need_t (capOk_sf _), Int.toNat_natCast, need_small (by omega)]
  rw [model_each_br_K1_Ke]
  refine loopF_eq (Inv := fun s => ∃ (t : Nat) (met : List Bool) (left : Int), s = (p, (m : Int), left, l, (l.length : Int), (t : Int), met) ∧ t ≤ l.length ∧ MetI w l p m (fun i => (firstS (l.take t) i).isSome) met left)
    (μ := fun s => (Int.ofNat l.length - s.2.2.2.2.2.1).toNat) (G := fun _ => some (eachS w l p m, ())) ?_ _ _ ⟨0, _, _, rfl, Nat.zero_le _, met_0 w l p m⟩ (by dsimp only; rw [ofNat_eq]; omega)
  rintro self s ⟨t, met, left, rfl, ht, hI⟩ ih
  rw [model_each_br_K1_Fe]
  unfold model_each_br_m1
  have k2 : model_each_br_K2 left = some (eqi left 0, ()) := rfl
  by_cases hlt : t < l.length
  · have hg := List.getElem?_eq_getElem hlt
    rw [if_pos (by rw [lt_iff]; omega), at_get hg, Option.bind_some]
    by_cases h0 : left = 0
    · rw [if_pos (eqi_iff.2 h0), k2, eqi_iff.2 h0, met_zero hI h0]
    · rw [if_neg (fun e => h0 (eqi_iff.1 e)), add64 (by omega) (by omega)]
      obtain ⟨f, t', e1, e2, e3, e4, e5⟩ := meet_gen (x := l[t]) (p := p) (e := p + (m : Int)) hp (by omega) (by omega) (ho _ (List.getElem_mem hlt))
      rw [e1, Option.bind_some]
      refine each_br_in _ hp (by omega) hlt hw e2 e3 e4 e5 (fun met left hI' => ?_) (fun e => by rw [e]) met left hI
      rw [succ64 (by omega)]
      exact ih _ ⟨t + 1, met, left, rfl, by omega, hI'⟩ (by dsimp only; rw [ofNat_eq]; omega)
  · have htl : t = l.length := by omega
    subst htl
    rw [if_neg (by rw [lt_iff]; omega), k2]
    by_cases h0 : left = 0
    · rw [eqi_iff.2 h0, met_zero hI h0]
    · rw [List.take_length] at hI
      rw [met_left hI h0, show eqi left 0 = false from decide_eq_false h0]

theorem each_ur_in (u1 : Int → Int → Int → List TArea → Int → Int → List Bool → Option (As [.bool])) {w : TArea → Bool} {l : List TArea} {p : Int} {m t : Nat} {r : As [.bool]} (hp : 0 ≤ p) (hpm : p + (m : Int) ≤ 1000000000000) (ht : t < l.length) (hw : ∀ x, model_table_uint16_readable_z1 (x, ()) = some (w x, ())) {f to' : Int} (hf : p ≤ f) (hfe : f ≤ p + (m : Int)) (hte : to' ≤ p + (m : Int))
    (hcov : ∀ i, p ≤ i → i < p + (m : Int) → (covS l[t] i = true ↔ f ≤ i ∧ i < to')) (hR : ∀ met left, MetI w l p m (fun i => (firstS (l.take (t + 1)) i).isSome) met left → u1 p (m : Int) left l (l.length : Int) (add .i64 (t : Int) 1) met = some r) (hr : eachS w l p m = false → r = (false, ()))
    (met : List Bool) (left : Int) (h : MetI w l p m (fun i => (firstS (l.take t) i).isSome) met left) :
    model_each_ur_K3 u1 p (m : Int) left to' f l (l.length : Int) (t : Int) met l[t] = some r := by
  rw [model_each_ur_K3_Ke]
  refine loopF_eq (Inv := fun s => ∃ (i : Int) (met : List Bool) (left : Int), s = (p, (m : Int), left, to', i, l, (l.length : Int), (t : Int), met, l[t]) ∧ f ≤ i ∧ (i ≤ to' ∨ i = f) ∧ MetI w l p m (fun j => (firstS (l.take t) j).isSome || (decide (f ≤ j) && decide (j < i))) met left)
    (μ := fun s => (to' - s.2.2.2.2.1).toNat) (G := fun _ => some r) ?_ _ _ ⟨f, met, left, rfl, Int.le_refl _, .inr rfl, met_cong h fun k hk => by
      have : (decide (f ≤ p + (k : Int)) && decide (p + (k : Int) < f)) = false := by
        by_cases hh : f ≤ p + (k : Int)
        · rw [decide_eq_false (show ¬ (p + (k : Int) < f) by omega), Bool.and_false]
        · rw [decide_eq_false hh, Bool.false_and]
      rw [this, Bool.or_false]⟩ (by dsimp only; omega)
  rintro self s ⟨i, met, left, rfl, hi1, hi2, hI⟩ ih
  rw [model_each_ur_K3_Fe]
  unfold model_each_ur_m3
  by_cases hlt : i < to'
  · rw [if_pos (lt_iff.2 hlt)]
    have hk : (i - p).toNat < m := by omega
    have hki : p + (((i - p).toNat : Nat) : Int) = i := by omega
    have hs : sub .i64 i p = (((i - p).toNat : Nat) : Int) := by rw [sub64 (by omega) (by omega)]; omega
    obtain ⟨g1, g2⟩ := hI.2.2 _ hk
    dsimp only at g1 g2
    rw [hki] at g1 g2
    have hdf : (decide (f ≤ i) && decide (i < i)) = false := by rw [decide_eq_false (show ¬ i < i by omega), Bool.and_false]
    rw [hdf, Bool.or_false] at g1 g2
    have K4 : ∀ left met, model_each_ur_K4 u1 (fun at' many left to' i t19 t20 t21 met x => self (at', many, left, to', i, t19, t20, t21, met, x)) p (m : Int) left to' i l (l.length : Int) (t : Int) met l[t] = self (p, (m : Int), left, to', i + 1, l, (l.length : Int), (t : Int), met, l[t]) := fun left met => by
      unfold model_each_ur_K4 model_each_ur_m4
      rw [add64 (by omega) (by omega)]
    have hcong : ∀ (k : Nat), k < m → ∀ b : Bool, b = (((firstS (l.take t) (p + (k : Int))).isSome || (decide (f ≤ p + (k : Int)) && decide (p + (k : Int) < i))) || decide (p + (k : Int) = i)) → ((firstS (l.take t) (p + (k : Int))).isSome || (decide (f ≤ p + (k : Int)) && decide (p + (k : Int) < i + 1))) = b := fun k hk b hc => by
      rw [hc, Bool.or_assoc]
      congr 1
      rw [Bool.eq_iff_iff]
      simp only [Bool.or_eq_true, Bool.and_eq_true, decide_eq_true_eq]
      omega
    rw [hs, at_get g1]
    simp only [Option.bind_some]
    cases hb : (firstS (l.take t) i).isSome with
    | true =>
      rw [if_pos rfl, K4]
      refine ih _ ⟨i + 1, met, left, rfl, by omega, .inl (by omega), met_cong hI (fun k hk => hcong k hk _ ?_)⟩ (by dsimp only; omega)
      by_cases hki' : p + (k : Int) = i
      · rw [hki', hb, Bool.true_or, Bool.true_or]
      · rw [decide_eq_false hki', Bool.or_false]
    | false =>
      rw [if_neg (by decide), hw, Option.bind_some]
      dsimp only
      have hnone : firstS (l.take t) i = none := by simpa using hb
      have hfirst : firstS l i = some l[t] := by
        have hc := (hcov i (by omega) (by omega)).2 ⟨hi1, hlt⟩
        have := first_next ht i
        rw [hnone, hc] at this
        exact first_take this
      have hwf : wantF w l i = w l[t] := by
        unfold wantF
        rw [hfirst]
      cases hwx : w l[t] with
      | false =>
        rw [if_pos (by decide)]
        rw [hr (met_false hk (by rw [hki, hwf, hwx]))]
      | true =>
        rw [if_neg (by decide)]
        have hset := met_set hI hk (by rw [hki, hdf, Bool.or_false]; exact hb) (by rw [hki, hwf, hwx])
        rw [Int.toNat_natCast, K4]
        have hl1 : sub .i64 left 1 = left - 1 := by
          have := hI.2.1
          have h2 := List.countP_le_length (p := fun b : Bool => !b) (l := met)
          have h3 := hI.1
          rw [sub64 (by omega) (by omega)]
        rw [hl1]
        refine ih _ ⟨i + 1, _, _, rfl, by omega, .inl (by omega), met_cong hset (fun k hk => hcong k hk _ ?_)⟩ (by dsimp only; omega)
        rw [hki]
  · rw [if_neg (fun e => hlt (lt_iff.1 e))]
    refine hR met left (met_cong hI fun k hk => ?_)
    have hc := hcov (p + (k : Int)) (by omega) (by omega)
    rw [first_next ht]
    have hcb : covS l[t] (p + (k : Int)) = (decide (f ≤ p + (k : Int)) && decide (p + (k : Int) < i)) := by
      rw [Bool.eq_iff_iff, hc]
      simp only [Bool.and_eq_true, decide_eq_true_eq]
      omega
    rw [← hcb]
    cases hx : firstS (l.take t) (p + (k : Int)) with
    | some y => rfl
    | none =>
      cases covS l[t] (p + (k : Int)) <;> rfl
theorem each_ur_eq {w : TArea → Bool} {l : List TArea} {p : Int} {m : Nat} (hp : 0 ≤ p) (hm : m ≤ 1000000) (hpm : p ≤ 1000000) (hl : l.length ≤ 1000000) (ho : ∀ x ∈ l, OkAr x) (hw : ∀ x, model_table_uint16_readable_z1 (x, ()) = some (w x, ())) : model_each_ur (l, p, (m : Int), ()) = some (eachS w l p m, ()) := by
  show model_each_ur_m0 model_each_ur_K1 l p (m : Int) = _
  unfold model_each_ur_m0
  rw [need_t (ge_iff.2 (by omega)), need_t (capOk_sf _), Int.toNat_natCast, need_small (by omega)]
  rw [model_each_ur_K1_Ke]
  refine loopF_eq (Inv := fun s => ∃ (t : Nat) (met : List Bool) (left : Int), s = (p, (m : Int), left, l, (l.length : Int), (t : Int), met) ∧ t ≤ l.length ∧ MetI w l p m (fun i => (firstS (l.take t) i).isSome) met left)
    (μ := fun s => (Int.ofNat l.length - s.2.2.2.2.2.1).toNat) (G := fun _ => some (eachS w l p m, ())) ?_ _ _ ⟨0, _, _, rfl, Nat.zero_le _, met_0 w l p m⟩ (by dsimp only; rw [ofNat_eq]; omega)
  rintro self s ⟨t, met, left, rfl, ht, hI⟩ ih
  rw [model_each_ur_K1_Fe]
  unfold model_each_ur_m1
  have k2 : model_each_ur_K2 left = some (eqi left 0, ()) := rfl
  by_cases hlt : t < l.length
  · have hg := List.getElem?_eq_getElem hlt
    rw [if_pos (by rw [lt_iff]; omega), at_get hg, Option.bind_some]
    by_cases h0 : left = 0
    · rw [if_pos (eqi_iff.2 h0), k2, eqi_iff.2 h0, met_zero hI h0]
    · rw [if_neg (fun e => h0 (eqi_iff.1 e)), add64 (by omega) (by omega)]
      obtain ⟨f, t', e1, e2, e3, e4, e5⟩ := meet_gen (x := l[t]) (p := p) (e := p + (m : Int)) hp (by omega) (by omega) (ho _ (List.getElem_mem hlt))
      rw [e1, Option.bind_some]
      refine each_ur_in _ hp (by omega) hlt hw e2 e3 e4 e5 (fun met left hI' => ?_) (fun e => by rw [e]) met left hI
      rw [succ64 (by omega)]
      exact ih _ ⟨t + 1, met, left, rfl, by omega, hI'⟩ (by dsimp only; rw [ofNat_eq]; omega)
  · have htl : t = l.length := by omega
    subst htl
    rw [if_neg (by rw [lt_iff]; omega), k2]
    by_cases h0 : left = 0
    · rw [eqi_iff.2 h0, met_zero hI h0]
    · rw [List.take_length] at hI
      rw [met_left hI h0, show eqi left 0 = false from decide_eq_false h0]

theorem each_bw_in (u1 : Int → Int → Int → List TArea → Int → Int → Int → Int → List Bool → Option (As [.bool, .int .i64, .int .i64])) {w : TArea → Bool} {l : List TArea} {p : Int} {m t : Nat} {r : As [.bool, .int .i64, .int .i64]} {o o2 : Int} (hp : 0 ≤ p) (hpm : p + (m : Int) ≤ 1000000000000) (ht : t < l.length) (hw : ∀ x, model_table_bool_writable_z1 (x, o, o2, ()) = some (w x, o, o2, ())) {f to' : Int} (hf : p ≤ f) (hfe : f ≤ p + (m : Int)) (hte : to' ≤ p + (m : Int))
    (hcov : ∀ i, p ≤ i → i < p + (m : Int) → (covS l[t] i = true ↔ f ≤ i ∧ i < to')) (hR : ∀ met left, MetI w l p m (fun i => (firstS (l.take (t + 1)) i).isSome) met left → u1 p (m : Int) left l (l.length : Int) (add .i64 (t : Int) 1) o o2 met = some r) (hr : eachS w l p m = false → r = (false, o, o2, ()))
    (met : List Bool) (left : Int) (h : MetI w l p m (fun i => (firstS (l.take t) i).isSome) met left) :
    model_each_bw_K3 u1 p (m : Int) left to' f l (l.length : Int) (t : Int) o o2 met l[t] = some r := by
  rw [model_each_bw_K3_Ke]
  refine loopF_eq (Inv := fun s => ∃ (i : Int) (met : List Bool) (left : Int), s = (p, (m : Int), left, to', i, l, (l.length : Int), (t : Int), o, o2, met, l[t]) ∧ f ≤ i ∧ (i ≤ to' ∨ i = f) ∧ MetI w l p m (fun j => (firstS (l.take t) j).isSome || (decide (f ≤ j) && decide (j < i))) met left)
    (μ := fun s => (to' - s.2.2.2.2.1).toNat) (G := fun _ => some r) ?_ _ _ ⟨f, met, left, rfl, Int.le_refl _, .inr rfl, met_cong h fun k hk => by
      have : (decide (f ≤ p + (k : Int)) && decide (p + (k : Int) < f)) = false := by
        by_cases hh : f ≤ p + (k : Int)
        · rw [decide_eq_false (show ¬ (p + (k : Int) < f) by omega), Bool.and_false]
        · rw [decide_eq_false hh, Bool.false_and]
      rw [this, Bool.or_false]⟩ (by dsimp only; omega)
  rintro self s ⟨i, met, left, rfl, hi1, hi2, hI⟩ ih
  rw [model_each_bw_K3_Fe]
  unfold model_each_bw_m3
  by_cases hlt : i < to'
  · rw [if_pos (lt_iff.2 hlt)]
    have hk : (i - p).toNat < m := by omega
    have hki : p + (((i - p).toNat : Nat) : Int) = i := by omega
    have hs : sub .i64 i p = (((i - p).toNat : Nat) : Int) := by rw [sub64 (by omega) (by omega)]; omega
    obtain ⟨g1, g2⟩ := hI.2.2 _ hk
    dsimp only at g1 g2
    rw [hki] at g1 g2
    have hdf : (decide (f ≤ i) && decide (i < i)) = false := by rw [decide_eq_false (show ¬ i < i by omega), Bool.and_false]
    rw [hdf, Bool.or_false] at g1 g2
    have K4 : ∀ left met, model_each_bw_K4 u1 (fun at' many left to' i t19 t20 t21 o o2 met x => self (at', many, left, to', i, t19, t20, t21, o, o2, met, x)) p (m : Int) left to' i l (l.length : Int) (t : Int) o o2 met l[t] = self (p, (m : Int), left, to', i + 1, l, (l.length : Int), (t : Int), o, o2, met, l[t]) := fun left met => by
      unfold model_each_bw_K4 model_each_bw_m4
      rw [add64 (by omega) (by omega)]
    have hcong : ∀ (k : Nat), k < m → ∀ b : Bool, b = (((firstS (l.take t) (p + (k : Int))).isSome || (decide (f ≤ p + (k : Int)) && decide (p + (k : Int) < i))) || decide (p + (k : Int) = i)) → ((firstS (l.take t) (p + (k : Int))).isSome || (decide (f ≤ p + (k : Int)) && decide (p + (k : Int) < i + 1))) = b := fun k hk b hc => by
      rw [hc, Bool.or_assoc]
      congr 1
      rw [Bool.eq_iff_iff]
      simp only [Bool.or_eq_true, Bool.and_eq_true, decide_eq_true_eq]
      omega
    rw [hs, at_get g1]
    simp only [Option.bind_some]
    cases hb : (firstS (l.take t) i).isSome with
    | true =>
      rw [if_pos rfl, K4]
      refine ih _ ⟨i + 1, met, left, rfl, by omega, .inl (by omega), met_cong hI (fun k hk => hcong k hk _ ?_)⟩ (by dsimp only; omega)
      by_cases hki' : p + (k : Int) = i
      · rw [hki', hb, Bool.true_or, Bool.true_or]
      · rw [decide_eq_false hki', Bool.or_false]
    | false =>
      rw [if_neg (by decide), hw, Option.bind_some]
      dsimp only
      have hnone : firstS (l.take t) i = none := by simpa using hb
      have hfirst : firstS l i = some l[t] := by
        have hc := (hcov i (by omega) (by omega)).2 ⟨hi1, hlt⟩
        have := first_next ht i
        rw [hnone, hc] at this
        exact first_take this
      have hwf : wantF w l i = w l[t] := by
        unfold wantF
        rw [hfirst]
      cases hwx : w l[t] with
      | false =>
        rw [if_pos (by decide)]
        rw [hr (met_false hk (by rw [hki, hwf, hwx]))]
      | true =>
        rw [if_neg (by decide)]
        have hset := met_set hI hk (by rw [hki, hdf, Bool.or_false]; exact hb) (by rw [hki, hwf, hwx])
        rw [Int.toNat_natCast, K4]
        have hl1 : sub .i64 left 1 = left - 1 := by
          have := hI.2.1
          have h2 := List.countP_le_length (p := fun b : Bool => !b) (l := met)
          have h3 := hI.1
          rw [sub64 (by omega) (by omega)]
        rw [hl1]
        refine ih _ ⟨i + 1, _, _, rfl, by omega, .inl (by omega), met_cong hset (fun k hk => hcong k hk _ ?_)⟩ (by dsimp only; omega)
        rw [hki]
  · rw [if_neg (fun e => hlt (lt_iff.1 e))]
    refine hR met left (met_cong hI fun k hk => ?_)
    have hc := hcov (p + (k : Int)) (by omega) (by omega)
    rw [first_next ht]
    have hcb : covS l[t] (p + (k : Int)) = (decide (f ≤ p + (k : Int)) && decide (p + (k : Int) < i)) := by
      rw [Bool.eq_iff_iff, hc]
      simp only [Bool.and_eq_true, decide_eq_true_eq]
      omega
    rw [← hcb]
    cases hx : firstS (l.take t) (p + (k : Int)) with
    | some y => rfl
    | none =>
      cases covS l[t] (p + (k : Int)) <;> rfl
theorem each_bw_eq {w : TArea → Bool} {l : List TArea} {p : Int} {m : Nat} (hp : 0 ≤ p) (hm : m ≤ 1000000) (hpm : p ≤ 1000000) (hl : l.length ≤ 1000000) (ho : ∀ x ∈ l, OkAr x) {o o2 : Int} (hw : ∀ x, model_table_bool_writable_z1 (x, o, o2, ()) = some (w x, o, o2, ())) : model_each_bw (l, p, (m : Int), o, o2, ()) = some (eachS w l p m, o, o2, ()) := by
  show model_each_bw_m0 model_each_bw_K1 l p (m : Int) o o2 = _
  unfold model_each_bw_m0
  rw [need_t (ge_iff.2 (by omega)), need_t (capOk_sf _), Int.toNat_natCast, need_small (by omega)]
  rw [model_each_bw_K1_Ke]
  refine loopF_eq (Inv := fun s => ∃ (t : Nat) (met : List Bool) (left : Int), s = (p, (m : Int), left, l, (l.length : Int), (t : Int), o, o2, met) ∧ t ≤ l.length ∧ MetI w l p m (fun i => (firstS (l.take t) i).isSome) met left)
    (μ := fun s => (Int.ofNat l.length - s.2.2.2.2.2.1).toNat) (G := fun _ => some (eachS w l p m, o, o2, ())) ?_ _ _ ⟨0, _, _, rfl, Nat.zero_le _, met_0 w l p m⟩ (by dsimp only; rw [ofNat_eq]; omega)
  rintro self s ⟨t, met, left, rfl, ht, hI⟩ ih
  rw [model_each_bw_K1_Fe]
  unfold model_each_bw_m1
  have k2 : model_each_bw_K2 left o o2 = some (eqi left 0, o, o2, ()) := rfl
  by_cases hlt : t < l.length
  · have hg := List.getElem?_eq_getElem hlt
    rw [if_pos (by rw [lt_iff]; omega), at_get hg, Option.bind_some]
    by_cases h0 : left = 0
    · rw [if_pos (eqi_iff.2 h0), k2, eqi_iff.2 h0, met_zero hI h0]
    · rw [if_neg (fun e => h0 (eqi_iff.1 e)), add64 (by omega) (by omega)]
      obtain ⟨f, t', e1, e2, e3, e4, e5⟩ := meet_gen (x := l[t]) (p := p) (e := p + (m : Int)) hp (by omega) (by omega) (ho _ (List.getElem_mem hlt))
      rw [e1, Option.bind_some]
      refine each_bw_in _ hp (by omega) hlt hw e2 e3 e4 e5 (fun met left hI' => ?_) (fun e => by rw [e]) met left hI
      rw [succ64 (by omega)]
      exact ih _ ⟨t + 1, met, left, rfl, by omega, hI'⟩ (by dsimp only; rw [ofNat_eq]; omega)
  · have htl : t = l.length := by omega
    subst htl
    rw [if_neg (by rw [lt_iff]; omega), k2]
    by_cases h0 : left = 0
    · rw [eqi_iff.2 h0, met_zero hI h0]
    · rw [List.take_length] at hI
      rw [met_left hI h0, show eqi left 0 = false from decide_eq_false h0]

theorem each_uw_in (u1 : Int → Int → Int → List TArea → Int → Int → Int → Int → List Bool → Option (As [.bool, .int .i64, .int .i64])) {w : TArea → Bool} {l : List TArea} {p : Int} {m t : Nat} {r : As [.bool, .int .i64, .int .i64]} {o o2 : Int} (hp : 0 ≤ p) (hpm : p + (m : Int) ≤ 1000000000000) (ht : t < l.length) (hw : ∀ x, model_table_uint16_writable_z1 (x, o, o2, ()) = some (w x, o, o2, ())) {f to' : Int} (hf : p ≤ f) (hfe : f ≤ p + (m : Int)) (hte : to' ≤ p + (m : Int))
    (hcov : ∀ i, p ≤ i → i < p + (m : Int) → (covS l[t] i = true ↔ f ≤ i ∧ i < to')) (hR : ∀ met left, MetI w l p m (fun i => (firstS (l.take (t + 1)) i).isSome) met left → u1 p (m : Int) left l (l.length : Int) (add .i64 (t : Int) 1) o o2 met = some r) (hr : eachS w l p m = false → r = (false, o, o2, ()))
    (met : List Bool) (left : Int) (h : MetI w l p m (fun i => (firstS (l.take t) i).isSome) met left) :
    model_each_uw_K3 u1 p (m : Int) left to' f l (l.length : Int) (t : Int) o o2 met l[t] = some r := by
  rw [model_each_uw_K3_Ke]
  refine loopF_eq (Inv := fun s => ∃ (i : Int) (met : List Bool) (left : Int), s = (p, (m : Int), left, to', i, l, (l.length : Int), (t : Int), o, o2, met, l[t]) ∧ f ≤ i ∧ (i ≤ to' ∨ i = f) ∧ MetI w l p m (fun j => (firstS (l.take t) j).isSome || (decide (f ≤ j) && decide (j < i))) met left)
    (μ := fun s => (to' - s.2.2.2.2.1).toNat) (G := fun _ => some r) ?_ _ _ ⟨f, met, left, rfl, Int.le_refl _, .inr rfl, met_cong h fun k hk => by
      have : (decide (f ≤ p + (k : Int)) && decide (p + (k : Int) < f)) = false := by
        by_cases hh : f ≤ p + (k : Int)
        · rw [decide_eq_false (show ¬ (p + (k : Int) < f) by omega), Bool.and_false]
        · rw [decide_eq_false hh, Bool.false_and]
      rw [this, Bool.or_false]⟩ (by dsimp only; omega)
  rintro self s ⟨i, met, left, rfl, hi1, hi2, hI⟩ ih
  rw [model_each_uw_K3_Fe]
  unfold model_each_uw_m3
  by_cases hlt : i < to'
  · rw [if_pos (lt_iff.2 hlt)]
    have hk : (i - p).toNat < m := by omega
    have hki : p + (((i - p).toNat : Nat) : Int) = i := by omega
    have hs : sub .i64 i p = (((i - p).toNat : Nat) : Int) := by rw [sub64 (by omega) (by omega)]; omega
    obtain ⟨g1, g2⟩ := hI.2.2 _ hk
    dsimp only at g1 g2
    rw [hki] at g1 g2
    have hdf : (decide (f ≤ i) && decide (i < i)) = false := by rw [decide_eq_false (show ¬ i < i by omega), Bool.and_false]
    rw [hdf, Bool.or_false] at g1 g2
    have K4 : ∀ left met, model_each_uw_K4 u1 (fun at' many left to' i t19 t20 t21 o o2 met x => self (at', many, left, to', i, t19, t20, t21, o, o2, met, x)) p (m : Int) left to' i l (l.length : Int) (t : Int) o o2 met l[t] = self (p, (m : Int), left, to', i + 1, l, (l.length : Int), (t : Int), o, o2, met, l[t]) := fun left met => by
      unfold model_each_uw_K4 model_each_uw_m4
      rw [add64 (by omega) (by omega)]
    have hcong : ∀ (k : Nat), k < m → ∀ b : Bool, b = (((firstS (l.take t) (p + (k : Int))).isSome || (decide (f ≤ p + (k : Int)) && decide (p + (k : Int) < i))) || decide (p + (k : Int) = i)) → ((firstS (l.take t) (p + (k : Int))).isSome || (decide (f ≤ p + (k : Int)) && decide (p + (k : Int) < i + 1))) = b := fun k hk b hc => by
      rw [hc, Bool.or_assoc]
      congr 1
      rw [Bool.eq_iff_iff]
      simp only [Bool.or_eq_true, Bool.and_eq_true, decide_eq_true_eq]
      omega
    rw [hs, at_get g1]
    simp only [Option.bind_some]
    cases hb : (firstS (l.take t) i).isSome with
    | true =>
      rw [if_pos rfl, K4]
      refine ih _ ⟨i + 1, met, left, rfl, by omega, .inl (by omega), met_cong hI (fun k hk => hcong k hk _ ?_)⟩ (by dsimp only; omega)
      by_cases hki' : p + (k : Int) = i
      · rw [hki', hb, Bool.true_or, Bool.true_or]
      · rw [decide_eq_false hki', Bool.or_false]
    | false =>
      rw [if_neg (by decide), hw, Option.bind_some]
      dsimp only
      have hnone : firstS (l.take t) i = none := by simpa using hb
      have hfirst : firstS l i = some l[t] := by
        have hc := (hcov i (by omega) (by omega)).2 ⟨hi1, hlt⟩
        have := first_next ht i
        rw [hnone, hc] at this
        exact first_take this
      have hwf : wantF w l i = w l[t] := by
        unfold wantF
        rw [hfirst]
      cases hwx : w l[t] with
      | false =>
        rw [if_pos (by decide)]
        rw [hr (met_false hk (by rw [hki, hwf, hwx]))]
      | true =>
        rw [if_neg (by decide)]
        have hset := met_set hI hk (by rw [hki, hdf, Bool.or_false]; exact hb) (by rw [hki, hwf, hwx])
        rw [Int.toNat_natCast, K4]
        have hl1 : sub .i64 left 1 = left - 1 := by
          have := hI.2.1
          have h2 := List.countP_le_length (p := fun b : Bool => !b) (l := met)
          have h3 := hI.1
          rw [sub64 (by omega) (by omega)]
        rw [hl1]
        refine ih _ ⟨i + 1, _, _, rfl, by omega, .inl (by omega), met_cong hset (fun k hk => hcong k hk _ ?_)⟩ (by dsimp only; omega)
        rw [hki]
  · rw [if_neg (fun e => hlt (lt_iff.1 e))]
    refine hR met left (met_cong hI fun k hk => ?_)
    have hc := hcov (p + (k : Int)) (by omega) (by omega)
    rw [first_next ht]
    have hcb : covS l[t] (p + (k : Int)) = (decide (f ≤ p + (k : Int)) && decide (p + (k : Int) < i)) := by
      rw [Bool.eq_iff_iff, hc]
      simp only [Bool.and_eq_true, decide_eq_true_eq]
      omega
    rw [← hcb]
    cases hx : firstS (l.take t) (p + (k : Int)) with
    | some y => rfl
    | none =>
      cases covS l[t] (p + (k : Int)) <;> rfl
theorem each_uw_eq {w : TArea → Bool} {l : List TArea} {p : Int} {m : Nat} (hp : 0 ≤ p) (hm : m ≤ 1000000) (hpm : p ≤ 1000000) (hl : l.length ≤ 1000000) (ho : ∀ x ∈ l, OkAr x) {o o2 : Int} (hw : ∀ x, model_table_uint16_writable_z1 (x, o, o2, ()) = some (w x, o, o2, ())) : model_each_uw (l, p, (m : Int), o, o2, ()) = some (eachS w l p m, o, o2, ()) := by
  show model_each_uw_m0 model_each_uw_K1 l p (m : Int) o o2 = _
  unfold model_each_uw_m0
  rw [need_t (ge_iff.2 (by omega)), need_t (capOk_sf _), Int.toNat_natCast, need_small (by omega)]
  rw [model_each_uw_K1_Ke]
  refine loopF_eq (Inv := fun s => ∃ (t : Nat) (met : List Bool) (left : Int), s = (p, (m : Int), left, l, (l.length : Int), (t : Int), o, o2, met) ∧ t ≤ l.length ∧ MetI w l p m (fun i => (firstS (l.take t) i).isSome) met left)
    (μ := fun s => (Int.ofNat l.length - s.2.2.2.2.2.1).toNat) (G := fun _ => some (eachS w l p m, o, o2, ())) ?_ _ _ ⟨0, _, _, rfl, Nat.zero_le _, met_0 w l p m⟩ (by dsimp only; rw [ofNat_eq]; omega)
  rintro self s ⟨t, met, left, rfl, ht, hI⟩ ih
  rw [model_each_uw_K1_Fe]
  unfold model_each_uw_m1
  have k2 : model_each_uw_K2 left o o2 = some (eqi left 0, o, o2, ()) := rfl
  by_cases hlt : t < l.length
  · have hg := List.getElem?_eq_getElem hlt
    rw [if_pos (by rw [lt_iff]; omega), at_get hg, Option.bind_some]
    by_cases h0 : left = 0
    · rw [if_pos (eqi_iff.2 h0), k2, eqi_iff.2 h0, met_zero hI h0]
    · rw [if_neg (fun e => h0 (eqi_iff.1 e)), add64 (by omega) (by omega)]
      obtain ⟨f, t', e1, e2, e3, e4, e5⟩ := meet_gen (x := l[t]) (p := p) (e := p + (m : Int)) hp (by omega) (by omega) (ho _ (List.getElem_mem hlt))
      rw [e1, Option.bind_some]
      refine each_uw_in _ hp (by omega) hlt hw e2 e3 e4 e5 (fun met left hI' => ?_) (fun e => by rw [e]) met left hI
      rw [succ64 (by omega)]
      exact ih _ ⟨t + 1, met, left, rfl, by omega, hI'⟩ (by dsimp only; rw [ofNat_eq]; omega)
  · have htl : t = l.length := by omega
    subst htl
    rw [if_neg (by rw [lt_iff]; omega), k2]
    by_cases h0 : left = 0
    · rw [eqi_iff.2 h0, met_zero hI h0]
    · rw [List.take_length] at hI
      rw [met_left hI h0, show eqi left 0 = false from decide_eq_false h0]
end Go.Proofs.Lx

end

section
/- The ledger, as plain Lean: right, found by number. -/
namespace Go.Proofs.Lx
open Go Ev Sx Pl
set_option maxRecDepth 100000
abbrev TJob := Int × Int × List Int × Int
def rightJ : Int → List TJob → Bool
  | _, [] => true
  | b, j :: r => decide (b < j.1 ∧ j.2.1 ≠ 0 ∧ j.2.2.1.length ≤ 8192 ∧ 1 ≤ j.2.2.2 ∧ j.2.2.2 ≤ 5) && rightJ j.1 r
theorem rightJ_cons (b : Int) (j : TJob) (r : List TJob) : rightJ b (j :: r) = (decide (b < j.1 ∧ j.2.1 ≠ 0 ∧ j.2.2.1.length ≤ 8192 ∧ 1 ≤ j.2.2.2 ∧ j.2.2.2 ≤ 5) && rightJ j.1 r) := rfl
theorem rightJ_go : ∀ (r : List TJob) (b : Int), goL (R := Bool × Unit) (fun (b : Int) (j : TJob) k => if b < j.1 ∧ j.2.1 ≠ 0 ∧ j.2.2.1.length ≤ 8192 ∧ 1 ≤ j.2.2.2 ∧ j.2.2.2 ≤ 5 then k j.1 else some (false, ())) (fun _ => some (true, ())) r b = some (rightJ b r, ())
  | [], _ => rfl
  | j :: r, b => by
    show (if _ then goL _ _ r j.1 else _) = _
    rw [rightJ_go r j.1, rightJ_cons]
    split
    · rename_i h
      rw [decide_eq_true h, Bool.true_and]
    · rename_i h
      rw [decide_eq_false h, Bool.false_and]
theorem lright_eq {l : List TJob} (hl : l.length ≤ 1000000) : ledger_Right (l, ()) = some (rightJ 0 l, ()) := by
  show ledger_Right_K1 0 l (Int.ofNat l.length) 0 = _
  rw [← rightJ_go]
  unfold ledger_Right_K1
  refine loop_go (xs := l) (mk := fun i b => (b, l, Int.ofNat l.length, (i : Int))) ?_ ?_ l.length 0 0 _ (by omega) (by omega)
  · intro self i b j hj
    have hi := (List.getElem?_eq_some_iff.1 hj).1
    show ledger_Right_m1 _ _ b l (Int.ofNat l.length) (i : Int) = _
    unfold ledger_Right_m1
    rw [if_pos (by rw [lt_iff, ofNat_eq]; omega), at_get hj, Option.bind_some]
    have K3 : ∀ t, ledger_Right_K3 (fun last t6 t7 t8 => self (last, t6, t7, t8)) l (Int.ofNat l.length) (i : Int) t j = if t = true then some (false, ()) else self (j.1, l, Int.ofNat l.length, ((i + 1 : Nat) : Int)) := fun t => by
      unfold ledger_Right_K3 ledger_Right_m3
      rw [succ64 (by omega)]
    have K2 : ∀ t, ledger_Right_K2 (fun last t6 t7 t8 => self (last, t6, t7, t8)) l (Int.ofNat l.length) (i : Int) t j = if t = true then some (false, ()) else if 1 ≤ j.2.2.2 ∧ j.2.2.2 ≤ 5 then self (j.1, l, Int.ofNat l.length, ((i + 1 : Nat) : Int)) else some (false, ()) := fun t => by
      unfold ledger_Right_K2 ledger_Right_m2
      rw [K3, K3]
      simp only [lt_dec, gt_dec, decide_eq_true_eq]
      grind
    rw [K2, K2]
    simp only [le_dec, eqi_iff, gt_dec, decide_eq_true_eq, ofNat_eq]
    grind
  · intro self b
    show ledger_Right_m1 _ _ b l (Int.ofNat l.length) (l.length : Int) = _
    unfold ledger_Right_m1
    rw [if_neg (by rw [lt_iff, ofNat_eq]; omega)]
end Go.Proofs.Lx

end

section
/- What is told of jobs, and what registers show, as plain Lean. -/
namespace Go.Proofs.Lx
open Go Ev Sx Pl
set_option maxRecDepth 100000
/-! ### among some -/
def idxI (v : Int) : Nat → List Int → Int
  | _, [] => -1
  | i, x :: r => if v = x then (i : Int) else idxI v (i + 1) r
theorem idxI_cons (v x : Int) (i : Nat) (r : List Int) : idxI v i (x :: r) = if v = x then (i : Int) else idxI v (i + 1) r := rfl
theorem idxI_ge (v : Int) : ∀ (r : List Int) (i : Nat), 0 ≤ idxI v i r ↔ v ∈ r
  | [], _ => by simp [idxI]
  | x :: r, i => by
    unfold idxI
    rw [List.mem_cons]
    by_cases h : v = x
    · rw [if_pos h]; simp [h]
    · rw [if_neg h, idxI_ge v r]; simp [h]
theorem index_eq {s : List Int} (hl : s.length ≤ 1000000) (v : Int) : slices_Index_Guint32 (s, v, ()) = some (idxI v 0 s, ()) := by
  have key : ∀ (r : List Int) (i : Nat), goI (R := Int × Unit) (fun i (_ : Unit) (x : Int) k => if v = x then some ((i : Int), ()) else k ()) (fun _ => some (-1, ())) i r () = some (idxI v i r, ()) := by
    intro r
    induction r with
    | nil => intro i; rfl
    | cons x r ih =>
      intro i
      show (if v = x then _ else goI _ _ (i + 1) r ()) = _
      rw [ih, idxI_cons]
      split <;> rfl
  show slices_Index_Guint32_K1 s v (Int.ofNat s.length) ((0 : Nat) : Int) = _
  rw [← key]
  unfold slices_Index_Guint32_K1
  refine loop_goi (xs := s) (mk := fun i _ => (s, v, Int.ofNat s.length, (i : Int))) ?_ ?_ s.length 0 () _ (by omega) (by omega)
  · intro self i _ x hx
    have hi := (List.getElem?_eq_some_iff.1 hx).1
    show slices_Index_Guint32_m1 _ s v (Int.ofNat s.length) (i : Int) = _
    unfold slices_Index_Guint32_m1
    rw [if_pos (by rw [lt_iff, ofNat_eq]; omega), at_get hx, Option.bind_some, succ64 (by omega)]
    simp only [eqi_iff]
  · intro self _
    show slices_Index_Guint32_m1 _ s v (Int.ofNat s.length) (s.length : Int) = _
    unfold slices_Index_Guint32_m1
    rw [if_neg (by rw [lt_iff, ofNat_eq]; omega)]
theorem contains_eq {s : List Int} (hl : s.length ≤ 1000000) (v : Int) : slices_Contains_Guint32 (s, v, ()) = some (decide (v ∈ s), ()) := by
  show slices_Contains_Guint32_m0 s v = _
  unfold slices_Contains_Guint32_m0
  rw [index_eq hl, Option.bind_some]
  have : ge (idxI v 0 s) 0 = decide (v ∈ s) := by
    rw [Bool.eq_iff_iff, ge_iff, decide_eq_true_eq]
    exact idxI_ge v s 0
  rw [this]
/-! ### told -/
/-- how a job is shown to stand -/
def stW (waits : List Int) (j : TJob) : Int := if j.2.2.2 = 1 ∧ j.1 ∈ waits then 6 else j.2.2.2
/-! ### shown -/
def shownS (l : List TJob) : List TJob := l.drop (l.length - 12)
def lineS (waits : List Int) (j : TJob) : List Int := [j.1 / 65536, j.1 % 65536, stW waits j, j.2.1]
def h0 (l : List TJob) (n : Int) : List Int := [n, (shownS l).length]
def memH (l : List TJob) (waits : List Int) : List Int := (if 65535 < l.length then 65535 else (l.length : Int)) :: ((shownS l).length : Int) :: ((shownS l).flatMap (lineS waits) ++ List.replicate (4 * (12 - (shownS l).length)) 0)
theorem shown_len (l : List TJob) : (shownS l).length ≤ 12 ∧ (shownS l).length ≤ l.length ∧ (l.length ≤ 12 → (shownS l).length = l.length) ∧ (12 ≤ l.length → (shownS l).length = 12) := by
  unfold shownS
  rw [List.length_drop]
  omega
theorem flat4 {α β : Type} {f : α → List β} (hf : ∀ x, (f x).length = 4) : ∀ l : List α, (l.flatMap f).length = 4 * l.length
  | [] => rfl
  | x :: l => by rw [List.flatMap_cons, List.length_append, hf, flat4 hf l, List.length_cons]; omega
theorem line4 (waits : List Int) (j : TJob) : (lineS waits j).length = 4 := rfl
theorem memH_len (l : List TJob) (waits : List Int) : (memH l waits).length = 50 := by
  have := shown_len l
  unfold memH
  rw [List.length_cons, List.length_cons, List.length_append, flat4 (line4 waits), List.length_replicate]
  omega
theorem parts_eq {x : Int} (h1 : 0 ≤ x) (h2 : x < 4294967296) : words_Parts (x, ()) = some (x / 65536, x % 65536, ()) := by
  show words_Parts_m0 x = _
  unfold words_Parts_m0
  have : Sx.shr .u32 x 16 = x / 65536 := by
    unfold Sx.shr
    have : min (16 : Int).toNat IntKind.u32.bits = 16 := rfl
    rw [this, Int.fdiv_eq_ediv_of_nonneg _ (by decide)]
    rfl
  rw [this, cvt16, cvt16, Int.emod_eq_of_lt (by omega) (by omega)]
def OkJ (j : TJob) : Prop := 0 ≤ j.1 ∧ j.1 < 4294967296 ∧ 0 ≤ j.2.1 ∧ j.2.1 < 256 ∧ 0 ≤ j.2.2.2 ∧ j.2.2.2 < 256
/-- what a memory is, so far -/
def memP (a b : Int) (waits : List Int) (s : List TJob) (i : Nat) : List Int := (a :: b :: (s.take i).flatMap (lineS waits)) ++ List.replicate (4 * (12 - i)) 0
theorem four_set {P Q : List Int} (p q r s z0 z1 z2 z3 : Int) {n : Nat} (hn : P.length = n) :
    at? (P ++ z0 :: z1 :: z2 :: z3 :: Q) (n : Int) = some z0 ∧
    at? (List.set (P ++ z0 :: z1 :: z2 :: z3 :: Q) n p) ((n + 1 : Nat) : Int) = some z1 ∧
    at? (List.set (List.set (P ++ z0 :: z1 :: z2 :: z3 :: Q) n p) (n + 1) q) ((n + 2 : Nat) : Int) = some z2 ∧
    at? (List.set (List.set (List.set (P ++ z0 :: z1 :: z2 :: z3 :: Q) n p) (n + 1) q) (n + 2) r) ((n + 3 : Nat) : Int) = some z3 ∧
    List.set (List.set (List.set (List.set (P ++ z0 :: z1 :: z2 :: z3 :: Q) n p) (n + 1) q) (n + 2) r) (n + 3) s = P ++ p :: q :: r :: s :: Q := by
  subst hn
  have e1 : List.set (P ++ z0 :: z1 :: z2 :: z3 :: Q) P.length p = P ++ p :: z1 :: z2 :: z3 :: Q := set_at _ _ _ _
  have e2 : List.set (P ++ p :: z1 :: z2 :: z3 :: Q) (P.length + 1) q = P ++ p :: q :: z2 :: z3 :: Q := by
    rw [List.set_append_right _ _ (by omega)]; congr 1; rw [show P.length + 1 - P.length = 1 by omega]; rfl
  have e3 : List.set (P ++ p :: q :: z2 :: z3 :: Q) (P.length + 2) r = P ++ p :: q :: r :: z3 :: Q := by
    rw [List.set_append_right _ _ (by omega)]; congr 1; rw [show P.length + 2 - P.length = 2 by omega]; rfl
  have e4 : List.set (P ++ p :: q :: r :: z3 :: Q) (P.length + 3) s = P ++ p :: q :: r :: s :: Q := by
    rw [List.set_append_right _ _ (by omega)]; congr 1; rw [show P.length + 3 - P.length = 3 by omega]; rfl
  have g : ∀ (k : Nat) (L : List Int) (z : Int), L[k]? = some z → at? (P ++ L) ((P.length + k : Nat) : Int) = some z := fun k L z h => at_get (by rw [List.getElem?_append_right (by omega), show P.length + k - P.length = k by omega]; exact h)
  rw [e1, e2, e3, e4]
  exact ⟨g 0 _ _ rfl, g 1 _ _ rfl, g 2 _ _ rfl, g 3 _ _ rfl, rfl⟩
theorem vmem_eq {l : List TJob} (hl : l.length ≤ 1000000) {waits : List Int} (hw : waits.length ≤ 1000000) (ho : ∀ j ∈ l, OkJ j) : view_Mem (l, waits, ()) = some (([], [], memH l waits, []), ()) := by
  obtain ⟨n1, n2, n3, n4⟩ := shown_len l
  have hlast : view_last_Gapi_Job (l, 12, ()) = some (shownS l, ()) := by
    show view_last_Gapi_Job_m0 l 12 = _
    unfold view_last_Gapi_Job_m0
    have e : (if gt 0 (sub .i64 (Int.ofNat l.length) 12) = true then 0 else sub .i64 (Int.ofNat l.length) 12) = ((l.length - 12 : Nat) : Int) := by
      rw [ofNat_eq, sub64 (by omega) (by omega)]
      by_cases h : l.length < 12
      · rw [if_pos (by rw [gt_iff]; omega)]; omega
      · rw [if_neg (by rw [gt_iff]; omega)]; omega
    rw [e, cut_from (by omega)]
    rfl
  show view_Mem_m0 view_Mem_K1 l waits = _
  unfold view_Mem_m0
  rw [hlast, Option.bind_some]
  dsimp only
  have ea : cvt .u16 (if lt 65535 (Int.ofNat l.length) = true then 65535 else Int.ofNat l.length) = (if 65535 < l.length then 65535 else (l.length : Int)) := by
    rw [ofNat_eq, cvt16]
    by_cases h : 65535 < l.length
    · rw [if_pos (by rw [lt_iff]; omega), if_pos h]; rfl
    · rw [if_neg (by rw [lt_iff]; omega), if_neg h]; omega
  have eb : cvt .u16 (Int.ofNat (shownS l).length) = ((shownS l).length : Int) := by
    rw [ofNat_eq, cvt16]; omega
  rw [ea, eb]
  unfold memH
  generalize (if 65535 < l.length then 65535 else (l.length : Int)) = a
  show view_Mem_K1 waits (shownS l) (Int.ofNat (shownS l).length) ((0 : Nat) : Int) (memP a (shownS l).length waits (shownS l) 0) = _
  have fin : some ((([] : List Bool), ([] : List Bool), a :: ((shownS l).length : Int) :: ((shownS l).flatMap (lineS waits) ++ List.replicate (4 * (12 - (shownS l).length)) 0), ([] : List Int)), ()) = view_Mem_K3 (memP a (shownS l).length waits (shownS l) (shownS l).length) := by
    unfold memP view_Mem_K3 view_Mem_m3
    rw [List.take_length]
    rfl
  rw [fin]
  unfold view_Mem_K1
  have hsub : ∀ j ∈ shownS l, OkJ j := fun j hj => ho j (List.mem_of_mem_drop hj)
  generalize hS : shownS l = S at *
  refine loop_dt (N := S.length) (mk := fun i => (waits, S, Int.ofNat S.length, (i : Int), memP a (S.length : Int) waits S i)) ?_ ?_ S.length 0 _ (by omega) (by omega)
  · intro self i hi
    have hj := List.getElem?_eq_getElem hi
    have hok := hsub _ (List.getElem_mem hi)
    generalize hjj : S[i] = j at hj hok
    show view_Mem_m1 _ _ _ waits S (Int.ofNat S.length) (i : Int) (memP a (S.length : Int) waits S i) = _
    unfold view_Mem_m1
    rw [if_pos (by rw [lt_iff, ofNat_eq]; omega), at_get hj, Option.bind_some, parts_eq hok.1 hok.2.1, Option.bind_some]
    dsimp only
    have hP : (a :: (S.length : Int) :: (S.take i).flatMap (lineS waits)).length = 2 + 4 * i := by
      rw [List.length_cons, List.length_cons, flat4 (line4 waits), List.length_take]; omega
    have hR : List.replicate (4 * (12 - i)) (0 : Int) = 0 :: 0 :: 0 :: 0 :: List.replicate (4 * (12 - (i + 1))) 0 := by
      rw [show 4 * (12 - i) = 4 * (12 - (i + 1)) + 4 by omega]
      rfl
    have hm : memP a (S.length : Int) waits S i = (a :: (S.length : Int) :: (S.take i).flatMap (lineS waits)) ++ 0 :: 0 :: 0 :: 0 :: List.replicate (4 * (12 - (i + 1))) 0 := by
      unfold memP
      rw [hR]
    obtain ⟨g0, g1, g2, g3, g4⟩ := four_set (P := a :: (S.length : Int) :: (S.take i).flatMap (lineS waits)) (Q := List.replicate (4 * (12 - (i + 1))) 0) (j.1 / 65536) (j.1 % 65536) (stW waits j) j.2.1 0 0 0 0 hP
    rw [← hm] at g0 g1 g2 g3 g4
    have e0 : add .i64 2 (mul .i64 4 (i : Int)) = ((2 + 4 * i : Nat) : Int) := by
      rw [mul64 (by omega) (by omega), add64 (by omega) (by omega)]; omega
    have e1 : add .i64 ((2 + 4 * i : Nat) : Int) 1 = ((2 + 4 * i + 1 : Nat) : Int) := succ64 (by omega)
    have e2 : add .i64 ((2 + 4 * i : Nat) : Int) 2 = ((2 + 4 * i + 2 : Nat) : Int) := by rw [add64 (by omega) (by omega)]; omega
    have e3 : add .i64 ((2 + 4 * i : Nat) : Int) 3 = ((2 + 4 * i + 3 : Nat) : Int) := by rw [add64 (by omega) (by omega)]; omega
    rw [e0, e1]
    simp only [Int.toNat_natCast]
    rw [g0, Option.bind_some, Option.bind_some, g1, Option.bind_some, Option.bind_some]
    have K4 : ∀ st, st = stW waits j → view_Mem_K4 (fun waits t25 t26 t27 h => self (waits, t25, t26, t27, h)) waits ((2 + 4 * i : Nat) : Int) st S (Int.ofNat S.length) (i : Int) (List.set (List.set (memP a (S.length : Int) waits S i) (2 + 4 * i) (j.1 / 65536)) (2 + 4 * i + 1) (j.1 % 65536)) j = self (waits, S, Int.ofNat S.length, ((i + 1 : Nat) : Int), memP a (S.length : Int) waits S (i + 1)) := by
      intro st hst
      unfold view_Mem_K4 view_Mem_m4
      have hc : cvt .u16 st = stW waits j := by
        rw [hst, cvt16]
        unfold stW
        have := hok.2.2.2.2
        split <;> omega
      have hd : cvt .u16 j.2.1 = j.2.1 := by
        have := hok.2.2
        rw [cvt16]; omega
      rw [e2, e3]
      simp only [Int.toNat_natCast]
      rw [g2, Option.bind_some, Option.bind_some, hc, g3, Option.bind_some, Option.bind_some, hd, g4, succ64 (by omega)]
      congr 1
      unfold memP
      rw [List.take_succ_eq_append_getElem hi, hjj, List.flatMap_append]
      simp [lineS]
    have K2 : ∀ t, (t = true → stW waits j = 6) → (t = false → stW waits j = j.2.2.2) → view_Mem_K2 (fun waits t25 t26 t27 h => self (waits, t25, t26, t27, h)) waits ((2 + 4 * i : Nat) : Int) j.2.2.2 S (Int.ofNat S.length) (i : Int) t (List.set (List.set (memP a (S.length : Int) waits S i) (2 + 4 * i) (j.1 / 65536)) (2 + 4 * i + 1) (j.1 % 65536)) j = self (waits, S, Int.ofNat S.length, ((i + 1 : Nat) : Int), memP a (S.length : Int) waits S (i + 1)) := by
      intro t ht hf
      unfold view_Mem_K2 view_Mem_m2
      cases t with
      | true => rw [if_pos rfl]; exact K4 _ (ht rfl).symm
      | false => rw [if_neg (by decide)]; exact K4 _ (hf rfl).symm
    by_cases h : j.2.2.2 = 1
    · rw [if_pos (eqi_iff.2 h), contains_eq hw, Option.bind_some]
      refine K2 _ (fun ht => ?_) (fun ht => ?_)
      · unfold stW
        rw [if_pos ⟨h, of_decide_eq_true ht⟩]
      · unfold stW
        rw [if_neg (fun e => of_decide_eq_false ht e.2)]
    · rw [if_neg (fun e => h (eqi_iff.1 e))]
      refine K2 false (fun ht => by cases ht) (fun _ => ?_)
      unfold stW
      rw [if_neg (fun e => h e.1)]
  · intro self
    show view_Mem_m1 _ _ _ waits S (Int.ofNat S.length) (S.length : Int) _ = _
    unfold view_Mem_m1
    rw [if_neg (by rw [lt_iff, ofNat_eq]; omega)]
end Go.Proofs.Lx

end

section
/- What registers say, read: as plain Lean. -/
namespace Go.Proofs.Lx
open Go Ev Sx Pl
set_option maxRecDepth 100000
abbrev TMem := List Bool × List Bool × List Int × List Int
theorem memH_rng {l : List TJob} {waits : List Int} (ho : ∀ j ∈ l, OkJ j) : ∀ x ∈ memH l waits, 0 ≤ x ∧ x < 65536 := by
  have hn := shown_len l
  intro x hx
  unfold memH at hx
  rcases List.mem_cons.1 hx with rfl | hx
  · split <;> omega
  · rcases List.mem_cons.1 hx with rfl | hx
    · omega
    · rcases List.mem_append.1 hx with hx | hx
      · obtain ⟨j, hj, hx⟩ := List.mem_flatMap.1 hx
        have hok := ho j (List.mem_of_mem_drop hj)
        obtain ⟨o1, o2, o3, o4, o5, o6⟩ := hok
        have hst : 0 ≤ stW waits j ∧ stW waits j < 256 := by unfold stW; split <;> omega
        simp [lineS] at hx
        rcases hx with rfl | rfl | rfl | rfl <;> omega
      · have := List.eq_of_mem_replicate hx
        omega
end Go.Proofs.Lx

end

section
/- ViewAgrees, as a plain law. -/
namespace Go.Proofs.Lx
open Go Ev Sx Pl
set_option maxRecDepth 100000
theorem awake29 : law29_awake () = some (true, ()) := by kernel_rfl
theorem okw8 {x : Int} (h : (Lit.int .u8 x).wf = true) : 0 ≤ x ∧ x < 256 := by
  simp [Lit.wf] at h
  have e1 : IntKind.u8.min = 0 := rfl
  have e2 : IntKind.u8.max = 255 := rfl
  omega
theorem okw16 {x : Int} (h : (Lit.int .u16 x).wf = true) : 0 ≤ x ∧ x < 65536 := by
  simp [Lit.wf] at h
  have e1 : IntKind.u16.min = 0 := rfl
  have e2 : IntKind.u16.max = 65535 := rfl
  omega
theorem okw32 {x : Int} (h : (Lit.int .u32 x).wf = true) : 0 ≤ x ∧ x < 4294967296 := by
  simp [Lit.wf] at h
  have e1 : IntKind.u32.min = 0 := rfl
  have e2 : IntKind.u32.max = 4294967295 := rfl
  omega
theorem okJ_of {j : TJob} (h : Rw.okV (.pr (.int .u32) (.pr (.int .u8) (.pr (.sl (.int .u8)) (.int .u8)))) j) : OkJ j := by
  have h1 := okw32 h.1
  have h2 := okw8 h.2.1
  have h3 := okw8 h.2.2.2
  exact ⟨h1.1, h1.2, h2.1, h2.2, h3.1, h3.2⟩
abbrev tJob : Ty := .pr (.int .u32) (.pr (.int .u8) (.pr (.sl (.int .u8)) (.int .u8)))
end Go.Proofs.Lx

end

section
/- What the model replies over one area of registers that are read. -/
namespace Go.Proofs.Lx
open Go Ev Sx Pl
set_option maxRecDepth 100000
abbrev TSpace := List TArea × List TArea × List TArea × List TArea
def A0 : TArea := (0, 50, true, false, false)
def S0 : TSpace := ([], [], [A0], [])
theorem space_eq : view_Space () = some (S0, ()) := rfl
theorem uses_eq (f : Int) : model_uses (f, ()) = some ((if f = 1 then (1, 0) else if f = 2 then (2, 0) else if f = 3 then (3, 0) else if f = 4 then (4, 0) else if f = 5 then (0, 1) else if f = 6 then (0, 3) else if f = 15 then (0, 1) else if f = 16 then (0, 3) else if f = 23 then (3, 3) else (0, 0)), ()) := by
  show model_uses_m0 f = _
  unfold model_uses_m0
  simp only [eqi_iff, gdV]
  have e : ∀ k : Int, (k = f) = (f = k) := fun k => propext ⟨fun h => h.symm, fun h => h.symm⟩
  simp only [e]
  repeat' split
  all_goals rfl
/-! ### tables -/
def rdW (x : TArea) : Bool := x.2.2.1
def wrW (p m : Int) (x : TArea) : Bool := x.2.2.2.1 && (!x.2.2.2.2 || (decide (x.1 = p) && decide (x.2.1 = m)))
theorem zwb (p m : Int) (x : TArea) : model_table_bool_writable_z1 (x, p, m, ()) = some (wrW p m x, p, m, ()) := by
  obtain ⟨a, b, c, d, e⟩ := x
  show model_table_bool_writable_z1_m0 (a, b, c, d, e) p m = _
  unfold model_table_bool_writable_z1_m0 wrW
  dsimp only
  cases d <;> cases e <;> try rfl
  rw [if_pos rfl, if_neg (by decide)]
  by_cases h : a = p
  · rw [if_pos (eqi_iff.2 h), decide_eq_true h]; rfl
  · rw [if_neg (fun e => h (eqi_iff.1 e)), decide_eq_false h]; rfl
theorem zwu (p m : Int) (x : TArea) : model_table_uint16_writable_z1 (x, p, m, ()) = some (wrW p m x, p, m, ()) := by
  obtain ⟨a, b, c, d, e⟩ := x
  show model_table_uint16_writable_z1_m0 (a, b, c, d, e) p m = _
  unfold model_table_uint16_writable_z1_m0 wrW
  dsimp only
  cases d <;> cases e <;> try rfl
  rw [if_pos rfl, if_neg (by decide)]
  by_cases h : a = p
  · rw [if_pos (eqi_iff.2 h), decide_eq_true h]; rfl
  · rw [if_neg (fun e => h (eqi_iff.1 e)), decide_eq_false h]; rfl
section
variable {l : List TArea} {p : Int} {m : Nat} (hp : 0 ≤ p) (hpm : p ≤ 1000000) (hm : m ≤ 1000000) (hl : l.length ≤ 1000000) (ho : ∀ x ∈ l, OkAr x)
include hp hpm hm hl ho
theorem tab_br (c : List Bool) : model_table_bool_readable ((l, c), p, (m : Int), ()) = some (eachS rdW l p m, ()) := by
  show Option.bind (model_each_br (l, p, (m : Int), ())) _ = _
  rw [each_br_eq hp hm hpm hl ho (w := rdW) (fun _ => rfl)]
  rfl
theorem tab_ur (c : List Int) : model_table_uint16_readable ((l, c), p, (m : Int), ()) = some (eachS rdW l p m, ()) := by
  show Option.bind (model_each_ur (l, p, (m : Int), ())) _ = _
  rw [each_ur_eq hp hm hpm hl ho (w := rdW) (fun _ => rfl)]
  rfl
theorem tab_bw (c : List Bool) : model_table_bool_writable ((l, c), p, (m : Int), ()) = some (eachS (wrW p m) l p m, ()) := by
  show Option.bind (model_each_bw (l, p, (m : Int), p, (m : Int), ())) _ = _
  rw [each_bw_eq hp hm hpm hl ho (w := wrW p m) (zwb p m)]
  rfl
theorem tab_uw (c : List Int) : model_table_uint16_writable ((l, c), p, (m : Int), ()) = some (eachS (wrW p m) l p m, ()) := by
  show Option.bind (model_each_uw (l, p, (m : Int), p, (m : Int), ())) _ = _
  rw [each_uw_eq hp hm hpm hl ho (w := wrW p m) (zwu p m)]
  rfl
end
theorem each_nil (w : TArea → Bool) {p : Int} {m : Nat} (h : 1 ≤ m) : eachS w [] p m = false :=
  met_false (k := 0) (by omega) rfl
theorem each_A0r {p : Int} {m : Nat} (hp : 0 ≤ p) (h : 1 ≤ m) : eachS rdW [A0] p m = decide (p + m ≤ 50) := by
  have hw : ∀ i : Int, 0 ≤ i → wantF rdW [A0] i = decide (i < 50) := fun i hi => by
    unfold wantF firstS
    rw [List.find?_cons, List.find?_nil]
    have : covS A0 i = decide (i < 50) := by
      unfold covS
      rw [decide_eq_decide]
      show 1 ≤ (50 : Int) ∧ 0 ≤ i ∧ i < 0 + 50 ↔ _
      omega
    rw [this]
    by_cases h : i < 50
    · rw [decide_eq_true h]; rfl
    · rw [decide_eq_false h]
  unfold eachS
  rw [Bool.eq_iff_iff, List.all_eq_true, decide_eq_true_eq]
  constructor
  · intro hall
    have := hall (m - 1) (List.mem_range.2 (by omega))
    rw [hw _ (by omega), decide_eq_true_eq] at this
    omega
  · intro hle k hk
    rw [List.mem_range] at hk
    rw [hw _ (by omega), decide_eq_true_eq]
    omega
theorem each_A0w {p : Int} {m : Nat} (q n : Int) (h : 1 ≤ m) : eachS (wrW q n) [A0] p m = false := by
  refine met_false (k := 0) (by omega) ?_
  unfold wantF firstS
  rw [List.find?_cons, List.find?_nil]
  cases covS A0 (p + ((0 : Nat) : Int)) <;> rfl
theorem okA0 : ∀ x ∈ [A0], OkAr x := fun x hx => by
  rw [List.mem_singleton] at hx
  subst hx
  exact ⟨by decide, by decide, by decide, by decide⟩
theorem okNil : ∀ x ∈ ([] : List TArea), OkAr x := fun x hx => by cases hx
/-! ### what is wrong with a request -/
def exS (a : TA) : Int := if a.1 = 3 ∧ a.2.1 + a.2.2.1 ≤ 50 then 0 else 2
theorem target_eq {a : TA} (h : OkA a) : model_target (a, ()) = some ((if a.1 = 23 then a.2.2.2.1 else a.2.1), ((a.2.2.2.2.2.length + a.2.2.2.2.1.length : Nat) : Int), ()) := by
  have := h.lw
  have := h.lb
  have h0 := h.at0
  have h1 := h.at1
  have h2 := h.t0
  have h3 := h.t1
  show model_target_m0 a = _
  unfold model_target_m0
  rw [ofNat_eq, ofNat_eq, addn64 (by omega), cvt64 (by omega) (by omega), cvt64 (by omega) (by omega)]
  simp only [eqi_iff]
  split <;> rfl
theorem check_eq {a : TA} (h : OkA a) (hr : rightA a = true) : model_Check (S0, a, ()) = some (exS a, ()) := by
  have hra := rightA_RA hr
  have ht := target_eq h
  have p0 := h.at0
  have p1 := h.at1
  have t0 := h.t0
  have t1 := h.t1
  have m0 := h.m0
  have m1 := h.m1
  show model_Check_m0 model_Check_K1 S0 a = _
  unfold model_Check_m0
  have ho : model_open (S0, ([], [], [], []), ()) = some ((([], []), ([], []), ([A0], []), [], []), ()) := rfl
  rw [right_eq h, hr, Option.bind_some, if_neg (by decide), ho, Option.bind_some, uses_eq, Option.bind_some]
  have K1t : ∀ v u, model_Check_K1 true a v u = some (2, ()) := fun v u => rfl
  have K1 : ∀ v u, model_Check_K1 false a v u = Option.bind (model_target (a, ())) fun y => if eqi u.2 1 = true then Option.bind (model_table_bool_writable (v.1, y.1, y.2.1, ())) fun y => model_Check_K2 !y.1 else if eqi u.2 2 = true then Option.bind (model_table_bool_writable (v.2.1, y.1, y.2.1, ())) fun y => model_Check_K2 !y.1 else if eqi u.2 3 = true then Option.bind (model_table_uint16_writable (v.2.2.1, y.1, y.2.1, ())) fun y => model_Check_K2 !y.1 else if eqi u.2 4 = true then Option.bind (model_table_uint16_writable (v.2.2.2, y.1, y.2.1, ())) fun y => model_Check_K2 !y.1 else model_Check_K2 false := fun v u => rfl
  rw [ht] at K1
  simp only [Option.bind_some] at K1
  have K2t : model_Check_K2 (!false) = some (2, ()) := rfl
  have K2f : model_Check_K2 false = some (0, ()) := rfl
  cases hra with
  | bits f p n hf h1 h2 =>
    obtain ⟨n, rfl⟩ := Int.eq_ofNat_of_zero_le (show 0 ≤ n by omega)
    have hb := tab_br (l := []) (p := p) (m := n) p0 (by have : p ≤ 65535 := p1; omega) (by omega) (by decide) okNil []
    have hx : exS (f, p, (n : Int), 0, [], []) = 2 := if_neg (fun e => by have : f = 3 := e.1; omega)
    rw [each_nil _ (by omega)] at hb
    rw [hx]
    have p0 : 0 ≤ p := p0
    have p1 : p ≤ 65535 := p1
    have hc : cvt .i64 p = p := cvt64 (by omega) (by omega)
    have hc2 : cvt .i64 (n : Int) = n := cvt64 (by omega) (by omega)
    rw [← hc, ← hc2] at hb
    rcases hf with rfl | rfl
    · show Option.bind (model_table_bool_readable (([], []), cvt .i64 p, cvt .i64 (n : Int), ())) (fun y => model_Check_K1 (!y.1) (1, p, (n : Int), 0, [], []) (([], []), ([], []), ([A0], []), [], []) (1, 0)) = _
      rw [hb]
      exact K1t _ _
    · show Option.bind (model_table_bool_readable (([], []), cvt .i64 p, cvt .i64 (n : Int), ())) (fun y => model_Check_K1 (!y.1) (2, p, (n : Int), 0, [], []) (([], []), ([], []), ([A0], []), [], []) (2, 0)) = _
      rw [hb]
      exact K1t _ _
  | words f p n hf h1 h2 =>
    obtain ⟨n, rfl⟩ := Int.eq_ofNat_of_zero_le (show 0 ≤ n by omega)
    have p0 : 0 ≤ p := p0
    have p1 : p ≤ 65535 := p1
    have hc : cvt .i64 p = p := cvt64 (by omega) (by omega)
    have hc2 : cvt .i64 (n : Int) = n := cvt64 (by omega) (by omega)
    rcases hf with rfl | rfl
    · have hu := tab_ur (l := [A0]) (p := p) (m := n) p0 (by omega) (by omega) (by decide) okA0 []
      rw [each_A0r p0 (by omega)] at hu
      show Option.bind (model_table_uint16_readable (([A0], []), cvt .i64 p, cvt .i64 (n : Int), ())) (fun y => model_Check_K1 (!y.1) (3, p, (n : Int), 0, [], []) (([], []), ([], []), ([A0], []), [], []) (3, 0)) = _
      rw [hc, hc2, hu, Option.bind_some]
      by_cases hle : p + (n : Int) ≤ 50
      · have hx : exS (3, p, (n : Int), 0, [], []) = 0 := if_pos ⟨rfl, hle⟩
        rw [decide_eq_true hle, hx]
        exact (K1 _ _).trans rfl
      · have hx : exS (3, p, (n : Int), 0, [], []) = 2 := if_neg (fun e => hle e.2)
        rw [decide_eq_false hle, hx]
        exact K1t _ _
    · have hu := tab_ur (l := []) (p := p) (m := n) p0 (by omega) (by omega) (by decide) okNil []
      rw [each_nil _ (by omega)] at hu
      have hx : exS (4, p, (n : Int), 0, [], []) = 2 := if_neg (fun e => by have : (4 : Int) = 3 := e.1; omega)
      show Option.bind (model_table_uint16_readable (([], []), cvt .i64 p, cvt .i64 (n : Int), ())) (fun y => model_Check_K1 (!y.1) (4, p, (n : Int), 0, [], []) (([], []), ([], []), ([A0], []), [], []) (4, 0)) = _
      rw [hc, hc2, hu, hx]
      exact K1t _ _
  | coil p b =>
    have hw := tab_bw (l := []) (p := p) (m := 1) p0 (by have : p ≤ 65535 := p1; omega) (by omega) (by decide) okNil []
    rw [each_nil _ (by omega)] at hw
    have hx : exS (5, p, 0, 0, [], [b]) = 2 := if_neg (fun e => by have : (5 : Int) = 3 := e.1; omega)
    rw [hx]
    show model_Check_K1 false (5, p, 0, 0, [], [b]) (([], []), ([], []), ([A0], []), [], []) (0, 1) = _
    rw [K1, if_pos (by decide)]
    refine (congrArg (fun z => Option.bind z _) hw).trans ?_
    rfl
  | word p x =>
    have hw := tab_uw (l := [A0]) (p := p) (m := 1) p0 (by have : p ≤ 65535 := p1; omega) (by omega) (by decide) okA0 []
    rw [each_A0w _ _ (by omega)] at hw
    have hx : exS (6, p, 0, 0, [x], []) = 2 := if_neg (fun e => by have : (6 : Int) = 3 := e.1; omega)
    rw [hx]
    show model_Check_K1 false (6, p, 0, 0, [x], []) (([], []), ([], []), ([A0], []), [], []) (0, 3) = _
    rw [K1, if_neg (by decide), if_neg (by decide), if_pos (by decide)]
    refine (congrArg (fun z => Option.bind z _) hw).trans ?_
    rfl
  | coils p l h1 h2 =>
    have hw := tab_bw (l := []) (p := p) (m := l.length) p0 (by have : p ≤ 65535 := p1; omega) (by omega) (by decide) okNil []
    rw [each_nil _ (by omega)] at hw
    have hx : exS (15, p, (l.length : Int), 0, [], l) = 2 := if_neg (fun e => by have : (15 : Int) = 3 := e.1; omega)
    rw [hx]
    show model_Check_K1 false (15, p, (l.length : Int), 0, [], l) (([], []), ([], []), ([A0], []), [], []) (0, 1) = _
    rw [K1, if_pos (by decide)]
    refine (congrArg (fun z => Option.bind z _) hw).trans ?_
    rfl
  | regs p l h1 h2 =>
    have hw := tab_uw (l := [A0]) (p := p) (m := l.length) p0 (by have : p ≤ 65535 := p1; omega) (by omega) (by decide) okA0 []
    rw [each_A0w _ _ (by omega)] at hw
    have hx : exS (16, p, (l.length : Int), 0, l, []) = 2 := if_neg (fun e => by have : (16 : Int) = 3 := e.1; omega)
    rw [hx]
    show model_Check_K1 false (16, p, (l.length : Int), 0, l, []) (([], []), ([], []), ([A0], []), [], []) (0, 3) = _
    rw [K1, if_neg (by decide), if_neg (by decide), if_pos (by decide)]
    dsimp only
    rw [if_neg (by decide), show (([] : List Bool).length + l.length) = l.length from Nat.zero_add _]
    refine (congrArg (fun z => Option.bind z _) hw).trans ?_
    rfl
  | swap p n t l h1 h2 h3 h4 =>
    obtain ⟨n, rfl⟩ := Int.eq_ofNat_of_zero_le (show 0 ≤ n by omega)
    have p0 : 0 ≤ p := p0
    have p1 : p ≤ 65535 := p1
    have hu := tab_ur (l := [A0]) (p := p) (m := n) p0 (by omega) (by omega) (by decide) okA0 []
    have hw := tab_uw (l := [A0]) (p := t) (m := l.length) t0 (by have : t ≤ 65535 := t1; omega) (by omega) (by decide) okA0 []
    rw [each_A0w _ _ (by omega)] at hw
    have hx : exS (23, p, (n : Int), t, l, []) = 2 := if_neg (fun e => by have : (23 : Int) = 3 := e.1; omega)
    rw [hx]
    have hc : cvt .i64 p = p := cvt64 (by omega) (by omega)
    have hc2 : cvt .i64 (n : Int) = n := cvt64 (by omega) (by omega)
    show Option.bind (model_table_uint16_readable (([A0], []), cvt .i64 p, cvt .i64 (n : Int), ())) (fun y => model_Check_K1 (!y.1) (23, p, (n : Int), t, l, []) (([], []), ([], []), ([A0], []), [], []) (3, 3)) = _
    rw [hc, hc2, hu, Option.bind_some]
    cases eachS rdW [A0] p n with
    | false => exact K1t _ _
    | true =>
      show model_Check_K1 false (23, p, (n : Int), t, l, []) (([], []), ([], []), ([A0], []), [], []) (3, 3) = _
      rw [K1, if_neg (by decide), if_neg (by decide), if_pos (by decide)]
      dsimp only
      rw [if_pos rfl, show (([] : List Bool).length + l.length) = l.length from Nat.zero_add _]
      refine (congrArg (fun z => Option.bind z _) hw).trans ?_
      rfl
end Go.Proofs.Lx

end

section
/- ViewReads, as a plain law. -/
namespace Go.Proofs.Lx
open Go Ev Sx Pl
set_option maxRecDepth 100000
def model_table_bool_right_K1_F  := (fun (self : (Bool) × (Int) × (List LAT2) × (Int) × (Int) × (List LAT2 × List Bool) → Option (As [.bool])) (s : (Bool) × (Int) × (List LAT2) × (Int) × (Int) × (List LAT2 × List Bool)) => model_table_bool_right_m1 (model_table_bool_right_K2 (fun fixed endV t13 t14 t15 t => self (fixed, endV, t13, t14, t15, t))) (fun fixed endV t13 t14 t15 t => self (fixed, endV, t13, t14, t15, t)) s.1 s.2.1 s.2.2.1 s.2.2.2.1 s.2.2.2.2.1 s.2.2.2.2.2)
theorem model_table_bool_right_K1_Fe  (self : (Bool) × (Int) × (List LAT2) × (Int) × (Int) × (List LAT2 × List Bool) → Option (As [.bool])) (fixed : Bool) (endV : Int) (t13 : List LAT2) (t14 : Int) (t15 : Int) (t : List LAT2 × List Bool) : model_table_bool_right_K1_F self (fixed, endV, t13, t14, t15, t) = model_table_bool_right_m1 (model_table_bool_right_K2 (fun fixed endV t13 t14 t15 t => self (fixed, endV, t13, t14, t15, t))) (fun fixed endV t13 t14 t15 t => self (fixed, endV, t13, t14, t15, t)) fixed endV t13 t14 t15 t := rfl
theorem model_table_bool_right_K1_Ke  (fixed : Bool) (endV : Int) (t13 : List LAT2) (t14 : Int) (t15 : Int) (t : List LAT2 × List Bool) : model_table_bool_right_K1 fixed endV t13 t14 t15 t = loopF (model_table_bool_right_K1_F) 18446744073709551616 (fixed, endV, t13, t14, t15, t) := rfl
def model_table_uint16_right_K1_F  := (fun (self : (Bool) × (Int) × (List LAT2) × (Int) × (Int) × (List LAT2 × List Int) → Option (As [.bool])) (s : (Bool) × (Int) × (List LAT2) × (Int) × (Int) × (List LAT2 × List Int)) => model_table_uint16_right_m1 (model_table_uint16_right_K2 (fun fixed endV t13 t14 t15 t => self (fixed, endV, t13, t14, t15, t))) (fun fixed endV t13 t14 t15 t => self (fixed, endV, t13, t14, t15, t)) s.1 s.2.1 s.2.2.1 s.2.2.2.1 s.2.2.2.2.1 s.2.2.2.2.2)
theorem model_table_uint16_right_K1_Fe  (self : (Bool) × (Int) × (List LAT2) × (Int) × (Int) × (List LAT2 × List Int) → Option (As [.bool])) (fixed : Bool) (endV : Int) (t13 : List LAT2) (t14 : Int) (t15 : Int) (t : List LAT2 × List Int) : model_table_uint16_right_K1_F self (fixed, endV, t13, t14, t15, t) = model_table_uint16_right_m1 (model_table_uint16_right_K2 (fun fixed endV t13 t14 t15 t => self (fixed, endV, t13, t14, t15, t))) (fun fixed endV t13 t14 t15 t => self (fixed, endV, t13, t14, t15, t)) fixed endV t13 t14 t15 t := rfl
theorem model_table_uint16_right_K1_Ke  (fixed : Bool) (endV : Int) (t13 : List LAT2) (t14 : Int) (t15 : Int) (t : List LAT2 × List Int) : model_table_uint16_right_K1 fixed endV t13 t14 t15 t = loopF (model_table_uint16_right_K1_F) 18446744073709551616 (fixed, endV, t13, t14, t15, t) := rfl

theorem loopF64 {σ R : Type} (F : (σ → Option R) → σ → Option R) (s : σ) : loopF F 18446744073709551616 s = F (loopF F 18446744073709551615) s := rfl
theorem loopF63 {σ R : Type} (F : (σ → Option R) → σ → Option R) (s : σ) : loopF F 18446744073709551615 s = F (loopF F 18446744073709551614) s := rfl
theorem br_empty (fixed : Bool) : model_table_bool_right (([], []), fixed, ()) = some (true, ()) := by
  show model_table_bool_right_m0 model_table_bool_right_K1 ([], []) fixed = _
  unfold model_table_bool_right_m0
  rw [if_neg (show ¬ gt (Int.ofNat ([] : List Bool).length) 65536 = true by decide), model_table_bool_right_K1_Ke, loopF64, model_table_bool_right_K1_Fe]
  rfl
theorem ur_empty (fixed : Bool) : model_table_uint16_right (([], []), fixed, ()) = some (true, ()) := by
  show model_table_uint16_right_m0 model_table_uint16_right_K1 ([], []) fixed = _
  unfold model_table_uint16_right_m0
  rw [if_neg (show ¬ gt (Int.ofNat ([] : List Int).length) 65536 = true by decide), model_table_uint16_right_K1_Ke, loopF64, model_table_uint16_right_K1_Fe]
  rfl
theorem ur_fifty {h : List Int} (hl : h.length = 50) : model_table_uint16_right (([A0], h), false, ()) = some (true, ()) := by
  show model_table_uint16_right_m0 model_table_uint16_right_K1 ([A0], h) false = _
  unfold model_table_uint16_right_m0
  dsimp only
  rw [hl, if_neg (show ¬ gt (Int.ofNat 50) 65536 = true by decide), model_table_uint16_right_K1_Ke, loopF64, model_table_uint16_right_K1_Fe]
  unfold model_table_uint16_right_m1
  dsimp only
  rw [if_pos (by decide), show at? [A0] 0 = some A0 from rfl, Option.bind_some, hl, if_neg (by decide), if_neg (by decide), if_neg (by decide)]
  have hg : gt A0.2.1 (sub .i64 (Int.ofNat 50) A0.1) = false := by decide
  rw [hg]
  show loopF model_table_uint16_right_K1_F 18446744073709551615 (false, add .i64 A0.1 A0.2.1, [A0], Int.ofNat [A0].length, add .i64 0 1, ([A0], h)) = _
  rw [loopF63, model_table_uint16_right_K1_Fe]
  rfl
theorem right_S0 {h : List Int} (hl : h.length = 50) : model_Right (S0, ([], [], h, []), ()) = some (true, ()) := by
  show model_Right_m0 S0 ([], [], h, []) = _
  unfold model_Right_m0
  have ho : model_open (S0, ([], [], h, []), ()) = some ((([], []), ([], []), ([A0], h), [], []), ()) := rfl
  rw [ho, Option.bind_some]
  dsimp only
  rw [br_empty, Option.bind_some, if_pos rfl, br_empty, Option.bind_some, if_pos rfl, ur_fifty hl, Option.bind_some, if_pos rfl, ur_empty]
  rfl
theorem mown_eq {h : List Int} (hl : h.length ≤ 1000000) : model_own (([], [], h, []), ()) = some (([], [], h, []), ()) := by
  show model_own_m0 ([], [], h, []) = _
  unfold model_own_m0
  dsimp only
  rw [cloneB_eq (by decide), Option.bind_some, Option.bind_some, cloneW_eq hl, Option.bind_some, cloneW_eq (by decide)]
  rfl
theorem uread_eq {h : List Int} {p n : Int} (hp : 0 ≤ p) (hn : 0 ≤ n) (hh : h.length ≤ 100000) (hle : p + n ≤ h.length) (l : List TArea) : model_table_uint16_read ((l, h), p, n, 1, ()) = some ((h.drop p.toNat).take n.toNat, ()) := by
  obtain ⟨p, rfl⟩ := Int.eq_ofNat_of_zero_le hp
  obtain ⟨n, rfl⟩ := Int.eq_ofNat_of_zero_le hn
  have e1 : mul .i64 (quo .i64 (sub .i64 (add .i64 (n : Int) 1) 1) 1) 1 = (n : Int) := by
    rw [succ64 (by omega), sub64 (by omega) (by omega), show (((n + 1 : Nat) : Int) - 1) = (n : Int) by omega]
    have := quo_nat (i := n) (d := 1) (by omega)
    rw [Nat.div_one] at this
    rw [show (1 : Int) = ((1 : Nat) : Int) from rfl, this, mul64 (by omega) (by omega)]
    omega
  show model_table_uint16_read_m0 (l, h) (p : Int) (n : Int) 1 = _
  unfold model_table_uint16_read_m0
  rw [e1, need_t (by decide), need_t (ge_iff.2 (by omega)), need_t (capOk_sf _), Int.toNat_natCast, need_small (by omega), addn64 (by omega)]
  dsimp only
  rw [cut_nat (by omega) (by omega), Option.bind_some, List.length_replicate, need_t (le_iff.2 (by rw [ofNat_eq, ofNat_eq]; omega))]
  have hlen : ((h.take (p + n)).drop p).length = n := by rw [List.length_drop, List.length_take]; omega
  have ht : ((h.take (p + n)).drop p) = (h.drop p).take n := by rw [List.drop_take]; congr 1; omega
  have hz : List.drop (0 + n) (List.replicate n (0 : Int)) = [] := List.drop_of_length_le (by rw [List.length_replicate]; omega)
  rw [ofNat_eq, Int.toNat_natCast, List.take_of_length_le (show ((h.take (p + n)).drop p).length ≤ n by omega), hlen, hz, List.append_nil, ht]
  rfl
/-! ### replies -/
def srvS (h : List Int) (a : TA) : TR := if a.1 = 3 ∧ a.2.1 + a.2.2.1 ≤ 50 then (3, 0, [], (h.drop a.2.1.toNat).take a.2.2.1.toNat, 0, 0) else (a.1, 2, [], [], 0, 0)
theorem wrong_eq (f e : Int) : reply_Wrong (f, e, ()) = some ((rem f 128, e, [], [], 0, 0), ()) := rfl
theorem right_f {a : TA} (hr : rightA a = true) : 1 ≤ a.1 ∧ a.1 < 128 := by
  cases rightA_RA hr with
  | bits f p n hf => show 1 ≤ f ∧ f < 128; omega
  | words f p n hf => show 1 ≤ f ∧ f < 128; omega
  | coil p b => exact ⟨(by decide : (1 : Int) ≤ 5), (by decide : (5 : Int) < 128)⟩
  | word p x => exact ⟨(by decide : (1 : Int) ≤ 6), (by decide : (6 : Int) < 128)⟩
  | coils p l => exact ⟨(by decide : (1 : Int) ≤ 15), (by decide : (15 : Int) < 128)⟩
  | regs p l => exact ⟨(by decide : (1 : Int) ≤ 16), (by decide : (16 : Int) < 128)⟩
  | swap p n t l => exact ⟨(by decide : (1 : Int) ≤ 23), (by decide : (23 : Int) < 128)⟩
theorem do_eq {h : List Int} (hl : h.length = 50) {a : TA} (ha : OkA a) (hr : rightA a = true) : model_Do (S0, ([], [], h, []), a, ()) = some (([], [], h, []), srvS h a, ()) := by
  have hf := right_f hr
  show model_Do_m0 model_Do_K1 S0 ([], [], h, []) a = _
  unfold model_Do_m0
  rw [mown_eq (by omega), Option.bind_some, check_eq ha hr, Option.bind_some]
  dsimp only
  unfold exS srvS
  by_cases hc : a.1 = 3 ∧ a.2.1 + a.2.2.1 ≤ 50
  · rw [if_pos hc, if_neg (by decide), right_S0 hl, Option.bind_some, if_neg (by decide), if_pos hc]
    have ho : model_open (S0, ([], [], h, []), ()) = some ((([], []), ([], []), ([A0], h), [], []), ()) := rfl
    rw [ho, Option.bind_some, uses_eq, Option.bind_some, target_eq ha, Option.bind_some]
    obtain ⟨f, p, n, t, w, b⟩ := a
    have h3 : f = 3 := hc.1
    subst h3
    have p0 : 0 ≤ p := ha.at0
    have p1 : p ≤ 65535 := ha.at1
    have n0 : 0 ≤ n := ha.m0
    have n1 : n ≤ 65535 := ha.m1
    have hle : p + n ≤ 50 := hc.2
    show model_Do_K1 (3, p, n, t, w, b) 0 0 0 0 ([], [], h, []) (([], []), ([], []), ([A0], h), [], []) (3, 0) = _
    unfold model_Do_K1 model_Do_m1
    have he : reply_Echo ((3, p, n, t, w, b), ()) = some ((0, 0, [], [], 0, 0), false, ()) := by
      show reply_Echo_m0 reply_Echo_K1 reply_Echo_K2 (3, p, n, t, w, b) = _
      unfold reply_Echo_m0
      rw [right_eq ha, hr]
      rfl
    have hs : model_server_answer ((([], []), ([], []), ([A0], h), [], []), 3, (3, p, n, t, w, b), ()) = some ((3, 0, [], (h.drop p.toNat).take n.toNat, 0, 0), ()) := by
      show Option.bind (model_table_uint16_read (([A0], h), cvt .i64 p, cvt .i64 n, 1, ())) _ = _
      rw [cvt64 (by omega) (by omega), cvt64 (by omega) (by omega), uread_eq p0 n0 (by omega) (by omega)]
      rfl
    rw [he, Option.bind_some]
    dsimp only
    rw [if_neg (by decide), hs]
    rfl
  · rw [if_neg hc, if_pos (by decide), wrong_eq, Option.bind_some, if_neg hc, rem128 (by omega) hf.2]
/-- a reply that may be read back -/
structure Rep (r : TR) : Prop where
  ok : OkR r
  rr : RR r
  rt : rightR r = true
theorem rep_wrong {f e : Int} (h0 : 0 ≤ f) (h1 : f < 128) (h2 : 1 ≤ e) (h3 : e ≤ 4) : Rep (f, e, [], [], 0, 0) := by
  refine ⟨⟨h0, by show f ≤ 255; omega, by show 0 ≤ e; omega, by show e ≤ 255; omega, (fun x hx => by cases hx), (by decide : (0 : Int) ≤ 0), (by decide : (0 : Int) ≤ 65535), (by decide : (0 : Int) ≤ 0), (by decide : (0 : Int) ≤ 65535), Nat.zero_le _, Nat.zero_le _⟩, .ex f e h0 h1 h2 h3, ?_⟩
  unfold rightR
  rw [if_pos (by rw [nei_iff]; show e ≠ 0; omega)]
  unfold exR
  dsimp only
  rw [rem128 h0 h1, decide_eq_true h1, decide_eq_true h2, decide_eq_true h3, decide_eq_true rfl]
  rfl
theorem rep_words {w : List Int} (hw : ∀ x ∈ w, 0 ≤ x ∧ x ≤ 65535) (h1 : 1 ≤ w.length) (h2 : w.length ≤ 125) : Rep (3, 0, [], w, 0, 0) := by
  refine ⟨⟨(by decide : (0 : Int) ≤ 3), (by decide : (3 : Int) ≤ 255), (by decide : (0 : Int) ≤ 0), (by decide : (0 : Int) ≤ 255), hw, (by decide : (0 : Int) ≤ 0), (by decide : (0 : Int) ≤ 65535), (by decide : (0 : Int) ≤ 0), (by decide : (0 : Int) ≤ 65535), Nat.zero_le _, by show w.length ≤ 100000; omega⟩, .words 3 w (.inl rfl) h1 h2, ?_⟩
  show wordR (3, 0, [], w, 0, 0) = true
  unfold wordR
  dsimp only
  rw [decide_eq_true h1, decide_eq_true h2, decide_eq_true rfl]
  rfl
theorem rep_sm {r : TR} (h : Rep r) : SmR r := by
  cases h.rr <;> exact ⟨by simp <;> omega, by simp <;> omega⟩
theorem rep_bytes {r : TR} (h : Rep r) : reply_Bytes (r, ()) = some (repB r, 0, ()) := by rw [rbytes_eq (rep_sm h), if_pos h.rt]
theorem rep_parse {r : TR} (h : Rep r) : reply_Parse (repB r, ()) = some (r, 0, ()) := by rw [parse_eq, rparse_back h.ok h.rr h.rt]
theorem srv_rep {h : List Int} (hl : h.length = 50) (hr : ∀ x ∈ h, 0 ≤ x ∧ x < 65536) {a : TA} (ha : OkA a) (hra : rightA a = true) : Rep (srvS h a) := by
  have hf := right_f hra
  have p0 := ha.at0
  unfold srvS
  split
  · rename_i hc
    have hn : 1 ≤ a.2.2.1 ∧ a.2.2.1 ≤ 125 := by
      cases rightA_RA hra with
      | words f p n hf h1 h2 => exact ⟨h1, h2⟩
      | bits f p n hf => have : f = 3 := hc.1; omega
      | coil p b => have : (5 : Int) = 3 := hc.1; omega
      | word p x => have : (6 : Int) = 3 := hc.1; omega
      | coils p l => have : (15 : Int) = 3 := hc.1; omega
      | regs p l => have : (16 : Int) = 3 := hc.1; omega
      | swap p n t l => have : (23 : Int) = 3 := hc.1; omega
    have hlen : ((h.drop a.2.1.toNat).take a.2.2.1.toNat).length = a.2.2.1.toNat := by rw [List.length_take, List.length_drop]; omega
    refine rep_words (fun x hx => ?_) (by omega) (by omega)
    have := hr x (List.mem_of_mem_drop (List.mem_of_mem_take hx))
    omega
  · exact rep_wrong (by omega) hf.2 (by decide) (by decide)
/-- to any bytes there is a reply that is read back -/
theorem mserve_any {h : List Int} (hl : h.length = 50) (hr : ∀ x ∈ h, 0 ≤ x ∧ x < 65536) {f : Int} {b : List Int} (hb : ∀ x ∈ f :: b, 0 ≤ x ∧ x ≤ 255) :
    ∃ (a : TA) (e : Int) (r : TR), ask_Look (f :: b, ()) = some (a, e, ()) ∧ model_Serve (S0, ([], [], h, []), f :: b, ()) = some (([], [], h, []), repB r, ()) ∧ Rep r ∧ (e ≠ 0 → r.2.1 = e) ∧ (e = 0 → r = srvS h a) := by
  obtain ⟨a, e, h1, h2⟩ := look_any hb
  have hf := hb f (by simp)
  rcases h2 with ⟨rfl, ha, hra, _⟩ | ⟨he, rfl⟩
  · refine ⟨a, 0, srvS h a, h1, ?_, srv_rep hl hr ha hra, fun e => absurd rfl e, fun _ => rfl⟩
    show model_Serve_m0 S0 ([], [], h, []) (f :: b) = _
    unfold model_Serve_m0
    rw [h1, Option.bind_some, if_neg (show ¬ nei 0 0 = true by decide), do_eq hl ha hra, Option.bind_some]
    dsimp only
    rw [rep_bytes (srv_rep hl hr ha hra)]
    rfl
  · have he' : 1 ≤ e ∧ e ≤ 4 := by rcases he with h | h <;> (have h : e = _ := h; omega)
    have hm : 0 ≤ rem f 128 ∧ rem f 128 < 128 := by
      unfold rem
      rw [Int.tmod_eq_emod_of_nonneg hf.1]
      omega
    have hrep : Rep (rem f 128, e, [], [], 0, 0) := rep_wrong hm.1 hm.2 he'.1 he'.2
    refine ⟨_, e, (rem f 128, e, [], [], 0, 0), h1, ?_, hrep, fun _ => rfl, fun e0 => absurd he'.1 (by have e0 : e = 0 := e0; omega)⟩
    show model_Serve_m0 S0 ([], [], h, []) (f :: b) = _
    unfold model_Serve_m0
    rw [h1, Option.bind_some, if_pos (by rw [nei_iff]; show e ≠ 0; have := he'.1; omega), wrong_eq, Option.bind_some, rep_bytes hrep, Option.bind_some, mown_eq (by omega)]
    rfl
theorem vserve_eq {l : List TJob} (hl : l.length ≤ 1000000) {waits : List Int} (hw : waits.length ≤ 1000000) (ho : ∀ j ∈ l, OkJ j) (b : List Int) {m : TMem} {o : List Int} (h : model_Serve (S0, ([], [], memH l waits, []), b, ()) = some (m, o, ())) : view_Serve (l, waits, b, ()) = some (o, ()) := by
  show view_Serve_m0 l waits b = _
  unfold view_Serve_m0
  rw [space_eq, Option.bind_some, vmem_eq hl hw ho, Option.bind_some]
  dsimp only
  rw [h]
  rfl
theorem askB_bytes' {a : TA} (ha : OkA a) (hr : rightA a = true) : askB a ≠ [] := by
  intro e
  have h := aparse_eq ha hr
  rw [e] at h
  cases h
theorem regs_self (l : List Int) (hl : l.length ≤ 100000) : law06_Regs (l, l, ()) = some (true, ()) := by
  show law06_Regs_m0 law06_Regs_K1 l l = _
  unfold law06_Regs_m0
  rw [if_neg (by rw [nei_iff]; exact fun e => e rfl)]
  unfold law06_Regs_K1
  refine loop_dt (N := l.length) (mk := fun i => (l, l, Int.ofNat l.length, (i : Int))) ?_ ?_ l.length 0 _ (by omega) (by omega)
  · intro self i hi
    have hg := List.getElem?_eq_getElem hi
    show law06_Regs_m1 _ l l (Int.ofNat l.length) (i : Int) = _
    unfold law06_Regs_m1
    rw [if_pos (by rw [lt_iff, ofNat_eq]; omega), at_get hg, Option.bind_some, Option.bind_some, if_neg (by rw [nei_iff]; exact fun e => e rfl), succ64 (by omega)]
  · intro self
    show law06_Regs_m1 _ l l (Int.ofNat l.length) (l.length : Int) = _
    unfold law06_Regs_m1
    rw [if_neg (by rw [lt_iff, ofNat_eq]; omega)]
theorem reads_law {l : List TJob} {waits : List Int} {a : TA} {pdu : List Int} (ho : ∀ j ∈ l, OkJ j) (hp : ∀ x ∈ pdu, 0 ≤ x ∧ x ≤ 255) (hA : a.2.2.2.2.1.length ≤ 200 → a.2.2.2.2.2.length ≤ 2000 → OkA a) : law29_ViewReads (l, waits, a, pdu, ()) = some (true, ()) := by
  have aw : (Option.bind (law29_awake ()) fun (y : Bool × Unit) => some (y.1, ())) = some (true, ()) := by rw [awake29]; rfl
  have K1t : law29_ViewReads_K1 l waits pdu true a = some (true, ()) := by
    unfold law29_ViewReads_K1 law29_ViewReads_m1
    rw [if_pos rfl]
    exact aw
  show law29_ViewReads_m0 law29_ViewReads_K1 l waits a pdu = _
  unfold law29_ViewReads_m0
  by_cases hl : l.length ≤ 60
  · rw [if_neg (by rw [gt_iff, ofNat_eq]; omega)]
    by_cases hw : waits.length ≤ 60
    · rw [if_neg (by rw [gt_iff, ofNat_eq]; omega)]
      by_cases hpl : pdu.length ≤ 300
      · rw [if_neg (by rw [gt_iff, ofNat_eq]; omega)]
        by_cases haw : a.2.2.2.2.1.length ≤ 200
        · rw [if_neg (by rw [gt_iff, ofNat_eq]; omega)]
          by_cases hab : a.2.2.2.2.2.length ≤ 2000
          · rw [if_neg (by rw [gt_iff, ofNat_eq]; omega), lright_eq (by omega), Option.bind_some]
            have ha := hA haw hab
            cases hrj : rightJ 0 l with
            | false => exact K1t
            | true =>
              have hh := memH_len l waits
              have hrng := memH_rng (waits := waits) ho
              have K2 : ∀ r, law29_ViewReads_K2 l waits false a r = some (true, ()) := by
                intro r
                unfold law29_ViewReads_K2 law29_ViewReads_m2
                rw [if_neg (by decide), bytes_eq ha]
                cases hra : rightA a with
                | false => exact aw
                | true =>
                  rw [if_pos rfl, Option.bind_some, if_neg (show ¬ nei 0 0 = true by decide), vmem_eq (by omega) (by omega) ho, Option.bind_some]
                  dsimp only
                  have hd := do_eq hh ha hra
                  have hrep := srv_rep hh hrng ha hra
                  have hlook : ask_Look (askB a, ()) = some (a, 0, ()) := by
                    show ask_Look_m0 (askB a) = _
                    unfold ask_Look_m0
                    have hne : (askB a).length ≠ 0 := fun e => askB_bytes' ha hra (List.eq_nil_of_length_eq_zero e)
                    rw [if_neg (by rw [eqi_iff, ofNat_eq]; omega), aparse_eq ha hra]
                    rfl
                  have hserve : model_Serve (S0, ([], [], memH l waits, []), askB a, ()) = some (([], [], memH l waits, []), repB (srvS (memH l waits) a), ()) := by
                    show model_Serve_m0 S0 ([], [], memH l waits, []) (askB a) = _
                    unfold model_Serve_m0
                    rw [hlook, Option.bind_some, if_neg (show ¬ nei 0 0 = true by decide), hd, Option.bind_some]
                    dsimp only
                    rw [rep_bytes hrep]
                    rfl
                  rw [vserve_eq (by omega) (by omega) ho _ hserve, Option.bind_some, rep_parse hrep, Option.bind_some]
                  dsimp only
                  rw [if_neg (by decide)]
                  have hfn : (srvS (memH l waits) a).1 = a.1 := by
                    unfold srvS
                    split
                    · rename_i hc; exact hc.1.symm
                    · rfl
                  rw [hfn, if_neg (by rw [nei_iff]; exact fun e => e rfl)]
                  have h50 : nei (Int.ofNat (memH l waits).length) 50 = false := by rw [hh]; decide
                  rw [h50]
                  have p0 := ha.at0
                  have p1 := ha.at1
                  have n0 := ha.m0
                  have n1 := ha.m1
                  have K4f : ¬ (a.1 = 3 ∧ a.2.1 + a.2.2.1 ≤ 50) → law29_ViewReads_K4 (memH l waits) false a (srvS (memH l waits) a) = some (true, ()) := fun hc => by
                    have hs : srvS (memH l waits) a = (a.1, 2, [], [], 0, 0) := if_neg hc
                    rw [hs]
                    exact aw
                  unfold law29_ViewReads_K3 law29_ViewReads_m3
                  rw [if_neg (by decide)]
                  by_cases h3 : a.1 = 3
                  · rw [if_pos (eqi_iff.2 h3), hh, cvt64 (by omega) (by omega), cvt64 (by omega) (by omega), add64 (by omega) (by omega)]
                    by_cases hle : a.2.1 + a.2.2.1 ≤ 50
                    · rw [show le (a.2.1 + a.2.2.1) (Int.ofNat 50) = true from le_iff.2 (by rw [ofNat_eq]; omega)]
                      have hs : srvS (memH l waits) a = (3, 0, [], ((memH l waits).drop a.2.1.toNat).take a.2.2.1.toNat, 0, 0) := if_pos ⟨h3, hle⟩
                      rw [hs]
                      unfold law29_ViewReads_K4 law29_ViewReads_m4
                      rw [if_pos rfl, if_pos (show eqi 0 0 = true by decide), cvt64 (by omega) (by omega), cvt64 (by omega) (by omega), add64 (by omega) (by omega)]
                      have hcut : cut (memH l waits) a.2.1 (a.2.1 + a.2.2.1) = some (((memH l waits).drop a.2.1.toNat).take a.2.2.1.toNat) := by
                        have := cut_nat (xs := memH l waits) (i := a.2.1.toNat) (j := a.2.1.toNat + a.2.2.1.toNat) (by omega) (by omega)
                        rw [show ((a.2.1.toNat : Nat) : Int) = a.2.1 by omega, show ((a.2.1.toNat + a.2.2.1.toNat : Nat) : Int) = a.2.1 + a.2.2.1 by omega] at this
                        rw [this, List.drop_take]
                        congr 2
                        omega
                      rw [hcut, Option.bind_some]
                      dsimp only
                      rw [regs_self _ (by rw [List.length_take, List.length_drop]; omega), Option.bind_some, if_pos rfl]
                      exact aw
                    · rw [show le (a.2.1 + a.2.2.1) (Int.ofNat 50) = false from decide_eq_false (by rw [ofNat_eq]; omega)]
                      exact K4f (fun e => hle e.2)
                  · rw [if_neg (fun e => h3 (eqi_iff.1 e))]
                    exact K4f (fun e => h3 e.1)
              show law29_ViewReads_K1 l waits pdu false a = _
              unfold law29_ViewReads_K1 law29_ViewReads_m1
              rw [if_neg (by decide)]
              match pdu, hp, hpl with
              | [], hp, hpl =>
                have hl0 : ask_Look ([], ()) = some ((0, 0, 0, 0, [], []), 1, ()) := rfl
                have hrep : Rep (0, 1, [], [], 0, 0) := rep_wrong (by decide) (by decide) (by decide) (by decide)
                have hs0 : model_Serve (S0, ([], [], memH l waits, []), [], ()) = some (([], [], memH l waits, []), repB (0, 1, [], [], 0, 0), ()) := by
                  show model_Serve_m0 S0 ([], [], memH l waits, []) [] = _
                  unfold model_Serve_m0
                  rw [hl0, Option.bind_some, if_pos (by decide), wrong_eq, Option.bind_some]
                  dsimp only
                  rw [show rem 0 128 = 0 from rfl, rep_bytes hrep, Option.bind_some, mown_eq (by omega)]
                  rfl
                rw [vserve_eq (by omega) (by omega) ho _ hs0, Option.bind_some, rep_parse hrep, Option.bind_some, hl0, Option.bind_some, if_neg (by decide)]
                exact K2 _
              | f :: b, hp, hpl =>
                obtain ⟨a', e, r, h1, h2, h3, h4, h5⟩ := mserve_any hh hrng hp
                rw [vserve_eq (by omega) (by omega) ho _ h2, Option.bind_some, rep_parse h3, Option.bind_some, h1, Option.bind_some, if_pos (by rw [gt_iff, ofNat_eq, List.length_cons]; omega), if_neg (show ¬ nei 0 0 = true by decide)]
                dsimp only
                by_cases he : e = 0
                · rw [if_neg (by rw [nei_iff]; exact fun x => x he)]
                  exact K2 _
                · rw [if_pos (nei_iff.2 he), h4 he, show nei e e = false from by simp [nei]]
                  exact K2 _
          · rw [if_pos (by rw [gt_iff, ofNat_eq]; omega)]
            exact K1t
        · rw [if_pos (by rw [gt_iff, ofNat_eq]; omega)]
          exact K1t
      · rw [if_pos (by rw [gt_iff, ofNat_eq]; omega)]
        exact K1t
    · rw [if_pos (by rw [gt_iff, ofNat_eq]; omega)]
      exact K1t
  · rw [if_pos (by rw [gt_iff, ofNat_eq]; omega)]
    exact K1t
abbrev tAsk : Ty := .pr (.int .u8) (.pr (.int .u16) (.pr (.int .u16) (.pr (.int .u16) (.pr (.sl (.int .u16)) (.sl .bool)))))
theorem okA_few {a : TA} (h : Rw.okV tAsk a) (h1 : a.2.2.2.2.1.length ≤ 200) (h2 : a.2.2.2.2.2.length ≤ 2000) : OkA a := by
  obtain ⟨q1, q2, q3, q4, q5, q6⟩ := h
  have b1 := okw8 q1
  have b2 := okw16 q2
  have b3 := okw16 q3
  have b4 := okw16 q4
  exact ⟨b1.1, by omega, b2.1, by omega, b3.1, by omega, b4.1, by omega, fun x hx => by have := okw16 (q5.2 x hx); omega, by omega, by omega⟩
theorem reads_row (x : As [.sl tJob, .sl (.int .u32), tAsk, .sl (.int .u8)]) (h : Rw.okA [.sl tJob, .sl (.int .u32), tAsk, .sl (.int .u8)] x) : law29_ViewReads x = some (true, ()) :=
  reads_law (l := x.1) (waits := x.2.1) (a := x.2.2.1) (pdu := x.2.2.2.1) (fun j hj => okJ_of (h.1.2 j hj)) (fun y hy => by have := okw8 (h.2.2.2.1.2 y hy); omega) (fun h1 h2 => okA_few h.2.2.1 h1 h2)
end Go.Proofs.Lx

end
