/- Proved in the last of these 12 parts (this is part 11): what registers show, what is replied, and which lines a memory shows, is exactly as the document defines. Conditions: those of the given statement, and no others. -/
import Derived.Test.YtaojmefkpcdpnaaGreatPartj
import Derived.Test.YtaojmefkpcdpnaaGreatParti
set_option linter.unusedVariables false
set_option linter.unusedSimpArgs false
set_option linter.unusedSectionVars false
section
namespace Go.Proofs.Lx
open Go Ev Sx Pl
set_option maxRecDepth 100000
def qam_  := (fun (self : (Bool) × (Int) × (List (Int × Int × Bool × Bool × Bool)) × (Int) × (Int) × (List (Int × Int × Bool × Bool × Bool) × List Bool) -> Option (As [.bool])) (s : (Bool) × (Int) × (List (Int × Int × Bool × Bool × Bool)) × (Int) × (Int) × (List (Int × Int × Bool × Bool × Bool) × List Bool)) => q4u_ (q32_ (fun fixed endV t13 t14 t15 t => self (fixed, endV, t13, t14, t15, t))) (fun fixed endV t13 t14 t15 t => self (fixed, endV, t13, t14, t15, t)) s.1 s.2.1 s.2.2.1 s.2.2.2.1 s.2.2.2.2.1 s.2.2.2.2.2)
theorem qjb_  (self : (Bool) × (Int) × (List (Int × Int × Bool × Bool × Bool)) × (Int) × (Int) × (List (Int × Int × Bool × Bool × Bool) × List Bool) -> Option (As [.bool])) (fixed : Bool) (endV : Int) (t13 : List (Int × Int × Bool × Bool × Bool)) (t14 : Int) (t15 : Int) (t : List (Int × Int × Bool × Bool × Bool) × List Bool) : qam_ self (fixed, endV, t13, t14, t15, t) = q4u_ (q32_ (fun fixed endV t13 t14 t15 t => self (fixed, endV, t13, t14, t15, t))) (fun fixed endV t13 t14 t15 t => self (fixed, endV, t13, t14, t15, t)) fixed endV t13 t14 t15 t := rfl
theorem qjf_  (fixed : Bool) (endV : Int) (t13 : List (Int × Int × Bool × Bool × Bool)) (t14 : Int) (t15 : Int) (t : List (Int × Int × Bool × Bool × Bool) × List Bool) : q36_ fixed endV t13 t14 t15 t = loopF (qam_) 18446744073709551616 (fixed, endV, t13, t14, t15, t) := rfl
def q5n_  := (fun (self : (Bool) × (Int) × (List (Int × Int × Bool × Bool × Bool)) × (Int) × (Int) × (List (Int × Int × Bool × Bool × Bool) × List Int) -> Option (As [.bool])) (s : (Bool) × (Int) × (List (Int × Int × Bool × Bool × Bool)) × (Int) × (Int) × (List (Int × Int × Bool × Bool × Bool) × List Int)) => q2e_ (q2f_ (fun fixed endV t13 t14 t15 t => self (fixed, endV, t13, t14, t15, t))) (fun fixed endV t13 t14 t15 t => self (fixed, endV, t13, t14, t15, t)) s.1 s.2.1 s.2.2.1 s.2.2.2.1 s.2.2.2.2.1 s.2.2.2.2.2)
theorem q4z_  (self : (Bool) × (Int) × (List (Int × Int × Bool × Bool × Bool)) × (Int) × (Int) × (List (Int × Int × Bool × Bool × Bool) × List Int) -> Option (As [.bool])) (fixed : Bool) (endV : Int) (t13 : List (Int × Int × Bool × Bool × Bool)) (t14 : Int) (t15 : Int) (t : List (Int × Int × Bool × Bool × Bool) × List Int) : q5n_ self (fixed, endV, t13, t14, t15, t) = q2e_ (q2f_ (fun fixed endV t13 t14 t15 t => self (fixed, endV, t13, t14, t15, t))) (fun fixed endV t13 t14 t15 t => self (fixed, endV, t13, t14, t15, t)) fixed endV t13 t14 t15 t := rfl
theorem q97_  (fixed : Bool) (endV : Int) (t13 : List (Int × Int × Bool × Bool × Bool)) (t14 : Int) (t15 : Int) (t : List (Int × Int × Bool × Bool × Bool) × List Int) : q1q_ fixed endV t13 t14 t15 t = loopF (q5n_) 18446744073709551616 (fixed, endV, t13, t14, t15, t) := rfl
theorem loopF64 {σ R : Type} (F : (σ -> Option R) -> σ -> Option R) (s : σ) : loopF F 18446744073709551616 s = F (loopF F 18446744073709551615) s := rfl
theorem loopF63 {σ R : Type} (F : (σ -> Option R) -> σ -> Option R) (s : σ) : loopF F 18446744073709551615 s = F (loopF F 18446744073709551614) s := rfl
theorem br_empty (fixed : Bool) : model_table_bool_right (([], []), fixed, ()) = some (true, ()) := by
  show q4r_ q36_ ([], []) fixed = _
  unfold q4r_
  rw [if_neg (show ¬ gt (Int.ofNat ([] : List Bool).length) 65536 = true by decide), qjf_, loopF64, qjb_]
  rfl
theorem ur_empty (fixed : Bool) : model_table_uint16_right (([], []), fixed, ()) = some (true, ()) := by
  show q1r_ q1q_ ([], []) fixed = _
  unfold q1r_
  rw [if_neg (show ¬ gt (Int.ofNat ([] : List Int).length) 65536 = true by decide), q97_, loopF64, q4z_]
  rfl
theorem ur_fifty {h : List Int} (hl : h.length = 50) : model_table_uint16_right (([A0], h), false, ()) = some (true, ()) := by
  show q1r_ q1q_ ([A0], h) false = _
  unfold q1r_
  dsimp only
  rw [hl, if_neg (show ¬ gt (Int.ofNat 50) 65536 = true by decide), q97_, loopF64, q4z_]
  unfold q2e_
  dsimp only
  rw [if_pos (by decide), show at? [A0] 0 = some A0 from rfl, Option.bind_some, hl, if_neg (by decide), if_neg (by decide), if_neg (by decide)]
  have hg : gt A0.2.1 (sub .i64 (Int.ofNat 50) A0.1) = false := by decide
  rw [hg]
  show loopF q5n_ 18446744073709551615 (false, add .i64 A0.1 A0.2.1, [A0], Int.ofNat [A0].length, add .i64 0 1, ([A0], h)) = _
  rw [loopF63, q4z_]
  rfl
theorem right_S0 {h : List Int} (hl : h.length = 50) : model_Right (S0, ([], [], h, []), ()) = some (true, ()) := by
  show qe7_ S0 ([], [], h, []) = _
  unfold qe7_
  have ho : model_open (S0, ([], [], h, []), ()) = some ((([], []), ([], []), ([A0], h), [], []), ()) := rfl
  rw [ho, Option.bind_some]
  dsimp only
  rw [br_empty, Option.bind_some, if_pos rfl, br_empty, Option.bind_some, if_pos rfl, ur_fifty hl, Option.bind_some, if_pos rfl, ur_empty]
  rfl
theorem mown_eq {h : List Int} (hl : h.length ≤ 1000000) : model_own (([], [], h, []), ()) = some (([], [], h, []), ()) := by
  show qhq_ ([], [], h, []) = _
  unfold qhq_
  dsimp only
  rw [cloneB_eq (by decide), Option.bind_some, Option.bind_some, cloneW_eq hl, Option.bind_some, cloneW_eq (by decide)]
  rfl
theorem uread_eq {h : List Int} {p n : Int} (hp : 0 ≤ p) (hn : 0 ≤ n) (hh : h.length ≤ 100000) (hle : p + n ≤ h.length) (l : List TArea) : model_table_uint16_read ((l, h), p, n, 1, ()) = some ((h.drop p.toNat).take n.toNat, ()) := by
  obtain ⟨p, rfl⟩ := Int.eq_ofNat_of_zero_le hp
  obtain ⟨n, rfl⟩ := Int.eq_ofNat_of_zero_le hn
  have e1 : mul .i64 (quo .i64 (sub .i64 (add .i64 (n : Int) 1) 1) 1) 1 = (n : Int) := by
    rw [succ64 (by omega), sub64 (by omega) (by omega), show (((n + 1 : Nat) : Int) - 1) = (n : Int) by omega]
    have := quo_nat (i := n) (d := 1) (by omega)
    rw [Nat.div_one] at this
    rw [show (1 : Int) = ((1 : Nat) : Int) from rfl, this, mul64 (by omega) (by omega)]
    omega
  show q46_ (l, h) (p : Int) (n : Int) 1 = _
  unfold q46_
  rw [e1, need_t (by decide), need_t (ge_iff.2 (by omega)), need_t (capOk_sf _), Int.toNat_natCast, need_small (by omega), addn64 (by omega)]
  dsimp only
  rw [cut_nat (by omega) (by omega), Option.bind_some, List.length_replicate, need_t (le_iff.2 (by rw [ofNat_eq, ofNat_eq]; omega))]
  have hlen : ((h.take (p + n)).drop p).length = n := by rw [List.length_drop, List.length_take]; omega
  have ht : ((h.take (p + n)).drop p) = (h.drop p).take n := by rw [List.drop_take]; congr 1; omega
  have hz : List.drop (0 + n) (List.replicate n (0 : Int)) = [] := List.drop_of_length_le (by rw [List.length_replicate]; omega)
  rw [ofNat_eq, Int.toNat_natCast, List.take_of_length_le (show ((h.take (p + n)).drop p).length ≤ n by omega), hlen, hz, List.append_nil, ht]
  rfl
def srvS (h : List Int) (a : TA) : TR := if a.1 = 3 ∧ a.2.1 + a.2.2.1 ≤ 50 then (3, 0, [], (h.drop a.2.1.toNat).take a.2.2.1.toNat, 0, 0) else (a.1, 2, [], [], 0, 0)
theorem wrong_eq (f e : Int) : reply_Wrong (f, e, ()) = some ((rem f 128, e, [], [], 0, 0), ()) := rfl
theorem right_f {a : TA} (hr : rightA a = true) : 1 ≤ a.1 ∧ a.1 < 128 := by
  cases rightA_RA hr with
  | bits f p n hf => show 1 ≤ f ∧ f < 128; omega
  | words f p n hf => show 1 ≤ f ∧ f < 128; omega
  | coil p b => exact ⟨(by decide : (1 : Int) ≤ 5), (by decide : (5 : Int) < 128)⟩
  | word p x => exact ⟨(by decide : (1 : Int) ≤ 6), (by decide : (6 : Int) < 128)⟩
  | coils p l => exact ⟨(by decide : (1 : Int) ≤ 15), (by decide : (15 : Int) < 128)⟩
  | regs p l => exact ⟨(by decide : (1 : Int) ≤ 16), (by decide : (16 : Int) < 128)⟩
  | swap p n t l => exact ⟨(by decide : (1 : Int) ≤ 23), (by decide : (23 : Int) < 128)⟩
theorem do_eq {h : List Int} (hl : h.length = 50) {a : TA} (ha : OkA a) (hr : rightA a = true) : model_Do (S0, ([], [], h, []), a, ()) = some (([], [], h, []), srvS h a, ()) := by
  have hf := right_f hr
  show qk9_ qc2_ S0 ([], [], h, []) a = _
  unfold qk9_
  rw [mown_eq (by omega), Option.bind_some, check_eq ha hr, Option.bind_some]
  dsimp only
  unfold exS srvS
  by_cases hc : a.1 = 3 ∧ a.2.1 + a.2.2.1 ≤ 50
  · rw [if_pos hc, if_neg (by decide), right_S0 hl, Option.bind_some, if_neg (by decide), if_pos hc]
    have ho : model_open (S0, ([], [], h, []), ()) = some ((([], []), ([], []), ([A0], h), [], []), ()) := rfl
    rw [ho, Option.bind_some, uses_eq, Option.bind_some, target_eq ha, Option.bind_some]
    obtain ⟨f, p, n, t, w, b⟩ := a
    have h3 : f = 3 := hc.1
    subst h3
    have p0 : 0 ≤ p := ha.at0
    have p1 : p ≤ 65535 := ha.at1
    have n0 : 0 ≤ n := ha.m0
    have n1 : n ≤ 65535 := ha.m1
    have hle : p + n ≤ 50 := hc.2
    show qc2_ (3, p, n, t, w, b) 0 0 0 0 ([], [], h, []) (([], []), ([], []), ([A0], h), [], []) (3, 0) = _
    unfold qc2_ qo5_
    have he : reply_Echo ((3, p, n, t, w, b), ()) = some ((0, 0, [], [], 0, 0), false, ()) := by
      show qfo_ q8o_ qfm_ (3, p, n, t, w, b) = _
      unfold qfo_
      rw [right_eq ha, hr]
      rfl
    have hs : model_server_answer ((([], []), ([], []), ([A0], h), [], []), 3, (3, p, n, t, w, b), ()) = some ((3, 0, [], (h.drop p.toNat).take n.toNat, 0, 0), ()) := by
      show Option.bind (model_table_uint16_read (([A0], h), cvt .i64 p, cvt .i64 n, 1, ())) _ = _
      rw [cvt64 (by omega) (by omega), cvt64 (by omega) (by omega), uread_eq p0 n0 (by omega) (by omega)]
      rfl
    rw [he, Option.bind_some]
    dsimp only
    rw [if_neg (by decide), hs]
    rfl
  · rw [if_neg hc, if_pos (by decide), wrong_eq, Option.bind_some, if_neg hc, rem128 (by omega) hf.2]
structure Rep (r : TR) : Prop where
  ok : OkR r
  rr : RR r
  rt : rightR r = true
theorem rep_wrong {f e : Int} (h0 : 0 ≤ f) (h1 : f < 128) (h2 : 1 ≤ e) (h3 : e ≤ 4) : Rep (f, e, [], [], 0, 0) := by
  refine ⟨⟨h0, by show f ≤ 255; omega, by show 0 ≤ e; omega, by show e ≤ 255; omega, (fun x hx => by cases hx), (by decide : (0 : Int) ≤ 0), (by decide : (0 : Int) ≤ 65535), (by decide : (0 : Int) ≤ 0), (by decide : (0 : Int) ≤ 65535), Nat.zero_le _, Nat.zero_le _⟩, .ex f e h0 h1 h2 h3, ?_⟩
  unfold rightR
  rw [if_pos (by rw [nei_iff]; show e ≠ 0; omega)]
  unfold exR
  dsimp only
  rw [rem128 h0 h1, decide_eq_true h1, decide_eq_true h2, decide_eq_true h3, decide_eq_true rfl]
  rfl
theorem rep_words {w : List Int} (hw : ∀ x ∈ w, 0 ≤ x ∧ x ≤ 65535) (h1 : 1 ≤ w.length) (h2 : w.length ≤ 125) : Rep (3, 0, [], w, 0, 0) := by
  refine ⟨⟨(by decide : (0 : Int) ≤ 3), (by decide : (3 : Int) ≤ 255), (by decide : (0 : Int) ≤ 0), (by decide : (0 : Int) ≤ 255), hw, (by decide : (0 : Int) ≤ 0), (by decide : (0 : Int) ≤ 65535), (by decide : (0 : Int) ≤ 0), (by decide : (0 : Int) ≤ 65535), Nat.zero_le _, by show w.length ≤ 100000; omega⟩, .words 3 w (.inl rfl) h1 h2, ?_⟩
  show wordR (3, 0, [], w, 0, 0) = true
  unfold wordR
  dsimp only
  rw [decide_eq_true h1, decide_eq_true h2, decide_eq_true rfl]
  rfl
theorem rep_sm {r : TR} (h : Rep r) : SmR r := by
  cases h.rr <;> exact ⟨by simp <;> omega, by simp <;> omega⟩
theorem rep_bytes {r : TR} (h : Rep r) : reply_Bytes (r, ()) = some (repB r, 0, ()) := by rw [rbytes_eq (rep_sm h), if_pos h.rt]
theorem srv_rep {h : List Int} (hl : h.length = 50) (hr : ∀ x ∈ h, 0 ≤ x ∧ x < 65536) {a : TA} (ha : OkA a) (hra : rightA a = true) : Rep (srvS h a) := by
  have hf := right_f hra
  have p0 := ha.at0
  unfold srvS
  split
  · rename_i hc
    have hn : 1 ≤ a.2.2.1 ∧ a.2.2.1 ≤ 125 := by
      cases rightA_RA hra with
      | words f p n hf h1 h2 => exact ⟨h1, h2⟩
      | bits f p n hf => have : f = 3 := hc.1; omega
      | coil p b => have : (5 : Int) = 3 := hc.1; omega
      | word p x => have : (6 : Int) = 3 := hc.1; omega
      | coils p l => have : (15 : Int) = 3 := hc.1; omega
      | regs p l => have : (16 : Int) = 3 := hc.1; omega
      | swap p n t l => have : (23 : Int) = 3 := hc.1; omega
    have hlen : ((h.drop a.2.1.toNat).take a.2.2.1.toNat).length = a.2.2.1.toNat := by rw [List.length_take, List.length_drop]; omega
    refine rep_words (fun x hx => ?_) (by omega) (by omega)
    have := hr x (List.mem_of_mem_drop (List.mem_of_mem_take hx))
    omega
  · exact rep_wrong (by omega) hf.2 (by decide) (by decide)
theorem vserve_eq {l : List TJob} (hl : l.length ≤ 1000000) {waits : List Int} (hw : waits.length ≤ 1000000) (ho : ∀ j ∈ l, OkJ j) (b : List Int) {m : TMem} {o : List Int} (h : model_Serve (S0, ([], [], memH l waits, []), b, ()) = some (m, o, ())) : view_Serve (l, waits, b, ()) = some (o, ()) := by
  show qgs_ l waits b = _
  unfold qgs_
  rw [space_eq, Option.bind_some, vmem_eq hl hw ho, Option.bind_some]
  dsimp only
  rw [h]
  rfl
theorem regs_self (l : List Int) (hl : l.length ≤ 100000) : law06_Regs (l, l, ()) = some (true, ()) := by
  show qgi_ qbl_ l l = _
  unfold qgi_
  rw [if_neg (by rw [nei_iff]; exact fun e => e rfl)]
  unfold qbl_
  refine loop_dt (N := l.length) (mk := fun i => (l, l, Int.ofNat l.length, (i : Int))) ?_ ?_ l.length 0 _ (by omega) (by omega)
  · intro self i hi
    have hg := List.getElem?_eq_getElem hi
    show q8i_ _ l l (Int.ofNat l.length) (i : Int) = _
    unfold q8i_
    rw [if_pos (by rw [lt_iff, ofNat_eq]; omega), at_get hg, Option.bind_some, Option.bind_some, if_neg (by rw [nei_iff]; exact fun e => e rfl), succ64 (by omega)]
  · intro self
    show q8i_ _ l l (Int.ofNat l.length) (l.length : Int) = _
    unfold q8i_
    rw [if_neg (by rw [lt_iff, ofNat_eq]; omega)]
end Go.Proofs.Lx
end
section
namespace Go.Proofs.Lx
open Go Ev Sx Pl
set_option maxRecDepth 100000
theorem rright_eq {a : TA} (h : OkA a) : ref02_Right (a, ()) = some (rightA a, ()) := by
  obtain ⟨f, p, n, t, ws, bs⟩ := a
  have h1 := h.m0
  have h2 := h.m1
  dsimp only at h1 h2
  show qdt_ qw_ (f, p, n, t, ws, bs) = _
  unfold qdt_
  dsimp only
  rw [cvt64 (by omega) (by omega)]
  have K : ∀ b : Bool, qw_ (Int.ofNat bs.length) (Int.ofNat ws.length) n b (f, p, n, t, ws, bs) = if b = true then some (false, ()) else qw_ (Int.ofNat bs.length) (Int.ofNat ws.length) n false (f, p, n, t, ws, bs) := fun b => by cases b <;> rfl
  rw [K (nei t 0)]
  unfold rightA
  dsimp only
  have z : ∀ x : Int, withinV x 0 = decide (x = 0) := fun x => rfl
  have w : ∀ (x m : Int), 0 < m -> withinV x m = (decide (1 ≤ x) && decide (x ≤ m)) := fun x m hm => by
    unfold withinV
    rw [if_neg (by rw [eqi_iff]; omega)]
    by_cases hx : 1 ≤ x
    · rw [if_pos (ge_iff.2 hx), decide_eq_true hx]; rfl
    · rw [if_neg (fun e => hx (ge_iff.1 e)), decide_eq_false hx]; rfl
  have et : nei t 0 = !eqi t 0 := rfl
  have fin : ∀ (x : Bool) (s : Int × Int × Int × Bool × Bool), s.2.2.2.1 = false -> ((if nei t 0 = true then (some (false, ()) : BB) else some (x, ())) = some (rightS (f, p, n, t, ws, bs) s, ()) ↔ (eqi t 0 = true -> (x = true ↔ (withinV n s.1 && (withinV (Int.ofNat bs.length) s.2.1 && (withinV (Int.ofNat ws.length) s.2.2.1 && (!s.2.2.2.2 || eqi (Int.ofNat bs.length + Int.ofNat ws.length) n)))) = true))) := by
    rintro x ⟨s1, s2, s3, s4, s5⟩ rfl
    rw [et]
    unfold rightS
    dsimp only
    cases eqi t 0 with
    | true =>
      rw [if_neg (by decide), Bool.or_true, Bool.true_and, <- Bool.eq_iff_iff]
      constructor
      · intro h _
        exact congrArg (fun o : BB => o.elim false (·.1)) h
      · intro h
        rw [h rfl]
    | false =>
      rw [if_pos (by decide)]
      constructor
      · intro _ h; cases h
      · intro _; rfl
  have hb : ∀ x : Nat, (Int.ofNat x = 0) = (x = 0) := fun x => by rw [ofNat_eq]; exact propext (by omega)
  have ws0 : 0 ≤ Int.ofNat ws.length := Int.natCast_nonneg _
  have bs0 : 0 ≤ Int.ofNat bs.length := Int.natCast_nonneg _
  generalize hlb : Int.ofNat bs.length = lb at *
  generalize hlw : Int.ofNat ws.length = lw at *
  have bi : ∀ (x y : Bool), x = true -> ((x && y) = true ↔ y = true) := fun x y h => by rw [h]; rfl
  rcases shp_cases f with ⟨hf, e⟩ | ⟨hf, e⟩ | ⟨hf, e⟩ | ⟨hf, e⟩ | ⟨hf, e⟩ | ⟨hf, e⟩ | ⟨hf, e⟩ | ⟨hf, e⟩ <;> rw [e]
  · rcases hf with rfl | rfl
    · have k : qw_ lb lw n false (1, p, n, t, ws, bs) = if eqi lb 0 = true then if eqi lw 0 = true then if ge n 1 = true then some (le n 2000, ()) else some (false, ()) else some (false, ()) else some (false, ()) := rfl
      rw [k, if_dec eqi_iff fun _ => if_dec eqi_iff fun _ => if_dec ge_iff fun _ => rfl, if_pos (by decide)]
      refine (fin _ _ rfl).2 fun _ => ?_
      simp only [w n 2000 (by decide), z, eqi_iff, le_iff, ge_iff, Bool.and_eq_true, decide_eq_true_eq, Bool.not_false, Bool.not_true, Bool.true_or, Bool.false_or, and_true]
      omega
    · have k : qw_ lb lw n false (2, p, n, t, ws, bs) = if eqi lb 0 = true then if eqi lw 0 = true then if ge n 1 = true then some (le n 2000, ()) else some (false, ()) else some (false, ()) else some (false, ()) := rfl
      rw [k, if_dec eqi_iff fun _ => if_dec eqi_iff fun _ => if_dec ge_iff fun _ => rfl, if_pos (by decide)]
      refine (fin _ _ rfl).2 fun _ => ?_
      simp only [w n 2000 (by decide), z, eqi_iff, le_iff, ge_iff, Bool.and_eq_true, decide_eq_true_eq, Bool.not_false, Bool.not_true, Bool.true_or, Bool.false_or, and_true]
      omega
  · rcases hf with rfl | rfl
    · have k : qw_ lb lw n false (3, p, n, t, ws, bs) = if eqi lb 0 = true then if eqi lw 0 = true then if ge n 1 = true then some (le n 125, ()) else some (false, ()) else some (false, ()) else some (false, ()) := rfl
      rw [k, if_dec eqi_iff fun _ => if_dec eqi_iff fun _ => if_dec ge_iff fun _ => rfl, if_pos (by decide)]
      refine (fin _ _ rfl).2 fun _ => ?_
      simp only [w n 125 (by decide), z, eqi_iff, le_iff, ge_iff, Bool.and_eq_true, decide_eq_true_eq, Bool.not_false, Bool.not_true, Bool.true_or, Bool.false_or, and_true]
      omega
    · have k : qw_ lb lw n false (4, p, n, t, ws, bs) = if eqi lb 0 = true then if eqi lw 0 = true then if ge n 1 = true then some (le n 125, ()) else some (false, ()) else some (false, ()) else some (false, ()) := rfl
      rw [k, if_dec eqi_iff fun _ => if_dec eqi_iff fun _ => if_dec ge_iff fun _ => rfl, if_pos (by decide)]
      refine (fin _ _ rfl).2 fun _ => ?_
      simp only [w n 125 (by decide), z, eqi_iff, le_iff, ge_iff, Bool.and_eq_true, decide_eq_true_eq, Bool.not_false, Bool.not_true, Bool.true_or, Bool.false_or, and_true]
      omega
  · subst hf
    · have k : qw_ lb lw n false (5, p, n, t, ws, bs) = if eqi lb 1 = true then if eqi lw 0 = true then some (eqi n 0, ()) else some (false, ()) else some (false, ()) := rfl
      rw [k, if_dec eqi_iff fun _ => if_dec eqi_iff fun _ => rfl, if_pos (by decide)]
      refine (fin _ _ rfl).2 fun _ => ?_
      simp only [w lb 1 (by decide), z, eqi_iff, le_iff, ge_iff, Bool.and_eq_true, decide_eq_true_eq, Bool.not_false, Bool.not_true, Bool.true_or, Bool.false_or, and_true]
      omega
  · subst hf
    · have k : qw_ lb lw n false (6, p, n, t, ws, bs) = if eqi lb 0 = true then if eqi lw 1 = true then some (eqi n 0, ()) else some (false, ()) else some (false, ()) := rfl
      rw [k, if_dec eqi_iff fun _ => if_dec eqi_iff fun _ => rfl, if_pos (by decide)]
      refine (fin _ _ rfl).2 fun _ => ?_
      simp only [w lw 1 (by decide), z, eqi_iff, le_iff, ge_iff, Bool.and_eq_true, decide_eq_true_eq, Bool.not_false, Bool.not_true, Bool.true_or, Bool.false_or, and_true]
      omega
  · subst hf
    · have k : qw_ lb lw n false (15, p, n, t, ws, bs) = if eqi lb n = true then if eqi lw 0 = true then if ge n 1 = true then some (le n 1968, ()) else some (false, ()) else some (false, ()) else some (false, ()) := rfl
      rw [k, if_dec eqi_iff fun _ => if_dec eqi_iff fun _ => if_dec ge_iff fun _ => rfl, if_pos (by decide)]
      refine (fin _ _ rfl).2 fun _ => ?_
      simp only [w n 1968 (by decide), w lb 1968 (by decide), z, eqi_iff, le_iff, ge_iff, Bool.and_eq_true, decide_eq_true_eq, Bool.not_false, Bool.not_true, Bool.true_or, Bool.false_or, and_true]
      omega
  · subst hf
    · have k : qw_ lb lw n false (16, p, n, t, ws, bs) = if eqi lb 0 = true then if eqi lw n = true then if ge n 1 = true then some (le n 123, ()) else some (false, ()) else some (false, ()) else some (false, ()) := rfl
      rw [k, if_dec eqi_iff fun _ => if_dec eqi_iff fun _ => if_dec ge_iff fun _ => rfl, if_pos (by decide)]
      refine (fin _ _ rfl).2 fun _ => ?_
      simp only [w n 123 (by decide), w lw 123 (by decide), z, eqi_iff, le_iff, ge_iff, Bool.and_eq_true, decide_eq_true_eq, Bool.not_false, Bool.not_true, Bool.true_or, Bool.false_or, and_true]
      omega
  · subst hf
    have k : qw_ lb lw n false (23, p, n, t, ws, bs) = if eqi lb 0 = true then if ge lw 1 = true then if le lw 121 = true then if ge n 1 = true then some (le n 125, ()) else some (false, ()) else some (false, ()) else some (false, ()) else some (false, ()) := rfl
    rw [k, if_dec eqi_iff fun _ => if_dec ge_iff fun _ => if_dec le_iff fun _ => if_dec ge_iff fun _ => rfl, if_neg (by decide)]
    refine congrArg (fun x => some (x, ())) ?_
    rw [Bool.eq_iff_iff]
    unfold rightS
    dsimp only
    rw [hlb, hlw]
    simp only [w n 125 (by decide), w lw 121 (by decide), z, eqi_iff, le_iff, ge_iff, Bool.and_eq_true, decide_eq_true_eq, Bool.not_false, Bool.not_true, Bool.true_or, Bool.false_or, and_true, true_and]
    omega
  · obtain ⟨q1, q2, q3, q4, q5, q6, q7, q8, q9⟩ := hf
    have nf : ∀ k : Int, f ≠ k -> eqi f k = false := fun k hk => by rw [<- Bool.not_eq_true, eqi_iff]; exact hk
    have k : qw_ lb lw n false (f, p, n, t, ws, bs) = some (false, ()) := by
      unfold qw_ qjp_ qee_ qjo_ qe1_ qjk_
      simp only [nf _ q1, nf _ q2, nf _ q3, nf _ q4, nf _ q5, nf _ q6, nf _ q7, nf _ q8, nf _ q9, Bool.false_eq_true, if_false]
    rw [k]
    cases nei f 23 <;> cases nei t 0 <;> rfl
end Go.Proofs.Lx
end
section
namespace Pl
open Go Ev Sx
end Pl
namespace Go.Proofs.Lx
open Go Ev Sx Pl
set_option maxRecDepth 100000
theorem rtwo_eq {x : Int} {b : List Int} (h0 : 0 ≤ x) (h1 : x ≤ 65535) (hl : b.length ≤ 1000000) : ref02_Two (x, b, ()) = some (b ++ two x, ()) := by
  show qig_ x b = _
  unfold qig_
  obtain ⟨n, rfl⟩ := Int.eq_ofNat_of_zero_le h0
  have e1 : quo .i64 (n : Int) 256 = ((n / 256 : Nat) : Int) := quo_nat (d := 256) (by omega)
  have e2 : rem (n : Int) 256 = ((n % 256 : Nat) : Int) := rem_nat (d := 256)
  rw [need_small (by omega), need_small (by simp; omega), e1, e2, cvt8, cvt8]
  unfold two
  have e3 : ((n % 256 : Nat) : Int) % 256 = (n : Int) % 256 := by omega
  have e4 : ((n / 256 : Nat) : Int) % 256 = (n : Int) / 256 % 256 := by omega
  rw [e3, e4]
  simp
theorem rwords_eq {l out : List Int} (hw : ∀ x ∈ l, 0 ≤ x ∧ x ≤ 65535) (h : out.length + 2 * l.length ≤ 1000000) : ref02_Words (l, out, ()) = some (out ++ l.flatMap two, ()) := by
  show qei_ qa3_ l out = _
  unfold qei_ qa3_
  refine (loop_idx (xs := l) (mk := fun i acc => (l, (i : Int), acc)) (stp := fun o y => o ++ two y) (fin := fun acc => some (acc, ())) (fun i acc => acc.length ≤ out.length + 2 * i) ?_ ?_ ?_ l.length 0 out _ (by omega) (by omega) (by omega)).trans ?_
  · intro self i acc x hx hI
    have hi := (List.getElem?_eq_some_iff.1 hx).1
    have hxr := hw x (List.mem_of_getElem? hx)
    show q7e_ _ l (i : Int) acc = _
    unfold q7e_
    rw [if_pos (by rw [lt_iff, ofNat_eq]; omega), at_get hx, Option.bind_some, cvt64 (by omega) (by omega), rtwo_eq hxr.1 hxr.2 (by omega), Option.bind_some, succ64 (by omega)]
  · intro i acc x hx hI
    simp [two]
    omega
  · intro self acc _
    show q7e_ _ l (l.length : Int) acc = _
    unfold q7e_
    rw [if_neg (by rw [lt_iff, ofNat_eq]; omega)]
  · rw [List.drop_zero, foldl_app]
end Go.Proofs.Lx
end
section
namespace Go.Proofs.Lx
open Go Ev Sx Pl
set_option maxRecDepth 100000
def chV (l : List Bool) (m : Nat) : Int := byteV ((l.drop m).take (8 - m))
theorem chV_8 (l : List Bool) : chV l 8 = 0 := by
  unfold chV
  simp [byteV]
theorem chV_step {l : List Bool} {k : Nat} (h : k < 8) : chV l k = (if l.getD k false = true then 1 else 0) + 2 * chV l (k + 1) := by
  unfold chV
  by_cases hk : k < l.length
  · have e : 8 - k = (8 - (k + 1)) + 1 := by omega
    rw [List.drop_eq_getElem_cons hk, e, List.take_succ_cons, List.getD_eq_getElem?_getD, List.getElem?_eq_getElem hk]
    rfl
  · rw [List.drop_of_length_le (by omega), List.drop_of_length_le (by omega), List.getD_eq_getElem?_getD, List.getElem?_eq_none (by omega)]
    simp [byteV]
theorem chV_rng (l : List Bool) (m : Nat) : 0 ≤ chV l m ∧ chV l m < 256 := byteV_256 (by simp; omega)
theorem rpack_in {u : List Bool -> Int -> List Int -> Option (As [.sl (.int .u8)])} {bits : List Bool} {q : Nat} {out : List Int} (hl : bits.length ≤ 100000) (hq : 8 * q ≤ 100000) (ho : out.length ≤ 100000) :
    qbm_ u bits ((8 * q : Nat) : Int) 0 7 out = u bits ((8 * (q + 1) : Nat) : Int) (out ++ [byteV ((bits.drop (8 * q)).take 8)]) := by
  unfold qbm_
  have e0 : chV (bits.drop (8 * q)) 8 = 0 := chV_8 _
  refine (loop_det (mk := fun j => (bits, ((8 * q : Nat) : Int), chV (bits.drop (8 * q)) (8 - j), (7 : Int) - (j : Int), out)) (N := 8) ?_ ?_ 8 0 _ (by omega) (by omega))
  · intro self j hj
    obtain ⟨k, hk⟩ : ∃ k, k + j = 7 := ⟨7 - j, by omega⟩
    have e8 : 8 - j = k + 1 := by omega
    have e7 : 8 - (j + 1) = k := by omega
    have ek : (7 : Int) - (j : Int) = (k : Int) := by omega
    have ek2 : (7 : Int) - ((j + 1 : Nat) : Int) = (k : Int) - 1 := by omega
    rw [e8, e7, ek, ek2]
    have hr := chV_rng (bits.drop (8 * q)) (k + 1)
    have hst := chV_step (l := bits.drop (8 * q)) (k := k) (by omega)
    have hg : (bits.drop (8 * q)).getD k false = bits.getD (8 * q + k) false := by rw [List.getD_eq_getElem?_getD, List.getElem?_drop, <- List.getD_eq_getElem?_getD]
    rw [hg] at hst
    show q8v_ _ _ u _ bits ((8 * q : Nat) : Int) (chV (bits.drop (8 * q)) (k + 1)) (k : Int) out = _
    unfold q8v_
    have ea : add .i64 ((8 * q : Nat) : Int) (k : Int) = ((8 * q + k : Nat) : Int) := addn64 (by omega)
    have es : sub .i64 (k : Int) 1 = (k : Int) - 1 := sub64 (by omega) (by omega)
    rw [if_pos (by rw [ge_iff]; omega), ea, mul64 (by omega) (by omega)]
    have K3 : ∀ (t : Bool) (s : List Bool -> Int -> Int -> Int -> List Int -> Option (As [.sl (.int .u8)])), qbd_ u s bits ((8 * q : Nat) : Int) (chV (bits.drop (8 * q)) (k + 1) * 2) (k : Int) t out = s bits ((8 * q : Nat) : Int) ((if t = true then 1 else 0) + 2 * chV (bits.drop (8 * q)) (k + 1)) ((k : Int) - 1) out := fun t s => by
      unfold qbd_ ql6_ qfn_ qli_
      rw [es]
      cases t with
      | true =>
        rw [if_pos rfl, add64 (by omega) (by omega), if_pos rfl]
        congr 1
        omega
      | false =>
        rw [if_neg (by decide), if_neg (by decide)]
        congr 1
        omega
    by_cases hlt : 8 * q + k < bits.length
    · have hy : bits[8 * q + k]? = some (bits[8 * q + k]'hlt) := List.getElem?_eq_getElem hlt
      rw [if_pos (by rw [lt_iff, ofNat_eq]; omega), at_get hy, Option.bind_some, K3, hst, List.getD_eq_getElem?_getD, hy]
      rfl
    · rw [if_neg (by rw [lt_iff, ofNat_eq]; omega), K3, hst, List.getD_eq_getElem?_getD, List.getElem?_eq_none (by omega)]
      rfl
  · intro self
    have hr := chV_rng (bits.drop (8 * q)) 0
    have e9 : chV (bits.drop (8 * q)) (8 - 8) = byteV ((bits.drop (8 * q)).take 8) := rfl
    show q8v_ _ _ u _ bits ((8 * q : Nat) : Int) (chV (bits.drop (8 * q)) (8 - 8)) ((7 : Int) - ((8 : Nat) : Int)) out = _
    unfold q8v_
    rw [if_neg (by rw [ge_iff]; omega)]
    unfold qgu_ qll_ qg8_ qlk_
    have ea : add .i64 ((8 * q : Nat) : Int) 8 = ((8 * (q + 1) : Nat) : Int) := addn64 (m := 8) (by omega)
    rw [need_small (by omega), ea, e9, cvt8]
    have hr2 := byteV_256 (t := (bits.drop (8 * q)).take 8) (by simp; omega)
    have : byteV ((bits.drop (8 * q)).take 8) % 256 = byteV ((bits.drop (8 * q)).take 8) := by omega
    rw [this]
theorem rpack_eq {bits : List Bool} (h : bits.length ≤ 50000) : ref02_Pack (bits, ()) = some (packS bits, ()) := by
  show qgq_ qbr_ bits = _
  unfold qgq_ qbr_
  have hN : packN bits.length ≤ 10000 := by unfold packN; omega
  refine (loop_det (mk := fun q => (bits, ((8 * q : Nat) : Int), (packS bits).take q)) (N := packN bits.length) ?_ ?_ (packN bits.length) 0 _ (by omega) (by omega))
  · intro self q hq
    show q8k_ _ _ bits ((8 * q : Nat) : Int) ((packS bits).take q) = _
    unfold q8k_
    have hlt : 8 * q < bits.length := by unfold packN at hq; omega
    rw [if_pos (by rw [lt_iff, ofNat_eq]; omega)]
    refine (rpack_in (by omega) (by omega) (by simp; omega)).trans ?_
    have e : (packS bits).take (q + 1) = (packS bits).take q ++ [byteV ((bits.drop (8 * q)).take 8)] := by
      have hg : (packS bits)[q]? = some (byteV ((bits.drop (8 * q)).take 8)) := by
        unfold packS
        rw [List.getElem?_map, List.getElem?_range hq]
        rfl
      rw [List.take_add_one, hg]
      rfl
    rw [e]
  · intro self
    show q8k_ _ _ bits ((8 * packN bits.length : Nat) : Int) ((packS bits).take (packN bits.length)) = _
    unfold q8k_
    rw [if_neg (by rw [lt_iff, ofNat_eq]; unfold packN; omega), List.take_of_length_le (by rw [packS_len]; omega)]
end Go.Proofs.Lx
end
section
namespace Go.Proofs.Lx
open Go Ev Sx Pl
set_option maxRecDepth 100000
theorem rbytes02_eq {a : TA} (h : OkA a) : ref02_Bytes (a, ()) = if rightA a = true then some (askB a, 0, ()) else some ([], 12, ()) := by
  show qdv_ q7j_ qy_ q4h_ a = _
  unfold qdv_
  rw [rright_eq h, Option.bind_some]
  cases hr : rightA a with
  | false => rfl
  | true =>
    have hra := rightA_RA hr
    have hat0 := h.at0
    have hat1 := h.at1
    have hm0 := h.m0
    have hm1 := h.m1
    have ht0 := h.t0
    have ht1 := h.t1
    have hw := h.w
    rw [if_neg (by decide), if_pos rfl, cvt64 (by omega) (by omega), rtwo_eq hat0 hat1 (by simp), Option.bind_some]
    clear hr h
    have K2 : ∀ o : List Int, qy_ o = some (o, 0, ()) := fun _ => rfl
    have K1 : ∀ (x : Int) (o : List Int), 0 ≤ x -> x ≤ 65535 -> o.length ≤ 1000000 -> q7j_ x o = some (o ++ two x, 0, ()) := fun x o h0 h1 h2 => by
      unfold q7j_ qjh_
      rw [rtwo_eq h0 h1 h2, Option.bind_some, K2]
    cases hra with
    | bits f p n hf h1 h2 =>
      rcases hf with rfl | rfl
      · show Option.bind (ref02_Two (cvt .i64 n, [1] ++ two p, ())) (fun y => qy_ y.1) = _
        rw [cvt64 (by dsimp only at hm0 hm1; omega) (by dsimp only at hm0 hm1; omega), rtwo_eq hm0 hm1 (by simp [two]), Option.bind_some, K2]
        rfl
      · show Option.bind (ref02_Two (cvt .i64 n, [2] ++ two p, ())) (fun y => qy_ y.1) = _
        rw [cvt64 (by dsimp only at hm0 hm1; omega) (by dsimp only at hm0 hm1; omega), rtwo_eq hm0 hm1 (by simp [two]), Option.bind_some, K2]
        rfl
    | words f p n hf h1 h2 =>
      rcases hf with rfl | rfl
      · show Option.bind (ref02_Two (cvt .i64 n, [3] ++ two p, ())) (fun y => qy_ y.1) = _
        rw [cvt64 (by dsimp only at hm0 hm1; omega) (by dsimp only at hm0 hm1; omega), rtwo_eq hm0 hm1 (by simp [two]), Option.bind_some, K2]
        rfl
      · show Option.bind (ref02_Two (cvt .i64 n, [4] ++ two p, ())) (fun y => qy_ y.1) = _
        rw [cvt64 (by dsimp only at hm0 hm1; omega) (by dsimp only at hm0 hm1; omega), rtwo_eq hm0 hm1 (by simp [two]), Option.bind_some, K2]
        rfl
    | coil p b =>
      cases b with
      | true => exact (K1 65280 ([5] ++ two p) (by decide) (by decide) (by simp [two])).trans rfl
      | false => exact (K1 0 ([5] ++ two p) (by decide) (by decide) (by simp [two])).trans rfl
    | word p x =>
      have hx := hw x (by simp)
      show Option.bind (ref02_Two (cvt .i64 x, [6] ++ two p, ())) (fun y => qy_ y.1) = _
      rw [cvt64 (by omega) (by omega), rtwo_eq hx.1 hx.2 (by simp [two]), Option.bind_some, K2]
      rfl
    | coils p l h1 h2 =>
      show Option.bind (ref02_Pack (l, ())) (fun y_1 => Option.bind (ref02_Two (cvt .i64 (l.length : Int), [15] ++ two p, ())) fun y => need (small (y.1.length + 1)) (need (small ((y.1 ++ [Int.ofNat (y_1.1.length % 256)]).length + y_1.1.length)) (qy_ (y.1 ++ [Int.ofNat (y_1.1.length % 256)] ++ y_1.1)))) = _
      rw [rpack_eq (by omega), Option.bind_some, cvt64 (by omega) (by omega), rtwo_eq (by omega) (by omega) (by simp [two]), Option.bind_some]
      dsimp only
      rw [need_small (by simp [two]), need_small (by simp [two, packS_len, packN]; omega), K2, packS_len]
      have e : packN l.length % 256 = packN l.length := by unfold packN; omega
      rw [e]
      rfl
    | regs p l h1 h2 =>
      have e2 : (2 * Int.ofNat l.length) % 256 = 2 * (l.length : Int) := by rw [ofNat_eq]; omega
      have k : Option.bind (ref02_Two (cvt .i64 (l.length : Int), [16] ++ two p, ())) (fun y => need (small (y.1.length + 1)) (q4h_ (16, p, (l.length : Int), 0, l, []) (y.1 ++ [cvt .u8 (mul .i64 2 (Int.ofNat l.length))]))) = some (askB (16, p, (l.length : Int), 0, l, []), 0, ()) := by
        rw [cvt64 (by omega) (by omega), rtwo_eq (by omega) (by omega) (by simp [two]), Option.bind_some]
        dsimp only
        rw [need_small (by simp [two]), mul64 (by rw [ofNat_eq]; omega) (by rw [ofNat_eq]; omega), cvt8, e2]
        unfold q4h_ qjl_
        rw [rwords_eq hw (by simp [two]; omega), Option.bind_some, K2]
        rfl
      show amb (eqAs q10_.rs) [Option.bind (ref02_Two (cvt .i64 (l.length : Int), [16] ++ two p, ())) (fun y => need (small (y.1.length + 1)) (q4h_ (16, p, (l.length : Int), 0, l, []) (y.1 ++ [cvt .u8 (mul .i64 2 (Int.ofNat l.length))]))), Option.bind (ref02_Two (cvt .i64 (l.length : Int), [16] ++ two p, ())) (fun y => need (small (y.1.length + 1)) (q4h_ (16, p, (l.length : Int), 0, l, []) (y.1 ++ [cvt .u8 (mul .i64 2 (Int.ofNat l.length))])))] = _
      rw [k]
      exact amb_same (eqAs_refl _) _
    | swap p n t l h1 h2 h3 h4 =>
      have e2 : (2 * Int.ofNat l.length) % 256 = 2 * (l.length : Int) := by rw [ofNat_eq]; omega
      show Option.bind (ref02_Two (cvt .i64 n, [23] ++ two p, ())) (fun y => Option.bind (ref02_Two (cvt .i64 t, y.1, ())) fun y => Option.bind (ref02_Two (Int.ofNat l.length, y.1, ())) fun y => need (small (y.1.length + 1)) (Option.bind (ref02_Words (l, y.1 ++ [cvt .u8 (mul .i64 2 (Int.ofNat l.length))], ())) fun y => qy_ y.1)) = _
      dsimp only at hm0 hm1 ht0 ht1 hw
      rw [cvt64 (by omega) (by omega), rtwo_eq hm0 hm1 (by simp [two]), Option.bind_some]
      dsimp only
      rw [cvt64 (by omega) (by omega), rtwo_eq ht0 ht1 (by simp [two]), Option.bind_some]
      dsimp only
      rw [rtwo_eq (by rw [ofNat_eq]; omega) (by rw [ofNat_eq]; omega) (by simp [two]), Option.bind_some]
      dsimp only
      rw [need_small (by simp [two]), mul64 (by rw [ofNat_eq]; omega) (by rw [ofNat_eq]; omega), cvt8, e2, rwords_eq hw (by simp [two]; omega), Option.bind_some, K2]
      rfl
end Go.Proofs.Lx
end
section
namespace Go.Proofs.Lx
open Go Ev Sx Pl
set_option maxRecDepth 100000
theorem nil_len {α : Type} {l : List α} : ((l.length : Nat) : Int) = 0 ↔ l = [] := by
  constructor
  · exact len0
  · rintro rfl; rfl
section
variable {f p n : Int} {bs : List Bool} {ws : List Int}
abbrev K1r (g : Int) (t : Bool) (r : TR) := q75_ (Int.ofNat r.2.2.1.length) (Int.ofNat r.2.2.2.1.length) g t r
abbrev K2r (g : Int) (t : Bool) (r : TR) := q9r_ (Int.ofNat r.2.2.1.length) (Int.ofNat r.2.2.2.1.length) g t r
theorem rr_bit {g : Int} : K1r g true (f, 0, bs, ws, p, n) = some (bitR (f, 0, bs, ws, p, n), ()) := by
  show (if ge (Int.ofNat bs.length) 8 = true then if le (Int.ofNat bs.length) 2000 = true then if eqi (rem (Int.ofNat bs.length) 8) 0 = true then if eqi (Int.ofNat ws.length) 0 = true then if eqi p 0 = true then some (eqi n 0, ()) else some (false, ()) else some (false, ()) else some (false, ()) else some (false, ()) else some (false, ())) = _
  have er : rem (Int.ofNat bs.length) 8 = ((bs.length % 8 : Nat) : Int) := rem_nat (d := 8)
  rw [er, if_dec ge_iff fun _ => if_dec le_iff fun _ => if_dec eqi_iff fun _ => if_dec eqi_iff fun _ => if_dec eqi_iff fun _ => rfl]
  refine congrArg (fun x => some (x, ())) ?_
  unfold bitR
  rw [Bool.eq_iff_iff]
  simp only [Bool.and_eq_true, decide_eq_true_eq, eqi_iff, Prod.mk.injEq, true_and, ofNat_eq, nil_len]
  constructor
  · rintro ⟨q1, q2, q3, q4, q5, q6⟩; exact ⟨by omega, by omega, by omega, q4, q5, q6⟩
  · rintro ⟨q1, q2, q3, q4, q5, q6⟩; exact ⟨by omega, by omega, by omega, q4, q5, q6⟩
theorem rr_word {g : Int} : K2r g true (f, 0, bs, ws, p, n) = some (wordR (f, 0, bs, ws, p, n), ()) := by
  show (if eqi (Int.ofNat bs.length) 0 = true then if ge (Int.ofNat ws.length) 1 = true then if le (Int.ofNat ws.length) 125 = true then if eqi p 0 = true then some (eqi n 0, ()) else some (false, ()) else some (false, ()) else some (false, ()) else some (false, ())) = _
  rw [if_dec eqi_iff fun _ => if_dec ge_iff fun _ => if_dec le_iff fun _ => if_dec eqi_iff fun _ => rfl]
  refine congrArg (fun x => some (x, ())) ?_
  unfold wordR
  rw [Bool.eq_iff_iff]
  simp only [Bool.and_eq_true, decide_eq_true_eq, eqi_iff, Prod.mk.injEq, true_and, ofNat_eq, nil_len]
  constructor
  · rintro ⟨q1, q2, q3, q4, q5⟩; exact ⟨by omega, by omega, q1, q4, q5⟩
  · rintro ⟨q1, q2, q3, q4, q5⟩; exact ⟨q3, by omega, by omega, q4, q5⟩
theorem rr_coil : K2r 5 false (5, 0, bs, ws, p, n) = some (obR (5, 0, bs, ws, p, n), ()) := by
  show (if eqi (Int.ofNat bs.length) 1 = true then if eqi (Int.ofNat ws.length) 0 = true then some (eqi n 0, ()) else some (false, ()) else some (false, ())) = _
  rw [if_dec eqi_iff fun _ => if_dec eqi_iff fun _ => rfl]
  refine congrArg (fun x => some (x, ())) ?_
  unfold obR
  rw [Bool.eq_iff_iff]
  simp only [Bool.and_eq_true, decide_eq_true_eq, eqi_iff, Prod.mk.injEq, true_and, ofNat_eq, nil_len]
  constructor
  · rintro ⟨q1, q2, q3⟩; exact ⟨by omega, q2, q3⟩
  · rintro ⟨q1, q2, q3⟩; exact ⟨by omega, q2, q3⟩
theorem rr_reg : K2r 6 false (6, 0, bs, ws, p, n) = some (owR (6, 0, bs, ws, p, n), ()) := by
  show (if eqi (Int.ofNat bs.length) 0 = true then if eqi (Int.ofNat ws.length) 1 = true then some (eqi n 0, ()) else some (false, ()) else some (false, ())) = _
  rw [if_dec eqi_iff fun _ => if_dec eqi_iff fun _ => rfl]
  refine congrArg (fun x => some (x, ())) ?_
  unfold owR
  rw [Bool.eq_iff_iff]
  simp only [Bool.and_eq_true, decide_eq_true_eq, eqi_iff, Prod.mk.injEq, true_and, ofNat_eq, nil_len]
  constructor
  · rintro ⟨q1, q2, q3⟩; exact ⟨by omega, q1, q3⟩
  · rintro ⟨q1, q2, q3⟩; exact ⟨q2, by omega, q3⟩
theorem rr_ct {k : Int} : (if eqi (Int.ofNat bs.length) 0 = true then if eqi (Int.ofNat ws.length) 0 = true then if ge n 1 = true then some (le n k, ()) else some (false, ()) else some (false, ()) else some (false, ()) : BB) = some (ctR k (f, 0, bs, ws, p, n), ()) := by
  rw [if_dec eqi_iff fun _ => if_dec eqi_iff fun _ => if_dec ge_iff fun _ => rfl]
  refine congrArg (fun x => some (x, ())) ?_
  unfold ctR
  rw [Bool.eq_iff_iff]
  simp only [Bool.and_eq_true, decide_eq_true_eq, eqi_iff, le_iff, Prod.mk.injEq, true_and, and_true, ofNat_eq, nil_len]
  constructor
  · rintro ⟨q1, q2, q3, q4⟩; exact ⟨q3, q4, q1, q2⟩
  · rintro ⟨q3, q4, q1, q2⟩; exact ⟨q1, q2, q3, q4⟩
theorem rr_ex {e : Int} (hf : 0 ≤ f) (he : 0 ≤ e) (hz : e ≠ 0) : (if le f 127 = true then if le e 4 = true then if eqi (Int.ofNat bs.length) 0 = true then if eqi (Int.ofNat ws.length) 0 = true then if eqi p 0 = true then some (eqi n 0, ()) else some (false, ()) else some (false, ()) else some (false, ()) else some (false, ()) else some (false, ()) : BB) = some (exR (f, e, bs, ws, p, n), ()) := by
  rw [if_dec le_iff fun _ => if_dec le_iff fun _ => if_dec eqi_iff fun _ => if_dec eqi_iff fun _ => if_dec eqi_iff fun _ => rfl]
  refine congrArg (fun x => some (x, ())) ?_
  unfold exR
  rw [Bool.eq_iff_iff]
  simp only [Bool.and_eq_true, decide_eq_true_eq, eqi_iff, Prod.mk.injEq, true_and, ofNat_eq, nil_len]
  constructor
  · rintro ⟨q1, q2, q3, q4, q5, q6⟩; exact ⟨by omega, by omega, q2, (rem128 hf (by omega)).symm, q3, q4, q5, q6⟩
  · rintro ⟨q1, q2, q3, q4, q5, q6, q7, q8⟩; exact ⟨by omega, q3, q5, q6, q7, q8⟩
end
theorem rrightR_eq {r : TR} (h : OkR r) : ref03_Right (r, ()) = some (rightR r, ()) := by
  have hf0 := h.f0
  have he0 := h.e0
  obtain ⟨f, e, bs, ws, p, n⟩ := r
  dsimp only at hf0 he0
  clear h
  show qea_ q75_ (f, e, bs, ws, p, n) = _
  unfold qea_ rightR
  dsimp only
  by_cases hz : e = 0
  · subst hz
    have n0 : ¬ nei (0 : Int) 0 = true := by decide
    rw [if_neg n0, if_neg n0]
    have nf : ∀ {k : Int}, f ≠ k -> eqi f k = false := fun {k} hk => by rw [<- Bool.not_eq_true, eqi_iff]; exact hk
    by_cases h1 : f = 1
    · subst h1; exact rr_bit (g := 1)
    by_cases h2 : f = 2
    · subst h2; exact rr_bit (g := 2)
    by_cases h3 : f = 3
    · subst h3; exact rr_word (g := 3)
    by_cases h4 : f = 4
    · subst h4; exact rr_word (g := 4)
    by_cases h5 : f = 23
    · subst h5; exact rr_word (g := 23)
    by_cases h6 : f = 5
    · subst h6; exact rr_coil
    by_cases h7 : f = 6
    · subst h7; exact rr_reg
    by_cases h8 : f = 15
    · subst h8; exact rr_ct
    by_cases h9 : f = 16
    · subst h9; exact rr_ct
    unfold q75_ qix_ q9r_ qja_
    simp only [nf h1, nf h2, nf h3, nf h4, nf h5, nf h6, nf h7, nf h8, nf h9, Bool.false_eq_true, if_false]
  · have n1 : nei e 0 = true := nei_iff.2 hz
    rw [if_pos n1, if_pos n1]
    exact rr_ex hf0 he0 hz
end Go.Proofs.Lx
end
section
namespace Go.Proofs.Lx
open Go Ev Sx Pl
set_option maxRecDepth 100000
theorem r3K5 {x : Int} {o : List Int} (h0 : 0 ≤ x) (h1 : x ≤ 65535) (hl : o.length ≤ 1000) : q4l_ x o = some (o ++ two x, 0, ()) := by
  unfold q4l_ qjn_
  rw [rtwo_eq h0 h1 (by omega), Option.bind_some]
theorem r3bytes_eq {r : TR} (h : OkR r) : ref03_Bytes (r, ()) = if rightR r = true then some (repB r, 0, ()) else some ([], 13, ()) := by
  show qef_ qa0_ r = _
  unfold qef_
  rw [rrightR_eq h, Option.bind_some]
  cases hr : rightR r with
  | false => rfl
  | true =>
    have hra := rightR_RR h hr
    have ha0 := h.at0
    have ha1 := h.at1
    have hm0 := h.m0
    have hm1 := h.m1
    have hw := h.w
    rw [if_neg (by decide), if_pos rfl]
    clear hr h
    have K1b : ∀ (g f : Int) (l : List Bool), l.length ≤ 2000 -> qa0_ g true (f, 0, l, [], 0, 0) = some (f :: (packN l.length : Int) % 256 :: packS l, 0, ()) := fun g f l hl => by
      show Option.bind (ref02_Pack (l, ())) (fun y => need (small (2 + y.1.length)) (some (f :: Int.ofNat (y.1.length % 256) :: y.1, 0, ()))) = _
      have hN : packN l.length ≤ 300 := by unfold packN; omega
      rw [rpack_eq (by omega), Option.bind_some, need_small (by rw [packS_len]; omega), packS_len]
      rfl
    have K2w : ∀ (f : Int) (l : List Int), l.length ≤ 200 -> (∀ x ∈ l, 0 ≤ x ∧ x ≤ 65535) -> qdj_ true (f, 0, [], l, 0, 0) = some (wordB (f, 0, [], l, 0, 0), 0, ()) := fun f l hl hx => by
      show Option.bind (ref02_Words (l, [f, cvt .u8 (mul .i64 2 (Int.ofNat l.length))], ())) (fun y => some (y.1, 0, ())) = _
      rw [mul64 (by rw [ofNat_eq]; omega) (by rw [ofNat_eq]; omega), cvt8, rwords_eq hx (by simp; omega), Option.bind_some]
      rfl
    cases hra with
    | ex f e h0 h h1 h2 =>
      have n1 : nei e 0 = true := by rw [nei_iff]; omega
      unfold repB
      dsimp only
      rw [if_pos n1, if_pos n1]
      rfl
    | bits f l hf h1 h2 h3 =>
      rcases hf with rfl | rfl
      · exact (K1b 1 1 l h2).trans rfl
      · exact (K1b 2 2 l h2).trans rfl
    | words f l hf h1 h2 =>
      rcases hf with rfl | rfl | rfl
      · exact (K2w 3 l (by omega) hw).trans rfl
      · exact (K2w 4 l (by omega) hw).trans rfl
      · exact (K2w 23 l (by omega) hw).trans rfl
    | coil b p =>
      dsimp only at ha0 ha1
      show Option.bind (ref02_Two (cvt .i64 p, [5], ())) (fun y => qdu_ (cvt .i64 0) b (5, 0, [b], [], p, 0) y.1) = _
      rw [cvt64 (by omega) (by omega), rtwo_eq ha0 ha1 (by simp), Option.bind_some]
      cases b with
      | true => exact (r3K5 (x := 65280) (o := [5] ++ two p) (by decide) (by decide) (by simp [two])).trans rfl
      | false => exact (r3K5 (x := 0) (o := [5] ++ two p) (by decide) (by decide) (by simp [two])).trans rfl
    | word x p =>
      dsimp only at ha0 ha1 hw
      have hx := hw x (by simp)
      show Option.bind (ref02_Two (cvt .i64 p, [6], ())) (fun y => q4l_ (cvt .i64 x) y.1) = _
      rw [cvt64 (by omega) (by omega), rtwo_eq ha0 ha1 (by simp), Option.bind_some, cvt64 (by omega) (by omega)]
      exact (r3K5 hx.1 hx.2 (by simp [two])).trans rfl
    | coils p n h1 h2 =>
      dsimp only at ha0 ha1 hm0 hm1
      show Option.bind (ref02_Two (cvt .i64 p, [15], ())) (fun y => q4l_ (cvt .i64 n) y.1) = _
      rw [cvt64 (by omega) (by omega), rtwo_eq ha0 ha1 (by simp), Option.bind_some, cvt64 (by omega) (by omega)]
      exact (r3K5 hm0 hm1 (by simp [two])).trans rfl
    | regs p n h1 h2 =>
      dsimp only at ha0 ha1 hm0 hm1
      show Option.bind (ref02_Two (cvt .i64 p, [16], ())) (fun y => q4l_ (cvt .i64 n) y.1) = _
      rw [cvt64 (by omega) (by omega), rtwo_eq ha0 ha1 (by simp), Option.bind_some, cvt64 (by omega) (by omega)]
      exact (r3K5 hm0 hm1 (by simp [two])).trans rfl
end Go.Proofs.Lx
end
section
namespace Go.Proofs.Lx
open Go Ev Sx Pl
set_option maxRecDepth 100000
theorem r23right_eq {l : List TJob} (hl : l.length ≤ 1000000) : ref23_Right (l, ()) = some (rightJ 0 l, ()) := by
  show qab_ l 0 0 = _
  rw [<- rightJ_go]
  unfold qab_
  refine loop_go (xs := l) (mk := fun i b => (l, b, (i : Int))) ?_ ?_ l.length 0 0 _ (by omega) (by omega)
  · intro self i b j hj
    have hi := (List.getElem?_eq_some_iff.1 hj).1
    show q7i_ _ _ l b (i : Int) = _
    unfold q7i_
    rw [if_pos (by rw [lt_iff, ofNat_eq]; omega), at_get hj, Option.bind_some]
    have K2 : ∀ t, qa4_ (fun l last i => self (l, last, i)) l (i : Int) t j = if t = true then some (false, ()) else self (l, j.1, ((i + 1 : Nat) : Int)) := fun t => by
      unfold qa4_ qiy_
      rw [succ64 (by omega)]
    rw [K2, K2]
    simp only [le_dec, lt_dec, eqi_iff, gt_dec, decide_eq_true_eq, ofNat_eq]
    grind
  · intro self b
    show q7i_ _ _ l b (l.length : Int) = _
    unfold q7i_
    rw [if_neg (by rw [lt_iff, ofNat_eq]; omega)]
theorem rstand_eq {waits : List Int} (hl : waits.length ≤ 1000000) {j : TJob} (h0 : 0 ≤ j.2.2.2) (h1 : j.2.2.2 < 256) : ref29_stand (j, waits, ()) = some (stW waits j, ()) := by
  have key : ∀ (r : List Int), goL (R := Int × Unit) (fun (_ : Unit) (x : Int) k => if j.2.2.2 = 1 ∧ x = j.1 then some (6, ()) else k ()) (fun _ => some (j.2.2.2, ())) r () = some (stW r j, ()) := by
    intro r
    induction r with
    | nil =>
      unfold stW
      rw [if_neg (fun e => by cases e.2)]
      rfl
    | cons x r ih =>
      show (if _ then _ else goL _ _ r ()) = _
      rw [ih]
      unfold stW
      by_cases h : j.2.2.2 = 1 ∧ x = j.1
      · rw [if_pos h, if_pos ⟨h.1, by rw [h.2]; exact List.mem_cons_self⟩]
      · rw [if_neg h]
        by_cases h2 : j.2.2.2 = 1 ∧ j.1 ∈ r
        · rw [if_pos h2, if_pos ⟨h2.1, List.mem_cons_of_mem _ h2.2⟩]
        · rw [if_neg h2, if_neg (fun e => by
            rcases List.mem_cons.1 e.2 with e2 | e2
            · exact h ⟨e.1, e2.symm⟩
            · exact h2 ⟨e.1, e2⟩)]
  show qac_ waits ((0 : Nat) : Int) j = _
  rw [<- key]
  unfold qac_
  refine loop_go (xs := waits) (mk := fun i _ => (waits, (i : Int), j)) ?_ ?_ waits.length 0 () _ (by omega) (by omega)
  · intro self i _ x hx
    have hi := (List.getElem?_eq_some_iff.1 hx).1
    show q79_ _ _ _ waits (i : Int) j = _
    unfold q79_
    have K2 : ∀ t, q9y_ (fun waits i j => self (waits, i, j)) waits (i : Int) t j = if t = true then some (6, ()) else self (waits, ((i + 1 : Nat) : Int), j) := fun t => by
      unfold q9y_ qjg_
      rw [succ64 (by omega)]
    rw [if_pos (by rw [lt_iff, ofNat_eq]; omega), at_get hx, Option.bind_some, K2, K2]
    by_cases h : j.2.2.2 = 1
    · rw [if_pos (eqi_iff.2 h)]
      by_cases h2 : x = j.1
      · rw [if_pos (eqi_iff.2 h2), if_pos ⟨h, h2⟩]
      · rw [if_neg (fun e => h2 (eqi_iff.1 e)), if_neg (fun e => h2 e.2)]
    · rw [if_neg (fun e => h (eqi_iff.1 e)), if_neg (by decide), if_neg (fun e => h e.1)]
  · intro self _
    show q79_ _ _ _ waits (waits.length : Int) j = _
    unfold q79_
    rw [if_neg (by rw [lt_iff, ofNat_eq]; omega)]
    show some (cvt .u16 j.2.2.2, ()) = _
    rw [cvt16, Int.emod_eq_of_lt (by omega) (by omega)]
theorem rmem_eq {l : List TJob} (hl : l.length ≤ 60000) {waits : List Int} (hw : waits.length ≤ 1000000) (ho : ∀ j ∈ l, OkJ j) : ref29_Mem (l, waits, ()) = some (([], [], memH l waits, []), ()) := by
  obtain ⟨n1, n2, n3, n4⟩ := shown_len l
  have hfrom : ref29_Mem (l, waits, ()) = q7z_ l waits ((l.length - 12 : Nat) : Int) (List.replicate 50 0) := by
    show qim_ q7z_ l waits = _
    unfold qim_
    by_cases h : 12 < l.length
    · rw [if_pos (by rw [gt_iff, ofNat_eq]; omega), ofNat_eq, sub64 (by omega) (by omega)]
      congr 1
      omega
    · rw [if_neg (by rw [gt_iff, ofNat_eq]; omega), show l.length - 12 = 0 by omega]
      rfl
  rw [hfrom]
  have ea : cvt .u16 (Int.ofNat l.length) = (l.length : Int) := by rw [ofNat_eq, cvt16]; omega
  have eb : cvt .u16 (sub .i64 (Int.ofNat l.length) ((l.length - 12 : Nat) : Int)) = ((shownS l).length : Int) := by
    rw [ofNat_eq, sub64 (by omega) (by omega), cvt16]; omega
  have h1 : q7z_ l waits ((l.length - 12 : Nat) : Int) (List.replicate 50 0) = qcn_ l waits ((l.length - 12 : Nat) : Int) ((l.length - 12 : Nat) : Int) (memP (l.length : Int) ((shownS l).length : Int) waits (shownS l) 0) := by
    unfold q7z_ qm7_
    have : lt (Int.ofNat l.length) 65535 = true := by rw [lt_iff, ofNat_eq]; omega
    rw [this]
    show qcp_ l waits ((l.length - 12 : Nat) : Int) (List.set (List.set (List.replicate 50 0) 0 65535) 0 (cvt .u16 (Int.ofNat l.length))) = _
    rw [ea]
    unfold qcp_ qmf_
    rw [eb]
    rfl
  rw [h1]
  unfold memH
  rw [if_neg (by omega)]
  have fin : some ((([] : List Bool), ([] : List Bool), (l.length : Int) :: ((shownS l).length : Int) :: ((shownS l).flatMap (lineS waits) ++ List.replicate (4 * (12 - (shownS l).length)) 0), ([] : List Int)), ()) = qcq_ (memP (l.length : Int) ((shownS l).length : Int) waits (shownS l) (shownS l).length) := by
    unfold memP qcq_ qmn_
    rw [List.take_length]
    rfl
  rw [fin]
  unfold qcn_
  have hsub : ∀ j ∈ shownS l, OkJ j := fun j hj => ho j (List.mem_of_mem_drop hj)
  have hget : ∀ i, i < (shownS l).length -> l[l.length - 12 + i]? = (shownS l)[i]? := fun i hi => by unfold shownS; rw [List.getElem?_drop]
  generalize hS : shownS l = S at *
  refine loop_dt (N := S.length) (mk := fun i => (l, waits, ((l.length - 12 : Nat) : Int), ((l.length - 12 + i : Nat) : Int), memP (l.length : Int) (S.length : Int) waits S i)) ?_ ?_ S.length 0 _ (by omega) (by omega)
  · intro self i hi
    have hj := List.getElem?_eq_getElem hi
    have hok := hsub _ (List.getElem_mem hi)
    have hjl := hget i hi
    generalize hjj : S[i] = j at hj hok
    rw [hj] at hjl
    show qaa_ _ _ l waits ((l.length - 12 : Nat) : Int) ((l.length - 12 + i : Nat) : Int) (memP (l.length : Int) (S.length : Int) waits S i) = _
    unfold qaa_
    have hd : sub .i64 ((l.length - 12 + i : Nat) : Int) ((l.length - 12 : Nat) : Int) = (i : Int) := by rw [sub64 (by omega) (by omega)]; omega
    have e0 : add .i64 2 (mul .i64 4 (i : Int)) = ((2 + 4 * i : Nat) : Int) := by
      rw [mul64 (by omega) (by omega), add64 (by omega) (by omega)]; omega
    have e1 : add .i64 ((2 + 4 * i : Nat) : Int) 1 = ((2 + 4 * i + 1 : Nat) : Int) := succ64 (by omega)
    have e2 : add .i64 ((2 + 4 * i : Nat) : Int) 2 = ((2 + 4 * i + 2 : Nat) : Int) := by rw [add64 (by omega) (by omega)]; omega
    have e3 : add .i64 ((2 + 4 * i : Nat) : Int) 3 = ((2 + 4 * i + 3 : Nat) : Int) := by rw [add64 (by omega) (by omega)]; omega
    have q1 : cvt .u16 (quo .u32 j.1 65536) = j.1 / 65536 := by
      unfold quo
      rw [Int.tdiv_eq_ediv_of_nonneg hok.1, cvt16]
      show cvt .u32 _ % 65536 = _
      rw [cvt32]
      have := hok.2.1
      have := hok.1
      omega
    have q2 : cvt .u16 (rem j.1 65536) = j.1 % 65536 := by
      unfold rem
      rw [Int.tmod_eq_emod_of_nonneg hok.1, cvt16]
      omega
    have q3 : cvt .u16 j.2.1 = j.2.1 := by
      have := hok.2.2
      rw [cvt16]; omega
    have hP : ((l.length : Int) :: (S.length : Int) :: (S.take i).flatMap (lineS waits)).length = 2 + 4 * i := by
      rw [List.length_cons, List.length_cons, flat4 (line4 waits), List.length_take]; omega
    have hR : List.replicate (4 * (12 - i)) (0 : Int) = 0 :: 0 :: 0 :: 0 :: List.replicate (4 * (12 - (i + 1))) 0 := by
      rw [show 4 * (12 - i) = 4 * (12 - (i + 1)) + 4 by omega]
      rfl
    have hm : memP (l.length : Int) (S.length : Int) waits S i = ((l.length : Int) :: (S.length : Int) :: (S.take i).flatMap (lineS waits)) ++ 0 :: 0 :: 0 :: 0 :: List.replicate (4 * (12 - (i + 1))) 0 := by
      unfold memP
      rw [hR]
    obtain ⟨g0, g1, g2, g3, g4⟩ := four_set (P := (l.length : Int) :: (S.length : Int) :: (S.take i).flatMap (lineS waits)) (Q := List.replicate (4 * (12 - (i + 1))) 0) (j.1 / 65536) (j.1 % 65536) (stW waits j) j.2.1 0 0 0 0 hP
    rw [<- hm] at g0 g1 g2 g3 g4
    have hlt : l.length - 12 + i < l.length := (List.getElem?_eq_some_iff.1 hjl).1
    rw [if_pos (by rw [lt_iff, ofNat_eq]; omega), at_get hjl]
    simp only [Option.bind_some]
    rw [hd, e0, e1, e2, e3]
    simp only [Int.toNat_natCast]
    rw [q1, q2, q3, g0]
    simp only [Option.bind_some]
    rw [g1]
    simp only [Option.bind_some]
    rw [rstand_eq hw hok.2.2.2.2.1 hok.2.2.2.2.2]
    simp only [Option.bind_some]
    rw [g2]
    simp only [Option.bind_some]
    rw [g3]
    simp only [Option.bind_some]
    have hm2 : ((l.length : Int) :: (S.length : Int) :: (S.take i).flatMap (lineS waits)) ++ j.1 / 65536 :: j.1 % 65536 :: stW waits j :: j.2.1 :: List.replicate (4 * (12 - (i + 1))) 0 = memP (l.length : Int) (S.length : Int) waits S (i + 1) := by
      unfold memP
      rw [List.take_succ_eq_append_getElem hi, hjj, List.flatMap_append]
      simp [lineS]
    rw [g4, hm2, succ64 (by omega), Nat.add_assoc]
  · intro self
    show qaa_ _ _ l waits ((l.length - 12 : Nat) : Int) ((l.length - 12 + S.length : Nat) : Int) _ = _
    unfold qaa_
    rw [if_neg (by rw [lt_iff, ofNat_eq]; omega)]
theorem same_self {l : List TLine} (hl : l.length ≤ 1000000) : law29_same (l, l, ()) = some (true, ()) := by
  show qgp_ qbg_ l l = _
  unfold qgp_
  rw [if_neg (by rw [nei_iff]; exact fun e => e rfl)]
  unfold qbg_
  refine loop_dt (N := l.length) (mk := fun i => (l, l, Int.ofNat l.length, (i : Int))) ?_ ?_ l.length 0 _ (by omega) (by omega)
  · intro self i hi
    have hg := List.getElem?_eq_getElem hi
    generalize l[i] = x at hg
    show q8m_ _ l l (Int.ofNat l.length) (i : Int) = _
    unfold q8m_
    have e : (eqi x.1 x.1 && (eqi x.2.1 x.2.1 && (eqi x.2.2 x.2.2 && true))) = true := by simp [eqi]
    rw [if_pos (by rw [lt_iff, ofNat_eq]; omega), at_get hg, Option.bind_some, Option.bind_some, e, if_neg (by decide), succ64 (by omega)]
  · intro self
    show q8m_ _ l l (Int.ofNat l.length) (l.length : Int) = _
    unfold q8m_
    rw [if_neg (by rw [lt_iff, ofNat_eq]; omega)]
end Go.Proofs.Lx
end
section
namespace Go.Proofs.Lx
open Go Ev Sx Pl
set_option maxRecDepth 100000
abbrev AccR := Int × List TLine
def rdBody (a s : Int) (i : Nat) (c : AccR) (x : TLine) (k : AccR -> RRd) : RRd :=
  if s ≤ (i : Int) then (if x = (0, 0, 0) then k c else noR)
  else if c.1 < x.1 ∧ possS x = true then (if i = 0 ∧ x.1 ≤ a - s then noR else need (small (c.2.length + 1)) (k (x.1, c.2 ++ [x]))) else noR
theorem rdBody_eq (a s : Int) (i : Nat) (c : AccR) (x : TLine) (k : AccR -> RRd) : rdBody a s i c x k = if s ≤ (i : Int) then (if x = (0, 0, 0) then k c else noR)
  else if c.1 < x.1 ∧ possS x = true then (if i = 0 ∧ x.1 ≤ a - s then noR else need (small (c.2.length + 1)) (k (x.1, c.2 ++ [x]))) else noR := rfl
def rdFin (c : AccR) : RRd := some (c.2, true, ())
theorem rd_tail (a : Int) {s : Int} : ∀ (r : List TLine) (i : Nat) (c : AccR), s ≤ (i : Int) -> goI (R := List TLine × Bool × Unit) (rdBody a s) rdFin i r c = if r.all (fun x => decide (x = (0, 0, 0))) = true then rdFin c else noR
  | [], _, _, _ => rfl
  | x :: r, i, c, h => by
    show rdBody a s i c x (goI _ _ (i + 1) r) = _
    rw [rdBody_eq]
    rw [if_pos h, rd_tail a r (i + 1) c (by omega), List.all_cons]
    by_cases hx : x = (0, 0, 0)
    · rw [if_pos hx, decide_eq_true hx, Bool.true_and]
    · rw [if_neg hx, decide_eq_false hx, Bool.false_and]
      rfl
theorem rd_mid (a : Int) (s : Nat) : ∀ (r : List TLine) (i : Nat) (c : AccR), 1 ≤ i -> i ≤ s -> c.2.length + r.length ≤ 1000 -> s - i ≤ r.length ->
    goI (R := List TLine × Bool × Unit) (rdBody a (s : Int)) rdFin i r c = if (okL c.1 (r.take (s - i)) && (r.drop (s - i)).all (fun x => decide (x = (0, 0, 0)))) = true then some (c.2 ++ r.take (s - i), true, ()) else noR
  | r, i, c, h1, h2, h3, h4 => by
    by_cases he : i = s
    · subst he
      rw [rd_tail a r i c (Int.le_refl _), Nat.sub_self, List.take_zero, List.drop_zero, List.append_nil]
      show _ = if (true && _) = true then _ else _
      rw [Bool.true_and]
      rfl
    · match r, h3, h4 with
      | [], h3, h4 => simp at h4; omega
      | x :: r, h3, h4 =>
        rw [List.length_cons] at h3 h4
        show rdBody a (s : Int) i c x (goI _ _ (i + 1) r) = _
        rw [rdBody_eq]
        rw [if_neg (by omega), show s - i = (s - (i + 1)) + 1 by omega, List.take_succ_cons, List.drop_succ_cons, okL_cons]
        by_cases hc : c.1 < x.1 ∧ possS x = true
        · rw [if_pos hc, if_neg (by omega), need_small (by omega), rd_mid a s r (i + 1) (x.1, c.2 ++ [x]) (by omega) (by omega) (by rw [List.length_append, List.length_singleton]; omega) (by omega), decide_eq_true hc.1, hc.2, Bool.true_and, Bool.true_and]
          dsimp only
          rw [List.append_assoc, List.singleton_append]
        · rw [if_neg hc]
          have : (decide (c.1 < x.1) && possS x) = false := by
            cases hp : possS x with
            | false => rw [Bool.and_false]
            | true => rw [decide_eq_false (fun e => hc ⟨e, hp⟩)]; rfl
          rw [this, Bool.false_and, Bool.false_and]
          rfl
termination_by r => r.length
theorem quads_drop : ∀ (n : Nat) (h : List Int), quads (h.drop (4 * n)) = (quads h).drop n
  | 0, h => rfl
  | n + 1, a :: b :: c :: d :: r => by
    rw [show 4 * (n + 1) = 4 * n + 4 by omega]
    show quads (r.drop (4 * n)) = (quads r).drop n
    exact quads_drop n r
  | n + 1, [] => by rw [List.drop_nil]; rfl
  | n + 1, [a] => by rw [List.drop_of_length_le (by simp; omega)]; rfl
  | n + 1, [a, b] => by rw [List.drop_of_length_le (by simp; omega)]; rfl
  | n + 1, [a, b, c] => by rw [List.drop_of_length_le (by simp; omega)]; rfl
theorem quads_zero : ∀ (n : Nat) {h : List Int}, h.length = 4 * n -> (∀ x ∈ h, 0 ≤ x) -> (quads h).all (fun x => decide (x = (0, 0, 0))) = h.all (fun x => decide (x = 0))
  | 0, h, e, _ => by rw [List.eq_nil_of_length_eq_zero (show h.length = 0 by omega)]; rfl
  | n + 1, a :: b :: c :: d :: r, e, hr => by
    show (decide ((65536 * a + b, c, d) = ((0 : Int), (0 : Int), (0 : Int))) && (quads r).all _) = _
    rw [quads_zero n (by simp at e; omega) (fun x hx => hr x (by simp [hx]))]
    have ha := hr a (by simp)
    have hb := hr b (by simp)
    simp only [List.all_cons, <- Bool.and_assoc]
    congr 1
    rw [Bool.eq_iff_iff]
    simp only [Bool.and_eq_true, decide_eq_true_eq, Prod.mk.injEq]
    omega
  | n + 1, [], e, _ => by simp at e
  | n + 1, [a], e, _ => by simp at e; omega
  | n + 1, [a, b], e, _ => by simp at e; omega
  | n + 1, [a, b, c], e, _ => by simp at e; omega
theorem rwide {p q : Int} (hp : 0 ≤ p ∧ p < 65536) (hq : 0 ≤ q ∧ q < 65536) : add .u32 (mul .u32 65536 (cvt .u32 p)) (cvt .u32 q) = 65536 * p + q := by
  rw [cvt32, cvt32, Int.emod_eq_of_lt hp.1 (by omega), Int.emod_eq_of_lt hq.1 (by omega)]
  show cvt .u32 (cvt .u32 (65536 * p) + q) = _
  rw [cvt32, cvt32]
  omega
theorem rread_K2 {h : List Int} (hl : h.length = 50) (hr : ∀ x ∈ h, 0 ≤ x ∧ x < 65536) {a s : Int} (ha : h[0]? = some a) (hs : h[1]? = some s) (has : s ≤ a) : q6r_ h 0 ((0 : Nat) : Int) [] = goI (R := List TLine × Bool × Unit) (rdBody a s) rdFin 0 ((quads (h.drop 2)).drop 0) (0, []) := by
  have hq : (quads (h.drop 2)).length = 12 := quads_len 12 (by rw [List.length_drop]; omega)
  have ra := hr a (List.mem_of_getElem? ha)
  have rs := hr s (List.mem_of_getElem? hs)
  have a0 : at? h 0 = some a := at_get (i := 0) ha
  have a1 : at? h 1 = some s := at_get (i := 1) hs
  unfold q6r_
  refine loop_goi (xs := quads (h.drop 2)) (mk := fun i (c : AccR) => (h, c.1, (i : Int), c.2)) ?_ ?_ 12 0 (0, []) _ (by omega) (by omega)
  · intro self i c x hx
    obtain ⟨last, out⟩ := c
    have hi : i < 12 := by
      have := (List.getElem?_eq_some_iff.1 hx).1
      omega
    have g0 : h[2 + 4 * i]? = some (h[2 + 4 * i]'(by omega)) := List.getElem?_eq_getElem (by omega)
    have g1 : h[2 + 4 * i + 1]? = some (h[2 + 4 * i + 1]'(by omega)) := List.getElem?_eq_getElem (by omega)
    have g2 : h[2 + 4 * i + 2]? = some (h[2 + 4 * i + 2]'(by omega)) := List.getElem?_eq_getElem (by omega)
    have g3 : h[2 + 4 * i + 3]? = some (h[2 + 4 * i + 3]'(by omega)) := List.getElem?_eq_getElem (by omega)
    have r0 := hr _ (List.getElem_mem (l := h) (n := 2 + 4 * i) (by omega))
    have r1 := hr _ (List.getElem_mem (l := h) (n := 2 + 4 * i + 1) (by omega))
    generalize (h[2 + 4 * i]'(by omega)) = p at g0 r0
    generalize (h[2 + 4 * i + 1]'(by omega)) = q at g1 r1
    generalize (h[2 + 4 * i + 2]'(by omega)) = u at g2
    generalize (h[2 + 4 * i + 3]'(by omega)) = v at g3
    have hx2 : x = (65536 * p + q, u, v) := by
      have := quads_nth i (h := h.drop 2) (a := p) (b := q) (c := u) (d := v) (by rw [List.getElem?_drop]; exact g0) (by rw [List.getElem?_drop]; exact g1) (by rw [List.getElem?_drop]; exact g2) (by rw [List.getElem?_drop]; exact g3)
      rw [this] at hx
      exact (Option.some.inj hx).symm
    have e0 : ∀ k : Nat, k ≤ 10 -> add .i64 (k : Int) (mul .i64 4 (i : Int)) = ((k + 4 * i : Nat) : Int) := fun k hk => by
      rw [mul64 (by omega) (by omega), add64 (by omega) (by omega)]; omega
    show q8r_ _ _ _ _ h last (i : Int) out = _
    unfold q8r_
    have i0 := e0 2 (by decide)
    have i1 := e0 3 (by decide)
    have i2 := e0 4 (by decide)
    have i3 := e0 5 (by decide)
    rw [show ((2 : Nat) : Int) = 2 from rfl] at i0
    rw [show ((3 : Nat) : Int) = 3 from rfl, show 3 + 4 * i = 2 + 4 * i + 1 by omega] at i1
    rw [show ((4 : Nat) : Int) = 4 from rfl, show 4 + 4 * i = 2 + 4 * i + 2 by omega] at i2
    rw [show ((5 : Nat) : Int) = 5 from rfl, show 5 + 4 * i = 2 + 4 * i + 3 by omega] at i3
    rw [if_pos (by rw [lt_iff]; omega), i0, i1, i2, i3, at_get g0, Option.bind_some, at_get g1, Option.bind_some, at_get g2, Option.bind_some, at_get g3, Option.bind_some, a1, Option.bind_some, rwide r0 r1, cvt64 (by omega) (by omega)]
    have K3 : ∀ l o, q6t_ (fun r last i out => self (r, last, i, out)) h l (i : Int) o = self (h, l, ((i + 1 : Nat) : Int), o) := fun l o => by
      unfold q6t_ ql7_
      rw [succ64 (by omega)]
    have K6 : ∀ t, qbk_ (fun r last i out => self (r, last, i, out)) h (i : Int) t out x = if t = true then noR else need (small (out.length + 1)) (self (h, x.1, ((i + 1 : Nat) : Int), out ++ [x])) := fun t => by
      unfold qbk_ ql8_
      rw [K3]
      rfl
    have K4 : ∀ t, qbo_ (fun r last i out => self (r, last, i, out)) h (i : Int) t out x = if t = true then noR else if i = 0 ∧ x.1 ≤ a - s then noR else need (small (out.length + 1)) (self (h, x.1, ((i + 1 : Nat) : Int), out ++ [x])) := fun t => by
      unfold qbo_ ql5_
      cases t with
      | true => rfl
      | false =>
        simp only [Bool.false_eq_true, if_false]
        by_cases hz : i = 0
        · rw [if_pos (by rw [eqi_iff]; omega), a0, a1, Option.bind_some, Option.bind_some, K6]
          have hb : cvt .u32 (sub .u16 a s) = a - s := by
            have : sub .u16 a s = a - s := by
              show cvt .u16 (a - s) = _
              rw [cvt16]; omega
            rw [this, cvt32]; omega
          rw [hb]
          by_cases hle : x.1 ≤ a - s
          · rw [if_pos (le_iff.2 hle), if_pos ⟨hz, hle⟩]
          · rw [if_neg (fun e => hle (le_iff.1 e)), if_neg (fun e => hle e.2)]
        · rw [if_neg (by rw [eqi_iff]; omega), K6, if_neg (by decide), if_neg (fun e => hz e.1)]
    subst hx2
    simp only [K3, K4]
    rw [rdBody_eq]
    dsimp only
    by_cases hsi : s ≤ (i : Int)
    · rw [if_pos (ge_iff.2 hsi), if_pos hsi]
      have hz : (eqi (65536 * p + q) 0 && (eqi u 0 && (eqi v 0 && true))) = decide ((65536 * p + q, u, v) = ((0 : Int), (0 : Int), (0 : Int))) := by
        rw [Bool.eq_iff_iff]
        simp only [Bool.and_eq_true, eqi_iff, decide_eq_true_eq, Prod.mk.injEq, and_true]
      rw [hz]
      by_cases hx0 : (65536 * p + q, u, v) = ((0 : Int), (0 : Int), (0 : Int))
      · rw [decide_eq_true hx0, if_neg (by decide), if_pos hx0]
      · rw [decide_eq_false hx0, if_pos (by decide), if_neg hx0]
        rfl
    · rw [if_neg (fun e => hsi (ge_iff.1 e)), if_neg hsi]
      have hp : possS (65536 * p + q, u, v) = true ↔ 1 ≤ u ∧ u ≤ 6 ∧ 1 ≤ v ∧ v ≤ 255 := by
        unfold possS
        rw [decide_eq_true_eq]
      simp only [hp, le_dec, lt_dec, gt_dec, decide_eq_true_eq, if_true]
      by_cases c1 : 65536 * p + q ≤ last
      · rw [if_pos c1, if_neg (fun e : _ ∧ _ => by omega)]
      · rw [if_neg c1]
        by_cases c2 : u < 1
        · rw [if_pos c2, if_neg (fun e : _ ∧ _ => by omega)]
        · rw [if_neg c2]
          by_cases c3 : 6 < u
          · rw [if_pos c3, if_neg (fun e : _ ∧ _ => by omega)]
          · rw [if_neg c3]
            by_cases c4 : v < 1
            · rw [if_pos c4, if_neg (fun e : _ ∧ _ => by omega)]
            · rw [if_neg c4]
              by_cases c5 : 255 < v
              · rw [if_pos c5, if_neg (fun e : _ ∧ _ => by omega)]
              · rw [if_neg c5, if_pos (show last < 65536 * p + q ∧ (1 ≤ u ∧ u ≤ 6 ∧ 1 ≤ v ∧ v ≤ 255) by omega)]
  · intro self c
    show q8r_ _ _ _ _ h c.1 (((quads (h.drop 2)).length : Nat) : Int) c.2 = _
    unfold q8r_
    rw [hq, if_neg (by decide)]
    rfl
theorem rread_eq {m : TMem} (hr : ∀ x ∈ m.2.2.1, 0 ≤ x ∧ x < 65536) (hb : m.1.length ≤ 1000000 ∧ m.2.1.length ≤ 1000000 ∧ m.2.2.1.length ≤ 1000000 ∧ m.2.2.2.length ≤ 1000000) : ref29_Read (m, ()) = readV m := by
  obtain ⟨c, i, h, w⟩ := m
  obtain ⟨b1, b2, b3, b4⟩ := hb
  have b1 : c.length ≤ 1000000 := b1
  have b2 : i.length ≤ 1000000 := b2
  have b3 : h.length ≤ 1000000 := b3
  have b4 : w.length ≤ 1000000 := b4
  have hr : ∀ x ∈ h, 0 ≤ x ∧ x < 65536 := hr
  have K1t : q5i_ h true = noR := rfl
  show qfw_ q5i_ (c, i, h, w) = _
  unfold qfw_ readV
  dsimp only
  by_cases h4 : h.length = 50
  · rw [h4, if_neg (by decide), ofNat_eq, ofNat_eq, ofNat_eq, addn64 (by omega), addn64 (by omega)]
    by_cases h0 : c.length + i.length + w.length = 0
    · rw [if_neg (by rw [gt_iff]; omega), if_pos ⟨by omega, by omega, by omega, rfl⟩]
      have g0 : h[0]? = some (h[0]'(by omega)) := List.getElem?_eq_getElem (by omega)
      have g1 : h[1]? = some (h[1]'(by omega)) := List.getElem?_eq_getElem (by omega)
      have r0 := hr _ (List.getElem_mem (l := h) (n := 0) (by omega))
      have r1 := hr _ (List.getElem_mem (l := h) (n := 1) (by omega))
      generalize (h[0]'(by omega)) = a at g0 r0
      generalize (h[1]'(by omega)) = s at g1 r1
      rw [g0, g1]
      dsimp only
      have a0 : at? h 0 = some a := at_get (i := 0) g0
      have a1 : at? h 1 = some s := at_get (i := 1) g1
      simp only [a0, a1, Option.bind_some]
      have hcond : s = (if 12 < a then 12 else a) ↔ (s ≤ 12 ∧ s ≤ a ∧ (s < 12 -> a = s)) := by split <;> omega
      by_cases hs : s = (if 12 < a then 12 else a)
      · obtain ⟨c1, c2, c3⟩ := hcond.1 hs
        rw [if_pos hs, if_neg (fun e => by rw [gt_iff] at e; omega), if_neg (fun e => by rw [lt_iff] at e; omega)]
        have K1f : q5i_ h false = q6r_ h 0 ((0 : Nat) : Int) [] := rfl
        have hgo : (if lt s 12 = true then q5i_ h (nei a s) else q5i_ h false) = q6r_ h 0 ((0 : Nat) : Int) [] := by
          by_cases hlt : s < 12
          · rw [if_pos (lt_iff.2 hlt), c3 hlt, show nei s s = false from by simp [nei]]
            exact K1f
          · rw [if_neg (fun e => hlt (lt_iff.1 e))]
            exact K1f
        rw [hgo, rread_K2 h4 hr g0 g1 c2, List.drop_zero]
        obtain ⟨n, rfl⟩ := Int.eq_ofNat_of_zero_le r1.1
        rw [Int.toNat_natCast]
        have hq : (quads (h.drop 2)).length = 12 := quads_len 12 (by rw [List.length_drop]; omega)
        have hz : (h.drop (2 + 4 * n)).all (fun x => decide (x = 0)) = ((quads (h.drop 2)).drop n).all (fun x => decide (x = (0, 0, 0))) := by
          rw [<- quads_drop, List.drop_drop, quads_zero (12 - n) (by rw [List.length_drop]; omega) (fun x hx => (hr x (List.mem_of_mem_drop hx)).1)]
        rw [hz]
        generalize quads (h.drop 2) = Q at hq
        by_cases hn : n = 0
        · subst hn
          rw [rd_tail a Q 0 (0, []) (by decide), List.take_zero, List.drop_zero]
          show _ = if (true && _) = true then _ else _
          rw [Bool.true_and]
          rfl
        · match Q, hq with
          | x :: Q, hq =>
            rw [List.length_cons] at hq
            show rdBody a (n : Int) 0 (0, []) x (goI _ _ 1 Q) = _
            rw [rdBody_eq]
            rw [if_neg (by omega), show n = (n - 1) + 1 by omega, List.take_succ_cons, List.drop_succ_cons, okL_cons]
            have hmid := rd_mid a ((n - 1) + 1) Q 1 (x.1, [x]) (by omega) (by omega) (by simp; omega) (by omega)
            rw [Nat.add_sub_cancel] at hmid
            dsimp only
            by_cases hp : possS x = true
            · by_cases hle : x.1 ≤ a - (((n - 1) + 1 : Nat) : Int)
              · rw [decide_eq_false (by omega), Bool.false_and, Bool.false_and, Bool.false_and]
                by_cases h1 : 0 < x.1
                · rw [if_pos ⟨h1, hp⟩, if_pos ⟨rfl, hle⟩]; rfl
                · rw [if_neg (fun e => h1 e.1)]; rfl
              · rw [if_pos ⟨by omega, hp⟩, if_neg (fun e => hle e.2), need_small (by decide), List.nil_append, hmid, decide_eq_true (by omega), hp, Bool.true_and, Bool.true_and]
                rfl
            · rw [if_neg (fun e => hp e.2)]
              rw [Bool.not_eq_true] at hp
              rw [hp, Bool.and_false, Bool.false_and, Bool.false_and]
              rfl
      · rw [if_neg hs]
        have hn := fun e => hs (hcond.2 e)
        by_cases c1 : 12 < s
        · rw [if_pos (gt_iff.2 c1)]; exact K1t
        · rw [if_neg (fun e => c1 (gt_iff.1 e))]
          by_cases c2 : a < s
          · rw [if_pos (lt_iff.2 c2)]; exact K1t
          · rw [if_neg (fun e => c2 (lt_iff.1 e))]
            have c3 : s < 12 ∧ a ≠ s := by
              rcases Classical.em (s < 12 ∧ a ≠ s) with e | e
              · exact e
              · exact absurd ⟨by omega, by omega, fun h => by
                  rcases Classical.em (a = s) with e' | e'
                  · exact e'
                  · exact absurd ⟨h, e'⟩ e⟩ hn
            rw [if_pos (lt_iff.2 c3.1), show nei a s = true from nei_iff.2 c3.2]
            exact K1t
    · rw [if_pos (by rw [gt_iff]; omega), if_neg (fun e => by omega)]
      exact K1t
  · rw [if_pos (by rw [nei_iff, ofNat_eq]; omega), if_neg (fun e => h4 e.2.2.2)]
    exact K1t
end Go.Proofs.Lx
end
section
namespace Go.Proofs.Lx
open Go Ev Sx Pl
set_option maxRecDepth 100000
def atV (b : List Int) (n : Nat) : Int := if n + 1 < b.length then numV (b.getD n 0) (b.getD (n + 1) 0) else 0
theorem atV_rng (b : List Int) (n : Nat) : 0 ≤ atV b n ∧ atV b n < 65536 := by
  unfold atV
  split
  · exact numV_rng _ _
  · omega
theorem rat_eq {b : List Int} (hb : ∀ x ∈ b, 0 ≤ x ∧ x ≤ 255) (hl : b.length ≤ 100000) {n : Nat} (hn : n ≤ 100000) : ref02_At (b, (n : Int), ()) = some (atV b n, ()) := by
  show qk5_ b (n : Int) = _
  unfold qk5_ atV
  rw [succ64 (by omega)]
  by_cases h : n + 1 < b.length
  · have h1 : b[n]? = some (b[n]'(by omega)) := List.getElem?_eq_getElem (by omega)
    have h2 : b[n + 1]? = some (b[n + 1]'h) := List.getElem?_eq_getElem h
    have r1 := hb _ (List.getElem_mem (show n < b.length by omega))
    have r2 := hb _ (List.getElem_mem h)
    rw [if_neg (by rw [ge_iff, ofNat_eq]; omega), if_pos h, at_get h1, Option.bind_some, at_get h2, Option.bind_some, List.getD_eq_getElem?_getD, List.getD_eq_getElem?_getD, h1, h2]
    show _ = some (numV (b[n]'(by omega)) (b[n + 1]'h), ())
    rw [numV_eq r1.1 r1.2 r2.1 r2.2, cvt64 (by omega) (by omega), cvt64 (by omega) (by omega), mul64 (by omega) (by omega), add64 (by omega) (by omega)]
  · rw [if_pos (by rw [ge_iff, ofNat_eq]; omega), if_neg h]
theorem u2K2 {u1 : List Int -> Int -> List Bool -> Option (As [.sl .bool])} (b : List Int) (i : Int) {y : Nat} (hy : y < 256) {out : List Bool} (ho : out.length ≤ 1000000) :
    q99_ u1 b i (y : Int) 0 out = u1 b (add .i64 i 1) (out ++ (List.range 8).map (bitV (y : Int))) := by
  unfold q99_
  have e : (List.range 8).foldl (fun o k => o ++ [bitV (y : Int) k]) out = out ++ (List.range 8).map (bitV (y : Int)) := by
    rw [foldl_app (fun k => [bitV (y : Int) k])]
    rfl
  rw [<- e]
  refine Eq.trans (congrArg (fun z => loopF _ _ (b, i, z, 0, out)) (show (y : Int) = ((y / 2 ^ 0 : Nat) : Int) by simp)) ?_
  refine loop_idx (xs := List.range 8) (stp := fun o k => o ++ [bitV (y : Int) k]) (fin := fun o => u1 b (add .i64 i 1) o) (mk := fun k o => (b, i, ((y / 2 ^ k : Nat) : Int), (k : Int), o)) (fun k o => o.length ≤ out.length + k) ?_ ?_ ?_ 8 0 out _ (by simp) (by omega) (Nat.le_refl out.length)
  · intro self k o z hz hI
    obtain ⟨hk, hv⟩ := List.getElem?_eq_some_iff.1 hz
    rw [List.length_range] at hk
    rw [List.getElem_range] at hv
    subst hv
    show qcj_ _ _ _ b i ((y / 2 ^ k : Nat) : Int) (k : Int) o = _
    unfold qcj_
    have hq : quo .i64 ((y / 2 ^ k : Nat) : Int) 2 = ((y / 2 ^ k / 2 : Nat) : Int) := quo_nat (d := 2) (by have := Nat.div_le_self y (2 ^ k); omega)
    have hr : rem ((y / 2 ^ k : Nat) : Int) 2 = ((y / 2 ^ k % 2 : Nat) : Int) := rem_nat (d := 2)
    have hb : eqi ((y / 2 ^ k % 2 : Nat) : Int) 1 = bitV (y : Int) k := by
      rw [bitV_eq (by omega) (by omega) hk]
      have : ((y : Int) / 2 ^ k % 2 = 1) ↔ ((y / 2 ^ k % 2 : Nat) : Int) = 1 := by
        rw [Int.natCast_emod, Int.natCast_ediv, Int.natCast_pow]
        rfl
      rw [Bool.eq_iff_iff, eqi_iff, decide_eq_true_iff]
      exact this.symm
    rw [if_pos (by rw [lt_iff]; omega), need_small (by omega), hq, hr, hb, succ64 (by omega), Nat.div_div_eq_div_mul, <- Nat.pow_succ]
  · intro k o z _ hI
    simp
    omega
  · intro self o _
    rfl
theorem unpackS_cons (y : Int) (r : List Int) : unpackS (y :: r) = (List.range 8).map (bitV y) ++ unpackS r := by
  unfold unpackS
  rw [show 8 * (y :: r).length = 8 + 8 * r.length by simp; omega, List.range_add, List.map_append, List.map_map]
  congr 1
  · refine List.map_congr_left fun i _ => ?_
    show bitV ((y :: r).getD ((8 + i) / 8) 0) ((8 + i) % 8) = _
    rw [show (8 + i) / 8 = i / 8 + 1 by omega, show (8 + i) % 8 = i % 8 by omega]
    rfl
theorem flat_unpack : ∀ b : List Int, b.flatMap (fun y => (List.range 8).map (bitV y)) = unpackS b
  | [] => rfl
  | y :: r => by rw [List.flatMap_cons, flat_unpack r, unpackS_cons]
theorem runpack_eq {b : List Int} (hb : ∀ x ∈ b, 0 ≤ x ∧ x ≤ 255) (hl : b.length ≤ 100000) : ref02_Unpack (b, ()) = some (unpackS b, ()) := by
  show qcl_ q9h_ b = _
  unfold qcl_ q9h_
  have e : b.foldl (fun o y => o ++ (List.range 8).map (bitV y)) [] = unpackS b := by
    rw [foldl_app (fun y => (List.range 8).map (bitV y)), flat_unpack]
    rfl
  rw [<- e]
  refine loop_idx (xs := b) (stp := fun o y => o ++ (List.range 8).map (bitV y)) (fin := fun o => some (o, ())) (mk := fun i o => (b, (i : Int), o)) (fun i o => o.length ≤ 8 * i) ?_ ?_ ?_ b.length 0 [] _ (by omega) (by omega) (by simp)
  · intro self i o y hy hI
    have hi := (List.getElem?_eq_some_iff.1 hy).1
    have hr := hb y (List.mem_of_getElem? hy)
    show q6q_ _ _ b (i : Int) o = _
    unfold q6q_
    obtain ⟨n, rfl⟩ := Int.eq_ofNat_of_zero_le hr.1
    rw [if_pos (by rw [lt_iff, ofNat_eq]; omega), at_get hy, Option.bind_some, cvt64 (by omega) (by omega), u2K2 b (i : Int) (by omega) (by omega), succ64 (by omega)]
  · intro i o y _ hI
    simp
    omega
  · intro self o _
    show q6q_ _ _ b (b.length : Int) o = _
    unfold q6q_
    rw [if_neg (by rw [lt_iff, ofNat_eq]; omega)]
end Go.Proofs.Lx
end
section
namespace Go.Proofs.Lx
open Go Ev Sx Pl
set_option maxRecDepth 100000
def qgz_  := (fun (self : (List Int) × (Int) × (Int) × (Int) × (Int) × (Int) × (Int) × (Int) × (Int) × (Int) × (Int) × (List Int) × (List Bool) -> Option (As [.pr (.int .u8) (.pr (.int .u16) (.pr (.int .u16) (.pr (.int .u16) (.pr (.sl (.int .u16)) (.sl .bool))))), .int .i64])) (s : (List Int) × (Int) × (Int) × (Int) × (Int) × (Int) × (Int) × (Int) × (Int) × (Int) × (Int) × (List Int) × (List Bool)) => q7f_ (q4k_ (fun b first i t2 t2_2 t2_3 t2_4 a a_2 a_3 a_4 o o_2 => self (b, first, i, t2, t2_2, t2_3, t2_4, a, a_2, a_3, a_4, o, o_2))) (fun b first i t2 t2_2 t2_3 t2_4 a a_2 a_3 a_4 o o_2 => self (b, first, i, t2, t2_2, t2_3, t2_4, a, a_2, a_3, a_4, o, o_2)) s.1 s.2.1 s.2.2.1 s.2.2.2.1 s.2.2.2.2.1 s.2.2.2.2.2.1 s.2.2.2.2.2.2.1 s.2.2.2.2.2.2.2.1 s.2.2.2.2.2.2.2.2.1 s.2.2.2.2.2.2.2.2.2.1 s.2.2.2.2.2.2.2.2.2.2.1 s.2.2.2.2.2.2.2.2.2.2.2.1 s.2.2.2.2.2.2.2.2.2.2.2.2)
theorem qls_  (self : (List Int) × (Int) × (Int) × (Int) × (Int) × (Int) × (Int) × (Int) × (Int) × (Int) × (Int) × (List Int) × (List Bool) -> Option (As [.pr (.int .u8) (.pr (.int .u16) (.pr (.int .u16) (.pr (.int .u16) (.pr (.sl (.int .u16)) (.sl .bool))))), .int .i64])) (b : List Int) (first : Int) (i : Int) (t2 : Int) (t2_2 : Int) (t2_3 : Int) (t2_4 : Int) (a : Int) (a_2 : Int) (a_3 : Int) (a_4 : Int) (o : List Int) (o_2 : List Bool) : qgz_ self (b, first, i, t2, t2_2, t2_3, t2_4, a, a_2, a_3, a_4, o, o_2) = q7f_ (q4k_ (fun b first i t2 t2_2 t2_3 t2_4 a a_2 a_3 a_4 o o_2 => self (b, first, i, t2, t2_2, t2_3, t2_4, a, a_2, a_3, a_4, o, o_2))) (fun b first i t2 t2_2 t2_3 t2_4 a a_2 a_3 a_4 o o_2 => self (b, first, i, t2, t2_2, t2_3, t2_4, a, a_2, a_3, a_4, o, o_2)) b first i t2 t2_2 t2_3 t2_4 a a_2 a_3 a_4 o o_2 := rfl
theorem qss_  (b : List Int) (first : Int) (i : Int) (t2 : Int) (t2_2 : Int) (t2_3 : Int) (t2_4 : Int) (a : Int) (a_2 : Int) (a_3 : Int) (a_4 : Int) (o : List Int) (o_2 : List Bool) : q7k_ b first i t2 t2_2 t2_3 t2_4 a a_2 a_3 a_4 o o_2 = loopF (qgz_) 18446744073709551616 (b, first, i, t2, t2_2, t2_3, t2_4, a, a_2, a_3, a_4, o, o_2) := rfl
def qmg_  := (fun (self : (List Int) × (Int) × (Int) × (Int) × (Int) × (Int) × (Int) × (Int) × (Int) × (Int) × (List Int) × (List Bool) -> Option (As [.pr (.int .u8) (.pr (.int .u16) (.pr (.int .u16) (.pr (.int .u16) (.pr (.sl (.int .u16)) (.sl .bool))))), .int .i64])) (s : (List Int) × (Int) × (Int) × (Int) × (Int) × (Int) × (Int) × (Int) × (Int) × (Int) × (List Int) × (List Bool)) => q7d_ (q1m_) (fun b i t2 t2_2 t2_3 t2_4 a a_2 a_3 a_4 o o_2 => self (b, i, t2, t2_2, t2_3, t2_4, a, a_2, a_3, a_4, o, o_2)) s.1 s.2.1 s.2.2.1 s.2.2.2.1 s.2.2.2.2.1 s.2.2.2.2.2.1 s.2.2.2.2.2.2.1 s.2.2.2.2.2.2.2.1 s.2.2.2.2.2.2.2.2.1 s.2.2.2.2.2.2.2.2.2.1 s.2.2.2.2.2.2.2.2.2.2.1 s.2.2.2.2.2.2.2.2.2.2.2)
theorem qlq_  (self : (List Int) × (Int) × (Int) × (Int) × (Int) × (Int) × (Int) × (Int) × (Int) × (Int) × (List Int) × (List Bool) -> Option (As [.pr (.int .u8) (.pr (.int .u16) (.pr (.int .u16) (.pr (.int .u16) (.pr (.sl (.int .u16)) (.sl .bool))))), .int .i64])) (b : List Int) (i : Int) (t2 : Int) (t2_2 : Int) (t2_3 : Int) (t2_4 : Int) (a : Int) (a_2 : Int) (a_3 : Int) (a_4 : Int) (o : List Int) (o_2 : List Bool) : qmg_ self (b, i, t2, t2_2, t2_3, t2_4, a, a_2, a_3, a_4, o, o_2) = q7d_ (q1m_) (fun b i t2 t2_2 t2_3 t2_4 a a_2 a_3 a_4 o o_2 => self (b, i, t2, t2_2, t2_3, t2_4, a, a_2, a_3, a_4, o, o_2)) b i t2 t2_2 t2_3 t2_4 a a_2 a_3 a_4 o o_2 := rfl
theorem qsr_  (b : List Int) (i : Int) (t2 : Int) (t2_2 : Int) (t2_3 : Int) (t2_4 : Int) (a : Int) (a_2 : Int) (a_3 : Int) (a_4 : Int) (o : List Int) (o_2 : List Bool) : q7l_ b i t2 t2_2 t2_3 t2_4 a a_2 a_3 a_4 o o_2 = loopF (qmg_) 18446744073709551616 (b, i, t2, t2_2, t2_3, t2_4, a, a_2, a_3, a_4, o, o_2) := rfl
theorem cvtAt (b : List Int) (n : Nat) : cvt .u16 (atV b n) = atV b n := by
  have h := atV_rng b n
  rw [cvt16, Int.emod_eq_of_lt h.1 h.2]
def candA (b : List Int) (f : Int) : TA :=
  if f = 5 then (f, atV b 1, 0, 0, [], [eqi (atV b 3) 65280])
  else if f = 6 then (f, atV b 1, 0, 0, [atV b 3], [])
  else if f = 15 then (f, atV b 1, atV b 3, 0, [], (unpackS (b.drop 6)).take (atV b 3).toNat)
  else if f = 16 then (f, atV b 1, atV b 3, 0, listS (b.drop 6), [])
  else if f = 23 then (f, atV b 1, atV b 3, atV b 5, listS (b.drop 10), [])
  else (f, atV b 1, atV b 3, 0, [], [])
theorem candA_ok {b : List Int} (hb : ∀ x ∈ b, 0 ≤ x ∧ x ≤ 255) (hl : b.length ≤ 10000) {f : Int} (hf : 0 ≤ f ∧ f ≤ 255) : OkA (candA b f) := by
  have r1 := atV_rng b 1
  have r3 := atV_rng b 3
  have r5 := atV_rng b 5
  have nilw : ∀ x ∈ ([] : List Int), 0 ≤ x ∧ x ≤ 65535 := fun x hx => by cases hx
  unfold candA
  split
  · exact ⟨hf.1, hf.2, r1.1, by show atV b 1 ≤ 65535; omega, (by decide : (0 : Int) ≤ 0), (by decide : (0 : Int) ≤ 65535), (by decide : (0 : Int) ≤ 0), (by decide : (0 : Int) ≤ 65535), nilw, Nat.zero_le _, by show 1 ≤ 100000; decide⟩
  · split
    · exact ⟨hf.1, hf.2, r1.1, by show atV b 1 ≤ 65535; omega, (by decide : (0 : Int) ≤ 0), (by decide : (0 : Int) ≤ 65535), (by decide : (0 : Int) ≤ 0), (by decide : (0 : Int) ≤ 65535), fun x hx => by rw [List.mem_singleton] at hx; subst hx; omega, by show 1 ≤ 100000; decide, Nat.zero_le _⟩
    · split
      · exact ⟨hf.1, hf.2, r1.1, by show atV b 1 ≤ 65535; omega, r3.1, by show atV b 3 ≤ 65535; omega, (by decide : (0 : Int) ≤ 0), (by decide : (0 : Int) ≤ 65535), nilw, Nat.zero_le _, by show ((unpackS (b.drop 6)).take _).length ≤ 100000; rw [List.length_take, unpackS_len, List.length_drop]; omega⟩
      · split
        · exact ⟨hf.1, hf.2, r1.1, by show atV b 1 ≤ 65535; omega, r3.1, by show atV b 3 ≤ 65535; omega, (by decide : (0 : Int) ≤ 0), (by decide : (0 : Int) ≤ 65535), listS_rng _, by show (listS (b.drop 6)).length ≤ 100000; rw [listS_len, List.length_drop]; omega, Nat.zero_le _⟩
        · split
          · exact ⟨hf.1, hf.2, r1.1, by show atV b 1 ≤ 65535; omega, r3.1, by show atV b 3 ≤ 65535; omega, r5.1, by show atV b 5 ≤ 65535; omega, listS_rng _, by show (listS (b.drop 10)).length ≤ 100000; rw [listS_len, List.length_drop]; omega, Nat.zero_le _⟩
          · exact ⟨hf.1, hf.2, r1.1, by show atV b 1 ≤ 65535; omega, r3.1, by show atV b 3 ≤ 65535; omega, (by decide : (0 : Int) ≤ 0), (by decide : (0 : Int) ≤ 65535), nilw, Nat.zero_le _, Nat.zero_le _⟩
def zTA : TA := (0, 0, 0, 0, [], [])
def finQ (b : List Int) (a : TA) : Option (TA × Int × Unit) := if rightA a = true ∧ toS (askB a) = toS b then some (a, 0, ()) else some (zTA, 12, ())
theorem q_K9 {b : List Int} {a1 a2 a3 a4 : Int} {a5 : List Int} {a6 : List Bool} (ha : OkA (a1, a2, a3, a4, a5, a6)) : q1m_ b 0 0 0 0 a1 a2 a3 a4 a5 a6 = finQ b (a1, a2, a3, a4, a5, a6) := by
  unfold q1m_ qj0_ finQ
  rw [rbytes02_eq ha]
  cases hr : rightA (a1, a2, a3, a4, a5, a6) with
  | false =>
    have : ¬ (false = true ∧ toS (askB (a1, a2, a3, a4, a5, a6)) = toS b) := fun e => by cases e.1
    rw [if_neg this]
    rfl
  | true =>
    rw [if_pos rfl, Option.bind_some, if_neg (show ¬ nei 0 0 = true by decide)]
    by_cases he : toS (askB (a1, a2, a3, a4, a5, a6)) = toS b
    · rw [if_pos ⟨rfl, he⟩]
      have : nes (toS (askB (a1, a2, a3, a4, a5, a6))) (toS b) = false := by
        rw [Bool.eq_false_iff]
        exact fun e => (nes_iff.1 e) he
      dsimp only
      rw [this]
      rfl
    · rw [if_neg (fun e => he e.2)]
      have : nes (toS (askB (a1, a2, a3, a4, a5, a6))) (toS b) = true := nes_iff.2 he
      dsimp only
      rw [this]
      rfl
theorem listS_get {d : List Int} {k : Nat} (h : 2 * k + 1 < d.length) : (listS d)[k]? = some (numV (d.getD (2 * k) 0) (d.getD (2 * k + 1) 0)) := by
  unfold listS
  rw [List.getElem?_map, List.getElem?_range (by omega)]
  rfl
theorem q_K8 {b : List Int} (hb : ∀ x ∈ b, 0 ≤ x ∧ x ≤ 255) (hl : b.length ≤ 10000) (first : Nat) (hf : first ≤ 100) (a1 a2 a3 a4 : Int) : q7l_ b (first : Int) 0 0 0 0 a1 a2 a3 a4 [] [] = q1m_ b 0 0 0 0 a1 a2 a3 a4 (listS (b.drop first)) [] := by
  have hlen : (listS (b.drop first)).length = (b.length - first) / 2 := by rw [listS_len, List.length_drop]
  rw [qsr_]
  have e0 : ([] : List Int) = (listS (b.drop first)).take 0 := rfl
  rw [show ((first : Nat) : Int) = ((first + 2 * 0 : Nat) : Int) from rfl]
  conv => lhs; arg 3; rw [e0]
  refine loop_dt (N := (b.length - first) / 2) (mk := fun k => (b, ((first + 2 * k : Nat) : Int), 0, 0, 0, 0, a1, a2, a3, a4, (listS (b.drop first)).take k, [])) ?_ ?_ ((b.length - first) / 2) 0 _ (by omega) (by omega)
  · intro self k hk
    rw [qlq_]
    unfold q7d_
    rw [succ64 (by omega), if_pos (by rw [lt_iff, ofNat_eq]; omega), rat_eq hb (by omega) (by omega), Option.bind_some]
    dsimp only
    rw [cvtAt, need_small (by rw [List.length_take]; show min k _ + 1 ≤ _; omega)]
    have h2 : add .i64 ((first + 2 * k : Nat) : Int) 2 = ((first + 2 * (k + 1) : Nat) : Int) := by rw [add64 (by omega) (by omega)]; omega
    have hg : (listS (b.drop first))[k]? = some (atV b (first + 2 * k)) := by
      rw [listS_get (by rw [List.length_drop]; omega)]
      unfold atV
      rw [if_pos (by omega)]
      simp only [List.getD_eq_getElem?_getD, List.getElem?_drop]
      rw [Nat.add_assoc]
    have ht : (listS (b.drop first)).take k ++ [atV b (first + 2 * k)] = (listS (b.drop first)).take (k + 1) := by
      obtain ⟨hk2, hg2⟩ := List.getElem?_eq_some_iff.1 hg
      rw [List.take_succ_eq_append_getElem hk2, hg2]
    rw [h2, ht]
  · intro self
    rw [qlq_]
    unfold q7d_
    rw [succ64 (by omega), if_neg (by rw [lt_iff, ofNat_eq]; omega), <- hlen, List.take_length]
theorem q_K4 {b : List Int} (hb : ∀ x ∈ b, 0 ≤ x ∧ x ≤ 255) (hl : b.length ≤ 10000) (a2 : Int) (n : Nat) (hn : n ≤ 65535) : q7k_ b 6 0 0 0 0 0 15 a2 (n : Int) 0 [] [] = q1m_ b 0 0 0 0 15 a2 (n : Int) 0 [] ((unpackS (b.drop 6)).take n) := by
  have hlen : (unpackS (b.drop 6)).length = 8 * (b.length - 6) := by rw [unpackS_len, List.length_drop]
  have K5 : ∀ o, q62_ b 6 0 0 0 0 15 a2 (n : Int) 0 [] o = q1m_ b 0 0 0 0 15 a2 (n : Int) 0 [] o := fun o => rfl
  rw [qss_]
  have e0 : ([] : List Bool) = (unpackS (b.drop 6)).take 0 := rfl
  show loopF qgz_ 18446744073709551616 (b, 6, ((0 : Nat) : Int), 0, 0, 0, 0, 15, a2, (n : Int), 0, [], (unpackS (b.drop 6)).take 0) = _
  refine loop_dt (N := min n (8 * (b.length - 6))) (mk := fun k => (b, 6, (k : Int), 0, 0, 0, 0, 15, a2, (n : Int), 0, [], (unpackS (b.drop 6)).take k)) ?_ ?_ (min n (8 * (b.length - 6))) 0 _ (by omega) (by omega)
  · intro self k hk
    have hkn : k < n := by omega
    have hq : quo .i64 (k : Int) 8 = ((k / 8 : Nat) : Int) := quo_nat (d := 8) (by omega)
    have hr : rem (k : Int) 8 = ((k % 8 : Nat) : Int) := rem_nat (d := 8)
    have ha : add .i64 6 ((k / 8 : Nat) : Int) = ((6 + k / 8 : Nat) : Int) := by rw [add64 (by omega) (by omega)]; omega
    have hi : 6 + k / 8 < b.length := by omega
    have hg := List.getElem?_eq_getElem hi
    rw [qls_]
    unfold q7f_
    rw [cvt64 (by omega) (by omega), if_pos (by rw [lt_iff]; omega), hq, ha, show lt ((6 + k / 8 : Nat) : Int) (Int.ofNat b.length) = true from lt_iff.2 (by rw [ofNat_eq]; omega)]
    unfold q4k_ q9w_
    have hc : cut b ((6 + k / 8 : Nat) : Int) ((6 + k / 8 + 1 : Nat) : Int) = some [b[6 + k / 8]] := by
      rw [cut_nat (by omega) (by omega), List.take_succ_eq_append_getElem hi, List.drop_append_of_le_length (by rw [List.length_take]; omega), List.drop_of_length_le (by rw [List.length_take]; omega), List.nil_append]
    have hu : (unpackS [b[6 + k / 8]])[k % 8]? = some (bitV b[6 + k / 8] (k % 8)) := by
      unfold unpackS
      rw [List.getElem?_map, List.getElem?_range (by show k % 8 < 8 * 1; omega)]
      show some (bitV ([b[6 + k / 8]].getD (k % 8 / 8) 0) (k % 8 % 8)) = _
      rw [show k % 8 / 8 = 0 by omega, show k % 8 % 8 = k % 8 by omega]
      rfl
    rw [if_pos rfl, hq, ha, succ64 (by omega), hc, Option.bind_some, runpack_eq (fun x hx => by rw [List.mem_singleton] at hx; subst hx; exact hb _ (List.getElem_mem hi)) (by show 1 ≤ 100000; decide), Option.bind_some, hr, at_get hu, Option.bind_some, need_small (by rw [List.length_take]; show min k _ + 1 ≤ _; omega), succ64 (by omega)]
    have hg2 : (unpackS (b.drop 6))[k]? = some (bitV b[6 + k / 8] (k % 8)) := by
      unfold unpackS
      rw [List.getElem?_map, List.getElem?_range (by rw [List.length_drop]; omega)]
      show some (bitV ((b.drop 6).getD (k / 8) 0) (k % 8)) = _
      rw [List.getD_eq_getElem?_getD, List.getElem?_drop, hg]
      rfl
    have ht : (unpackS (b.drop 6)).take k ++ [bitV b[6 + k / 8] (k % 8)] = (unpackS (b.drop 6)).take (k + 1) := by
      obtain ⟨hk2, hg3⟩ := List.getElem?_eq_some_iff.1 hg2
      rw [List.take_succ_eq_append_getElem hk2, hg3]
    rw [ht]
  · intro self
    have hq : quo .i64 ((min n (8 * (b.length - 6)) : Nat) : Int) 8 = ((min n (8 * (b.length - 6)) / 8 : Nat) : Int) := quo_nat (d := 8) (by omega)
    have hfin : (unpackS (b.drop 6)).take (min n (8 * (b.length - 6))) = (unpackS (b.drop 6)).take n := by
      rw [<- hlen]
      rcases Nat.le_total n (unpackS (b.drop 6)).length with h | h
      · rw [Nat.min_eq_left h]
      · rw [Nat.min_eq_right h, List.take_length, List.take_of_length_le h]
    rw [qls_]
    unfold q7f_
    rw [cvt64 (by omega) (by omega), hfin]
    by_cases h : min n (8 * (b.length - 6)) < n
    · rw [if_pos (by rw [lt_iff]; omega), hq, add64 (by omega) (by omega), show lt (6 + ((min n (8 * (b.length - 6)) / 8 : Nat) : Int)) (Int.ofNat b.length) = false from decide_eq_false (by rw [ofNat_eq]; omega)]
      unfold q4k_ q9w_
      rw [if_neg (by decide), K5]
    · rw [if_neg (by rw [lt_iff]; omega)]
      unfold q4k_ q9w_
      rw [if_neg (by decide), K5]
theorem rparse_eq {f : Int} {b : List Int} (hb : ∀ x ∈ f :: b, 0 ≤ x ∧ x ≤ 255) (hl : (f :: b).length ≤ 10000) (h5 : 5 ≤ (f :: b).length) : ref02_Parse (f :: b, ()) = finQ (f :: b) (candA (f :: b) f) := by
  have hf := hb f (by simp)
  have hok := candA_ok hb hl hf
  show q78_ q7h_ (f :: b) = _
  unfold q78_
  rw [if_neg (by rw [lt_iff, ofNat_eq]; omega), at_zero, Option.bind_some, amb2 (eqAs_refl _), show (1 : Int) = ((1 : Nat) : Int) from rfl, rat_eq hb (by omega) (by decide), Option.bind_some]
  dsimp only
  rw [cvtAt]
  have h3 : ref02_At (f :: b, 3, ()) = some (atV (f :: b) 3, ()) := rat_eq hb (by omega) (by decide) (n := 3)
  have h5 : ref02_At (f :: b, 5, ()) = some (atV (f :: b) 5, ()) := rat_eq hb (by omega) (by decide) (n := 5)
  generalize hB : f :: b = B at *
  unfold q7h_ qjq_
  rw [h3]
  simp only [Option.bind_some, cvtAt]
  have K5n : ∀ first a2 a3 a4 o o2, q60_ B first 0 0 0 0 f a2 a3 a4 o o2 = if f = 15 then q7k_ B first 0 0 0 0 0 f a2 a3 a4 o o2 else if f = 16 ∨ f = 23 then q7l_ B first 0 0 0 0 f a2 a3 a4 o o2 else q1m_ B 0 0 0 0 f a2 a3 a4 o o2 := fun first a2 a3 a4 o o2 => by
    unfold q60_ qji_
    by_cases h15 : f = 15
    · rw [if_pos (eqi_iff.2 h15), if_pos h15]
    · rw [if_neg (fun e => h15 (eqi_iff.1 e)), if_neg h15]
      unfold q62_ qje_
      by_cases h16 : f = 16
      · rw [if_pos (eqi_iff.2 h16), if_pos (.inl h16)]
        rfl
      · rw [if_neg (fun e => h16 (eqi_iff.1 e))]
        unfold qe9_ qj7_
        by_cases h23 : f = 23
        · rw [if_pos (eqi_iff.2 h23), if_pos (.inr h23)]
        · rw [if_neg (fun e => h23 (eqi_iff.1 e)), if_neg (fun e => e.elim h16 h23)]
  have K2n : ∀ a2 a3 o o2, q9q_ B 6 0 0 0 0 f a2 a3 0 o o2 = if f = 23 then q60_ B 10 0 0 0 0 f a2 a3 (atV B 5) o o2 else q60_ B 6 0 0 0 0 f a2 a3 0 o o2 := fun a2 a3 o o2 => by
    unfold q9q_ qj6_
    rw [h5]
    simp only [Option.bind_some, cvtAt, eqi_iff]
  simp only [K2n, K5n]
  have r3 := atV_rng B 3
  by_cases c5 : f = 5
  · have hc : candA B f = (f, atV B 1, 0, 0, [], [eqi (atV B 3) 65280]) := by unfold candA; rw [if_pos c5]
    rw [hc] at hok ⊢
    rw [if_pos (eqi_iff.2 c5), if_neg (by omega), if_neg (by omega), if_neg (by omega), q_K9 hok]
  · rw [if_neg (fun e => c5 (eqi_iff.1 e))]
    by_cases c6 : f = 6
    · have hc : candA B f = (f, atV B 1, 0, 0, [atV B 3], []) := by unfold candA; rw [if_neg c5, if_pos c6]
      rw [hc] at hok ⊢
      rw [if_pos (eqi_iff.2 c6), if_neg (by omega), if_neg (by omega), if_neg (by omega), q_K9 hok]
    · rw [if_neg (fun e => c6 (eqi_iff.1 e))]
      by_cases c15 : f = 15
      · have hc : candA B f = (f, atV B 1, atV B 3, 0, [], (unpackS (B.drop 6)).take (atV B 3).toNat) := by unfold candA; rw [if_neg c5, if_neg c6, if_pos c15]
        rw [hc] at hok ⊢
        obtain ⟨n, hn⟩ := Int.eq_ofNat_of_zero_le r3.1
        rw [hn, Int.toNat_natCast] at hok ⊢
        rw [if_neg (by omega), if_pos c15]
        subst c15
        rw [q_K4 hb hl _ n (by omega), q_K9 hok]
      · by_cases c16 : f = 16
        · have hc : candA B f = (f, atV B 1, atV B 3, 0, listS (B.drop 6), []) := by unfold candA; rw [if_neg c5, if_neg c6, if_neg c15, if_pos c16]
          rw [hc] at hok ⊢
          rw [if_neg (by omega), if_neg c15, if_pos (.inl c16), show (6 : Int) = ((6 : Nat) : Int) from rfl, q_K8 hb hl 6 (by decide), q_K9 hok]
        · by_cases c23 : f = 23
          · have hc : candA B f = (f, atV B 1, atV B 3, atV B 5, listS (B.drop 10), []) := by unfold candA; rw [if_neg c5, if_neg c6, if_neg c15, if_neg c16, if_pos c23]
            rw [hc] at hok ⊢
            rw [if_pos c23, if_neg c15, if_pos (.inr c23), show (10 : Int) = ((10 : Nat) : Int) from rfl, q_K8 hb hl 10 (by decide), q_K9 hok]
          · have hc : candA B f = (f, atV B 1, atV B 3, 0, [], []) := by unfold candA; rw [if_neg c5, if_neg c6, if_neg c15, if_neg c16, if_neg c23]
            rw [hc] at hok ⊢
            rw [if_neg c23, if_neg c15, if_neg (fun e => e.elim c16 c23), q_K9 hok]
end Go.Proofs.Lx
end
section
namespace Go.Proofs.Lx
open Go Ev Sx Pl
set_option maxRecDepth 100000
def qq9_  := (fun (self : (Int) × (Int) × (Int × Int × Int × Int × List Int × List Bool) × (Int) × (Int) × (Int) × (Int) × (List Bool × List Bool × List Int × List Int) -> Option (As [.pr (.sl .bool) (.pr (.sl .bool) (.pr (.sl (.int .u16)) (.sl (.int .u16)))), .pr (.int .u8) (.pr (.int .u8) (.pr (.sl .bool) (.pr (.sl (.int .u16)) (.pr (.int .u16) (.int .u16)))))])) (s : (Int) × (Int) × (Int × Int × Int × Int × List Int × List Bool) × (Int) × (Int) × (Int) × (Int) × (List Bool × List Bool × List Int × List Int)) => qkh_ (qf4_) (fun at' i a t7 t7_2 t7_3 t7_4 out => self (at', i, a, t7, t7_2, t7_3, t7_4, out)) s.1 s.2.1 s.2.2.1 s.2.2.2.1 s.2.2.2.2.1 s.2.2.2.2.2.1 s.2.2.2.2.2.2.1 s.2.2.2.2.2.2.2)
theorem qxy_  (self : (Int) × (Int) × (Int × Int × Int × Int × List Int × List Bool) × (Int) × (Int) × (Int) × (Int) × (List Bool × List Bool × List Int × List Int) -> Option (As [.pr (.sl .bool) (.pr (.sl .bool) (.pr (.sl (.int .u16)) (.sl (.int .u16)))), .pr (.int .u8) (.pr (.int .u8) (.pr (.sl .bool) (.pr (.sl (.int .u16)) (.pr (.int .u16) (.int .u16)))))])) (at' : Int) (i : Int) (a : Int × Int × Int × Int × List Int × List Bool) (t7 : Int) (t7_2 : Int) (t7_3 : Int) (t7_4 : Int) (out : List Bool × List Bool × List Int × List Int) : qq9_ self (at', i, a, t7, t7_2, t7_3, t7_4, out) = qkh_ (qf4_) (fun at' i a t7 t7_2 t7_3 t7_4 out => self (at', i, a, t7, t7_2, t7_3, t7_4, out)) at' i a t7 t7_2 t7_3 t7_4 out := rfl
theorem qv6_  (at' : Int) (i : Int) (a : Int × Int × Int × Int × List Int × List Bool) (t7 : Int) (t7_2 : Int) (t7_3 : Int) (t7_4 : Int) (out : List Bool × List Bool × List Int × List Int) : qf1_ at' i a t7 t7_2 t7_3 t7_4 out = loopF (qq9_) 18446744073709551616 (at', i, a, t7, t7_2, t7_3, t7_4, out) := rfl
def qqw_  := (fun (self : (Int) × (Int) × (Int × Int × Int × Int × List Int × List Bool) × (Int) × (Int) × (Int) × (Int) × (List Bool × List Bool × List Int × List Int) -> Option (As [.pr (.sl .bool) (.pr (.sl .bool) (.pr (.sl (.int .u16)) (.sl (.int .u16)))), .pr (.int .u8) (.pr (.int .u8) (.pr (.sl .bool) (.pr (.sl (.int .u16)) (.pr (.int .u16) (.int .u16)))))])) (s : (Int) × (Int) × (Int × Int × Int × Int × List Int × List Bool) × (Int) × (Int) × (Int) × (Int) × (List Bool × List Bool × List Int × List Int)) => qk7_ (q9k_) (fun at' i a t7 t7_2 t7_3 t7_4 out => self (at', i, a, t7, t7_2, t7_3, t7_4, out)) s.1 s.2.1 s.2.2.1 s.2.2.2.1 s.2.2.2.2.1 s.2.2.2.2.2.1 s.2.2.2.2.2.2.1 s.2.2.2.2.2.2.2)
theorem qyo_  (self : (Int) × (Int) × (Int × Int × Int × Int × List Int × List Bool) × (Int) × (Int) × (Int) × (Int) × (List Bool × List Bool × List Int × List Int) -> Option (As [.pr (.sl .bool) (.pr (.sl .bool) (.pr (.sl (.int .u16)) (.sl (.int .u16)))), .pr (.int .u8) (.pr (.int .u8) (.pr (.sl .bool) (.pr (.sl (.int .u16)) (.pr (.int .u16) (.int .u16)))))])) (at' : Int) (i : Int) (a : Int × Int × Int × Int × List Int × List Bool) (t7 : Int) (t7_2 : Int) (t7_3 : Int) (t7_4 : Int) (out : List Bool × List Bool × List Int × List Int) : qqw_ self (at', i, a, t7, t7_2, t7_3, t7_4, out) = qk7_ (q9k_) (fun at' i a t7 t7_2 t7_3 t7_4 out => self (at', i, a, t7, t7_2, t7_3, t7_4, out)) at' i a t7 t7_2 t7_3 t7_4 out := rfl
theorem qxs_  (at' : Int) (i : Int) (a : Int × Int × Int × Int × List Int × List Bool) (t7 : Int) (t7_2 : Int) (t7_3 : Int) (t7_4 : Int) (out : List Bool × List Bool × List Int × List Int) : qf2_ at' i a t7 t7_2 t7_3 t7_4 out = loopF (qqw_) 18446744073709551616 (at', i, a, t7, t7_2, t7_3, t7_4, out) := rfl
def qlb_  := (fun (self : (Int) × (Int × Int × Int × Int × List Int × List Bool) × (Int) × (Int) × (Int) × (Int) × (List Bool × List Bool × List Int × List Int) × (Int) × (Int) × (Int) × (Int) × (List Bool) × (List Int) -> Option (As [.pr (.sl .bool) (.pr (.sl .bool) (.pr (.sl (.int .u16)) (.sl (.int .u16)))), .pr (.int .u8) (.pr (.int .u8) (.pr (.sl .bool) (.pr (.sl (.int .u16)) (.pr (.int .u16) (.int .u16)))))])) (s : (Int) × (Int × Int × Int × Int × List Int × List Bool) × (Int) × (Int) × (Int) × (Int) × (List Bool × List Bool × List Int × List Int) × (Int) × (Int) × (Int) × (Int) × (List Bool) × (List Int)) => qbz_ (qbx_ (fun i a t7 t7_2 t7_3 t7_4 out r r_2 r_3 r_4 o o_2 => self (i, a, t7, t7_2, t7_3, t7_4, out, r, r_2, r_3, r_4, o, o_2))) (qa5_) (fun i a t7 t7_2 t7_3 t7_4 out r r_2 r_3 r_4 o o_2 => self (i, a, t7, t7_2, t7_3, t7_4, out, r, r_2, r_3, r_4, o, o_2)) s.1 s.2.1 s.2.2.1 s.2.2.2.1 s.2.2.2.2.1 s.2.2.2.2.2.1 s.2.2.2.2.2.2.1 s.2.2.2.2.2.2.2.1 s.2.2.2.2.2.2.2.2.1 s.2.2.2.2.2.2.2.2.2.1 s.2.2.2.2.2.2.2.2.2.2.1 s.2.2.2.2.2.2.2.2.2.2.2.1 s.2.2.2.2.2.2.2.2.2.2.2.2)
theorem qpm_  (self : (Int) × (Int × Int × Int × Int × List Int × List Bool) × (Int) × (Int) × (Int) × (Int) × (List Bool × List Bool × List Int × List Int) × (Int) × (Int) × (Int) × (Int) × (List Bool) × (List Int) -> Option (As [.pr (.sl .bool) (.pr (.sl .bool) (.pr (.sl (.int .u16)) (.sl (.int .u16)))), .pr (.int .u8) (.pr (.int .u8) (.pr (.sl .bool) (.pr (.sl (.int .u16)) (.pr (.int .u16) (.int .u16)))))])) (i : Int) (a : Int × Int × Int × Int × List Int × List Bool) (t7 : Int) (t7_2 : Int) (t7_3 : Int) (t7_4 : Int) (out : List Bool × List Bool × List Int × List Int) (r : Int) (r_2 : Int) (r_3 : Int) (r_4 : Int) (o : List Bool) (o_2 : List Int) : qlb_ self (i, a, t7, t7_2, t7_3, t7_4, out, r, r_2, r_3, r_4, o, o_2) = qbz_ (qbx_ (fun i a t7 t7_2 t7_3 t7_4 out r r_2 r_3 r_4 o o_2 => self (i, a, t7, t7_2, t7_3, t7_4, out, r, r_2, r_3, r_4, o, o_2))) (qa5_) (fun i a t7 t7_2 t7_3 t7_4 out r r_2 r_3 r_4 o o_2 => self (i, a, t7, t7_2, t7_3, t7_4, out, r, r_2, r_3, r_4, o, o_2)) i a t7 t7_2 t7_3 t7_4 out r r_2 r_3 r_4 o o_2 := rfl
theorem qyh_  (i : Int) (a : Int × Int × Int × Int × List Int × List Bool) (t7 : Int) (t7_2 : Int) (t7_3 : Int) (t7_4 : Int) (out : List Bool × List Bool × List Int × List Int) (r : Int) (r_2 : Int) (r_3 : Int) (r_4 : Int) (o : List Bool) (o_2 : List Int) : qjv_ i a t7 t7_2 t7_3 t7_4 out r r_2 r_3 r_4 o o_2 = loopF (qlb_) 18446744073709551616 (i, a, t7, t7_2, t7_3, t7_4, out, r, r_2, r_3, r_4, o, o_2) := rfl
def qpo_  := (fun (self : (Int) × (Int) × (Int) × (Int) × (List Bool × List Bool × List Int × List Int) × (Int) × (Int) × (Int) × (Int) × (List Bool) × (List Int) -> Option (As [.pr (.sl .bool) (.pr (.sl .bool) (.pr (.sl (.int .u16)) (.sl (.int .u16)))), .pr (.int .u8) (.pr (.int .u8) (.pr (.sl .bool) (.pr (.sl (.int .u16)) (.pr (.int .u16) (.int .u16)))))])) (s : (Int) × (Int) × (Int) × (Int) × (List Bool × List Bool × List Int × List Int) × (Int) × (Int) × (Int) × (Int) × (List Bool) × (List Int)) => qhr_ (qcu_) (fun t7 t7_2 t7_3 t7_4 out r r_2 r_3 r_4 o o_2 => self (t7, t7_2, t7_3, t7_4, out, r, r_2, r_3, r_4, o, o_2)) s.1 s.2.1 s.2.2.1 s.2.2.2.1 s.2.2.2.2.1 s.2.2.2.2.2.1 s.2.2.2.2.2.2.1 s.2.2.2.2.2.2.2.1 s.2.2.2.2.2.2.2.2.1 s.2.2.2.2.2.2.2.2.2.1 s.2.2.2.2.2.2.2.2.2.2)
theorem qul_  (self : (Int) × (Int) × (Int) × (Int) × (List Bool × List Bool × List Int × List Int) × (Int) × (Int) × (Int) × (Int) × (List Bool) × (List Int) -> Option (As [.pr (.sl .bool) (.pr (.sl .bool) (.pr (.sl (.int .u16)) (.sl (.int .u16)))), .pr (.int .u8) (.pr (.int .u8) (.pr (.sl .bool) (.pr (.sl (.int .u16)) (.pr (.int .u16) (.int .u16)))))])) (t7 : Int) (t7_2 : Int) (t7_3 : Int) (t7_4 : Int) (out : List Bool × List Bool × List Int × List Int) (r : Int) (r_2 : Int) (r_3 : Int) (r_4 : Int) (o : List Bool) (o_2 : List Int) : qpo_ self (t7, t7_2, t7_3, t7_4, out, r, r_2, r_3, r_4, o, o_2) = qhr_ (qcu_) (fun t7 t7_2 t7_3 t7_4 out r r_2 r_3 r_4 o o_2 => self (t7, t7_2, t7_3, t7_4, out, r, r_2, r_3, r_4, o, o_2)) t7 t7_2 t7_3 t7_4 out r r_2 r_3 r_4 o o_2 := rfl
theorem qum_  (t7 : Int) (t7_2 : Int) (t7_3 : Int) (t7_4 : Int) (out : List Bool × List Bool × List Int × List Int) (r : Int) (r_2 : Int) (r_3 : Int) (r_4 : Int) (o : List Bool) (o_2 : List Int) : qhi_ t7 t7_2 t7_3 t7_4 out r r_2 r_3 r_4 o o_2 = loopF (qpo_) 18446744073709551616 (t7, t7_2, t7_3, t7_4, out, r, r_2, r_3, r_4, o, o_2) := rfl
def qle_  := (fun (self : (List (Int × Int × Bool × Bool × Bool)) × (Int) × (Int) -> Option (As [.int .i64])) (s : (List (Int × Int × Bool × Bool × Bool)) × (Int) × (Int)) => qfa_ (qc6_ (fun l at' i => self (l, at', i))) (fun l at' i => self (l, at', i)) s.1 s.2.1 s.2.2)
theorem qjm_  (self : (List (Int × Int × Bool × Bool × Bool)) × (Int) × (Int) -> Option (As [.int .i64])) (l : List (Int × Int × Bool × Bool × Bool)) (at' : Int) (i : Int) : qle_ self (l, at', i) = qfa_ (qc6_ (fun l at' i => self (l, at', i))) (fun l at' i => self (l, at', i)) l at' i := rfl
theorem qpd_  (l : List (Int × Int × Bool × Bool × Bool)) (at' : Int) (i : Int) : qbt_ l at' i = loopF (qle_) 18446744073709551616 (l, at', i) := rfl
def qmp_  := (fun (self : (List (Int × Int × Bool × Bool × Bool)) × (Int) × (Int) × (Int) -> Option (As [.bool])) (s : (List (Int × Int × Bool × Bool × Bool)) × (Int) × (Int) × (Int)) => q7c_ (q9t_ (fun l at' many k => self (l, at', many, k))) (fun l at' many k => self (l, at', many, k)) s.1 s.2.1 s.2.2.1 s.2.2.2)
theorem qln_  (self : (List (Int × Int × Bool × Bool × Bool)) × (Int) × (Int) × (Int) -> Option (As [.bool])) (l : List (Int × Int × Bool × Bool × Bool)) (at' : Int) (many : Int) (k : Int) : qmp_ self (l, at', many, k) = q7c_ (q9t_ (fun l at' many k => self (l, at', many, k))) (fun l at' many k => self (l, at', many, k)) l at' many k := rfl
theorem qlr_  (l : List (Int × Int × Bool × Bool × Bool)) (at' : Int) (many : Int) (k : Int) : q76_ l at' many k = loopF (qmp_) 18446744073709551616 (l, at', many, k) := rfl
def qlo_  := (fun (self : (List (Int × Int × Bool × Bool × Bool)) × (Int) × (Int) × (Int) -> Option (As [.bool])) (s : (List (Int × Int × Bool × Bool × Bool)) × (Int) × (Int) × (Int)) => q6o_ (q9e_ (fun l at' many k => self (l, at', many, k))) (fun l at' many k => self (l, at', many, k)) s.1 s.2.1 s.2.2.1 s.2.2.2)
theorem ql2_  (self : (List (Int × Int × Bool × Bool × Bool)) × (Int) × (Int) × (Int) -> Option (As [.bool])) (l : List (Int × Int × Bool × Bool × Bool)) (at' : Int) (many : Int) (k : Int) : qlo_ self (l, at', many, k) = q6o_ (q9e_ (fun l at' many k => self (l, at', many, k))) (fun l at' many k => self (l, at', many, k)) l at' many k := rfl
theorem qkl_  (l : List (Int × Int × Bool × Bool × Bool)) (at' : Int) (many : Int) (k : Int) : q6i_ l at' many k = loopF (qlo_) 18446744073709551616 (l, at', many, k) := rfl
def qgw_  := (fun (self : (List (Int × Int × Bool × Bool × Bool)) × (Int) × (Bool) × (Int) × (Int) -> Option (As [.bool])) (s : (List (Int × Int × Bool × Bool × Bool)) × (Int) × (Bool) × (Int) × (Int)) => qe2_ (q9u_ (fun l long fixed endV i => self (l, long, fixed, endV, i))) (q9z_) (fun l long fixed endV i => self (l, long, fixed, endV, i)) s.1 s.2.1 s.2.2.1 s.2.2.2.1 s.2.2.2.2)
theorem qf0_  (self : (List (Int × Int × Bool × Bool × Bool)) × (Int) × (Bool) × (Int) × (Int) -> Option (As [.bool])) (l : List (Int × Int × Bool × Bool × Bool)) (long : Int) (fixed : Bool) (endV : Int) (i : Int) : qgw_ self (l, long, fixed, endV, i) = qe2_ (q9u_ (fun l long fixed endV i => self (l, long, fixed, endV, i))) (q9z_) (fun l long fixed endV i => self (l, long, fixed, endV, i)) l long fixed endV i := rfl
theorem qlp_  (l : List (Int × Int × Bool × Bool × Bool)) (long : Int) (fixed : Bool) (endV : Int) (i : Int) : q7m_ l long fixed endV i = loopF (qgw_) 18446744073709551616 (l, long, fixed, endV, i) := rfl
theorem at_1 (f x1 x2 : Int) (r : List Int) : atV (f :: x1 :: x2 :: r) 1 = numV x1 x2 := by
  unfold atV
  rw [if_pos (by simp)]
  rfl
theorem at_3 (f x1 x2 y1 y2 : Int) (r : List Int) : atV (f :: x1 :: x2 :: y1 :: y2 :: r) 3 = numV y1 y2 := by
  unfold atV
  rw [if_pos (by simp)]
  rfl
theorem at_5 (f x1 x2 y1 y2 z1 z2 : Int) (r : List Int) : atV (f :: x1 :: x2 :: y1 :: y2 :: z1 :: z2 :: r) 5 = numV z1 z2 := by
  unfold atV
  rw [if_pos (by simp)]
  rfl
theorem cand_back {a : TA} (h : OkA a) (hr : rightA a = true) : candA (askB a) a.1 = a := by
  have hw := h.w
  have p := numV_two h.at0 h.at1
  have n := numV_two h.m0 h.m1
  have t := numV_two h.t0 h.t1
  cases rightA_RA hr with
  | bits f q m hf h1 h2 =>
    have e : askB (f, q, m, 0, [], []) = f :: q / 256 % 256 :: q % 256 :: m / 256 % 256 :: m % 256 :: [] := by rcases hf with rfl | rfl <;> rfl
    rw [e]
    have c : ∀ b, candA b f = (f, atV b 1, atV b 3, 0, [], []) := fun b => by rcases hf with rfl | rfl <;> rfl
    dsimp only at p n ⊢
    rw [c, at_1, at_3, p, n]
  | words f q m hf h1 h2 =>
    have e : askB (f, q, m, 0, [], []) = f :: q / 256 % 256 :: q % 256 :: m / 256 % 256 :: m % 256 :: [] := by rcases hf with rfl | rfl <;> rfl
    rw [e]
    have c : ∀ b, candA b f = (f, atV b 1, atV b 3, 0, [], []) := fun b => by rcases hf with rfl | rfl <;> rfl
    dsimp only at p n ⊢
    rw [c, at_1, at_3, p, n]
  | coil q b =>
    have e : askB (5, q, 0, 0, [], [b]) = 5 :: q / 256 % 256 :: q % 256 :: (if b = true then 65280 else 0) / 256 % 256 :: (if b = true then 65280 else 0) % 256 :: [] := rfl
    rw [e]
    have c : ∀ B, candA B 5 = (5, atV B 1, 0, 0, [], [eqi (atV B 3) 65280]) := fun B => rfl
    dsimp only at p ⊢
    rw [c, at_1, at_3, p]
    cases b with
    | true => rw [if_pos rfl, numV_two (by decide) (by decide)]; rfl
    | false => rw [if_neg (by decide), numV_two (by decide) (by decide)]; rfl
  | word q x =>
    have hx := hw x (by simp)
    have e : askB (6, q, 0, 0, [x], []) = 6 :: q / 256 % 256 :: q % 256 :: x / 256 % 256 :: x % 256 :: [] := rfl
    rw [e]
    have c : ∀ B, candA B 6 = (6, atV B 1, 0, 0, [atV B 3], []) := fun B => rfl
    dsimp only at p ⊢
    rw [c, at_1, at_3, p, numV_two hx.1 hx.2]
  | coils q l h1 h2 =>
    have e : askB (15, q, (l.length : Int), 0, [], l) = 15 :: q / 256 % 256 :: q % 256 :: (l.length : Int) / 256 % 256 :: (l.length : Int) % 256 :: (packN l.length : Int) :: packS l := rfl
    rw [e]
    have c : ∀ B, candA B 15 = (15, atV B 1, atV B 3, 0, [], (unpackS (B.drop 6)).take (atV B 3).toNat) := fun B => rfl
    dsimp only at p n ⊢
    rw [c, at_1, at_3, p, n, Int.toNat_natCast]
    show (15, q, (l.length : Int), 0, [], (unpackS (packS l)).take l.length) = _
    rw [unpack_pack]
  | regs q l h1 h2 =>
    have e : askB (16, q, (l.length : Int), 0, l, []) = 16 :: q / 256 % 256 :: q % 256 :: (l.length : Int) / 256 % 256 :: (l.length : Int) % 256 :: 2 * (l.length : Int) :: l.flatMap two := rfl
    rw [e]
    have c : ∀ B, candA B 16 = (16, atV B 1, atV B 3, 0, listS (B.drop 6), []) := fun B => rfl
    dsimp only at p n ⊢
    rw [c, at_1, at_3, p, n]
    show (16, q, (l.length : Int), 0, listS (l.flatMap two), []) = _
    rw [listS_flat hw]
  | swap q m u l h1 h2 h3 h4 =>
    have e : askB (23, q, m, u, l, []) = 23 :: q / 256 % 256 :: q % 256 :: m / 256 % 256 :: m % 256 :: u / 256 % 256 :: u % 256 :: (l.length : Int) / 256 % 256 :: (l.length : Int) % 256 :: 2 * (l.length : Int) :: l.flatMap two := rfl
    rw [e]
    have c : ∀ B, candA B 23 = (23, atV B 1, atV B 3, atV B 5, listS (B.drop 10), []) := fun B => rfl
    dsimp only at p n t ⊢
    rw [c, at_1, at_3, at_5, p, n, t]
    show (23, q, m, u, listS (l.flatMap two), []) = _
    rw [listS_flat hw]
theorem toS_inj' : ∀ {a b : List Int}, (∀ x ∈ a, 0 ≤ x ∧ x ≤ 255) -> (∀ x ∈ b, 0 ≤ x ∧ x ≤ 255) -> toS a = toS b -> a = b
  | [], [], _, _, _ => rfl
  | [], y :: b, _, _, h => by cases h
  | x :: a, [], _, _, h => by cases h
  | x :: a, y :: b, ha, hb, h => by
    have h : UInt8.ofNat x.toNat :: toS a = UInt8.ofNat y.toNat :: toS b := h
    obtain ⟨h1, h2⟩ := List.cons.inj h
    have hx := ha x (by simp)
    have hy := hb y (by simp)
    have e := congrArg UInt8.toNat h1
    rw [UInt8.toNat_ofNat', UInt8.toNat_ofNat', Nat.mod_eq_of_lt (by omega), Nat.mod_eq_of_lt (by omega)] at e
    rw [toS_inj' (fun z hz => ha z (List.mem_cons_of_mem _ hz)) (fun z hz => hb z (List.mem_cons_of_mem _ hz)) h2]
    congr 1
    omega
theorem askB_head (a : TA) : ∃ r, askB a = a.1 :: r := by
  unfold askB
  split
  · exact ⟨_, rfl⟩
  · split
    · exact ⟨_, rfl⟩
    · split
      · exact ⟨_, rfl⟩
      · split
        · exact ⟨_, rfl⟩
        · split <;> exact ⟨_, rfl⟩
theorem rparse_same {b : List Int} (hb : ∀ x ∈ b, 0 ≤ x ∧ x ≤ 255) (hl : b.length ≤ 10000) : (∃ a, ask_Parse (b, ()) = some (a, 0, ()) ∧ ref02_Parse (b, ()) = some (a, 0, ()) ∧ OkA a ∧ rightA a = true) ∨ ((∃ a, ask_Parse (b, ()) = some (a, 12, ())) ∧ ref02_Parse (b, ()) = some (zTA, 12, ())) := by
  obtain ⟨a, e, h1, h2⟩ := aparse_any hb
  rcases h2 with ⟨rfl, ha, hr, hs⟩ | rfl
  · left
    have hra := rightA_RA hr
    have hab := askB_bytes hra
    have he := toS_inj' hab hb hs
    refine ⟨a, h1, ?_, ha, hr⟩
    obtain ⟨r, hh⟩ := askB_head a
    have hlen := (askB_len hra).1
    have hc := cand_back ha hr
    have hbb : b = a.1 :: r := by rw [<- he, hh]
    rw [hbb] at hb hl he ⊢
    rw [rparse_eq hb hl (by rw [<- he]; exact hlen), <- he, hc]
    unfold finQ
    rw [if_pos ⟨hr, rfl⟩]
  · right
    refine ⟨⟨a, h1⟩, ?_⟩
    match b, hb, hl, h1 with
    | [], _, _, _ => rfl
    | f :: t, hb, hl, h1 =>
      by_cases h5 : 5 ≤ (f :: t).length
      · rw [rparse_eq hb hl h5]
        unfold finQ
        rw [if_neg]
        rintro ⟨hr, hs⟩
        have hok := candA_ok hb hl (hb f (by simp))
        have he := toS_inj' (askB_bytes (rightA_RA hr)) hb hs
        have := aparse_eq hok hr
        rw [he, h1] at this
        have e2 : (12 : Int) = 0 := congrArg (fun z : Option (TA × Int × Unit) => match z with | some q => q.2.1 | none => 0) this
        omega
      · show q78_ q7h_ (f :: t) = _
        unfold q78_
        rw [if_pos (by rw [lt_iff, ofNat_eq]; omega)]
        rfl
theorem rlook_eq {f : Int} {b : List Int} (hb : ∀ x ∈ f :: b, 0 ≤ x ∧ x ≤ 255) (hl : (f :: b).length ≤ 10000) {a : TA} {e : Int} (h : ask_Look (f :: b, ()) = some (a, e, ())) : ref02_Look (f :: b, ()) = some (a, e, ()) := by
  rw [<- h]
  show qgt_ qbi_ (f :: b) = qby_ (f :: b)
  unfold qgt_ qby_
  have hne : ¬ eqi (Int.ofNat (f :: b).length) 0 = true := by rw [eqi_iff, ofNat_eq, List.length_cons]; omega
  rw [if_neg hne]
  rcases rparse_same hb hl with ⟨a, h1, h2, _, _⟩ | ⟨⟨a, h1⟩, h2⟩
  · rw [h1, h2]
    rfl
  · rw [h1, h2, Option.bind_some, Option.bind_some]
    dsimp only
    rw [if_neg (show ¬ eqi 12 0 = true by decide), if_neg hne, if_neg (show ¬ eqi 12 0 = true by decide), at_zero]
    simp only [Option.bind_some]
    rw [shape_eq, Option.bind_some]
    dsimp only
    have K1 : ∀ t, qbi_ f t 0 0 0 0 = if t = true then some ((f, 0, 0, 0, [], []), 3, ()) else some ((f, 0, 0, 0, [], []), 1, ()) := fun t => rfl
    simp only [K1, ge_dec, le_dec, eqi_iff, decide_eq_true_eq, if_true]
    rcases shp_cases f with ⟨hf, hs⟩ | ⟨hf, hs⟩ | ⟨hf, hs⟩ | ⟨hf, hs⟩ | ⟨hf, hs⟩ | ⟨hf, hs⟩ | ⟨hf, hs⟩ | ⟨hf, hs⟩
    · rw [hs, if_pos (by omega), if_pos (by omega)]; rfl
    · rw [hs, if_pos (by omega), if_pos (by omega)]; rfl
    · rw [hs, if_pos (by omega), if_pos (by omega)]; rfl
    · rw [hs, if_pos (by omega), if_pos (by omega)]; rfl
    · rw [hs, if_pos (by omega), if_neg (by omega), if_pos hf]; rfl
    · rw [hs, if_pos (by omega), if_neg (by omega), if_neg (by omega), if_pos hf]; rfl
    · rw [hs, if_pos (by omega), if_neg (by omega), if_neg (by omega), if_neg (by omega), if_pos hf]; rfl
    · have hn : ¬ f = 15 ∧ ¬ f = 16 ∧ ¬ f = 23 := by omega
      rw [hs, if_neg hn.1, if_neg hn.2.1, if_neg hn.2.2]
      split
      · split
        · omega
        · rfl
      · rfl
theorem in_nil (k : Int) : ref07_in ([], k, ()) = some (-1, ()) := by
  show qbt_ [] k 0 = _
  rw [qpd_, loopF64, qjm_]
  rfl
theorem in_A0 {k : Int} (h0 : 0 ≤ k) (h1 : k ≤ 1000000) : ref07_in ([A0], k, ()) = some ((if k < 50 then 0 else -1), ()) := by
  show qbt_ [A0] k 0 = _
  rw [qpd_, loopF64, qjm_]
  unfold qfa_
  have e1 : sub .u64 (cvt .u64 k) (cvt .u64 A0.1) = k := by
    have e2 : cvt .u64 k = k := wu64 h0 (by omega)
    have e3 : cvt .u64 A0.1 = 0 := by decide
    rw [e2, e3]
    show IntKind.u64.wrap (k - 0) = k
    rw [Int.sub_zero]
    exact wu64 h0 (by omega)
  have e4 : cvt .u64 A0.2.1 = 50 := by decide
  rw [if_pos (by decide), show at? [A0] 0 = some A0 from rfl]
  simp only [Option.bind_some]
  rw [if_pos (show ge k A0.1 = true from ge_iff.2 h0), if_pos (by decide), e1, e4]
  unfold qc6_ qno_
  by_cases h : k < 50
  · rw [if_pos (lt_iff.2 h), if_pos h]
  · rw [if_neg (fun e => h (lt_iff.1 e)), if_neg h]
    show loopF qle_ 18446744073709551615 ([A0], k, add .i64 0 1) = _
    rw [loopF63, qjm_]
    rfl
theorem reads_nil {p n : Int} (hp : 0 ≤ p ∧ p ≤ 100000) (hn : 1 ≤ n ∧ n ≤ 100000) : ref07_reads ([], p, n, ()) = some (false, ()) := by
  show q76_ [] p n p = _
  rw [qlr_, loopF64, qln_]
  unfold q7c_
  rw [add64 (by omega) (by omega), if_pos (by rw [lt_iff]; omega), in_nil]
  rfl
theorem writes_nil {p n : Int} (hp : 0 ≤ p ∧ p ≤ 100000) (hn : 1 ≤ n ∧ n ≤ 100000) : ref07_writes ([], p, n, ()) = some (false, ()) := by
  show q6i_ [] p n p = _
  rw [qkl_, loopF64, ql2_]
  unfold q6o_
  rw [add64 (by omega) (by omega), if_pos (by rw [lt_iff]; omega), in_nil]
  rfl
theorem writes_A0 {p n : Int} (hp : 0 ≤ p ∧ p ≤ 100000) (hn : 1 ≤ n ∧ n ≤ 100000) : ref07_writes ([A0], p, n, ()) = some (false, ()) := by
  show q6i_ [A0] p n p = _
  rw [qkl_, loopF64, ql2_]
  unfold q6o_
  rw [add64 (by omega) (by omega), if_pos (by rw [lt_iff]; omega), in_A0 hp.1 (by omega), Option.bind_some]
  by_cases h : p < 50
  · rw [if_pos h]; rfl
  · rw [if_neg h]; rfl
theorem reads_A0 {p n : Int} (hp : 0 ≤ p ∧ p ≤ 100000) (hn : 1 ≤ n ∧ n ≤ 100000) : ref07_reads ([A0], p, n, ()) = some (decide (p + n ≤ 50), ()) := by
  show q76_ [A0] p n p = _
  rw [qlr_]
  refine loopF_eq (Inv := fun s => ∃ k : Int, s = ([A0], p, n, k) ∧ p ≤ k ∧ k ≤ p + n ∧ (k ≤ 50 ∨ k = p)) (μ := fun s => (p + n - s.2.2.2).toNat) (G := fun _ => some (decide (p + n ≤ 50), ())) ?_ _ _ ⟨p, rfl, Int.le_refl _, by omega, .inr rfl⟩ (by dsimp only; omega)
  rintro self s ⟨k, rfl, h1, h2, h3⟩ ih
  rw [qln_]
  unfold q7c_
  rw [add64 (by omega) (by omega)]
  by_cases hlt : k < p + n
  · rw [if_pos (lt_iff.2 hlt), in_A0 (by omega) (by omega), Option.bind_some]
    by_cases h : k < 50
    · rw [if_pos h]
      show self ([A0], p, n, add .i64 k 1) = _
      rw [add64 (by omega) (by omega)]
      exact ih _ ⟨k + 1, rfl, by omega, by omega, .inl (by omega)⟩ (by dsimp only; omega)
    · rw [if_neg h, decide_eq_false (by omega)]
      rfl
  · rw [if_neg (fun e => hlt (lt_iff.1 e)), decide_eq_true (by omega)]
theorem areas_nil (long : Int) (hl : long ≤ 65536) (fixed : Bool) : ref07_areas ([], long, fixed, ()) = some (true, ()) := by
  show q7m_ [] long fixed 0 0 = _
  rw [qlp_, loopF64, qf0_]
  show some (le long 65536, ()) = _
  rw [le_iff.2 hl]
theorem areas_A0 : ref07_areas ([A0], 50, false, ()) = some (true, ()) := by
  show q7m_ [A0] 50 false 0 0 = _
  rw [qlp_, loopF64, qf0_]
  show loopF qgw_ 18446744073709551615 ([A0], 50, false, add .i64 A0.1 A0.2.1, add .i64 0 1) = _
  rw [loopF63, qf0_]
  rfl
theorem rright_S0 {h : List Int} (hl : h.length = 50) : ref07_Right (S0, ([], [], h, []), ()) = some (true, ()) := by
  show qe4_ S0 ([], [], h, []) = _
  unfold qe4_
  dsimp only
  rw [show Int.ofNat h.length = 50 by rw [hl]; rfl]
  show Option.bind (ref07_areas ([], 0, false, ())) _ = _
  rw [areas_nil 0 (by decide), Option.bind_some, if_pos rfl]
  show Option.bind (ref07_areas ([], 0, true, ())) _ = _
  rw [areas_nil 0 (by decide), Option.bind_some, if_pos rfl]
  show Option.bind (ref07_areas ([A0], 50, false, ())) _ = _
  rw [areas_A0, Option.bind_some, if_pos rfl]
  show Option.bind (ref07_areas ([], 0, true, ())) _ = _
  rw [areas_nil 0 (by decide)]
  rfl
theorem rcheck_eq {a : TA} (h : OkA a) (hr : rightA a = true) : ref07_Check (S0, a, ()) = some (exS a, ()) := by
  have p0 := h.at0
  have p1 := h.at1
  have t0 := h.t0
  have t1 := h.t1
  have hk := rright_eq h
  have bf : ∀ {w : Option (Bool × Unit)}, w = some (false, ()) -> (Option.bind w fun y => q1x_ y.1) = some (2, ()) := fun e => by rw [e]; rfl
  have bt : ∀ {w : Option (Bool × Unit)}, w = some (true, ()) -> (Option.bind w fun y => q1x_ y.1) = some (0, ()) := fun e => by rw [e]; rfl
  show qe0_ q1x_ qde_ S0 a = _
  unfold qe0_
  rw [hk, hr, Option.bind_some, if_neg (by decide)]
  have ne : ∀ {f : Int} {q n t : Int} {w : List Int} {b : List Bool}, f ≠ 3 -> exS (f, q, n, t, w, b) = 2 := fun hf => if_neg (fun e => hf e.1)
  cases rightA_RA hr with
  | bits f q n hf h1 h2 =>
    have p0 : 0 ≤ q := p0
    have p1 : q ≤ 65535 := p1
    have c1 : cvt .i64 q = q := cvt64 (by omega) (by omega)
    have c2 : cvt .i64 n = n := cvt64 (by omega) (by omega)
    rw [ne (by omega)]
    have hn := reads_nil (p := q) (n := n) ⟨by omega, by omega⟩ ⟨by omega, by omega⟩
    rw [<- c1, <- c2] at hn
    rcases hf with rfl | rfl <;> exact bf hn
  | words f q n hf h1 h2 =>
    have p0 : 0 ≤ q := p0
    have p1 : q ≤ 65535 := p1
    have c1 : cvt .i64 q = q := cvt64 (by omega) (by omega)
    have c2 : cvt .i64 n = n := cvt64 (by omega) (by omega)
    rcases hf with rfl | rfl
    · have hn := reads_A0 (p := q) (n := n) ⟨by omega, by omega⟩ ⟨by omega, by omega⟩
      by_cases hle : q + n ≤ 50
      · have hx : exS (3, q, n, 0, [], []) = 0 := if_pos ⟨rfl, hle⟩
        rw [decide_eq_true hle, <- c1, <- c2] at hn
        rw [hx]
        exact bt hn
      · have hx : exS (3, q, n, 0, [], []) = 2 := if_neg (fun e => hle e.2)
        rw [decide_eq_false hle, <- c1, <- c2] at hn
        rw [hx]
        exact bf hn
    · rw [ne (by decide)]
      have hn := reads_nil (p := q) (n := n) ⟨by omega, by omega⟩ ⟨by omega, by omega⟩
      rw [<- c1, <- c2] at hn
      exact bf hn
  | coil q b =>
    have p0 : 0 ≤ q := p0
    have p1 : q ≤ 65535 := p1
    have c1 : cvt .i64 q = q := cvt64 (by omega) (by omega)
    rw [ne (by decide)]
    have hn := writes_nil (p := q) (n := 1) ⟨by omega, by omega⟩ ⟨by decide, by decide⟩
    rw [<- c1] at hn
    exact bf hn
  | word q x =>
    have p0 : 0 ≤ q := p0
    have p1 : q ≤ 65535 := p1
    have c1 : cvt .i64 q = q := cvt64 (by omega) (by omega)
    rw [ne (by decide)]
    have hn := writes_A0 (p := q) (n := 1) ⟨by omega, by omega⟩ ⟨by decide, by decide⟩
    rw [<- c1] at hn
    exact bf hn
  | coils q l h1 h2 =>
    have p0 : 0 ≤ q := p0
    have p1 : q ≤ 65535 := p1
    have c1 : cvt .i64 q = q := cvt64 (by omega) (by omega)
    rw [ne (by decide)]
    have hn := writes_nil (p := q) (n := (l.length : Int)) ⟨by omega, by omega⟩ ⟨by omega, by omega⟩
    rw [<- c1] at hn
    exact bf hn
  | regs q l h1 h2 =>
    have p0 : 0 ≤ q := p0
    have p1 : q ≤ 65535 := p1
    have c1 : cvt .i64 q = q := cvt64 (by omega) (by omega)
    rw [ne (by decide)]
    have hn := writes_A0 (p := q) (n := (l.length : Int)) ⟨by omega, by omega⟩ ⟨by omega, by omega⟩
    rw [<- c1] at hn
    exact bf hn
  | swap q n t l h1 h2 h3 h4 =>
    have p0 : 0 ≤ q := p0
    have p1 : q ≤ 65535 := p1
    have t0 : 0 ≤ t := t0
    have t1 : t ≤ 65535 := t1
    have c1 : cvt .i64 q = q := cvt64 (by omega) (by omega)
    have c2 : cvt .i64 n = n := cvt64 (by omega) (by omega)
    have c3 : cvt .i64 t = t := cvt64 (by omega) (by omega)
    rw [ne (by decide)]
    have hn := reads_A0 (p := q) (n := n) ⟨by omega, by omega⟩ ⟨by omega, by omega⟩
    have hw := writes_A0 (p := t) (n := (l.length : Int)) ⟨by omega, by omega⟩ ⟨by omega, by omega⟩
    rw [<- c1, <- c2] at hn
    rw [<- c3] at hw
    show (Option.bind (ref07_reads ([A0], cvt .i64 q, cvt .i64 n, ())) fun y => if y.1 = true then Option.bind (ref07_writes ([A0], cvt .i64 t, Int.ofNat l.length, ())) fun y => q1x_ y.1 else q1x_ false) = _
    rw [hn, Option.bind_some]
    cases decide (cvt .i64 q + cvt .i64 n ≤ 50) with
    | true => exact bf hw
    | false => rfl
theorem rcopy_eq {h : List Int} (hl : h.length ≤ 1000000) : ref07_Copy (([], [], h, []), ()) = some (([], [], h, []), ()) := by
  show qgl_ ([], [], h, []) = _
  unfold qgl_
  dsimp only
  rw [need_small (by decide), need_small (by decide), need_small (by omega), need_small (by decide)]
theorem rdo_eq {h : List Int} (hl : h.length = 50) {a : TA} (ha : OkA a) (hr : rightA a = true) : ref07_Do (S0, ([], [], h, []), a, ()) = some (([], [], h, []), srvS h a, ()) := by
  have hf := right_f hr
  show qka_ qjr_ S0 ([], [], h, []) a = _
  unfold qka_
  rw [rcopy_eq (by omega), Option.bind_some, rcheck_eq ha hr, Option.bind_some]
  dsimp only
  unfold exS srvS
  by_cases hc : a.1 = 3 ∧ a.2.1 + a.2.2.1 ≤ 50
  · rw [if_pos hc, if_pos (by decide), rright_S0 hl, Option.bind_some, if_pos hc]
    obtain ⟨f, p, n, t, w, b⟩ := a
    have h3 : f = 3 := hc.1
    subst h3
    have p0 : 0 ≤ p := ha.at0
    have p1 : p ≤ 65535 := ha.at1
    have n0 : 0 ≤ n := ha.m0
    have n1 : n ≤ 65535 := ha.m1
    have hle : p + n ≤ 50 := hc.2
    have hwb : w = [] ∧ b = [] := by
      generalize hA : ((3 : Int), p, n, t, w, b) = A at hr
      cases rightA_RA hr with
      | bits f q m hf => cases hA; omega
      | words f q m hf => cases hA; exact ⟨rfl, rfl⟩
      | coil q b => cases hA
      | word q x => cases hA
      | coils q l => cases hA
      | regs q l => cases hA
      | swap q m u l => cases hA
    obtain ⟨rfl, rfl⟩ := hwb
    show qf1_ (cvt .i64 p) 0 (3, p, n, t, [], []) 0 0 0 0 ([], [], h, []) = _
    rw [qv6_, loopF64, qxy_]
    show qf2_ (cvt .i64 p) 0 (3, p, n, t, [], []) 0 0 0 0 ([], [], h, []) = _
    rw [qxs_, loopF64, qyo_]
    show q9k_ (3, p, n, t, [], []) 0 0 0 0 ([], [], h, []) = _
    unfold q9k_ qny_
    have he : ref03_Echo ((3, p, n, t, [], []), ()) = some ((0, 0, [], [], 0, 0), false, ()) := by
      show qg0_ qgc_ (3, p, n, t, [], []) = _
      unfold qg0_
      rw [rright_eq ha, hr]
      rfl
    rw [he, Option.bind_some]
    dsimp only
    rw [if_neg (by decide), cvt64 (by omega) (by omega)]
    obtain ⟨p, rfl⟩ := Int.eq_ofNat_of_zero_le p0
    obtain ⟨n, rfl⟩ := Int.eq_ofNat_of_zero_le n0
    rw [Int.toNat_natCast, Int.toNat_natCast, qyh_]
    have e0 : ([] : List Int) = ((h.drop p).take 0) := rfl
    have key : loopF qlb_ 18446744073709551616 (((p + 0 : Nat) : Int), (3, (p : Int), (n : Int), t, [], []), 0, 0, 0, 0, ([], [], h, []), 3, 0, 0, 0, [], (h.drop p).take 0) = some (([], [], h, []), (3, 0, [], (h.drop p).take n, 0, 0), ()) := by
      refine loop_dt (N := n) (mk := fun k => (((p + k : Nat) : Int), (3, (p : Int), (n : Int), t, [], []), 0, 0, 0, 0, ([], [], h, []), 3, 0, 0, 0, [], (h.drop p).take k)) ?_ ?_ n 0 _ (by omega) (by omega)
      · intro self k hk
        have hg : h[p + k]? = some (h[p + k]'(by omega)) := List.getElem?_eq_getElem (by omega)
        have hg2 : (h.drop p)[k]? = some (h[p + k]'(by omega)) := by rw [List.getElem?_drop]; exact hg
        rw [qpm_]
        unfold qbz_
        dsimp only
        rw [cvt64 (by omega) (by omega), cvt64 (by omega) (by omega), addn64 (by omega), if_pos (by rw [lt_iff]; omega), if_neg (by decide), if_neg (by decide), if_neg (by decide), at_get hg, Option.bind_some, need_small (by rw [List.length_take]; show min k _ + 1 ≤ _; omega)]
        have ht : (h.drop p).take k ++ [h[p + k]'(by omega)] = (h.drop p).take (k + 1) := by
          obtain ⟨hk2, hg3⟩ := List.getElem?_eq_some_iff.1 hg2
          rw [List.take_succ_eq_append_getElem hk2, hg3]
        rw [ht]
        unfold qbx_ qo2_
        rw [succ64 (by omega), Nat.add_assoc]
      · intro self
        rw [qpm_]
        unfold qbz_
        dsimp only
        rw [cvt64 (by omega) (by omega), cvt64 (by omega) (by omega), addn64 (by omega), if_neg (by rw [lt_iff]; omega)]
        unfold qa5_ qm8_
        rw [qum_, loopF64, qul_]
        rfl
    exact key
  · rw [if_neg hc, if_neg (by decide), if_neg hc]
    show some (([], [], h, []), (rem a.1 128, 2, [], [], 0, 0), ()) = _
    rw [rem128 (by omega) hf.2]
theorem rserve_any {h : List Int} (hl : h.length = 50) (hr : ∀ x ∈ h, 0 ≤ x ∧ x < 65536) {b : List Int} (hb : ∀ x ∈ b, 0 ≤ x ∧ x ≤ 255) (hbl : b.length ≤ 10000) : ∃ o, model_Serve (S0, ([], [], h, []), b, ()) = some (([], [], h, []), o, ()) ∧ ref07_Serve (S0, ([], [], h, []), b, ()) = some (([], [], h, []), o, ()) := by
  match b, hb, hbl with
  | [], _, _ =>
    have hrep : Rep (0, 1, [], [], 0, 0) := rep_wrong (by decide) (by decide) (by decide) (by decide)
    refine ⟨repB (0, 1, [], [], 0, 0), ?_, ?_⟩
    · have hl0 : ask_Look ([], ()) = some ((0, 0, 0, 0, [], []), 1, ()) := rfl
      show q4i_ S0 ([], [], h, []) [] = _
      unfold q4i_
      rw [hl0, Option.bind_some, if_pos (by decide), wrong_eq, Option.bind_some]
      dsimp only
      rw [show rem 0 128 = 0 from rfl, rep_bytes hrep, Option.bind_some, mown_eq (by omega)]
      rfl
    · have hl0 : ref02_Look ([], ()) = some ((0, 0, 0, 0, [], []), 1, ()) := rfl
      show q4o_ S0 ([], [], h, []) [] = _
      unfold q4o_
      rw [hl0, Option.bind_some, if_pos (by decide)]
      dsimp only
      rw [show rem 0 128 = 0 from rfl, r3bytes_eq hrep.ok, if_pos hrep.rt, Option.bind_some, rcopy_eq (by omega)]
      rfl
  | f :: b, hb, hbl =>
    obtain ⟨a, e, h1, h2⟩ := look_any hb
    have hlk := rlook_eq hb hbl h1
    have hf := hb f (by simp)
    rcases h2 with ⟨rfl, ha, hra, _⟩ | ⟨he, rfl⟩
    · have hrep := srv_rep hl hr ha hra
      refine ⟨repB (srvS h a), ?_, ?_⟩
      · show q4i_ S0 ([], [], h, []) (f :: b) = _
        unfold q4i_
        rw [h1, Option.bind_some, if_neg (show ¬ nei 0 0 = true by decide), do_eq hl ha hra, Option.bind_some]
        dsimp only
        rw [rep_bytes hrep]
        rfl
      · show q4o_ S0 ([], [], h, []) (f :: b) = _
        unfold q4o_
        rw [hlk, Option.bind_some, if_neg (show ¬ nei 0 0 = true by decide), rdo_eq hl ha hra, Option.bind_some]
        dsimp only
        rw [r3bytes_eq hrep.ok, if_pos hrep.rt]
        rfl
    · have he' : 1 ≤ e ∧ e ≤ 4 := by rcases he with h | h <;> (have h : e = _ := h; omega)
      have hm : 0 ≤ rem f 128 ∧ rem f 128 < 128 := by
        unfold rem
        rw [Int.tmod_eq_emod_of_nonneg hf.1]
        omega
      have hrep : Rep (rem f 128, e, [], [], 0, 0) := rep_wrong hm.1 hm.2 he'.1 he'.2
      have hne : nei e 0 = true := by rw [nei_iff]; omega
      refine ⟨repB (rem f 128, e, [], [], 0, 0), ?_, ?_⟩
      · show q4i_ S0 ([], [], h, []) (f :: b) = _
        unfold q4i_
        rw [h1, Option.bind_some, if_pos hne, wrong_eq, Option.bind_some, rep_bytes hrep, Option.bind_some, mown_eq (by omega)]
        rfl
      · show q4o_ S0 ([], [], h, []) (f :: b) = _
        unfold q4o_
        rw [hlk, Option.bind_some, if_pos hne]
        dsimp only
        rw [r3bytes_eq hrep.ok, if_pos hrep.rt, Option.bind_some, rcopy_eq (by omega)]
        rfl
theorem tells_law {l : List TJob} {waits pdu : List Int} {m : TMem} (ho : ∀ j ∈ l, OkJ j) (hp : ∀ x ∈ pdu, 0 ≤ x ∧ x ≤ 255) (hm : ∀ x ∈ m.2.2.1, 0 ≤ x ∧ x < 65536) (hb : m.1.length ≤ reachBytes ∧ m.2.1.length ≤ reachBytes ∧ m.2.2.2.length ≤ reachBytes) : law29_ViewTells (l, waits, pdu, m, ()) = some (true, ()) := by
  have hR : reachBytes = 140737488351232 := rfl
  have aw : (Option.bind (law29_awake ()) fun (y : Bool × Unit) => some (y.1, ())) = some (true, ()) := by rw [awake29]; rfl
  have K1t : q3d_ l waits pdu true m = some (true, ()) := by
    unfold q3d_ q9a_
    rw [if_pos rfl]
    exact aw
  show q90_ q3d_ l waits pdu m = _
  unfold q90_
  by_cases hl : l.length ≤ 60
  · rw [if_neg (by rw [gt_iff, ofNat_eq]; omega)]
    by_cases hw : waits.length ≤ 60
    · rw [if_neg (by rw [gt_iff, ofNat_eq]; omega)]
      by_cases hpl : pdu.length ≤ 300
      · rw [if_neg (by rw [gt_iff, ofNat_eq]; omega)]
        by_cases hh : m.2.2.1.length ≤ 60
        · rw [if_neg (by rw [gt_iff, ofNat_eq]; omega), ofNat_eq, ofNat_eq, ofNat_eq, addn64 (by omega), addn64 (by omega)]
          by_cases hsum : m.1.length + m.2.1.length + m.2.2.2.length ≤ 60
          · rw [show gt ((m.1.length + m.2.1.length + m.2.2.2.length : Nat) : Int) 60 = false from decide_eq_false (by omega)]
            have hbb : m.1.length ≤ 1000000 ∧ m.2.1.length ≤ 1000000 ∧ m.2.2.1.length ≤ 1000000 ∧ m.2.2.2.length ≤ 1000000 := ⟨by omega, by omega, by omega, by omega⟩
            have K2 : q6b_ l waits pdu false = some (true, ()) := by
              unfold q6b_ qcz_
              rw [if_neg (by decide), r23right_eq (by omega), Option.bind_some]
              cases hrj : rightJ 0 l with
              | false => exact aw
              | true =>
                have h50 := memH_len l waits
                have hrng := memH_rng (waits := waits) ho
                dsimp only
                rw [if_neg (by decide), vmem_eq (by omega) (by omega) ho, Option.bind_some, rmem_eq (by omega) (by omega) ho, Option.bind_some]
                dsimp only
                have ha : law29_alone (([], [], memH l waits, []), memH l waits, ()) = some (true, ()) := by
                  show qdg_ ([], [], memH l waits, []) (memH l waits) = _
                  unfold qdg_
                  dsimp only
                  rw [regs_self _ (by omega)]
                  rfl
                obtain ⟨o, s1, s2⟩ := rserve_any h50 hrng hp (by omega)
                have hv := vserve_eq (by omega) (by omega) ho pdu s1
                have hv2 : ref29_Serve (l, waits, pdu, ()) = some (o, ()) := by
                  show qes_ l waits pdu = _
                  unfold qes_
                  have hsp : ref29_Space () = some (S0, ()) := rfl
                  rw [hsp, Option.bind_some, rmem_eq (by omega) (by omega) ho, Option.bind_some]
                  dsimp only
                  rw [s2]
                  rfl
                have hsame : law06_Same (o, o, ()) = some (true, ()) := by
                  show some (eqs (toS o) (toS o), ()) = _
                  rw [eqs_iff.2 rfl]
                rw [ha, Option.bind_some, if_pos rfl, hv, Option.bind_some, hv2, Option.bind_some]
                dsimp only
                rw [hsame, Option.bind_some, if_pos rfl]
                exact aw
            unfold q3d_ q9a_
            rw [if_neg (by decide), vread_eq hm hbb, rread_eq hm hbb]
            have hv : ∃ (ls : List TLine) (ok : Bool), readV m = some (ls, ok, ()) ∧ ls.length ≤ 1000 := by
              have nr : ∃ (ls : List TLine) (ok : Bool), noR = some (ls, ok, ()) ∧ ls.length ≤ 1000 := ⟨[], false, rfl, Nat.zero_le _⟩
              unfold readV
              split
              · cases m.2.2.1[0]? with
                | none => exact nr
                | some a => cases m.2.2.1[1]? with
                  | none => exact nr
                  | some s =>
                    dsimp only
                    by_cases hss : s = (if 12 < a then 12 else a)
                    · rw [if_pos hss]
                      split
                      · refine ⟨_, _, rfl, ?_⟩
                        rw [List.length_take]
                        have : s ≤ 12 := by
                          rw [hss]
                          split <;> omega
                        omega
                      · exact nr
                    · rw [if_neg hss]
                      exact nr
              · exact nr
            obtain ⟨ls, ok, e, hls⟩ := hv
            rw [e, Option.bind_some, Option.bind_some]
            dsimp only
            have : neb ok ok = false := by cases ok <;> rfl
            rw [if_neg (by rw [this]; decide)]
            cases ok with
            | true =>
              rw [if_pos rfl, same_self (by omega), Option.bind_some]
              exact K2
            | false => exact K2
          · rw [show gt ((m.1.length + m.2.1.length + m.2.2.2.length : Nat) : Int) 60 = true from decide_eq_true (by omega)]
            exact K1t
        · rw [if_pos (by rw [gt_iff, ofNat_eq]; omega)]
          exact K1t
      · rw [if_pos (by rw [gt_iff, ofNat_eq]; omega)]
        exact K1t
    · rw [if_pos (by rw [gt_iff, ofNat_eq]; omega)]
      exact K1t
  · rw [if_pos (by rw [gt_iff, ofNat_eq]; omega)]
    exact K1t
abbrev tMem : Ty := .pr (.sl .bool) (.pr (.sl .bool) (.pr (.sl (.int .u16)) (.sl (.int .u16))))
end Go.Proofs.Lx
namespace Go.Proofs.Lx
open Go Ev Sx Pl
theorem vtells_row (x : As [.sl tJob, .sl (.int .u32), .sl (.int .u8), tMem]) (h : Rw.okA [.sl tJob, .sl (.int .u32), .sl (.int .u8), tMem] x) (hz : x.2.2.2.1.1.length ≤ reachBytes ∧ x.2.2.2.1.2.1.length ≤ reachBytes ∧ x.2.2.2.1.2.2.2.length ≤ reachBytes) : law29_ViewTells x = some (true, ()) :=
  tells_law (l := x.1) (waits := x.2.1) (pdu := x.2.2.1) (m := x.2.2.2.1) (fun j hj => okJ_of (h.1.2 j hj)) (fun y hy => by have := okw8 (h.2.2.1.2 y hy); omega) (fun y hy => okw16 (h.2.2.2.1.2.2.1.2 y hy)) hz
end Go.Proofs.Lx
end
