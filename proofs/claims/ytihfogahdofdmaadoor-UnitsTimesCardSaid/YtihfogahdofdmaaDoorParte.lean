/- Proved in the last of these 10 parts (this is part 5): UnitsTimes: for every argument the card's run of the law answers true. Conditions: those of the given statement, and no others. -/
import Derived.Test.YtihfogahdofdmaaDoorPartc
import Derived.Test.YtihfogahdofdmaaDoorPartd
set_option linter.unusedVariables false
set_option linter.unusedSimpArgs false
set_option linter.unusedSectionVars false
section
/- Written by program (gen.py): the model of saucier/units.Times, and the proof that its code computes it. -/
namespace SxYtihfogahdofdmaaDoor
open Go Go.RowKit Sx Go.Proofs
set_option linter.unusedVariables false
set_option linter.unusedSimpArgs false
attribute [local irreducible] WL WX CW OW
/-! ### 13: "saucier/units.Times" -/
def m13_J4 (fuel : Nat) (places_2 : Int) (n_2 : Int) : Option (TDec × Bool) :=
  some ((⟨n_2, places_2⟩ : TDec), true)
def m13_J3 (fuel : Nat) (p0_0 : TDec) (q_2 : Int) (places_2 : Int) : Option (TDec × Bool) :=
  if (gt q_2 1000000000000) then (some ((⟨0, 0⟩ : TDec), false)) else (if (lt p0_0.N 0) then (m13_J4 fuel places_2 (neg .i64 (cvt .i64 q_2))) else (m13_J4 fuel places_2 (cvt .i64 q_2)))
def m13_J6 (fuel : Nat) (p0_0 : TDec) (q_3 : Int) (places_3 : Int) (self_1 : ((Int × Int) → Option (TDec × Bool))) (x_7 : Bool) : Option (TDec × Bool) :=
  if x_7 then (self_1 ((quo .u64 q_3 10), (sub .u8 places_3 1))) else (m13_J3 fuel p0_0 q_3 places_3)
def m13_L5 (fuel : Nat) (p0_0 : TDec) (self_1 : Int × Int → Option (TDec × Bool)) : Int × Int → Option (TDec × Bool) := fun (q_3, places_3) =>
  if (gt places_3 0) then (m13_J6 fuel p0_0 q_3 places_3 self_1 (eqi (rem q_3 10) 0)) else (m13_J6 fuel p0_0 q_3 places_3 self_1 false)
def m13_J2 (fuel : Nat) (p0_0 : TDec) (p1_0 : Int) (p2_0 : Int) (n_1 : Int) : Option (TDec × Bool) :=
  (m37 fuel (sub .i64 6 (cvt .i64 p0_0.D))).bind fun r_2 => (m36 fuel (cvt .u64 (mul .i64 n_1 r_2)) (cvt .u64 p1_0)).bind fun r_3 => if (ge r_3.1 (cvt .u64 p2_0)) then (some ((⟨0, 0⟩ : TDec), false)) else ((m38 fuel r_3.1 r_3.2 (cvt .u64 p2_0)).bind fun r_4 => if (nei r_4.2 0) then (some ((⟨0, 0⟩ : TDec), false)) else (loopF (m13_L5 fuel p0_0) fuel (r_4.1, 6)))
def m13_J1 (fuel : Nat) (p0_0 : TDec) (p1_0 : Int) (p2_0 : Int) (x_1 : Bool) : Option (TDec × Bool) :=
  if x_1 then (some ((⟨0, 0⟩ : TDec), false)) else (if (lt p0_0.N 0) then (m13_J2 fuel p0_0 p1_0 p2_0 (neg .i64 p0_0.N)) else (m13_J2 fuel p0_0 p1_0 p2_0 p0_0.N))
def m13 (fuel : Nat) (p0_0 : TDec) (p1_0 : Int) (p2_0 : Int) : Option (TDec × Bool) :=
  (m14 fuel p0_0).bind fun r_5 => if r_5 then (if (lt p1_0 1) then (m13_J1 fuel p0_0 p1_0 p2_0 true) else (if (gt p1_0 1000000000) then (m13_J1 fuel p0_0 p1_0 p2_0 true) else (if (lt p2_0 1) then (m13_J1 fuel p0_0 p1_0 p2_0 true) else (m13_J1 fuel p0_0 p1_0 p2_0 (gt p2_0 1000000000))))) else (m13_J1 fuel p0_0 p1_0 p2_0 true)
@[reducible] def Q13 (F : Lx) (w0 : World) (r : (TDec × Bool)) (v : Value) (w' : World) : Prop := v = .tuple #[.agg #[.int .i64 r.1.N, .int .u8 r.1.D], .bool r.2] ∧ Below w0.heap.size w0 w'
set_option maxRecDepth 100000 in
set_option maxHeartbeats 4000000 in
theorem f13_ok (fuel : Nat) (F : Lx) (w0 : World) (hF : ∀ k, some k ∈ F → k < w0.heap.size) {p0_0 : TDec} {p1_0 : Int} {p2_0 : Int} {r : (TDec × Bool)} (hm : m13 fuel p0_0 p1_0 p2_0 = some r) :
    Calls Tryd.prog 13 #[.agg #[.int .i64 p0_0.N, .int .u8 p0_0.D], .int .i64 p1_0, .int .i64 p2_0] w0 (fun e w' => ∃ v, e = .returned v ∧ Q13 F w0 r v w') := by
  have hPF : PF (bodyPost Tryd.prog Tryd.f13 (fun e w' => ∃ v, e = .returned v ∧ Q13 F w0 r v w')) := PF.body (fun c w h => by obtain ⟨v, e, _⟩ := h; cases e)
  have hL := LOk.start hF
  have hB := Below.refl w0.heap.size w0
  unfold m13 at hm
  refine enter (l := [.agg #[.int .i64 p0_0.N, .int .u8 p0_0.D], .int .i64 p1_0, .int .i64 p2_0, undef, undef, undef, undef, undef, undef, undef, undef, undef, undef, undef, undef, undef, undef, undef, undef, undef, undef, undef, undef, undef, undef, undef, undef, undef, undef, undef, undef, undef, undef, undef, undef, undef, undef, undef, undef, undef, undef, undef, undef, undef, undef, undef, undef, undef, undef, undef, undef, undef, undef, undef, undef, undef, undef, undef, undef, undef, undef, undef, undef, undef, undef, undef, undef, undef, undef, undef, undef, undef, undef, undef, undef, undef, undef, undef, undef, undef, undef, undef, undef, undef, undef, undef, undef, undef, undef, undef, undef, undef, undef, undef]) Tryd.func13 rfl Tryd.ntmps13 (by kernel_rfl) ?_
  refine cw_seq ?_
  refine cw_region ?_
  refine wl_op (by kernel_rfl) (ow_box' (v := .agg #[.int .i64 p0_0.N, .int .u8 p0_0.D]) (vs := [.int .i64 p0_0.N, .int .u8 p0_0.D]) (by kernel_rfl) rfl hL ?_)
  intro g_1 w_1 hS h_1
  replace hB := hS.below hL hB
  replace hL := hS.hL
  refine wl_op (by kernel_rfl) (ow_alloc' (z := .agg #[.int .i64 0, .int .u8 0]) (vs := [.int .i64 0, .int .u8 0]) (by kernel_rfl) rfl hL ?_)
  intro g_2 w_2 hS h_2
  replace h_1 := hS.box h_1 nilN
  replace hB := hS.below hL hB
  replace hL := hS.hL
  refine wl_val (v := .bool false) (w' := w_2) (by kernel_rfl) (run_assign (v := .bool false) (by kernel_rfl)) ?_
  refine wl_nil ?_
  refine then_n ?_
  refine cw_seq ?_
  refine cw_cut (fun l' w' => ∃ x_1, ∃ u_1 : Nat → Value, l' = [.agg #[.int .i64 p0_0.N, .int .u8 p0_0.D], .int .i64 p1_0, .int .i64 p2_0, .pointer (some ⟨g_1, 0, none⟩), undef, undef, .pointer (some ⟨g_2, 0, none⟩), .bool false, undef, undef, undef, undef, undef, undef, (u_1 0), (u_1 1), (u_1 2), (u_1 3), (u_1 4), (u_1 5), (u_1 6), (u_1 7), (u_1 8), (u_1 9), (u_1 10), (u_1 11), (u_1 12), (u_1 13), (u_1 14), (u_1 15), (u_1 16), (u_1 17), .bool x_1, undef, undef, undef, undef, undef, undef, undef, undef, undef, undef, undef, undef, undef, undef, undef, undef, undef, undef, undef, undef, undef, undef, undef, undef, undef, undef, undef, undef, undef, undef, undef, undef, undef, undef, undef, undef, undef, undef, undef, undef, undef, undef, undef, undef, undef, undef, undef, undef, undef, undef, undef, undef, undef, undef, undef, undef, undef, undef, undef, undef, undef] ∧ LOk w0.heap.size [some g_2, some g_1] F w' ∧ Below w0.heap.size w0 w' ∧ Bx w' g_1 [.int .i64 p0_0.N, .int .u8 p0_0.D] 23 ∧ Bx w' g_2 [.int .i64 0, .int .u8 0] 23 ∧ m13_J1 fuel p0_0 p1_0 p2_0 x_1 = some r) ?_ ?_
  · refine cw_region ?_
    refine wl_val (v := .agg #[.int .i64 p0_0.N, .int .u8 p0_0.D]) (w' := w_2) (by kernel_rfl) (run_load_boxn (j := 0) (vs := [.int .i64 p0_0.N, .int .u8 p0_0.D]) Tryd.underlying23 rfl sz_23 (by kernel_rfl) h_1 (by kernel_rfl) rfl) ?_
    obtain ⟨r_5, h_12, hm⟩ := bind_e hm
    refine wl_op (by kernel_rfl) (ow_enter (run_callf (vs := [.agg #[.int .i64 p0_0.N, .int .u8 p0_0.D]]) Tryd.func14 nm_14 (by kernel_rfl) (by kernel_rfl)) (f14_ok (p0_0 := p0_0) fuel _ w_2 hL.lt  h_12) ?_)
    intro vR w_18 hR
    obtain ⟨rfl, hBe⟩ := hR
    have hS := Stp.call hL (Fz.of_below hBe [])
    replace h_1 := hS.box h_1 nilN
    replace h_2 := hS.box h_2 nilN
    replace hB := hS.below hL hB
    replace hL := hS.hL
    refine wl_val (v := .bool (!r_5)) (w' := w_18) (by kernel_rfl) (run_not (b := r_5) (by kernel_rfl)) ?_
    refine wl_val (v := .bool (!r_5)) (w' := w_18) (by kernel_rfl) (run_move (v := .bool (!r_5)) (by kernel_rfl)) ?_
    rcases Bool.eq_false_or_eq_true r_5 with hc_26 | hc_26
    · have hm := ite_t hm hc_26
      refine wl_val (v := .int .i64 p1_0) (w' := w_18) (wg (c := (!r_5)) (want := false) (by kernel_rfl) (not_t hc_26) rfl) (run_move (v := .int .i64 p1_0) (by kernel_rfl)) ?_
      refine wl_val (v := .bool (lt p1_0 1)) (w' := w_18) (wg (c := (!r_5)) (want := false) (by kernel_rfl) (not_t hc_26) rfl) (run_lt (k := .i64) (a := p1_0) (b := 1) (by kernel_rfl) (by kernel_rfl)) ?_
      refine wl_val (v := .bool (lt p1_0 1)) (w' := w_18) (by kernel_rfl) (run_pick_f (v := .bool (lt p1_0 1)) (tr2 (c := (!r_5)) (by kernel_rfl) (not_t hc_26)) (by kernel_rfl)) ?_
      refine wl_val (v := .bool (lt p1_0 1)) (w' := w_18) (by kernel_rfl) (run_move (v := .bool (lt p1_0 1)) (by kernel_rfl)) ?_
      rcases Bool.eq_false_or_eq_true (lt p1_0 1) with hc_27 | hc_27
      · have hm := ite_t hm hc_27
        refine wl_not0 (wg (c := (lt p1_0 1)) (want := false) (by kernel_rfl) hc_27 rfl) (by kernel_rfl) ?_
        refine wl_not0 (wg (c := (lt p1_0 1)) (want := false) (by kernel_rfl) hc_27 rfl) (by kernel_rfl) ?_
        refine wl_val (v := .bool true) (w' := w_18) (by kernel_rfl) (run_pick_t (v := .bool true) (tr2 (c := (lt p1_0 1)) (by kernel_rfl) hc_27) (by kernel_rfl)) ?_
        refine wl_val (v := .bool true) (w' := w_18) (by kernel_rfl) (run_move (v := .bool true) (by kernel_rfl)) ?_
        refine wl_norm [.agg #[.int .i64 p0_0.N, .int .u8 p0_0.D], .int .i64 p1_0, .int .i64 p2_0, .pointer (some ⟨g_1, 0, none⟩), undef, undef, .pointer (some ⟨g_2, 0, none⟩), .bool false, undef, undef, undef, undef, undef, undef, .agg #[.int .i64 p0_0.N, .int .u8 p0_0.D], .bool r_5, .bool (!r_5), .bool (!r_5), .int .i64 p1_0, .bool (lt p1_0 1), .bool (lt p1_0 1), .bool (lt p1_0 1), undef, undef, .bool true, .bool true, undef, undef, undef, undef, undef, undef, undef, undef, undef, undef, undef, undef, undef, undef, undef, undef, undef, undef, undef, undef, undef, undef, undef, undef, undef, undef, undef, undef, undef, undef, undef, undef, undef, undef, undef, undef, undef, undef, undef, undef, undef, undef, undef, undef, undef, undef, undef, undef, undef, undef, undef, undef, undef, undef, undef, undef, undef, undef, undef, undef, undef, undef, undef, undef, undef, undef, undef, undef] (by kernel_rfl) ?_
        refine wl_not0 (by kernel_rfl) (by kernel_rfl) ?_
        refine wl_not0 (by kernel_rfl) (by kernel_rfl) ?_
        refine wl_val (v := .bool true) (w' := w_18) (by kernel_rfl) (run_pick_t (v := .bool true) (by kernel_rfl) (by kernel_rfl)) ?_
        refine wl_val (v := .bool true) (w' := w_18) (by kernel_rfl) (run_move (v := .bool true) (by kernel_rfl)) ?_
        refine wl_not0 (by kernel_rfl) (by kernel_rfl) ?_
        refine wl_not0 (by kernel_rfl) (by kernel_rfl) ?_
        refine wl_val (v := .bool true) (w' := w_18) (by kernel_rfl) (run_pick_t (v := .bool true) (by kernel_rfl) (by kernel_rfl)) ?_
        refine wl_nil ?_
        exact then_c ⟨true, (fun i => ([.agg #[.int .i64 p0_0.N, .int .u8 p0_0.D], .bool r_5, .bool (!r_5), .bool (!r_5), .int .i64 p1_0, .bool (lt p1_0 1), .bool (lt p1_0 1), .bool (lt p1_0 1), undef, undef, .bool true, .bool true, undef, undef, .bool true, .bool true, undef, undef] : List Value).getD i undef), by kernel_rfl, hL, hB, h_1, h_2, hm⟩
      · have hm := ite_f hm hc_27
        refine wl_val (v := .int .i64 p1_0) (w' := w_18) (wg (c := (lt p1_0 1)) (want := false) (by kernel_rfl) hc_27 rfl) (run_move (v := .int .i64 p1_0) (by kernel_rfl)) ?_
        refine wl_norm [.agg #[.int .i64 p0_0.N, .int .u8 p0_0.D], .int .i64 p1_0, .int .i64 p2_0, .pointer (some ⟨g_1, 0, none⟩), undef, undef, .pointer (some ⟨g_2, 0, none⟩), .bool false, undef, undef, undef, undef, undef, undef, .agg #[.int .i64 p0_0.N, .int .u8 p0_0.D], .bool r_5, .bool (!r_5), .bool (!r_5), .int .i64 p1_0, .bool (lt p1_0 1), .bool (lt p1_0 1), .bool (lt p1_0 1), .int .i64 p1_0, undef, undef, undef, undef, undef, undef, undef, undef, undef, undef, undef, undef, undef, undef, undef, undef, undef, undef, undef, undef, undef, undef, undef, undef, undef, undef, undef, undef, undef, undef, undef, undef, undef, undef, undef, undef, undef, undef, undef, undef, undef, undef, undef, undef, undef, undef, undef, undef, undef, undef, undef, undef, undef, undef, undef, undef, undef, undef, undef, undef, undef, undef, undef, undef, undef, undef, undef, undef, undef, undef, undef] (by kernel_rfl) ?_
        refine wl_val (v := .bool (gt p1_0 1000000000)) (w' := w_18) (wg (c := (lt p1_0 1)) (want := false) (by kernel_rfl) hc_27 rfl) (run_gt (k := .i64) (a := p1_0) (b := 1000000000) (by kernel_rfl) (by kernel_rfl)) ?_
        refine wl_val (v := .bool (gt p1_0 1000000000)) (w' := w_18) (by kernel_rfl) (run_pick_f (v := .bool (gt p1_0 1000000000)) (tr2 (c := (lt p1_0 1)) (by kernel_rfl) hc_27) (by kernel_rfl)) ?_
        refine wl_val (v := .bool (gt p1_0 1000000000)) (w' := w_18) (by kernel_rfl) (run_move (v := .bool (gt p1_0 1000000000)) (by kernel_rfl)) ?_
        rcases Bool.eq_false_or_eq_true (gt p1_0 1000000000) with hc_28 | hc_28
        · have hm := ite_t hm hc_28
          refine wl_not0 (wg (c := (gt p1_0 1000000000)) (want := false) (by kernel_rfl) hc_28 rfl) (by kernel_rfl) ?_
          refine wl_not0 (wg (c := (gt p1_0 1000000000)) (want := false) (by kernel_rfl) hc_28 rfl) (by kernel_rfl) ?_
          refine wl_val (v := .bool true) (w' := w_18) (by kernel_rfl) (run_pick_t (v := .bool true) (tr2 (c := (gt p1_0 1000000000)) (by kernel_rfl) hc_28) (by kernel_rfl)) ?_
          refine wl_val (v := .bool true) (w' := w_18) (by kernel_rfl) (run_move (v := .bool true) (by kernel_rfl)) ?_
          refine wl_not0 (by kernel_rfl) (by kernel_rfl) ?_
          refine wl_not0 (by kernel_rfl) (by kernel_rfl) ?_
          refine wl_val (v := .bool true) (w' := w_18) (by kernel_rfl) (run_pick_t (v := .bool true) (by kernel_rfl) (by kernel_rfl)) ?_
          refine wl_nil ?_
          exact then_c ⟨true, (fun i => ([.agg #[.int .i64 p0_0.N, .int .u8 p0_0.D], .bool r_5, .bool (!r_5), .bool (!r_5), .int .i64 p1_0, .bool (lt p1_0 1), .bool (lt p1_0 1), .bool (lt p1_0 1), .int .i64 p1_0, .bool (gt p1_0 1000000000), .bool (gt p1_0 1000000000), .bool (gt p1_0 1000000000), undef, undef, .bool true, .bool true, undef, undef] : List Value).getD i undef), by kernel_rfl, hL, hB, h_1, h_2, hm⟩
        · have hm := ite_f hm hc_28
          refine wl_val (v := .int .i64 p2_0) (w' := w_18) (wg (c := (gt p1_0 1000000000)) (want := false) (by kernel_rfl) hc_28 rfl) (run_move (v := .int .i64 p2_0) (by kernel_rfl)) ?_
          refine wl_val (v := .bool (lt p2_0 1)) (w' := w_18) (wg (c := (gt p1_0 1000000000)) (want := false) (by kernel_rfl) hc_28 rfl) (run_lt (k := .i64) (a := p2_0) (b := 1) (by kernel_rfl) (by kernel_rfl)) ?_
          refine wl_val (v := .bool (lt p2_0 1)) (w' := w_18) (by kernel_rfl) (run_pick_f (v := .bool (lt p2_0 1)) (tr2 (c := (gt p1_0 1000000000)) (by kernel_rfl) hc_28) (by kernel_rfl)) ?_
          refine wl_val (v := .bool (lt p2_0 1)) (w' := w_18) (by kernel_rfl) (run_move (v := .bool (lt p2_0 1)) (by kernel_rfl)) ?_
          rcases Bool.eq_false_or_eq_true (lt p2_0 1) with hc_29 | hc_29
          · have hm := ite_t hm hc_29
            refine wl_not0 (wg (c := (lt p2_0 1)) (want := false) (by kernel_rfl) hc_29 rfl) (by kernel_rfl) ?_
            refine wl_not0 (wg (c := (lt p2_0 1)) (want := false) (by kernel_rfl) hc_29 rfl) (by kernel_rfl) ?_
            refine wl_val (v := .bool true) (w' := w_18) (by kernel_rfl) (run_pick_t (v := .bool true) (tr2 (c := (lt p2_0 1)) (by kernel_rfl) hc_29) (by kernel_rfl)) ?_
            refine wl_nil ?_
            exact then_c ⟨true, (fun i => ([.agg #[.int .i64 p0_0.N, .int .u8 p0_0.D], .bool r_5, .bool (!r_5), .bool (!r_5), .int .i64 p1_0, .bool (lt p1_0 1), .bool (lt p1_0 1), .bool (lt p1_0 1), .int .i64 p1_0, .bool (gt p1_0 1000000000), .bool (gt p1_0 1000000000), .bool (gt p1_0 1000000000), .int .i64 p2_0, .bool (lt p2_0 1), .bool (lt p2_0 1), .bool (lt p2_0 1), undef, undef] : List Value).getD i undef), by kernel_rfl, hL, hB, h_1, h_2, hm⟩
          · have hm := ite_f hm hc_29
            refine wl_val (v := .int .i64 p2_0) (w' := w_18) (wg (c := (lt p2_0 1)) (want := false) (by kernel_rfl) hc_29 rfl) (run_move (v := .int .i64 p2_0) (by kernel_rfl)) ?_
            refine wl_val (v := .bool (gt p2_0 1000000000)) (w' := w_18) (wg (c := (lt p2_0 1)) (want := false) (by kernel_rfl) hc_29 rfl) (run_gt (k := .i64) (a := p2_0) (b := 1000000000) (by kernel_rfl) (by kernel_rfl)) ?_
            refine wl_val (v := .bool (gt p2_0 1000000000)) (w' := w_18) (by kernel_rfl) (run_pick_f (v := .bool (gt p2_0 1000000000)) (tr2 (c := (lt p2_0 1)) (by kernel_rfl) hc_29) (by kernel_rfl)) ?_
            refine wl_nil ?_
            exact then_c ⟨(gt p2_0 1000000000), (fun i => ([.agg #[.int .i64 p0_0.N, .int .u8 p0_0.D], .bool r_5, .bool (!r_5), .bool (!r_5), .int .i64 p1_0, .bool (lt p1_0 1), .bool (lt p1_0 1), .bool (lt p1_0 1), .int .i64 p1_0, .bool (gt p1_0 1000000000), .bool (gt p1_0 1000000000), .bool (gt p1_0 1000000000), .int .i64 p2_0, .bool (lt p2_0 1), .bool (lt p2_0 1), .bool (lt p2_0 1), .int .i64 p2_0, .bool (gt p2_0 1000000000)] : List Value).getD i undef), by kernel_rfl, hL, hB, h_1, h_2, hm⟩
    · have hm := ite_f hm hc_26
      refine wl_not0 (wg (c := (!r_5)) (want := false) (by kernel_rfl) (not_f hc_26) rfl) (by kernel_rfl) ?_
      refine wl_not0 (wg (c := (!r_5)) (want := false) (by kernel_rfl) (not_f hc_26) rfl) (by kernel_rfl) ?_
      refine wl_val (v := .bool true) (w' := w_18) (by kernel_rfl) (run_pick_t (v := .bool true) (tr2 (c := (!r_5)) (by kernel_rfl) (not_f hc_26)) (by kernel_rfl)) ?_
      refine wl_val (v := .bool true) (w' := w_18) (by kernel_rfl) (run_move (v := .bool true) (by kernel_rfl)) ?_
      refine wl_not0 (by kernel_rfl) (by kernel_rfl) ?_
      refine wl_not0 (by kernel_rfl) (by kernel_rfl) ?_
      refine wl_val (v := .bool true) (w' := w_18) (by kernel_rfl) (run_pick_t (v := .bool true) (by kernel_rfl) (by kernel_rfl)) ?_
      refine wl_val (v := .bool true) (w' := w_18) (by kernel_rfl) (run_move (v := .bool true) (by kernel_rfl)) ?_
      refine wl_not0 (by kernel_rfl) (by kernel_rfl) ?_
      refine wl_not0 (by kernel_rfl) (by kernel_rfl) ?_
      refine wl_val (v := .bool true) (w' := w_18) (by kernel_rfl) (run_pick_t (v := .bool true) (by kernel_rfl) (by kernel_rfl)) ?_
      refine wl_val (v := .bool true) (w' := w_18) (by kernel_rfl) (run_move (v := .bool true) (by kernel_rfl)) ?_
      refine wl_norm [.agg #[.int .i64 p0_0.N, .int .u8 p0_0.D], .int .i64 p1_0, .int .i64 p2_0, .pointer (some ⟨g_1, 0, none⟩), undef, undef, .pointer (some ⟨g_2, 0, none⟩), .bool false, undef, undef, undef, undef, undef, undef, .agg #[.int .i64 p0_0.N, .int .u8 p0_0.D], .bool r_5, .bool (!r_5), .bool (!r_5), undef, undef, .bool true, .bool true, undef, undef, .bool true, .bool true, undef, undef, .bool true, .bool true, undef, undef, undef, undef, undef, undef, undef, undef, undef, undef, undef, undef, undef, undef, undef, undef, undef, undef, undef, undef, undef, undef, undef, undef, undef, undef, undef, undef, undef, undef, undef, undef, undef, undef, undef, undef, undef, undef, undef, undef, undef, undef, undef, undef, undef, undef, undef, undef, undef, undef, undef, undef, undef, undef, undef, undef, undef, undef, undef, undef, undef, undef, undef, undef] (by kernel_rfl) ?_
      refine wl_not0 (by kernel_rfl) (by kernel_rfl) ?_
      refine wl_not0 (by kernel_rfl) (by kernel_rfl) ?_
      refine wl_val (v := .bool true) (w' := w_18) (by kernel_rfl) (run_pick_t (v := .bool true) (by kernel_rfl) (by kernel_rfl)) ?_
      refine wl_nil ?_
      exact then_c ⟨true, (fun i => ([.agg #[.int .i64 p0_0.N, .int .u8 p0_0.D], .bool r_5, .bool (!r_5), .bool (!r_5), undef, undef, .bool true, .bool true, undef, undef, .bool true, .bool true, undef, undef, .bool true, .bool true, undef, undef] : List Value).getD i undef), by kernel_rfl, hL, hB, h_1, h_2, hm⟩
  · intro l1 w_4 hI
    obtain ⟨x_1, u_1, rfl, hL, hB, h_1, h_2, hm⟩ := hI
    unfold m13_J1 at hm
    refine cw_cond (t := x_1) (by kernel_rfl) (fun hc_5 => ?_) (fun hc_5 => ?_)
    · have hm := ite_t hm hc_5
      refine cw_seq ?_
      refine cw_region ?_
      refine wl_val (v := .agg #[.int .i64 0, .int .u8 0]) (w' := w_4) (by kernel_rfl) (by kernel_rfl) ?_
      refine wl_op (by kernel_rfl) (ow_store_box' (g := g_2) (j := 0) (v := .agg #[.int .i64 0, .int .u8 0]) (vs := [.int .i64 0, .int .u8 0]) (cs' := [.int .i64 0, .int .u8 0]) sz_23 (by kernel_rfl) (by kernel_rfl) rfl rfl rfl hL h_2 rfl (by simp) rfl ?_)
      intro w_5 hS h_4
      replace h_1 := hS.box h_1 (hL.apart 1 0 rfl rfl (by decide) _ rfl)
      replace hB := hS.below hL hB
      replace hL := hS.hL
      refine wl_val (v := .bool false) (w' := w_5) (by kernel_rfl) (run_assign (v := .bool false) (by kernel_rfl)) ?_
      refine wl_nil ?_
      refine then_n ?_
      refine cw_ret ?_
      refine then_ret ?_
      have hl0 := loadVar_boxn (P := Tryd.prog) (j := 0) (vs := [.int .i64 0, .int .u8 0]) Tryd.underlying23 rfl sz_23 h_4 (by kernel_rfl) rfl
      have hS : Stp w0.heap.size _ [] F [] w_5 _ := Stp.pick hL [] rfl (by decide)
      replace hB := hS.below hL hB
      replace hL := hS.hL
      obtain rfl := Option.some.inj hm
      exact ret2 (v := .agg #[.int .i64 0, .int .u8 0]) (v' := .bool false) rfl (resv_cell (ad := ⟨g_2, 0, none⟩) (by kernel_rfl) hl0) (resv_tmp (by kernel_rfl)) ⟨_, rfl, by kernel_rfl, hB⟩
    · have hm := ite_f hm hc_5
      refine cw_skip ?_
      refine then_n ?_
      refine cw_seq ?_
      refine cw_region ?_
      refine wl_val (v := .pointer (some ⟨g_1, 0, none⟩)) (w' := w_4) (by kernel_rfl) (run_fieldAddr (b := g_1) (o := 0) fo_23_0 (by kernel_rfl)) ?_
      refine wl_val (v := .int .i64 p0_0.N) (w' := w_4) (by kernel_rfl) (run_load_box1 (j := 0) Tryd.underlying2 rfl (by kernel_rfl) h_1 (by kernel_rfl)) ?_
      refine wl_val (v := .int .i64 p0_0.N) (w' := w_4) (by kernel_rfl) (run_assign (v := .int .i64 p0_0.N) (by kernel_rfl)) ?_
      refine wl_nil ?_
      refine then_n ?_
      refine cw_cut (fun l' w' => ∃ n_1, ∃ u_2 : Nat → Value, l' = [.agg #[.int .i64 p0_0.N, .int .u8 p0_0.D], .int .i64 p1_0, .int .i64 p2_0, .pointer (some ⟨g_1, 0, none⟩), undef, undef, .pointer (some ⟨g_2, 0, none⟩), .bool false, .int .i64 n_1, undef, undef, undef, undef, undef, (u_1 0), (u_1 1), (u_1 2), (u_1 3), (u_1 4), (u_1 5), (u_1 6), (u_1 7), (u_1 8), (u_1 9), (u_1 10), (u_1 11), (u_1 12), (u_1 13), (u_1 14), (u_1 15), (u_1 16), (u_1 17), .bool x_1, undef, .pointer (some ⟨g_1, 0, none⟩), .int .i64 p0_0.N, (u_2 0), (u_2 1), (u_2 2), (u_2 3), undef, undef, undef, undef, undef, undef, undef, undef, undef, undef, undef, undef, undef, undef, undef, undef, undef, undef, undef, undef, undef, undef, undef, undef, undef, undef, undef, undef, undef, undef, undef, undef, undef, undef, undef, undef, undef, undef, undef, undef, undef, undef, undef, undef, undef, undef, undef, undef, undef, undef, undef, undef, undef, undef] ∧ LOk w0.heap.size [some g_2, some g_1] F w' ∧ Below w0.heap.size w0 w' ∧ Bx w' g_1 [.int .i64 p0_0.N, .int .u8 p0_0.D] 23 ∧ Bx w' g_2 [.int .i64 0, .int .u8 0] 23 ∧ m13_J2 fuel p0_0 p1_0 p2_0 n_1 = some r) ?_ ?_
      · refine cw_seq ?_
        refine cw_region ?_
        refine wl_val (v := .int .i64 p0_0.N) (w' := w_4) (by kernel_rfl) (run_move (v := .int .i64 p0_0.N) (by kernel_rfl)) ?_
        refine wl_val (v := .bool (lt p0_0.N 0)) (w' := w_4) (by kernel_rfl) (run_lt (k := .i64) (a := p0_0.N) (b := 0) (by kernel_rfl) (by kernel_rfl)) ?_
        refine wl_nil ?_
        refine then_n ?_
        refine cw_cond (t := (lt p0_0.N 0)) (by kernel_rfl) (fun hc_25 => ?_) (fun hc_25 => ?_)
        · have hm := ite_t hm hc_25
          refine cw_region ?_
          refine wl_val (v := .int .i64 p0_0.N) (w' := w_4) (by kernel_rfl) (run_move (v := .int .i64 p0_0.N) (by kernel_rfl)) ?_
          refine wl_val (v := .int .i64 (neg .i64 p0_0.N)) (w' := w_4) (by kernel_rfl) (run_neg (k := .i64) (a := p0_0.N) (by kernel_rfl)) ?_
          refine wl_val (v := .int .i64 (neg .i64 p0_0.N)) (w' := w_4) (by kernel_rfl) (run_assign (v := .int .i64 (neg .i64 p0_0.N)) (by kernel_rfl)) ?_
          refine wl_nil ?_
          exact then_c ⟨(neg .i64 p0_0.N), (fun i => ([.int .i64 p0_0.N, .bool (lt p0_0.N 0), .int .i64 p0_0.N, .int .i64 (neg .i64 p0_0.N)] : List Value).getD i undef), by kernel_rfl, hL, hB, h_1, h_2, hm⟩
        · have hm := ite_f hm hc_25
          refine cw_skip ?_
          exact then_c ⟨p0_0.N, (fun i => ([.int .i64 p0_0.N, .bool (lt p0_0.N 0), undef, undef] : List Value).getD i undef), by kernel_rfl, hL, hB, h_1, h_2, hm⟩
      · intro l1 w_6 hI
        obtain ⟨n_1, u_2, rfl, hL, hB, h_1, h_2, hm⟩ := hI
        unfold m13_J2 at hm
        refine cw_seq ?_
        refine cw_region ?_
        refine wl_val (v := .int .i64 n_1) (w' := w_6) (by kernel_rfl) (run_move (v := .int .i64 n_1) (by kernel_rfl)) ?_
        refine wl_val (v := .pointer (some ⟨g_1, 1, none⟩)) (w' := w_6) (by kernel_rfl) (run_fieldAddr (b := g_1) (o := 0) fo_23_1 (by kernel_rfl)) ?_
        refine wl_val (v := .int .u8 p0_0.D) (w' := w_6) (by kernel_rfl) (run_load_box1 (j := 1) Tryd.underlying5 rfl (by kernel_rfl) h_1 (by kernel_rfl)) ?_
        refine wl_val (v := .int .i64 (cvt .i64 p0_0.D)) (w' := w_6) (by kernel_rfl) (run_cvt (k := .u8) (a := p0_0.D) Tryd.underlying5 Tryd.underlying3 (by kernel_rfl)) ?_
        refine wl_val (v := .int .i64 (sub .i64 6 (cvt .i64 p0_0.D))) (w' := w_6) (by kernel_rfl) (run_sub (k := .i64) (a := 6) (b := (cvt .i64 p0_0.D)) (by kernel_rfl) (by kernel_rfl)) ?_
        obtain ⟨r_2, h_5, hm⟩ := bind_e hm
        refine wl_op (by kernel_rfl) (ow_enter (run_callf (vs := [.int .i64 (sub .i64 6 (cvt .i64 p0_0.D))]) Tryd.func37 nm_37 (by kernel_rfl) (by kernel_rfl)) (f37_ok (p0_0 := (sub .i64 6 (cvt .i64 p0_0.D))) fuel _ w_6 hL.lt  h_5) ?_)
        intro vR w_7 hR
        obtain ⟨rfl, hBe⟩ := hR
        have hS := Stp.call hL (Fz.of_below hBe [])
        replace h_1 := hS.box h_1 nilN
        replace h_2 := hS.box h_2 nilN
        replace hB := hS.below hL hB
        replace hL := hS.hL
        refine wl_val (v := .int .i64 (mul .i64 n_1 r_2)) (w' := w_7) (by kernel_rfl) (run_mul (k := .i64) (a := n_1) (b := r_2) (by kernel_rfl) (by kernel_rfl)) ?_
        refine wl_val (v := .int .u64 (cvt .u64 (mul .i64 n_1 r_2))) (w' := w_7) (by kernel_rfl) (run_cvt (k := .i64) (a := (mul .i64 n_1 r_2)) Tryd.underlying2 Tryd.underlying55 (by kernel_rfl)) ?_
        refine wl_val (v := .int .i64 p1_0) (w' := w_7) (by kernel_rfl) (run_move (v := .int .i64 p1_0) (by kernel_rfl)) ?_
        refine wl_val (v := .int .u64 (cvt .u64 p1_0)) (w' := w_7) (by kernel_rfl) (run_cvt (k := .i64) (a := p1_0) Tryd.underlying2 Tryd.underlying55 (by kernel_rfl)) ?_
        obtain ⟨r_3, h_6, hm⟩ := bind_e hm
        refine wl_op (by kernel_rfl) (ow_enter (run_callf (vs := [.int .u64 (cvt .u64 (mul .i64 n_1 r_2)), .int .u64 (cvt .u64 p1_0)]) Tryd.func36 nm_36 (by kernel_rfl) (by kernel_rfl)) (f36_ok (p0_0 := (cvt .u64 (mul .i64 n_1 r_2))) (p1_0 := (cvt .u64 p1_0)) fuel _ w_7 hL.lt  h_6) ?_)
        intro vR w_8 hR
        obtain ⟨rfl, hBe⟩ := hR
        have hS := Stp.call hL (Fz.of_below hBe [])
        replace h_1 := hS.box h_1 nilN
        replace h_2 := hS.box h_2 nilN
        replace hB := hS.below hL hB
        replace hL := hS.hL
        refine wl_val (v := .tuple #[.int .u64 r_3.1, .int .u64 r_3.2]) (w' := w_8) (by kernel_rfl) (run_move (v := .tuple #[.int .u64 r_3.1, .int .u64 r_3.2]) (by kernel_rfl)) ?_
        refine wl_val (v := .int .u64 r_3.1) (w' := w_8) (by kernel_rfl) (run_extract (vs := #[.int .u64 r_3.1, .int .u64 r_3.2]) (by kernel_rfl) (by kernel_rfl)) ?_
        refine wl_val (v := .int .u64 r_3.2) (w' := w_8) (by kernel_rfl) (run_extract (vs := #[.int .u64 r_3.1, .int .u64 r_3.2]) (by kernel_rfl) (by kernel_rfl)) ?_
        refine wl_val (v := .int .u64 r_3.1) (w' := w_8) (by kernel_rfl) (run_assign (v := .int .u64 r_3.1) (by kernel_rfl)) ?_
        refine wl_val (v := .int .u64 r_3.2) (w' := w_8) (by kernel_rfl) (run_assign (v := .int .u64 r_3.2) (by kernel_rfl)) ?_
        refine wl_nil ?_
        refine then_n ?_
        refine cw_norm [.agg #[.int .i64 p0_0.N, .int .u8 p0_0.D], .int .i64 p1_0, .int .i64 p2_0, .pointer (some ⟨g_1, 0, none⟩), undef, undef, .pointer (some ⟨g_2, 0, none⟩), .bool false, .int .i64 n_1, .int .u64 r_3.1, .int .u64 r_3.2, undef, undef, undef, (u_1 0), (u_1 1), (u_1 2), (u_1 3), (u_1 4), (u_1 5), (u_1 6), (u_1 7), (u_1 8), (u_1 9), (u_1 10), (u_1 11), (u_1 12), (u_1 13), (u_1 14), (u_1 15), (u_1 16), (u_1 17), .bool x_1, undef, .pointer (some ⟨g_1, 0, none⟩), .int .i64 p0_0.N, (u_2 0), (u_2 1), (u_2 2), (u_2 3), .tuple #[.int .u64 r_3.1, .int .u64 r_3.2], .int .i64 n_1, .pointer (some ⟨g_1, 1, none⟩), .int .u8 p0_0.D, .int .i64 (cvt .i64 p0_0.D), .int .i64 (sub .i64 6 (cvt .i64 p0_0.D)), .int .i64 r_2, .int .i64 (mul .i64 n_1 r_2), .int .u64 (cvt .u64 (mul .i64 n_1 r_2)), .int .i64 p1_0, .int .u64 (cvt .u64 p1_0), .tuple #[.int .u64 r_3.1, .int .u64 r_3.2], .int .u64 r_3.1, .int .u64 r_3.2, undef, undef, undef, undef, undef, undef, undef, undef, undef, undef, undef, undef, undef, undef, undef, undef, undef, undef, undef, undef, undef, undef, undef, undef, undef, undef, undef, undef, undef, undef, undef, undef, undef, undef, undef, undef, undef, undef, undef, undef] (by kernel_rfl) ?_
        refine cw_seq ?_
        refine cw_seq ?_
        refine cw_region ?_
        refine wl_val (v := .int .u64 r_3.1) (w' := w_8) (by kernel_rfl) (run_move (v := .int .u64 r_3.1) (by kernel_rfl)) ?_
        refine wl_val (v := .int .i64 p2_0) (w' := w_8) (by kernel_rfl) (run_move (v := .int .i64 p2_0) (by kernel_rfl)) ?_
        refine wl_val (v := .int .u64 (cvt .u64 p2_0)) (w' := w_8) (by kernel_rfl) (run_cvt (k := .i64) (a := p2_0) Tryd.underlying2 Tryd.underlying55 (by kernel_rfl)) ?_
        refine wl_val (v := .bool (ge r_3.1 (cvt .u64 p2_0))) (w' := w_8) (by kernel_rfl) (run_ge (k := .u64) (a := r_3.1) (b := (cvt .u64 p2_0)) (by kernel_rfl) (by kernel_rfl)) ?_
        refine wl_nil ?_
        refine then_n ?_
        refine cw_cond (t := (ge r_3.1 (cvt .u64 p2_0))) (by kernel_rfl) (fun hc_7 => ?_) (fun hc_7 => ?_)
        · have hm := ite_t hm hc_7
          refine cw_seq ?_
          refine cw_region ?_
          refine wl_val (v := .agg #[.int .i64 0, .int .u8 0]) (w' := w_8) (by kernel_rfl) (by kernel_rfl) ?_
          refine wl_op (by kernel_rfl) (ow_store_box' (g := g_2) (j := 0) (v := .agg #[.int .i64 0, .int .u8 0]) (vs := [.int .i64 0, .int .u8 0]) (cs' := [.int .i64 0, .int .u8 0]) sz_23 (by kernel_rfl) (by kernel_rfl) rfl rfl rfl hL h_2 rfl (by simp) rfl ?_)
          intro w_9 hS h_7
          replace h_1 := hS.box h_1 (hL.apart 1 0 rfl rfl (by decide) _ rfl)
          replace hB := hS.below hL hB
          replace hL := hS.hL
          refine wl_val (v := .bool false) (w' := w_9) (by kernel_rfl) (run_assign (v := .bool false) (by kernel_rfl)) ?_
          refine wl_nil ?_
          refine then_n ?_
          refine cw_ret ?_
          refine then_ret ?_
          have hl0 := loadVar_boxn (P := Tryd.prog) (j := 0) (vs := [.int .i64 0, .int .u8 0]) Tryd.underlying23 rfl sz_23 h_7 (by kernel_rfl) rfl
          have hS : Stp w0.heap.size _ [] F [] w_9 _ := Stp.pick hL [] rfl (by decide)
          replace hB := hS.below hL hB
          replace hL := hS.hL
          obtain rfl := Option.some.inj hm
          exact ret2 (v := .agg #[.int .i64 0, .int .u8 0]) (v' := .bool false) rfl (resv_cell (ad := ⟨g_2, 0, none⟩) (by kernel_rfl) hl0) (resv_tmp (by kernel_rfl)) ⟨_, rfl, by kernel_rfl, hB⟩
        · have hm := ite_f hm hc_7
          refine cw_skip ?_
          refine then_n ?_
          refine cw_seq ?_
          refine cw_region ?_
          refine wl_val (v := .int .u64 r_3.1) (w' := w_8) (by kernel_rfl) (run_move (v := .int .u64 r_3.1) (by kernel_rfl)) ?_
          refine wl_val (v := .int .u64 r_3.2) (w' := w_8) (by kernel_rfl) (run_move (v := .int .u64 r_3.2) (by kernel_rfl)) ?_
          refine wl_val (v := .int .i64 p2_0) (w' := w_8) (by kernel_rfl) (run_move (v := .int .i64 p2_0) (by kernel_rfl)) ?_
          refine wl_val (v := .int .u64 (cvt .u64 p2_0)) (w' := w_8) (by kernel_rfl) (run_cvt (k := .i64) (a := p2_0) Tryd.underlying2 Tryd.underlying55 (by kernel_rfl)) ?_
          obtain ⟨r_4, h_8, hm⟩ := bind_e hm
          refine wl_op (by kernel_rfl) (ow_enter (run_callf (vs := [.int .u64 r_3.1, .int .u64 r_3.2, .int .u64 (cvt .u64 p2_0)]) Tryd.func38 nm_38 (by kernel_rfl) (by kernel_rfl)) (f38_ok (p0_0 := r_3.1) (p1_0 := r_3.2) (p2_0 := (cvt .u64 p2_0)) fuel _ w_8 hL.lt  h_8) ?_)
          intro vR w_10 hR
          obtain ⟨rfl, hBe⟩ := hR
          have hS := Stp.call hL (Fz.of_below hBe [])
          replace h_1 := hS.box h_1 nilN
          replace h_2 := hS.box h_2 nilN
          replace hB := hS.below hL hB
          replace hL := hS.hL
          refine wl_val (v := .tuple #[.int .u64 r_4.1, .int .u64 r_4.2]) (w' := w_10) (by kernel_rfl) (run_move (v := .tuple #[.int .u64 r_4.1, .int .u64 r_4.2]) (by kernel_rfl)) ?_
          refine wl_val (v := .int .u64 r_4.1) (w' := w_10) (by kernel_rfl) (run_extract (vs := #[.int .u64 r_4.1, .int .u64 r_4.2]) (by kernel_rfl) (by kernel_rfl)) ?_
          refine wl_val (v := .int .u64 r_4.2) (w' := w_10) (by kernel_rfl) (run_extract (vs := #[.int .u64 r_4.1, .int .u64 r_4.2]) (by kernel_rfl) (by kernel_rfl)) ?_
          refine wl_val (v := .int .u64 r_4.1) (w' := w_10) (by kernel_rfl) (run_assign (v := .int .u64 r_4.1) (by kernel_rfl)) ?_
          refine wl_val (v := .int .u64 r_4.2) (w' := w_10) (by kernel_rfl) (run_assign (v := .int .u64 r_4.2) (by kernel_rfl)) ?_
          refine wl_nil ?_
          refine then_n ?_
          refine cw_norm [.agg #[.int .i64 p0_0.N, .int .u8 p0_0.D], .int .i64 p1_0, .int .i64 p2_0, .pointer (some ⟨g_1, 0, none⟩), undef, undef, .pointer (some ⟨g_2, 0, none⟩), .bool false, .int .i64 n_1, .int .u64 r_3.1, .int .u64 r_3.2, .int .u64 r_4.1, .int .u64 r_4.2, undef, (u_1 0), (u_1 1), (u_1 2), (u_1 3), (u_1 4), (u_1 5), (u_1 6), (u_1 7), (u_1 8), (u_1 9), (u_1 10), (u_1 11), (u_1 12), (u_1 13), (u_1 14), (u_1 15), (u_1 16), (u_1 17), .bool x_1, undef, .pointer (some ⟨g_1, 0, none⟩), .int .i64 p0_0.N, (u_2 0), (u_2 1), (u_2 2), (u_2 3), .tuple #[.int .u64 r_3.1, .int .u64 r_3.2], .int .i64 n_1, .pointer (some ⟨g_1, 1, none⟩), .int .u8 p0_0.D, .int .i64 (cvt .i64 p0_0.D), .int .i64 (sub .i64 6 (cvt .i64 p0_0.D)), .int .i64 r_2, .int .i64 (mul .i64 n_1 r_2), .int .u64 (cvt .u64 (mul .i64 n_1 r_2)), .int .i64 p1_0, .int .u64 (cvt .u64 p1_0), .tuple #[.int .u64 r_3.1, .int .u64 r_3.2], .int .u64 r_3.1, .int .u64 r_3.2, .int .u64 r_3.1, .int .i64 p2_0, .int .u64 (cvt .u64 p2_0), .bool (ge r_3.1 (cvt .u64 p2_0)), undef, .tuple #[.int .u64 r_4.1, .int .u64 r_4.2], .int .u64 r_3.1, .int .u64 r_3.2, .int .i64 p2_0, .int .u64 (cvt .u64 p2_0), .tuple #[.int .u64 r_4.1, .int .u64 r_4.2], .int .u64 r_4.1, .int .u64 r_4.2, undef, undef, undef, undef, undef, undef, undef, undef, undef, undef, undef, undef, undef, undef, undef, undef, undef, undef, undef, undef, undef, undef, undef, undef, undef, undef, undef] (by kernel_rfl) ?_
          refine cw_seq ?_
          refine cw_seq ?_
          refine cw_region ?_
          refine wl_val (v := .int .u64 r_4.2) (w' := w_10) (by kernel_rfl) (run_move (v := .int .u64 r_4.2) (by kernel_rfl)) ?_
          refine wl_val (v := .bool (nei r_4.2 0)) (w' := w_10) (by kernel_rfl) (run_nei (k := .u64) (a := r_4.2) (b := 0) (by kernel_rfl) (by kernel_rfl)) ?_
          refine wl_nil ?_
          refine then_n ?_
          refine cw_cond (t := (nei r_4.2 0)) (by kernel_rfl) (fun hc_8 => ?_) (fun hc_8 => ?_)
          · have hm := ite_t hm hc_8
            refine cw_seq ?_
            refine cw_region ?_
            refine wl_val (v := .agg #[.int .i64 0, .int .u8 0]) (w' := w_10) (by kernel_rfl) (by kernel_rfl) ?_
            refine wl_op (by kernel_rfl) (ow_store_box' (g := g_2) (j := 0) (v := .agg #[.int .i64 0, .int .u8 0]) (vs := [.int .i64 0, .int .u8 0]) (cs' := [.int .i64 0, .int .u8 0]) sz_23 (by kernel_rfl) (by kernel_rfl) rfl rfl rfl hL h_2 rfl (by simp) rfl ?_)
            intro w_11 hS h_9
            replace h_1 := hS.box h_1 (hL.apart 1 0 rfl rfl (by decide) _ rfl)
            replace hB := hS.below hL hB
            replace hL := hS.hL
            refine wl_val (v := .bool false) (w' := w_11) (by kernel_rfl) (run_assign (v := .bool false) (by kernel_rfl)) ?_
            refine wl_nil ?_
            refine then_n ?_
            refine cw_ret ?_
            refine then_ret ?_
            have hl0 := loadVar_boxn (P := Tryd.prog) (j := 0) (vs := [.int .i64 0, .int .u8 0]) Tryd.underlying23 rfl sz_23 h_9 (by kernel_rfl) rfl
            have hS : Stp w0.heap.size _ [] F [] w_11 _ := Stp.pick hL [] rfl (by decide)
            replace hB := hS.below hL hB
            replace hL := hS.hL
            obtain rfl := Option.some.inj hm
            exact ret2 (v := .agg #[.int .i64 0, .int .u8 0]) (v' := .bool false) rfl (resv_cell (ad := ⟨g_2, 0, none⟩) (by kernel_rfl) hl0) (resv_tmp (by kernel_rfl)) ⟨_, rfl, by kernel_rfl, hB⟩
          · have hm := ite_f hm hc_8
            refine cw_skip ?_
            refine then_n ?_
            refine cw_seq ?_
            refine cw_region ?_
            refine wl_val (v := .int .u8 6) (w' := w_10) (by kernel_rfl) (run_assign (v := .int .u8 6) (by kernel_rfl)) ?_
            refine wl_nil ?_
            refine then_n ?_
            refine cw_cut (fun l' w' => ∃ q_2 places_2, ∃ u_8 : Nat → Value, l' = [.agg #[.int .i64 p0_0.N, .int .u8 p0_0.D], .int .i64 p1_0, .int .i64 p2_0, .pointer (some ⟨g_1, 0, none⟩), undef, undef, .pointer (some ⟨g_2, 0, none⟩), .bool false, .int .i64 n_1, .int .u64 r_3.1, .int .u64 r_3.2, .int .u64 q_2, .int .u64 r_4.2, .int .u8 places_2, (u_1 0), (u_1 1), (u_1 2), (u_1 3), (u_1 4), (u_1 5), (u_1 6), (u_1 7), (u_1 8), (u_1 9), (u_1 10), (u_1 11), (u_1 12), (u_1 13), (u_1 14), (u_1 15), (u_1 16), (u_1 17), .bool x_1, undef, .pointer (some ⟨g_1, 0, none⟩), .int .i64 p0_0.N, (u_2 0), (u_2 1), (u_2 2), (u_2 3), .tuple #[.int .u64 r_3.1, .int .u64 r_3.2], .int .i64 n_1, .pointer (some ⟨g_1, 1, none⟩), .int .u8 p0_0.D, .int .i64 (cvt .i64 p0_0.D), .int .i64 (sub .i64 6 (cvt .i64 p0_0.D)), .int .i64 r_2, .int .i64 (mul .i64 n_1 r_2), .int .u64 (cvt .u64 (mul .i64 n_1 r_2)), .int .i64 p1_0, .int .u64 (cvt .u64 p1_0), .tuple #[.int .u64 r_3.1, .int .u64 r_3.2], .int .u64 r_3.1, .int .u64 r_3.2, .int .u64 r_3.1, .int .i64 p2_0, .int .u64 (cvt .u64 p2_0), .bool (ge r_3.1 (cvt .u64 p2_0)), undef, .tuple #[.int .u64 r_4.1, .int .u64 r_4.2], .int .u64 r_3.1, .int .u64 r_3.2, .int .i64 p2_0, .int .u64 (cvt .u64 p2_0), .tuple #[.int .u64 r_4.1, .int .u64 r_4.2], .int .u64 r_4.1, .int .u64 r_4.2, .int .u64 r_4.2, .bool (nei r_4.2 0), undef, (u_8 0), (u_8 1), (u_8 2), (u_8 3), (u_8 4), (u_8 5), (u_8 6), (u_8 7), (u_8 8), (u_8 9), (u_8 10), undef, undef, undef, undef, undef, undef, undef, undef, undef, undef, undef, undef, undef] ∧ LOk w0.heap.size [some g_2, some g_1] F w' ∧ Below w0.heap.size w0 w' ∧ Bx w' g_1 [.int .i64 p0_0.N, .int .u8 p0_0.D] 23 ∧ Bx w' g_2 [.int .i64 0, .int .u8 0] 23 ∧ m13_J3 fuel p0_0 q_2 places_2 = some r) ?_ ?_
            · refine cw_block ?_
              refine cw_loop (σ := Int × Int) (m13_L5 fuel p0_0) r (fun s l' w' => ∃ u_12 : Nat → Value, l' = [.agg #[.int .i64 p0_0.N, .int .u8 p0_0.D], .int .i64 p1_0, .int .i64 p2_0, .pointer (some ⟨g_1, 0, none⟩), undef, undef, .pointer (some ⟨g_2, 0, none⟩), .bool false, .int .i64 n_1, .int .u64 r_3.1, .int .u64 r_3.2, .int .u64 s.1, .int .u64 r_4.2, .int .u8 s.2, (u_1 0), (u_1 1), (u_1 2), (u_1 3), (u_1 4), (u_1 5), (u_1 6), (u_1 7), (u_1 8), (u_1 9), (u_1 10), (u_1 11), (u_1 12), (u_1 13), (u_1 14), (u_1 15), (u_1 16), (u_1 17), .bool x_1, undef, .pointer (some ⟨g_1, 0, none⟩), .int .i64 p0_0.N, (u_2 0), (u_2 1), (u_2 2), (u_2 3), .tuple #[.int .u64 r_3.1, .int .u64 r_3.2], .int .i64 n_1, .pointer (some ⟨g_1, 1, none⟩), .int .u8 p0_0.D, .int .i64 (cvt .i64 p0_0.D), .int .i64 (sub .i64 6 (cvt .i64 p0_0.D)), .int .i64 r_2, .int .i64 (mul .i64 n_1 r_2), .int .u64 (cvt .u64 (mul .i64 n_1 r_2)), .int .i64 p1_0, .int .u64 (cvt .u64 p1_0), .tuple #[.int .u64 r_3.1, .int .u64 r_3.2], .int .u64 r_3.1, .int .u64 r_3.2, .int .u64 r_3.1, .int .i64 p2_0, .int .u64 (cvt .u64 p2_0), .bool (ge r_3.1 (cvt .u64 p2_0)), undef, .tuple #[.int .u64 r_4.1, .int .u64 r_4.2], .int .u64 r_3.1, .int .u64 r_3.2, .int .i64 p2_0, .int .u64 (cvt .u64 p2_0), .tuple #[.int .u64 r_4.1, .int .u64 r_4.2], .int .u64 r_4.1, .int .u64 r_4.2, .int .u64 r_4.2, .bool (nei r_4.2 0), undef, (u_12 0), (u_12 1), (u_12 2), (u_12 3), (u_12 4), (u_12 5), (u_12 6), (u_12 7), (u_12 8), (u_12 9), (u_12 10), undef, undef, undef, undef, undef, undef, undef, undef, undef, undef, undef, undef, undef] ∧ LOk w0.heap.size [some g_2, some g_1] F w' ∧ Below w0.heap.size w0 w' ∧ Bx w' g_1 [.int .i64 p0_0.N, .int .u8 p0_0.D] 23 ∧ Bx w' g_2 [.int .i64 0, .int .u8 0] 23) ?_ (s := (r_4.1, 6)) (n := fuel) ⟨(fun i => ([undef, undef, undef, undef, undef, undef, undef, undef, undef, undef, undef] : List Value).getD i undef), by kernel_rfl, hL, hB, h_1, h_2⟩ hm
              intro self_1 s l1 w_16 hI hm
              obtain ⟨q_3, places_3⟩ := s
              try dsimp only at hI
              obtain ⟨u_12, rfl, hL, hB, h_1, h_2⟩ := hI
              unfold m13_L5 at hm
              refine cw_seq ?_
              refine cw_cut (fun l' w' => ∃ x_7, ∃ u_14 : Nat → Value, l' = [.agg #[.int .i64 p0_0.N, .int .u8 p0_0.D], .int .i64 p1_0, .int .i64 p2_0, .pointer (some ⟨g_1, 0, none⟩), undef, undef, .pointer (some ⟨g_2, 0, none⟩), .bool false, .int .i64 n_1, .int .u64 r_3.1, .int .u64 r_3.2, .int .u64 q_3, .int .u64 r_4.2, .int .u8 places_3, (u_1 0), (u_1 1), (u_1 2), (u_1 3), (u_1 4), (u_1 5), (u_1 6), (u_1 7), (u_1 8), (u_1 9), (u_1 10), (u_1 11), (u_1 12), (u_1 13), (u_1 14), (u_1 15), (u_1 16), (u_1 17), .bool x_1, undef, .pointer (some ⟨g_1, 0, none⟩), .int .i64 p0_0.N, (u_2 0), (u_2 1), (u_2 2), (u_2 3), .tuple #[.int .u64 r_3.1, .int .u64 r_3.2], .int .i64 n_1, .pointer (some ⟨g_1, 1, none⟩), .int .u8 p0_0.D, .int .i64 (cvt .i64 p0_0.D), .int .i64 (sub .i64 6 (cvt .i64 p0_0.D)), .int .i64 r_2, .int .i64 (mul .i64 n_1 r_2), .int .u64 (cvt .u64 (mul .i64 n_1 r_2)), .int .i64 p1_0, .int .u64 (cvt .u64 p1_0), .tuple #[.int .u64 r_3.1, .int .u64 r_3.2], .int .u64 r_3.1, .int .u64 r_3.2, .int .u64 r_3.1, .int .i64 p2_0, .int .u64 (cvt .u64 p2_0), .bool (ge r_3.1 (cvt .u64 p2_0)), undef, .tuple #[.int .u64 r_4.1, .int .u64 r_4.2], .int .u64 r_3.1, .int .u64 r_3.2, .int .i64 p2_0, .int .u64 (cvt .u64 p2_0), .tuple #[.int .u64 r_4.1, .int .u64 r_4.2], .int .u64 r_4.1, .int .u64 r_4.2, .int .u64 r_4.2, .bool (nei r_4.2 0), undef, (u_14 0), (u_14 1), (u_14 2), (u_14 3), (u_14 4), (u_14 5), .bool x_7, (u_12 7), (u_12 8), (u_12 9), (u_12 10), undef, undef, undef, undef, undef, undef, undef, undef, undef, undef, undef, undef, undef] ∧ LOk w0.heap.size [some g_2, some g_1] F w' ∧ Below w0.heap.size w0 w' ∧ Bx w' g_1 [.int .i64 p0_0.N, .int .u8 p0_0.D] 23 ∧ Bx w' g_2 [.int .i64 0, .int .u8 0] 23 ∧ m13_J6 fuel p0_0 q_3 places_3 self_1 x_7 = some r) ?_ ?_
              · refine cw_region ?_
                refine wl_val (v := .int .u8 places_3) (w' := w_16) (by kernel_rfl) (run_move (v := .int .u8 places_3) (by kernel_rfl)) ?_
                refine wl_val (v := .bool (gt places_3 0)) (w' := w_16) (by kernel_rfl) (run_gt (k := .u8) (a := places_3) (b := 0) (by kernel_rfl) (by kernel_rfl)) ?_
                refine wl_val (v := .bool (gt places_3 0)) (w' := w_16) (by kernel_rfl) (run_move (v := .bool (gt places_3 0)) (by kernel_rfl)) ?_
                rcases Bool.eq_false_or_eq_true (gt places_3 0) with hc_24 | hc_24
                · have hm := ite_t hm hc_24
                  refine wl_val (v := .int .u64 q_3) (w' := w_16) (wg (c := (gt places_3 0)) (want := true) (by kernel_rfl) hc_24 rfl) (run_move (v := .int .u64 q_3) (by kernel_rfl)) ?_
                  refine wl_val (v := .int .u64 (rem q_3 10)) (w' := w_16) (wg (c := (gt places_3 0)) (want := true) (by kernel_rfl) hc_24 rfl) (run_rem (k := .u64) (a := q_3) (b := 10) (by kernel_rfl) (by kernel_rfl) (by decide)) ?_
                  refine wl_val (v := .bool (eqi (rem q_3 10) 0)) (w' := w_16) (wg (c := (gt places_3 0)) (want := true) (by kernel_rfl) hc_24 rfl) (run_eqi (k := .u64) (a := (rem q_3 10)) (b := 0) (by kernel_rfl) (by kernel_rfl)) ?_
                  refine wl_val (v := .bool (eqi (rem q_3 10) 0)) (w' := w_16) (by kernel_rfl) (run_pick_t (v := .bool (eqi (rem q_3 10) 0)) (tr2 (c := (gt places_3 0)) (by kernel_rfl) hc_24) (by kernel_rfl)) ?_
                  refine wl_nil ?_
                  exact then_c ⟨(eqi (rem q_3 10) 0), (fun i => ([.int .u8 places_3, .bool (gt places_3 0), .bool (gt places_3 0), .int .u64 q_3, .int .u64 (rem q_3 10), .bool (eqi (rem q_3 10) 0)] : List Value).getD i undef), by kernel_rfl, hL, hB, h_1, h_2, hm⟩
                · have hm := ite_f hm hc_24
                  refine wl_not (wg (c := (gt places_3 0)) (want := true) (by kernel_rfl) hc_24 rfl) ?_
                  refine wl_not (wg (c := (gt places_3 0)) (want := true) (by kernel_rfl) hc_24 rfl) ?_
                  refine wl_not (wg (c := (gt places_3 0)) (want := true) (by kernel_rfl) hc_24 rfl) ?_
                  refine wl_val (v := .bool false) (w' := w_16) (by kernel_rfl) (run_pick_f (v := .bool false) (tr2 (c := (gt places_3 0)) (by kernel_rfl) hc_24) (by kernel_rfl)) ?_
                  refine wl_nil ?_
                  exact then_c ⟨false, (fun i => ([.int .u8 places_3, .bool (gt places_3 0), .bool (gt places_3 0), undef, undef, undef] : List Value).getD i undef), by kernel_rfl, hL, hB, h_1, h_2, hm⟩
              · intro l1 w_17 hI
                obtain ⟨x_7, u_14, rfl, hL, hB, h_1, h_2, hm⟩ := hI
                unfold m13_J6 at hm
                refine cw_cond (t := x_7) (by kernel_rfl) (fun hc_23 => ?_) (fun hc_23 => ?_)
                · have hm := ite_t hm hc_23
                  refine cw_skip ?_
                  refine then_n ?_
                  refine cw_block ?_
                  refine cw_region ?_
                  refine wl_val (v := .int .u64 q_3) (w' := w_17) (by kernel_rfl) (run_move (v := .int .u64 q_3) (by kernel_rfl)) ?_
                  refine wl_val (v := .int .u64 (quo .u64 q_3 10)) (w' := w_17) (by kernel_rfl) (run_quo (k := .u64) (a := q_3) (b := 10) (by kernel_rfl) (by kernel_rfl) (by decide)) ?_
                  refine wl_val (v := .int .u8 places_3) (w' := w_17) (by kernel_rfl) (run_move (v := .int .u8 places_3) (by kernel_rfl)) ?_
                  refine wl_val (v := .int .u8 (sub .u8 places_3 1)) (w' := w_17) (by kernel_rfl) (run_sub (k := .u8) (a := places_3) (b := 1) (by kernel_rfl) (by kernel_rfl)) ?_
                  refine wl_val (v := .int .u64 (quo .u64 q_3 10)) (w' := w_17) (by kernel_rfl) (run_assign (v := .int .u64 (quo .u64 q_3 10)) (by kernel_rfl)) ?_
                  refine wl_val (v := .int .u8 (sub .u8 places_3 1)) (w' := w_17) (by kernel_rfl) (run_assign (v := .int .u8 (sub .u8 places_3 1)) (by kernel_rfl)) ?_
                  refine wl_nil ?_
                  refine inBlock_n ?_
                  exact ⟨_, rfl, ((quo .u64 q_3 10), (sub .u8 places_3 1)), ⟨(fun i => ([(u_14 0), (u_14 1), (u_14 2), (u_14 3), (u_14 4), (u_14 5), .bool x_7, .int .u64 q_3, .int .u64 (quo .u64 q_3 10), .int .u8 places_3, .int .u8 (sub .u8 places_3 1)] : List Value).getD i undef), by kernel_rfl, hL, hB, h_1, h_2⟩, hm⟩
                · have hm := ite_f hm hc_23
                  refine cw_exit ?_
                  refine then_exit ?_
                  refine then_exit ?_
                  refine inBlock_same ?_
                  exact then_c ⟨q_3, places_3, (fun i => ([(u_14 0), (u_14 1), (u_14 2), (u_14 3), (u_14 4), (u_14 5), .bool x_7, (u_12 7), (u_12 8), (u_12 9), (u_12 10)] : List Value).getD i undef), by kernel_rfl, hL, hB, h_1, h_2, hm⟩
            · intro l1 w_12 hI
              obtain ⟨q_2, places_2, u_8, rfl, hL, hB, h_1, h_2, hm⟩ := hI
              unfold m13_J3 at hm
              refine cw_seq ?_
              refine cw_seq ?_
              refine cw_region ?_
              refine wl_val (v := .int .u64 q_2) (w' := w_12) (by kernel_rfl) (run_move (v := .int .u64 q_2) (by kernel_rfl)) ?_
              refine wl_val (v := .bool (gt q_2 1000000000000)) (w' := w_12) (by kernel_rfl) (run_gt (k := .u64) (a := q_2) (b := 1000000000000) (by kernel_rfl) (by kernel_rfl)) ?_
              refine wl_nil ?_
              refine then_n ?_
              refine cw_cond (t := (gt q_2 1000000000000)) (by kernel_rfl) (fun hc_15 => ?_) (fun hc_15 => ?_)
              · have hm := ite_t hm hc_15
                refine cw_seq ?_
                refine cw_region ?_
                refine wl_val (v := .agg #[.int .i64 0, .int .u8 0]) (w' := w_12) (by kernel_rfl) (by kernel_rfl) ?_
                refine wl_op (by kernel_rfl) (ow_store_box' (g := g_2) (j := 0) (v := .agg #[.int .i64 0, .int .u8 0]) (vs := [.int .i64 0, .int .u8 0]) (cs' := [.int .i64 0, .int .u8 0]) sz_23 (by kernel_rfl) (by kernel_rfl) rfl rfl rfl hL h_2 rfl (by simp) rfl ?_)
                intro w_13 hS h_10
                replace h_1 := hS.box h_1 (hL.apart 1 0 rfl rfl (by decide) _ rfl)
                replace hB := hS.below hL hB
                replace hL := hS.hL
                refine wl_val (v := .bool false) (w' := w_13) (by kernel_rfl) (run_assign (v := .bool false) (by kernel_rfl)) ?_
                refine wl_nil ?_
                refine then_n ?_
                refine cw_ret ?_
                refine then_ret ?_
                have hl0 := loadVar_boxn (P := Tryd.prog) (j := 0) (vs := [.int .i64 0, .int .u8 0]) Tryd.underlying23 rfl sz_23 h_10 (by kernel_rfl) rfl
                have hS : Stp w0.heap.size _ [] F [] w_13 _ := Stp.pick hL [] rfl (by decide)
                replace hB := hS.below hL hB
                replace hL := hS.hL
                obtain rfl := Option.some.inj hm
                exact ret2 (v := .agg #[.int .i64 0, .int .u8 0]) (v' := .bool false) rfl (resv_cell (ad := ⟨g_2, 0, none⟩) (by kernel_rfl) hl0) (resv_tmp (by kernel_rfl)) ⟨_, rfl, by kernel_rfl, hB⟩
              · have hm := ite_f hm hc_15
                refine cw_skip ?_
                refine then_n ?_
                refine cw_seq ?_
                refine cw_region ?_
                refine wl_val (v := .int .u64 q_2) (w' := w_12) (by kernel_rfl) (run_move (v := .int .u64 q_2) (by kernel_rfl)) ?_
                refine wl_val (v := .int .i64 (cvt .i64 q_2)) (w' := w_12) (by kernel_rfl) (run_cvt (k := .u64) (a := q_2) Tryd.underlying55 Tryd.underlying2 (by kernel_rfl)) ?_
                refine wl_val (v := .int .i64 (cvt .i64 q_2)) (w' := w_12) (by kernel_rfl) (run_assign (v := .int .i64 (cvt .i64 q_2)) (by kernel_rfl)) ?_
                refine wl_nil ?_
                refine then_n ?_
                refine cw_cut (fun l' w' => ∃ n_2, ∃ u_9 : Nat → Value, l' = [.agg #[.int .i64 p0_0.N, .int .u8 p0_0.D], .int .i64 p1_0, .int .i64 p2_0, .pointer (some ⟨g_1, 0, none⟩), undef, undef, .pointer (some ⟨g_2, 0, none⟩), .bool false, .int .i64 n_2, .int .u64 r_3.1, .int .u64 r_3.2, .int .u64 q_2, .int .u64 r_4.2, .int .u8 places_2, (u_1 0), (u_1 1), (u_1 2), (u_1 3), (u_1 4), (u_1 5), (u_1 6), (u_1 7), (u_1 8), (u_1 9), (u_1 10), (u_1 11), (u_1 12), (u_1 13), (u_1 14), (u_1 15), (u_1 16), (u_1 17), .bool x_1, undef, .pointer (some ⟨g_1, 0, none⟩), .int .i64 p0_0.N, (u_2 0), (u_2 1), (u_2 2), (u_2 3), .tuple #[.int .u64 r_3.1, .int .u64 r_3.2], .int .i64 n_1, .pointer (some ⟨g_1, 1, none⟩), .int .u8 p0_0.D, .int .i64 (cvt .i64 p0_0.D), .int .i64 (sub .i64 6 (cvt .i64 p0_0.D)), .int .i64 r_2, .int .i64 (mul .i64 n_1 r_2), .int .u64 (cvt .u64 (mul .i64 n_1 r_2)), .int .i64 p1_0, .int .u64 (cvt .u64 p1_0), .tuple #[.int .u64 r_3.1, .int .u64 r_3.2], .int .u64 r_3.1, .int .u64 r_3.2, .int .u64 r_3.1, .int .i64 p2_0, .int .u64 (cvt .u64 p2_0), .bool (ge r_3.1 (cvt .u64 p2_0)), undef, .tuple #[.int .u64 r_4.1, .int .u64 r_4.2], .int .u64 r_3.1, .int .u64 r_3.2, .int .i64 p2_0, .int .u64 (cvt .u64 p2_0), .tuple #[.int .u64 r_4.1, .int .u64 r_4.2], .int .u64 r_4.1, .int .u64 r_4.2, .int .u64 r_4.2, .bool (nei r_4.2 0), undef, (u_8 0), (u_8 1), (u_8 2), (u_8 3), (u_8 4), (u_8 5), (u_8 6), (u_8 7), (u_8 8), (u_8 9), (u_8 10), .int .u64 q_2, .bool (gt q_2 1000000000000), undef, .int .u64 q_2, .int .i64 (cvt .i64 q_2), (u_9 0), (u_9 1), (u_9 2), (u_9 3), (u_9 4), undef, undef, undef] ∧ LOk w0.heap.size [some g_2] F w' ∧ Below w0.heap.size w0 w' ∧ Bx w' g_2 [.int .i64 0, .int .u8 0] 23 ∧ m13_J4 fuel places_2 n_2 = some r) ?_ ?_
                · refine cw_seq ?_
                  refine cw_region ?_
                  refine wl_val (v := .pointer (some ⟨g_1, 0, none⟩)) (w' := w_12) (by kernel_rfl) (run_fieldAddr (b := g_1) (o := 0) fo_23_0 (by kernel_rfl)) ?_
                  refine wl_val (v := .int .i64 p0_0.N) (w' := w_12) (by kernel_rfl) (run_load_box1 (j := 0) Tryd.underlying2 rfl (by kernel_rfl) h_1 (by kernel_rfl)) ?_
                  refine wl_val (v := .bool (lt p0_0.N 0)) (w' := w_12) (by kernel_rfl) (run_lt (k := .i64) (a := p0_0.N) (b := 0) (by kernel_rfl) (by kernel_rfl)) ?_
                  refine wl_nil ?_
                  refine then_n ?_
                  refine cw_cond (t := (lt p0_0.N 0)) (by kernel_rfl) (fun hc_17 => ?_) (fun hc_17 => ?_)
                  · have hm := ite_t hm hc_17
                    refine cw_region ?_
                    refine wl_val (v := .int .i64 (cvt .i64 q_2)) (w' := w_12) (by kernel_rfl) (run_move (v := .int .i64 (cvt .i64 q_2)) (by kernel_rfl)) ?_
                    refine wl_val (v := .int .i64 (neg .i64 (cvt .i64 q_2))) (w' := w_12) (by kernel_rfl) (run_neg (k := .i64) (a := (cvt .i64 q_2)) (by kernel_rfl)) ?_
                    refine wl_val (v := .int .i64 (neg .i64 (cvt .i64 q_2))) (w' := w_12) (by kernel_rfl) (run_assign (v := .int .i64 (neg .i64 (cvt .i64 q_2))) (by kernel_rfl)) ?_
                    refine wl_nil ?_
                    have hS : Stp w0.heap.size _ [some g_2] F [] w_12 _ := Stp.pick hL [0] rfl (by decide)
                    replace h_2 := hS.box h_2 nilN
                    replace hB := hS.below hL hB
                    replace hL := hS.hL
                    exact then_c ⟨(neg .i64 (cvt .i64 q_2)), (fun i => ([.pointer (some ⟨g_1, 0, none⟩), .int .i64 p0_0.N, .bool (lt p0_0.N 0), .int .i64 (cvt .i64 q_2), .int .i64 (neg .i64 (cvt .i64 q_2))] : List Value).getD i undef), by kernel_rfl, hL, hB, h_2, hm⟩
                  · have hm := ite_f hm hc_17
                    refine cw_skip ?_
                    have hS : Stp w0.heap.size _ [some g_2] F [] w_12 _ := Stp.pick hL [0] rfl (by decide)
                    replace h_2 := hS.box h_2 nilN
                    replace hB := hS.below hL hB
                    replace hL := hS.hL
                    exact then_c ⟨(cvt .i64 q_2), (fun i => ([.pointer (some ⟨g_1, 0, none⟩), .int .i64 p0_0.N, .bool (lt p0_0.N 0), undef, undef] : List Value).getD i undef), by kernel_rfl, hL, hB, h_2, hm⟩
                · intro l1 w_14 hI
                  obtain ⟨n_2, u_9, rfl, hL, hB, h_2, hm⟩ := hI
                  unfold m13_J4 at hm
                  refine cw_seq ?_
                  refine cw_region ?_
                  refine wl_val (v := .int .i64 n_2) (w' := w_14) (by kernel_rfl) (run_move (v := .int .i64 n_2) (by kernel_rfl)) ?_
                  refine wl_val (v := .int .u8 places_2) (w' := w_14) (by kernel_rfl) (run_move (v := .int .u8 places_2) (by kernel_rfl)) ?_
                  refine wl_val (v := .agg #[.int .i64 n_2, .int .u8 places_2]) (w' := w_14) (by kernel_rfl) (by kernel_rfl) ?_
                  refine wl_op (by kernel_rfl) (ow_store_box' (g := g_2) (j := 0) (v := .agg #[.int .i64 n_2, .int .u8 places_2]) (vs := [.int .i64 n_2, .int .u8 places_2]) (cs' := [.int .i64 n_2, .int .u8 places_2]) sz_23 (by kernel_rfl) (by kernel_rfl) rfl rfl rfl hL h_2 rfl (by simp) rfl ?_)
                  intro w_15 hS h_11
                  replace hB := hS.below hL hB
                  replace hL := hS.hL
                  refine wl_val (v := .bool true) (w' := w_15) (by kernel_rfl) (run_assign (v := .bool true) (by kernel_rfl)) ?_
                  refine wl_nil ?_
                  refine then_n ?_
                  refine cw_ret ?_
                  have hl0 := loadVar_boxn (P := Tryd.prog) (j := 0) (vs := [.int .i64 n_2, .int .u8 places_2]) Tryd.underlying23 rfl sz_23 h_11 (by kernel_rfl) rfl
                  have hS : Stp w0.heap.size _ [] F [] w_15 _ := Stp.pick hL [] rfl (by decide)
                  replace hB := hS.below hL hB
                  replace hL := hS.hL
                  obtain rfl := Option.some.inj hm
                  exact ret2 (v := .agg #[.int .i64 n_2, .int .u8 places_2]) (v' := .bool true) rfl (resv_cell (ad := ⟨g_2, 0, none⟩) (by kernel_rfl) hl0) (resv_tmp (by kernel_rfl)) ⟨_, rfl, by kernel_rfl, hB⟩
end SxYtihfogahdofdmaaDoor

end

section
/- Plain laws: a decimal times a fraction. -/
namespace SxYtihfogahdofdmaaDoor
open Go Sx
theorem strip_neg : ∀ k n, strip k (-n) = ((strip k n).1, -(strip k n).2)
  | 0, n => rfl
  | k + 1, n => by
    unfold strip
    rw [Int.neg_tmod, Int.neg_tdiv]
    by_cases h : n.tmod 10 = 0
    · rw [if_pos (by omega), if_pos h, strip_neg k]
    · rw [if_neg (by omega), if_neg h]
theorem strip_nonneg : ∀ k n, 0 ≤ n → 0 ≤ (strip k n).2 ∧ (strip k n).2 ≤ n
  | 0, n, h => ⟨h, Int.le_refl _⟩
  | k + 1, n, h => by
    unfold strip
    split
    · have := tm10 n
      have := strip_nonneg k (n.tdiv 10) (by omega)
      omega
    · exact ⟨h, Int.le_refl _⟩
/-- a decimal in parts of a million -/
def six (d : TDec) : Int := d.N * p10 (6 - d.D.toNat)
/-- the decimal of so many parts of a million -/
def deca (x : Int) : TDec := ⟨(strip 6 x).2, ((strip 6 x).1 : Nat)⟩
/-- whether it is one -/
def fits (x : Int) : Bool := decide (-1000000000000 ≤ (strip 6 x).2 ∧ (strip 6 x).2 ≤ 1000000000000)
def timesD (d : TDec) (n m : Int) : TDec × Bool :=
  if six d * n % m = 0 ∧ fits (six d * n / m) = true then (deca (six d * n / m), true) else (⟨0, 0⟩, false)
theorem six_deca (x : Int) : six (deca x) = x := by
  obtain ⟨_, h2, _⟩ := strip_spec 6 x
  unfold six deca
  simp only [Int.toNat_natCast]
  exact h2.symm
theorem right_deca {x : Int} (h : fits x = true) : RightD (deca x) := by
  have h := of_decide_eq_true h
  obtain ⟨h1, _, h3⟩ := strip_spec 6 x
  refine ⟨h.1, h.2, by simp [deca], by simp [deca]; omega, ?_⟩
  rcases h3 with h3 | h3
  · exact .inl (by simp [deca, h3])
  · exact .inr h3
theorem right_six {a b : TDec} (ha : RightD a) (hb : RightD b) (h : six a = six b) : a = b := by
  have h1 := ha.2.2.2.1
  have h2 := hb.2.2.2.1
  exact right_one (K := 6) ha hb (by omega) (by omega) h
theorem strip_right_id {d : TDec} (h : RightD d) : strip 6 (six d) = (d.D.toNat, d.N) := by
  have hD := h.2.2.1
  have hD6 := h.2.2.2.1
  have h5 := h.2.2.2.2
  have key : ∀ (j k : Nat) (n : Int), strip (k + j) (n * p10 j) = strip k n := by
    intro j
    induction j with
    | zero => intro k n; simp [p10]
    | succ j ih =>
      intro k n
      rw [← Nat.add_assoc]
      show (if (n * p10 (j + 1)).tmod 10 = 0 then strip (k + j) ((n * p10 (j + 1)).tdiv 10) else (k + j + 1, n * p10 (j + 1))) = _
      rw [p10, Int.mul_left_comm, if_pos (Int.mul_tmod_right 10 _), Int.mul_tdiv_cancel_left _ (by decide : (10 : Int) ≠ 0), ih]
  have e : 6 = d.D.toNat + (6 - d.D.toNat) := by omega
  unfold six
  conv => lhs; arg 1; rw [e]
  rw [key]
  rcases h5 with h5 | h5
  · rw [h5]; rfl
  · cases hk : d.D.toNat with
    | zero => rfl
    | succ k =>
      show (if d.N.tmod 10 = 0 then _ else _) = _
      rw [if_neg h5]
theorem deca_six {d : TDec} (h : RightD d) : deca (six d) = d := by
  have h0 := h.2.2.1
  unfold deca
  rw [strip_right_id h]
  cases d
  simp at h0 ⊢
  omega
theorem fits_six {d : TDec} (h : RightD d) : fits (six d) = true := by
  unfold fits
  rw [strip_right_id h]
  exact decide_eq_true ⟨h.1, h.2.1⟩
theorem m13_loop (d : TDec) : ∀ (n m : Nat) (v : Int), n ≤ 6 → n < m → 0 ≤ v → v < 18446744073709551616 →
    loopF (m13_L5 64 d) m (v, (n : Int)) = m13_J3 64 d (strip n v).2 ((strip n v).1 : Nat)
  | n, 0, v, _, h, _, _ => by omega
  | 0, m + 1, v, _, _, _, _ => by
    have hg : gt ((0 : Nat) : Int) 0 = false := rfl
    simp only [loopF, m13_L5, hg, Bool.false_eq_true, if_false, m13_J6, strip]
  | n + 1, m + 1, v, h6, hm, h1, h2 => by
    have hs : sub .u8 ((n + 1 : Nat) : Int) 1 = (n : Int) := by
      unfold sub
      rw [wrapu8 (by omega) (by omega)]
      omega
    have hq : quo .u64 v 10 = v.tdiv 10 := by
      rw [quou h1 h2 (by decide), Int.tdiv_eq_ediv_of_nonneg h1]
    have hb := tm10 v
    have ih := m13_loop d n m (v.tdiv 10) (by omega) (by omega) (by omega) (by omega)
    have hg : gt ((n + 1 : Nat) : Int) 0 = true := decide_eq_true (by omega)
    simp only [loopF, m13_L5, m13_J6, hg, if_true, eqi, rem, hs, hq, strip]
    by_cases h : v.tmod 10 = 0
    · simp only [h, beq_self_eq_true, if_true, ih]
    · simp [h]
/-- Times -/
theorem m13_eq {d : TDec} {n m : Int} (hd : RightD d) (hn : 1 ≤ n) (hn' : n ≤ 1000000000) (hm : 1 ≤ m) (hm' : m ≤ 1000000000) :
    m13 64 d n m = some (timesD d n m) := by
  have h0 := hd.2.2.1
  have h6 := hd.2.2.2.1
  have bN := hd.1
  have bN' := hd.2.1
  have g1 : lt n 1 = false := decide_eq_false (by omega)
  have g2 : gt n 1000000000 = false := decide_eq_false (by omega)
  have g3 : lt m 1 = false := decide_eq_false (by omega)
  have g4 : gt m 1000000000 = false := decide_eq_false (by omega)
  have e6 : sub .i64 6 (cvt .i64 d.D) = ((6 - d.D.toNat : Nat) : Int) := by
    rw [cvt64 (by omega) (by omega)]
    unfold sub
    rw [wrap64 (by omega) (by omega)]
    omega
  have hp := p10_pos (6 - d.D.toNat)
  have hp' := p10_le (6 - d.D.toNat) (by omega)
  -- the absolute value
  obtain ⟨a, ha, hJ, haN⟩ : ∃ a : Int, (0 ≤ a ∧ a ≤ 1000000000000) ∧ (m13_J1 64 d n m false = m13_J2 64 d n m a) ∧ ((d.N < 0 ∧ d.N = -a) ∨ (0 ≤ d.N ∧ d.N = a)) := by
    by_cases q : d.N < 0
    · have e : lt d.N 0 = true := decide_eq_true q
      refine ⟨-d.N, by omega, ?_, .inl ⟨q, by omega⟩⟩
      unfold m13_J1
      simp only [Bool.false_eq_true, if_false, e, if_true]
      unfold neg
      rw [wrap64 (by omega) (by omega)]
    · have e : lt d.N 0 = false := decide_eq_false q
      exact ⟨d.N, by omega, by unfold m13_J1; simp only [Bool.false_eq_true, if_false, e], .inr ⟨by omega, rfl⟩⟩
  have hX := mul_b (a := a) (b := p10 (6 - d.D.toNat)) 1000000000000 1000000 1000000000000000000 (by decide) ha ⟨by omega, hp'⟩
  obtain ⟨X, hXd⟩ : ∃ X, X = a * p10 (6 - d.D.toNat) := ⟨_, rfl⟩
  rw [← hXd] at hX
  have hPb := mul_b (a := X) (b := n) 1000000000000000000 1000000000 1000000000000000000000000000 (by decide) hX ⟨by omega, hn'⟩
  have hsix : six d * n = X * n ∧ 0 ≤ d.N ∨ six d * n = -(X * n) ∧ d.N < 0 := by
    unfold six
    rcases haN with ⟨q1, q2⟩ | ⟨q1, q2⟩
    · right
      refine ⟨?_, q1⟩
      rw [q2, hXd, Int.neg_mul, Int.neg_mul]
    · left
      exact ⟨by rw [q2, hXd], q1⟩
  obtain ⟨P, hPd⟩ : ∃ P, P = X * n := ⟨_, rfl⟩
  rw [← hPd] at hPb hsix
  have emul : mul .i64 a (p10 (6 - d.D.toNat)) = X := by
    unfold mul
    rw [← hXd, wrap64 (by omega) (by omega)]
  have c1 : cvt .u64 X = X := by rw [cvtu]; omega
  have c2 : cvt .u64 n = n := by rw [cvtu]; omega
  have c3 : cvt .u64 m = m := by rw [cvtu]; omega
  unfold m13
  simp only [m14_right hd, Option.bind_some, if_true, g1, g2, g3, g4, Bool.false_eq_true, if_false, hJ]
  unfold m13_J2
  simp only [e6, m37_eq _ (show 6 - d.D.toNat ≤ 6 by omega), Option.bind_some, emul, c1, c2, c3, m36_eq (x := X) (y := n) (by omega) (by omega) (by omega) (by omega), ← hPd]
  have hsp : ∀ Q : Int, 0 ≤ Q → (strip 6 Q).2 * p10 (6 - (strip 6 Q).1) = Q := fun Q _ => (strip_spec 6 Q).2.1.symm
  by_cases q1 : m ≤ P / 18446744073709551616
  · have e1 : ge (P / 18446744073709551616) m = true := decide_eq_true q1
    simp only [e1, if_true]
    congr 1
    unfold timesD
    rw [if_neg]
    rintro ⟨hz, hf⟩
    have hf := of_decide_eq_true hf
    have hQ : 18446744073709551616 ≤ P / m := by
      apply Int.le_ediv_of_mul_le (by omega)
      have : m * 18446744073709551616 ≤ P / 18446744073709551616 * 18446744073709551616 := Int.mul_le_mul_of_nonneg_right q1 (by decide)
      omega
    have hs := hsp (P / m) (by omega)
    have hs0 := strip_nonneg 6 (P / m) (by omega)
    have hle : (strip 6 (P / m)).2 ≤ 1000000000000 := by
      rcases hsix with ⟨q, _⟩ | ⟨q, _⟩
      · rw [q] at hf; exact hf.2
      · rw [q] at hf hz
        rw [Int.neg_ediv_of_dvd (Int.dvd_neg.1 (Int.dvd_of_emod_eq_zero hz)), strip_neg] at hf
        simp only at hf
        omega
    have := mul_b (a := (strip 6 (P / m)).2) (b := p10 (6 - (strip 6 (P / m)).1)) 1000000000000 1000000 1000000000000000000 (by decide) ⟨hs0.1, hle⟩ ⟨by have := p10_pos (6 - (strip 6 (P / m)).1); omega, p10_le _ (by omega)⟩
    omega
  · have e1 : ge (P / 18446744073709551616) m = false := decide_eq_false (by omega)
    simp only [e1, Bool.false_eq_true, if_false]
    rw [m38_eq (hi := P / 18446744073709551616) (lo := P % 18446744073709551616) hm (by omega) (by omega) (by omega) (by omega) (by omega)]
    have eP : P / 18446744073709551616 * 18446744073709551616 + P % 18446744073709551616 = P := by omega
    simp only [eP, Option.bind_some]
    by_cases q2 : P % m = 0
    · have e2 : nei (P % m) 0 = false := by simp [nei, q2]
      simp only [e2, Bool.false_eq_true, if_false]
      have hQ0 : 0 ≤ P / m := Int.ediv_nonneg hPb.1 (by omega)
      have hQ1 : P / m < 18446744073709551616 := Int.ediv_lt_of_lt_mul (by omega) (by omega)
      rw [show (6 : Int) = ((6 : Nat) : Int) from rfl, m13_loop d 6 64 (P / m) (by decide) (by decide) hQ0 hQ1]
      have hs0 := strip_nonneg 6 (P / m) hQ0
      have hdvd : m ∣ P := Int.dvd_of_emod_eq_zero q2
      unfold m13_J3 timesD
      rcases hsix with ⟨q, hN⟩ | ⟨q, hN⟩
      · rw [q]
        have e4 : lt d.N 0 = false := decide_eq_false (by omega)
        by_cases q3 : (strip 6 (P / m)).2 ≤ 1000000000000
        · have e3 : gt (strip 6 (P / m)).2 1000000000000 = false := decide_eq_false (by omega)
          simp only [e3, e4, Bool.false_eq_true, if_false, m13_J4, deca]
          rw [if_pos ⟨q2, decide_eq_true ⟨by omega, q3⟩⟩]
          rw [cvt64 (by omega) (by omega)]
        · have e3 : gt (strip 6 (P / m)).2 1000000000000 = true := decide_eq_true (by omega)
          simp only [e3, if_true]
          rw [if_neg (fun h => q3 (of_decide_eq_true h.2).2)]
      · rw [q]
        have e4 : lt d.N 0 = true := decide_eq_true (by omega)
        have e5 : -P / m = -(P / m) := Int.neg_ediv_of_dvd hdvd
        have e6 : -P % m = 0 := Int.emod_eq_zero_of_dvd (Int.dvd_neg.2 hdvd)
        rw [e5, e6]
        unfold fits deca
        rw [strip_neg]
        by_cases q3 : (strip 6 (P / m)).2 ≤ 1000000000000
        · have e3 : gt (strip 6 (P / m)).2 1000000000000 = false := decide_eq_false (by omega)
          simp only [e3, e4, Bool.false_eq_true, if_false, m13_J4, ite_true]
          rw [if_pos ⟨trivial, decide_eq_true ⟨by omega, by omega⟩⟩]
          rw [cvt64 (by omega) (by omega)]
          unfold neg
          rw [wrap64 (by omega) (by omega)]
        · have e3 : gt (strip 6 (P / m)).2 1000000000000 = true := decide_eq_true (by omega)
          simp only [e3, ite_true]
          rw [if_neg (fun h => q3 (by have := (of_decide_eq_true h.2).1; omega))]
    · have e2 : nei (P % m) 0 = true := by simp [nei, q2]
      simp only [e2, if_true]
      congr 1
      unfold timesD
      rw [if_neg]
      rintro ⟨hz, _⟩
      apply q2
      rcases hsix with ⟨q, _⟩ | ⟨q, _⟩
      · rw [q] at hz; exact hz
      · rw [q] at hz
        exact Int.emod_eq_zero_of_dvd (Int.dvd_neg.1 (Int.dvd_of_emod_eq_zero hz))
end SxYtihfogahdofdmaaDoor

end

section
/- Written by program (gen.py): the model of saucier/units.known, and the proof that its code computes it. -/
namespace SxYtihfogahdofdmaaDoor
open Go Go.RowKit Sx Go.Proofs
set_option linter.unusedVariables false
set_option linter.unusedSimpArgs false
attribute [local irreducible] WL WX CW OW
/-! ### 33: "saucier/units.known" -/
def m33 (fuel : Nat) : Option (List ((List UInt8) × TUnit)) :=
  some (mput (mput (mput (mput (mput (mput (mput (mput (mput (mput (mput (mput (mput (mput (mput (mput (mput (mput [] ([] : List UInt8) (⟨([] : List UInt8), 1, 1⟩ : TUnit)) ([37] : List UInt8) (⟨([] : List UInt8), 1, 1⟩ : TUnit)) ([109] : List UInt8) (⟨([109] : List UInt8), 1, 1⟩ : TUnit)) ([99, 109] : List UInt8) (⟨([109] : List UInt8), 1, 100⟩ : TUnit)) ([109, 109] : List UInt8) (⟨([109] : List UInt8), 1, 1000⟩ : TUnit)) ([115] : List UInt8) (⟨([115] : List UInt8), 1, 1⟩ : TUnit)) ([109, 115] : List UInt8) (⟨([115] : List UInt8), 1, 1000⟩ : TUnit)) ([109, 105, 110] : List UInt8) (⟨([115] : List UInt8), 60, 1⟩ : TUnit)) ([104] : List UInt8) (⟨([115] : List UInt8), 3600, 1⟩ : TUnit)) ([98, 97, 114] : List UInt8) (⟨([98, 97, 114] : List UInt8), 1, 1⟩ : TUnit)) ([109, 98, 97, 114] : List UInt8) (⟨([98, 97, 114] : List UInt8), 1, 1000⟩ : TUnit)) ([107, 80, 97] : List UInt8) (⟨([98, 97, 114] : List UInt8), 1, 100⟩ : TUnit)) ([107, 103] : List UInt8) (⟨([107, 103] : List UInt8), 1, 1⟩ : TUnit)) ([103] : List UInt8) (⟨([107, 103] : List UInt8), 1, 1000⟩ : TUnit)) ([116] : List UInt8) (⟨([107, 103] : List UInt8), 1000, 1⟩ : TUnit)) ([108] : List UInt8) (⟨([108] : List UInt8), 1, 1⟩ : TUnit)) ([109, 108] : List UInt8) (⟨([108] : List UInt8), 1, 1000⟩ : TUnit)) ([67] : List UInt8) (⟨([67] : List UInt8), 1, 1⟩ : TUnit))
@[reducible] def Q33 (F : Lx) (w0 : World) (r : (List ((List UInt8) × TUnit))) (v : Value) (w' : World) : Prop := ∃ g0, v = .map (some g0) ∧ Below w0.heap.size w0 w' ∧ MapIs kv_51 vv_51 w' g0 r ∧ w0.heap.size ≤ g0 ∧ g0 < w'.heap.size
set_option maxRecDepth 100000 in
set_option maxHeartbeats 4000000 in
theorem f33_ok (fuel : Nat) (F : Lx) (w0 : World) (hF : ∀ k, some k ∈ F → k < w0.heap.size) {r : (List ((List UInt8) × TUnit))} (hm : m33 fuel = some r) :
    Calls Tryd.prog 33 #[] w0 (fun e w' => ∃ v, e = .returned v ∧ Q33 F w0 r v w') := by
  have hPF : PF (bodyPost Tryd.prog Tryd.f33 (fun e w' => ∃ v, e = .returned v ∧ Q33 F w0 r v w')) := PF.body (fun c w h => by obtain ⟨v, e, _⟩ := h; cases e)
  have hL := LOk.start hF
  have hB := Below.refl w0.heap.size w0
  unfold m33 at hm
  refine enter (l := [undef, undef, undef, undef, undef, undef, undef, undef, undef, undef, undef, undef, undef, undef, undef, undef, undef, undef, undef, undef, undef]) Tryd.func33 rfl Tryd.ntmps33 (by kernel_rfl) ?_
  refine cw_seq ?_
  refine cw_region ?_
  refine wl_val (v := .map none) (w' := w0) (by kernel_rfl) (run_assign (v := .map none) (by kernel_rfl)) ?_
  refine wl_nil ?_
  refine then_n ?_
  refine cw_seq ?_
  refine cw_region ?_
  refine wl_op (by kernel_rfl) (ow_makemap kv_51 vv_51 hL ?_)
  intro g_1 w_1 hS h_1
  replace hB := hS.below hL hB
  replace hL := hS.hL
  refine wl_val (v := .agg #[.string ⟨⟨([] : List UInt8)⟩⟩, .int .i64 1, .int .i64 1]) (w' := w_1) (by kernel_rfl) (by kernel_rfl) ?_
  refine wl_op (by kernel_rfl) (ow_mapput kp_51 Tryd.underlying51 (k := ([] : List UInt8)) (v := (⟨([] : List UInt8), 1, 1⟩ : TUnit)) (by kernel_rfl) (by kernel_rfl) (by kernel_rfl) hL h_1 (by simp) (.inr rfl) ?_)
  intro w_2 hS h_2
  replace hB := hS.below hL hB
  replace hL := hS.hL
  refine wl_val (v := .agg #[.string ⟨⟨([] : List UInt8)⟩⟩, .int .i64 1, .int .i64 1]) (w' := w_2) (by kernel_rfl) (by kernel_rfl) ?_
  refine wl_op (by kernel_rfl) (ow_mapput kp_51 Tryd.underlying51 (k := ([37] : List UInt8)) (v := (⟨([] : List UInt8), 1, 1⟩ : TUnit)) (by kernel_rfl) (by kernel_rfl) (by kernel_rfl) hL h_2 (by simp) (.inr rfl) ?_)
  intro w_3 hS h_3
  replace hB := hS.below hL hB
  replace hL := hS.hL
  refine wl_val (v := .agg #[.string ⟨⟨([109] : List UInt8)⟩⟩, .int .i64 1, .int .i64 1]) (w' := w_3) (by kernel_rfl) (by kernel_rfl) ?_
  refine wl_op (by kernel_rfl) (ow_mapput kp_51 Tryd.underlying51 (k := ([109] : List UInt8)) (v := (⟨([109] : List UInt8), 1, 1⟩ : TUnit)) (by kernel_rfl) (by kernel_rfl) (by kernel_rfl) hL h_3 (by simp) (.inr rfl) ?_)
  intro w_4 hS h_4
  replace hB := hS.below hL hB
  replace hL := hS.hL
  refine wl_val (v := .agg #[.string ⟨⟨([109] : List UInt8)⟩⟩, .int .i64 1, .int .i64 100]) (w' := w_4) (by kernel_rfl) (by kernel_rfl) ?_
  refine wl_op (by kernel_rfl) (ow_mapput kp_51 Tryd.underlying51 (k := ([99, 109] : List UInt8)) (v := (⟨([109] : List UInt8), 1, 100⟩ : TUnit)) (by kernel_rfl) (by kernel_rfl) (by kernel_rfl) hL h_4 (by simp) (.inr rfl) ?_)
  intro w_5 hS h_5
  replace hB := hS.below hL hB
  replace hL := hS.hL
  refine wl_val (v := .agg #[.string ⟨⟨([109] : List UInt8)⟩⟩, .int .i64 1, .int .i64 1000]) (w' := w_5) (by kernel_rfl) (by kernel_rfl) ?_
  refine wl_op (by kernel_rfl) (ow_mapput kp_51 Tryd.underlying51 (k := ([109, 109] : List UInt8)) (v := (⟨([109] : List UInt8), 1, 1000⟩ : TUnit)) (by kernel_rfl) (by kernel_rfl) (by kernel_rfl) hL h_5 (by simp) (.inr rfl) ?_)
  intro w_6 hS h_6
  replace hB := hS.below hL hB
  replace hL := hS.hL
  refine wl_val (v := .agg #[.string ⟨⟨([115] : List UInt8)⟩⟩, .int .i64 1, .int .i64 1]) (w' := w_6) (by kernel_rfl) (by kernel_rfl) ?_
  refine wl_op (by kernel_rfl) (ow_mapput kp_51 Tryd.underlying51 (k := ([115] : List UInt8)) (v := (⟨([115] : List UInt8), 1, 1⟩ : TUnit)) (by kernel_rfl) (by kernel_rfl) (by kernel_rfl) hL h_6 (by simp) (.inr rfl) ?_)
  intro w_7 hS h_7
  replace hB := hS.below hL hB
  replace hL := hS.hL
  refine wl_val (v := .agg #[.string ⟨⟨([115] : List UInt8)⟩⟩, .int .i64 1, .int .i64 1000]) (w' := w_7) (by kernel_rfl) (by kernel_rfl) ?_
  refine wl_op (by kernel_rfl) (ow_mapput kp_51 Tryd.underlying51 (k := ([109, 115] : List UInt8)) (v := (⟨([115] : List UInt8), 1, 1000⟩ : TUnit)) (by kernel_rfl) (by kernel_rfl) (by kernel_rfl) hL h_7 (by simp) (.inr rfl) ?_)
  intro w_8 hS h_8
  replace hB := hS.below hL hB
  replace hL := hS.hL
  refine wl_val (v := .agg #[.string ⟨⟨([115] : List UInt8)⟩⟩, .int .i64 60, .int .i64 1]) (w' := w_8) (by kernel_rfl) (by kernel_rfl) ?_
  refine wl_op (by kernel_rfl) (ow_mapput kp_51 Tryd.underlying51 (k := ([109, 105, 110] : List UInt8)) (v := (⟨([115] : List UInt8), 60, 1⟩ : TUnit)) (by kernel_rfl) (by kernel_rfl) (by kernel_rfl) hL h_8 (by simp) (.inr rfl) ?_)
  intro w_9 hS h_9
  replace hB := hS.below hL hB
  replace hL := hS.hL
  refine wl_val (v := .agg #[.string ⟨⟨([115] : List UInt8)⟩⟩, .int .i64 3600, .int .i64 1]) (w' := w_9) (by kernel_rfl) (by kernel_rfl) ?_
  refine wl_op (by kernel_rfl) (ow_mapput kp_51 Tryd.underlying51 (k := ([104] : List UInt8)) (v := (⟨([115] : List UInt8), 3600, 1⟩ : TUnit)) (by kernel_rfl) (by kernel_rfl) (by kernel_rfl) hL h_9 (by simp) (.inr rfl) ?_)
  intro w_10 hS h_10
  replace hB := hS.below hL hB
  replace hL := hS.hL
  refine wl_val (v := .agg #[.string ⟨⟨([98, 97, 114] : List UInt8)⟩⟩, .int .i64 1, .int .i64 1]) (w' := w_10) (by kernel_rfl) (by kernel_rfl) ?_
  refine wl_op (by kernel_rfl) (ow_mapput kp_51 Tryd.underlying51 (k := ([98, 97, 114] : List UInt8)) (v := (⟨([98, 97, 114] : List UInt8), 1, 1⟩ : TUnit)) (by kernel_rfl) (by kernel_rfl) (by kernel_rfl) hL h_10 (by simp) (.inr rfl) ?_)
  intro w_11 hS h_11
  replace hB := hS.below hL hB
  replace hL := hS.hL
  refine wl_val (v := .agg #[.string ⟨⟨([98, 97, 114] : List UInt8)⟩⟩, .int .i64 1, .int .i64 1000]) (w' := w_11) (by kernel_rfl) (by kernel_rfl) ?_
  refine wl_op (by kernel_rfl) (ow_mapput kp_51 Tryd.underlying51 (k := ([109, 98, 97, 114] : List UInt8)) (v := (⟨([98, 97, 114] : List UInt8), 1, 1000⟩ : TUnit)) (by kernel_rfl) (by kernel_rfl) (by kernel_rfl) hL h_11 (by simp) (.inr rfl) ?_)
  intro w_12 hS h_12
  replace hB := hS.below hL hB
  replace hL := hS.hL
  refine wl_val (v := .agg #[.string ⟨⟨([98, 97, 114] : List UInt8)⟩⟩, .int .i64 1, .int .i64 100]) (w' := w_12) (by kernel_rfl) (by kernel_rfl) ?_
  refine wl_op (by kernel_rfl) (ow_mapput kp_51 Tryd.underlying51 (k := ([107, 80, 97] : List UInt8)) (v := (⟨([98, 97, 114] : List UInt8), 1, 100⟩ : TUnit)) (by kernel_rfl) (by kernel_rfl) (by kernel_rfl) hL h_12 (by simp) (.inr rfl) ?_)
  intro w_13 hS h_13
  replace hB := hS.below hL hB
  replace hL := hS.hL
  refine wl_val (v := .agg #[.string ⟨⟨([107, 103] : List UInt8)⟩⟩, .int .i64 1, .int .i64 1]) (w' := w_13) (by kernel_rfl) (by kernel_rfl) ?_
  refine wl_norm [.map none, .map (some g_1), .agg #[.string ⟨⟨([] : List UInt8)⟩⟩, .int .i64 1, .int .i64 1], .agg #[.string ⟨⟨([] : List UInt8)⟩⟩, .int .i64 1, .int .i64 1], .agg #[.string ⟨⟨([109] : List UInt8)⟩⟩, .int .i64 1, .int .i64 1], .agg #[.string ⟨⟨([109] : List UInt8)⟩⟩, .int .i64 1, .int .i64 100], .agg #[.string ⟨⟨([109] : List UInt8)⟩⟩, .int .i64 1, .int .i64 1000], .agg #[.string ⟨⟨([115] : List UInt8)⟩⟩, .int .i64 1, .int .i64 1], .agg #[.string ⟨⟨([115] : List UInt8)⟩⟩, .int .i64 1, .int .i64 1000], .agg #[.string ⟨⟨([115] : List UInt8)⟩⟩, .int .i64 60, .int .i64 1], .agg #[.string ⟨⟨([115] : List UInt8)⟩⟩, .int .i64 3600, .int .i64 1], .agg #[.string ⟨⟨([98, 97, 114] : List UInt8)⟩⟩, .int .i64 1, .int .i64 1], .agg #[.string ⟨⟨([98, 97, 114] : List UInt8)⟩⟩, .int .i64 1, .int .i64 1000], .agg #[.string ⟨⟨([98, 97, 114] : List UInt8)⟩⟩, .int .i64 1, .int .i64 100], .agg #[.string ⟨⟨([107, 103] : List UInt8)⟩⟩, .int .i64 1, .int .i64 1], undef, undef, undef, undef, undef, undef] (by kernel_rfl) ?_
  refine wl_op (by kernel_rfl) (ow_mapput kp_51 Tryd.underlying51 (k := ([107, 103] : List UInt8)) (v := (⟨([107, 103] : List UInt8), 1, 1⟩ : TUnit)) (by kernel_rfl) (by kernel_rfl) (by kernel_rfl) hL h_13 (by simp) (.inr rfl) ?_)
  intro w_14 hS h_14
  replace hB := hS.below hL hB
  replace hL := hS.hL
  refine wl_val (v := .agg #[.string ⟨⟨([107, 103] : List UInt8)⟩⟩, .int .i64 1, .int .i64 1000]) (w' := w_14) (by kernel_rfl) (by kernel_rfl) ?_
  refine wl_op (by kernel_rfl) (ow_mapput kp_51 Tryd.underlying51 (k := ([103] : List UInt8)) (v := (⟨([107, 103] : List UInt8), 1, 1000⟩ : TUnit)) (by kernel_rfl) (by kernel_rfl) (by kernel_rfl) hL h_14 (by simp) (.inr rfl) ?_)
  intro w_15 hS h_15
  replace hB := hS.below hL hB
  replace hL := hS.hL
  refine wl_val (v := .agg #[.string ⟨⟨([107, 103] : List UInt8)⟩⟩, .int .i64 1000, .int .i64 1]) (w' := w_15) (by kernel_rfl) (by kernel_rfl) ?_
  refine wl_op (by kernel_rfl) (ow_mapput kp_51 Tryd.underlying51 (k := ([116] : List UInt8)) (v := (⟨([107, 103] : List UInt8), 1000, 1⟩ : TUnit)) (by kernel_rfl) (by kernel_rfl) (by kernel_rfl) hL h_15 (by simp) (.inr rfl) ?_)
  intro w_16 hS h_16
  replace hB := hS.below hL hB
  replace hL := hS.hL
  refine wl_val (v := .agg #[.string ⟨⟨([108] : List UInt8)⟩⟩, .int .i64 1, .int .i64 1]) (w' := w_16) (by kernel_rfl) (by kernel_rfl) ?_
  refine wl_op (by kernel_rfl) (ow_mapput kp_51 Tryd.underlying51 (k := ([108] : List UInt8)) (v := (⟨([108] : List UInt8), 1, 1⟩ : TUnit)) (by kernel_rfl) (by kernel_rfl) (by kernel_rfl) hL h_16 (by simp) (.inr rfl) ?_)
  intro w_17 hS h_17
  replace hB := hS.below hL hB
  replace hL := hS.hL
  refine wl_val (v := .agg #[.string ⟨⟨([108] : List UInt8)⟩⟩, .int .i64 1, .int .i64 1000]) (w' := w_17) (by kernel_rfl) (by kernel_rfl) ?_
  refine wl_op (by kernel_rfl) (ow_mapput kp_51 Tryd.underlying51 (k := ([109, 108] : List UInt8)) (v := (⟨([108] : List UInt8), 1, 1000⟩ : TUnit)) (by kernel_rfl) (by kernel_rfl) (by kernel_rfl) hL h_17 (by simp) (.inr rfl) ?_)
  intro w_18 hS h_18
  replace hB := hS.below hL hB
  replace hL := hS.hL
  refine wl_val (v := .agg #[.string ⟨⟨([67] : List UInt8)⟩⟩, .int .i64 1, .int .i64 1]) (w' := w_18) (by kernel_rfl) (by kernel_rfl) ?_
  refine wl_op (by kernel_rfl) (ow_mapput kp_51 Tryd.underlying51 (k := ([67] : List UInt8)) (v := (⟨([67] : List UInt8), 1, 1⟩ : TUnit)) (by kernel_rfl) (by kernel_rfl) (by kernel_rfl) hL h_18 (by simp) (.inr rfl) ?_)
  intro w_19 hS h_19
  replace hB := hS.below hL hB
  replace hL := hS.hL
  refine wl_val (v := .map (some g_1)) (w' := w_19) (by kernel_rfl) (run_move (v := .map (some g_1)) (by kernel_rfl)) ?_
  refine wl_val (v := .map (some g_1)) (w' := w_19) (by kernel_rfl) (run_assign (v := .map (some g_1)) (by kernel_rfl)) ?_
  refine wl_nil ?_
  refine then_n ?_
  refine cw_ret ?_
  obtain rfl := Option.some.inj hm
  exact ret1 (v := .map (some g_1)) rfl (resv_tmp (by kernel_rfl)) ⟨_, rfl, g_1, by kernel_rfl, hB, h_19, (hL.fresh 0 rfl _ rfl).1, (hL.fresh 0 rfl _ rfl).2⟩
end SxYtihfogahdofdmaaDoor

end

section
/- Written by program (gen.py): the model of saucier/units.To, and the proof that its code computes it. -/
namespace SxYtihfogahdofdmaaDoor
open Go Go.RowKit Sx Go.Proofs
set_option linter.unusedVariables false
set_option linter.unusedSimpArgs false
attribute [local irreducible] WL WX CW OW
/-! ### 11: "saucier/units.To" -/
def m11_J1 (fuel : Nat) (p0_0 : TDec) (x_1 : TUnit) (x_2 : TUnit) (x_3 : Bool) : Option (TDec × Bool) :=
  if x_3 then (some ((⟨0, 0⟩ : TDec), false)) else ((m13 fuel p0_0 (mul .i64 x_1.Num x_2.Den) (mul .i64 x_1.Den x_2.Num)).bind fun r_2 => some (r_2.1, r_2.2))
def m11 (fuel : Nat) (p0_0 : TDec) (p1_0 : (List UInt8)) (p2_0 : (List UInt8)) : Option (TDec × Bool) :=
  (m33 fuel ).bind fun r_1 => (some ((mget r_1 p1_0).getD (⟨[], 0, 0⟩ : TUnit))).bind fun x_1 => (some (mget r_1 p1_0).isSome).bind fun b_1 => (some ((mget r_1 p2_0).getD (⟨[], 0, 0⟩ : TUnit))).bind fun x_2 => (some (mget r_1 p2_0).isSome).bind fun b_2 => if b_1 then (if b_2 then (m11_J1 fuel p0_0 x_1 x_2 (nes x_1.Base x_2.Base)) else (m11_J1 fuel p0_0 x_1 x_2 true)) else (m11_J1 fuel p0_0 x_1 x_2 true)
@[reducible] def Q11 (F : Lx) (w0 : World) (r : (TDec × Bool)) (v : Value) (w' : World) : Prop := v = .tuple #[.agg #[.int .i64 r.1.N, .int .u8 r.1.D], .bool r.2] ∧ Below w0.heap.size w0 w'
set_option maxRecDepth 100000 in
set_option maxHeartbeats 4000000 in
theorem f11_ok (fuel : Nat) (F : Lx) (w0 : World) (hF : ∀ k, some k ∈ F → k < w0.heap.size) {p0_0 : TDec} {p1_0 : (List UInt8)} {p2_0 : (List UInt8)} {r : (TDec × Bool)} (hm : m11 fuel p0_0 p1_0 p2_0 = some r) :
    Calls Tryd.prog 11 #[.agg #[.int .i64 p0_0.N, .int .u8 p0_0.D], .string ⟨⟨p1_0⟩⟩, .string ⟨⟨p2_0⟩⟩] w0 (fun e w' => ∃ v, e = .returned v ∧ Q11 F w0 r v w') := by
  have hPF : PF (bodyPost Tryd.prog Tryd.f11 (fun e w' => ∃ v, e = .returned v ∧ Q11 F w0 r v w')) := PF.body (fun c w h => by obtain ⟨v, e, _⟩ := h; cases e)
  have hL := LOk.start hF
  have hB := Below.refl w0.heap.size w0
  unfold m11 at hm
  refine enter (l := [.agg #[.int .i64 p0_0.N, .int .u8 p0_0.D], .string ⟨⟨p1_0⟩⟩, .string ⟨⟨p2_0⟩⟩, undef, undef, undef, undef, undef, undef, undef, undef, undef, undef, undef, undef, undef, undef, undef, undef, undef, undef, undef, undef, undef, undef, undef, undef, undef, undef, undef, undef, undef, undef, undef, undef, undef, undef, undef, undef, undef, undef, undef, undef, undef, undef, undef, undef, undef, undef, undef, undef, undef, undef, undef]) Tryd.func11 rfl Tryd.ntmps11 (by kernel_rfl) ?_
  refine cw_seq ?_
  refine cw_region ?_
  refine wl_op (by kernel_rfl) (ow_box' (v := .agg #[.int .i64 p0_0.N, .int .u8 p0_0.D]) (vs := [.int .i64 p0_0.N, .int .u8 p0_0.D]) (by kernel_rfl) rfl hL ?_)
  intro g_1 w_1 hS h_1
  replace hB := hS.below hL hB
  replace hL := hS.hL
  refine wl_op (by kernel_rfl) (ow_alloc' (z := .agg #[.int .i64 0, .int .u8 0]) (vs := [.int .i64 0, .int .u8 0]) (by kernel_rfl) rfl hL ?_)
  intro g_2 w_2 hS h_2
  replace h_1 := hS.box h_1 nilN
  replace hB := hS.below hL hB
  replace hL := hS.hL
  refine wl_val (v := .bool false) (w' := w_2) (by kernel_rfl) (run_assign (v := .bool false) (by kernel_rfl)) ?_
  refine wl_nil ?_
  refine then_n ?_
  refine cw_seq ?_
  refine cw_region ?_
  obtain ⟨r_1, h_3, hm⟩ := bind_e hm
  refine wl_op (by kernel_rfl) (ow_enter (run_callf (vs := []) Tryd.func33 nm_33 (by kernel_rfl) (by kernel_rfl)) (f33_ok fuel _ w_2 hL.lt  h_3) ?_)
  intro vR w_3 hR
  obtain ⟨g_3, rfl, hBe, h_4, h_5, h_6⟩ := hR
  have hS : Stp w0.heap.size _ [some g_3, some g_2, some g_1] F [] w_2 w_3 := Stp.newmap hL (Fz.of_below hBe _) h_5 h_6
  replace h_1 := hS.box h_1 nilN
  replace h_2 := hS.box h_2 nilN
  replace hB := hS.below hL hB
  replace hL := hS.hL
  refine wl_val (v := .map (some g_3)) (w' := w_3) (by kernel_rfl) (run_assign (v := .map (some g_3)) (by kernel_rfl)) ?_
  refine wl_nil ?_
  refine then_n ?_
  refine cw_seq ?_
  refine cw_region ?_
  refine wl_val (v := .map (some g_3)) (w' := w_3) (by kernel_rfl) (run_move (v := .map (some g_3)) (by kernel_rfl)) ?_
  refine wl_val (v := .string ⟨⟨p1_0⟩⟩) (w' := w_3) (by kernel_rfl) (run_move (v := .string ⟨⟨p1_0⟩⟩) (by kernel_rfl)) ?_
  obtain ⟨x_1, h_7, hm⟩ := bind_e hm
  obtain ⟨b_1, h_8, hm⟩ := bind_e hm
  refine wl_val (v := .tuple #[.agg #[.string ⟨⟨x_1.Base⟩⟩, .int .i64 x_1.Num, .int .i64 x_1.Den], .bool b_1]) (w' := w_3) (by kernel_rfl) (by rw [← Option.some.inj h_7, ← Option.some.inj h_8]; exact run_look kp_51 Tryd.underlying51 (z := (⟨[], 0, 0⟩ : TUnit)) (by kernel_rfl) (k := p1_0) (by kernel_rfl) (by kernel_rfl) h_4 true) ?_
  refine wl_val (v := .tuple #[.agg #[.string ⟨⟨x_1.Base⟩⟩, .int .i64 x_1.Num, .int .i64 x_1.Den], .bool b_1]) (w' := w_3) (by kernel_rfl) (run_move (v := .tuple #[.agg #[.string ⟨⟨x_1.Base⟩⟩, .int .i64 x_1.Num, .int .i64 x_1.Den], .bool b_1]) (by kernel_rfl)) ?_
  refine wl_val (v := .agg #[.string ⟨⟨x_1.Base⟩⟩, .int .i64 x_1.Num, .int .i64 x_1.Den]) (w' := w_3) (by kernel_rfl) (run_extract (vs := #[.agg #[.string ⟨⟨x_1.Base⟩⟩, .int .i64 x_1.Num, .int .i64 x_1.Den], .bool b_1]) (by kernel_rfl) (by kernel_rfl)) ?_
  refine wl_val (v := .bool b_1) (w' := w_3) (by kernel_rfl) (run_extract (vs := #[.agg #[.string ⟨⟨x_1.Base⟩⟩, .int .i64 x_1.Num, .int .i64 x_1.Den], .bool b_1]) (by kernel_rfl) (by kernel_rfl)) ?_
  refine wl_op (by kernel_rfl) (ow_alloc' (z := .agg #[.string ⟨⟨[]⟩⟩, .int .i64 0, .int .i64 0]) (vs := [.string ⟨⟨[]⟩⟩, .int .i64 0, .int .i64 0]) (by kernel_rfl) rfl hL ?_)
  intro g_4 w_4 hS h_9
  replace h_1 := hS.box h_1 nilN
  replace h_2 := hS.box h_2 nilN
  replace h_4 := hS.map h_4 nilN
  replace hB := hS.below hL hB
  replace hL := hS.hL
  refine wl_op (by kernel_rfl) (ow_store_box' (g := g_4) (j := 0) (v := .agg #[.string ⟨⟨x_1.Base⟩⟩, .int .i64 x_1.Num, .int .i64 x_1.Den]) (vs := [.string ⟨⟨x_1.Base⟩⟩, .int .i64 x_1.Num, .int .i64 x_1.Den]) (cs' := [.string ⟨⟨x_1.Base⟩⟩, .int .i64 x_1.Num, .int .i64 x_1.Den]) sz_28 (by kernel_rfl) (by kernel_rfl) rfl rfl rfl hL h_9 rfl (by simp) rfl ?_)
  intro w_5 hS h_10
  replace h_1 := hS.box h_1 (hL.apart 3 0 rfl rfl (by decide) _ rfl)
  replace h_2 := hS.box h_2 (hL.apart 2 0 rfl rfl (by decide) _ rfl)
  replace h_4 := hS.map h_4 (hL.apart 1 0 rfl rfl (by decide) _ rfl)
  replace hB := hS.below hL hB
  replace hL := hS.hL
  refine wl_val (v := .bool b_1) (w' := w_5) (by kernel_rfl) (run_assign (v := .bool b_1) (by kernel_rfl)) ?_
  refine wl_nil ?_
  refine then_n ?_
  refine cw_seq ?_
  refine cw_region ?_
  refine wl_val (v := .map (some g_3)) (w' := w_5) (by kernel_rfl) (run_move (v := .map (some g_3)) (by kernel_rfl)) ?_
  refine wl_val (v := .string ⟨⟨p2_0⟩⟩) (w' := w_5) (by kernel_rfl) (run_move (v := .string ⟨⟨p2_0⟩⟩) (by kernel_rfl)) ?_
  obtain ⟨x_2, h_11, hm⟩ := bind_e hm
  obtain ⟨b_2, h_12, hm⟩ := bind_e hm
  refine wl_val (v := .tuple #[.agg #[.string ⟨⟨x_2.Base⟩⟩, .int .i64 x_2.Num, .int .i64 x_2.Den], .bool b_2]) (w' := w_5) (by kernel_rfl) (by rw [← Option.some.inj h_11, ← Option.some.inj h_12]; exact run_look kp_51 Tryd.underlying51 (z := (⟨[], 0, 0⟩ : TUnit)) (by kernel_rfl) (k := p2_0) (by kernel_rfl) (by kernel_rfl) h_4 true) ?_
  refine wl_val (v := .tuple #[.agg #[.string ⟨⟨x_2.Base⟩⟩, .int .i64 x_2.Num, .int .i64 x_2.Den], .bool b_2]) (w' := w_5) (by kernel_rfl) (run_move (v := .tuple #[.agg #[.string ⟨⟨x_2.Base⟩⟩, .int .i64 x_2.Num, .int .i64 x_2.Den], .bool b_2]) (by kernel_rfl)) ?_
  refine wl_val (v := .agg #[.string ⟨⟨x_2.Base⟩⟩, .int .i64 x_2.Num, .int .i64 x_2.Den]) (w' := w_5) (by kernel_rfl) (run_extract (vs := #[.agg #[.string ⟨⟨x_2.Base⟩⟩, .int .i64 x_2.Num, .int .i64 x_2.Den], .bool b_2]) (by kernel_rfl) (by kernel_rfl)) ?_
  refine wl_norm [.agg #[.int .i64 p0_0.N, .int .u8 p0_0.D], .string ⟨⟨p1_0⟩⟩, .string ⟨⟨p2_0⟩⟩, .pointer (some ⟨g_1, 0, none⟩), undef, undef, .pointer (some ⟨g_2, 0, none⟩), .bool false, .map (some g_3), .pointer (some ⟨g_4, 0, none⟩), .bool b_1, undef, undef, .map (some g_3), .tuple #[.agg #[.string ⟨⟨x_1.Base⟩⟩, .int .i64 x_1.Num, .int .i64 x_1.Den], .bool b_1], .map (some g_3), .string ⟨⟨p1_0⟩⟩, .tuple #[.agg #[.string ⟨⟨x_1.Base⟩⟩, .int .i64 x_1.Num, .int .i64 x_1.Den], .bool b_1], .agg #[.string ⟨⟨x_1.Base⟩⟩, .int .i64 x_1.Num, .int .i64 x_1.Den], .bool b_1, .tuple #[.agg #[.string ⟨⟨x_2.Base⟩⟩, .int .i64 x_2.Num, .int .i64 x_2.Den], .bool b_2], .map (some g_3), .string ⟨⟨p2_0⟩⟩, .tuple #[.agg #[.string ⟨⟨x_2.Base⟩⟩, .int .i64 x_2.Num, .int .i64 x_2.Den], .bool b_2], .agg #[.string ⟨⟨x_2.Base⟩⟩, .int .i64 x_2.Num, .int .i64 x_2.Den], undef, undef, undef, undef, undef, undef, undef, undef, undef, undef, undef, undef, undef, undef, undef, undef, undef, undef, undef, undef, undef, undef, undef, undef, undef, undef, undef, undef, undef] (by kernel_rfl) ?_
  refine wl_val (v := .bool b_2) (w' := w_5) (by kernel_rfl) (run_extract (vs := #[.agg #[.string ⟨⟨x_2.Base⟩⟩, .int .i64 x_2.Num, .int .i64 x_2.Den], .bool b_2]) (by kernel_rfl) (by kernel_rfl)) ?_
  refine wl_op (by kernel_rfl) (ow_alloc' (z := .agg #[.string ⟨⟨[]⟩⟩, .int .i64 0, .int .i64 0]) (vs := [.string ⟨⟨[]⟩⟩, .int .i64 0, .int .i64 0]) (by kernel_rfl) rfl hL ?_)
  intro g_5 w_6 hS h_13
  replace h_1 := hS.box h_1 nilN
  replace h_2 := hS.box h_2 nilN
  replace h_10 := hS.box h_10 nilN
  replace h_4 := hS.map h_4 nilN
  replace hB := hS.below hL hB
  replace hL := hS.hL
  refine wl_op (by kernel_rfl) (ow_store_box' (g := g_5) (j := 0) (v := .agg #[.string ⟨⟨x_2.Base⟩⟩, .int .i64 x_2.Num, .int .i64 x_2.Den]) (vs := [.string ⟨⟨x_2.Base⟩⟩, .int .i64 x_2.Num, .int .i64 x_2.Den]) (cs' := [.string ⟨⟨x_2.Base⟩⟩, .int .i64 x_2.Num, .int .i64 x_2.Den]) sz_28 (by kernel_rfl) (by kernel_rfl) rfl rfl rfl hL h_13 rfl (by simp) rfl ?_)
  intro w_7 hS h_14
  replace h_1 := hS.box h_1 (hL.apart 4 0 rfl rfl (by decide) _ rfl)
  replace h_2 := hS.box h_2 (hL.apart 3 0 rfl rfl (by decide) _ rfl)
  replace h_10 := hS.box h_10 (hL.apart 1 0 rfl rfl (by decide) _ rfl)
  replace h_4 := hS.map h_4 (hL.apart 2 0 rfl rfl (by decide) _ rfl)
  replace hB := hS.below hL hB
  replace hL := hS.hL
  refine wl_val (v := .bool b_2) (w' := w_7) (by kernel_rfl) (run_assign (v := .bool b_2) (by kernel_rfl)) ?_
  refine wl_nil ?_
  refine then_n ?_
  refine cw_seq ?_
  refine cw_cut (fun l' w' => ∃ x_3, ∃ u_1 : Nat → Value, l' = [.agg #[.int .i64 p0_0.N, .int .u8 p0_0.D], .string ⟨⟨p1_0⟩⟩, .string ⟨⟨p2_0⟩⟩, .pointer (some ⟨g_1, 0, none⟩), undef, undef, .pointer (some ⟨g_2, 0, none⟩), .bool false, .map (some g_3), .pointer (some ⟨g_4, 0, none⟩), .bool b_1, .pointer (some ⟨g_5, 0, none⟩), .bool b_2, .map (some g_3), .tuple #[.agg #[.string ⟨⟨x_1.Base⟩⟩, .int .i64 x_1.Num, .int .i64 x_1.Den], .bool b_1], .map (some g_3), .string ⟨⟨p1_0⟩⟩, .tuple #[.agg #[.string ⟨⟨x_1.Base⟩⟩, .int .i64 x_1.Num, .int .i64 x_1.Den], .bool b_1], .agg #[.string ⟨⟨x_1.Base⟩⟩, .int .i64 x_1.Num, .int .i64 x_1.Den], .bool b_1, .tuple #[.agg #[.string ⟨⟨x_2.Base⟩⟩, .int .i64 x_2.Num, .int .i64 x_2.Den], .bool b_2], .map (some g_3), .string ⟨⟨p2_0⟩⟩, .tuple #[.agg #[.string ⟨⟨x_2.Base⟩⟩, .int .i64 x_2.Num, .int .i64 x_2.Den], .bool b_2], .agg #[.string ⟨⟨x_2.Base⟩⟩, .int .i64 x_2.Num, .int .i64 x_2.Den], .bool b_2, (u_1 0), (u_1 1), (u_1 2), (u_1 3), (u_1 4), (u_1 5), (u_1 6), (u_1 7), (u_1 8), (u_1 9), (u_1 10), (u_1 11), .bool x_3, undef, undef, undef, undef, undef, undef, undef, undef, undef, undef, undef, undef, undef, undef, undef] ∧ LOk w0.heap.size [some g_5, some g_4, some g_2, some g_1] F w' ∧ Below w0.heap.size w0 w' ∧ Bx w' g_1 [.int .i64 p0_0.N, .int .u8 p0_0.D] 23 ∧ Bx w' g_2 [.int .i64 0, .int .u8 0] 23 ∧ Bx w' g_4 [.string ⟨⟨x_1.Base⟩⟩, .int .i64 x_1.Num, .int .i64 x_1.Den] 28 ∧ Bx w' g_5 [.string ⟨⟨x_2.Base⟩⟩, .int .i64 x_2.Num, .int .i64 x_2.Den] 28 ∧ m11_J1 fuel p0_0 x_1 x_2 x_3 = some r) ?_ ?_
  · refine cw_region ?_
    refine wl_val (v := .bool b_1) (w' := w_7) (by kernel_rfl) (run_move (v := .bool b_1) (by kernel_rfl)) ?_
    refine wl_val (v := .bool (!b_1)) (w' := w_7) (by kernel_rfl) (run_not (b := b_1) (by kernel_rfl)) ?_
    refine wl_val (v := .bool (!b_1)) (w' := w_7) (by kernel_rfl) (run_move (v := .bool (!b_1)) (by kernel_rfl)) ?_
    rcases Bool.eq_false_or_eq_true b_1 with hc_4 | hc_4
    · have hm := ite_t hm hc_4
      refine wl_val (v := .bool b_2) (w' := w_7) (wg (c := (!b_1)) (want := false) (by kernel_rfl) (not_t hc_4) rfl) (run_move (v := .bool b_2) (by kernel_rfl)) ?_
      refine wl_val (v := .bool (!b_2)) (w' := w_7) (wg (c := (!b_1)) (want := false) (by kernel_rfl) (not_t hc_4) rfl) (run_not (b := b_2) (by kernel_rfl)) ?_
      refine wl_val (v := .bool (!b_2)) (w' := w_7) (by kernel_rfl) (run_pick_f (v := .bool (!b_2)) (tr2 (c := (!b_1)) (by kernel_rfl) (not_t hc_4)) (by kernel_rfl)) ?_
      refine wl_val (v := .bool (!b_2)) (w' := w_7) (by kernel_rfl) (run_move (v := .bool (!b_2)) (by kernel_rfl)) ?_
      refine wl_norm [.agg #[.int .i64 p0_0.N, .int .u8 p0_0.D], .string ⟨⟨p1_0⟩⟩, .string ⟨⟨p2_0⟩⟩, .pointer (some ⟨g_1, 0, none⟩), undef, undef, .pointer (some ⟨g_2, 0, none⟩), .bool false, .map (some g_3), .pointer (some ⟨g_4, 0, none⟩), .bool b_1, .pointer (some ⟨g_5, 0, none⟩), .bool b_2, .map (some g_3), .tuple #[.agg #[.string ⟨⟨x_1.Base⟩⟩, .int .i64 x_1.Num, .int .i64 x_1.Den], .bool b_1], .map (some g_3), .string ⟨⟨p1_0⟩⟩, .tuple #[.agg #[.string ⟨⟨x_1.Base⟩⟩, .int .i64 x_1.Num, .int .i64 x_1.Den], .bool b_1], .agg #[.string ⟨⟨x_1.Base⟩⟩, .int .i64 x_1.Num, .int .i64 x_1.Den], .bool b_1, .tuple #[.agg #[.string ⟨⟨x_2.Base⟩⟩, .int .i64 x_2.Num, .int .i64 x_2.Den], .bool b_2], .map (some g_3), .string ⟨⟨p2_0⟩⟩, .tuple #[.agg #[.string ⟨⟨x_2.Base⟩⟩, .int .i64 x_2.Num, .int .i64 x_2.Den], .bool b_2], .agg #[.string ⟨⟨x_2.Base⟩⟩, .int .i64 x_2.Num, .int .i64 x_2.Den], .bool b_2, .bool b_1, .bool (!b_1), .bool (!b_1), .bool b_2, .bool (!b_2), .bool (!b_2), .bool (!b_2), undef, undef, undef, undef, undef, undef, undef, undef, undef, undef, undef, undef, undef, undef, undef, undef, undef, undef, undef, undef, undef] (by kernel_rfl) ?_
      rcases Bool.eq_false_or_eq_true b_2 with hc_5 | hc_5
      · have hm := ite_t hm hc_5
        refine wl_val (v := .pointer (some ⟨g_4, 0, none⟩)) (w' := w_7) (wg (c := (!b_2)) (want := false) (by kernel_rfl) (not_t hc_5) rfl) (run_fieldAddr (b := g_4) (o := 0) fo_28_0 (by kernel_rfl)) ?_
        refine wl_val (v := .string ⟨⟨x_1.Base⟩⟩) (w' := w_7) (wg (c := (!b_2)) (want := false) (by kernel_rfl) (not_t hc_5) rfl) (run_load_box1 (j := 0) Tryd.underlying9 rfl (by kernel_rfl) h_10 (by kernel_rfl)) ?_
        refine wl_val (v := .pointer (some ⟨g_5, 0, none⟩)) (w' := w_7) (wg (c := (!b_2)) (want := false) (by kernel_rfl) (not_t hc_5) rfl) (run_fieldAddr (b := g_5) (o := 0) fo_28_0 (by kernel_rfl)) ?_
        refine wl_val (v := .string ⟨⟨x_2.Base⟩⟩) (w' := w_7) (wg (c := (!b_2)) (want := false) (by kernel_rfl) (not_t hc_5) rfl) (run_load_box1 (j := 0) Tryd.underlying9 rfl (by kernel_rfl) h_14 (by kernel_rfl)) ?_
        refine wl_val (v := .bool (nes x_1.Base x_2.Base)) (w' := w_7) (wg (c := (!b_2)) (want := false) (by kernel_rfl) (not_t hc_5) rfl) (run_nes (a := x_1.Base) (b := x_2.Base) (by kernel_rfl) (by kernel_rfl)) ?_
        refine wl_val (v := .bool (nes x_1.Base x_2.Base)) (w' := w_7) (by kernel_rfl) (run_pick_f (v := .bool (nes x_1.Base x_2.Base)) (tr2 (c := (!b_2)) (by kernel_rfl) (not_t hc_5)) (by kernel_rfl)) ?_
        refine wl_nil ?_
        have hS : Stp w0.heap.size _ [some g_5, some g_4, some g_2, some g_1] F [] w_7 _ := Stp.pick hL [0, 1, 3, 4] rfl (by decide)
        replace h_1 := hS.box h_1 nilN
        replace h_2 := hS.box h_2 nilN
        replace h_10 := hS.box h_10 nilN
        replace h_14 := hS.box h_14 nilN
        replace hB := hS.below hL hB
        replace hL := hS.hL
        exact then_c ⟨(nes x_1.Base x_2.Base), (fun i => ([.bool b_1, .bool (!b_1), .bool (!b_1), .bool b_2, .bool (!b_2), .bool (!b_2), .bool (!b_2), .pointer (some ⟨g_4, 0, none⟩), .string ⟨⟨x_1.Base⟩⟩, .pointer (some ⟨g_5, 0, none⟩), .string ⟨⟨x_2.Base⟩⟩, .bool (nes x_1.Base x_2.Base)] : List Value).getD i undef), by kernel_rfl, hL, hB, h_1, h_2, h_10, h_14, hm⟩
      · have hm := ite_f hm hc_5
        refine wl_not0 (wg (c := (!b_2)) (want := false) (by kernel_rfl) (not_f hc_5) rfl) (by kernel_rfl) ?_
        refine wl_not0 (wg (c := (!b_2)) (want := false) (by kernel_rfl) (not_f hc_5) rfl) (by kernel_rfl) ?_
        refine wl_not0 (wg (c := (!b_2)) (want := false) (by kernel_rfl) (not_f hc_5) rfl) (by kernel_rfl) ?_
        refine wl_not0 (wg (c := (!b_2)) (want := false) (by kernel_rfl) (not_f hc_5) rfl) (by kernel_rfl) ?_
        refine wl_not0 (wg (c := (!b_2)) (want := false) (by kernel_rfl) (not_f hc_5) rfl) (by kernel_rfl) ?_
        refine wl_val (v := .bool true) (w' := w_7) (by kernel_rfl) (run_pick_t (v := .bool true) (tr2 (c := (!b_2)) (by kernel_rfl) (not_f hc_5)) (by kernel_rfl)) ?_
        refine wl_nil ?_
        have hS : Stp w0.heap.size _ [some g_5, some g_4, some g_2, some g_1] F [] w_7 _ := Stp.pick hL [0, 1, 3, 4] rfl (by decide)
        replace h_1 := hS.box h_1 nilN
        replace h_2 := hS.box h_2 nilN
        replace h_10 := hS.box h_10 nilN
        replace h_14 := hS.box h_14 nilN
        replace hB := hS.below hL hB
        replace hL := hS.hL
        exact then_c ⟨true, (fun i => ([.bool b_1, .bool (!b_1), .bool (!b_1), .bool b_2, .bool (!b_2), .bool (!b_2), .bool (!b_2), undef, undef, undef, undef, undef] : List Value).getD i undef), by kernel_rfl, hL, hB, h_1, h_2, h_10, h_14, hm⟩
    · have hm := ite_f hm hc_4
      refine wl_not0 (wg (c := (!b_1)) (want := false) (by kernel_rfl) (not_f hc_4) rfl) (by kernel_rfl) ?_
      refine wl_not0 (wg (c := (!b_1)) (want := false) (by kernel_rfl) (not_f hc_4) rfl) (by kernel_rfl) ?_
      refine wl_val (v := .bool true) (w' := w_7) (by kernel_rfl) (run_pick_t (v := .bool true) (tr2 (c := (!b_1)) (by kernel_rfl) (not_f hc_4)) (by kernel_rfl)) ?_
      refine wl_val (v := .bool true) (w' := w_7) (by kernel_rfl) (run_move (v := .bool true) (by kernel_rfl)) ?_
      refine wl_not0 (by kernel_rfl) (by kernel_rfl) ?_
      refine wl_not0 (by kernel_rfl) (by kernel_rfl) ?_
      refine wl_not0 (by kernel_rfl) (by kernel_rfl) ?_
      refine wl_not0 (by kernel_rfl) (by kernel_rfl) ?_
      refine wl_not0 (by kernel_rfl) (by kernel_rfl) ?_
      refine wl_val (v := .bool true) (w' := w_7) (by kernel_rfl) (run_pick_t (v := .bool true) (by kernel_rfl) (by kernel_rfl)) ?_
      refine wl_nil ?_
      have hS : Stp w0.heap.size _ [some g_5, some g_4, some g_2, some g_1] F [] w_7 _ := Stp.pick hL [0, 1, 3, 4] rfl (by decide)
      replace h_1 := hS.box h_1 nilN
      replace h_2 := hS.box h_2 nilN
      replace h_10 := hS.box h_10 nilN
      replace h_14 := hS.box h_14 nilN
      replace hB := hS.below hL hB
      replace hL := hS.hL
      exact then_c ⟨true, (fun i => ([.bool b_1, .bool (!b_1), .bool (!b_1), undef, undef, .bool true, .bool true, undef, undef, undef, undef, undef] : List Value).getD i undef), by kernel_rfl, hL, hB, h_1, h_2, h_10, h_14, hm⟩
  · intro l1 w_8 hI
    obtain ⟨x_3, u_1, rfl, hL, hB, h_1, h_2, h_10, h_14, hm⟩ := hI
    unfold m11_J1 at hm
    refine cw_cond (t := x_3) (by kernel_rfl) (fun hc_3 => ?_) (fun hc_3 => ?_)
    · have hm := ite_t hm hc_3
      refine cw_seq ?_
      refine cw_region ?_
      refine wl_val (v := .agg #[.int .i64 0, .int .u8 0]) (w' := w_8) (by kernel_rfl) (by kernel_rfl) ?_
      refine wl_op (by kernel_rfl) (ow_store_box' (g := g_2) (j := 0) (v := .agg #[.int .i64 0, .int .u8 0]) (vs := [.int .i64 0, .int .u8 0]) (cs' := [.int .i64 0, .int .u8 0]) sz_23 (by kernel_rfl) (by kernel_rfl) rfl rfl rfl hL h_2 rfl (by simp) rfl ?_)
      intro w_9 hS h_15
      replace h_1 := hS.box h_1 (hL.apart 3 2 rfl rfl (by decide) _ rfl)
      replace h_10 := hS.box h_10 (hL.apart 1 2 rfl rfl (by decide) _ rfl)
      replace h_14 := hS.box h_14 (hL.apart 0 2 rfl rfl (by decide) _ rfl)
      replace hB := hS.below hL hB
      replace hL := hS.hL
      refine wl_val (v := .bool false) (w' := w_9) (by kernel_rfl) (run_assign (v := .bool false) (by kernel_rfl)) ?_
      refine wl_nil ?_
      refine then_n ?_
      refine cw_ret ?_
      refine then_ret ?_
      have hl0 := loadVar_boxn (P := Tryd.prog) (j := 0) (vs := [.int .i64 0, .int .u8 0]) Tryd.underlying23 rfl sz_23 h_15 (by kernel_rfl) rfl
      have hS : Stp w0.heap.size _ [] F [] w_9 _ := Stp.pick hL [] rfl (by decide)
      replace hB := hS.below hL hB
      replace hL := hS.hL
      obtain rfl := Option.some.inj hm
      exact ret2 (v := .agg #[.int .i64 0, .int .u8 0]) (v' := .bool false) rfl (resv_cell (ad := ⟨g_2, 0, none⟩) (by kernel_rfl) hl0) (resv_tmp (by kernel_rfl)) ⟨_, rfl, by kernel_rfl, hB⟩
    · have hm := ite_f hm hc_3
      refine cw_skip ?_
      refine then_n ?_
      refine cw_seq ?_
      refine cw_region ?_
      refine wl_val (v := .agg #[.int .i64 p0_0.N, .int .u8 p0_0.D]) (w' := w_8) (by kernel_rfl) (run_load_boxn (j := 0) (vs := [.int .i64 p0_0.N, .int .u8 p0_0.D]) Tryd.underlying23 rfl sz_23 (by kernel_rfl) h_1 (by kernel_rfl) rfl) ?_
      refine wl_val (v := .pointer (some ⟨g_4, 1, none⟩)) (w' := w_8) (by kernel_rfl) (run_fieldAddr (b := g_4) (o := 0) fo_28_1 (by kernel_rfl)) ?_
      refine wl_val (v := .int .i64 x_1.Num) (w' := w_8) (by kernel_rfl) (run_load_box1 (j := 1) Tryd.underlying2 rfl (by kernel_rfl) h_10 (by kernel_rfl)) ?_
      refine wl_val (v := .pointer (some ⟨g_5, 2, none⟩)) (w' := w_8) (by kernel_rfl) (run_fieldAddr (b := g_5) (o := 0) fo_28_2 (by kernel_rfl)) ?_
      refine wl_val (v := .int .i64 x_2.Den) (w' := w_8) (by kernel_rfl) (run_load_box1 (j := 2) Tryd.underlying2 rfl (by kernel_rfl) h_14 (by kernel_rfl)) ?_
      refine wl_val (v := .int .i64 (mul .i64 x_1.Num x_2.Den)) (w' := w_8) (by kernel_rfl) (run_mul (k := .i64) (a := x_1.Num) (b := x_2.Den) (by kernel_rfl) (by kernel_rfl)) ?_
      refine wl_val (v := .pointer (some ⟨g_4, 2, none⟩)) (w' := w_8) (by kernel_rfl) (run_fieldAddr (b := g_4) (o := 0) fo_28_2 (by kernel_rfl)) ?_
      refine wl_val (v := .int .i64 x_1.Den) (w' := w_8) (by kernel_rfl) (run_load_box1 (j := 2) Tryd.underlying2 rfl (by kernel_rfl) h_10 (by kernel_rfl)) ?_
      refine wl_val (v := .pointer (some ⟨g_5, 1, none⟩)) (w' := w_8) (by kernel_rfl) (run_fieldAddr (b := g_5) (o := 0) fo_28_1 (by kernel_rfl)) ?_
      refine wl_val (v := .int .i64 x_2.Num) (w' := w_8) (by kernel_rfl) (run_load_box1 (j := 1) Tryd.underlying2 rfl (by kernel_rfl) h_14 (by kernel_rfl)) ?_
      refine wl_val (v := .int .i64 (mul .i64 x_1.Den x_2.Num)) (w' := w_8) (by kernel_rfl) (run_mul (k := .i64) (a := x_1.Den) (b := x_2.Num) (by kernel_rfl) (by kernel_rfl)) ?_
      obtain ⟨r_2, h_16, hm⟩ := bind_e hm
      refine wl_op (by kernel_rfl) (ow_enter (run_callf (vs := [.agg #[.int .i64 p0_0.N, .int .u8 p0_0.D], .int .i64 (mul .i64 x_1.Num x_2.Den), .int .i64 (mul .i64 x_1.Den x_2.Num)]) Tryd.func13 nm_13 (by kernel_rfl) (by kernel_rfl)) (f13_ok (p0_0 := p0_0) (p1_0 := (mul .i64 x_1.Num x_2.Den)) (p2_0 := (mul .i64 x_1.Den x_2.Num)) fuel _ w_8 hL.lt  h_16) ?_)
      intro vR w_10 hR
      obtain ⟨rfl, hBe⟩ := hR
      have hS := Stp.call hL (Fz.of_below hBe [])
      replace h_1 := hS.box h_1 nilN
      replace h_2 := hS.box h_2 nilN
      replace h_10 := hS.box h_10 nilN
      replace h_14 := hS.box h_14 nilN
      replace hB := hS.below hL hB
      replace hL := hS.hL
      refine wl_val (v := .agg #[.int .i64 r_2.1.N, .int .u8 r_2.1.D]) (w' := w_10) (by kernel_rfl) (run_extract (vs := #[.agg #[.int .i64 r_2.1.N, .int .u8 r_2.1.D], .bool r_2.2]) (by kernel_rfl) (by kernel_rfl)) ?_
      refine wl_val (v := .bool r_2.2) (w' := w_10) (by kernel_rfl) (run_extract (vs := #[.agg #[.int .i64 r_2.1.N, .int .u8 r_2.1.D], .bool r_2.2]) (by kernel_rfl) (by kernel_rfl)) ?_
      refine wl_op (by kernel_rfl) (ow_store_box' (g := g_2) (j := 0) (v := .agg #[.int .i64 r_2.1.N, .int .u8 r_2.1.D]) (vs := [.int .i64 r_2.1.N, .int .u8 r_2.1.D]) (cs' := [.int .i64 r_2.1.N, .int .u8 r_2.1.D]) sz_23 (by kernel_rfl) (by kernel_rfl) rfl rfl rfl hL h_2 rfl (by simp) rfl ?_)
      intro w_11 hS h_17
      replace h_1 := hS.box h_1 (hL.apart 3 2 rfl rfl (by decide) _ rfl)
      replace h_10 := hS.box h_10 (hL.apart 1 2 rfl rfl (by decide) _ rfl)
      replace h_14 := hS.box h_14 (hL.apart 0 2 rfl rfl (by decide) _ rfl)
      replace hB := hS.below hL hB
      replace hL := hS.hL
      refine wl_val (v := .bool r_2.2) (w' := w_11) (by kernel_rfl) (run_assign (v := .bool r_2.2) (by kernel_rfl)) ?_
      refine wl_nil ?_
      refine then_n ?_
      refine cw_norm [.agg #[.int .i64 p0_0.N, .int .u8 p0_0.D], .string ⟨⟨p1_0⟩⟩, .string ⟨⟨p2_0⟩⟩, .pointer (some ⟨g_1, 0, none⟩), undef, undef, .pointer (some ⟨g_2, 0, none⟩), .bool r_2.2, .map (some g_3), .pointer (some ⟨g_4, 0, none⟩), .bool b_1, .pointer (some ⟨g_5, 0, none⟩), .bool b_2, .map (some g_3), .tuple #[.agg #[.string ⟨⟨x_1.Base⟩⟩, .int .i64 x_1.Num, .int .i64 x_1.Den], .bool b_1], .map (some g_3), .string ⟨⟨p1_0⟩⟩, .tuple #[.agg #[.string ⟨⟨x_1.Base⟩⟩, .int .i64 x_1.Num, .int .i64 x_1.Den], .bool b_1], .agg #[.string ⟨⟨x_1.Base⟩⟩, .int .i64 x_1.Num, .int .i64 x_1.Den], .bool b_1, .tuple #[.agg #[.string ⟨⟨x_2.Base⟩⟩, .int .i64 x_2.Num, .int .i64 x_2.Den], .bool b_2], .map (some g_3), .string ⟨⟨p2_0⟩⟩, .tuple #[.agg #[.string ⟨⟨x_2.Base⟩⟩, .int .i64 x_2.Num, .int .i64 x_2.Den], .bool b_2], .agg #[.string ⟨⟨x_2.Base⟩⟩, .int .i64 x_2.Num, .int .i64 x_2.Den], .bool b_2, (u_1 0), (u_1 1), (u_1 2), (u_1 3), (u_1 4), (u_1 5), (u_1 6), (u_1 7), (u_1 8), (u_1 9), (u_1 10), (u_1 11), .bool x_3, undef, .agg #[.int .i64 p0_0.N, .int .u8 p0_0.D], .pointer (some ⟨g_4, 1, none⟩), .int .i64 x_1.Num, .pointer (some ⟨g_5, 2, none⟩), .int .i64 x_2.Den, .int .i64 (mul .i64 x_1.Num x_2.Den), .pointer (some ⟨g_4, 2, none⟩), .int .i64 x_1.Den, .pointer (some ⟨g_5, 1, none⟩), .int .i64 x_2.Num, .int .i64 (mul .i64 x_1.Den x_2.Num), .tuple #[.agg #[.int .i64 r_2.1.N, .int .u8 r_2.1.D], .bool r_2.2], .agg #[.int .i64 r_2.1.N, .int .u8 r_2.1.D], .bool r_2.2] (by kernel_rfl) ?_
      refine cw_ret ?_
      have hl0 := loadVar_boxn (P := Tryd.prog) (j := 0) (vs := [.int .i64 r_2.1.N, .int .u8 r_2.1.D]) Tryd.underlying23 rfl sz_23 h_17 (by kernel_rfl) rfl
      have hS : Stp w0.heap.size _ [] F [] w_11 _ := Stp.pick hL [] rfl (by decide)
      replace hB := hS.below hL hB
      replace hL := hS.hL
      obtain rfl := Option.some.inj hm
      exact ret2 (v := .agg #[.int .i64 r_2.1.N, .int .u8 r_2.1.D]) (v' := .bool r_2.2) rfl (resv_cell (ad := ⟨g_2, 0, none⟩) (by kernel_rfl) hl0) (resv_tmp (by kernel_rfl)) ⟨_, rfl, by kernel_rfl, hB⟩
end SxYtihfogahdofdmaaDoor

end

section
/- Written by program (gen.py): the model of strings.trimRightByte, and the proof that its code computes it. -/
namespace SxYtihfogahdofdmaaDoor
open Go Go.RowKit Sx Go.Proofs
set_option linter.unusedVariables false
set_option linter.unusedSimpArgs false
attribute [local irreducible] WL WX CW OW
/-! ### 57: "strings.trimRightByte" -/
def m57_J1 (fuel : Nat) (s_5 : (List UInt8)) : Option (List UInt8) :=
  some s_5
def m57_J3 (fuel : Nat) (s_7 : (List UInt8)) (self_1 : (((List UInt8)) → Option (List UInt8))) (x_6 : Bool) : Option (List UInt8) :=
  if x_6 then ((cut s_7 0 (sub .i64 (s_7.length : Int) 1)).bind fun s_9 => self_1 s_9) else (m57_J1 fuel  s_7)
def m57_L2 (fuel : Nat) (p1_0 : Int) (self_1 : (List UInt8) → Option (List UInt8)) (s_7 : (List UInt8)) : Option (List UInt8) :=
  if (gt (s_7.length : Int) 0) then ((at? s_7 (sub .i64 (s_7.length : Int) 1)).bind fun b_7 => m57_J3 fuel s_7 self_1 (eqi (b_7.toNat : Int) p1_0)) else (m57_J3 fuel s_7 self_1 false)
def m57 (fuel : Nat) (p0_0 : (List UInt8)) (p1_0 : Int) : Option (List UInt8) :=
  loopF (m57_L2 fuel p1_0) fuel p0_0
@[reducible] def Q57 (F : Lx) (w0 : World) (r : (List UInt8)) (v : Value) (w' : World) : Prop := v = .string ⟨⟨r⟩⟩ ∧ Below w0.heap.size w0 w'
set_option maxRecDepth 100000 in
set_option maxHeartbeats 4000000 in
theorem f57_ok (fuel : Nat) (F : Lx) (w0 : World) (hF : ∀ k, some k ∈ F → k < w0.heap.size) {p0_0 : (List UInt8)} {p1_0 : Int} {r : (List UInt8)} (hm : m57 fuel p0_0 p1_0 = some r) :
    Calls Tryd.prog 57 #[.string ⟨⟨p0_0⟩⟩, .int .u8 p1_0] w0 (fun e w' => ∃ v, e = .returned v ∧ Q57 F w0 r v w') := by
  have hPF : PF (bodyPost Tryd.prog Tryd.f57 (fun e w' => ∃ v, e = .returned v ∧ Q57 F w0 r v w')) := PF.body (fun c w h => by obtain ⟨v, e, _⟩ := h; cases e)
  have hL := LOk.start hF
  have hB := Below.refl w0.heap.size w0
  unfold m57 at hm
  refine enter (l := [.string ⟨⟨p0_0⟩⟩, .int .u8 p1_0, undef, undef, undef, undef, undef, undef, undef, undef, undef, undef, undef, undef, undef, undef, undef, undef, undef, undef, undef, undef, undef]) Tryd.func57 rfl Tryd.ntmps57 (by kernel_rfl) ?_
  refine cw_seq ?_
  refine cw_region ?_
  refine wl_val (v := .string ⟨⟨([] : List UInt8)⟩⟩) (w' := w0) (by kernel_rfl) (run_assign (v := .string ⟨⟨([] : List UInt8)⟩⟩) (by kernel_rfl)) ?_
  refine wl_nil ?_
  refine then_n ?_
  refine cw_cut (fun l' w' => ∃ s_5, ∃ u_6 : Nat → Value, l' = [.string ⟨⟨s_5⟩⟩, .int .u8 p1_0, undef, undef, .string ⟨⟨([] : List UInt8)⟩⟩, (u_6 0), (u_6 1), (u_6 2), (u_6 3), (u_6 4), (u_6 5), (u_6 6), (u_6 7), (u_6 8), (u_6 9), (u_6 10), (u_6 11), (u_6 12), (u_6 13), (u_6 14), (u_6 15), (u_6 16), undef] ∧ LOk w0.heap.size [] F w' ∧ Below w0.heap.size w0 w' ∧ m57_J1 fuel s_5 = some r) ?_ ?_
  · refine cw_block ?_
    refine cw_loop (σ := (List UInt8)) (m57_L2 fuel p1_0) r (fun s l' w' => ∃ u_9 : Nat → Value, l' = [.string ⟨⟨s⟩⟩, .int .u8 p1_0, undef, undef, .string ⟨⟨([] : List UInt8)⟩⟩, (u_9 0), (u_9 1), (u_9 2), (u_9 3), (u_9 4), (u_9 5), (u_9 6), (u_9 7), (u_9 8), (u_9 9), (u_9 10), (u_9 11), (u_9 12), (u_9 13), (u_9 14), (u_9 15), (u_9 16), undef] ∧ LOk w0.heap.size [] F w' ∧ Below w0.heap.size w0 w') ?_ (s := p0_0) (n := fuel) ⟨(fun i => ([undef, undef, undef, undef, undef, undef, undef, undef, undef, undef, undef, undef, undef, undef, undef, undef, undef] : List Value).getD i undef), by kernel_rfl, hL, hB⟩ hm
    intro self_1 s l1 w_2 hI hm
    obtain ⟨s_7, rfl⟩ : ∃ z, z = s := ⟨s, rfl⟩
    try dsimp only at hI
    obtain ⟨u_9, rfl, hL, hB⟩ := hI
    unfold m57_L2 at hm
    refine cw_seq ?_
    refine cw_cut (fun l' w' => ∃ x_6, ∃ u_11 : Nat → Value, l' = [.string ⟨⟨s_7⟩⟩, .int .u8 p1_0, undef, undef, .string ⟨⟨([] : List UInt8)⟩⟩, (u_11 0), (u_11 1), (u_11 2), (u_11 3), (u_11 4), (u_11 5), (u_11 6), (u_11 7), (u_11 8), (u_11 9), (u_11 10), .bool x_6, (u_9 12), (u_9 13), (u_9 14), (u_9 15), (u_9 16), undef] ∧ LOk w0.heap.size [] F w' ∧ Below w0.heap.size w0 w' ∧ m57_J3 fuel s_7 self_1 x_6 = some r) ?_ ?_
    · refine cw_region ?_
      refine wl_val (v := .string ⟨⟨s_7⟩⟩) (w' := w_2) (by kernel_rfl) (run_move (v := .string ⟨⟨s_7⟩⟩) (by kernel_rfl)) ?_
      refine wl_val (v := .int .i64 (s_7.length : Int)) (w' := w_2) (by kernel_rfl) (run_len_str (s := s_7) Tryd.underlying9 (by kernel_rfl)) ?_
      refine wl_val (v := .bool (gt (s_7.length : Int) 0)) (w' := w_2) (by kernel_rfl) (run_gt (k := .i64) (a := (s_7.length : Int)) (b := 0) (by kernel_rfl) (by kernel_rfl)) ?_
      refine wl_val (v := .bool (gt (s_7.length : Int) 0)) (w' := w_2) (by kernel_rfl) (run_move (v := .bool (gt (s_7.length : Int) 0)) (by kernel_rfl)) ?_
      rcases Bool.eq_false_or_eq_true (gt (s_7.length : Int) 0) with hc_13 | hc_13
      · have hm := ite_t hm hc_13
        refine wl_val (v := .string ⟨⟨s_7⟩⟩) (w' := w_2) (wg (c := (gt (s_7.length : Int) 0)) (want := true) (by kernel_rfl) hc_13 rfl) (run_move (v := .string ⟨⟨s_7⟩⟩) (by kernel_rfl)) ?_
        refine wl_val (v := .string ⟨⟨s_7⟩⟩) (w' := w_2) (wg (c := (gt (s_7.length : Int) 0)) (want := true) (by kernel_rfl) hc_13 rfl) (run_move (v := .string ⟨⟨s_7⟩⟩) (by kernel_rfl)) ?_
        refine wl_val (v := .int .i64 (s_7.length : Int)) (w' := w_2) (wg (c := (gt (s_7.length : Int) 0)) (want := true) (by kernel_rfl) hc_13 rfl) (run_len_str (s := s_7) Tryd.underlying9 (by kernel_rfl)) ?_
        refine wl_val (v := .int .i64 (sub .i64 (s_7.length : Int) 1)) (w' := w_2) (wg (c := (gt (s_7.length : Int) 0)) (want := true) (by kernel_rfl) hc_13 rfl) (run_sub (k := .i64) (a := (s_7.length : Int)) (b := 1) (by kernel_rfl) (by kernel_rfl)) ?_
        obtain ⟨b_7, h_19, hm⟩ := bind_e hm
        obtain ⟨h_200, h_201, _⟩ := at_some h_19
        refine wl_val (v := .int .u8 (b_7.toNat : Int)) (w' := w_2) (wg (c := (gt (s_7.length : Int) 0)) (want := true) (by kernel_rfl) hc_13 rfl) (run_index_str (s := s_7) (k := .i64) (j := (sub .i64 (s_7.length : Int) 1)) Tryd.underlying9 (by kernel_rfl) (by kernel_rfl) h_200 h_201) ?_
        refine wl_norm [.string ⟨⟨s_7⟩⟩, .int .u8 p1_0, undef, undef, .string ⟨⟨([] : List UInt8)⟩⟩, .string ⟨⟨s_7⟩⟩, .int .i64 (s_7.length : Int), .bool (gt (s_7.length : Int) 0), .bool (gt (s_7.length : Int) 0), .string ⟨⟨s_7⟩⟩, .string ⟨⟨s_7⟩⟩, .int .i64 (s_7.length : Int), .int .i64 (sub .i64 (s_7.length : Int) 1), .int .u8 (b_7.toNat : Int), (u_9 9), (u_9 10), (u_9 11), (u_9 12), (u_9 13), (u_9 14), (u_9 15), (u_9 16), undef] (by kernel_rfl) ?_
        refine wl_val (v := .int .u8 p1_0) (w' := w_2) (wg (c := (gt (s_7.length : Int) 0)) (want := true) (by kernel_rfl) hc_13 rfl) (run_move (v := .int .u8 p1_0) (by kernel_rfl)) ?_
        refine wl_val (v := .bool (eqi (b_7.toNat : Int) p1_0)) (w' := w_2) (wg (c := (gt (s_7.length : Int) 0)) (want := true) (by kernel_rfl) hc_13 rfl) (run_eqi (k := .u8) (a := (b_7.toNat : Int)) (b := p1_0) (by kernel_rfl) (by kernel_rfl)) ?_
        refine wl_val (v := .bool (eqi (b_7.toNat : Int) p1_0)) (w' := w_2) (by kernel_rfl) (run_pick_t (v := .bool (eqi (b_7.toNat : Int) p1_0)) (tr2 (c := (gt (s_7.length : Int) 0)) (by kernel_rfl) hc_13) (by kernel_rfl)) ?_
        refine wl_nil ?_
        exact then_c ⟨(eqi (b_7.toNat : Int) p1_0), (fun i => ([.string ⟨⟨s_7⟩⟩, .int .i64 (s_7.length : Int), .bool (gt (s_7.length : Int) 0), .bool (gt (s_7.length : Int) 0), .string ⟨⟨s_7⟩⟩, .string ⟨⟨s_7⟩⟩, .int .i64 (s_7.length : Int), .int .i64 (sub .i64 (s_7.length : Int) 1), .int .u8 (b_7.toNat : Int), .int .u8 p1_0, .bool (eqi (b_7.toNat : Int) p1_0)] : List Value).getD i undef), by kernel_rfl, hL, hB, hm⟩
      · have hm := ite_f hm hc_13
        refine wl_not (wg (c := (gt (s_7.length : Int) 0)) (want := true) (by kernel_rfl) hc_13 rfl) ?_
        refine wl_not (wg (c := (gt (s_7.length : Int) 0)) (want := true) (by kernel_rfl) hc_13 rfl) ?_
        refine wl_not (wg (c := (gt (s_7.length : Int) 0)) (want := true) (by kernel_rfl) hc_13 rfl) ?_
        refine wl_not (wg (c := (gt (s_7.length : Int) 0)) (want := true) (by kernel_rfl) hc_13 rfl) ?_
        refine wl_not (wg (c := (gt (s_7.length : Int) 0)) (want := true) (by kernel_rfl) hc_13 rfl) ?_
        refine wl_norm [.string ⟨⟨s_7⟩⟩, .int .u8 p1_0, undef, undef, .string ⟨⟨([] : List UInt8)⟩⟩, .string ⟨⟨s_7⟩⟩, .int .i64 (s_7.length : Int), .bool (gt (s_7.length : Int) 0), .bool (gt (s_7.length : Int) 0), undef, undef, undef, undef, undef, (u_9 9), (u_9 10), (u_9 11), (u_9 12), (u_9 13), (u_9 14), (u_9 15), (u_9 16), undef] (by kernel_rfl) ?_
        refine wl_not (wg (c := (gt (s_7.length : Int) 0)) (want := true) (by kernel_rfl) hc_13 rfl) ?_
        refine wl_not (wg (c := (gt (s_7.length : Int) 0)) (want := true) (by kernel_rfl) hc_13 rfl) ?_
        refine wl_val (v := .bool false) (w' := w_2) (by kernel_rfl) (run_pick_f (v := .bool false) (tr2 (c := (gt (s_7.length : Int) 0)) (by kernel_rfl) hc_13) (by kernel_rfl)) ?_
        refine wl_nil ?_
        exact then_c ⟨false, (fun i => ([.string ⟨⟨s_7⟩⟩, .int .i64 (s_7.length : Int), .bool (gt (s_7.length : Int) 0), .bool (gt (s_7.length : Int) 0), undef, undef, undef, undef, undef, undef, undef] : List Value).getD i undef), by kernel_rfl, hL, hB, hm⟩
    · intro l1 w_3 hI
      obtain ⟨x_6, u_11, rfl, hL, hB, hm⟩ := hI
      unfold m57_J3 at hm
      refine cw_cond (t := x_6) (by kernel_rfl) (fun hc_12 => ?_) (fun hc_12 => ?_)
      · have hm := ite_t hm hc_12
        refine cw_skip ?_
        refine then_n ?_
        refine cw_block ?_
        refine cw_region ?_
        refine wl_val (v := .string ⟨⟨s_7⟩⟩) (w' := w_3) (by kernel_rfl) (run_move (v := .string ⟨⟨s_7⟩⟩) (by kernel_rfl)) ?_
        refine wl_val (v := .string ⟨⟨s_7⟩⟩) (w' := w_3) (by kernel_rfl) (run_move (v := .string ⟨⟨s_7⟩⟩) (by kernel_rfl)) ?_
        refine wl_val (v := .int .i64 (s_7.length : Int)) (w' := w_3) (by kernel_rfl) (run_len_str (s := s_7) Tryd.underlying9 (by kernel_rfl)) ?_
        refine wl_val (v := .int .i64 (sub .i64 (s_7.length : Int) 1)) (w' := w_3) (by kernel_rfl) (run_sub (k := .i64) (a := (s_7.length : Int)) (b := 1) (by kernel_rfl) (by kernel_rfl)) ?_
        obtain ⟨s_9, h_18, hm⟩ := bind_e hm
        refine wl_val (v := .string ⟨⟨s_9⟩⟩) (w' := w_3) (by kernel_rfl) (run_slice_str_h (s := s_7) (k := .i64) (j := (sub .i64 (s_7.length : Int) 1)) Tryd.underlying9 (by kernel_rfl) (by kernel_rfl) h_18) ?_
        refine wl_val (v := .string ⟨⟨s_9⟩⟩) (w' := w_3) (by kernel_rfl) (run_assign (v := .string ⟨⟨s_9⟩⟩) (by kernel_rfl)) ?_
        refine wl_nil ?_
        refine inBlock_n ?_
        exact ⟨_, rfl, s_9, ⟨(fun i => ([(u_11 0), (u_11 1), (u_11 2), (u_11 3), (u_11 4), (u_11 5), (u_11 6), (u_11 7), (u_11 8), (u_11 9), (u_11 10), .bool x_6, .string ⟨⟨s_7⟩⟩, .string ⟨⟨s_7⟩⟩, .int .i64 (s_7.length : Int), .int .i64 (sub .i64 (s_7.length : Int) 1), .string ⟨⟨s_9⟩⟩] : List Value).getD i undef), by kernel_rfl, hL, hB⟩, hm⟩
      · have hm := ite_f hm hc_12
        refine cw_exit ?_
        refine then_exit ?_
        refine then_exit ?_
        refine inBlock_same ?_
        exact then_c ⟨s_7, (fun i => ([(u_11 0), (u_11 1), (u_11 2), (u_11 3), (u_11 4), (u_11 5), (u_11 6), (u_11 7), (u_11 8), (u_11 9), (u_11 10), .bool x_6, (u_9 12), (u_9 13), (u_9 14), (u_9 15), (u_9 16)] : List Value).getD i undef), by kernel_rfl, hL, hB, hm⟩
  · intro l1 w_1 hI
    obtain ⟨s_5, u_6, rfl, hL, hB, hm⟩ := hI
    unfold m57_J1 at hm
    refine cw_seq ?_
    refine cw_region ?_
    refine wl_val (v := .string ⟨⟨s_5⟩⟩) (w' := w_1) (by kernel_rfl) (run_move (v := .string ⟨⟨s_5⟩⟩) (by kernel_rfl)) ?_
    refine wl_val (v := .string ⟨⟨s_5⟩⟩) (w' := w_1) (by kernel_rfl) (run_assign (v := .string ⟨⟨s_5⟩⟩) (by kernel_rfl)) ?_
    refine wl_nil ?_
    refine then_n ?_
    refine cw_ret ?_
    obtain rfl := Option.some.inj hm
    exact ret1 (v := .string ⟨⟨s_5⟩⟩) rfl (resv_tmp (by kernel_rfl)) ⟨_, rfl, by kernel_rfl, hB⟩
end SxYtihfogahdofdmaaDoor

end

section
/- Written by program (gen.py): the model of strings.TrimRight, and the proof that its code computes it. -/
namespace SxYtihfogahdofdmaaDoor
open Go Go.RowKit Sx Go.Proofs
set_option linter.unusedVariables false
set_option linter.unusedSimpArgs false
attribute [local irreducible] WL WX CW OW
/-! ### 32: "strings.TrimRight" -/
def m32_J2 (fuel : Nat) (p0_0 : (List UInt8)) (p1_0 : (List UInt8)) (x_2 : Bool) : Option (List UInt8) :=
  if x_2 then ((at? p1_0 0).bind fun b_2 => (m57 fuel p0_0 (b_2.toNat : Int)).bind fun r_1 => some r_1) else (none)
def m32_J1 (fuel : Nat) (p0_0 : (List UInt8)) (p1_0 : (List UInt8)) (x_1 : Bool) : Option (List UInt8) :=
  if x_1 then (some p0_0) else (if (eqi (p1_0.length : Int) 1) then ((at? p1_0 0).bind fun b_3 => m32_J2 fuel p0_0 p1_0 (lt (b_3.toNat : Int) 128)) else (m32_J2 fuel p0_0 p1_0 false))
def m32 (fuel : Nat) (p0_0 : (List UInt8)) (p1_0 : (List UInt8)) : Option (List UInt8) :=
  if (eqs p0_0 ([] : List UInt8)) then (m32_J1 fuel p0_0 p1_0 true) else (m32_J1 fuel p0_0 p1_0 (eqs p1_0 ([] : List UInt8)))
@[reducible] def Q32 (F : Lx) (w0 : World) (r : (List UInt8)) (v : Value) (w' : World) : Prop := v = .string ⟨⟨r⟩⟩ ∧ Below w0.heap.size w0 w'
set_option maxRecDepth 100000 in
set_option maxHeartbeats 4000000 in
theorem f32_ok (fuel : Nat) (F : Lx) (w0 : World) (hF : ∀ k, some k ∈ F → k < w0.heap.size) {p0_0 : (List UInt8)} {p1_0 : (List UInt8)} {r : (List UInt8)} (hm : m32 fuel p0_0 p1_0 = some r) :
    Calls Tryd.prog 32 #[.string ⟨⟨p0_0⟩⟩, .string ⟨⟨p1_0⟩⟩] w0 (fun e w' => ∃ v, e = .returned v ∧ Q32 F w0 r v w') := by
  have hPF : PF (bodyPost Tryd.prog Tryd.f32 (fun e w' => ∃ v, e = .returned v ∧ Q32 F w0 r v w')) := PF.body (fun c w h => by obtain ⟨v, e, _⟩ := h; cases e)
  have hL := LOk.start hF
  have hB := Below.refl w0.heap.size w0
  unfold m32 at hm
  refine enter (l := [.string ⟨⟨p0_0⟩⟩, .string ⟨⟨p1_0⟩⟩, undef, undef, undef, undef, undef, undef, undef, undef, undef, undef, undef, undef, undef, undef, undef, undef, undef, undef, undef, undef, undef, undef, undef, undef, undef, undef, undef, undef, undef, undef, undef, undef, undef, undef, undef]) Tryd.func32 rfl Tryd.ntmps32 (by kernel_rfl) ?_
  refine cw_seq ?_
  refine cw_region ?_
  refine wl_val (v := .string ⟨⟨([] : List UInt8)⟩⟩) (w' := w0) (by kernel_rfl) (run_assign (v := .string ⟨⟨([] : List UInt8)⟩⟩) (by kernel_rfl)) ?_
  refine wl_nil ?_
  refine then_n ?_
  refine cw_seq ?_
  refine cw_cut (fun l' w' => ∃ x_1, ∃ u_1 : Nat → Value, l' = [.string ⟨⟨p0_0⟩⟩, .string ⟨⟨p1_0⟩⟩, undef, undef, .string ⟨⟨([] : List UInt8)⟩⟩, undef, undef, (u_1 0), (u_1 1), (u_1 2), (u_1 3), (u_1 4), .bool x_1, undef, undef, undef, undef, undef, undef, undef, undef, undef, undef, undef, undef, undef, undef, undef, undef, undef, undef, undef, undef, undef, undef, undef, undef] ∧ LOk w0.heap.size [] F w' ∧ Below w0.heap.size w0 w' ∧ m32_J1 fuel p0_0 p1_0 x_1 = some r) ?_ ?_
  · refine cw_region ?_
    refine wl_val (v := .string ⟨⟨p0_0⟩⟩) (w' := w0) (by kernel_rfl) (run_move (v := .string ⟨⟨p0_0⟩⟩) (by kernel_rfl)) ?_
    refine wl_val (v := .bool (eqs p0_0 ([] : List UInt8))) (w' := w0) (by kernel_rfl) (run_eqs (a := p0_0) (b := ([] : List UInt8)) (by kernel_rfl) (by kernel_rfl)) ?_
    refine wl_val (v := .bool (eqs p0_0 ([] : List UInt8))) (w' := w0) (by kernel_rfl) (run_move (v := .bool (eqs p0_0 ([] : List UInt8))) (by kernel_rfl)) ?_
    rcases Bool.eq_false_or_eq_true (eqs p0_0 ([] : List UInt8)) with hc_6 | hc_6
    · have hm := ite_t hm hc_6
      refine wl_not0 (wg (c := (eqs p0_0 ([] : List UInt8))) (want := false) (by kernel_rfl) hc_6 rfl) (by kernel_rfl) ?_
      refine wl_not0 (wg (c := (eqs p0_0 ([] : List UInt8))) (want := false) (by kernel_rfl) hc_6 rfl) (by kernel_rfl) ?_
      refine wl_val (v := .bool true) (w' := w0) (by kernel_rfl) (run_pick_t (v := .bool true) (tr2 (c := (eqs p0_0 ([] : List UInt8))) (by kernel_rfl) hc_6) (by kernel_rfl)) ?_
      refine wl_nil ?_
      exact then_c ⟨true, (fun i => ([.string ⟨⟨p0_0⟩⟩, .bool (eqs p0_0 ([] : List UInt8)), .bool (eqs p0_0 ([] : List UInt8)), undef, undef] : List Value).getD i undef), by kernel_rfl, hL, hB, hm⟩
    · have hm := ite_f hm hc_6
      refine wl_val (v := .string ⟨⟨p1_0⟩⟩) (w' := w0) (wg (c := (eqs p0_0 ([] : List UInt8))) (want := false) (by kernel_rfl) hc_6 rfl) (run_move (v := .string ⟨⟨p1_0⟩⟩) (by kernel_rfl)) ?_
      refine wl_val (v := .bool (eqs p1_0 ([] : List UInt8))) (w' := w0) (wg (c := (eqs p0_0 ([] : List UInt8))) (want := false) (by kernel_rfl) hc_6 rfl) (run_eqs (a := p1_0) (b := ([] : List UInt8)) (by kernel_rfl) (by kernel_rfl)) ?_
      refine wl_val (v := .bool (eqs p1_0 ([] : List UInt8))) (w' := w0) (by kernel_rfl) (run_pick_f (v := .bool (eqs p1_0 ([] : List UInt8))) (tr2 (c := (eqs p0_0 ([] : List UInt8))) (by kernel_rfl) hc_6) (by kernel_rfl)) ?_
      refine wl_nil ?_
      exact then_c ⟨(eqs p1_0 ([] : List UInt8)), (fun i => ([.string ⟨⟨p0_0⟩⟩, .bool (eqs p0_0 ([] : List UInt8)), .bool (eqs p0_0 ([] : List UInt8)), .string ⟨⟨p1_0⟩⟩, .bool (eqs p1_0 ([] : List UInt8))] : List Value).getD i undef), by kernel_rfl, hL, hB, hm⟩
  · intro l1 w_1 hI
    obtain ⟨x_1, u_1, rfl, hL, hB, hm⟩ := hI
    unfold m32_J1 at hm
    refine cw_cond (t := x_1) (by kernel_rfl) (fun hc_2 => ?_) (fun hc_2 => ?_)
    · have hm := ite_t hm hc_2
      refine cw_seq ?_
      refine cw_region ?_
      refine wl_val (v := .string ⟨⟨p0_0⟩⟩) (w' := w_1) (by kernel_rfl) (run_move (v := .string ⟨⟨p0_0⟩⟩) (by kernel_rfl)) ?_
      refine wl_val (v := .string ⟨⟨p0_0⟩⟩) (w' := w_1) (by kernel_rfl) (run_assign (v := .string ⟨⟨p0_0⟩⟩) (by kernel_rfl)) ?_
      refine wl_nil ?_
      refine then_n ?_
      refine cw_ret ?_
      refine then_ret ?_
      obtain rfl := Option.some.inj hm
      exact ret1 (v := .string ⟨⟨p0_0⟩⟩) rfl (resv_tmp (by kernel_rfl)) ⟨_, rfl, by kernel_rfl, hB⟩
    · have hm := ite_f hm hc_2
      refine cw_skip ?_
      refine then_n ?_
      refine cw_seq ?_
      refine cw_cut (fun l' w' => ∃ x_2, ∃ u_2 : Nat → Value, l' = [.string ⟨⟨p0_0⟩⟩, .string ⟨⟨p1_0⟩⟩, undef, undef, .string ⟨⟨([] : List UInt8)⟩⟩, undef, undef, (u_1 0), (u_1 1), (u_1 2), (u_1 3), (u_1 4), .bool x_1, undef, (u_2 0), (u_2 1), (u_2 2), (u_2 3), (u_2 4), (u_2 5), (u_2 6), .bool x_2, undef, undef, undef, undef, undef, undef, undef, undef, undef, undef, undef, undef, undef, undef, undef] ∧ LOk w0.heap.size [] F w' ∧ Below w0.heap.size w0 w' ∧ m32_J2 fuel p0_0 p1_0 x_2 = some r) ?_ ?_
      · refine cw_region ?_
        refine wl_val (v := .string ⟨⟨p1_0⟩⟩) (w' := w_1) (by kernel_rfl) (run_move (v := .string ⟨⟨p1_0⟩⟩) (by kernel_rfl)) ?_
        refine wl_val (v := .int .i64 (p1_0.length : Int)) (w' := w_1) (by kernel_rfl) (run_len_str (s := p1_0) Tryd.underlying9 (by kernel_rfl)) ?_
        refine wl_val (v := .bool (eqi (p1_0.length : Int) 1)) (w' := w_1) (by kernel_rfl) (run_eqi (k := .i64) (a := (p1_0.length : Int)) (b := 1) (by kernel_rfl) (by kernel_rfl)) ?_
        refine wl_val (v := .bool (eqi (p1_0.length : Int) 1)) (w' := w_1) (by kernel_rfl) (run_move (v := .bool (eqi (p1_0.length : Int) 1)) (by kernel_rfl)) ?_
        rcases Bool.eq_false_or_eq_true (eqi (p1_0.length : Int) 1) with hc_5 | hc_5
        · have hm := ite_t hm hc_5
          refine wl_val (v := .string ⟨⟨p1_0⟩⟩) (w' := w_1) (wg (c := (eqi (p1_0.length : Int) 1)) (want := true) (by kernel_rfl) hc_5 rfl) (run_move (v := .string ⟨⟨p1_0⟩⟩) (by kernel_rfl)) ?_
          obtain ⟨b_3, h_6, hm⟩ := bind_e hm
          obtain ⟨h_70, h_71, _⟩ := at_some h_6
          refine wl_val (v := .int .u8 (b_3.toNat : Int)) (w' := w_1) (wg (c := (eqi (p1_0.length : Int) 1)) (want := true) (by kernel_rfl) hc_5 rfl) (run_index_str (s := p1_0) (k := .i64) (j := 0) Tryd.underlying9 (by kernel_rfl) (by kernel_rfl) h_70 h_71) ?_
          refine wl_val (v := .bool (lt (b_3.toNat : Int) 128)) (w' := w_1) (wg (c := (eqi (p1_0.length : Int) 1)) (want := true) (by kernel_rfl) hc_5 rfl) (run_lt (k := .u8) (a := (b_3.toNat : Int)) (b := 128) (by kernel_rfl) (by kernel_rfl)) ?_
          refine wl_val (v := .bool (lt (b_3.toNat : Int) 128)) (w' := w_1) (by kernel_rfl) (run_pick_t (v := .bool (lt (b_3.toNat : Int) 128)) (tr2 (c := (eqi (p1_0.length : Int) 1)) (by kernel_rfl) hc_5) (by kernel_rfl)) ?_
          refine wl_nil ?_
          exact then_c ⟨(lt (b_3.toNat : Int) 128), (fun i => ([.string ⟨⟨p1_0⟩⟩, .int .i64 (p1_0.length : Int), .bool (eqi (p1_0.length : Int) 1), .bool (eqi (p1_0.length : Int) 1), .string ⟨⟨p1_0⟩⟩, .int .u8 (b_3.toNat : Int), .bool (lt (b_3.toNat : Int) 128)] : List Value).getD i undef), by kernel_rfl, hL, hB, hm⟩
        · have hm := ite_f hm hc_5
          refine wl_not0 (wg (c := (eqi (p1_0.length : Int) 1)) (want := true) (by kernel_rfl) hc_5 rfl) (by kernel_rfl) ?_
          refine wl_not0 (wg (c := (eqi (p1_0.length : Int) 1)) (want := true) (by kernel_rfl) hc_5 rfl) (by kernel_rfl) ?_
          refine wl_not0 (wg (c := (eqi (p1_0.length : Int) 1)) (want := true) (by kernel_rfl) hc_5 rfl) (by kernel_rfl) ?_
          refine wl_val (v := .bool false) (w' := w_1) (by kernel_rfl) (run_pick_f (v := .bool false) (tr2 (c := (eqi (p1_0.length : Int) 1)) (by kernel_rfl) hc_5) (by kernel_rfl)) ?_
          refine wl_nil ?_
          exact then_c ⟨false, (fun i => ([.string ⟨⟨p1_0⟩⟩, .int .i64 (p1_0.length : Int), .bool (eqi (p1_0.length : Int) 1), .bool (eqi (p1_0.length : Int) 1), undef, undef, undef] : List Value).getD i undef), by kernel_rfl, hL, hB, hm⟩
      · intro l1 w_2 hI
        obtain ⟨x_2, u_2, rfl, hL, hB, hm⟩ := hI
        unfold m32_J2 at hm
        refine cw_cond (t := x_2) (by kernel_rfl) (fun hc_4 => ?_) (fun hc_4 => ?_)
        · have hm := ite_t hm hc_4
          refine cw_seq ?_
          refine cw_region ?_
          refine wl_val (v := .string ⟨⟨p0_0⟩⟩) (w' := w_2) (by kernel_rfl) (run_move (v := .string ⟨⟨p0_0⟩⟩) (by kernel_rfl)) ?_
          refine wl_val (v := .string ⟨⟨p1_0⟩⟩) (w' := w_2) (by kernel_rfl) (run_move (v := .string ⟨⟨p1_0⟩⟩) (by kernel_rfl)) ?_
          obtain ⟨b_2, h_3, hm⟩ := bind_e hm
          obtain ⟨h_40, h_41, _⟩ := at_some h_3
          refine wl_val (v := .int .u8 (b_2.toNat : Int)) (w' := w_2) (by kernel_rfl) (run_index_str (s := p1_0) (k := .i64) (j := 0) Tryd.underlying9 (by kernel_rfl) (by kernel_rfl) h_40 h_41) ?_
          obtain ⟨r_1, h_5, hm⟩ := bind_e hm
          refine wl_op (by kernel_rfl) (ow_enter (run_callf (vs := [.string ⟨⟨p0_0⟩⟩, .int .u8 (b_2.toNat : Int)]) Tryd.func57 nm_57 (by kernel_rfl) (by kernel_rfl)) (f57_ok (p0_0 := p0_0) (p1_0 := (b_2.toNat : Int)) fuel _ w_2 hL.lt  h_5) ?_)
          intro vR w_3 hR
          obtain ⟨rfl, hBe⟩ := hR
          have hS := Stp.call hL (Fz.of_below hBe [])
          replace hB := hS.below hL hB
          replace hL := hS.hL
          refine wl_val (v := .string ⟨⟨r_1⟩⟩) (w' := w_3) (by kernel_rfl) (run_assign (v := .string ⟨⟨r_1⟩⟩) (by kernel_rfl)) ?_
          refine wl_nil ?_
          refine then_n ?_
          refine cw_ret ?_
          refine then_ret ?_
          obtain rfl := Option.some.inj hm
          exact ret1 (v := .string ⟨⟨r_1⟩⟩) rfl (resv_tmp (by kernel_rfl)) ⟨_, rfl, by kernel_rfl, hB⟩
        · have hm := ite_f hm hc_4
          refine cw_skip ?_
          refine then_n ?_
          refine cw_seq ?_
          refine cw_seq ?_
          refine cw_region ?_
          refine wl_val (v := .string ⟨⟨p1_0⟩⟩) (w' := w_2) (by kernel_rfl) (run_move (v := .string ⟨⟨p1_0⟩⟩) (by kernel_rfl)) ?_
          cases hm
end SxYtihfogahdofdmaaDoor

end

section
/- Written by program (gen.py): the model of internal/stringslite.HasPrefix, and the proof that its code computes it. -/
namespace SxYtihfogahdofdmaaDoor
open Go Go.RowKit Sx Go.Proofs
set_option linter.unusedVariables false
set_option linter.unusedSimpArgs false
attribute [local irreducible] WL WX CW OW
/-! ### 66: "internal/stringslite.HasPrefix" -/
def m66_J1 (fuel : Nat) (x_1 : Bool) : Option Bool :=
  some x_1
def m66 (fuel : Nat) (p0_0 : (List UInt8)) (p1_0 : (List UInt8)) : Option Bool :=
  if (ge (p0_0.length : Int) (p1_0.length : Int)) then ((cut p0_0 0 (p1_0.length : Int)).bind fun s_2 => m66_J1 fuel  (eqs s_2 p1_0)) else (m66_J1 fuel  false)
@[reducible] def Q66 (F : Lx) (w0 : World) (r : Bool) (v : Value) (w' : World) : Prop := v = .bool r ∧ Below w0.heap.size w0 w'
set_option maxRecDepth 100000 in
set_option maxHeartbeats 4000000 in
theorem f66_ok (fuel : Nat) (F : Lx) (w0 : World) (hF : ∀ k, some k ∈ F → k < w0.heap.size) {p0_0 : (List UInt8)} {p1_0 : (List UInt8)} {r : Bool} (hm : m66 fuel p0_0 p1_0 = some r) :
    Calls Tryd.prog 66 #[.string ⟨⟨p0_0⟩⟩, .string ⟨⟨p1_0⟩⟩] w0 (fun e w' => ∃ v, e = .returned v ∧ Q66 F w0 r v w') := by
  have hPF : PF (bodyPost Tryd.prog Tryd.f66 (fun e w' => ∃ v, e = .returned v ∧ Q66 F w0 r v w')) := PF.body (fun c w h => by obtain ⟨v, e, _⟩ := h; cases e)
  have hL := LOk.start hF
  have hB := Below.refl w0.heap.size w0
  unfold m66 at hm
  refine enter (l := [.string ⟨⟨p0_0⟩⟩, .string ⟨⟨p1_0⟩⟩, undef, undef, undef, undef, undef, undef, undef, undef, undef, undef, undef, undef, undef, undef, undef, undef]) Tryd.func66 rfl Tryd.ntmps66 (by kernel_rfl) ?_
  refine cw_seq ?_
  refine cw_region ?_
  refine wl_val (v := .bool false) (w' := w0) (by kernel_rfl) (run_assign (v := .bool false) (by kernel_rfl)) ?_
  refine wl_nil ?_
  refine then_n ?_
  refine cw_cut (fun l' w' => ∃ x_1, ∃ u_1 : Nat → Value, l' = [.string ⟨⟨p0_0⟩⟩, .string ⟨⟨p1_0⟩⟩, undef, undef, .bool x_1, (u_1 0), (u_1 1), (u_1 2), (u_1 3), (u_1 4), (u_1 5), (u_1 6), (u_1 7), (u_1 8), (u_1 9), (u_1 10), (u_1 11), (u_1 12)] ∧ LOk w0.heap.size [] F w' ∧ Below w0.heap.size w0 w' ∧ m66_J1 fuel x_1 = some r) ?_ ?_
  · refine cw_region ?_
    refine wl_val (v := .string ⟨⟨p0_0⟩⟩) (w' := w0) (by kernel_rfl) (run_move (v := .string ⟨⟨p0_0⟩⟩) (by kernel_rfl)) ?_
    refine wl_val (v := .int .i64 (p0_0.length : Int)) (w' := w0) (by kernel_rfl) (run_len_str (s := p0_0) Tryd.underlying9 (by kernel_rfl)) ?_
    refine wl_val (v := .string ⟨⟨p1_0⟩⟩) (w' := w0) (by kernel_rfl) (run_move (v := .string ⟨⟨p1_0⟩⟩) (by kernel_rfl)) ?_
    refine wl_val (v := .int .i64 (p1_0.length : Int)) (w' := w0) (by kernel_rfl) (run_len_str (s := p1_0) Tryd.underlying9 (by kernel_rfl)) ?_
    refine wl_val (v := .bool (ge (p0_0.length : Int) (p1_0.length : Int))) (w' := w0) (by kernel_rfl) (run_ge (k := .i64) (a := (p0_0.length : Int)) (b := (p1_0.length : Int)) (by kernel_rfl) (by kernel_rfl)) ?_
    refine wl_val (v := .bool (ge (p0_0.length : Int) (p1_0.length : Int))) (w' := w0) (by kernel_rfl) (run_move (v := .bool (ge (p0_0.length : Int) (p1_0.length : Int))) (by kernel_rfl)) ?_
    rcases Bool.eq_false_or_eq_true (ge (p0_0.length : Int) (p1_0.length : Int)) with hc_2 | hc_2
    · have hm := ite_t hm hc_2
      refine wl_val (v := .string ⟨⟨p0_0⟩⟩) (w' := w0) (wg (c := (ge (p0_0.length : Int) (p1_0.length : Int))) (want := true) (by kernel_rfl) hc_2 rfl) (run_move (v := .string ⟨⟨p0_0⟩⟩) (by kernel_rfl)) ?_
      refine wl_val (v := .string ⟨⟨p1_0⟩⟩) (w' := w0) (wg (c := (ge (p0_0.length : Int) (p1_0.length : Int))) (want := true) (by kernel_rfl) hc_2 rfl) (run_move (v := .string ⟨⟨p1_0⟩⟩) (by kernel_rfl)) ?_
      refine wl_norm [.string ⟨⟨p0_0⟩⟩, .string ⟨⟨p1_0⟩⟩, undef, undef, .bool false, .string ⟨⟨p0_0⟩⟩, .int .i64 (p0_0.length : Int), .string ⟨⟨p1_0⟩⟩, .int .i64 (p1_0.length : Int), .bool (ge (p0_0.length : Int) (p1_0.length : Int)), .bool (ge (p0_0.length : Int) (p1_0.length : Int)), .string ⟨⟨p0_0⟩⟩, .string ⟨⟨p1_0⟩⟩, undef, undef, undef, undef, undef] (by kernel_rfl) ?_
      refine wl_val (v := .int .i64 (p1_0.length : Int)) (w' := w0) (wg (c := (ge (p0_0.length : Int) (p1_0.length : Int))) (want := true) (by kernel_rfl) hc_2 rfl) (run_len_str (s := p1_0) Tryd.underlying9 (by kernel_rfl)) ?_
      obtain ⟨s_2, h_2, hm⟩ := bind_e hm
      refine wl_val (v := .string ⟨⟨s_2⟩⟩) (w' := w0) (wg (c := (ge (p0_0.length : Int) (p1_0.length : Int))) (want := true) (by kernel_rfl) hc_2 rfl) (run_slice_str_h (s := p0_0) (k := .i64) (j := (p1_0.length : Int)) Tryd.underlying9 (by kernel_rfl) (by kernel_rfl) h_2) ?_
      refine wl_val (v := .string ⟨⟨p1_0⟩⟩) (w' := w0) (wg (c := (ge (p0_0.length : Int) (p1_0.length : Int))) (want := true) (by kernel_rfl) hc_2 rfl) (run_move (v := .string ⟨⟨p1_0⟩⟩) (by kernel_rfl)) ?_
      refine wl_val (v := .bool (eqs s_2 p1_0)) (w' := w0) (wg (c := (ge (p0_0.length : Int) (p1_0.length : Int))) (want := true) (by kernel_rfl) hc_2 rfl) (run_eqs (a := s_2) (b := p1_0) (by kernel_rfl) (by kernel_rfl)) ?_
      refine wl_val (v := .bool (eqs s_2 p1_0)) (w' := w0) (by kernel_rfl) (run_pick_t (v := .bool (eqs s_2 p1_0)) (tr2 (c := (ge (p0_0.length : Int) (p1_0.length : Int))) (by kernel_rfl) hc_2) (by kernel_rfl)) ?_
      refine wl_val (v := .bool (eqs s_2 p1_0)) (w' := w0) (by kernel_rfl) (run_assign (v := .bool (eqs s_2 p1_0)) (by kernel_rfl)) ?_
      refine wl_nil ?_
      exact then_c ⟨(eqs s_2 p1_0), (fun i => ([.string ⟨⟨p0_0⟩⟩, .int .i64 (p0_0.length : Int), .string ⟨⟨p1_0⟩⟩, .int .i64 (p1_0.length : Int), .bool (ge (p0_0.length : Int) (p1_0.length : Int)), .bool (ge (p0_0.length : Int) (p1_0.length : Int)), .string ⟨⟨p0_0⟩⟩, .string ⟨⟨p1_0⟩⟩, .int .i64 (p1_0.length : Int), .string ⟨⟨s_2⟩⟩, .string ⟨⟨p1_0⟩⟩, .bool (eqs s_2 p1_0), .bool (eqs s_2 p1_0)] : List Value).getD i undef), by kernel_rfl, hL, hB, hm⟩
    · have hm := ite_f hm hc_2
      refine wl_not0 (wg (c := (ge (p0_0.length : Int) (p1_0.length : Int))) (want := true) (by kernel_rfl) hc_2 rfl) (by kernel_rfl) ?_
      refine wl_not0 (wg (c := (ge (p0_0.length : Int) (p1_0.length : Int))) (want := true) (by kernel_rfl) hc_2 rfl) (by kernel_rfl) ?_
      refine wl_not0 (wg (c := (ge (p0_0.length : Int) (p1_0.length : Int))) (want := true) (by kernel_rfl) hc_2 rfl) (by kernel_rfl) ?_
      refine wl_not0 (wg (c := (ge (p0_0.length : Int) (p1_0.length : Int))) (want := true) (by kernel_rfl) hc_2 rfl) (by kernel_rfl) ?_
      refine wl_not0 (wg (c := (ge (p0_0.length : Int) (p1_0.length : Int))) (want := true) (by kernel_rfl) hc_2 rfl) (by kernel_rfl) ?_
      refine wl_not0 (wg (c := (ge (p0_0.length : Int) (p1_0.length : Int))) (want := true) (by kernel_rfl) hc_2 rfl) (by kernel_rfl) ?_
      refine wl_val (v := .bool false) (w' := w0) (by kernel_rfl) (run_pick_f (v := .bool false) (tr2 (c := (ge (p0_0.length : Int) (p1_0.length : Int))) (by kernel_rfl) hc_2) (by kernel_rfl)) ?_
      refine wl_val (v := .bool false) (w' := w0) (by kernel_rfl) (run_assign (v := .bool false) (by kernel_rfl)) ?_
      refine wl_nil ?_
      exact then_c ⟨false, (fun i => ([.string ⟨⟨p0_0⟩⟩, .int .i64 (p0_0.length : Int), .string ⟨⟨p1_0⟩⟩, .int .i64 (p1_0.length : Int), .bool (ge (p0_0.length : Int) (p1_0.length : Int)), .bool (ge (p0_0.length : Int) (p1_0.length : Int)), undef, undef, undef, undef, undef, undef, .bool false] : List Value).getD i undef), by kernel_rfl, hL, hB, hm⟩
  · intro l1 w_1 hI
    obtain ⟨x_1, u_1, rfl, hL, hB, hm⟩ := hI
    unfold m66_J1 at hm
    refine cw_ret ?_
    obtain rfl := Option.some.inj hm
    exact ret1 (v := .bool x_1) rfl (resv_tmp (by kernel_rfl)) ⟨_, rfl, by kernel_rfl, hB⟩
end SxYtihfogahdofdmaaDoor

end

section
/- Written by program (gen.py): the model of internal/stringslite.CutPrefix, and the proof that its code computes it. -/
namespace SxYtihfogahdofdmaaDoor
open Go Go.RowKit Sx Go.Proofs
set_option linter.unusedVariables false
set_option linter.unusedSimpArgs false
attribute [local irreducible] WL WX CW OW
/-! ### 62: "internal/stringslite.CutPrefix" -/
def m62 (fuel : Nat) (p0_0 : (List UInt8)) (p1_0 : (List UInt8)) : Option ((List UInt8) × Bool) :=
  (m66 fuel p0_0 p1_0).bind fun r_1 => if r_1 then ((cut p0_0 (p1_0.length : Int) (p0_0.length : Int)).bind fun s_1 => some (s_1, true)) else (some (p0_0, false))
@[reducible] def Q62 (F : Lx) (w0 : World) (r : ((List UInt8) × Bool)) (v : Value) (w' : World) : Prop := v = .tuple #[.string ⟨⟨r.1⟩⟩, .bool r.2] ∧ Below w0.heap.size w0 w'
set_option maxRecDepth 100000 in
set_option maxHeartbeats 4000000 in
theorem f62_ok (fuel : Nat) (F : Lx) (w0 : World) (hF : ∀ k, some k ∈ F → k < w0.heap.size) {p0_0 : (List UInt8)} {p1_0 : (List UInt8)} {r : ((List UInt8) × Bool)} (hm : m62 fuel p0_0 p1_0 = some r) :
    Calls Tryd.prog 62 #[.string ⟨⟨p0_0⟩⟩, .string ⟨⟨p1_0⟩⟩] w0 (fun e w' => ∃ v, e = .returned v ∧ Q62 F w0 r v w') := by
  have hPF : PF (bodyPost Tryd.prog Tryd.f62 (fun e w' => ∃ v, e = .returned v ∧ Q62 F w0 r v w')) := PF.body (fun c w h => by obtain ⟨v, e, _⟩ := h; cases e)
  have hL := LOk.start hF
  have hB := Below.refl w0.heap.size w0
  unfold m62 at hm
  refine enter (l := [.string ⟨⟨p0_0⟩⟩, .string ⟨⟨p1_0⟩⟩, undef, undef, undef, undef, undef, undef, undef, undef, undef, undef, undef, undef, undef]) Tryd.func62 rfl Tryd.ntmps62 (by kernel_rfl) ?_
  refine cw_seq ?_
  refine cw_region ?_
  refine wl_val (v := .string ⟨⟨([] : List UInt8)⟩⟩) (w' := w0) (by kernel_rfl) (run_assign (v := .string ⟨⟨([] : List UInt8)⟩⟩) (by kernel_rfl)) ?_
  refine wl_val (v := .bool false) (w' := w0) (by kernel_rfl) (run_assign (v := .bool false) (by kernel_rfl)) ?_
  refine wl_nil ?_
  refine then_n ?_
  refine cw_seq ?_
  refine cw_seq ?_
  refine cw_region ?_
  refine wl_val (v := .string ⟨⟨p0_0⟩⟩) (w' := w0) (by kernel_rfl) (run_move (v := .string ⟨⟨p0_0⟩⟩) (by kernel_rfl)) ?_
  refine wl_val (v := .string ⟨⟨p1_0⟩⟩) (w' := w0) (by kernel_rfl) (run_move (v := .string ⟨⟨p1_0⟩⟩) (by kernel_rfl)) ?_
  obtain ⟨r_1, h_1, hm⟩ := bind_e hm
  refine wl_op (by kernel_rfl) (ow_enter (run_callf (vs := [.string ⟨⟨p0_0⟩⟩, .string ⟨⟨p1_0⟩⟩]) Tryd.func66 nm_66 (by kernel_rfl) (by kernel_rfl)) (f66_ok (p0_0 := p0_0) (p1_0 := p1_0) fuel _ w0 hL.lt  h_1) ?_)
  intro vR w_1 hR
  obtain ⟨rfl, hBe⟩ := hR
  have hS := Stp.call hL (Fz.of_below hBe [])
  replace hB := hS.below hL hB
  replace hL := hS.hL
  refine wl_val (v := .bool (!r_1)) (w' := w_1) (by kernel_rfl) (run_not (b := r_1) (by kernel_rfl)) ?_
  refine wl_nil ?_
  refine then_n ?_
  refine cw_cond (t := (!r_1)) (by kernel_rfl) (fun hc => ?_) (fun hc => ?_)
  · have hc_1 : r_1 = false := by simpa using hc
    have hm := ite_f hm hc_1
    refine cw_seq ?_
    refine cw_region ?_
    refine wl_val (v := .string ⟨⟨p0_0⟩⟩) (w' := w_1) (by kernel_rfl) (run_move (v := .string ⟨⟨p0_0⟩⟩) (by kernel_rfl)) ?_
    refine wl_val (v := .string ⟨⟨p0_0⟩⟩) (w' := w_1) (by kernel_rfl) (run_assign (v := .string ⟨⟨p0_0⟩⟩) (by kernel_rfl)) ?_
    refine wl_val (v := .bool false) (w' := w_1) (by kernel_rfl) (run_assign (v := .bool false) (by kernel_rfl)) ?_
    refine wl_nil ?_
    refine then_n ?_
    refine cw_ret ?_
    refine then_ret ?_
    obtain rfl := Option.some.inj hm
    exact ret2 (v := .string ⟨⟨p0_0⟩⟩) (v' := .bool false) rfl (resv_tmp (by kernel_rfl)) (resv_tmp (by kernel_rfl)) ⟨_, rfl, by kernel_rfl, hB⟩
  · have hc_1 : r_1 = true := by simpa using hc
    have hm := ite_t hm hc_1
    refine cw_skip ?_
    refine then_n ?_
    refine cw_seq ?_
    refine cw_region ?_
    refine wl_val (v := .string ⟨⟨p0_0⟩⟩) (w' := w_1) (by kernel_rfl) (run_move (v := .string ⟨⟨p0_0⟩⟩) (by kernel_rfl)) ?_
    refine wl_val (v := .string ⟨⟨p1_0⟩⟩) (w' := w_1) (by kernel_rfl) (run_move (v := .string ⟨⟨p1_0⟩⟩) (by kernel_rfl)) ?_
    refine wl_val (v := .int .i64 (p1_0.length : Int)) (w' := w_1) (by kernel_rfl) (run_len_str (s := p1_0) Tryd.underlying9 (by kernel_rfl)) ?_
    obtain ⟨s_1, h_2, hm⟩ := bind_e hm
    refine wl_val (v := .string ⟨⟨s_1⟩⟩) (w' := w_1) (by kernel_rfl) (run_slice_str_l (s := p0_0) (k := .i64) (i := (p1_0.length : Int)) Tryd.underlying9 (by kernel_rfl) (by kernel_rfl) h_2) ?_
    refine wl_val (v := .string ⟨⟨s_1⟩⟩) (w' := w_1) (by kernel_rfl) (run_assign (v := .string ⟨⟨s_1⟩⟩) (by kernel_rfl)) ?_
    refine wl_val (v := .bool true) (w' := w_1) (by kernel_rfl) (run_assign (v := .bool true) (by kernel_rfl)) ?_
    refine wl_nil ?_
    refine then_n ?_
    refine cw_norm [.string ⟨⟨p0_0⟩⟩, .string ⟨⟨p1_0⟩⟩, undef, undef, .string ⟨⟨s_1⟩⟩, .bool true, .string ⟨⟨p0_0⟩⟩, .string ⟨⟨p1_0⟩⟩, .bool r_1, .bool (!r_1), undef, .string ⟨⟨p0_0⟩⟩, .string ⟨⟨p1_0⟩⟩, .int .i64 (p1_0.length : Int), .string ⟨⟨s_1⟩⟩] (by kernel_rfl) ?_
    refine cw_ret ?_
    obtain rfl := Option.some.inj hm
    exact ret2 (v := .string ⟨⟨s_1⟩⟩) (v' := .bool true) rfl (resv_tmp (by kernel_rfl)) (resv_tmp (by kernel_rfl)) ⟨_, rfl, by kernel_rfl, hB⟩
end SxYtihfogahdofdmaaDoor

end

section
/- Written by program (gen.py): the model of strings.CutPrefix, and the proof that its code computes it. -/
namespace SxYtihfogahdofdmaaDoor
open Go Go.RowKit Sx Go.Proofs
set_option linter.unusedVariables false
set_option linter.unusedSimpArgs false
attribute [local irreducible] WL WX CW OW
/-! ### 41: "strings.CutPrefix" -/
def m41 (fuel : Nat) (p0_0 : (List UInt8)) (p1_0 : (List UInt8)) : Option ((List UInt8) × Bool) :=
  (m62 fuel p0_0 p1_0).bind fun r_1 => some (r_1.1, r_1.2)
@[reducible] def Q41 (F : Lx) (w0 : World) (r : ((List UInt8) × Bool)) (v : Value) (w' : World) : Prop := v = .tuple #[.string ⟨⟨r.1⟩⟩, .bool r.2] ∧ Below w0.heap.size w0 w'
set_option maxRecDepth 100000 in
set_option maxHeartbeats 4000000 in
theorem f41_ok (fuel : Nat) (F : Lx) (w0 : World) (hF : ∀ k, some k ∈ F → k < w0.heap.size) {p0_0 : (List UInt8)} {p1_0 : (List UInt8)} {r : ((List UInt8) × Bool)} (hm : m41 fuel p0_0 p1_0 = some r) :
    Calls Tryd.prog 41 #[.string ⟨⟨p0_0⟩⟩, .string ⟨⟨p1_0⟩⟩] w0 (fun e w' => ∃ v, e = .returned v ∧ Q41 F w0 r v w') := by
  have hPF : PF (bodyPost Tryd.prog Tryd.f41 (fun e w' => ∃ v, e = .returned v ∧ Q41 F w0 r v w')) := PF.body (fun c w h => by obtain ⟨v, e, _⟩ := h; cases e)
  have hL := LOk.start hF
  have hB := Below.refl w0.heap.size w0
  unfold m41 at hm
  refine enter (l := [.string ⟨⟨p0_0⟩⟩, .string ⟨⟨p1_0⟩⟩, undef, undef, undef, undef, undef, undef, undef, undef, undef]) Tryd.func41 rfl Tryd.ntmps41 (by kernel_rfl) ?_
  refine cw_seq ?_
  refine cw_region ?_
  refine wl_val (v := .string ⟨⟨([] : List UInt8)⟩⟩) (w' := w0) (by kernel_rfl) (run_assign (v := .string ⟨⟨([] : List UInt8)⟩⟩) (by kernel_rfl)) ?_
  refine wl_val (v := .bool false) (w' := w0) (by kernel_rfl) (run_assign (v := .bool false) (by kernel_rfl)) ?_
  refine wl_nil ?_
  refine then_n ?_
  refine cw_seq ?_
  refine cw_region ?_
  refine wl_val (v := .string ⟨⟨p0_0⟩⟩) (w' := w0) (by kernel_rfl) (run_move (v := .string ⟨⟨p0_0⟩⟩) (by kernel_rfl)) ?_
  refine wl_val (v := .string ⟨⟨p1_0⟩⟩) (w' := w0) (by kernel_rfl) (run_move (v := .string ⟨⟨p1_0⟩⟩) (by kernel_rfl)) ?_
  obtain ⟨r_1, h_1, hm⟩ := bind_e hm
  refine wl_op (by kernel_rfl) (ow_enter (run_callf (vs := [.string ⟨⟨p0_0⟩⟩, .string ⟨⟨p1_0⟩⟩]) Tryd.func62 nm_62 (by kernel_rfl) (by kernel_rfl)) (f62_ok (p0_0 := p0_0) (p1_0 := p1_0) fuel _ w0 hL.lt  h_1) ?_)
  intro vR w_1 hR
  obtain ⟨rfl, hBe⟩ := hR
  have hS := Stp.call hL (Fz.of_below hBe [])
  replace hB := hS.below hL hB
  replace hL := hS.hL
  refine wl_val (v := .string ⟨⟨r_1.1⟩⟩) (w' := w_1) (by kernel_rfl) (run_extract (vs := #[.string ⟨⟨r_1.1⟩⟩, .bool r_1.2]) (by kernel_rfl) (by kernel_rfl)) ?_
  refine wl_val (v := .bool r_1.2) (w' := w_1) (by kernel_rfl) (run_extract (vs := #[.string ⟨⟨r_1.1⟩⟩, .bool r_1.2]) (by kernel_rfl) (by kernel_rfl)) ?_
  refine wl_val (v := .string ⟨⟨r_1.1⟩⟩) (w' := w_1) (by kernel_rfl) (run_assign (v := .string ⟨⟨r_1.1⟩⟩) (by kernel_rfl)) ?_
  refine wl_val (v := .bool r_1.2) (w' := w_1) (by kernel_rfl) (run_assign (v := .bool r_1.2) (by kernel_rfl)) ?_
  refine wl_nil ?_
  refine then_n ?_
  refine cw_ret ?_
  obtain rfl := Option.some.inj hm
  exact ret2 (v := .string ⟨⟨r_1.1⟩⟩) (v' := .bool r_1.2) rfl (resv_tmp (by kernel_rfl)) (resv_tmp (by kernel_rfl)) ⟨_, rfl, by kernel_rfl, hB⟩
end SxYtihfogahdofdmaaDoor

end

section
/- Written by program (gen.py): the model of internal/stringslite.IndexByte, and the proof that its code computes it. -/
namespace SxYtihfogahdofdmaaDoor
open Go Go.RowKit Sx Go.Proofs
set_option linter.unusedVariables false
set_option linter.unusedSimpArgs false
attribute [local irreducible] WL WX CW OW
/-! ### 81: "internal/stringslite.IndexByte" -/
def m81 (fuel : Nat) (p0_0 : (List UInt8)) (p1_0 : Int) : Option Int :=
  some (Lib.indexByte p0_0 p1_0.toNat.toUInt8)
@[reducible] def Q81 (F : Lx) (w0 : World) (r : Int) (v : Value) (w' : World) : Prop := v = .int .i64 r ∧ Below w0.heap.size w0 w'
set_option maxRecDepth 100000 in
set_option maxHeartbeats 4000000 in
theorem f81_ok (fuel : Nat) (F : Lx) (w0 : World) (hF : ∀ k, some k ∈ F → k < w0.heap.size) {p0_0 : (List UInt8)} {p1_0 : Int} {r : Int} (hm : m81 fuel p0_0 p1_0 = some r) :
    Calls Tryd.prog 81 #[.string ⟨⟨p0_0⟩⟩, .int .u8 p1_0] w0 (fun e w' => ∃ v, e = .returned v ∧ Q81 F w0 r v w') := by
  have hPF : PF (bodyPost Tryd.prog Tryd.f81 (fun e w' => ∃ v, e = .returned v ∧ Q81 F w0 r v w')) := PF.body (fun c w h => by obtain ⟨v, e, _⟩ := h; cases e)
  have hL := LOk.start hF
  have hB := Below.refl w0.heap.size w0
  unfold m81 at hm
  refine enter (l := [.string ⟨⟨p0_0⟩⟩, .int .u8 p1_0, undef, undef, undef, undef, undef, undef]) Tryd.func81 rfl Tryd.ntmps81 (by kernel_rfl) ?_
  refine cw_seq ?_
  refine cw_region ?_
  refine wl_val (v := .int .i64 0) (w' := w0) (by kernel_rfl) (run_assign (v := .int .i64 0) (by kernel_rfl)) ?_
  refine wl_nil ?_
  refine then_n ?_
  refine cw_seq ?_
  refine cw_region ?_
  refine wl_val (v := .string ⟨⟨p0_0⟩⟩) (w' := w0) (by kernel_rfl) (run_move (v := .string ⟨⟨p0_0⟩⟩) (by kernel_rfl)) ?_
  refine wl_val (v := .int .u8 p1_0) (w' := w0) (by kernel_rfl) (run_move (v := .int .u8 p1_0) (by kernel_rfl)) ?_
  refine wl_val (v := .int .i64 (Lib.indexByte p0_0 p1_0.toNat.toUInt8)) (w' := w0) (by kernel_rfl) (run_ibs (s := p0_0) (c := p1_0) Tryd.func92 nm_92 (by kernel_rfl) xf_92 xe_92 (by kernel_rfl) (by kernel_rfl)) ?_
  refine wl_val (v := .int .i64 (Lib.indexByte p0_0 p1_0.toNat.toUInt8)) (w' := w0) (by kernel_rfl) (run_assign (v := .int .i64 (Lib.indexByte p0_0 p1_0.toNat.toUInt8)) (by kernel_rfl)) ?_
  refine wl_nil ?_
  refine then_n ?_
  refine cw_ret ?_
  obtain rfl := Option.some.inj hm
  exact ret1 (v := .int .i64 (Lib.indexByte p0_0 p1_0.toNat.toUInt8)) rfl (resv_tmp (by kernel_rfl)) ⟨_, rfl, by kernel_rfl, hB⟩
end SxYtihfogahdofdmaaDoor

end

section
/- Written by program (gen.py): the model of internal/bytealg.Cutover, and the proof that its code computes it. -/
namespace SxYtihfogahdofdmaaDoor
open Go Go.RowKit Sx Go.Proofs
set_option linter.unusedVariables false
set_option linter.unusedSimpArgs false
attribute [local irreducible] WL WX CW OW
/-! ### 83: "internal/bytealg.Cutover" -/
def m83 (fuel : Nat) (p0_0 : Int) : Option Int :=
  some (quo .i64 (add .i64 p0_0 16) 8)
@[reducible] def Q83 (F : Lx) (w0 : World) (r : Int) (v : Value) (w' : World) : Prop := v = .int .i64 r ∧ Below w0.heap.size w0 w'
set_option maxRecDepth 100000 in
set_option maxHeartbeats 4000000 in
theorem f83_ok (fuel : Nat) (F : Lx) (w0 : World) (hF : ∀ k, some k ∈ F → k < w0.heap.size) {p0_0 : Int} {r : Int} (hm : m83 fuel p0_0 = some r) :
    Calls Tryd.prog 83 #[.int .i64 p0_0] w0 (fun e w' => ∃ v, e = .returned v ∧ Q83 F w0 r v w') := by
  have hPF : PF (bodyPost Tryd.prog Tryd.f83 (fun e w' => ∃ v, e = .returned v ∧ Q83 F w0 r v w')) := PF.body (fun c w h => by obtain ⟨v, e, _⟩ := h; cases e)
  have hL := LOk.start hF
  have hB := Below.refl w0.heap.size w0
  unfold m83 at hm
  refine enter (l := [.int .i64 p0_0, undef, undef, undef, undef, undef]) Tryd.func83 rfl Tryd.ntmps83 (by kernel_rfl) ?_
  refine cw_seq ?_
  refine cw_region ?_
  refine wl_val (v := .int .i64 0) (w' := w0) (by kernel_rfl) (run_assign (v := .int .i64 0) (by kernel_rfl)) ?_
  refine wl_nil ?_
  refine then_n ?_
  refine cw_seq ?_
  refine cw_region ?_
  refine wl_val (v := .int .i64 p0_0) (w' := w0) (by kernel_rfl) (run_move (v := .int .i64 p0_0) (by kernel_rfl)) ?_
  refine wl_val (v := .int .i64 (add .i64 p0_0 16)) (w' := w0) (by kernel_rfl) (run_add (k := .i64) (a := p0_0) (b := 16) (by kernel_rfl) (by kernel_rfl)) ?_
  refine wl_val (v := .int .i64 (quo .i64 (add .i64 p0_0 16) 8)) (w' := w0) (by kernel_rfl) (run_quo (k := .i64) (a := (add .i64 p0_0 16)) (b := 8) (by kernel_rfl) (by kernel_rfl) (by decide)) ?_
  refine wl_val (v := .int .i64 (quo .i64 (add .i64 p0_0 16) 8)) (w' := w0) (by kernel_rfl) (run_assign (v := .int .i64 (quo .i64 (add .i64 p0_0 16) 8)) (by kernel_rfl)) ?_
  refine wl_nil ?_
  refine then_n ?_
  refine cw_ret ?_
  obtain rfl := Option.some.inj hm
  exact ret1 (v := .int .i64 (quo .i64 (add .i64 p0_0 16) 8)) rfl (resv_tmp (by kernel_rfl)) ⟨_, rfl, by kernel_rfl, hB⟩
end SxYtihfogahdofdmaaDoor

end

section
/- Written by program (gen.py): the model of internal/stringslite.Index, and the proof that its code computes it. -/
namespace SxYtihfogahdofdmaaDoor
open Go Go.RowKit Sx Go.Proofs
set_option linter.unusedVariables false
set_option linter.unusedSimpArgs false
attribute [local irreducible] WL WX CW OW
/-! ### 69: "internal/stringslite.Index" -/
def m69_J1 (fuel : Nat) (p0_0 : (List UInt8)) (p1_0 : (List UInt8)) (x_1 : Bool) : Option Int :=
  if x_1 then (some 0) else (if (eqi (p1_0.length : Int) 1) then ((at? p1_0 0).bind fun b_1 => (m81 fuel p0_0 (b_1.toNat : Int)).bind fun r_1 => some r_1) else (if (ge (p1_0.length : Int) (p0_0.length : Int)) then (some (-1)) else (none)))
def m69 (fuel : Nat) (p0_0 : (List UInt8)) (p1_0 : (List UInt8)) : Option Int :=
  if (eqi (p1_0.length : Int) 0) then (m69_J1 fuel p0_0 p1_0 true) else (m69_J1 fuel p0_0 p1_0 (eqs p1_0 p0_0))
@[reducible] def Q69 (F : Lx) (w0 : World) (r : Int) (v : Value) (w' : World) : Prop := v = .int .i64 r ∧ Below w0.heap.size w0 w'
set_option maxRecDepth 100000 in
set_option maxHeartbeats 4000000 in
theorem f69_ok (fuel : Nat) (F : Lx) (w0 : World) (hF : ∀ k, some k ∈ F → k < w0.heap.size) {p0_0 : (List UInt8)} {p1_0 : (List UInt8)} {r : Int} (hm : m69 fuel p0_0 p1_0 = some r) :
    Calls Tryd.prog 69 #[.string ⟨⟨p0_0⟩⟩, .string ⟨⟨p1_0⟩⟩] w0 (fun e w' => ∃ v, e = .returned v ∧ Q69 F w0 r v w') := by
  have hPF : PF (bodyPost Tryd.prog Tryd.f69 (fun e w' => ∃ v, e = .returned v ∧ Q69 F w0 r v w')) := PF.body (fun c w h => by obtain ⟨v, e, _⟩ := h; cases e)
  have hL := LOk.start hF
  have hB := Below.refl w0.heap.size w0
  unfold m69 at hm
  refine enter (l := [.string ⟨⟨p0_0⟩⟩, .string ⟨⟨p1_0⟩⟩, undef, undef, undef, undef, undef, undef, undef, undef, undef, undef, undef, undef, undef, undef, undef, undef, undef, undef, undef, undef, undef, undef, undef, undef, undef, undef, undef, undef, undef, undef, undef, undef, undef, undef, undef, undef, undef, undef, undef, undef, undef, undef, undef, undef, undef, undef, undef, undef, undef, undef, undef, undef, undef, undef, undef, undef, undef, undef, undef, undef, undef, undef, undef, undef, undef, undef, undef, undef, undef, undef, undef, undef, undef, undef, undef, undef, undef, undef, undef, undef, undef, undef, undef, undef, undef, undef, undef, undef, undef, undef, undef, undef, undef, undef, undef, undef, undef, undef, undef, undef, undef, undef, undef, undef, undef, undef, undef, undef, undef, undef, undef, undef, undef, undef, undef, undef, undef, undef, undef, undef, undef, undef, undef, undef, undef, undef, undef, undef, undef, undef, undef, undef, undef, undef, undef, undef, undef, undef, undef, undef, undef]) Tryd.func69 rfl Tryd.ntmps69 (by kernel_rfl) ?_
  refine cw_seq ?_
  refine cw_region ?_
  refine wl_val (v := .int .i64 0) (w' := w0) (by kernel_rfl) (run_assign (v := .int .i64 0) (by kernel_rfl)) ?_
  refine wl_nil ?_
  refine then_n ?_
  refine cw_seq ?_
  refine cw_region ?_
  refine wl_val (v := .string ⟨⟨p1_0⟩⟩) (w' := w0) (by kernel_rfl) (run_move (v := .string ⟨⟨p1_0⟩⟩) (by kernel_rfl)) ?_
  refine wl_val (v := .int .i64 (p1_0.length : Int)) (w' := w0) (by kernel_rfl) (run_len_str (s := p1_0) Tryd.underlying9 (by kernel_rfl)) ?_
  refine wl_val (v := .int .i64 (p1_0.length : Int)) (w' := w0) (by kernel_rfl) (run_assign (v := .int .i64 (p1_0.length : Int)) (by kernel_rfl)) ?_
  refine wl_nil ?_
  refine then_n ?_
  refine cw_seq ?_
  refine cw_block ?_
  refine cw_cut (fun l' w' => ∃ x_1, ∃ u_1 : Nat → Value, l' = [.string ⟨⟨p0_0⟩⟩, .string ⟨⟨p1_0⟩⟩, undef, undef, .int .i64 0, .int .i64 (p1_0.length : Int), undef, undef, undef, undef, undef, undef, undef, undef, .string ⟨⟨p1_0⟩⟩, .int .i64 (p1_0.length : Int), .bool x_1, (u_1 0), (u_1 1), (u_1 2), (u_1 3), (u_1 4), (u_1 5), (u_1 6), undef, undef, undef, undef, undef, undef, undef, undef, undef, undef, undef, undef, undef, undef, undef, undef, undef, undef, undef, undef, undef, undef, undef, undef, undef, undef, undef, undef, undef, undef, undef, undef, undef, undef, undef, undef, undef, undef, undef, undef, undef, undef, undef, undef, undef, undef, undef, undef, undef, undef, undef, undef, undef, undef, undef, undef, undef, undef, undef, undef, undef, undef, undef, undef, undef, undef, undef, undef, undef, undef, undef, undef, undef, undef, undef, undef, undef, undef, undef, undef, undef, undef, undef, undef, undef, undef, undef, undef, undef, undef, undef, undef, undef, undef, undef, undef, undef, undef, undef, undef, undef, undef, undef, undef, undef, undef, undef, undef, undef, undef, undef, undef, undef, undef, undef, undef, undef, undef, undef] ∧ LOk w0.heap.size [] F w' ∧ Below w0.heap.size w0 w' ∧ m69_J1 fuel p0_0 p1_0 x_1 = some r) ?_ ?_
  · refine cw_region ?_
    refine wl_val (v := .int .i64 (p1_0.length : Int)) (w' := w0) (by kernel_rfl) (run_move (v := .int .i64 (p1_0.length : Int)) (by kernel_rfl)) ?_
    refine wl_val (v := .bool (eqi (p1_0.length : Int) 0)) (w' := w0) (by kernel_rfl) (run_eqi (k := .i64) (a := (p1_0.length : Int)) (b := 0) (by kernel_rfl) (by kernel_rfl)) ?_
    refine wl_val (v := .bool (eqi (p1_0.length : Int) 0)) (w' := w0) (by kernel_rfl) (run_move (v := .bool (eqi (p1_0.length : Int) 0)) (by kernel_rfl)) ?_
    rcases Bool.eq_false_or_eq_true (eqi (p1_0.length : Int) 0) with hc_5 | hc_5
    · have hm := ite_t hm hc_5
      refine wl_not0 (wg (c := (eqi (p1_0.length : Int) 0)) (want := false) (by kernel_rfl) hc_5 rfl) (by kernel_rfl) ?_
      refine wl_not0 (wg (c := (eqi (p1_0.length : Int) 0)) (want := false) (by kernel_rfl) hc_5 rfl) (by kernel_rfl) ?_
      refine wl_not0 (wg (c := (eqi (p1_0.length : Int) 0)) (want := false) (by kernel_rfl) hc_5 rfl) (by kernel_rfl) ?_
      refine wl_val (v := .bool true) (w' := w0) (by kernel_rfl) (run_pick_t (v := .bool true) (tr2 (c := (eqi (p1_0.length : Int) 0)) (by kernel_rfl) hc_5) (by kernel_rfl)) ?_
      refine wl_val (v := .bool true) (w' := w0) (by kernel_rfl) (run_assign (v := .bool true) (by kernel_rfl)) ?_
      refine wl_nil ?_
      exact then_c ⟨true, (fun i => ([.int .i64 (p1_0.length : Int), .bool (eqi (p1_0.length : Int) 0), .bool (eqi (p1_0.length : Int) 0), undef, undef, undef, .bool true] : List Value).getD i undef), by kernel_rfl, hL, hB, hm⟩
    · have hm := ite_f hm hc_5
      refine wl_val (v := .string ⟨⟨p1_0⟩⟩) (w' := w0) (wg (c := (eqi (p1_0.length : Int) 0)) (want := false) (by kernel_rfl) hc_5 rfl) (run_move (v := .string ⟨⟨p1_0⟩⟩) (by kernel_rfl)) ?_
      refine wl_val (v := .string ⟨⟨p0_0⟩⟩) (w' := w0) (wg (c := (eqi (p1_0.length : Int) 0)) (want := false) (by kernel_rfl) hc_5 rfl) (run_move (v := .string ⟨⟨p0_0⟩⟩) (by kernel_rfl)) ?_
      refine wl_norm [.string ⟨⟨p0_0⟩⟩, .string ⟨⟨p1_0⟩⟩, undef, undef, .int .i64 0, .int .i64 (p1_0.length : Int), undef, undef, undef, undef, undef, undef, undef, undef, .string ⟨⟨p1_0⟩⟩, .int .i64 (p1_0.length : Int), undef, .int .i64 (p1_0.length : Int), .bool (eqi (p1_0.length : Int) 0), .bool (eqi (p1_0.length : Int) 0), .string ⟨⟨p1_0⟩⟩, .string ⟨⟨p0_0⟩⟩, undef, undef, undef, undef, undef, undef, undef, undef, undef, undef, undef, undef, undef, undef, undef, undef, undef, undef, undef, undef, undef, undef, undef, undef, undef, undef, undef, undef, undef, undef, undef, undef, undef, undef, undef, undef, undef, undef, undef, undef, undef, undef, undef, undef, undef, undef, undef, undef, undef, undef, undef, undef, undef, undef, undef, undef, undef, undef, undef, undef, undef, undef, undef, undef, undef, undef, undef, undef, undef, undef, undef, undef, undef, undef, undef, undef, undef, undef, undef, undef, undef, undef, undef, undef, undef, undef, undef, undef, undef, undef, undef, undef, undef, undef, undef, undef, undef, undef, undef, undef, undef, undef, undef, undef, undef, undef, undef, undef, undef, undef, undef, undef, undef, undef, undef, undef, undef, undef, undef, undef, undef] (by kernel_rfl) ?_
      refine wl_val (v := .bool (eqs p1_0 p0_0)) (w' := w0) (wg (c := (eqi (p1_0.length : Int) 0)) (want := false) (by kernel_rfl) hc_5 rfl) (run_eqs (a := p1_0) (b := p0_0) (by kernel_rfl) (by kernel_rfl)) ?_
      refine wl_val (v := .bool (eqs p1_0 p0_0)) (w' := w0) (by kernel_rfl) (run_pick_f (v := .bool (eqs p1_0 p0_0)) (tr2 (c := (eqi (p1_0.length : Int) 0)) (by kernel_rfl) hc_5) (by kernel_rfl)) ?_
      refine wl_val (v := .bool (eqs p1_0 p0_0)) (w' := w0) (by kernel_rfl) (run_assign (v := .bool (eqs p1_0 p0_0)) (by kernel_rfl)) ?_
      refine wl_nil ?_
      exact then_c ⟨(eqs p1_0 p0_0), (fun i => ([.int .i64 (p1_0.length : Int), .bool (eqi (p1_0.length : Int) 0), .bool (eqi (p1_0.length : Int) 0), .string ⟨⟨p1_0⟩⟩, .string ⟨⟨p0_0⟩⟩, .bool (eqs p1_0 p0_0), .bool (eqs p1_0 p0_0)] : List Value).getD i undef), by kernel_rfl, hL, hB, hm⟩
  · intro l1 w_1 hI
    obtain ⟨x_1, u_1, rfl, hL, hB, hm⟩ := hI
    unfold m69_J1 at hm
    refine cw_cond (t := x_1) (by kernel_rfl) (fun hc_2 => ?_) (fun hc_2 => ?_)
    · have hm := ite_t hm hc_2
      refine cw_seq ?_
      refine cw_region ?_
      refine wl_val (v := .int .i64 0) (w' := w_1) (by kernel_rfl) (run_assign (v := .int .i64 0) (by kernel_rfl)) ?_
      refine wl_nil ?_
      refine then_n ?_
      refine cw_ret ?_
      refine inBlock_ret ?_
      refine then_ret ?_
      obtain rfl := Option.some.inj hm
      exact ret1 (v := .int .i64 0) rfl (resv_tmp (by kernel_rfl)) ⟨_, rfl, by kernel_rfl, hB⟩
    · have hm := ite_f hm hc_2
      refine cw_seq ?_
      refine cw_region ?_
      refine wl_val (v := .int .i64 (p1_0.length : Int)) (w' := w_1) (by kernel_rfl) (run_move (v := .int .i64 (p1_0.length : Int)) (by kernel_rfl)) ?_
      refine wl_val (v := .bool (eqi (p1_0.length : Int) 1)) (w' := w_1) (by kernel_rfl) (run_eqi (k := .i64) (a := (p1_0.length : Int)) (b := 1) (by kernel_rfl) (by kernel_rfl)) ?_
      refine wl_val (v := .bool (eqi (p1_0.length : Int) 1)) (w' := w_1) (by kernel_rfl) (run_assign (v := .bool (eqi (p1_0.length : Int) 1)) (by kernel_rfl)) ?_
      refine wl_nil ?_
      refine then_n ?_
      refine cw_cond (t := (eqi (p1_0.length : Int) 1)) (by kernel_rfl) (fun hc_3 => ?_) (fun hc_3 => ?_)
      · have hm := ite_t hm hc_3
        refine cw_seq ?_
        refine cw_region ?_
        refine wl_val (v := .string ⟨⟨p0_0⟩⟩) (w' := w_1) (by kernel_rfl) (run_move (v := .string ⟨⟨p0_0⟩⟩) (by kernel_rfl)) ?_
        refine wl_val (v := .string ⟨⟨p1_0⟩⟩) (w' := w_1) (by kernel_rfl) (run_move (v := .string ⟨⟨p1_0⟩⟩) (by kernel_rfl)) ?_
        obtain ⟨b_1, h_1, hm⟩ := bind_e hm
        obtain ⟨h_20, h_21, _⟩ := at_some h_1
        refine wl_val (v := .int .u8 (b_1.toNat : Int)) (w' := w_1) (by kernel_rfl) (run_index_str (s := p1_0) (k := .i64) (j := 0) Tryd.underlying9 (by kernel_rfl) (by kernel_rfl) h_20 h_21) ?_
        obtain ⟨r_1, h_3, hm⟩ := bind_e hm
        refine wl_op (by kernel_rfl) (ow_enter (run_callf (vs := [.string ⟨⟨p0_0⟩⟩, .int .u8 (b_1.toNat : Int)]) Tryd.func81 nm_81 (by kernel_rfl) (by kernel_rfl)) (f81_ok (p0_0 := p0_0) (p1_0 := (b_1.toNat : Int)) fuel _ w_1 hL.lt  h_3) ?_)
        intro vR w_2 hR
        obtain ⟨rfl, hBe⟩ := hR
        have hS := Stp.call hL (Fz.of_below hBe [])
        replace hB := hS.below hL hB
        replace hL := hS.hL
        refine wl_val (v := .int .i64 r_1) (w' := w_2) (by kernel_rfl) (run_assign (v := .int .i64 r_1) (by kernel_rfl)) ?_
        refine wl_nil ?_
        refine then_n ?_
        refine cw_ret ?_
        refine inBlock_ret ?_
        refine then_ret ?_
        obtain rfl := Option.some.inj hm
        exact ret1 (v := .int .i64 r_1) rfl (resv_tmp (by kernel_rfl)) ⟨_, rfl, by kernel_rfl, hB⟩
      · have hm := ite_f hm hc_3
        refine cw_seq ?_
        refine cw_region ?_
        refine wl_val (v := .int .i64 (p1_0.length : Int)) (w' := w_1) (by kernel_rfl) (run_move (v := .int .i64 (p1_0.length : Int)) (by kernel_rfl)) ?_
        refine wl_val (v := .string ⟨⟨p0_0⟩⟩) (w' := w_1) (by kernel_rfl) (run_move (v := .string ⟨⟨p0_0⟩⟩) (by kernel_rfl)) ?_
        refine wl_val (v := .int .i64 (p0_0.length : Int)) (w' := w_1) (by kernel_rfl) (run_len_str (s := p0_0) Tryd.underlying9 (by kernel_rfl)) ?_
        refine wl_val (v := .bool (ge (p1_0.length : Int) (p0_0.length : Int))) (w' := w_1) (by kernel_rfl) (run_ge (k := .i64) (a := (p1_0.length : Int)) (b := (p0_0.length : Int)) (by kernel_rfl) (by kernel_rfl)) ?_
        refine wl_val (v := .bool (ge (p1_0.length : Int) (p0_0.length : Int))) (w' := w_1) (by kernel_rfl) (run_assign (v := .bool (ge (p1_0.length : Int) (p0_0.length : Int))) (by kernel_rfl)) ?_
        refine wl_nil ?_
        refine then_n ?_
        refine cw_cond (t := (ge (p1_0.length : Int) (p0_0.length : Int))) (by kernel_rfl) (fun hc_4 => ?_) (fun hc_4 => ?_)
        · have hm := ite_t hm hc_4
          refine cw_seq ?_
          refine cw_region ?_
          refine wl_val (v := .int .i64 (-1)) (w' := w_1) (by kernel_rfl) (run_assign (v := .int .i64 (-1)) (by kernel_rfl)) ?_
          refine wl_nil ?_
          refine then_n ?_
          refine cw_ret ?_
          refine inBlock_ret ?_
          refine then_ret ?_
          obtain rfl := Option.some.inj hm
          exact ret1 (v := .int .i64 (-1)) rfl (resv_tmp (by kernel_rfl)) ⟨_, rfl, by kernel_rfl, hB⟩
        · have hm := ite_f hm hc_4
          refine cw_seq ?_
          refine cw_region ?_
          refine wl_val (v := .int .i64 (p1_0.length : Int)) (w' := w_1) (by kernel_rfl) (run_move (v := .int .i64 (p1_0.length : Int)) (by kernel_rfl)) ?_
          cases hm
end SxYtihfogahdofdmaaDoor

end

section
/- Written by program (gen.py): the model of internal/stringslite.Cut, and the proof that its code computes it. -/
namespace SxYtihfogahdofdmaaDoor
open Go Go.RowKit Sx Go.Proofs
set_option linter.unusedVariables false
set_option linter.unusedSimpArgs false
attribute [local irreducible] WL WX CW OW
/-! ### 63: "internal/stringslite.Cut" -/
def m63 (fuel : Nat) (p0_0 : (List UInt8)) (p1_0 : (List UInt8)) : Option ((List UInt8) × (List UInt8) × Bool) :=
  (m69 fuel p0_0 p1_0).bind fun r_1 => if (ge r_1 0) then ((cut p0_0 0 r_1).bind fun s_3 => (cut p0_0 (add .i64 r_1 (p1_0.length : Int)) (p0_0.length : Int)).bind fun s_4 => some (s_3, s_4, true)) else (some (p0_0, ([] : List UInt8), false))
@[reducible] def Q63 (F : Lx) (w0 : World) (r : ((List UInt8) × (List UInt8) × Bool)) (v : Value) (w' : World) : Prop := v = .tuple #[.string ⟨⟨r.1⟩⟩, .string ⟨⟨r.2.1⟩⟩, .bool r.2.2] ∧ Below w0.heap.size w0 w'
set_option maxRecDepth 100000 in
set_option maxHeartbeats 4000000 in
theorem f63_ok (fuel : Nat) (F : Lx) (w0 : World) (hF : ∀ k, some k ∈ F → k < w0.heap.size) {p0_0 : (List UInt8)} {p1_0 : (List UInt8)} {r : ((List UInt8) × (List UInt8) × Bool)} (hm : m63 fuel p0_0 p1_0 = some r) :
    Calls Tryd.prog 63 #[.string ⟨⟨p0_0⟩⟩, .string ⟨⟨p1_0⟩⟩] w0 (fun e w' => ∃ v, e = .returned v ∧ Q63 F w0 r v w') := by
  have hPF : PF (bodyPost Tryd.prog Tryd.f63 (fun e w' => ∃ v, e = .returned v ∧ Q63 F w0 r v w')) := PF.body (fun c w h => by obtain ⟨v, e, _⟩ := h; cases e)
  have hL := LOk.start hF
  have hB := Below.refl w0.heap.size w0
  unfold m63 at hm
  refine enter (l := [.string ⟨⟨p0_0⟩⟩, .string ⟨⟨p1_0⟩⟩, undef, undef, undef, undef, undef, undef, undef, undef, undef, undef, undef, undef, undef, undef, undef, undef, undef, undef, undef, undef, undef]) Tryd.func63 rfl Tryd.ntmps63 (by kernel_rfl) ?_
  refine cw_seq ?_
  refine cw_region ?_
  refine wl_val (v := .string ⟨⟨([] : List UInt8)⟩⟩) (w' := w0) (by kernel_rfl) (run_assign (v := .string ⟨⟨([] : List UInt8)⟩⟩) (by kernel_rfl)) ?_
  refine wl_val (v := .string ⟨⟨([] : List UInt8)⟩⟩) (w' := w0) (by kernel_rfl) (run_assign (v := .string ⟨⟨([] : List UInt8)⟩⟩) (by kernel_rfl)) ?_
  refine wl_val (v := .bool false) (w' := w0) (by kernel_rfl) (run_assign (v := .bool false) (by kernel_rfl)) ?_
  refine wl_nil ?_
  refine then_n ?_
  refine cw_seq ?_
  refine cw_seq ?_
  refine cw_region ?_
  refine wl_val (v := .string ⟨⟨p0_0⟩⟩) (w' := w0) (by kernel_rfl) (run_move (v := .string ⟨⟨p0_0⟩⟩) (by kernel_rfl)) ?_
  refine wl_val (v := .string ⟨⟨p1_0⟩⟩) (w' := w0) (by kernel_rfl) (run_move (v := .string ⟨⟨p1_0⟩⟩) (by kernel_rfl)) ?_
  obtain ⟨r_1, h_1, hm⟩ := bind_e hm
  refine wl_op (by kernel_rfl) (ow_enter (run_callf (vs := [.string ⟨⟨p0_0⟩⟩, .string ⟨⟨p1_0⟩⟩]) Tryd.func69 nm_69 (by kernel_rfl) (by kernel_rfl)) (f69_ok (p0_0 := p0_0) (p1_0 := p1_0) fuel _ w0 hL.lt  h_1) ?_)
  intro vR w_1 hR
  obtain ⟨rfl, hBe⟩ := hR
  have hS := Stp.call hL (Fz.of_below hBe [])
  replace hB := hS.below hL hB
  replace hL := hS.hL
  refine wl_val (v := .int .i64 r_1) (w' := w_1) (by kernel_rfl) (run_assign (v := .int .i64 r_1) (by kernel_rfl)) ?_
  refine wl_nil ?_
  refine then_n ?_
  refine cw_seq ?_
  refine cw_region ?_
  refine wl_val (v := .int .i64 r_1) (w' := w_1) (by kernel_rfl) (run_move (v := .int .i64 r_1) (by kernel_rfl)) ?_
  refine wl_val (v := .bool (ge r_1 0)) (w' := w_1) (by kernel_rfl) (run_ge (k := .i64) (a := r_1) (b := 0) (by kernel_rfl) (by kernel_rfl)) ?_
  refine wl_nil ?_
  refine then_n ?_
  refine cw_cond (t := (ge r_1 0)) (by kernel_rfl) (fun hc_1 => ?_) (fun hc_1 => ?_)
  · have hm := ite_t hm hc_1
    refine cw_seq ?_
    refine cw_region_draw [(0, true), (1, true), (2, true), (3, true), (4, true), (5, true), (6, true), (7, true), (8, true), (9, true), (10, true), (11, true)] (fun x => Fz [] w_1 x) rfl (by kernel_rfl) (PF.then (PF.then hPF)) (Fz.drew _ _) ?_
    have hZ : Fz [] w_1 w_1.drew := Fz.drew _ _
    have hS0 : Stp w0.heap.size [] [] F [] w_1 w_1.drew := Stp.call hL (Fz.drew _ _)
    generalize w_1.drew = w_2 at hS0 hZ ⊢
    refine wx_take (v := .string ⟨⟨p0_0⟩⟩) (by kernel_rfl) (fun w' hS => run_move (v := .string ⟨⟨p0_0⟩⟩) (by kernel_rfl)) ?_
    refine wx_take (v := .int .i64 r_1) (by kernel_rfl) (fun w' hS => run_move (v := .int .i64 r_1) (by kernel_rfl)) ?_
    obtain ⟨s_3, h_4, hm⟩ := bind_e hm
    refine wx_take (v := .string ⟨⟨s_3⟩⟩) (by kernel_rfl) (fun w' hS => run_slice_str_h (s := p0_0) (k := .i64) (j := r_1) Tryd.underlying9 (by kernel_rfl) (by kernel_rfl) h_4) ?_
    refine wx_take (v := .string ⟨⟨p0_0⟩⟩) (by kernel_rfl) (fun w' hS => run_move (v := .string ⟨⟨p0_0⟩⟩) (by kernel_rfl)) ?_
    refine wx_take (v := .int .i64 r_1) (by kernel_rfl) (fun w' hS => run_move (v := .int .i64 r_1) (by kernel_rfl)) ?_
    refine wx_take (v := .string ⟨⟨p1_0⟩⟩) (by kernel_rfl) (fun w' hS => run_move (v := .string ⟨⟨p1_0⟩⟩) (by kernel_rfl)) ?_
    refine wx_norm [.string ⟨⟨p0_0⟩⟩, .string ⟨⟨p1_0⟩⟩, undef, undef, .string ⟨⟨([] : List UInt8)⟩⟩, .string ⟨⟨([] : List UInt8)⟩⟩, .bool false, .int .i64 r_1, .string ⟨⟨p0_0⟩⟩, .string ⟨⟨p1_0⟩⟩, .int .i64 r_1, .int .i64 r_1, .bool (ge r_1 0), .string ⟨⟨p0_0⟩⟩, .int .i64 r_1, .string ⟨⟨s_3⟩⟩, .string ⟨⟨p0_0⟩⟩, .int .i64 r_1, .string ⟨⟨p1_0⟩⟩, undef, undef, undef, undef] (by kernel_rfl) ?_
    refine wx_take (v := .int .i64 (p1_0.length : Int)) (by kernel_rfl) (fun w' hS => run_len_str (s := p1_0) Tryd.underlying9 (by kernel_rfl)) ?_
    refine wx_take (v := .int .i64 (add .i64 r_1 (p1_0.length : Int))) (by kernel_rfl) (fun w' hS => run_add (k := .i64) (a := r_1) (b := (p1_0.length : Int)) (by kernel_rfl) (by kernel_rfl)) ?_
    obtain ⟨s_4, h_5, hm⟩ := bind_e hm
    refine wx_take (v := .string ⟨⟨s_4⟩⟩) (by kernel_rfl) (fun w' hS => run_slice_str_l (s := p0_0) (k := .i64) (i := (add .i64 r_1 (p1_0.length : Int))) Tryd.underlying9 (by kernel_rfl) (by kernel_rfl) h_5) ?_
    refine wx_take (v := .string ⟨⟨s_3⟩⟩) (by kernel_rfl) (fun w' hS => run_assign (v := .string ⟨⟨s_3⟩⟩) (by kernel_rfl)) ?_
    refine wx_take (v := .string ⟨⟨s_4⟩⟩) (by kernel_rfl) (fun w' hS => run_assign (v := .string ⟨⟨s_4⟩⟩) (by kernel_rfl)) ?_
    refine wx_take (v := .bool true) (by kernel_rfl) (fun w' hS => run_assign (v := .bool true) (by kernel_rfl)) ?_
    refine wx_nil ?_
    replace hB := hS0.below hL hB
    replace hL := hS0.hL
    refine then_n ?_
    refine cw_ret ?_
    refine then_ret ?_
    obtain rfl := Option.some.inj hm
    exact ret3 (v := .string ⟨⟨s_3⟩⟩) (v' := .string ⟨⟨s_4⟩⟩) (v'' := .bool true) rfl (resv_tmp (by kernel_rfl)) (resv_tmp (by kernel_rfl)) (resv_tmp (by kernel_rfl)) ⟨_, rfl, by kernel_rfl, hB⟩
  · have hm := ite_f hm hc_1
    refine cw_skip ?_
    refine then_n ?_
    refine cw_seq ?_
    refine cw_region ?_
    refine wl_val (v := .string ⟨⟨p0_0⟩⟩) (w' := w_1) (by kernel_rfl) (run_move (v := .string ⟨⟨p0_0⟩⟩) (by kernel_rfl)) ?_
    refine wl_val (v := .string ⟨⟨p0_0⟩⟩) (w' := w_1) (by kernel_rfl) (run_assign (v := .string ⟨⟨p0_0⟩⟩) (by kernel_rfl)) ?_
    refine wl_val (v := .string ⟨⟨([] : List UInt8)⟩⟩) (w' := w_1) (by kernel_rfl) (run_assign (v := .string ⟨⟨([] : List UInt8)⟩⟩) (by kernel_rfl)) ?_
    refine wl_val (v := .bool false) (w' := w_1) (by kernel_rfl) (run_assign (v := .bool false) (by kernel_rfl)) ?_
    refine wl_nil ?_
    refine then_n ?_
    refine cw_norm [.string ⟨⟨p0_0⟩⟩, .string ⟨⟨p1_0⟩⟩, undef, undef, .string ⟨⟨p0_0⟩⟩, .string ⟨⟨([] : List UInt8)⟩⟩, .bool false, .int .i64 r_1, .string ⟨⟨p0_0⟩⟩, .string ⟨⟨p1_0⟩⟩, .int .i64 r_1, .int .i64 r_1, .bool (ge r_1 0), undef, undef, undef, undef, undef, undef, undef, undef, undef, .string ⟨⟨p0_0⟩⟩] (by kernel_rfl) ?_
    refine cw_ret ?_
    obtain rfl := Option.some.inj hm
    exact ret3 (v := .string ⟨⟨p0_0⟩⟩) (v' := .string ⟨⟨([] : List UInt8)⟩⟩) (v'' := .bool false) rfl (resv_tmp (by kernel_rfl)) (resv_tmp (by kernel_rfl)) (resv_tmp (by kernel_rfl)) ⟨_, rfl, by kernel_rfl, hB⟩
end SxYtihfogahdofdmaaDoor

end
