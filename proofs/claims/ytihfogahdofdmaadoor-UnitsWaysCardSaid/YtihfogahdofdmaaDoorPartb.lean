/- Proved in the last of these 10 parts (this is part 2): UnitsWays answers true at every decimal, at every three units, and at every name. Conditions: those of the given statement, and no others. -/
import Derived.Test.YtihfogahdofdmaaDoorParta
set_option linter.unusedVariables false
set_option linter.unusedSimpArgs false
set_option linter.unusedSectionVars false
/- Written by program (gen.py): the model of saucier/units.power, and the proof that its code computes it. -/
namespace SxYtihfogahdofdmaaDoor
open Go Go.RowKit Sx Go.Proofs
set_option linter.unusedVariables false
set_option linter.unusedSimpArgs false
attribute [local irreducible] WL WX CW OW
/-! ### 37: "saucier/units.power" -/
def m37_J1 (fuel : Nat) (p_2 : Int) : Option Int :=
  some p_2
def m37_L2 (fuel : Nat) (p0_0 : Int) (self_1 : Int × Int → Option Int) : Int × Int → Option Int := fun (p_3, x_2) =>
  if (lt x_2 p0_0) then (self_1 ((mul .i64 p_3 10), (add .i64 x_2 1))) else (m37_J1 fuel  p_3)
def m37 (fuel : Nat) (p0_0 : Int) : Option Int :=
  loopF (m37_L2 fuel p0_0) fuel (1, 0)
@[reducible] def Q37 (F : Lx) (w0 : World) (r : Int) (v : Value) (w' : World) : Prop := v = .int .i64 r ∧ Below w0.heap.size w0 w'
set_option maxRecDepth 100000 in
set_option maxHeartbeats 4000000 in
theorem f37_ok (fuel : Nat) (F : Lx) (w0 : World) (hF : ∀ k, some k ∈ F → k < w0.heap.size) {p0_0 : Int} {r : Int} (hm : m37 fuel p0_0 = some r) :
    Calls Tryd.prog 37 #[.int .i64 p0_0] w0 (fun e w' => ∃ v, e = .returned v ∧ Q37 F w0 r v w') := by
  have hPF : PF (bodyPost Tryd.prog Tryd.f37 (fun e w' => ∃ v, e = .returned v ∧ Q37 F w0 r v w')) := PF.body (fun c w h => by obtain ⟨v, e, _⟩ := h; cases e)
  have hL := LOk.start hF
  have hB := Below.refl w0.heap.size w0
  unfold m37 at hm
  refine enter (l := [.int .i64 p0_0, undef, undef, undef, undef, undef, undef, undef, undef, undef, undef]) Tryd.func37 rfl Tryd.ntmps37 (by kernel_rfl) ?_
  refine cw_seq ?_
  refine cw_region ?_
  refine wl_val (v := .int .i64 0) (w' := w0) (by kernel_rfl) (run_assign (v := .int .i64 0) (by kernel_rfl)) ?_
  refine wl_nil ?_
  refine then_n ?_
  refine cw_seq ?_
  refine cw_region ?_
  refine wl_val (v := .int .i64 1) (w' := w0) (by kernel_rfl) (run_assign (v := .int .i64 1) (by kernel_rfl)) ?_
  refine wl_nil ?_
  refine then_n ?_
  refine cw_cut (fun l' w' => ∃ p_2, ∃ u_3 : Nat → Value, l' = [.int .i64 p0_0, undef, .int .i64 0, .int .i64 p_2, (u_3 0), (u_3 1), (u_3 2), (u_3 3), (u_3 4), (u_3 5), undef] ∧ LOk w0.heap.size [] F w' ∧ Below w0.heap.size w0 w' ∧ m37_J1 fuel p_2 = some r) ?_ ?_
  · refine cw_seq ?_
    refine cw_region ?_
    refine wl_val (v := .int .i64 p0_0) (w' := w0) (by kernel_rfl) (run_move (v := .int .i64 p0_0) (by kernel_rfl)) ?_
    refine wl_val (v := .int .i64 0) (w' := w0) (by kernel_rfl) (run_move (v := .int .i64 0) (by kernel_rfl)) ?_
    refine wl_nil ?_
    refine then_n ?_
    refine cw_block ?_
    refine cw_loop (σ := Int × Int) (m37_L2 fuel p0_0) r (fun s l' w' => ∃ u_5 : Nat → Value, l' = [.int .i64 p0_0, undef, .int .i64 0, .int .i64 s.1, .int .i64 p0_0, .int .i64 s.2, (u_5 0), (u_5 1), (u_5 2), (u_5 3), undef] ∧ LOk w0.heap.size [] F w' ∧ Below w0.heap.size w0 w') ?_ (s := (1, 0)) (n := fuel) ⟨(fun i => ([undef, undef, undef, undef] : List Value).getD i undef), by kernel_rfl, hL, hB⟩ hm
    intro self_1 s l1 w_2 hI hm
    obtain ⟨p_3, x_2⟩ := s
    try dsimp only at hI
    obtain ⟨u_5, rfl, hL, hB⟩ := hI
    unfold m37_L2 at hm
    refine cw_seq ?_
    refine cw_region ?_
    refine wl_val (v := .bool (lt x_2 p0_0)) (w' := w_2) (by kernel_rfl) (run_lt (k := .i64) (a := x_2) (b := p0_0) (by kernel_rfl) (by kernel_rfl)) ?_
    refine wl_nil ?_
    refine then_n ?_
    refine cw_seq ?_
    refine cw_cond (t := (lt x_2 p0_0)) (by kernel_rfl) (fun hc_6 => ?_) (fun hc_6 => ?_)
    · have hm := ite_t hm hc_6
      refine cw_skip ?_
      refine then_n ?_
      refine cw_seq ?_
      refine cw_block ?_
      refine cw_region ?_
      refine wl_val (v := .int .i64 p_3) (w' := w_2) (by kernel_rfl) (run_move (v := .int .i64 p_3) (by kernel_rfl)) ?_
      refine wl_val (v := .int .i64 (mul .i64 p_3 10)) (w' := w_2) (by kernel_rfl) (run_mul (k := .i64) (a := p_3) (b := 10) (by kernel_rfl) (by kernel_rfl)) ?_
      refine wl_val (v := .int .i64 (mul .i64 p_3 10)) (w' := w_2) (by kernel_rfl) (run_assign (v := .int .i64 (mul .i64 p_3 10)) (by kernel_rfl)) ?_
      refine wl_nil ?_
      refine inBlock_n ?_
      refine then_n ?_
      refine cw_region ?_
      refine wl_val (v := .int .i64 (add .i64 x_2 1)) (w' := w_2) (by kernel_rfl) (run_add (k := .i64) (a := x_2) (b := 1) (by kernel_rfl) (by kernel_rfl)) ?_
      refine wl_val (v := .int .i64 (add .i64 x_2 1)) (w' := w_2) (by kernel_rfl) (run_move (v := .int .i64 (add .i64 x_2 1)) (by kernel_rfl)) ?_
      refine wl_nil ?_
      exact ⟨_, rfl, ((mul .i64 p_3 10), (add .i64 x_2 1)), ⟨(fun i => ([.bool (lt x_2 p0_0), .int .i64 p_3, .int .i64 (mul .i64 p_3 10), .int .i64 (add .i64 x_2 1)] : List Value).getD i undef), by kernel_rfl, hL, hB⟩, hm⟩
    · have hm := ite_f hm hc_6
      refine cw_exit ?_
      refine then_exit ?_
      refine then_exit ?_
      refine inBlock_same ?_
      exact then_c ⟨p_3, (fun i => ([.int .i64 p0_0, .int .i64 x_2, .bool (lt x_2 p0_0), (u_5 1), (u_5 2), (u_5 3)] : List Value).getD i undef), by kernel_rfl, hL, hB, hm⟩
  · intro l1 w_1 hI
    obtain ⟨p_2, u_3, rfl, hL, hB, hm⟩ := hI
    unfold m37_J1 at hm
    refine cw_seq ?_
    refine cw_region ?_
    refine wl_val (v := .int .i64 p_2) (w' := w_1) (by kernel_rfl) (run_move (v := .int .i64 p_2) (by kernel_rfl)) ?_
    refine wl_val (v := .int .i64 p_2) (w' := w_1) (by kernel_rfl) (run_assign (v := .int .i64 p_2) (by kernel_rfl)) ?_
    refine wl_nil ?_
    refine then_n ?_
    refine cw_ret ?_
    obtain rfl := Option.some.inj hm
    exact ret1 (v := .int .i64 p_2) rfl (resv_tmp (by kernel_rfl)) ⟨_, rfl, by kernel_rfl, hB⟩
end SxYtihfogahdofdmaaDoor

/- Written by program (gen.py): the model of saucier/units.Cmp, and the proof that its code computes it. -/
namespace SxYtihfogahdofdmaaDoor
open Go Go.RowKit Sx Go.Proofs
set_option linter.unusedVariables false
set_option linter.unusedSimpArgs false
attribute [local irreducible] WL WX CW OW
/-! ### 15: "saucier/units.Cmp" -/
def m15_J1 (fuel : Nat) (p0_0 : TDec) (p1_0 : TDec) (x_1 : Bool) : Option Int :=
  if x_1 then (some 0) else ((m37 fuel (sub .i64 6 (cvt .i64 p0_0.D))).bind fun r_5 => (m37 fuel (sub .i64 6 (cvt .i64 p1_0.D))).bind fun r_6 => if (lt (mul .i64 p0_0.N r_5) (mul .i64 p1_0.N r_6)) then (some (-1)) else (if (gt (mul .i64 p0_0.N r_5) (mul .i64 p1_0.N r_6)) then (some 1) else (some 0)))
def m15 (fuel : Nat) (p0_0 : TDec) (p1_0 : TDec) : Option Int :=
  (m14 fuel p0_0).bind fun r_7 => if r_7 then ((m14 fuel p1_0).bind fun r_8 => m15_J1 fuel p0_0 p1_0 (!r_8)) else (m15_J1 fuel p0_0 p1_0 true)
@[reducible] def Q15 (F : Lx) (w0 : World) (r : Int) (v : Value) (w' : World) : Prop := v = .int .i64 r ∧ Below w0.heap.size w0 w'
set_option maxRecDepth 100000 in
set_option maxHeartbeats 4000000 in
theorem f15_ok (fuel : Nat) (F : Lx) (w0 : World) (hF : ∀ k, some k ∈ F → k < w0.heap.size) {p0_0 : TDec} {p1_0 : TDec} {r : Int} (hm : m15 fuel p0_0 p1_0 = some r) :
    Calls Tryd.prog 15 #[.agg #[.int .i64 p0_0.N, .int .u8 p0_0.D], .agg #[.int .i64 p1_0.N, .int .u8 p1_0.D]] w0 (fun e w' => ∃ v, e = .returned v ∧ Q15 F w0 r v w') := by
  have hPF : PF (bodyPost Tryd.prog Tryd.f15 (fun e w' => ∃ v, e = .returned v ∧ Q15 F w0 r v w')) := PF.body (fun c w h => by obtain ⟨v, e, _⟩ := h; cases e)
  have hL := LOk.start hF
  have hB := Below.refl w0.heap.size w0
  unfold m15 at hm
  refine enter (l := [.agg #[.int .i64 p0_0.N, .int .u8 p0_0.D], .agg #[.int .i64 p1_0.N, .int .u8 p1_0.D], undef, undef, undef, undef, undef, undef, undef, undef, undef, undef, undef, undef, undef, undef, undef, undef, undef, undef, undef, undef, undef, undef, undef, undef, undef, undef, undef, undef, undef, undef, undef, undef, undef, undef, undef, undef, undef]) Tryd.func15 rfl Tryd.ntmps15 (by kernel_rfl) ?_
  refine cw_seq ?_
  refine cw_region ?_
  refine wl_op (by kernel_rfl) (ow_box' (v := .agg #[.int .i64 p0_0.N, .int .u8 p0_0.D]) (vs := [.int .i64 p0_0.N, .int .u8 p0_0.D]) (by kernel_rfl) rfl hL ?_)
  intro g_1 w_1 hS h_1
  replace hB := hS.below hL hB
  replace hL := hS.hL
  refine wl_op (by kernel_rfl) (ow_box' (v := .agg #[.int .i64 p1_0.N, .int .u8 p1_0.D]) (vs := [.int .i64 p1_0.N, .int .u8 p1_0.D]) (by kernel_rfl) rfl hL ?_)
  intro g_2 w_2 hS h_2
  replace h_1 := hS.box h_1 nilN
  replace hB := hS.below hL hB
  replace hL := hS.hL
  refine wl_val (v := .int .i64 0) (w' := w_2) (by kernel_rfl) (run_assign (v := .int .i64 0) (by kernel_rfl)) ?_
  refine wl_nil ?_
  refine then_n ?_
  refine cw_seq ?_
  refine cw_cut (fun l' w' => ∃ x_1, ∃ u_1 : Nat → Value, l' = [.agg #[.int .i64 p0_0.N, .int .u8 p0_0.D], .agg #[.int .i64 p1_0.N, .int .u8 p1_0.D], .pointer (some ⟨g_1, 0, none⟩), .pointer (some ⟨g_2, 0, none⟩), .int .i64 0, undef, undef, (u_1 0), (u_1 1), (u_1 2), (u_1 3), (u_1 4), (u_1 5), (u_1 6), .bool x_1, undef, undef, undef, undef, undef, undef, undef, undef, undef, undef, undef, undef, undef, undef, undef, undef, undef, undef, undef, undef, undef, undef, undef, undef] ∧ LOk w0.heap.size [some g_2, some g_1] F w' ∧ Below w0.heap.size w0 w' ∧ Bx w' g_1 [.int .i64 p0_0.N, .int .u8 p0_0.D] 23 ∧ Bx w' g_2 [.int .i64 p1_0.N, .int .u8 p1_0.D] 23 ∧ m15_J1 fuel p0_0 p1_0 x_1 = some r) ?_ ?_
  · refine cw_region ?_
    refine wl_val (v := .agg #[.int .i64 p0_0.N, .int .u8 p0_0.D]) (w' := w_2) (by kernel_rfl) (run_load_boxn (j := 0) (vs := [.int .i64 p0_0.N, .int .u8 p0_0.D]) Tryd.underlying23 rfl sz_23 (by kernel_rfl) h_1 (by kernel_rfl) rfl) ?_
    obtain ⟨r_7, h_9, hm⟩ := bind_e hm
    refine wl_op (by kernel_rfl) (ow_enter (run_callf (vs := [.agg #[.int .i64 p0_0.N, .int .u8 p0_0.D]]) Tryd.func14 nm_14 (by kernel_rfl) (by kernel_rfl)) (f14_ok (p0_0 := p0_0) fuel _ w_2 hL.lt  h_9) ?_)
    intro vR w_11 hR
    obtain ⟨rfl, hBe⟩ := hR
    have hS := Stp.call hL (Fz.of_below hBe [])
    replace h_1 := hS.box h_1 nilN
    replace h_2 := hS.box h_2 nilN
    replace hB := hS.below hL hB
    replace hL := hS.hL
    refine wl_val (v := .bool (!r_7)) (w' := w_11) (by kernel_rfl) (run_not (b := r_7) (by kernel_rfl)) ?_
    refine wl_val (v := .bool (!r_7)) (w' := w_11) (by kernel_rfl) (run_move (v := .bool (!r_7)) (by kernel_rfl)) ?_
    rcases Bool.eq_false_or_eq_true r_7 with hc_5 | hc_5
    · have hm := ite_t hm hc_5
      refine wl_val (v := .agg #[.int .i64 p1_0.N, .int .u8 p1_0.D]) (w' := w_11) (wg (c := (!r_7)) (want := false) (by kernel_rfl) (not_t hc_5) rfl) (run_load_boxn (j := 0) (vs := [.int .i64 p1_0.N, .int .u8 p1_0.D]) Tryd.underlying23 rfl sz_23 (by kernel_rfl) h_2 (by kernel_rfl) rfl) ?_
      obtain ⟨r_8, h_10, hm⟩ := bind_e hm
      refine wl_op (wg (c := (!r_7)) (want := false) (by kernel_rfl) (not_t hc_5) rfl) (ow_enter (run_callf (vs := [.agg #[.int .i64 p1_0.N, .int .u8 p1_0.D]]) Tryd.func14 nm_14 (by kernel_rfl) (by kernel_rfl)) (f14_ok (p0_0 := p1_0) fuel _ w_11 hL.lt  h_10) ?_)
      intro vR w_12 hR
      obtain ⟨rfl, hBe⟩ := hR
      have hS := Stp.call hL (Fz.of_below hBe [])
      replace h_1 := hS.box h_1 nilN
      replace h_2 := hS.box h_2 nilN
      replace hB := hS.below hL hB
      replace hL := hS.hL
      refine wl_val (v := .bool (!r_8)) (w' := w_12) (wg (c := (!r_7)) (want := false) (by kernel_rfl) (not_t hc_5) rfl) (run_not (b := r_8) (by kernel_rfl)) ?_
      refine wl_val (v := .bool (!r_8)) (w' := w_12) (by kernel_rfl) (run_pick_f (v := .bool (!r_8)) (tr2 (c := (!r_7)) (by kernel_rfl) (not_t hc_5)) (by kernel_rfl)) ?_
      refine wl_nil ?_
      exact then_c ⟨(!r_8), (fun i => ([.agg #[.int .i64 p0_0.N, .int .u8 p0_0.D], .bool r_7, .bool (!r_7), .bool (!r_7), .agg #[.int .i64 p1_0.N, .int .u8 p1_0.D], .bool r_8, .bool (!r_8)] : List Value).getD i undef), by kernel_rfl, hL, hB, h_1, h_2, hm⟩
    · have hm := ite_f hm hc_5
      refine wl_not0 (wg (c := (!r_7)) (want := false) (by kernel_rfl) (not_f hc_5) rfl) (by kernel_rfl) ?_
      refine wl_not0 (wg (c := (!r_7)) (want := false) (by kernel_rfl) (not_f hc_5) rfl) (by kernel_rfl) ?_
      refine wl_not0 (wg (c := (!r_7)) (want := false) (by kernel_rfl) (not_f hc_5) rfl) (by kernel_rfl) ?_
      refine wl_val (v := .bool true) (w' := w_11) (by kernel_rfl) (run_pick_t (v := .bool true) (tr2 (c := (!r_7)) (by kernel_rfl) (not_f hc_5)) (by kernel_rfl)) ?_
      refine wl_nil ?_
      exact then_c ⟨true, (fun i => ([.agg #[.int .i64 p0_0.N, .int .u8 p0_0.D], .bool r_7, .bool (!r_7), .bool (!r_7), undef, undef, undef] : List Value).getD i undef), by kernel_rfl, hL, hB, h_1, h_2, hm⟩
  · intro l1 w_5 hI
    obtain ⟨x_1, u_1, rfl, hL, hB, h_1, h_2, hm⟩ := hI
    unfold m15_J1 at hm
    refine cw_cond (t := x_1) (by kernel_rfl) (fun hc_2 => ?_) (fun hc_2 => ?_)
    · have hm := ite_t hm hc_2
      refine cw_seq ?_
      refine cw_region ?_
      refine wl_val (v := .int .i64 0) (w' := w_5) (by kernel_rfl) (run_assign (v := .int .i64 0) (by kernel_rfl)) ?_
      refine wl_nil ?_
      refine then_n ?_
      refine cw_ret ?_
      refine then_ret ?_
      have hS : Stp w0.heap.size _ [] F [] w_5 _ := Stp.pick hL [] rfl (by decide)
      replace hB := hS.below hL hB
      replace hL := hS.hL
      obtain rfl := Option.some.inj hm
      exact ret1 (v := .int .i64 0) rfl (resv_tmp (by kernel_rfl)) ⟨_, rfl, by kernel_rfl, hB⟩
    · have hm := ite_f hm hc_2
      refine cw_skip ?_
      refine then_n ?_
      refine cw_seq ?_
      refine cw_region_draw [(0, true), (1, true), (2, true), (3, true), (4, true), (5, true), (8, true), (9, true), (10, true), (11, true), (12, true), (13, true), (6, false), (7, true), (14, false), (15, true), (16, true), (17, true)] (fun x => Fz [] w_5 x) rfl (by kernel_rfl) (PF.then hPF) (Fz.drew _ _) ?_
      have hZ : Fz [] w_5 w_5.drew := Fz.drew _ _
      have hS0 : Stp w0.heap.size [some g_2, some g_1] [some g_2, some g_1] F [] w_5 w_5.drew := Stp.call hL (Fz.drew _ _)
      generalize w_5.drew = w_8 at hS0 hZ ⊢
      refine wx_take (v := .pointer (some ⟨g_1, 0, none⟩)) (by kernel_rfl) (fun w' hS => run_fieldAddr (b := g_1) (o := 0) fo_23_0 (by kernel_rfl)) ?_
      refine wx_take (v := .int .i64 p0_0.N) (by kernel_rfl) (fun w' hS => run_load_box1 (j := 0) Tryd.underlying2 rfl (by kernel_rfl) (h_1.step hS nilN) (by kernel_rfl)) ?_
      refine wx_take (v := .pointer (some ⟨g_1, 1, none⟩)) (by kernel_rfl) (fun w' hS => run_fieldAddr (b := g_1) (o := 0) fo_23_1 (by kernel_rfl)) ?_
      refine wx_take (v := .int .u8 p0_0.D) (by kernel_rfl) (fun w' hS => run_load_box1 (j := 1) Tryd.underlying5 rfl (by kernel_rfl) (h_1.step hS nilN) (by kernel_rfl)) ?_
      refine wx_take (v := .int .i64 (cvt .i64 p0_0.D)) (by kernel_rfl) (fun w' hS => run_cvt (k := .u8) (a := p0_0.D) Tryd.underlying5 Tryd.underlying3 (by kernel_rfl)) ?_
      refine wx_take (v := .int .i64 (sub .i64 6 (cvt .i64 p0_0.D))) (by kernel_rfl) (fun w' hS => run_sub (k := .i64) (a := 6) (b := (cvt .i64 p0_0.D)) (by kernel_rfl) (by kernel_rfl)) ?_
      refine wx_take (v := .pointer (some ⟨g_2, 0, none⟩)) (by kernel_rfl) (fun w' hS => run_fieldAddr (b := g_2) (o := 0) fo_23_0 (by kernel_rfl)) ?_
      refine wx_take (v := .int .i64 p1_0.N) (by kernel_rfl) (fun w' hS => run_load_box1 (j := 0) Tryd.underlying2 rfl (by kernel_rfl) (h_2.step hS nilN) (by kernel_rfl)) ?_
      refine wx_take (v := .pointer (some ⟨g_2, 1, none⟩)) (by kernel_rfl) (fun w' hS => run_fieldAddr (b := g_2) (o := 0) fo_23_1 (by kernel_rfl)) ?_
      refine wx_take (v := .int .u8 p1_0.D) (by kernel_rfl) (fun w' hS => run_load_box1 (j := 1) Tryd.underlying5 rfl (by kernel_rfl) (h_2.step hS nilN) (by kernel_rfl)) ?_
      refine wx_take (v := .int .i64 (cvt .i64 p1_0.D)) (by kernel_rfl) (fun w' hS => run_cvt (k := .u8) (a := p1_0.D) Tryd.underlying5 Tryd.underlying3 (by kernel_rfl)) ?_
      refine wx_take (v := .int .i64 (sub .i64 6 (cvt .i64 p1_0.D))) (by kernel_rfl) (fun w' hS => run_sub (k := .i64) (a := 6) (b := (cvt .i64 p1_0.D)) (by kernel_rfl) (by kernel_rfl)) ?_
      have h_1b := h_1
      have h_2b := h_2
      have hLb := hL
      replace h_1 := hS0.box h_1 nilN
      replace h_2 := hS0.box h_2 nilN
      replace hB := hS0.below hL hB
      replace hL := hS0.hL
      obtain ⟨r_5, h_7, hm⟩ := bind_e hm
      refine wx_op (by kernel_rfl) (fun _ => ow_enter (run_callf (vs := [.int .i64 (sub .i64 6 (cvt .i64 p0_0.D))]) Tryd.func37 nm_37 (by kernel_rfl) (by kernel_rfl)) (f37_ok (p0_0 := (sub .i64 6 (cvt .i64 p0_0.D))) fuel _ w_8 hL.lt  h_7) ?_)
      intro vR w_9 hR
      obtain ⟨rfl, hBe⟩ := hR
      have hS := Stp.call hL (Fz.of_below hBe [])
      replace hZ := hZ.trans (hS.hf.sub nilM)
      refine ⟨hZ, ?_⟩
      replace h_1 := hS.box h_1 nilN
      replace h_2 := hS.box h_2 nilN
      replace hB := hS.below hL hB
      replace hL := hS.hL
      refine wx_take (v := .int .i64 (mul .i64 p0_0.N r_5)) (by kernel_rfl) (fun w' hS => run_mul (k := .i64) (a := p0_0.N) (b := r_5) (by kernel_rfl) (by kernel_rfl)) ?_
      obtain ⟨r_6, h_8, hm⟩ := bind_e hm
      refine wx_op (by kernel_rfl) (fun _ => ow_enter (run_callf (vs := [.int .i64 (sub .i64 6 (cvt .i64 p1_0.D))]) Tryd.func37 nm_37 (by kernel_rfl) (by kernel_rfl)) (f37_ok (p0_0 := (sub .i64 6 (cvt .i64 p1_0.D))) fuel _ w_9 hL.lt  h_8) ?_)
      intro vR w_10 hR
      obtain ⟨rfl, hBe⟩ := hR
      have hS := Stp.call hL (Fz.of_below hBe [])
      replace hZ := hZ.trans (hS.hf.sub nilM)
      refine ⟨hZ, ?_⟩
      replace h_1 := hS.box h_1 nilN
      replace h_2 := hS.box h_2 nilN
      replace hB := hS.below hL hB
      replace hL := hS.hL
      refine wx_take (v := .int .i64 (mul .i64 p1_0.N r_6)) (by kernel_rfl) (fun w' hS => run_mul (k := .i64) (a := p1_0.N) (b := r_6) (by kernel_rfl) (by kernel_rfl)) ?_
      refine wx_norm [.agg #[.int .i64 p0_0.N, .int .u8 p0_0.D], .agg #[.int .i64 p1_0.N, .int .u8 p1_0.D], .pointer (some ⟨g_1, 0, none⟩), .pointer (some ⟨g_2, 0, none⟩), .int .i64 0, undef, undef, (u_1 0), (u_1 1), (u_1 2), (u_1 3), (u_1 4), (u_1 5), (u_1 6), .bool x_1, .pointer (some ⟨g_1, 0, none⟩), .int .i64 p0_0.N, .pointer (some ⟨g_1, 1, none⟩), .int .u8 p0_0.D, .int .i64 (cvt .i64 p0_0.D), .int .i64 (sub .i64 6 (cvt .i64 p0_0.D)), .int .i64 r_5, .int .i64 (mul .i64 p0_0.N r_5), .pointer (some ⟨g_2, 0, none⟩), .int .i64 p1_0.N, .pointer (some ⟨g_2, 1, none⟩), .int .u8 p1_0.D, .int .i64 (cvt .i64 p1_0.D), .int .i64 (sub .i64 6 (cvt .i64 p1_0.D)), .int .i64 r_6, .int .i64 (mul .i64 p1_0.N r_6), undef, undef, undef, undef, undef, undef, undef, undef] (by kernel_rfl) ?_
      refine wx_take (v := .int .i64 (mul .i64 p0_0.N r_5)) (by kernel_rfl) (fun w' hS => run_assign (v := .int .i64 (mul .i64 p0_0.N r_5)) (by kernel_rfl)) ?_
      refine wx_take (v := .int .i64 (mul .i64 p1_0.N r_6)) (by kernel_rfl) (fun w' hS => run_assign (v := .int .i64 (mul .i64 p1_0.N r_6)) (by kernel_rfl)) ?_
      refine wx_nil ?_
      refine then_n ?_
      refine cw_seq ?_
      refine cw_block ?_
      refine cw_seq ?_
      refine cw_region ?_
      refine wl_val (v := .int .i64 (mul .i64 p0_0.N r_5)) (w' := w_10) (by kernel_rfl) (run_move (v := .int .i64 (mul .i64 p0_0.N r_5)) (by kernel_rfl)) ?_
      refine wl_val (v := .int .i64 (mul .i64 p1_0.N r_6)) (w' := w_10) (by kernel_rfl) (run_move (v := .int .i64 (mul .i64 p1_0.N r_6)) (by kernel_rfl)) ?_
      refine wl_val (v := .bool (lt (mul .i64 p0_0.N r_5) (mul .i64 p1_0.N r_6))) (w' := w_10) (by kernel_rfl) (run_lt (k := .i64) (a := (mul .i64 p0_0.N r_5)) (b := (mul .i64 p1_0.N r_6)) (by kernel_rfl) (by kernel_rfl)) ?_
      refine wl_val (v := .bool (lt (mul .i64 p0_0.N r_5) (mul .i64 p1_0.N r_6))) (w' := w_10) (by kernel_rfl) (run_assign (v := .bool (lt (mul .i64 p0_0.N r_5) (mul .i64 p1_0.N r_6))) (by kernel_rfl)) ?_
      refine wl_nil ?_
      refine then_n ?_
      refine cw_cond (t := (lt (mul .i64 p0_0.N r_5) (mul .i64 p1_0.N r_6))) (by kernel_rfl) (fun hc_3 => ?_) (fun hc_3 => ?_)
      · have hm := ite_t hm hc_3
        refine cw_seq ?_
        refine cw_region ?_
        refine wl_val (v := .int .i64 (-1)) (w' := w_10) (by kernel_rfl) (run_assign (v := .int .i64 (-1)) (by kernel_rfl)) ?_
        refine wl_nil ?_
        refine then_n ?_
        refine cw_ret ?_
        refine inBlock_ret ?_
        refine then_ret ?_
        have hS : Stp w0.heap.size _ [] F [] w_10 _ := Stp.pick hL [] rfl (by decide)
        replace hB := hS.below hL hB
        replace hL := hS.hL
        obtain rfl := Option.some.inj hm
        exact ret1 (v := .int .i64 (-1)) rfl (resv_tmp (by kernel_rfl)) ⟨_, rfl, by kernel_rfl, hB⟩
      · have hm := ite_f hm hc_3
        refine cw_seq ?_
        refine cw_region ?_
        refine wl_val (v := .int .i64 (mul .i64 p0_0.N r_5)) (w' := w_10) (by kernel_rfl) (run_move (v := .int .i64 (mul .i64 p0_0.N r_5)) (by kernel_rfl)) ?_
        refine wl_val (v := .int .i64 (mul .i64 p1_0.N r_6)) (w' := w_10) (by kernel_rfl) (run_move (v := .int .i64 (mul .i64 p1_0.N r_6)) (by kernel_rfl)) ?_
        refine wl_val (v := .bool (gt (mul .i64 p0_0.N r_5) (mul .i64 p1_0.N r_6))) (w' := w_10) (by kernel_rfl) (run_gt (k := .i64) (a := (mul .i64 p0_0.N r_5)) (b := (mul .i64 p1_0.N r_6)) (by kernel_rfl) (by kernel_rfl)) ?_
        refine wl_val (v := .bool (gt (mul .i64 p0_0.N r_5) (mul .i64 p1_0.N r_6))) (w' := w_10) (by kernel_rfl) (run_assign (v := .bool (gt (mul .i64 p0_0.N r_5) (mul .i64 p1_0.N r_6))) (by kernel_rfl)) ?_
        refine wl_nil ?_
        refine then_n ?_
        refine cw_cond (t := (gt (mul .i64 p0_0.N r_5) (mul .i64 p1_0.N r_6))) (by kernel_rfl) (fun hc_4 => ?_) (fun hc_4 => ?_)
        · have hm := ite_t hm hc_4
          refine cw_seq ?_
          refine cw_region ?_
          refine wl_val (v := .int .i64 1) (w' := w_10) (by kernel_rfl) (run_assign (v := .int .i64 1) (by kernel_rfl)) ?_
          refine wl_nil ?_
          refine then_n ?_
          refine cw_norm [.agg #[.int .i64 p0_0.N, .int .u8 p0_0.D], .agg #[.int .i64 p1_0.N, .int .u8 p1_0.D], .pointer (some ⟨g_1, 0, none⟩), .pointer (some ⟨g_2, 0, none⟩), .int .i64 1, .int .i64 (mul .i64 p0_0.N r_5), .int .i64 (mul .i64 p1_0.N r_6), (u_1 0), (u_1 1), (u_1 2), (u_1 3), (u_1 4), (u_1 5), (u_1 6), .bool x_1, .pointer (some ⟨g_1, 0, none⟩), .int .i64 p0_0.N, .pointer (some ⟨g_1, 1, none⟩), .int .u8 p0_0.D, .int .i64 (cvt .i64 p0_0.D), .int .i64 (sub .i64 6 (cvt .i64 p0_0.D)), .int .i64 r_5, .int .i64 (mul .i64 p0_0.N r_5), .pointer (some ⟨g_2, 0, none⟩), .int .i64 p1_0.N, .pointer (some ⟨g_2, 1, none⟩), .int .u8 p1_0.D, .int .i64 (cvt .i64 p1_0.D), .int .i64 (sub .i64 6 (cvt .i64 p1_0.D)), .int .i64 r_6, .int .i64 (mul .i64 p1_0.N r_6), .bool (lt (mul .i64 p0_0.N r_5) (mul .i64 p1_0.N r_6)), .int .i64 (mul .i64 p0_0.N r_5), .int .i64 (mul .i64 p1_0.N r_6), .bool (lt (mul .i64 p0_0.N r_5) (mul .i64 p1_0.N r_6)), .bool (gt (mul .i64 p0_0.N r_5) (mul .i64 p1_0.N r_6)), .int .i64 (mul .i64 p0_0.N r_5), .int .i64 (mul .i64 p1_0.N r_6), .bool (gt (mul .i64 p0_0.N r_5) (mul .i64 p1_0.N r_6))] (by kernel_rfl) ?_
          refine cw_ret ?_
          refine inBlock_ret ?_
          refine then_ret ?_
          have hS : Stp w0.heap.size _ [] F [] w_10 _ := Stp.pick hL [] rfl (by decide)
          replace hB := hS.below hL hB
          replace hL := hS.hL
          obtain rfl := Option.some.inj hm
          exact ret1 (v := .int .i64 1) rfl (resv_tmp (by kernel_rfl)) ⟨_, rfl, by kernel_rfl, hB⟩
        · have hm := ite_f hm hc_4
          refine cw_skip ?_
          refine inBlock_n ?_
          refine then_n ?_
          refine cw_seq ?_
          refine cw_region ?_
          refine wl_val (v := .int .i64 0) (w' := w_10) (by kernel_rfl) (run_assign (v := .int .i64 0) (by kernel_rfl)) ?_
          refine wl_nil ?_
          refine then_n ?_
          refine cw_norm [.agg #[.int .i64 p0_0.N, .int .u8 p0_0.D], .agg #[.int .i64 p1_0.N, .int .u8 p1_0.D], .pointer (some ⟨g_1, 0, none⟩), .pointer (some ⟨g_2, 0, none⟩), .int .i64 0, .int .i64 (mul .i64 p0_0.N r_5), .int .i64 (mul .i64 p1_0.N r_6), (u_1 0), (u_1 1), (u_1 2), (u_1 3), (u_1 4), (u_1 5), (u_1 6), .bool x_1, .pointer (some ⟨g_1, 0, none⟩), .int .i64 p0_0.N, .pointer (some ⟨g_1, 1, none⟩), .int .u8 p0_0.D, .int .i64 (cvt .i64 p0_0.D), .int .i64 (sub .i64 6 (cvt .i64 p0_0.D)), .int .i64 r_5, .int .i64 (mul .i64 p0_0.N r_5), .pointer (some ⟨g_2, 0, none⟩), .int .i64 p1_0.N, .pointer (some ⟨g_2, 1, none⟩), .int .u8 p1_0.D, .int .i64 (cvt .i64 p1_0.D), .int .i64 (sub .i64 6 (cvt .i64 p1_0.D)), .int .i64 r_6, .int .i64 (mul .i64 p1_0.N r_6), .bool (lt (mul .i64 p0_0.N r_5) (mul .i64 p1_0.N r_6)), .int .i64 (mul .i64 p0_0.N r_5), .int .i64 (mul .i64 p1_0.N r_6), .bool (lt (mul .i64 p0_0.N r_5) (mul .i64 p1_0.N r_6)), .bool (gt (mul .i64 p0_0.N r_5) (mul .i64 p1_0.N r_6)), .int .i64 (mul .i64 p0_0.N r_5), .int .i64 (mul .i64 p1_0.N r_6), .bool (gt (mul .i64 p0_0.N r_5) (mul .i64 p1_0.N r_6))] (by kernel_rfl) ?_
          refine cw_ret ?_
          have hS : Stp w0.heap.size _ [] F [] w_10 _ := Stp.pick hL [] rfl (by decide)
          replace hB := hS.below hL hB
          replace hL := hS.hL
          obtain rfl := Option.some.inj hm
          exact ret1 (v := .int .i64 0) rfl (resv_tmp (by kernel_rfl)) ⟨_, rfl, by kernel_rfl, hB⟩
end SxYtihfogahdofdmaaDoor

/- Written by program (gen.py): the model of saucier/words.Signed, and the proof that its code computes it. -/
namespace SxYtihfogahdofdmaaDoor
open Go Go.RowKit Sx Go.Proofs
set_option linter.unusedVariables false
set_option linter.unusedSimpArgs false
attribute [local irreducible] WL WX CW OW
/-! ### 39: "saucier/words.Signed" -/
def m39 (fuel : Nat) (p0_0 : Int) : Option Int :=
  some (cvt .i64 (cvt .i16 p0_0))
@[reducible] def Q39 (F : Lx) (w0 : World) (r : Int) (v : Value) (w' : World) : Prop := v = .int .i64 r ∧ Below w0.heap.size w0 w'
set_option maxRecDepth 100000 in
set_option maxHeartbeats 4000000 in
theorem f39_ok (fuel : Nat) (F : Lx) (w0 : World) (hF : ∀ k, some k ∈ F → k < w0.heap.size) {p0_0 : Int} {r : Int} (hm : m39 fuel p0_0 = some r) :
    Calls Tryd.prog 39 #[.int .u16 p0_0] w0 (fun e w' => ∃ v, e = .returned v ∧ Q39 F w0 r v w') := by
  have hPF : PF (bodyPost Tryd.prog Tryd.f39 (fun e w' => ∃ v, e = .returned v ∧ Q39 F w0 r v w')) := PF.body (fun c w h => by obtain ⟨v, e, _⟩ := h; cases e)
  have hL := LOk.start hF
  have hB := Below.refl w0.heap.size w0
  unfold m39 at hm
  refine enter (l := [.int .u16 p0_0, undef, undef, undef, undef, undef]) Tryd.func39 rfl Tryd.ntmps39 (by kernel_rfl) ?_
  refine cw_seq ?_
  refine cw_region ?_
  refine wl_val (v := .int .i64 0) (w' := w0) (by kernel_rfl) (run_assign (v := .int .i64 0) (by kernel_rfl)) ?_
  refine wl_nil ?_
  refine then_n ?_
  refine cw_seq ?_
  refine cw_region ?_
  refine wl_val (v := .int .u16 p0_0) (w' := w0) (by kernel_rfl) (run_move (v := .int .u16 p0_0) (by kernel_rfl)) ?_
  refine wl_val (v := .int .i16 (cvt .i16 p0_0)) (w' := w0) (by kernel_rfl) (run_cvt (k := .u16) (a := p0_0) Tryd.underlying35 Tryd.underlying95 (by kernel_rfl)) ?_
  refine wl_val (v := .int .i64 (cvt .i64 (cvt .i16 p0_0))) (w' := w0) (by kernel_rfl) (run_cvt (k := .i16) (a := (cvt .i16 p0_0)) Tryd.underlying95 Tryd.underlying3 (by kernel_rfl)) ?_
  refine wl_val (v := .int .i64 (cvt .i64 (cvt .i16 p0_0))) (w' := w0) (by kernel_rfl) (run_assign (v := .int .i64 (cvt .i64 (cvt .i16 p0_0))) (by kernel_rfl)) ?_
  refine wl_nil ?_
  refine then_n ?_
  refine cw_ret ?_
  obtain rfl := Option.some.inj hm
  exact ret1 (v := .int .i64 (cvt .i64 (cvt .i16 p0_0))) rfl (resv_tmp (by kernel_rfl)) ⟨_, rfl, by kernel_rfl, hB⟩
end SxYtihfogahdofdmaaDoor

/- Written by program (gen.py): the model of saucier/units.Worth, and the proof that its code computes it. -/
namespace SxYtihfogahdofdmaaDoor
open Go Go.RowKit Sx Go.Proofs
set_option linter.unusedVariables false
set_option linter.unusedSimpArgs false
attribute [local irreducible] WL WX CW OW
/-! ### 16: "saucier/units.Worth" -/
def m16_J3 (fuel : Nat) (digits_2 : Int) (n_3 : Int) : Option (TDec × Bool) :=
  some ((⟨n_3, (cvt .u8 digits_2)⟩ : TDec), true)
def m16_J5 (fuel : Nat) (digits_3 : Int) (n_4 : Int) (self_1 : ((Int × Int) → Option (TDec × Bool))) (x_7 : Bool) : Option (TDec × Bool) :=
  if x_7 then (self_1 ((sub .i64 digits_3 1), (quo .i64 n_4 10))) else (m16_J3 fuel  digits_3 n_4)
def m16_L4 (fuel : Nat) (self_1 : Int × Int → Option (TDec × Bool)) : Int × Int → Option (TDec × Bool) := fun (digits_3, n_4) =>
  if (gt digits_3 0) then (m16_J5 fuel digits_3 n_4 self_1 (eqi (rem n_4 10) 0)) else (m16_J5 fuel digits_3 n_4 self_1 false)
def m16_J2 (fuel : Nat) (p1_0 : Int) (n_1 : Int) : Option (TDec × Bool) :=
  loopF (m16_L4 fuel ) fuel (p1_0, n_1)
def m16_J1 (fuel : Nat) (p0_0 : Int) (p1_0 : Int) (p2_0 : Bool) (x_1 : Bool) : Option (TDec × Bool) :=
  if x_1 then (some ((⟨0, 0⟩ : TDec), false)) else (if p2_0 then ((m39 fuel p0_0).bind fun r_2 => m16_J2 fuel p1_0 r_2) else (m16_J2 fuel p1_0 (cvt .i64 p0_0)))
def m16 (fuel : Nat) (p0_0 : Int) (p1_0 : Int) (p2_0 : Bool) : Option (TDec × Bool) :=
  if (lt p1_0 0) then (m16_J1 fuel p0_0 p1_0 p2_0 true) else (m16_J1 fuel p0_0 p1_0 p2_0 (gt p1_0 6))
@[reducible] def Q16 (F : Lx) (w0 : World) (r : (TDec × Bool)) (v : Value) (w' : World) : Prop := v = .tuple #[.agg #[.int .i64 r.1.N, .int .u8 r.1.D], .bool r.2] ∧ Below w0.heap.size w0 w'
set_option maxRecDepth 100000 in
set_option maxHeartbeats 4000000 in
theorem f16_ok (fuel : Nat) (F : Lx) (w0 : World) (hF : ∀ k, some k ∈ F → k < w0.heap.size) {p0_0 : Int} {p1_0 : Int} {p2_0 : Bool} {r : (TDec × Bool)} (hm : m16 fuel p0_0 p1_0 p2_0 = some r) :
    Calls Tryd.prog 16 #[.int .u16 p0_0, .int .i64 p1_0, .bool p2_0] w0 (fun e w' => ∃ v, e = .returned v ∧ Q16 F w0 r v w') := by
  have hPF : PF (bodyPost Tryd.prog Tryd.f16 (fun e w' => ∃ v, e = .returned v ∧ Q16 F w0 r v w')) := PF.body (fun c w h => by obtain ⟨v, e, _⟩ := h; cases e)
  have hL := LOk.start hF
  have hB := Below.refl w0.heap.size w0
  unfold m16 at hm
  refine enter (l := [.int .u16 p0_0, .int .i64 p1_0, .bool p2_0, undef, undef, undef, undef, undef, undef, undef, undef, undef, undef, undef, undef, undef, undef, undef, undef, undef, undef, undef, undef, undef, undef, undef, undef, undef, undef, undef, undef, undef, undef, undef, undef, undef]) Tryd.func16 rfl Tryd.ntmps16 (by kernel_rfl) ?_
  refine cw_seq ?_
  refine cw_region ?_
  refine wl_op (by kernel_rfl) (ow_alloc' (z := .agg #[.int .i64 0, .int .u8 0]) (vs := [.int .i64 0, .int .u8 0]) (by kernel_rfl) rfl hL ?_)
  intro g_1 w_1 hS h_1
  replace hB := hS.below hL hB
  replace hL := hS.hL
  refine wl_val (v := .bool false) (w' := w_1) (by kernel_rfl) (run_assign (v := .bool false) (by kernel_rfl)) ?_
  refine wl_nil ?_
  refine then_n ?_
  refine cw_seq ?_
  refine cw_cut (fun l' w' => ∃ x_1, ∃ u_1 : Nat → Value, l' = [.int .u16 p0_0, .int .i64 p1_0, .bool p2_0, undef, undef, undef, .pointer (some ⟨g_1, 0, none⟩), .bool false, undef, (u_1 0), (u_1 1), (u_1 2), (u_1 3), (u_1 4), .bool x_1, undef, undef, undef, undef, undef, undef, undef, undef, undef, undef, undef, undef, undef, undef, undef, undef, undef, undef, undef, undef, undef] ∧ LOk w0.heap.size [some g_1] F w' ∧ Below w0.heap.size w0 w' ∧ Bx w' g_1 [.int .i64 0, .int .u8 0] 23 ∧ m16_J1 fuel p0_0 p1_0 p2_0 x_1 = some r) ?_ ?_
  · refine cw_region ?_
    refine wl_val (v := .int .i64 p1_0) (w' := w_1) (by kernel_rfl) (run_move (v := .int .i64 p1_0) (by kernel_rfl)) ?_
    refine wl_val (v := .bool (lt p1_0 0)) (w' := w_1) (by kernel_rfl) (run_lt (k := .i64) (a := p1_0) (b := 0) (by kernel_rfl) (by kernel_rfl)) ?_
    refine wl_val (v := .bool (lt p1_0 0)) (w' := w_1) (by kernel_rfl) (run_move (v := .bool (lt p1_0 0)) (by kernel_rfl)) ?_
    rcases Bool.eq_false_or_eq_true (lt p1_0 0) with hc_18 | hc_18
    · have hm := ite_t hm hc_18
      refine wl_not0 (wg (c := (lt p1_0 0)) (want := false) (by kernel_rfl) hc_18 rfl) (by kernel_rfl) ?_
      refine wl_not0 (wg (c := (lt p1_0 0)) (want := false) (by kernel_rfl) hc_18 rfl) (by kernel_rfl) ?_
      refine wl_val (v := .bool true) (w' := w_1) (by kernel_rfl) (run_pick_t (v := .bool true) (tr2 (c := (lt p1_0 0)) (by kernel_rfl) hc_18) (by kernel_rfl)) ?_
      refine wl_nil ?_
      exact then_c ⟨true, (fun i => ([.int .i64 p1_0, .bool (lt p1_0 0), .bool (lt p1_0 0), undef, undef] : List Value).getD i undef), by kernel_rfl, hL, hB, h_1, hm⟩
    · have hm := ite_f hm hc_18
      refine wl_val (v := .int .i64 p1_0) (w' := w_1) (wg (c := (lt p1_0 0)) (want := false) (by kernel_rfl) hc_18 rfl) (run_move (v := .int .i64 p1_0) (by kernel_rfl)) ?_
      refine wl_val (v := .bool (gt p1_0 6)) (w' := w_1) (wg (c := (lt p1_0 0)) (want := false) (by kernel_rfl) hc_18 rfl) (run_gt (k := .i64) (a := p1_0) (b := 6) (by kernel_rfl) (by kernel_rfl)) ?_
      refine wl_val (v := .bool (gt p1_0 6)) (w' := w_1) (by kernel_rfl) (run_pick_f (v := .bool (gt p1_0 6)) (tr2 (c := (lt p1_0 0)) (by kernel_rfl) hc_18) (by kernel_rfl)) ?_
      refine wl_nil ?_
      exact then_c ⟨(gt p1_0 6), (fun i => ([.int .i64 p1_0, .bool (lt p1_0 0), .bool (lt p1_0 0), .int .i64 p1_0, .bool (gt p1_0 6)] : List Value).getD i undef), by kernel_rfl, hL, hB, h_1, hm⟩
  · intro l1 w_2 hI
    obtain ⟨x_1, u_1, rfl, hL, hB, h_1, hm⟩ := hI
    unfold m16_J1 at hm
    refine cw_cond (t := x_1) (by kernel_rfl) (fun hc_2 => ?_) (fun hc_2 => ?_)
    · have hm := ite_t hm hc_2
      refine cw_seq ?_
      refine cw_region ?_
      refine wl_val (v := .agg #[.int .i64 0, .int .u8 0]) (w' := w_2) (by kernel_rfl) (by kernel_rfl) ?_
      refine wl_op (by kernel_rfl) (ow_store_box' (g := g_1) (j := 0) (v := .agg #[.int .i64 0, .int .u8 0]) (vs := [.int .i64 0, .int .u8 0]) (cs' := [.int .i64 0, .int .u8 0]) sz_23 (by kernel_rfl) (by kernel_rfl) rfl rfl rfl hL h_1 rfl (by simp) rfl ?_)
      intro w_3 hS h_2
      replace hB := hS.below hL hB
      replace hL := hS.hL
      refine wl_val (v := .bool false) (w' := w_3) (by kernel_rfl) (run_assign (v := .bool false) (by kernel_rfl)) ?_
      refine wl_nil ?_
      refine then_n ?_
      refine cw_ret ?_
      refine then_ret ?_
      have hl0 := loadVar_boxn (P := Tryd.prog) (j := 0) (vs := [.int .i64 0, .int .u8 0]) Tryd.underlying23 rfl sz_23 h_2 (by kernel_rfl) rfl
      have hS : Stp w0.heap.size _ [] F [] w_3 _ := Stp.pick hL [] rfl (by decide)
      replace hB := hS.below hL hB
      replace hL := hS.hL
      obtain rfl := Option.some.inj hm
      exact ret2 (v := .agg #[.int .i64 0, .int .u8 0]) (v' := .bool false) rfl (resv_cell (ad := ⟨g_1, 0, none⟩) (by kernel_rfl) hl0) (resv_tmp (by kernel_rfl)) ⟨_, rfl, by kernel_rfl, hB⟩
    · have hm := ite_f hm hc_2
      refine cw_skip ?_
      refine then_n ?_
      refine cw_seq ?_
      refine cw_region ?_
      refine wl_val (v := .int .u16 p0_0) (w' := w_2) (by kernel_rfl) (run_move (v := .int .u16 p0_0) (by kernel_rfl)) ?_
      refine wl_val (v := .int .i64 (cvt .i64 p0_0)) (w' := w_2) (by kernel_rfl) (run_cvt (k := .u16) (a := p0_0) Tryd.underlying35 Tryd.underlying2 (by kernel_rfl)) ?_
      refine wl_val (v := .int .i64 (cvt .i64 p0_0)) (w' := w_2) (by kernel_rfl) (run_assign (v := .int .i64 (cvt .i64 p0_0)) (by kernel_rfl)) ?_
      refine wl_nil ?_
      refine then_n ?_
      refine cw_cut (fun l' w' => ∃ n_1, ∃ u_2 : Nat → Value, l' = [.int .u16 p0_0, .int .i64 p1_0, .bool p2_0, undef, undef, undef, .pointer (some ⟨g_1, 0, none⟩), .bool false, .int .i64 n_1, (u_1 0), (u_1 1), (u_1 2), (u_1 3), (u_1 4), .bool x_1, undef, .int .u16 p0_0, .int .i64 (cvt .i64 p0_0), (u_2 0), (u_2 1), (u_2 2), undef, undef, undef, undef, undef, undef, undef, undef, undef, undef, undef, undef, undef, undef, undef] ∧ LOk w0.heap.size [some g_1] F w' ∧ Below w0.heap.size w0 w' ∧ Bx w' g_1 [.int .i64 0, .int .u8 0] 23 ∧ m16_J2 fuel p1_0 n_1 = some r) ?_ ?_
      · refine cw_seq ?_
        refine cw_region ?_
        refine wl_val (v := .bool p2_0) (w' := w_2) (by kernel_rfl) (run_move (v := .bool p2_0) (by kernel_rfl)) ?_
        refine wl_nil ?_
        refine then_n ?_
        refine cw_cond (t := p2_0) (by kernel_rfl) (fun hc_17 => ?_) (fun hc_17 => ?_)
        · have hm := ite_t hm hc_17
          refine cw_region ?_
          refine wl_val (v := .int .u16 p0_0) (w' := w_2) (by kernel_rfl) (run_move (v := .int .u16 p0_0) (by kernel_rfl)) ?_
          obtain ⟨r_2, h_5, hm⟩ := bind_e hm
          refine wl_op (by kernel_rfl) (ow_enter (run_callf (vs := [.int .u16 p0_0]) Tryd.func39 nm_39 (by kernel_rfl) (by kernel_rfl)) (f39_ok (p0_0 := p0_0) fuel _ w_2 hL.lt  h_5) ?_)
          intro vR w_10 hR
          obtain ⟨rfl, hBe⟩ := hR
          have hS := Stp.call hL (Fz.of_below hBe [])
          replace h_1 := hS.box h_1 nilN
          replace hB := hS.below hL hB
          replace hL := hS.hL
          refine wl_val (v := .int .i64 r_2) (w' := w_10) (by kernel_rfl) (run_assign (v := .int .i64 r_2) (by kernel_rfl)) ?_
          refine wl_nil ?_
          exact then_c ⟨r_2, (fun i => ([.bool p2_0, .int .u16 p0_0, .int .i64 r_2] : List Value).getD i undef), by kernel_rfl, hL, hB, h_1, hm⟩
        · have hm := ite_f hm hc_17
          refine cw_skip ?_
          exact then_c ⟨(cvt .i64 p0_0), (fun i => ([.bool p2_0, undef, undef] : List Value).getD i undef), by kernel_rfl, hL, hB, h_1, hm⟩
      · intro l1 w_5 hI
        obtain ⟨n_1, u_2, rfl, hL, hB, h_1, hm⟩ := hI
        unfold m16_J2 at hm
        refine cw_cut (fun l' w' => ∃ digits_2 n_3, ∃ u_8 : Nat → Value, l' = [.int .u16 p0_0, .int .i64 digits_2, .bool p2_0, undef, undef, undef, .pointer (some ⟨g_1, 0, none⟩), .bool false, .int .i64 n_3, (u_1 0), (u_1 1), (u_1 2), (u_1 3), (u_1 4), .bool x_1, undef, .int .u16 p0_0, .int .i64 (cvt .i64 p0_0), (u_2 0), (u_2 1), (u_2 2), (u_8 0), (u_8 1), (u_8 2), (u_8 3), (u_8 4), (u_8 5), (u_8 6), (u_8 7), (u_8 8), (u_8 9), (u_8 10), undef, undef, undef, undef] ∧ LOk w0.heap.size [some g_1] F w' ∧ Below w0.heap.size w0 w' ∧ Bx w' g_1 [.int .i64 0, .int .u8 0] 23 ∧ m16_J3 fuel digits_2 n_3 = some r) ?_ ?_
        · refine cw_block ?_
          refine cw_loop (σ := Int × Int) (m16_L4 fuel ) r (fun s l' w' => ∃ u_11 : Nat → Value, l' = [.int .u16 p0_0, .int .i64 s.1, .bool p2_0, undef, undef, undef, .pointer (some ⟨g_1, 0, none⟩), .bool false, .int .i64 s.2, (u_1 0), (u_1 1), (u_1 2), (u_1 3), (u_1 4), .bool x_1, undef, .int .u16 p0_0, .int .i64 (cvt .i64 p0_0), (u_2 0), (u_2 1), (u_2 2), (u_11 0), (u_11 1), (u_11 2), (u_11 3), (u_11 4), (u_11 5), (u_11 6), (u_11 7), (u_11 8), (u_11 9), (u_11 10), undef, undef, undef, undef] ∧ LOk w0.heap.size [some g_1] F w' ∧ Below w0.heap.size w0 w' ∧ Bx w' g_1 [.int .i64 0, .int .u8 0] 23) ?_ (s := (p1_0, n_1)) (n := fuel) ⟨(fun i => ([undef, undef, undef, undef, undef, undef, undef, undef, undef, undef, undef] : List Value).getD i undef), by kernel_rfl, hL, hB, h_1⟩ hm
          intro self_1 s l1 w_8 hI hm
          obtain ⟨digits_3, n_4⟩ := s
          try dsimp only at hI
          obtain ⟨u_11, rfl, hL, hB, h_1⟩ := hI
          unfold m16_L4 at hm
          refine cw_seq ?_
          refine cw_cut (fun l' w' => ∃ x_7, ∃ u_13 : Nat → Value, l' = [.int .u16 p0_0, .int .i64 digits_3, .bool p2_0, undef, undef, undef, .pointer (some ⟨g_1, 0, none⟩), .bool false, .int .i64 n_4, (u_1 0), (u_1 1), (u_1 2), (u_1 3), (u_1 4), .bool x_1, undef, .int .u16 p0_0, .int .i64 (cvt .i64 p0_0), (u_2 0), (u_2 1), (u_2 2), (u_13 0), (u_13 1), (u_13 2), (u_13 3), (u_13 4), (u_13 5), .bool x_7, (u_11 7), (u_11 8), (u_11 9), (u_11 10), undef, undef, undef, undef] ∧ LOk w0.heap.size [some g_1] F w' ∧ Below w0.heap.size w0 w' ∧ Bx w' g_1 [.int .i64 0, .int .u8 0] 23 ∧ m16_J5 fuel digits_3 n_4 self_1 x_7 = some r) ?_ ?_
          · refine cw_region ?_
            refine wl_val (v := .int .i64 digits_3) (w' := w_8) (by kernel_rfl) (run_move (v := .int .i64 digits_3) (by kernel_rfl)) ?_
            refine wl_val (v := .bool (gt digits_3 0)) (w' := w_8) (by kernel_rfl) (run_gt (k := .i64) (a := digits_3) (b := 0) (by kernel_rfl) (by kernel_rfl)) ?_
            refine wl_val (v := .bool (gt digits_3 0)) (w' := w_8) (by kernel_rfl) (run_move (v := .bool (gt digits_3 0)) (by kernel_rfl)) ?_
            rcases Bool.eq_false_or_eq_true (gt digits_3 0) with hc_16 | hc_16
            · have hm := ite_t hm hc_16
              refine wl_val (v := .int .i64 n_4) (w' := w_8) (wg (c := (gt digits_3 0)) (want := true) (by kernel_rfl) hc_16 rfl) (run_move (v := .int .i64 n_4) (by kernel_rfl)) ?_
              refine wl_val (v := .int .i64 (rem n_4 10)) (w' := w_8) (wg (c := (gt digits_3 0)) (want := true) (by kernel_rfl) hc_16 rfl) (run_rem (k := .i64) (a := n_4) (b := 10) (by kernel_rfl) (by kernel_rfl) (by decide)) ?_
              refine wl_val (v := .bool (eqi (rem n_4 10) 0)) (w' := w_8) (wg (c := (gt digits_3 0)) (want := true) (by kernel_rfl) hc_16 rfl) (run_eqi (k := .i64) (a := (rem n_4 10)) (b := 0) (by kernel_rfl) (by kernel_rfl)) ?_
              refine wl_val (v := .bool (eqi (rem n_4 10) 0)) (w' := w_8) (by kernel_rfl) (run_pick_t (v := .bool (eqi (rem n_4 10) 0)) (tr2 (c := (gt digits_3 0)) (by kernel_rfl) hc_16) (by kernel_rfl)) ?_
              refine wl_nil ?_
              exact then_c ⟨(eqi (rem n_4 10) 0), (fun i => ([.int .i64 digits_3, .bool (gt digits_3 0), .bool (gt digits_3 0), .int .i64 n_4, .int .i64 (rem n_4 10), .bool (eqi (rem n_4 10) 0)] : List Value).getD i undef), by kernel_rfl, hL, hB, h_1, hm⟩
            · have hm := ite_f hm hc_16
              refine wl_not (wg (c := (gt digits_3 0)) (want := true) (by kernel_rfl) hc_16 rfl) ?_
              refine wl_not (wg (c := (gt digits_3 0)) (want := true) (by kernel_rfl) hc_16 rfl) ?_
              refine wl_not (wg (c := (gt digits_3 0)) (want := true) (by kernel_rfl) hc_16 rfl) ?_
              refine wl_val (v := .bool false) (w' := w_8) (by kernel_rfl) (run_pick_f (v := .bool false) (tr2 (c := (gt digits_3 0)) (by kernel_rfl) hc_16) (by kernel_rfl)) ?_
              refine wl_nil ?_
              exact then_c ⟨false, (fun i => ([.int .i64 digits_3, .bool (gt digits_3 0), .bool (gt digits_3 0), undef, undef, undef] : List Value).getD i undef), by kernel_rfl, hL, hB, h_1, hm⟩
          · intro l1 w_9 hI
            obtain ⟨x_7, u_13, rfl, hL, hB, h_1, hm⟩ := hI
            unfold m16_J5 at hm
            refine cw_cond (t := x_7) (by kernel_rfl) (fun hc_15 => ?_) (fun hc_15 => ?_)
            · have hm := ite_t hm hc_15
              refine cw_skip ?_
              refine then_n ?_
              refine cw_block ?_
              refine cw_region ?_
              refine wl_val (v := .int .i64 n_4) (w' := w_9) (by kernel_rfl) (run_move (v := .int .i64 n_4) (by kernel_rfl)) ?_
              refine wl_val (v := .int .i64 (quo .i64 n_4 10)) (w' := w_9) (by kernel_rfl) (run_quo (k := .i64) (a := n_4) (b := 10) (by kernel_rfl) (by kernel_rfl) (by decide)) ?_
              refine wl_val (v := .int .i64 digits_3) (w' := w_9) (by kernel_rfl) (run_move (v := .int .i64 digits_3) (by kernel_rfl)) ?_
              refine wl_val (v := .int .i64 (sub .i64 digits_3 1)) (w' := w_9) (by kernel_rfl) (run_sub (k := .i64) (a := digits_3) (b := 1) (by kernel_rfl) (by kernel_rfl)) ?_
              refine wl_val (v := .int .i64 (quo .i64 n_4 10)) (w' := w_9) (by kernel_rfl) (run_assign (v := .int .i64 (quo .i64 n_4 10)) (by kernel_rfl)) ?_
              refine wl_val (v := .int .i64 (sub .i64 digits_3 1)) (w' := w_9) (by kernel_rfl) (run_assign (v := .int .i64 (sub .i64 digits_3 1)) (by kernel_rfl)) ?_
              refine wl_nil ?_
              refine inBlock_n ?_
              exact ⟨_, rfl, ((sub .i64 digits_3 1), (quo .i64 n_4 10)), ⟨(fun i => ([(u_13 0), (u_13 1), (u_13 2), (u_13 3), (u_13 4), (u_13 5), .bool x_7, .int .i64 n_4, .int .i64 (quo .i64 n_4 10), .int .i64 digits_3, .int .i64 (sub .i64 digits_3 1)] : List Value).getD i undef), by kernel_rfl, hL, hB, h_1⟩, hm⟩
            · have hm := ite_f hm hc_15
              refine cw_exit ?_
              refine then_exit ?_
              refine then_exit ?_
              refine inBlock_same ?_
              exact then_c ⟨digits_3, n_4, (fun i => ([(u_13 0), (u_13 1), (u_13 2), (u_13 3), (u_13 4), (u_13 5), .bool x_7, (u_11 7), (u_11 8), (u_11 9), (u_11 10)] : List Value).getD i undef), by kernel_rfl, hL, hB, h_1, hm⟩
        · intro l1 w_6 hI
          obtain ⟨digits_2, n_3, u_8, rfl, hL, hB, h_1, hm⟩ := hI
          unfold m16_J3 at hm
          refine cw_seq ?_
          refine cw_region ?_
          refine wl_val (v := .int .i64 n_3) (w' := w_6) (by kernel_rfl) (run_move (v := .int .i64 n_3) (by kernel_rfl)) ?_
          refine wl_val (v := .int .i64 digits_2) (w' := w_6) (by kernel_rfl) (run_move (v := .int .i64 digits_2) (by kernel_rfl)) ?_
          refine wl_val (v := .int .u8 (cvt .u8 digits_2)) (w' := w_6) (by kernel_rfl) (run_cvt (k := .i64) (a := digits_2) Tryd.underlying3 Tryd.underlying5 (by kernel_rfl)) ?_
          refine wl_val (v := .agg #[.int .i64 n_3, .int .u8 (cvt .u8 digits_2)]) (w' := w_6) (by kernel_rfl) (by kernel_rfl) ?_
          refine wl_op (by kernel_rfl) (ow_store_box' (g := g_1) (j := 0) (v := .agg #[.int .i64 n_3, .int .u8 (cvt .u8 digits_2)]) (vs := [.int .i64 n_3, .int .u8 (cvt .u8 digits_2)]) (cs' := [.int .i64 n_3, .int .u8 (cvt .u8 digits_2)]) sz_23 (by kernel_rfl) (by kernel_rfl) rfl rfl rfl hL h_1 rfl (by simp) rfl ?_)
          intro w_7 hS h_4
          replace hB := hS.below hL hB
          replace hL := hS.hL
          refine wl_val (v := .bool true) (w' := w_7) (by kernel_rfl) (run_assign (v := .bool true) (by kernel_rfl)) ?_
          refine wl_nil ?_
          refine then_n ?_
          refine cw_ret ?_
          have hl0 := loadVar_boxn (P := Tryd.prog) (j := 0) (vs := [.int .i64 n_3, .int .u8 (cvt .u8 digits_2)]) Tryd.underlying23 rfl sz_23 h_4 (by kernel_rfl) rfl
          have hS : Stp w0.heap.size _ [] F [] w_7 _ := Stp.pick hL [] rfl (by decide)
          replace hB := hS.below hL hB
          replace hL := hS.hL
          obtain rfl := Option.some.inj hm
          exact ret2 (v := .agg #[.int .i64 n_3, .int .u8 (cvt .u8 digits_2)]) (v' := .bool true) rfl (resv_cell (ad := ⟨g_1, 0, none⟩) (by kernel_rfl) hl0) (resv_tmp (by kernel_rfl)) ⟨_, rfl, by kernel_rfl, hB⟩
end SxYtihfogahdofdmaaDoor

/- Written by program (gen.py): the model of saucier/words.Word, and the proof that its code computes it. -/
namespace SxYtihfogahdofdmaaDoor
open Go Go.RowKit Sx Go.Proofs
set_option linter.unusedVariables false
set_option linter.unusedSimpArgs false
attribute [local irreducible] WL WX CW OW
/-! ### 40: "saucier/words.Word" -/
def m40_J1 (fuel : Nat) (p0_0 : Int) (x_1 : Bool) : Option (Int × Bool) :=
  if x_1 then (some (0, false)) else (some ((cvt .u16 p0_0), true))
def m40 (fuel : Nat) (p0_0 : Int) : Option (Int × Bool) :=
  if (lt p0_0 (-32768)) then (m40_J1 fuel p0_0 true) else (m40_J1 fuel p0_0 (ge p0_0 32768))
@[reducible] def Q40 (F : Lx) (w0 : World) (r : (Int × Bool)) (v : Value) (w' : World) : Prop := v = .tuple #[.int .u16 r.1, .bool r.2] ∧ Below w0.heap.size w0 w'
set_option maxRecDepth 100000 in
set_option maxHeartbeats 4000000 in
theorem f40_ok (fuel : Nat) (F : Lx) (w0 : World) (hF : ∀ k, some k ∈ F → k < w0.heap.size) {p0_0 : Int} {r : (Int × Bool)} (hm : m40 fuel p0_0 = some r) :
    Calls Tryd.prog 40 #[.int .i64 p0_0] w0 (fun e w' => ∃ v, e = .returned v ∧ Q40 F w0 r v w') := by
  have hPF : PF (bodyPost Tryd.prog Tryd.f40 (fun e w' => ∃ v, e = .returned v ∧ Q40 F w0 r v w')) := PF.body (fun c w h => by obtain ⟨v, e, _⟩ := h; cases e)
  have hL := LOk.start hF
  have hB := Below.refl w0.heap.size w0
  unfold m40 at hm
  refine enter (l := [.int .i64 p0_0, undef, undef, undef, undef, undef, undef, undef, undef, undef, undef, undef]) Tryd.func40 rfl Tryd.ntmps40 (by kernel_rfl) ?_
  refine cw_seq ?_
  refine cw_region ?_
  refine wl_val (v := .int .u16 0) (w' := w0) (by kernel_rfl) (run_assign (v := .int .u16 0) (by kernel_rfl)) ?_
  refine wl_val (v := .bool false) (w' := w0) (by kernel_rfl) (run_assign (v := .bool false) (by kernel_rfl)) ?_
  refine wl_nil ?_
  refine then_n ?_
  refine cw_seq ?_
  refine cw_cut (fun l' w' => ∃ x_1, ∃ u_1 : Nat → Value, l' = [.int .i64 p0_0, undef, .int .u16 0, .bool false, (u_1 0), (u_1 1), (u_1 2), (u_1 3), (u_1 4), .bool x_1, undef, undef] ∧ LOk w0.heap.size [] F w' ∧ Below w0.heap.size w0 w' ∧ m40_J1 fuel p0_0 x_1 = some r) ?_ ?_
  · refine cw_region ?_
    refine wl_val (v := .int .i64 p0_0) (w' := w0) (by kernel_rfl) (run_move (v := .int .i64 p0_0) (by kernel_rfl)) ?_
    refine wl_val (v := .bool (lt p0_0 (-32768))) (w' := w0) (by kernel_rfl) (run_lt (k := .i64) (a := p0_0) (b := (-32768)) (by kernel_rfl) (by kernel_rfl)) ?_
    refine wl_val (v := .bool (lt p0_0 (-32768))) (w' := w0) (by kernel_rfl) (run_move (v := .bool (lt p0_0 (-32768))) (by kernel_rfl)) ?_
    rcases Bool.eq_false_or_eq_true (lt p0_0 (-32768)) with hc_3 | hc_3
    · have hm := ite_t hm hc_3
      refine wl_not0 (wg (c := (lt p0_0 (-32768))) (want := false) (by kernel_rfl) hc_3 rfl) (by kernel_rfl) ?_
      refine wl_not0 (wg (c := (lt p0_0 (-32768))) (want := false) (by kernel_rfl) hc_3 rfl) (by kernel_rfl) ?_
      refine wl_val (v := .bool true) (w' := w0) (by kernel_rfl) (run_pick_t (v := .bool true) (tr2 (c := (lt p0_0 (-32768))) (by kernel_rfl) hc_3) (by kernel_rfl)) ?_
      refine wl_nil ?_
      exact then_c ⟨true, (fun i => ([.int .i64 p0_0, .bool (lt p0_0 (-32768)), .bool (lt p0_0 (-32768)), undef, undef] : List Value).getD i undef), by kernel_rfl, hL, hB, hm⟩
    · have hm := ite_f hm hc_3
      refine wl_val (v := .int .i64 p0_0) (w' := w0) (wg (c := (lt p0_0 (-32768))) (want := false) (by kernel_rfl) hc_3 rfl) (run_move (v := .int .i64 p0_0) (by kernel_rfl)) ?_
      refine wl_val (v := .bool (ge p0_0 32768)) (w' := w0) (wg (c := (lt p0_0 (-32768))) (want := false) (by kernel_rfl) hc_3 rfl) (run_ge (k := .i64) (a := p0_0) (b := 32768) (by kernel_rfl) (by kernel_rfl)) ?_
      refine wl_val (v := .bool (ge p0_0 32768)) (w' := w0) (by kernel_rfl) (run_pick_f (v := .bool (ge p0_0 32768)) (tr2 (c := (lt p0_0 (-32768))) (by kernel_rfl) hc_3) (by kernel_rfl)) ?_
      refine wl_nil ?_
      exact then_c ⟨(ge p0_0 32768), (fun i => ([.int .i64 p0_0, .bool (lt p0_0 (-32768)), .bool (lt p0_0 (-32768)), .int .i64 p0_0, .bool (ge p0_0 32768)] : List Value).getD i undef), by kernel_rfl, hL, hB, hm⟩
  · intro l1 w_1 hI
    obtain ⟨x_1, u_1, rfl, hL, hB, hm⟩ := hI
    unfold m40_J1 at hm
    refine cw_cond (t := x_1) (by kernel_rfl) (fun hc_2 => ?_) (fun hc_2 => ?_)
    · have hm := ite_t hm hc_2
      refine cw_seq ?_
      refine cw_region ?_
      refine wl_val (v := .int .u16 0) (w' := w_1) (by kernel_rfl) (run_assign (v := .int .u16 0) (by kernel_rfl)) ?_
      refine wl_val (v := .bool false) (w' := w_1) (by kernel_rfl) (run_assign (v := .bool false) (by kernel_rfl)) ?_
      refine wl_nil ?_
      refine then_n ?_
      refine cw_ret ?_
      refine then_ret ?_
      obtain rfl := Option.some.inj hm
      exact ret2 (v := .int .u16 0) (v' := .bool false) rfl (resv_tmp (by kernel_rfl)) (resv_tmp (by kernel_rfl)) ⟨_, rfl, by kernel_rfl, hB⟩
    · have hm := ite_f hm hc_2
      refine cw_skip ?_
      refine then_n ?_
      refine cw_seq ?_
      refine cw_region ?_
      refine wl_val (v := .int .i64 p0_0) (w' := w_1) (by kernel_rfl) (run_move (v := .int .i64 p0_0) (by kernel_rfl)) ?_
      refine wl_val (v := .int .u16 (cvt .u16 p0_0)) (w' := w_1) (by kernel_rfl) (run_cvt (k := .i64) (a := p0_0) Tryd.underlying3 Tryd.underlying35 (by kernel_rfl)) ?_
      refine wl_val (v := .int .u16 (cvt .u16 p0_0)) (w' := w_1) (by kernel_rfl) (run_assign (v := .int .u16 (cvt .u16 p0_0)) (by kernel_rfl)) ?_
      refine wl_val (v := .bool true) (w' := w_1) (by kernel_rfl) (run_assign (v := .bool true) (by kernel_rfl)) ?_
      refine wl_nil ?_
      refine then_n ?_
      refine cw_ret ?_
      obtain rfl := Option.some.inj hm
      exact ret2 (v := .int .u16 (cvt .u16 p0_0)) (v' := .bool true) rfl (resv_tmp (by kernel_rfl)) (resv_tmp (by kernel_rfl)) ⟨_, rfl, by kernel_rfl, hB⟩
end SxYtihfogahdofdmaaDoor

/- Written by program (gen.py): the model of saucier/units.Word, and the proof that its code computes it. -/
namespace SxYtihfogahdofdmaaDoor
open Go Go.RowKit Sx Go.Proofs
set_option linter.unusedVariables false
set_option linter.unusedSimpArgs false
attribute [local irreducible] WL WX CW OW
/-! ### 17: "saucier/units.Word" -/
def m17_J2 (fuel : Nat) (p0_0 : TDec) (p2_0 : Bool) (r_3 : Int) (x_2 : Bool) : Option (Int × Bool) :=
  if x_2 then (some (0, false)) else (if p2_0 then ((m40 fuel (mul .i64 p0_0.N r_3)).bind fun r_4 => some (r_4.1, r_4.2)) else (if (lt (mul .i64 p0_0.N r_3) 0) then (some (0, false)) else (some ((cvt .u16 (mul .i64 p0_0.N r_3)), true))))
def m17_J1 (fuel : Nat) (p0_0 : TDec) (p1_0 : Int) (p2_0 : Bool) (x_1 : Bool) : Option (Int × Bool) :=
  if x_1 then (some (0, false)) else ((m37 fuel (sub .i64 p1_0 (cvt .i64 p0_0.D))).bind fun r_3 => if (lt (mul .i64 p0_0.N r_3) (-32768)) then (m17_J2 fuel p0_0 p2_0 r_3 true) else (m17_J2 fuel p0_0 p2_0 r_3 (ge (mul .i64 p0_0.N r_3) 65536)))
def m17 (fuel : Nat) (p0_0 : TDec) (p1_0 : Int) (p2_0 : Bool) : Option (Int × Bool) :=
  (m14 fuel p0_0).bind fun r_5 => if r_5 then (if (lt p1_0 (cvt .i64 p0_0.D)) then (m17_J1 fuel p0_0 p1_0 p2_0 true) else (m17_J1 fuel p0_0 p1_0 p2_0 (gt p1_0 6))) else (m17_J1 fuel p0_0 p1_0 p2_0 true)
@[reducible] def Q17 (F : Lx) (w0 : World) (r : (Int × Bool)) (v : Value) (w' : World) : Prop := v = .tuple #[.int .u16 r.1, .bool r.2] ∧ Below w0.heap.size w0 w'
set_option maxRecDepth 100000 in
set_option maxHeartbeats 4000000 in
theorem f17_ok (fuel : Nat) (F : Lx) (w0 : World) (hF : ∀ k, some k ∈ F → k < w0.heap.size) {p0_0 : TDec} {p1_0 : Int} {p2_0 : Bool} {r : (Int × Bool)} (hm : m17 fuel p0_0 p1_0 p2_0 = some r) :
    Calls Tryd.prog 17 #[.agg #[.int .i64 p0_0.N, .int .u8 p0_0.D], .int .i64 p1_0, .bool p2_0] w0 (fun e w' => ∃ v, e = .returned v ∧ Q17 F w0 r v w') := by
  have hPF : PF (bodyPost Tryd.prog Tryd.f17 (fun e w' => ∃ v, e = .returned v ∧ Q17 F w0 r v w')) := PF.body (fun c w h => by obtain ⟨v, e, _⟩ := h; cases e)
  have hL := LOk.start hF
  have hB := Below.refl w0.heap.size w0
  unfold m17 at hm
  refine enter (l := [.agg #[.int .i64 p0_0.N, .int .u8 p0_0.D], .int .i64 p1_0, .bool p2_0, undef, undef, undef, undef, undef, undef, undef, undef, undef, undef, undef, undef, undef, undef, undef, undef, undef, undef, undef, undef, undef, undef, undef, undef, undef, undef, undef, undef, undef, undef, undef, undef, undef, undef, undef, undef, undef, undef, undef, undef, undef, undef, undef, undef]) Tryd.func17 rfl Tryd.ntmps17 (by kernel_rfl) ?_
  refine cw_seq ?_
  refine cw_region ?_
  refine wl_op (by kernel_rfl) (ow_box' (v := .agg #[.int .i64 p0_0.N, .int .u8 p0_0.D]) (vs := [.int .i64 p0_0.N, .int .u8 p0_0.D]) (by kernel_rfl) rfl hL ?_)
  intro g_1 w_1 hS h_1
  replace hB := hS.below hL hB
  replace hL := hS.hL
  refine wl_val (v := .int .u16 0) (w' := w_1) (by kernel_rfl) (run_assign (v := .int .u16 0) (by kernel_rfl)) ?_
  refine wl_val (v := .bool false) (w' := w_1) (by kernel_rfl) (run_assign (v := .bool false) (by kernel_rfl)) ?_
  refine wl_nil ?_
  refine then_n ?_
  refine cw_seq ?_
  refine cw_cut (fun l' w' => ∃ x_1, ∃ u_1 : Nat → Value, l' = [.agg #[.int .i64 p0_0.N, .int .u8 p0_0.D], .int .i64 p1_0, .bool p2_0, .pointer (some ⟨g_1, 0, none⟩), undef, undef, .int .u16 0, .bool false, undef, (u_1 0), (u_1 1), (u_1 2), (u_1 3), (u_1 4), (u_1 5), (u_1 6), (u_1 7), (u_1 8), (u_1 9), (u_1 10), (u_1 11), (u_1 12), .bool x_1, undef, undef, undef, undef, undef, undef, undef, undef, undef, undef, undef, undef, undef, undef, undef, undef, undef, undef, undef, undef, undef, undef, undef, undef] ∧ LOk w0.heap.size [some g_1] F w' ∧ Below w0.heap.size w0 w' ∧ Bx w' g_1 [.int .i64 p0_0.N, .int .u8 p0_0.D] 23 ∧ m17_J1 fuel p0_0 p1_0 p2_0 x_1 = some r) ?_ ?_
  · refine cw_region ?_
    refine wl_val (v := .agg #[.int .i64 p0_0.N, .int .u8 p0_0.D]) (w' := w_1) (by kernel_rfl) (run_load_boxn (j := 0) (vs := [.int .i64 p0_0.N, .int .u8 p0_0.D]) Tryd.underlying23 rfl sz_23 (by kernel_rfl) h_1 (by kernel_rfl) rfl) ?_
    obtain ⟨r_5, h_6, hm⟩ := bind_e hm
    refine wl_op (by kernel_rfl) (ow_enter (run_callf (vs := [.agg #[.int .i64 p0_0.N, .int .u8 p0_0.D]]) Tryd.func14 nm_14 (by kernel_rfl) (by kernel_rfl)) (f14_ok (p0_0 := p0_0) fuel _ w_1 hL.lt  h_6) ?_)
    intro vR w_9 hR
    obtain ⟨rfl, hBe⟩ := hR
    have hS := Stp.call hL (Fz.of_below hBe [])
    replace h_1 := hS.box h_1 nilN
    replace hB := hS.below hL hB
    replace hL := hS.hL
    refine wl_val (v := .bool (!r_5)) (w' := w_9) (by kernel_rfl) (run_not (b := r_5) (by kernel_rfl)) ?_
    refine wl_val (v := .bool (!r_5)) (w' := w_9) (by kernel_rfl) (run_move (v := .bool (!r_5)) (by kernel_rfl)) ?_
    rcases Bool.eq_false_or_eq_true r_5 with hc_9 | hc_9
    · have hm := ite_t hm hc_9
      refine wl_val (v := .int .i64 p1_0) (w' := w_9) (wg (c := (!r_5)) (want := false) (by kernel_rfl) (not_t hc_9) rfl) (run_move (v := .int .i64 p1_0) (by kernel_rfl)) ?_
      refine wl_val (v := .pointer (some ⟨g_1, 1, none⟩)) (w' := w_9) (wg (c := (!r_5)) (want := false) (by kernel_rfl) (not_t hc_9) rfl) (run_fieldAddr (b := g_1) (o := 0) fo_23_1 (by kernel_rfl)) ?_
      refine wl_val (v := .int .u8 p0_0.D) (w' := w_9) (wg (c := (!r_5)) (want := false) (by kernel_rfl) (not_t hc_9) rfl) (run_load_box1 (j := 1) Tryd.underlying5 rfl (by kernel_rfl) h_1 (by kernel_rfl)) ?_
      refine wl_val (v := .int .i64 (cvt .i64 p0_0.D)) (w' := w_9) (wg (c := (!r_5)) (want := false) (by kernel_rfl) (not_t hc_9) rfl) (run_cvt (k := .u8) (a := p0_0.D) Tryd.underlying5 Tryd.underlying3 (by kernel_rfl)) ?_
      refine wl_norm [.agg #[.int .i64 p0_0.N, .int .u8 p0_0.D], .int .i64 p1_0, .bool p2_0, .pointer (some ⟨g_1, 0, none⟩), undef, undef, .int .u16 0, .bool false, undef, .agg #[.int .i64 p0_0.N, .int .u8 p0_0.D], .bool r_5, .bool (!r_5), .bool (!r_5), .int .i64 p1_0, .pointer (some ⟨g_1, 1, none⟩), .int .u8 p0_0.D, .int .i64 (cvt .i64 p0_0.D), undef, undef, undef, undef, undef, undef, undef, undef, undef, undef, undef, undef, undef, undef, undef, undef, undef, undef, undef, undef, undef, undef, undef, undef, undef, undef, undef, undef, undef, undef] (by kernel_rfl) ?_
      refine wl_val (v := .bool (lt p1_0 (cvt .i64 p0_0.D))) (w' := w_9) (wg (c := (!r_5)) (want := false) (by kernel_rfl) (not_t hc_9) rfl) (run_lt (k := .i64) (a := p1_0) (b := (cvt .i64 p0_0.D)) (by kernel_rfl) (by kernel_rfl)) ?_
      refine wl_val (v := .bool (lt p1_0 (cvt .i64 p0_0.D))) (w' := w_9) (by kernel_rfl) (run_pick_f (v := .bool (lt p1_0 (cvt .i64 p0_0.D))) (tr2 (c := (!r_5)) (by kernel_rfl) (not_t hc_9)) (by kernel_rfl)) ?_
      refine wl_val (v := .bool (lt p1_0 (cvt .i64 p0_0.D))) (w' := w_9) (by kernel_rfl) (run_move (v := .bool (lt p1_0 (cvt .i64 p0_0.D))) (by kernel_rfl)) ?_
      rcases Bool.eq_false_or_eq_true (lt p1_0 (cvt .i64 p0_0.D)) with hc_10 | hc_10
      · have hm := ite_t hm hc_10
        refine wl_not0 (wg (c := (lt p1_0 (cvt .i64 p0_0.D))) (want := false) (by kernel_rfl) hc_10 rfl) (by kernel_rfl) ?_
        refine wl_not0 (wg (c := (lt p1_0 (cvt .i64 p0_0.D))) (want := false) (by kernel_rfl) hc_10 rfl) (by kernel_rfl) ?_
        refine wl_val (v := .bool true) (w' := w_9) (by kernel_rfl) (run_pick_t (v := .bool true) (tr2 (c := (lt p1_0 (cvt .i64 p0_0.D))) (by kernel_rfl) hc_10) (by kernel_rfl)) ?_
        refine wl_nil ?_
        exact then_c ⟨true, (fun i => ([.agg #[.int .i64 p0_0.N, .int .u8 p0_0.D], .bool r_5, .bool (!r_5), .bool (!r_5), .int .i64 p1_0, .pointer (some ⟨g_1, 1, none⟩), .int .u8 p0_0.D, .int .i64 (cvt .i64 p0_0.D), .bool (lt p1_0 (cvt .i64 p0_0.D)), .bool (lt p1_0 (cvt .i64 p0_0.D)), .bool (lt p1_0 (cvt .i64 p0_0.D)), undef, undef] : List Value).getD i undef), by kernel_rfl, hL, hB, h_1, hm⟩
      · have hm := ite_f hm hc_10
        refine wl_val (v := .int .i64 p1_0) (w' := w_9) (wg (c := (lt p1_0 (cvt .i64 p0_0.D))) (want := false) (by kernel_rfl) hc_10 rfl) (run_move (v := .int .i64 p1_0) (by kernel_rfl)) ?_
        refine wl_val (v := .bool (gt p1_0 6)) (w' := w_9) (wg (c := (lt p1_0 (cvt .i64 p0_0.D))) (want := false) (by kernel_rfl) hc_10 rfl) (run_gt (k := .i64) (a := p1_0) (b := 6) (by kernel_rfl) (by kernel_rfl)) ?_
        refine wl_val (v := .bool (gt p1_0 6)) (w' := w_9) (by kernel_rfl) (run_pick_f (v := .bool (gt p1_0 6)) (tr2 (c := (lt p1_0 (cvt .i64 p0_0.D))) (by kernel_rfl) hc_10) (by kernel_rfl)) ?_
        refine wl_nil ?_
        exact then_c ⟨(gt p1_0 6), (fun i => ([.agg #[.int .i64 p0_0.N, .int .u8 p0_0.D], .bool r_5, .bool (!r_5), .bool (!r_5), .int .i64 p1_0, .pointer (some ⟨g_1, 1, none⟩), .int .u8 p0_0.D, .int .i64 (cvt .i64 p0_0.D), .bool (lt p1_0 (cvt .i64 p0_0.D)), .bool (lt p1_0 (cvt .i64 p0_0.D)), .bool (lt p1_0 (cvt .i64 p0_0.D)), .int .i64 p1_0, .bool (gt p1_0 6)] : List Value).getD i undef), by kernel_rfl, hL, hB, h_1, hm⟩
    · have hm := ite_f hm hc_9
      refine wl_not0 (wg (c := (!r_5)) (want := false) (by kernel_rfl) (not_f hc_9) rfl) (by kernel_rfl) ?_
      refine wl_not0 (wg (c := (!r_5)) (want := false) (by kernel_rfl) (not_f hc_9) rfl) (by kernel_rfl) ?_
      refine wl_not0 (wg (c := (!r_5)) (want := false) (by kernel_rfl) (not_f hc_9) rfl) (by kernel_rfl) ?_
      refine wl_not0 (wg (c := (!r_5)) (want := false) (by kernel_rfl) (not_f hc_9) rfl) (by kernel_rfl) ?_
      refine wl_not0 (wg (c := (!r_5)) (want := false) (by kernel_rfl) (not_f hc_9) rfl) (by kernel_rfl) ?_
      refine wl_val (v := .bool true) (w' := w_9) (by kernel_rfl) (run_pick_t (v := .bool true) (tr2 (c := (!r_5)) (by kernel_rfl) (not_f hc_9)) (by kernel_rfl)) ?_
      refine wl_val (v := .bool true) (w' := w_9) (by kernel_rfl) (run_move (v := .bool true) (by kernel_rfl)) ?_
      refine wl_not0 (by kernel_rfl) (by kernel_rfl) ?_
      refine wl_not0 (by kernel_rfl) (by kernel_rfl) ?_
      refine wl_val (v := .bool true) (w' := w_9) (by kernel_rfl) (run_pick_t (v := .bool true) (by kernel_rfl) (by kernel_rfl)) ?_
      refine wl_nil ?_
      exact then_c ⟨true, (fun i => ([.agg #[.int .i64 p0_0.N, .int .u8 p0_0.D], .bool r_5, .bool (!r_5), .bool (!r_5), undef, undef, undef, undef, undef, .bool true, .bool true, undef, undef] : List Value).getD i undef), by kernel_rfl, hL, hB, h_1, hm⟩
  · intro l1 w_3 hI
    obtain ⟨x_1, u_1, rfl, hL, hB, h_1, hm⟩ := hI
    unfold m17_J1 at hm
    refine cw_cond (t := x_1) (by kernel_rfl) (fun hc_3 => ?_) (fun hc_3 => ?_)
    · have hm := ite_t hm hc_3
      refine cw_seq ?_
      refine cw_region ?_
      refine wl_val (v := .int .u16 0) (w' := w_3) (by kernel_rfl) (run_assign (v := .int .u16 0) (by kernel_rfl)) ?_
      refine wl_val (v := .bool false) (w' := w_3) (by kernel_rfl) (run_assign (v := .bool false) (by kernel_rfl)) ?_
      refine wl_nil ?_
      refine then_n ?_
      refine cw_ret ?_
      refine then_ret ?_
      have hS : Stp w0.heap.size _ [] F [] w_3 _ := Stp.pick hL [] rfl (by decide)
      replace hB := hS.below hL hB
      replace hL := hS.hL
      obtain rfl := Option.some.inj hm
      exact ret2 (v := .int .u16 0) (v' := .bool false) rfl (resv_tmp (by kernel_rfl)) (resv_tmp (by kernel_rfl)) ⟨_, rfl, by kernel_rfl, hB⟩
    · have hm := ite_f hm hc_3
      refine cw_skip ?_
      refine then_n ?_
      refine cw_seq ?_
      refine cw_region_draw [(0, true), (1, true), (2, true), (3, true), (4, true), (5, true), (6, true), (7, false), (8, true), (9, true)] (fun x => Fz [] w_3 x) rfl (by kernel_rfl) (PF.then hPF) (Fz.drew _ _) ?_
      have hZ : Fz [] w_3 w_3.drew := Fz.drew _ _
      have hS0 : Stp w0.heap.size [some g_1] [some g_1] F [] w_3 w_3.drew := Stp.call hL (Fz.drew _ _)
      generalize w_3.drew = w_5 at hS0 hZ ⊢
      refine wx_take (v := .pointer (some ⟨g_1, 0, none⟩)) (by kernel_rfl) (fun w' hS => run_fieldAddr (b := g_1) (o := 0) fo_23_0 (by kernel_rfl)) ?_
      refine wx_take (v := .int .i64 p0_0.N) (by kernel_rfl) (fun w' hS => run_load_box1 (j := 0) Tryd.underlying2 rfl (by kernel_rfl) (h_1.step hS nilN) (by kernel_rfl)) ?_
      refine wx_take (v := .int .i64 p1_0) (by kernel_rfl) (fun w' hS => run_move (v := .int .i64 p1_0) (by kernel_rfl)) ?_
      refine wx_take (v := .pointer (some ⟨g_1, 1, none⟩)) (by kernel_rfl) (fun w' hS => run_fieldAddr (b := g_1) (o := 0) fo_23_1 (by kernel_rfl)) ?_
      refine wx_take (v := .int .u8 p0_0.D) (by kernel_rfl) (fun w' hS => run_load_box1 (j := 1) Tryd.underlying5 rfl (by kernel_rfl) (h_1.step hS nilN) (by kernel_rfl)) ?_
      refine wx_take (v := .int .i64 (cvt .i64 p0_0.D)) (by kernel_rfl) (fun w' hS => run_cvt (k := .u8) (a := p0_0.D) Tryd.underlying5 Tryd.underlying3 (by kernel_rfl)) ?_
      refine wx_take (v := .int .i64 (sub .i64 p1_0 (cvt .i64 p0_0.D))) (by kernel_rfl) (fun w' hS => run_sub (k := .i64) (a := p1_0) (b := (cvt .i64 p0_0.D)) (by kernel_rfl) (by kernel_rfl)) ?_
      have h_1b := h_1
      have hLb := hL
      replace h_1 := hS0.box h_1 nilN
      replace hB := hS0.below hL hB
      replace hL := hS0.hL
      obtain ⟨r_3, h_4, hm⟩ := bind_e hm
      refine wx_op (by kernel_rfl) (fun _ => ow_enter (run_callf (vs := [.int .i64 (sub .i64 p1_0 (cvt .i64 p0_0.D))]) Tryd.func37 nm_37 (by kernel_rfl) (by kernel_rfl)) (f37_ok (p0_0 := (sub .i64 p1_0 (cvt .i64 p0_0.D))) fuel _ w_5 hL.lt  h_4) ?_)
      intro vR w_6 hR
      obtain ⟨rfl, hBe⟩ := hR
      have hS := Stp.call hL (Fz.of_below hBe [])
      replace hZ := hZ.trans (hS.hf.sub nilM)
      refine ⟨hZ, ?_⟩
      replace h_1 := hS.box h_1 nilN
      replace hB := hS.below hL hB
      replace hL := hS.hL
      refine wx_take (v := .int .i64 (mul .i64 p0_0.N r_3)) (by kernel_rfl) (fun w' hS => run_mul (k := .i64) (a := p0_0.N) (b := r_3) (by kernel_rfl) (by kernel_rfl)) ?_
      refine wx_take (v := .int .i64 (mul .i64 p0_0.N r_3)) (by kernel_rfl) (fun w' hS => run_assign (v := .int .i64 (mul .i64 p0_0.N r_3)) (by kernel_rfl)) ?_
      refine wx_nil ?_
      refine then_n ?_
      refine cw_seq ?_
      refine cw_cut (fun l' w' => ∃ x_2, ∃ u_2 : Nat → Value, l' = [.agg #[.int .i64 p0_0.N, .int .u8 p0_0.D], .int .i64 p1_0, .bool p2_0, .pointer (some ⟨g_1, 0, none⟩), undef, undef, .int .u16 0, .bool false, .int .i64 (mul .i64 p0_0.N r_3), (u_1 0), (u_1 1), (u_1 2), (u_1 3), (u_1 4), (u_1 5), (u_1 6), (u_1 7), (u_1 8), (u_1 9), (u_1 10), (u_1 11), (u_1 12), .bool x_1, .pointer (some ⟨g_1, 0, none⟩), .int .i64 p0_0.N, .int .i64 p1_0, .pointer (some ⟨g_1, 1, none⟩), .int .u8 p0_0.D, .int .i64 (cvt .i64 p0_0.D), .int .i64 (sub .i64 p1_0 (cvt .i64 p0_0.D)), .int .i64 r_3, .int .i64 (mul .i64 p0_0.N r_3), (u_2 0), (u_2 1), (u_2 2), (u_2 3), (u_2 4), .bool x_2, undef, undef, undef, undef, undef, undef, undef, undef, undef] ∧ LOk w0.heap.size [] F w' ∧ Below w0.heap.size w0 w' ∧ m17_J2 fuel p0_0 p2_0 r_3 x_2 = some r) ?_ ?_
      · refine cw_region ?_
        refine wl_val (v := .int .i64 (mul .i64 p0_0.N r_3)) (w' := w_6) (by kernel_rfl) (run_move (v := .int .i64 (mul .i64 p0_0.N r_3)) (by kernel_rfl)) ?_
        refine wl_val (v := .bool (lt (mul .i64 p0_0.N r_3) (-32768))) (w' := w_6) (by kernel_rfl) (run_lt (k := .i64) (a := (mul .i64 p0_0.N r_3)) (b := (-32768)) (by kernel_rfl) (by kernel_rfl)) ?_
        refine wl_val (v := .bool (lt (mul .i64 p0_0.N r_3) (-32768))) (w' := w_6) (by kernel_rfl) (run_move (v := .bool (lt (mul .i64 p0_0.N r_3) (-32768))) (by kernel_rfl)) ?_
        refine wl_norm [.agg #[.int .i64 p0_0.N, .int .u8 p0_0.D], .int .i64 p1_0, .bool p2_0, .pointer (some ⟨g_1, 0, none⟩), undef, undef, .int .u16 0, .bool false, .int .i64 (mul .i64 p0_0.N r_3), (u_1 0), (u_1 1), (u_1 2), (u_1 3), (u_1 4), (u_1 5), (u_1 6), (u_1 7), (u_1 8), (u_1 9), (u_1 10), (u_1 11), (u_1 12), .bool x_1, .pointer (some ⟨g_1, 0, none⟩), .int .i64 p0_0.N, .int .i64 p1_0, .pointer (some ⟨g_1, 1, none⟩), .int .u8 p0_0.D, .int .i64 (cvt .i64 p0_0.D), .int .i64 (sub .i64 p1_0 (cvt .i64 p0_0.D)), .int .i64 r_3, .int .i64 (mul .i64 p0_0.N r_3), .int .i64 (mul .i64 p0_0.N r_3), .bool (lt (mul .i64 p0_0.N r_3) (-32768)), .bool (lt (mul .i64 p0_0.N r_3) (-32768)), undef, undef, undef, undef, undef, undef, undef, undef, undef, undef, undef, undef] (by kernel_rfl) ?_
        rcases Bool.eq_false_or_eq_true (lt (mul .i64 p0_0.N r_3) (-32768)) with hc_8 | hc_8
        · have hm := ite_t hm hc_8
          refine wl_not0 (wg (c := (lt (mul .i64 p0_0.N r_3) (-32768))) (want := false) (by kernel_rfl) hc_8 rfl) (by kernel_rfl) ?_
          refine wl_not0 (wg (c := (lt (mul .i64 p0_0.N r_3) (-32768))) (want := false) (by kernel_rfl) hc_8 rfl) (by kernel_rfl) ?_
          refine wl_val (v := .bool true) (w' := w_6) (by kernel_rfl) (run_pick_t (v := .bool true) (tr2 (c := (lt (mul .i64 p0_0.N r_3) (-32768))) (by kernel_rfl) hc_8) (by kernel_rfl)) ?_
          refine wl_nil ?_
          have hS : Stp w0.heap.size _ [] F [] w_6 _ := Stp.pick hL [] rfl (by decide)
          replace hB := hS.below hL hB
          replace hL := hS.hL
          exact then_c ⟨true, (fun i => ([.int .i64 (mul .i64 p0_0.N r_3), .bool (lt (mul .i64 p0_0.N r_3) (-32768)), .bool (lt (mul .i64 p0_0.N r_3) (-32768)), undef, undef] : List Value).getD i undef), by kernel_rfl, hL, hB, hm⟩
        · have hm := ite_f hm hc_8
          refine wl_val (v := .int .i64 (mul .i64 p0_0.N r_3)) (w' := w_6) (wg (c := (lt (mul .i64 p0_0.N r_3) (-32768))) (want := false) (by kernel_rfl) hc_8 rfl) (run_move (v := .int .i64 (mul .i64 p0_0.N r_3)) (by kernel_rfl)) ?_
          refine wl_val (v := .bool (ge (mul .i64 p0_0.N r_3) 65536)) (w' := w_6) (wg (c := (lt (mul .i64 p0_0.N r_3) (-32768))) (want := false) (by kernel_rfl) hc_8 rfl) (run_ge (k := .i64) (a := (mul .i64 p0_0.N r_3)) (b := 65536) (by kernel_rfl) (by kernel_rfl)) ?_
          refine wl_val (v := .bool (ge (mul .i64 p0_0.N r_3) 65536)) (w' := w_6) (by kernel_rfl) (run_pick_f (v := .bool (ge (mul .i64 p0_0.N r_3) 65536)) (tr2 (c := (lt (mul .i64 p0_0.N r_3) (-32768))) (by kernel_rfl) hc_8) (by kernel_rfl)) ?_
          refine wl_nil ?_
          have hS : Stp w0.heap.size _ [] F [] w_6 _ := Stp.pick hL [] rfl (by decide)
          replace hB := hS.below hL hB
          replace hL := hS.hL
          exact then_c ⟨(ge (mul .i64 p0_0.N r_3) 65536), (fun i => ([.int .i64 (mul .i64 p0_0.N r_3), .bool (lt (mul .i64 p0_0.N r_3) (-32768)), .bool (lt (mul .i64 p0_0.N r_3) (-32768)), .int .i64 (mul .i64 p0_0.N r_3), .bool (ge (mul .i64 p0_0.N r_3) 65536)] : List Value).getD i undef), by kernel_rfl, hL, hB, hm⟩
      · intro l1 w_7 hI
        obtain ⟨x_2, u_2, rfl, hL, hB, hm⟩ := hI
        unfold m17_J2 at hm
        refine cw_cond (t := x_2) (by kernel_rfl) (fun hc_5 => ?_) (fun hc_5 => ?_)
        · have hm := ite_t hm hc_5
          refine cw_seq ?_
          refine cw_region ?_
          refine wl_val (v := .int .u16 0) (w' := w_7) (by kernel_rfl) (run_assign (v := .int .u16 0) (by kernel_rfl)) ?_
          refine wl_val (v := .bool false) (w' := w_7) (by kernel_rfl) (run_assign (v := .bool false) (by kernel_rfl)) ?_
          refine wl_nil ?_
          refine then_n ?_
          refine cw_ret ?_
          refine then_ret ?_
          obtain rfl := Option.some.inj hm
          exact ret2 (v := .int .u16 0) (v' := .bool false) rfl (resv_tmp (by kernel_rfl)) (resv_tmp (by kernel_rfl)) ⟨_, rfl, by kernel_rfl, hB⟩
        · have hm := ite_f hm hc_5
          refine cw_skip ?_
          refine then_n ?_
          refine cw_seq ?_
          refine cw_seq ?_
          refine cw_region ?_
          refine wl_val (v := .bool p2_0) (w' := w_7) (by kernel_rfl) (run_move (v := .bool p2_0) (by kernel_rfl)) ?_
          refine wl_nil ?_
          refine then_n ?_
          refine cw_cond (t := p2_0) (by kernel_rfl) (fun hc_6 => ?_) (fun hc_6 => ?_)
          · have hm := ite_t hm hc_6
            refine cw_seq ?_
            refine cw_region ?_
            refine wl_val (v := .int .i64 (mul .i64 p0_0.N r_3)) (w' := w_7) (by kernel_rfl) (run_move (v := .int .i64 (mul .i64 p0_0.N r_3)) (by kernel_rfl)) ?_
            obtain ⟨r_4, h_5, hm⟩ := bind_e hm
            refine wl_op (by kernel_rfl) (ow_enter (run_callf (vs := [.int .i64 (mul .i64 p0_0.N r_3)]) Tryd.func40 nm_40 (by kernel_rfl) (by kernel_rfl)) (f40_ok (p0_0 := (mul .i64 p0_0.N r_3)) fuel _ w_7 hL.lt  h_5) ?_)
            intro vR w_8 hR
            obtain ⟨rfl, hBe⟩ := hR
            have hS := Stp.call hL (Fz.of_below hBe [])
            replace hB := hS.below hL hB
            replace hL := hS.hL
            refine wl_val (v := .int .u16 r_4.1) (w' := w_8) (by kernel_rfl) (run_extract (vs := #[.int .u16 r_4.1, .bool r_4.2]) (by kernel_rfl) (by kernel_rfl)) ?_
            refine wl_val (v := .bool r_4.2) (w' := w_8) (by kernel_rfl) (run_extract (vs := #[.int .u16 r_4.1, .bool r_4.2]) (by kernel_rfl) (by kernel_rfl)) ?_
            refine wl_val (v := .int .u16 r_4.1) (w' := w_8) (by kernel_rfl) (run_assign (v := .int .u16 r_4.1) (by kernel_rfl)) ?_
            refine wl_val (v := .bool r_4.2) (w' := w_8) (by kernel_rfl) (run_assign (v := .bool r_4.2) (by kernel_rfl)) ?_
            refine wl_nil ?_
            refine then_n ?_
            refine cw_ret ?_
            refine then_ret ?_
            obtain rfl := Option.some.inj hm
            exact ret2 (v := .int .u16 r_4.1) (v' := .bool r_4.2) rfl (resv_tmp (by kernel_rfl)) (resv_tmp (by kernel_rfl)) ⟨_, rfl, by kernel_rfl, hB⟩
          · have hm := ite_f hm hc_6
            refine cw_skip ?_
            refine then_n ?_
            refine cw_seq ?_
            refine cw_seq ?_
            refine cw_region ?_
            refine wl_val (v := .int .i64 (mul .i64 p0_0.N r_3)) (w' := w_7) (by kernel_rfl) (run_move (v := .int .i64 (mul .i64 p0_0.N r_3)) (by kernel_rfl)) ?_
            refine wl_val (v := .bool (lt (mul .i64 p0_0.N r_3) 0)) (w' := w_7) (by kernel_rfl) (run_lt (k := .i64) (a := (mul .i64 p0_0.N r_3)) (b := 0) (by kernel_rfl) (by kernel_rfl)) ?_
            refine wl_nil ?_
            refine then_n ?_
            refine cw_cond (t := (lt (mul .i64 p0_0.N r_3) 0)) (by kernel_rfl) (fun hc_7 => ?_) (fun hc_7 => ?_)
            · have hm := ite_t hm hc_7
              refine cw_seq ?_
              refine cw_region ?_
              refine wl_val (v := .int .u16 0) (w' := w_7) (by kernel_rfl) (run_assign (v := .int .u16 0) (by kernel_rfl)) ?_
              refine wl_val (v := .bool false) (w' := w_7) (by kernel_rfl) (run_assign (v := .bool false) (by kernel_rfl)) ?_
              refine wl_nil ?_
              refine then_n ?_
              refine cw_ret ?_
              refine then_ret ?_
              obtain rfl := Option.some.inj hm
              exact ret2 (v := .int .u16 0) (v' := .bool false) rfl (resv_tmp (by kernel_rfl)) (resv_tmp (by kernel_rfl)) ⟨_, rfl, by kernel_rfl, hB⟩
            · have hm := ite_f hm hc_7
              refine cw_skip ?_
              refine then_n ?_
              refine cw_seq ?_
              refine cw_region ?_
              refine wl_val (v := .int .i64 (mul .i64 p0_0.N r_3)) (w' := w_7) (by kernel_rfl) (run_move (v := .int .i64 (mul .i64 p0_0.N r_3)) (by kernel_rfl)) ?_
              refine wl_val (v := .int .u16 (cvt .u16 (mul .i64 p0_0.N r_3))) (w' := w_7) (by kernel_rfl) (run_cvt (k := .i64) (a := (mul .i64 p0_0.N r_3)) Tryd.underlying2 Tryd.underlying35 (by kernel_rfl)) ?_
              refine wl_val (v := .int .u16 (cvt .u16 (mul .i64 p0_0.N r_3))) (w' := w_7) (by kernel_rfl) (run_assign (v := .int .u16 (cvt .u16 (mul .i64 p0_0.N r_3))) (by kernel_rfl)) ?_
              refine wl_val (v := .bool true) (w' := w_7) (by kernel_rfl) (run_assign (v := .bool true) (by kernel_rfl)) ?_
              refine wl_nil ?_
              refine then_n ?_
              refine cw_ret ?_
              obtain rfl := Option.some.inj hm
              exact ret2 (v := .int .u16 (cvt .u16 (mul .i64 p0_0.N r_3))) (v' := .bool true) rfl (resv_tmp (by kernel_rfl)) (resv_tmp (by kernel_rfl)) ⟨_, rfl, by kernel_rfl, hB⟩
end SxYtihfogahdofdmaaDoor

/- Plain laws of decimals: powers of ten, what is left without the last noughts. -/
namespace SxYtihfogahdofdmaaDoor
open Go Sx

theorem wrap64 {x : Int} (h1 : -9223372036854775808 ≤ x) (h2 : x ≤ 9223372036854775807) : IntKind.i64.wrap x = x := by
  simp only [IntKind.wrap, IntKind.signed, IntKind.bits]
  simp
  omega
theorem wrapu8 {x : Int} (h1 : 0 ≤ x) (h2 : x ≤ 255) : IntKind.u8.wrap x = x := by
  simp only [IntKind.wrap, IntKind.signed, IntKind.bits]
  simp
  omega
theorem wrapu16 {x : Int} : IntKind.u16.wrap x = x % 65536 := by
  simp only [IntKind.wrap, IntKind.signed, IntKind.bits]
  simp
/-- powers of ten -/
def p10 : Nat → Int
  | 0 => 1
  | n + 1 => 10 * p10 n
theorem m37_eq : ∀ n : Nat, n ≤ 6 → m37 64 (n : Int) = some (p10 n)
  | 0, _ => by kernel_rfl
  | 1, _ => by kernel_rfl
  | 2, _ => by kernel_rfl
  | 3, _ => by kernel_rfl
  | 4, _ => by kernel_rfl
  | 5, _ => by kernel_rfl
  | 6, _ => by kernel_rfl
  | n + 7, h => by omega
theorem p10_pos : ∀ n, 0 < p10 n
  | 0 => by decide
  | n + 1 => by have := p10_pos n; simp only [p10]; omega
theorem p10_add : ∀ a b, p10 (a + b) = p10 a * p10 b
  | a, 0 => by simp [p10]
  | a, b + 1 => by rw [← Nat.add_assoc, p10, p10, p10_add a b, Int.mul_left_comm]
def strip : Nat → Int → Nat × Int
  | 0, n => (0, n)
  | k + 1, n => if n.tmod 10 = 0 then strip k (n.tdiv 10) else (k + 1, n)
theorem strip_spec : ∀ k n, (strip k n).1 ≤ k ∧ n = (strip k n).2 * p10 (k - (strip k n).1) ∧ ((strip k n).1 = 0 ∨ (strip k n).2.tmod 10 ≠ 0)
  | 0, n => by simp [strip, p10]
  | k + 1, n => by
    unfold strip
    split
    · rename_i h
      obtain ⟨h1, h2, h3⟩ := strip_spec k (n.tdiv 10)
      refine ⟨by omega, ?_, h3⟩
      have e : k + 1 - (strip k (n.tdiv 10)).1 = (k - (strip k (n.tdiv 10)).1) + 1 := by omega
      have hd : n = 10 * n.tdiv 10 := by have := Int.mul_tdiv_add_tmod n 10; omega
      rw [e, p10, Int.mul_left_comm, ← h2]
      exact hd
    · exact ⟨Nat.le_refl _, by simp [p10], .inr ‹_›⟩
theorem strip_abs (k : Nat) (n B : Int) (h : -B ≤ n ∧ n ≤ B) : -B ≤ (strip k n).2 ∧ (strip k n).2 ≤ B := by
  induction k generalizing n with
  | zero => exact h
  | succ k ih =>
    unfold strip
    split
    · apply ih
      have := Int.mul_tdiv_add_tmod n 10
      omega
    · exact h
/-- a decimal of the model is right -/
def RightD (d : TDec) : Prop := -1000000000000 ≤ d.N ∧ d.N ≤ 1000000000000 ∧ 0 ≤ d.D ∧ d.D ≤ 6 ∧ (d.D = 0 ∨ d.N.tmod 10 ≠ 0)
theorem m14_right {d : TDec} (h : RightD d) : m14 64 d = some true := by
  obtain ⟨h1, h2, h3, h4, h5⟩ := h
  unfold m14
  simp only [m14_J1, ge, le, eqi, nei, rem]
  rcases h5 with h5 | h5 <;> simp [h1, h2, h4, h5]
theorem m14_any {d : TDec} (hD : 0 ≤ d.D) : ∃ b, m14 64 d = some b ∧ (b = true ↔ RightD d) := by
  by_cases h : RightD d
  · exact ⟨true, m14_right h, by simp [h]⟩
  · refine ⟨false, ?_, by simp [h]⟩
    unfold m14
    simp only [m14_J1, ge, le, eqi, nei, rem]
    unfold RightD at h
    by_cases h1 : d.N ≥ -1000000000000
    · by_cases h2 : d.N ≤ 1000000000000
      · by_cases h4 : d.D ≤ 6
        · by_cases h5 : d.D = 0
          · exact absurd ⟨h1, h2, hD, h4, .inl h5⟩ h
          · by_cases h6 : d.N.tmod 10 = 0
            · simp [h1, h2, h4, h5, h6]
            · exact absurd ⟨h1, h2, hD, h4, .inr h6⟩ h
        · simp [h1, h2, h4]
      · simp [h1, h2]
    · simp [h1]
/-- normal forms are one -/
theorem right_one {a b : TDec} {K : Nat} (ha : RightD a) (hb : RightD b) (hKa : a.D.toNat ≤ K) (hKb : b.D.toNat ≤ K) (h : a.N * p10 (K - a.D.toNat) = b.N * p10 (K - b.D.toNat)) : a = b := by
  have key : ∀ {x y : TDec}, RightD x → RightD y → x.D.toNat ≤ K → y.D.toNat ≤ K → x.N * p10 (K - x.D.toNat) = y.N * p10 (K - y.D.toNat) → ¬ x.D.toNat < y.D.toNat := by
    intro x y hx hy hKx hKy he hlt
    have e1 : K - x.D.toNat = (K - y.D.toNat) + (y.D.toNat - x.D.toNat - 1) + 1 := by omega
    rw [e1, p10, p10_add] at he
    have e2 : x.N * (10 * (p10 (K - y.D.toNat) * p10 (y.D.toNat - x.D.toNat - 1))) = (10 * (x.N * p10 (y.D.toNat - x.D.toNat - 1))) * p10 (K - y.D.toNat) := by
      rw [Int.mul_left_comm x.N 10, Int.mul_assoc 10, Int.mul_assoc x.N, Int.mul_comm (p10 (K - y.D.toNat))]
    rw [e2] at he
    have e3 := Int.eq_of_mul_eq_mul_right (Int.ne_of_gt (p10_pos _)) he
    obtain ⟨_, _, h3, _, h5⟩ := hy
    rcases h5 with h5 | h5
    · omega
    · apply h5
      rw [← e3]
      exact Int.mul_tmod_right _ _
  have h1 := key ha hb hKa hKb h
  have h2 := key hb ha hKb hKa h.symm
  have hD : a.D.toNat = b.D.toNat := by omega
  have hD' : a.D = b.D := by
    have := ha.2.2.1
    have := hb.2.2.1
    omega
  rw [hD] at h
  have hN := Int.eq_of_mul_eq_mul_right (Int.ne_of_gt (p10_pos _)) h
  cases a; cases b
  simp_all
end SxYtihfogahdofdmaaDoor

/- What Worth, Word and some compute. -/
namespace SxYtihfogahdofdmaaDoor
open Go Sx
theorem tm10 (x : Int) : 10 * x.tdiv 10 + x.tmod 10 = x ∧ -10 < x.tmod 10 ∧ x.tmod 10 < 10 :=
  ⟨Int.mul_tdiv_add_tmod x 10, Int.lt_tmod_of_pos x (by decide), Int.tmod_lt_of_pos x (by decide)⟩
theorem quo10 {x : Int} (h1 : -9000000000000000000 ≤ x) (h2 : x ≤ 9000000000000000000) : quo .i64 x 10 = x.tdiv 10 := by
  unfold quo
  have := tm10 x
  exact wrap64 (by omega) (by omega)
theorem cvt_u8 (n : Nat) (h : n ≤ 6) : cvt .u8 (n : Int) = n := wrapu8 (by omega) (by omega)
theorem m16_loop : ∀ (n : Nat) (m : Nat) (v : Int), n ≤ 6 → n < m → -9000000000000000000 ≤ v → v ≤ 9000000000000000000 →
    loopF (m16_L4 64) m ((n : Int), v) = some ((⟨(strip n v).2, ((strip n v).1 : Nat)⟩ : TDec), true)
  | n, 0, v, _, h, _, _ => by omega
  | 0, m + 1, v, _, _, _, _ => by
    simp only [loopF, m16_L4, m16_J5, m16_J3, gt, strip]
    simp [cvt, IntKind.wrap, IntKind.signed, IntKind.bits]
  | n + 1, m + 1, v, h6, hm, h1, h2 => by
    have hs : sub .i64 ((n + 1 : Nat) : Int) 1 = (n : Int) := by
      unfold sub
      rw [wrap64 (by omega) (by omega)]
      omega
    have hb := tm10 v
    have ih := m16_loop n m (v.tdiv 10) (by omega) (by omega) (by omega) (by omega)
    have hg : gt ((n + 1 : Nat) : Int) 0 = true := decide_eq_true (by omega)
    simp only [loopF, m16_L4, m16_J5, m16_J3, hg, if_true, eqi, rem, hs, quo10 h1 h2, strip]
    by_cases h : v.tmod 10 = 0
    · simp only [h, beq_self_eq_true, if_true, ih]
    · have hc := cvt_u8 (n + 1) h6
      simp [h]
      simpa using hc
/-- what a register stands for -/
def val (w : Int) (s : Bool) : Int := if s then (if w < 32768 then w else w - 65536) else w
theorem m39_eq {w : Int} (h1 : 0 ≤ w) (h2 : w ≤ 65535) : m39 64 w = some (val w true) := by
  unfold m39 val cvt
  simp only [IntKind.wrap, IntKind.signed, IntKind.bits]
  simp
  split <;> omega
theorem m16_eq {w : Int} {n : Nat} (s : Bool) (h1 : 0 ≤ w) (h2 : w ≤ 65535) (hn : n ≤ 6) :
    m16 64 w n s = some ((⟨(strip n (val w s)).2, ((strip n (val w s)).1 : Nat)⟩ : TDec), true) := by
  have e1 : lt (n : Int) 0 = false := by simp [lt]
  have e2 : gt (n : Int) 6 = false := by simp [gt]; omega
  have hv : -65536 ≤ val w s ∧ val w s ≤ 65535 := by unfold val; split <;> (try split) <;> omega
  have hl := m16_loop n 64 (val w s) hn (by omega) (by omega) (by omega)
  unfold m16
  simp only [e1, e2, m16_J1, if_false, Bool.false_eq_true]
  cases s
  · have : cvt .i64 w = w := wrap64 (by omega) (by omega)
    simp only [Bool.false_eq_true, if_false, m16_J2, this]
    exact hl
  · simp only [if_true, m39_eq h1 h2, Option.bind_some, m16_J2]
    exact hl
theorem strip_right {n : Nat} {v : Int} (hn : n ≤ 6) (h1 : -1000000000000 ≤ v) (h2 : v ≤ 1000000000000) : RightD ⟨(strip n v).2, ((strip n v).1 : Nat)⟩ := by
  obtain ⟨h3, _, h5⟩ := strip_spec n v
  have h6 := strip_abs n v 1000000000000 ⟨h1, h2⟩
  refine ⟨h6.1, h6.2, by simp, by simp; omega, ?_⟩
  rcases h5 with h5 | h5
  · exact .inl (by simp [h5])
  · exact .inr h5
end SxYtihfogahdofdmaaDoor

/- Word, Cmp, some. -/
namespace SxYtihfogahdofdmaaDoor
open Go Sx
theorem p10_le : ∀ n, n ≤ 6 → p10 n ≤ 1000000
  | 0, _ => by decide
  | 1, _ => by decide
  | 2, _ => by decide
  | 3, _ => by decide
  | 4, _ => by decide
  | 5, _ => by decide
  | 6, _ => by decide
  | n + 7, h => by omega
theorem mulB {a b A B : Int} (ha : -A ≤ a ∧ a ≤ A) (hb : 0 ≤ b ∧ b ≤ B) (hA : 0 ≤ A) : -(A * B) ≤ a * b ∧ a * b ≤ A * B := by
  have h1 : a * b ≤ A * b := Int.mul_le_mul_of_nonneg_right ha.2 hb.1
  have h2 : A * b ≤ A * B := Int.mul_le_mul_of_nonneg_left hb.2 hA
  have h3 : -A * b ≤ a * b := Int.mul_le_mul_of_nonneg_right ha.1 hb.1
  rw [Int.neg_mul] at h3
  omega
theorem right_mul {d : TDec} (h : RightD d) {n : Nat} (hn : n ≤ 6) : mul .i64 d.N (p10 n) = d.N * p10 n ∧ -1000000000000000000 ≤ d.N * p10 n ∧ d.N * p10 n ≤ 1000000000000000000 := by
  have := mulB (a := d.N) (b := p10 n) (A := 1000000000000) (B := 1000000) ⟨h.1, h.2.1⟩ ⟨Int.le_of_lt (p10_pos n), p10_le n hn⟩ (by decide)
  refine ⟨wrap64 (by omega) (by omega), by omega, by omega⟩
def wordOf (X : Int) (s : Bool) : Int × Bool :=
  if (if s then -32768 ≤ X ∧ X ≤ 32767 else 0 ≤ X ∧ X ≤ 65535) then (X % 65536, true) else (0, false)
theorem cvt16 (X : Int) : cvt .u16 X = X % 65536 := wrapu16
theorem m40_eq (X : Int) : m40 64 X = some (wordOf X true) := by
  unfold m40 wordOf
  simp only [m40_J1, lt, ge, cvt16]
  by_cases h1 : X < -32768
  · have : ¬ (-32768 ≤ X ∧ X ≤ 32767) := by omega
    simp [h1, this]
  · by_cases h2 : X ≥ 32768
    · have : ¬ (-32768 ≤ X ∧ X ≤ 32767) := by omega
      simp [h1, h2, this]
    · have : (-32768 ≤ X ∧ X ≤ 32767) := by omega
      simp [h1, h2, this]
theorem cvt64 {x : Int} (h1 : -9000000000000000000 ≤ x) (h2 : x ≤ 9000000000000000000) : cvt .i64 x = x := wrap64 (by omega) (by omega)
theorem m17_eq {d : TDec} (h : RightD d) {n : Nat} (s : Bool) (hn : n ≤ 6) (hD : d.D.toNat ≤ n) : m17 64 d n s = some (wordOf (d.N * p10 (n - d.D.toNat)) s) := by
  have h0 := h.2.2.1
  have h6 := h.2.2.2.1
  have e1 : lt (n : Int) (cvt .i64 d.D) = false := by
    rw [cvt64 (by omega) (by omega)]
    exact decide_eq_false (by omega)
  have e2 : gt (n : Int) 6 = false := decide_eq_false (by omega)
  have e3 : sub .i64 (n : Int) (cvt .i64 d.D) = ((n - d.D.toNat : Nat) : Int) := by
    rw [cvt64 (by omega) (by omega)]
    unfold sub
    rw [wrap64 (by omega) (by omega)]
    omega
  obtain ⟨e4, b1, b2⟩ := right_mul h (n := n - d.D.toNat) (by omega)
  unfold m17
  simp only [m14_right h, Option.bind_some, if_true, e1, e2, Bool.false_eq_true, if_false, m17_J1, e3, m37_eq _ (show n - d.D.toNat ≤ 6 by omega), e4, m17_J2, m40_eq, cvt16]
  generalize d.N * p10 (n - d.D.toNat) = X at b1 b2
  by_cases q1 : X < -32768
  · have q : wordOf X s = (0, false) := by
      unfold wordOf
      rw [if_neg (by cases s <;> simp <;> omega)]
    simp [lt, q1, q]
  · by_cases q2 : X ≥ 65536
    · have q : wordOf X s = (0, false) := by
        unfold wordOf
        rw [if_neg (by cases s <;> simp <;> omega)]
      simp [lt, ge, q1, q2, q]
    · cases s
      · by_cases q3 : X < 0
        · have q : wordOf X false = (0, false) := by
            unfold wordOf
            rw [if_neg (by simp; omega)]
          simp [lt, ge, q1, q2, q, q3]
        · have q : wordOf X false = (X % 65536, true) := by
            unfold wordOf
            rw [if_pos (by simp; omega)]
          simp [lt, ge, q1, q2, q, q3]
      · simp [lt, ge, q1, q2]
theorem m17_far {d : TDec} (h : RightD d) {n : Int} (s : Bool) (hn : n < d.D ∨ 6 < n) (hb : -1000 ≤ n ∧ n ≤ 1000) : m17 64 d n s = some (0, false) := by
  have h0 := h.2.2.1
  have h6 := h.2.2.2.1
  unfold m17
  simp only [m14_right h, Option.bind_some, if_true, cvt64 (x := d.D) (by omega) (by omega)]
  by_cases q : n < d.D
  · simp [lt, q, m17_J1]
  · have q2 : 6 < n := by omega
    simp [lt, gt, q, q2, m17_J1]
/-- Cmp of right ones -/
theorem m15_eq {a b : TDec} (ha : RightD a) (hb : RightD b) :
    m15 64 a b = some (if a.N * p10 (6 - a.D.toNat) < b.N * p10 (6 - b.D.toNat) then -1 else if a.N * p10 (6 - a.D.toNat) > b.N * p10 (6 - b.D.toNat) then 1 else 0) := by
  have e : ∀ {d : TDec}, RightD d → sub .i64 6 (cvt .i64 d.D) = ((6 - d.D.toNat : Nat) : Int) := by
    intro d hd
    have h0 := hd.2.2.1
    have h6 := hd.2.2.2.1
    rw [cvt64 (by omega) (by omega)]
    unfold sub
    rw [wrap64 (by omega) (by omega)]
    omega
  obtain ⟨x1, _, _⟩ := right_mul ha (n := 6 - a.D.toNat) (by omega)
  obtain ⟨y1, _, _⟩ := right_mul hb (n := 6 - b.D.toNat) (by omega)
  unfold m15
  simp only [m14_right ha, m14_right hb, Option.bind_some, if_true, m15_J1, Bool.not_true, Bool.false_eq_true, if_false, e ha, e hb, m37_eq _ (show 6 - a.D.toNat ≤ 6 by omega), m37_eq _ (show 6 - b.D.toNat ≤ 6 by omega), x1, y1, lt, gt, decide_eq_true_eq]
  split
  · rfl
  · split <;> rfl
theorem m9_loop : ∀ (n : Nat) (m : Nat) (v : Int), n ≤ 6 → n < m → -9000000000000000000 ≤ v → v ≤ 9000000000000000000 →
    loopF (m9_L2 64) m (v, (n : Int)) = some (⟨(strip n v).2, ((strip n v).1 : Nat)⟩ : TDec)
  | n, 0, v, _, h, _, _ => by omega
  | 0, m + 1, v, _, _, _, _ => by
    simp only [loopF, m9_L2, m9_J3, m9_J1, gt, strip]
    simp
  | n + 1, m + 1, v, h6, hm, h1, h2 => by
    have hs : sub .u8 ((n + 1 : Nat) : Int) 1 = (n : Int) := by
      unfold sub
      rw [wrapu8 (by omega) (by omega)]
      omega
    have hb := tm10 v
    have ih := m9_loop n m (v.tdiv 10) (by omega) (by omega) (by omega) (by omega)
    have hg : gt ((n + 1 : Nat) : Int) 0 = true := decide_eq_true (by omega)
    simp only [loopF, m9_L2, m9_J3, m9_J1, hg, if_true, eqi, rem, hs, quo10 h1 h2, strip]
    by_cases h : v.tmod 10 = 0
    · simp only [h, beq_self_eq_true, if_true, ih]
    · simp [h]
theorem m9_eq {d : TDec} (hD : 0 ≤ d.D) : ∃ e, m9 64 d = some e ∧ RightD e := by
  have h1 := Int.tmod_lt_of_pos d.N (show (0 : Int) < 1000000000001 by decide)
  have h2 := Int.lt_tmod_of_pos d.N (show (0 : Int) < 1000000000001 by decide)
  have h3 := Int.tmod_lt_of_pos d.D (show (0 : Int) < 7 by decide)
  have h4 := Int.tmod_nonneg 7 hD
  have e : rem d.D 7 = ((d.D.tmod 7).toNat : Int) := by unfold rem; omega
  refine ⟨_, ?_, strip_right (n := (d.D.tmod 7).toNat) (v := d.N.tmod 1000000000001) (by omega) (by omega) (by omega)⟩
  unfold m9
  rw [e]
  exact m9_loop _ 64 _ (by omega) (by omega) (by unfold rem; omega) (by unfold rem; omega)
end SxYtihfogahdofdmaaDoor

/- Written by program (gen.py): the model of math/bits.Mul64, and the proof that its code computes it. -/
namespace SxYtihfogahdofdmaaDoor
open Go Go.RowKit Sx Go.Proofs
set_option linter.unusedVariables false
set_option linter.unusedSimpArgs false
attribute [local irreducible] WL WX CW OW
/-! ### 36: "math/bits.Mul64" -/
def m36 (fuel : Nat) (p0_0 : Int) (p1_0 : Int) : Option (Int × Int) :=
  (some (mul .u64 (band .u64 p0_0 4294967295) (band .u64 p1_0 4294967295))).bind fun x_1 => (some (add .u64 (mul .u64 (shr .u64 p0_0 32) (band .u64 p1_0 4294967295)) (shr .u64 x_1 32))).bind fun x_2 => (some (add .u64 (band .u64 x_2 4294967295) (mul .u64 (band .u64 p0_0 4294967295) (shr .u64 p1_0 32)))).bind fun x_3 => (some (add .u64 (mul .u64 (shr .u64 p0_0 32) (shr .u64 p1_0 32)) (shr .u64 x_2 32))).bind fun x_4 => some ((add .u64 x_4 (shr .u64 x_3 32)), (mul .u64 p0_0 p1_0))
@[reducible] def Q36 (F : Lx) (w0 : World) (r : (Int × Int)) (v : Value) (w' : World) : Prop := v = .tuple #[.int .u64 r.1, .int .u64 r.2] ∧ Below w0.heap.size w0 w'
set_option maxRecDepth 100000 in
set_option maxHeartbeats 4000000 in
theorem f36_ok (fuel : Nat) (F : Lx) (w0 : World) (hF : ∀ k, some k ∈ F → k < w0.heap.size) {p0_0 : Int} {p1_0 : Int} {r : (Int × Int)} (hm : m36 fuel p0_0 p1_0 = some r) :
    Calls Tryd.prog 36 #[.int .u64 p0_0, .int .u64 p1_0] w0 (fun e w' => ∃ v, e = .returned v ∧ Q36 F w0 r v w') := by
  have hPF : PF (bodyPost Tryd.prog Tryd.f36 (fun e w' => ∃ v, e = .returned v ∧ Q36 F w0 r v w')) := PF.body (fun c w h => by obtain ⟨v, e, _⟩ := h; cases e)
  have hL := LOk.start hF
  have hB := Below.refl w0.heap.size w0
  unfold m36 at hm
  refine enter (l := [.int .u64 p0_0, .int .u64 p1_0, undef, undef, undef, undef, undef, undef, undef, undef, undef, undef, undef, undef, undef, undef, undef, undef, undef, undef, undef, undef, undef, undef, undef, undef, undef, undef, undef, undef, undef, undef, undef, undef, undef, undef, undef, undef, undef, undef, undef, undef, undef, undef, undef, undef, undef, undef, undef, undef, undef]) Tryd.func36 rfl Tryd.ntmps36 (by kernel_rfl) ?_
  refine cw_seq ?_
  refine cw_region ?_
  refine wl_val (v := .int .u64 0) (w' := w0) (by kernel_rfl) (run_assign (v := .int .u64 0) (by kernel_rfl)) ?_
  refine wl_val (v := .int .u64 0) (w' := w0) (by kernel_rfl) (run_assign (v := .int .u64 0) (by kernel_rfl)) ?_
  refine wl_nil ?_
  refine then_n ?_
  refine cw_seq ?_
  refine cw_region ?_
  refine wl_val (v := .int .u64 p0_0) (w' := w0) (by kernel_rfl) (run_move (v := .int .u64 p0_0) (by kernel_rfl)) ?_
  refine wl_val (v := .int .u64 (band .u64 p0_0 4294967295)) (w' := w0) (by kernel_rfl) (run_band (k := .u64) (a := p0_0) (b := 4294967295) (by kernel_rfl) (by kernel_rfl)) ?_
  refine wl_val (v := .int .u64 (band .u64 p0_0 4294967295)) (w' := w0) (by kernel_rfl) (run_assign (v := .int .u64 (band .u64 p0_0 4294967295)) (by kernel_rfl)) ?_
  refine wl_nil ?_
  refine then_n ?_
  refine cw_seq ?_
  refine cw_region ?_
  refine wl_val (v := .int .u64 p0_0) (w' := w0) (by kernel_rfl) (run_move (v := .int .u64 p0_0) (by kernel_rfl)) ?_
  refine wl_val (v := .int .u64 (shr .u64 p0_0 32)) (w' := w0) (by kernel_rfl) (run_shr (k := .u64) (a := p0_0) (k' := .u64) (b := 32) (by kernel_rfl) (by kernel_rfl) rfl) ?_
  refine wl_val (v := .int .u64 (shr .u64 p0_0 32)) (w' := w0) (by kernel_rfl) (run_assign (v := .int .u64 (shr .u64 p0_0 32)) (by kernel_rfl)) ?_
  refine wl_nil ?_
  refine then_n ?_
  refine cw_seq ?_
  refine cw_region ?_
  refine wl_val (v := .int .u64 p1_0) (w' := w0) (by kernel_rfl) (run_move (v := .int .u64 p1_0) (by kernel_rfl)) ?_
  refine wl_val (v := .int .u64 (band .u64 p1_0 4294967295)) (w' := w0) (by kernel_rfl) (run_band (k := .u64) (a := p1_0) (b := 4294967295) (by kernel_rfl) (by kernel_rfl)) ?_
  refine wl_val (v := .int .u64 (band .u64 p1_0 4294967295)) (w' := w0) (by kernel_rfl) (run_assign (v := .int .u64 (band .u64 p1_0 4294967295)) (by kernel_rfl)) ?_
  refine wl_nil ?_
  refine then_n ?_
  refine cw_norm [.int .u64 p0_0, .int .u64 p1_0, undef, undef, .int .u64 0, .int .u64 0, .int .u64 (band .u64 p0_0 4294967295), .int .u64 (shr .u64 p0_0 32), .int .u64 (band .u64 p1_0 4294967295), undef, undef, undef, undef, undef, .int .u64 p0_0, .int .u64 (band .u64 p0_0 4294967295), .int .u64 p0_0, .int .u64 (shr .u64 p0_0 32), .int .u64 p1_0, .int .u64 (band .u64 p1_0 4294967295), undef, undef, undef, undef, undef, undef, undef, undef, undef, undef, undef, undef, undef, undef, undef, undef, undef, undef, undef, undef, undef, undef, undef, undef, undef, undef, undef, undef, undef, undef, undef] (by kernel_rfl) ?_
  refine cw_seq ?_
  refine cw_region ?_
  refine wl_val (v := .int .u64 p1_0) (w' := w0) (by kernel_rfl) (run_move (v := .int .u64 p1_0) (by kernel_rfl)) ?_
  refine wl_val (v := .int .u64 (shr .u64 p1_0 32)) (w' := w0) (by kernel_rfl) (run_shr (k := .u64) (a := p1_0) (k' := .u64) (b := 32) (by kernel_rfl) (by kernel_rfl) rfl) ?_
  refine wl_val (v := .int .u64 (shr .u64 p1_0 32)) (w' := w0) (by kernel_rfl) (run_assign (v := .int .u64 (shr .u64 p1_0 32)) (by kernel_rfl)) ?_
  refine wl_nil ?_
  refine then_n ?_
  refine cw_seq ?_
  refine cw_region ?_
  refine wl_val (v := .int .u64 (band .u64 p0_0 4294967295)) (w' := w0) (by kernel_rfl) (run_move (v := .int .u64 (band .u64 p0_0 4294967295)) (by kernel_rfl)) ?_
  refine wl_val (v := .int .u64 (band .u64 p1_0 4294967295)) (w' := w0) (by kernel_rfl) (run_move (v := .int .u64 (band .u64 p1_0 4294967295)) (by kernel_rfl)) ?_
  obtain ⟨x_1, h_1, hm⟩ := bind_e hm
  refine wl_val (v := .int .u64 x_1) (w' := w0) (by kernel_rfl) (by rw [← Option.some.inj h_1]; exact run_mul (k := .u64) (a := (band .u64 p0_0 4294967295)) (b := (band .u64 p1_0 4294967295)) (by kernel_rfl) (by kernel_rfl)) ?_
  refine wl_val (v := .int .u64 x_1) (w' := w0) (by kernel_rfl) (run_assign (v := .int .u64 x_1) (by kernel_rfl)) ?_
  refine wl_nil ?_
  refine then_n ?_
  refine cw_seq ?_
  refine cw_region ?_
  refine wl_val (v := .int .u64 (shr .u64 p0_0 32)) (w' := w0) (by kernel_rfl) (run_move (v := .int .u64 (shr .u64 p0_0 32)) (by kernel_rfl)) ?_
  refine wl_val (v := .int .u64 (band .u64 p1_0 4294967295)) (w' := w0) (by kernel_rfl) (run_move (v := .int .u64 (band .u64 p1_0 4294967295)) (by kernel_rfl)) ?_
  refine wl_val (v := .int .u64 (mul .u64 (shr .u64 p0_0 32) (band .u64 p1_0 4294967295))) (w' := w0) (by kernel_rfl) (run_mul (k := .u64) (a := (shr .u64 p0_0 32)) (b := (band .u64 p1_0 4294967295)) (by kernel_rfl) (by kernel_rfl)) ?_
  refine wl_val (v := .int .u64 x_1) (w' := w0) (by kernel_rfl) (run_move (v := .int .u64 x_1) (by kernel_rfl)) ?_
  refine wl_val (v := .int .u64 (shr .u64 x_1 32)) (w' := w0) (by kernel_rfl) (run_shr (k := .u64) (a := x_1) (k' := .u64) (b := 32) (by kernel_rfl) (by kernel_rfl) rfl) ?_
  obtain ⟨x_2, h_2, hm⟩ := bind_e hm
  refine wl_val (v := .int .u64 x_2) (w' := w0) (by kernel_rfl) (by rw [← Option.some.inj h_2]; exact run_add (k := .u64) (a := (mul .u64 (shr .u64 p0_0 32) (band .u64 p1_0 4294967295))) (b := (shr .u64 x_1 32)) (by kernel_rfl) (by kernel_rfl)) ?_
  refine wl_val (v := .int .u64 x_2) (w' := w0) (by kernel_rfl) (run_assign (v := .int .u64 x_2) (by kernel_rfl)) ?_
  refine wl_nil ?_
  refine then_n ?_
  refine cw_norm [.int .u64 p0_0, .int .u64 p1_0, undef, undef, .int .u64 0, .int .u64 0, .int .u64 (band .u64 p0_0 4294967295), .int .u64 (shr .u64 p0_0 32), .int .u64 (band .u64 p1_0 4294967295), .int .u64 (shr .u64 p1_0 32), .int .u64 x_1, .int .u64 x_2, undef, undef, .int .u64 p0_0, .int .u64 (band .u64 p0_0 4294967295), .int .u64 p0_0, .int .u64 (shr .u64 p0_0 32), .int .u64 p1_0, .int .u64 (band .u64 p1_0 4294967295), .int .u64 p1_0, .int .u64 (shr .u64 p1_0 32), .int .u64 (band .u64 p0_0 4294967295), .int .u64 (band .u64 p1_0 4294967295), .int .u64 x_1, .int .u64 (shr .u64 p0_0 32), .int .u64 (band .u64 p1_0 4294967295), .int .u64 (mul .u64 (shr .u64 p0_0 32) (band .u64 p1_0 4294967295)), .int .u64 x_1, .int .u64 (shr .u64 x_1 32), .int .u64 x_2, undef, undef, undef, undef, undef, undef, undef, undef, undef, undef, undef, undef, undef, undef, undef, undef, undef, undef, undef, undef] (by kernel_rfl) ?_
  refine cw_seq ?_
  refine cw_region ?_
  refine wl_val (v := .int .u64 x_2) (w' := w0) (by kernel_rfl) (run_move (v := .int .u64 x_2) (by kernel_rfl)) ?_
  refine wl_val (v := .int .u64 (band .u64 x_2 4294967295)) (w' := w0) (by kernel_rfl) (run_band (k := .u64) (a := x_2) (b := 4294967295) (by kernel_rfl) (by kernel_rfl)) ?_
  refine wl_val (v := .int .u64 (band .u64 x_2 4294967295)) (w' := w0) (by kernel_rfl) (run_assign (v := .int .u64 (band .u64 x_2 4294967295)) (by kernel_rfl)) ?_
  refine wl_nil ?_
  refine then_n ?_
  refine cw_seq ?_
  refine cw_region ?_
  refine wl_val (v := .int .u64 x_2) (w' := w0) (by kernel_rfl) (run_move (v := .int .u64 x_2) (by kernel_rfl)) ?_
  refine wl_val (v := .int .u64 (shr .u64 x_2 32)) (w' := w0) (by kernel_rfl) (run_shr (k := .u64) (a := x_2) (k' := .u64) (b := 32) (by kernel_rfl) (by kernel_rfl) rfl) ?_
  refine wl_val (v := .int .u64 (shr .u64 x_2 32)) (w' := w0) (by kernel_rfl) (run_assign (v := .int .u64 (shr .u64 x_2 32)) (by kernel_rfl)) ?_
  refine wl_nil ?_
  refine then_n ?_
  refine cw_seq ?_
  refine cw_region ?_
  refine wl_val (v := .int .u64 (band .u64 x_2 4294967295)) (w' := w0) (by kernel_rfl) (run_move (v := .int .u64 (band .u64 x_2 4294967295)) (by kernel_rfl)) ?_
  refine wl_val (v := .int .u64 (band .u64 p0_0 4294967295)) (w' := w0) (by kernel_rfl) (run_move (v := .int .u64 (band .u64 p0_0 4294967295)) (by kernel_rfl)) ?_
  refine wl_val (v := .int .u64 (shr .u64 p1_0 32)) (w' := w0) (by kernel_rfl) (run_move (v := .int .u64 (shr .u64 p1_0 32)) (by kernel_rfl)) ?_
  refine wl_val (v := .int .u64 (mul .u64 (band .u64 p0_0 4294967295) (shr .u64 p1_0 32))) (w' := w0) (by kernel_rfl) (run_mul (k := .u64) (a := (band .u64 p0_0 4294967295)) (b := (shr .u64 p1_0 32)) (by kernel_rfl) (by kernel_rfl)) ?_
  obtain ⟨x_3, h_3, hm⟩ := bind_e hm
  refine wl_val (v := .int .u64 x_3) (w' := w0) (by kernel_rfl) (by rw [← Option.some.inj h_3]; exact run_add (k := .u64) (a := (band .u64 x_2 4294967295)) (b := (mul .u64 (band .u64 p0_0 4294967295) (shr .u64 p1_0 32))) (by kernel_rfl) (by kernel_rfl)) ?_
  refine wl_val (v := .int .u64 x_3) (w' := w0) (by kernel_rfl) (run_assign (v := .int .u64 x_3) (by kernel_rfl)) ?_
  refine wl_nil ?_
  refine then_n ?_
  refine cw_norm [.int .u64 p0_0, .int .u64 p1_0, undef, undef, .int .u64 0, .int .u64 0, .int .u64 (band .u64 p0_0 4294967295), .int .u64 (shr .u64 p0_0 32), .int .u64 (band .u64 p1_0 4294967295), .int .u64 (shr .u64 p1_0 32), .int .u64 x_1, .int .u64 x_2, .int .u64 x_3, .int .u64 (shr .u64 x_2 32), .int .u64 p0_0, .int .u64 (band .u64 p0_0 4294967295), .int .u64 p0_0, .int .u64 (shr .u64 p0_0 32), .int .u64 p1_0, .int .u64 (band .u64 p1_0 4294967295), .int .u64 p1_0, .int .u64 (shr .u64 p1_0 32), .int .u64 (band .u64 p0_0 4294967295), .int .u64 (band .u64 p1_0 4294967295), .int .u64 x_1, .int .u64 (shr .u64 p0_0 32), .int .u64 (band .u64 p1_0 4294967295), .int .u64 (mul .u64 (shr .u64 p0_0 32) (band .u64 p1_0 4294967295)), .int .u64 x_1, .int .u64 (shr .u64 x_1 32), .int .u64 x_2, .int .u64 x_2, .int .u64 (band .u64 x_2 4294967295), .int .u64 x_2, .int .u64 (shr .u64 x_2 32), .int .u64 (band .u64 x_2 4294967295), .int .u64 (band .u64 p0_0 4294967295), .int .u64 (shr .u64 p1_0 32), .int .u64 (mul .u64 (band .u64 p0_0 4294967295) (shr .u64 p1_0 32)), .int .u64 x_3, undef, undef, undef, undef, undef, undef, undef, undef, undef, undef, undef] (by kernel_rfl) ?_
  refine cw_seq ?_
  refine cw_region ?_
  refine wl_val (v := .int .u64 (shr .u64 p0_0 32)) (w' := w0) (by kernel_rfl) (run_move (v := .int .u64 (shr .u64 p0_0 32)) (by kernel_rfl)) ?_
  refine wl_val (v := .int .u64 (shr .u64 p1_0 32)) (w' := w0) (by kernel_rfl) (run_move (v := .int .u64 (shr .u64 p1_0 32)) (by kernel_rfl)) ?_
  refine wl_val (v := .int .u64 (mul .u64 (shr .u64 p0_0 32) (shr .u64 p1_0 32))) (w' := w0) (by kernel_rfl) (run_mul (k := .u64) (a := (shr .u64 p0_0 32)) (b := (shr .u64 p1_0 32)) (by kernel_rfl) (by kernel_rfl)) ?_
  refine wl_val (v := .int .u64 (shr .u64 x_2 32)) (w' := w0) (by kernel_rfl) (run_move (v := .int .u64 (shr .u64 x_2 32)) (by kernel_rfl)) ?_
  obtain ⟨x_4, h_4, hm⟩ := bind_e hm
  refine wl_val (v := .int .u64 x_4) (w' := w0) (by kernel_rfl) (by rw [← Option.some.inj h_4]; exact run_add (k := .u64) (a := (mul .u64 (shr .u64 p0_0 32) (shr .u64 p1_0 32))) (b := (shr .u64 x_2 32)) (by kernel_rfl) (by kernel_rfl)) ?_
  refine wl_val (v := .int .u64 x_3) (w' := w0) (by kernel_rfl) (run_move (v := .int .u64 x_3) (by kernel_rfl)) ?_
  refine wl_val (v := .int .u64 (shr .u64 x_3 32)) (w' := w0) (by kernel_rfl) (run_shr (k := .u64) (a := x_3) (k' := .u64) (b := 32) (by kernel_rfl) (by kernel_rfl) rfl) ?_
  refine wl_val (v := .int .u64 (add .u64 x_4 (shr .u64 x_3 32))) (w' := w0) (by kernel_rfl) (run_add (k := .u64) (a := x_4) (b := (shr .u64 x_3 32)) (by kernel_rfl) (by kernel_rfl)) ?_
  refine wl_val (v := .int .u64 (add .u64 x_4 (shr .u64 x_3 32))) (w' := w0) (by kernel_rfl) (run_assign (v := .int .u64 (add .u64 x_4 (shr .u64 x_3 32))) (by kernel_rfl)) ?_
  refine wl_nil ?_
  refine then_n ?_
  refine cw_seq ?_
  refine cw_region ?_
  refine wl_val (v := .int .u64 p0_0) (w' := w0) (by kernel_rfl) (run_move (v := .int .u64 p0_0) (by kernel_rfl)) ?_
  refine wl_val (v := .int .u64 p1_0) (w' := w0) (by kernel_rfl) (run_move (v := .int .u64 p1_0) (by kernel_rfl)) ?_
  refine wl_val (v := .int .u64 (mul .u64 p0_0 p1_0)) (w' := w0) (by kernel_rfl) (run_mul (k := .u64) (a := p0_0) (b := p1_0) (by kernel_rfl) (by kernel_rfl)) ?_
  refine wl_val (v := .int .u64 (mul .u64 p0_0 p1_0)) (w' := w0) (by kernel_rfl) (run_assign (v := .int .u64 (mul .u64 p0_0 p1_0)) (by kernel_rfl)) ?_
  refine wl_nil ?_
  refine then_n ?_
  refine cw_norm [.int .u64 p0_0, .int .u64 p1_0, undef, undef, .int .u64 (add .u64 x_4 (shr .u64 x_3 32)), .int .u64 (mul .u64 p0_0 p1_0), .int .u64 (band .u64 p0_0 4294967295), .int .u64 (shr .u64 p0_0 32), .int .u64 (band .u64 p1_0 4294967295), .int .u64 (shr .u64 p1_0 32), .int .u64 x_1, .int .u64 x_2, .int .u64 x_3, .int .u64 (shr .u64 x_2 32), .int .u64 p0_0, .int .u64 (band .u64 p0_0 4294967295), .int .u64 p0_0, .int .u64 (shr .u64 p0_0 32), .int .u64 p1_0, .int .u64 (band .u64 p1_0 4294967295), .int .u64 p1_0, .int .u64 (shr .u64 p1_0 32), .int .u64 (band .u64 p0_0 4294967295), .int .u64 (band .u64 p1_0 4294967295), .int .u64 x_1, .int .u64 (shr .u64 p0_0 32), .int .u64 (band .u64 p1_0 4294967295), .int .u64 (mul .u64 (shr .u64 p0_0 32) (band .u64 p1_0 4294967295)), .int .u64 x_1, .int .u64 (shr .u64 x_1 32), .int .u64 x_2, .int .u64 x_2, .int .u64 (band .u64 x_2 4294967295), .int .u64 x_2, .int .u64 (shr .u64 x_2 32), .int .u64 (band .u64 x_2 4294967295), .int .u64 (band .u64 p0_0 4294967295), .int .u64 (shr .u64 p1_0 32), .int .u64 (mul .u64 (band .u64 p0_0 4294967295) (shr .u64 p1_0 32)), .int .u64 x_3, .int .u64 (shr .u64 p0_0 32), .int .u64 (shr .u64 p1_0 32), .int .u64 (mul .u64 (shr .u64 p0_0 32) (shr .u64 p1_0 32)), .int .u64 (shr .u64 x_2 32), .int .u64 x_4, .int .u64 x_3, .int .u64 (shr .u64 x_3 32), .int .u64 (add .u64 x_4 (shr .u64 x_3 32)), .int .u64 p0_0, .int .u64 p1_0, .int .u64 (mul .u64 p0_0 p1_0)] (by kernel_rfl) ?_
  refine cw_ret ?_
  obtain rfl := Option.some.inj hm
  exact ret2 (v := .int .u64 (add .u64 x_4 (shr .u64 x_3 32))) (v' := .int .u64 (mul .u64 p0_0 p1_0)) rfl (resv_tmp (by kernel_rfl)) (resv_tmp (by kernel_rfl)) ⟨_, rfl, by kernel_rfl, hB⟩
end SxYtihfogahdofdmaaDoor

/- Written by program (gen.py): the model of math/bits.Len64, and the proof that its code computes it. -/
namespace SxYtihfogahdofdmaaDoor
open Go Go.RowKit Sx Go.Proofs
set_option linter.unusedVariables false
set_option linter.unusedSimpArgs false
attribute [local irreducible] WL WX CW OW
/-! ### 74: "math/bits.Len64" -/
def m74_J3 (fuel : Nat) (x_3 : Int) (n_3 : Int) : Option Int :=
  (at? ([0, 1, 2, 2, 3, 3, 3, 3, 4, 4, 4, 4, 4, 4, 4, 4, 5, 5, 5, 5, 5, 5, 5, 5, 5, 5, 5, 5, 5, 5, 5, 5, 6, 6, 6, 6, 6, 6, 6, 6, 6, 6, 6, 6, 6, 6, 6, 6, 6, 6, 6, 6, 6, 6, 6, 6, 6, 6, 6, 6, 6, 6, 6, 6, 7, 7, 7, 7, 7, 7, 7, 7, 7, 7, 7, 7, 7, 7, 7, 7, 7, 7, 7, 7, 7, 7, 7, 7, 7, 7, 7, 7, 7, 7, 7, 7, 7, 7, 7, 7, 7, 7, 7, 7, 7, 7, 7, 7, 7, 7, 7, 7, 7, 7, 7, 7, 7, 7, 7, 7, 7, 7, 7, 7, 7, 7, 7, 7, 8, 8, 8, 8, 8, 8, 8, 8, 8, 8, 8, 8, 8, 8, 8, 8, 8, 8, 8, 8, 8, 8, 8, 8, 8, 8, 8, 8, 8, 8, 8, 8, 8, 8, 8, 8, 8, 8, 8, 8, 8, 8, 8, 8, 8, 8, 8, 8, 8, 8, 8, 8, 8, 8, 8, 8, 8, 8, 8, 8, 8, 8, 8, 8, 8, 8, 8, 8, 8, 8, 8, 8, 8, 8, 8, 8, 8, 8, 8, 8, 8, 8, 8, 8, 8, 8, 8, 8, 8, 8, 8, 8, 8, 8, 8, 8, 8, 8, 8, 8, 8, 8, 8, 8, 8, 8, 8, 8, 8, 8, 8, 8, 8, 8, 8, 8, 8, 8, 8, 8, 8, 8, 8, 8, 8, 8, 8, 8] : List UInt8) (cvt .u8 x_3)).bind fun b_1 => some (add .i64 n_3 (cvt .i64 (b_1.toNat : Int)))
def m74_J2 (fuel : Nat) (x_2 : Int) (n_2 : Int) : Option Int :=
  if (ge x_2 256) then (m74_J3 fuel  (shr .u64 x_2 8) (add .i64 n_2 8)) else (m74_J3 fuel  x_2 n_2)
def m74_J1 (fuel : Nat) (x_1 : Int) (n_1 : Int) : Option Int :=
  if (ge x_1 65536) then (m74_J2 fuel  (shr .u64 x_1 16) (add .i64 n_1 16)) else (m74_J2 fuel  x_1 n_1)
def m74 (fuel : Nat) (p0_0 : Int) : Option Int :=
  if (ge p0_0 4294967296) then (m74_J1 fuel  (shr .u64 p0_0 32) 32) else (m74_J1 fuel  p0_0 0)
@[reducible] def Q74 (F : Lx) (w0 : World) (r : Int) (v : Value) (w' : World) : Prop := v = .int .i64 r ∧ Below w0.heap.size w0 w'
set_option maxRecDepth 100000 in
set_option maxHeartbeats 4000000 in
theorem f74_ok (fuel : Nat) (F : Lx) (w0 : World) (hF : ∀ k, some k ∈ F → k < w0.heap.size) {p0_0 : Int} {r : Int} (hm : m74 fuel p0_0 = some r) :
    Calls Tryd.prog 74 #[.int .u64 p0_0] w0 (fun e w' => ∃ v, e = .returned v ∧ Q74 F w0 r v w') := by
  have hPF : PF (bodyPost Tryd.prog Tryd.f74 (fun e w' => ∃ v, e = .returned v ∧ Q74 F w0 r v w')) := PF.body (fun c w h => by obtain ⟨v, e, _⟩ := h; cases e)
  have hL := LOk.start hF
  have hB := Below.refl w0.heap.size w0
  unfold m74 at hm
  refine enter (l := [.int .u64 p0_0, undef, undef, undef, undef, undef, undef, undef, undef, undef, undef, undef, undef, undef, undef, undef, undef, undef, undef, undef, undef, undef, undef, undef, undef]) Tryd.func74 rfl Tryd.ntmps74 (by kernel_rfl) ?_
  refine cw_seq ?_
  refine cw_region ?_
  refine wl_val (v := .int .i64 0) (w' := w0) (by kernel_rfl) (run_assign (v := .int .i64 0) (by kernel_rfl)) ?_
  refine wl_nil ?_
  refine then_n ?_
  refine cw_cut (fun l' w' => ∃ x_1 n_1, ∃ u_1 : Nat → Value, l' = [.int .u64 x_1, undef, .int .i64 n_1, (u_1 0), (u_1 1), (u_1 2), (u_1 3), undef, undef, undef, undef, undef, undef, undef, undef, undef, undef, undef, undef, undef, undef, undef, undef, undef, undef] ∧ LOk w0.heap.size [] F w' ∧ Below w0.heap.size w0 w' ∧ m74_J1 fuel x_1 n_1 = some r) ?_ ?_
  · refine cw_seq ?_
    refine cw_region ?_
    refine wl_val (v := .int .u64 p0_0) (w' := w0) (by kernel_rfl) (run_move (v := .int .u64 p0_0) (by kernel_rfl)) ?_
    refine wl_val (v := .bool (ge p0_0 4294967296)) (w' := w0) (by kernel_rfl) (run_ge (k := .u64) (a := p0_0) (b := 4294967296) (by kernel_rfl) (by kernel_rfl)) ?_
    refine wl_nil ?_
    refine then_n ?_
    refine cw_cond (t := (ge p0_0 4294967296)) (by kernel_rfl) (fun hc_6 => ?_) (fun hc_6 => ?_)
    · have hm := ite_t hm hc_6
      refine cw_seq ?_
      refine cw_region ?_
      refine wl_val (v := .int .u64 p0_0) (w' := w0) (by kernel_rfl) (run_move (v := .int .u64 p0_0) (by kernel_rfl)) ?_
      refine wl_val (v := .int .u64 (shr .u64 p0_0 32)) (w' := w0) (by kernel_rfl) (run_shr (k := .u64) (a := p0_0) (k' := .u64) (b := 32) (by kernel_rfl) (by kernel_rfl) rfl) ?_
      refine wl_val (v := .int .u64 (shr .u64 p0_0 32)) (w' := w0) (by kernel_rfl) (run_assign (v := .int .u64 (shr .u64 p0_0 32)) (by kernel_rfl)) ?_
      refine wl_nil ?_
      refine then_n ?_
      refine cw_region ?_
      refine wl_val (v := .int .i64 32) (w' := w0) (by kernel_rfl) (run_assign (v := .int .i64 32) (by kernel_rfl)) ?_
      refine wl_nil ?_
      exact then_c ⟨(shr .u64 p0_0 32), 32, (fun i => ([.int .u64 p0_0, .bool (ge p0_0 4294967296), .int .u64 p0_0, .int .u64 (shr .u64 p0_0 32)] : List Value).getD i undef), by kernel_rfl, hL, hB, hm⟩
    · have hm := ite_f hm hc_6
      refine cw_skip ?_
      exact then_c ⟨p0_0, 0, (fun i => ([.int .u64 p0_0, .bool (ge p0_0 4294967296), undef, undef] : List Value).getD i undef), by kernel_rfl, hL, hB, hm⟩
  · intro l1 w_1 hI
    obtain ⟨x_1, n_1, u_1, rfl, hL, hB, hm⟩ := hI
    unfold m74_J1 at hm
    refine cw_cut (fun l' w' => ∃ x_2 n_2, ∃ u_2 : Nat → Value, l' = [.int .u64 x_2, undef, .int .i64 n_2, (u_1 0), (u_1 1), (u_1 2), (u_1 3), (u_2 0), (u_2 1), (u_2 2), (u_2 3), (u_2 4), (u_2 5), undef, undef, undef, undef, undef, undef, undef, undef, undef, undef, undef, undef] ∧ LOk w0.heap.size [] F w' ∧ Below w0.heap.size w0 w' ∧ m74_J2 fuel x_2 n_2 = some r) ?_ ?_
    · refine cw_seq ?_
      refine cw_region ?_
      refine wl_val (v := .int .u64 x_1) (w' := w_1) (by kernel_rfl) (run_move (v := .int .u64 x_1) (by kernel_rfl)) ?_
      refine wl_val (v := .bool (ge x_1 65536)) (w' := w_1) (by kernel_rfl) (run_ge (k := .u64) (a := x_1) (b := 65536) (by kernel_rfl) (by kernel_rfl)) ?_
      refine wl_nil ?_
      refine then_n ?_
      refine cw_cond (t := (ge x_1 65536)) (by kernel_rfl) (fun hc_5 => ?_) (fun hc_5 => ?_)
      · have hm := ite_t hm hc_5
        refine cw_seq ?_
        refine cw_region ?_
        refine wl_val (v := .int .u64 x_1) (w' := w_1) (by kernel_rfl) (run_move (v := .int .u64 x_1) (by kernel_rfl)) ?_
        refine wl_val (v := .int .u64 (shr .u64 x_1 16)) (w' := w_1) (by kernel_rfl) (run_shr (k := .u64) (a := x_1) (k' := .u64) (b := 16) (by kernel_rfl) (by kernel_rfl) rfl) ?_
        refine wl_val (v := .int .u64 (shr .u64 x_1 16)) (w' := w_1) (by kernel_rfl) (run_assign (v := .int .u64 (shr .u64 x_1 16)) (by kernel_rfl)) ?_
        refine wl_nil ?_
        refine then_n ?_
        refine cw_region ?_
        refine wl_val (v := .int .i64 n_1) (w' := w_1) (by kernel_rfl) (run_move (v := .int .i64 n_1) (by kernel_rfl)) ?_
        refine wl_val (v := .int .i64 (add .i64 n_1 16)) (w' := w_1) (by kernel_rfl) (run_add (k := .i64) (a := n_1) (b := 16) (by kernel_rfl) (by kernel_rfl)) ?_
        refine wl_val (v := .int .i64 (add .i64 n_1 16)) (w' := w_1) (by kernel_rfl) (run_assign (v := .int .i64 (add .i64 n_1 16)) (by kernel_rfl)) ?_
        refine wl_nil ?_
        exact then_c ⟨(shr .u64 x_1 16), (add .i64 n_1 16), (fun i => ([.int .u64 x_1, .bool (ge x_1 65536), .int .u64 x_1, .int .u64 (shr .u64 x_1 16), .int .i64 n_1, .int .i64 (add .i64 n_1 16)] : List Value).getD i undef), by kernel_rfl, hL, hB, hm⟩
      · have hm := ite_f hm hc_5
        refine cw_skip ?_
        exact then_c ⟨x_1, n_1, (fun i => ([.int .u64 x_1, .bool (ge x_1 65536), undef, undef, undef, undef] : List Value).getD i undef), by kernel_rfl, hL, hB, hm⟩
    · intro l1 w_2 hI
      obtain ⟨x_2, n_2, u_2, rfl, hL, hB, hm⟩ := hI
      unfold m74_J2 at hm
      refine cw_cut (fun l' w' => ∃ x_3 n_3, ∃ u_3 : Nat → Value, l' = [.int .u64 x_3, undef, .int .i64 n_3, (u_1 0), (u_1 1), (u_1 2), (u_1 3), (u_2 0), (u_2 1), (u_2 2), (u_2 3), (u_2 4), (u_2 5), (u_3 0), (u_3 1), (u_3 2), (u_3 3), (u_3 4), (u_3 5), undef, undef, undef, undef, undef, undef] ∧ LOk w0.heap.size [] F w' ∧ Below w0.heap.size w0 w' ∧ m74_J3 fuel x_3 n_3 = some r) ?_ ?_
      · refine cw_seq ?_
        refine cw_region ?_
        refine wl_val (v := .int .u64 x_2) (w' := w_2) (by kernel_rfl) (run_move (v := .int .u64 x_2) (by kernel_rfl)) ?_
        refine wl_val (v := .bool (ge x_2 256)) (w' := w_2) (by kernel_rfl) (run_ge (k := .u64) (a := x_2) (b := 256) (by kernel_rfl) (by kernel_rfl)) ?_
        refine wl_nil ?_
        refine then_n ?_
        refine cw_cond (t := (ge x_2 256)) (by kernel_rfl) (fun hc_4 => ?_) (fun hc_4 => ?_)
        · have hm := ite_t hm hc_4
          refine cw_seq ?_
          refine cw_region ?_
          refine wl_val (v := .int .u64 x_2) (w' := w_2) (by kernel_rfl) (run_move (v := .int .u64 x_2) (by kernel_rfl)) ?_
          refine wl_val (v := .int .u64 (shr .u64 x_2 8)) (w' := w_2) (by kernel_rfl) (run_shr (k := .u64) (a := x_2) (k' := .u64) (b := 8) (by kernel_rfl) (by kernel_rfl) rfl) ?_
          refine wl_val (v := .int .u64 (shr .u64 x_2 8)) (w' := w_2) (by kernel_rfl) (run_assign (v := .int .u64 (shr .u64 x_2 8)) (by kernel_rfl)) ?_
          refine wl_nil ?_
          refine then_n ?_
          refine cw_region ?_
          refine wl_val (v := .int .i64 n_2) (w' := w_2) (by kernel_rfl) (run_move (v := .int .i64 n_2) (by kernel_rfl)) ?_
          refine wl_val (v := .int .i64 (add .i64 n_2 8)) (w' := w_2) (by kernel_rfl) (run_add (k := .i64) (a := n_2) (b := 8) (by kernel_rfl) (by kernel_rfl)) ?_
          refine wl_val (v := .int .i64 (add .i64 n_2 8)) (w' := w_2) (by kernel_rfl) (run_assign (v := .int .i64 (add .i64 n_2 8)) (by kernel_rfl)) ?_
          refine wl_nil ?_
          exact then_c ⟨(shr .u64 x_2 8), (add .i64 n_2 8), (fun i => ([.int .u64 x_2, .bool (ge x_2 256), .int .u64 x_2, .int .u64 (shr .u64 x_2 8), .int .i64 n_2, .int .i64 (add .i64 n_2 8)] : List Value).getD i undef), by kernel_rfl, hL, hB, hm⟩
        · have hm := ite_f hm hc_4
          refine cw_skip ?_
          exact then_c ⟨x_2, n_2, (fun i => ([.int .u64 x_2, .bool (ge x_2 256), undef, undef, undef, undef] : List Value).getD i undef), by kernel_rfl, hL, hB, hm⟩
      · intro l1 w_3 hI
        obtain ⟨x_3, n_3, u_3, rfl, hL, hB, hm⟩ := hI
        unfold m74_J3 at hm
        refine cw_seq ?_
        refine cw_region ?_
        refine wl_val (v := .int .i64 n_3) (w' := w_3) (by kernel_rfl) (run_move (v := .int .i64 n_3) (by kernel_rfl)) ?_
        refine wl_val (v := .int .u64 x_3) (w' := w_3) (by kernel_rfl) (run_move (v := .int .u64 x_3) (by kernel_rfl)) ?_
        refine wl_val (v := .int .u8 (cvt .u8 x_3)) (w' := w_3) (by kernel_rfl) (run_cvt (k := .u64) (a := x_3) Tryd.underlying55 Tryd.underlying5 (by kernel_rfl)) ?_
        obtain ⟨b_1, h_1, hm⟩ := bind_e hm
        obtain ⟨h_20, h_21, _⟩ := at_some h_1
        refine wl_val (v := .int .u8 (b_1.toNat : Int)) (w' := w_3) (by kernel_rfl) (run_index_str (s := ([0, 1, 2, 2, 3, 3, 3, 3, 4, 4, 4, 4, 4, 4, 4, 4, 5, 5, 5, 5, 5, 5, 5, 5, 5, 5, 5, 5, 5, 5, 5, 5, 6, 6, 6, 6, 6, 6, 6, 6, 6, 6, 6, 6, 6, 6, 6, 6, 6, 6, 6, 6, 6, 6, 6, 6, 6, 6, 6, 6, 6, 6, 6, 6, 7, 7, 7, 7, 7, 7, 7, 7, 7, 7, 7, 7, 7, 7, 7, 7, 7, 7, 7, 7, 7, 7, 7, 7, 7, 7, 7, 7, 7, 7, 7, 7, 7, 7, 7, 7, 7, 7, 7, 7, 7, 7, 7, 7, 7, 7, 7, 7, 7, 7, 7, 7, 7, 7, 7, 7, 7, 7, 7, 7, 7, 7, 7, 7, 8, 8, 8, 8, 8, 8, 8, 8, 8, 8, 8, 8, 8, 8, 8, 8, 8, 8, 8, 8, 8, 8, 8, 8, 8, 8, 8, 8, 8, 8, 8, 8, 8, 8, 8, 8, 8, 8, 8, 8, 8, 8, 8, 8, 8, 8, 8, 8, 8, 8, 8, 8, 8, 8, 8, 8, 8, 8, 8, 8, 8, 8, 8, 8, 8, 8, 8, 8, 8, 8, 8, 8, 8, 8, 8, 8, 8, 8, 8, 8, 8, 8, 8, 8, 8, 8, 8, 8, 8, 8, 8, 8, 8, 8, 8, 8, 8, 8, 8, 8, 8, 8, 8, 8, 8, 8, 8, 8, 8, 8, 8, 8, 8, 8, 8, 8, 8, 8, 8, 8, 8, 8, 8, 8, 8, 8, 8, 8] : List UInt8)) (k := .u8) (j := (cvt .u8 x_3)) Tryd.underlying9 (by kernel_rfl) (by kernel_rfl) h_20 h_21) ?_
        refine wl_val (v := .int .i64 (cvt .i64 (b_1.toNat : Int))) (w' := w_3) (by kernel_rfl) (run_cvt (k := .u8) (a := (b_1.toNat : Int)) Tryd.underlying5 Tryd.underlying3 (by kernel_rfl)) ?_
        refine wl_val (v := .int .i64 (add .i64 n_3 (cvt .i64 (b_1.toNat : Int)))) (w' := w_3) (by kernel_rfl) (run_add (k := .i64) (a := n_3) (b := (cvt .i64 (b_1.toNat : Int))) (by kernel_rfl) (by kernel_rfl)) ?_
        refine wl_val (v := .int .i64 (add .i64 n_3 (cvt .i64 (b_1.toNat : Int)))) (w' := w_3) (by kernel_rfl) (run_assign (v := .int .i64 (add .i64 n_3 (cvt .i64 (b_1.toNat : Int)))) (by kernel_rfl)) ?_
        refine wl_nil ?_
        refine then_n ?_
        refine cw_ret ?_
        obtain rfl := Option.some.inj hm
        exact ret1 (v := .int .i64 (add .i64 n_3 (cvt .i64 (b_1.toNat : Int)))) rfl (resv_tmp (by kernel_rfl)) ⟨_, rfl, by kernel_rfl, hB⟩
end SxYtihfogahdofdmaaDoor

/- Written by program (gen.py): the model of math/bits.LeadingZeros64, and the proof that its code computes it. -/
namespace SxYtihfogahdofdmaaDoor
open Go Go.RowKit Sx Go.Proofs
set_option linter.unusedVariables false
set_option linter.unusedSimpArgs false
attribute [local irreducible] WL WX CW OW
/-! ### 61: "math/bits.LeadingZeros64" -/
def m61 (fuel : Nat) (p0_0 : Int) : Option Int :=
  (m74 fuel p0_0).bind fun r_1 => some (sub .i64 64 r_1)
@[reducible] def Q61 (F : Lx) (w0 : World) (r : Int) (v : Value) (w' : World) : Prop := v = .int .i64 r ∧ Below w0.heap.size w0 w'
set_option maxRecDepth 100000 in
set_option maxHeartbeats 4000000 in
theorem f61_ok (fuel : Nat) (F : Lx) (w0 : World) (hF : ∀ k, some k ∈ F → k < w0.heap.size) {p0_0 : Int} {r : Int} (hm : m61 fuel p0_0 = some r) :
    Calls Tryd.prog 61 #[.int .u64 p0_0] w0 (fun e w' => ∃ v, e = .returned v ∧ Q61 F w0 r v w') := by
  have hPF : PF (bodyPost Tryd.prog Tryd.f61 (fun e w' => ∃ v, e = .returned v ∧ Q61 F w0 r v w')) := PF.body (fun c w h => by obtain ⟨v, e, _⟩ := h; cases e)
  have hL := LOk.start hF
  have hB := Below.refl w0.heap.size w0
  unfold m61 at hm
  refine enter (l := [.int .u64 p0_0, undef, undef, undef, undef, undef]) Tryd.func61 rfl Tryd.ntmps61 (by kernel_rfl) ?_
  refine cw_seq ?_
  refine cw_region ?_
  refine wl_val (v := .int .i64 0) (w' := w0) (by kernel_rfl) (run_assign (v := .int .i64 0) (by kernel_rfl)) ?_
  refine wl_nil ?_
  refine then_n ?_
  refine cw_seq ?_
  refine cw_region ?_
  refine wl_val (v := .int .u64 p0_0) (w' := w0) (by kernel_rfl) (run_move (v := .int .u64 p0_0) (by kernel_rfl)) ?_
  obtain ⟨r_1, h_1, hm⟩ := bind_e hm
  refine wl_op (by kernel_rfl) (ow_enter (run_callf (vs := [.int .u64 p0_0]) Tryd.func74 nm_74 (by kernel_rfl) (by kernel_rfl)) (f74_ok (p0_0 := p0_0) fuel _ w0 hL.lt  h_1) ?_)
  intro vR w_1 hR
  obtain ⟨rfl, hBe⟩ := hR
  have hS := Stp.call hL (Fz.of_below hBe [])
  replace hB := hS.below hL hB
  replace hL := hS.hL
  refine wl_val (v := .int .i64 (sub .i64 64 r_1)) (w' := w_1) (by kernel_rfl) (run_sub (k := .i64) (a := 64) (b := r_1) (by kernel_rfl) (by kernel_rfl)) ?_
  refine wl_val (v := .int .i64 (sub .i64 64 r_1)) (w' := w_1) (by kernel_rfl) (run_assign (v := .int .i64 (sub .i64 64 r_1)) (by kernel_rfl)) ?_
  refine wl_nil ?_
  refine then_n ?_
  refine cw_ret ?_
  obtain rfl := Option.some.inj hm
  exact ret1 (v := .int .i64 (sub .i64 64 r_1)) rfl (resv_tmp (by kernel_rfl)) ⟨_, rfl, by kernel_rfl, hB⟩
end SxYtihfogahdofdmaaDoor
