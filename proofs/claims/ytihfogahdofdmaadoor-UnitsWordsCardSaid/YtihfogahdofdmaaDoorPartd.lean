/- Proved in the last of these 9 parts (this is part 4): UnitsWords answers true at every register, decimal, number of digits and sign. Conditions: those of the given statement, and no others. -/
import Derived.Test.YtihfogahdofdmaaDoorParta
import Derived.Test.YtihfogahdofdmaaDoorPartc
set_option linter.unusedVariables false
set_option linter.unusedSimpArgs false
set_option linter.unusedSectionVars false
/- Written by program (gen.py): the model of saucier/units.To, and the proof that its code computes it. -/
namespace SxYtihfogahdofdmaaDoor
open Go Go.RowKit Sx Go.Proofs
set_option linter.unusedVariables false
set_option linter.unusedSimpArgs false
attribute [local irreducible] WL WX CW OW
/-! ### 11: "saucier/units.To" -/
def m11_J1 (fuel : Nat) (p0_0 : TDec) (x_1 : TUnit) (x_2 : TUnit) (x_3 : Bool) : Option (TDec × Bool) :=
  if x_3 then (some ((⟨0, 0⟩ : TDec), false)) else ((m13 fuel p0_0 (mul .i64 x_1.Num x_2.Den) (mul .i64 x_1.Den x_2.Num)).bind fun r_2 => some (r_2.1, r_2.2))
def m11 (fuel : Nat) (p0_0 : TDec) (p1_0 : (List UInt8)) (p2_0 : (List UInt8)) : Option (TDec × Bool) :=
  (m33 fuel ).bind fun r_1 => (some ((mget r_1 p1_0).getD (⟨[], 0, 0⟩ : TUnit))).bind fun x_1 => (some (mget r_1 p1_0).isSome).bind fun b_1 => (some ((mget r_1 p2_0).getD (⟨[], 0, 0⟩ : TUnit))).bind fun x_2 => (some (mget r_1 p2_0).isSome).bind fun b_2 => if b_1 then (if b_2 then (m11_J1 fuel p0_0 x_1 x_2 (nes x_1.Base x_2.Base)) else (m11_J1 fuel p0_0 x_1 x_2 true)) else (m11_J1 fuel p0_0 x_1 x_2 true)
@[reducible] def Q11 (F : Lx) (w0 : World) (r : (TDec × Bool)) (v : Value) (w' : World) : Prop := v = .tuple #[.agg #[.int .i64 r.1.N, .int .u8 r.1.D], .bool r.2] ∧ Below w0.heap.size w0 w'
set_option maxRecDepth 100000 in
set_option maxHeartbeats 4000000 in
theorem f11_ok (fuel : Nat) (F : Lx) (w0 : World) (hF : ∀ k, some k ∈ F → k < w0.heap.size) {p0_0 : TDec} {p1_0 : (List UInt8)} {p2_0 : (List UInt8)} {r : (TDec × Bool)} (hm : m11 fuel p0_0 p1_0 p2_0 = some r) :
    Calls Tryd.prog 11 #[.agg #[.int .i64 p0_0.N, .int .u8 p0_0.D], .string ⟨⟨p1_0⟩⟩, .string ⟨⟨p2_0⟩⟩] w0 (fun e w' => ∃ v, e = .returned v ∧ Q11 F w0 r v w') := by
  have hPF : PF (bodyPost Tryd.prog Tryd.f11 (fun e w' => ∃ v, e = .returned v ∧ Q11 F w0 r v w')) := PF.body (fun c w h => by obtain ⟨v, e, _⟩ := h; cases e)
  have hL := LOk.start hF
  have hB := Below.refl w0.heap.size w0
  unfold m11 at hm
  refine enter (l := [.agg #[.int .i64 p0_0.N, .int .u8 p0_0.D], .string ⟨⟨p1_0⟩⟩, .string ⟨⟨p2_0⟩⟩, undef, undef, undef, undef, undef, undef, undef, undef, undef, undef, undef, undef, undef, undef, undef, undef, undef, undef, undef, undef, undef, undef, undef, undef, undef, undef, undef, undef, undef, undef, undef, undef, undef, undef, undef, undef, undef, undef, undef, undef, undef, undef, undef, undef, undef, undef, undef, undef, undef, undef, undef]) Tryd.func11 rfl Tryd.ntmps11 (by kernel_rfl) ?_
  refine cw_seq ?_
  refine cw_region ?_
  refine wl_op (by kernel_rfl) (ow_box' (v := .agg #[.int .i64 p0_0.N, .int .u8 p0_0.D]) (vs := [.int .i64 p0_0.N, .int .u8 p0_0.D]) (by kernel_rfl) rfl hL ?_)
  intro g_1 w_1 hS h_1
  replace hB := hS.below hL hB
  replace hL := hS.hL
  refine wl_op (by kernel_rfl) (ow_alloc' (z := .agg #[.int .i64 0, .int .u8 0]) (vs := [.int .i64 0, .int .u8 0]) (by kernel_rfl) rfl hL ?_)
  intro g_2 w_2 hS h_2
  replace h_1 := hS.box h_1 nilN
  replace hB := hS.below hL hB
  replace hL := hS.hL
  refine wl_val (v := .bool false) (w' := w_2) (by kernel_rfl) (run_assign (v := .bool false) (by kernel_rfl)) ?_
  refine wl_nil ?_
  refine then_n ?_
  refine cw_seq ?_
  refine cw_region ?_
  obtain ⟨r_1, h_3, hm⟩ := bind_e hm
  refine wl_op (by kernel_rfl) (ow_enter (run_callf (vs := []) Tryd.func33 nm_33 (by kernel_rfl) (by kernel_rfl)) (f33_ok fuel _ w_2 hL.lt  h_3) ?_)
  intro vR w_3 hR
  obtain ⟨g_3, rfl, hBe, h_4, h_5, h_6⟩ := hR
  have hS : Stp w0.heap.size _ [some g_3, some g_2, some g_1] F [] w_2 w_3 := Stp.newmap hL (Fz.of_below hBe _) h_5 h_6
  replace h_1 := hS.box h_1 nilN
  replace h_2 := hS.box h_2 nilN
  replace hB := hS.below hL hB
  replace hL := hS.hL
  refine wl_val (v := .map (some g_3)) (w' := w_3) (by kernel_rfl) (run_assign (v := .map (some g_3)) (by kernel_rfl)) ?_
  refine wl_nil ?_
  refine then_n ?_
  refine cw_seq ?_
  refine cw_region ?_
  refine wl_val (v := .map (some g_3)) (w' := w_3) (by kernel_rfl) (run_move (v := .map (some g_3)) (by kernel_rfl)) ?_
  refine wl_val (v := .string ⟨⟨p1_0⟩⟩) (w' := w_3) (by kernel_rfl) (run_move (v := .string ⟨⟨p1_0⟩⟩) (by kernel_rfl)) ?_
  obtain ⟨x_1, h_7, hm⟩ := bind_e hm
  obtain ⟨b_1, h_8, hm⟩ := bind_e hm
  refine wl_val (v := .tuple #[.agg #[.string ⟨⟨x_1.Base⟩⟩, .int .i64 x_1.Num, .int .i64 x_1.Den], .bool b_1]) (w' := w_3) (by kernel_rfl) (by rw [← Option.some.inj h_7, ← Option.some.inj h_8]; exact run_look kp_51 Tryd.underlying51 (z := (⟨[], 0, 0⟩ : TUnit)) (by kernel_rfl) (k := p1_0) (by kernel_rfl) (by kernel_rfl) h_4 true) ?_
  refine wl_val (v := .tuple #[.agg #[.string ⟨⟨x_1.Base⟩⟩, .int .i64 x_1.Num, .int .i64 x_1.Den], .bool b_1]) (w' := w_3) (by kernel_rfl) (run_move (v := .tuple #[.agg #[.string ⟨⟨x_1.Base⟩⟩, .int .i64 x_1.Num, .int .i64 x_1.Den], .bool b_1]) (by kernel_rfl)) ?_
  refine wl_val (v := .agg #[.string ⟨⟨x_1.Base⟩⟩, .int .i64 x_1.Num, .int .i64 x_1.Den]) (w' := w_3) (by kernel_rfl) (run_extract (vs := #[.agg #[.string ⟨⟨x_1.Base⟩⟩, .int .i64 x_1.Num, .int .i64 x_1.Den], .bool b_1]) (by kernel_rfl) (by kernel_rfl)) ?_
  refine wl_val (v := .bool b_1) (w' := w_3) (by kernel_rfl) (run_extract (vs := #[.agg #[.string ⟨⟨x_1.Base⟩⟩, .int .i64 x_1.Num, .int .i64 x_1.Den], .bool b_1]) (by kernel_rfl) (by kernel_rfl)) ?_
  refine wl_op (by kernel_rfl) (ow_alloc' (z := .agg #[.string ⟨⟨[]⟩⟩, .int .i64 0, .int .i64 0]) (vs := [.string ⟨⟨[]⟩⟩, .int .i64 0, .int .i64 0]) (by kernel_rfl) rfl hL ?_)
  intro g_4 w_4 hS h_9
  replace h_1 := hS.box h_1 nilN
  replace h_2 := hS.box h_2 nilN
  replace h_4 := hS.map h_4 nilN
  replace hB := hS.below hL hB
  replace hL := hS.hL
  refine wl_op (by kernel_rfl) (ow_store_box' (g := g_4) (j := 0) (v := .agg #[.string ⟨⟨x_1.Base⟩⟩, .int .i64 x_1.Num, .int .i64 x_1.Den]) (vs := [.string ⟨⟨x_1.Base⟩⟩, .int .i64 x_1.Num, .int .i64 x_1.Den]) (cs' := [.string ⟨⟨x_1.Base⟩⟩, .int .i64 x_1.Num, .int .i64 x_1.Den]) sz_28 (by kernel_rfl) (by kernel_rfl) rfl rfl rfl hL h_9 rfl (by simp) rfl ?_)
  intro w_5 hS h_10
  replace h_1 := hS.box h_1 (hL.apart 3 0 rfl rfl (by decide) _ rfl)
  replace h_2 := hS.box h_2 (hL.apart 2 0 rfl rfl (by decide) _ rfl)
  replace h_4 := hS.map h_4 (hL.apart 1 0 rfl rfl (by decide) _ rfl)
  replace hB := hS.below hL hB
  replace hL := hS.hL
  refine wl_val (v := .bool b_1) (w' := w_5) (by kernel_rfl) (run_assign (v := .bool b_1) (by kernel_rfl)) ?_
  refine wl_nil ?_
  refine then_n ?_
  refine cw_seq ?_
  refine cw_region ?_
  refine wl_val (v := .map (some g_3)) (w' := w_5) (by kernel_rfl) (run_move (v := .map (some g_3)) (by kernel_rfl)) ?_
  refine wl_val (v := .string ⟨⟨p2_0⟩⟩) (w' := w_5) (by kernel_rfl) (run_move (v := .string ⟨⟨p2_0⟩⟩) (by kernel_rfl)) ?_
  obtain ⟨x_2, h_11, hm⟩ := bind_e hm
  obtain ⟨b_2, h_12, hm⟩ := bind_e hm
  refine wl_val (v := .tuple #[.agg #[.string ⟨⟨x_2.Base⟩⟩, .int .i64 x_2.Num, .int .i64 x_2.Den], .bool b_2]) (w' := w_5) (by kernel_rfl) (by rw [← Option.some.inj h_11, ← Option.some.inj h_12]; exact run_look kp_51 Tryd.underlying51 (z := (⟨[], 0, 0⟩ : TUnit)) (by kernel_rfl) (k := p2_0) (by kernel_rfl) (by kernel_rfl) h_4 true) ?_
  refine wl_val (v := .tuple #[.agg #[.string ⟨⟨x_2.Base⟩⟩, .int .i64 x_2.Num, .int .i64 x_2.Den], .bool b_2]) (w' := w_5) (by kernel_rfl) (run_move (v := .tuple #[.agg #[.string ⟨⟨x_2.Base⟩⟩, .int .i64 x_2.Num, .int .i64 x_2.Den], .bool b_2]) (by kernel_rfl)) ?_
  refine wl_val (v := .agg #[.string ⟨⟨x_2.Base⟩⟩, .int .i64 x_2.Num, .int .i64 x_2.Den]) (w' := w_5) (by kernel_rfl) (run_extract (vs := #[.agg #[.string ⟨⟨x_2.Base⟩⟩, .int .i64 x_2.Num, .int .i64 x_2.Den], .bool b_2]) (by kernel_rfl) (by kernel_rfl)) ?_
  refine wl_norm [.agg #[.int .i64 p0_0.N, .int .u8 p0_0.D], .string ⟨⟨p1_0⟩⟩, .string ⟨⟨p2_0⟩⟩, .pointer (some ⟨g_1, 0, none⟩), undef, undef, .pointer (some ⟨g_2, 0, none⟩), .bool false, .map (some g_3), .pointer (some ⟨g_4, 0, none⟩), .bool b_1, undef, undef, .map (some g_3), .tuple #[.agg #[.string ⟨⟨x_1.Base⟩⟩, .int .i64 x_1.Num, .int .i64 x_1.Den], .bool b_1], .map (some g_3), .string ⟨⟨p1_0⟩⟩, .tuple #[.agg #[.string ⟨⟨x_1.Base⟩⟩, .int .i64 x_1.Num, .int .i64 x_1.Den], .bool b_1], .agg #[.string ⟨⟨x_1.Base⟩⟩, .int .i64 x_1.Num, .int .i64 x_1.Den], .bool b_1, .tuple #[.agg #[.string ⟨⟨x_2.Base⟩⟩, .int .i64 x_2.Num, .int .i64 x_2.Den], .bool b_2], .map (some g_3), .string ⟨⟨p2_0⟩⟩, .tuple #[.agg #[.string ⟨⟨x_2.Base⟩⟩, .int .i64 x_2.Num, .int .i64 x_2.Den], .bool b_2], .agg #[.string ⟨⟨x_2.Base⟩⟩, .int .i64 x_2.Num, .int .i64 x_2.Den], undef, undef, undef, undef, undef, undef, undef, undef, undef, undef, undef, undef, undef, undef, undef, undef, undef, undef, undef, undef, undef, undef, undef, undef, undef, undef, undef, undef, undef] (by kernel_rfl) ?_
  refine wl_val (v := .bool b_2) (w' := w_5) (by kernel_rfl) (run_extract (vs := #[.agg #[.string ⟨⟨x_2.Base⟩⟩, .int .i64 x_2.Num, .int .i64 x_2.Den], .bool b_2]) (by kernel_rfl) (by kernel_rfl)) ?_
  refine wl_op (by kernel_rfl) (ow_alloc' (z := .agg #[.string ⟨⟨[]⟩⟩, .int .i64 0, .int .i64 0]) (vs := [.string ⟨⟨[]⟩⟩, .int .i64 0, .int .i64 0]) (by kernel_rfl) rfl hL ?_)
  intro g_5 w_6 hS h_13
  replace h_1 := hS.box h_1 nilN
  replace h_2 := hS.box h_2 nilN
  replace h_10 := hS.box h_10 nilN
  replace h_4 := hS.map h_4 nilN
  replace hB := hS.below hL hB
  replace hL := hS.hL
  refine wl_op (by kernel_rfl) (ow_store_box' (g := g_5) (j := 0) (v := .agg #[.string ⟨⟨x_2.Base⟩⟩, .int .i64 x_2.Num, .int .i64 x_2.Den]) (vs := [.string ⟨⟨x_2.Base⟩⟩, .int .i64 x_2.Num, .int .i64 x_2.Den]) (cs' := [.string ⟨⟨x_2.Base⟩⟩, .int .i64 x_2.Num, .int .i64 x_2.Den]) sz_28 (by kernel_rfl) (by kernel_rfl) rfl rfl rfl hL h_13 rfl (by simp) rfl ?_)
  intro w_7 hS h_14
  replace h_1 := hS.box h_1 (hL.apart 4 0 rfl rfl (by decide) _ rfl)
  replace h_2 := hS.box h_2 (hL.apart 3 0 rfl rfl (by decide) _ rfl)
  replace h_10 := hS.box h_10 (hL.apart 1 0 rfl rfl (by decide) _ rfl)
  replace h_4 := hS.map h_4 (hL.apart 2 0 rfl rfl (by decide) _ rfl)
  replace hB := hS.below hL hB
  replace hL := hS.hL
  refine wl_val (v := .bool b_2) (w' := w_7) (by kernel_rfl) (run_assign (v := .bool b_2) (by kernel_rfl)) ?_
  refine wl_nil ?_
  refine then_n ?_
  refine cw_seq ?_
  refine cw_cut (fun l' w' => ∃ x_3, ∃ u_1 : Nat → Value, l' = [.agg #[.int .i64 p0_0.N, .int .u8 p0_0.D], .string ⟨⟨p1_0⟩⟩, .string ⟨⟨p2_0⟩⟩, .pointer (some ⟨g_1, 0, none⟩), undef, undef, .pointer (some ⟨g_2, 0, none⟩), .bool false, .map (some g_3), .pointer (some ⟨g_4, 0, none⟩), .bool b_1, .pointer (some ⟨g_5, 0, none⟩), .bool b_2, .map (some g_3), .tuple #[.agg #[.string ⟨⟨x_1.Base⟩⟩, .int .i64 x_1.Num, .int .i64 x_1.Den], .bool b_1], .map (some g_3), .string ⟨⟨p1_0⟩⟩, .tuple #[.agg #[.string ⟨⟨x_1.Base⟩⟩, .int .i64 x_1.Num, .int .i64 x_1.Den], .bool b_1], .agg #[.string ⟨⟨x_1.Base⟩⟩, .int .i64 x_1.Num, .int .i64 x_1.Den], .bool b_1, .tuple #[.agg #[.string ⟨⟨x_2.Base⟩⟩, .int .i64 x_2.Num, .int .i64 x_2.Den], .bool b_2], .map (some g_3), .string ⟨⟨p2_0⟩⟩, .tuple #[.agg #[.string ⟨⟨x_2.Base⟩⟩, .int .i64 x_2.Num, .int .i64 x_2.Den], .bool b_2], .agg #[.string ⟨⟨x_2.Base⟩⟩, .int .i64 x_2.Num, .int .i64 x_2.Den], .bool b_2, (u_1 0), (u_1 1), (u_1 2), (u_1 3), (u_1 4), (u_1 5), (u_1 6), (u_1 7), (u_1 8), (u_1 9), (u_1 10), (u_1 11), .bool x_3, undef, undef, undef, undef, undef, undef, undef, undef, undef, undef, undef, undef, undef, undef, undef] ∧ LOk w0.heap.size [some g_5, some g_4, some g_2, some g_1] F w' ∧ Below w0.heap.size w0 w' ∧ Bx w' g_1 [.int .i64 p0_0.N, .int .u8 p0_0.D] 23 ∧ Bx w' g_2 [.int .i64 0, .int .u8 0] 23 ∧ Bx w' g_4 [.string ⟨⟨x_1.Base⟩⟩, .int .i64 x_1.Num, .int .i64 x_1.Den] 28 ∧ Bx w' g_5 [.string ⟨⟨x_2.Base⟩⟩, .int .i64 x_2.Num, .int .i64 x_2.Den] 28 ∧ m11_J1 fuel p0_0 x_1 x_2 x_3 = some r) ?_ ?_
  · refine cw_region ?_
    refine wl_val (v := .bool b_1) (w' := w_7) (by kernel_rfl) (run_move (v := .bool b_1) (by kernel_rfl)) ?_
    refine wl_val (v := .bool (!b_1)) (w' := w_7) (by kernel_rfl) (run_not (b := b_1) (by kernel_rfl)) ?_
    refine wl_val (v := .bool (!b_1)) (w' := w_7) (by kernel_rfl) (run_move (v := .bool (!b_1)) (by kernel_rfl)) ?_
    rcases Bool.eq_false_or_eq_true b_1 with hc_4 | hc_4
    · have hm := ite_t hm hc_4
      refine wl_val (v := .bool b_2) (w' := w_7) (wg (c := (!b_1)) (want := false) (by kernel_rfl) (not_t hc_4) rfl) (run_move (v := .bool b_2) (by kernel_rfl)) ?_
      refine wl_val (v := .bool (!b_2)) (w' := w_7) (wg (c := (!b_1)) (want := false) (by kernel_rfl) (not_t hc_4) rfl) (run_not (b := b_2) (by kernel_rfl)) ?_
      refine wl_val (v := .bool (!b_2)) (w' := w_7) (by kernel_rfl) (run_pick_f (v := .bool (!b_2)) (tr2 (c := (!b_1)) (by kernel_rfl) (not_t hc_4)) (by kernel_rfl)) ?_
      refine wl_val (v := .bool (!b_2)) (w' := w_7) (by kernel_rfl) (run_move (v := .bool (!b_2)) (by kernel_rfl)) ?_
      refine wl_norm [.agg #[.int .i64 p0_0.N, .int .u8 p0_0.D], .string ⟨⟨p1_0⟩⟩, .string ⟨⟨p2_0⟩⟩, .pointer (some ⟨g_1, 0, none⟩), undef, undef, .pointer (some ⟨g_2, 0, none⟩), .bool false, .map (some g_3), .pointer (some ⟨g_4, 0, none⟩), .bool b_1, .pointer (some ⟨g_5, 0, none⟩), .bool b_2, .map (some g_3), .tuple #[.agg #[.string ⟨⟨x_1.Base⟩⟩, .int .i64 x_1.Num, .int .i64 x_1.Den], .bool b_1], .map (some g_3), .string ⟨⟨p1_0⟩⟩, .tuple #[.agg #[.string ⟨⟨x_1.Base⟩⟩, .int .i64 x_1.Num, .int .i64 x_1.Den], .bool b_1], .agg #[.string ⟨⟨x_1.Base⟩⟩, .int .i64 x_1.Num, .int .i64 x_1.Den], .bool b_1, .tuple #[.agg #[.string ⟨⟨x_2.Base⟩⟩, .int .i64 x_2.Num, .int .i64 x_2.Den], .bool b_2], .map (some g_3), .string ⟨⟨p2_0⟩⟩, .tuple #[.agg #[.string ⟨⟨x_2.Base⟩⟩, .int .i64 x_2.Num, .int .i64 x_2.Den], .bool b_2], .agg #[.string ⟨⟨x_2.Base⟩⟩, .int .i64 x_2.Num, .int .i64 x_2.Den], .bool b_2, .bool b_1, .bool (!b_1), .bool (!b_1), .bool b_2, .bool (!b_2), .bool (!b_2), .bool (!b_2), undef, undef, undef, undef, undef, undef, undef, undef, undef, undef, undef, undef, undef, undef, undef, undef, undef, undef, undef, undef, undef] (by kernel_rfl) ?_
      rcases Bool.eq_false_or_eq_true b_2 with hc_5 | hc_5
      · have hm := ite_t hm hc_5
        refine wl_val (v := .pointer (some ⟨g_4, 0, none⟩)) (w' := w_7) (wg (c := (!b_2)) (want := false) (by kernel_rfl) (not_t hc_5) rfl) (run_fieldAddr (b := g_4) (o := 0) fo_28_0 (by kernel_rfl)) ?_
        refine wl_val (v := .string ⟨⟨x_1.Base⟩⟩) (w' := w_7) (wg (c := (!b_2)) (want := false) (by kernel_rfl) (not_t hc_5) rfl) (run_load_box1 (j := 0) Tryd.underlying9 rfl (by kernel_rfl) h_10 (by kernel_rfl)) ?_
        refine wl_val (v := .pointer (some ⟨g_5, 0, none⟩)) (w' := w_7) (wg (c := (!b_2)) (want := false) (by kernel_rfl) (not_t hc_5) rfl) (run_fieldAddr (b := g_5) (o := 0) fo_28_0 (by kernel_rfl)) ?_
        refine wl_val (v := .string ⟨⟨x_2.Base⟩⟩) (w' := w_7) (wg (c := (!b_2)) (want := false) (by kernel_rfl) (not_t hc_5) rfl) (run_load_box1 (j := 0) Tryd.underlying9 rfl (by kernel_rfl) h_14 (by kernel_rfl)) ?_
        refine wl_val (v := .bool (nes x_1.Base x_2.Base)) (w' := w_7) (wg (c := (!b_2)) (want := false) (by kernel_rfl) (not_t hc_5) rfl) (run_nes (a := x_1.Base) (b := x_2.Base) (by kernel_rfl) (by kernel_rfl)) ?_
        refine wl_val (v := .bool (nes x_1.Base x_2.Base)) (w' := w_7) (by kernel_rfl) (run_pick_f (v := .bool (nes x_1.Base x_2.Base)) (tr2 (c := (!b_2)) (by kernel_rfl) (not_t hc_5)) (by kernel_rfl)) ?_
        refine wl_nil ?_
        have hS : Stp w0.heap.size _ [some g_5, some g_4, some g_2, some g_1] F [] w_7 _ := Stp.pick hL [0, 1, 3, 4] rfl (by decide)
        replace h_1 := hS.box h_1 nilN
        replace h_2 := hS.box h_2 nilN
        replace h_10 := hS.box h_10 nilN
        replace h_14 := hS.box h_14 nilN
        replace hB := hS.below hL hB
        replace hL := hS.hL
        exact then_c ⟨(nes x_1.Base x_2.Base), (fun i => ([.bool b_1, .bool (!b_1), .bool (!b_1), .bool b_2, .bool (!b_2), .bool (!b_2), .bool (!b_2), .pointer (some ⟨g_4, 0, none⟩), .string ⟨⟨x_1.Base⟩⟩, .pointer (some ⟨g_5, 0, none⟩), .string ⟨⟨x_2.Base⟩⟩, .bool (nes x_1.Base x_2.Base)] : List Value).getD i undef), by kernel_rfl, hL, hB, h_1, h_2, h_10, h_14, hm⟩
      · have hm := ite_f hm hc_5
        refine wl_not0 (wg (c := (!b_2)) (want := false) (by kernel_rfl) (not_f hc_5) rfl) (by kernel_rfl) ?_
        refine wl_not0 (wg (c := (!b_2)) (want := false) (by kernel_rfl) (not_f hc_5) rfl) (by kernel_rfl) ?_
        refine wl_not0 (wg (c := (!b_2)) (want := false) (by kernel_rfl) (not_f hc_5) rfl) (by kernel_rfl) ?_
        refine wl_not0 (wg (c := (!b_2)) (want := false) (by kernel_rfl) (not_f hc_5) rfl) (by kernel_rfl) ?_
        refine wl_not0 (wg (c := (!b_2)) (want := false) (by kernel_rfl) (not_f hc_5) rfl) (by kernel_rfl) ?_
        refine wl_val (v := .bool true) (w' := w_7) (by kernel_rfl) (run_pick_t (v := .bool true) (tr2 (c := (!b_2)) (by kernel_rfl) (not_f hc_5)) (by kernel_rfl)) ?_
        refine wl_nil ?_
        have hS : Stp w0.heap.size _ [some g_5, some g_4, some g_2, some g_1] F [] w_7 _ := Stp.pick hL [0, 1, 3, 4] rfl (by decide)
        replace h_1 := hS.box h_1 nilN
        replace h_2 := hS.box h_2 nilN
        replace h_10 := hS.box h_10 nilN
        replace h_14 := hS.box h_14 nilN
        replace hB := hS.below hL hB
        replace hL := hS.hL
        exact then_c ⟨true, (fun i => ([.bool b_1, .bool (!b_1), .bool (!b_1), .bool b_2, .bool (!b_2), .bool (!b_2), .bool (!b_2), undef, undef, undef, undef, undef] : List Value).getD i undef), by kernel_rfl, hL, hB, h_1, h_2, h_10, h_14, hm⟩
    · have hm := ite_f hm hc_4
      refine wl_not0 (wg (c := (!b_1)) (want := false) (by kernel_rfl) (not_f hc_4) rfl) (by kernel_rfl) ?_
      refine wl_not0 (wg (c := (!b_1)) (want := false) (by kernel_rfl) (not_f hc_4) rfl) (by kernel_rfl) ?_
      refine wl_val (v := .bool true) (w' := w_7) (by kernel_rfl) (run_pick_t (v := .bool true) (tr2 (c := (!b_1)) (by kernel_rfl) (not_f hc_4)) (by kernel_rfl)) ?_
      refine wl_val (v := .bool true) (w' := w_7) (by kernel_rfl) (run_move (v := .bool true) (by kernel_rfl)) ?_
      refine wl_not0 (by kernel_rfl) (by kernel_rfl) ?_
      refine wl_not0 (by kernel_rfl) (by kernel_rfl) ?_
      refine wl_not0 (by kernel_rfl) (by kernel_rfl) ?_
      refine wl_not0 (by kernel_rfl) (by kernel_rfl) ?_
      refine wl_not0 (by kernel_rfl) (by kernel_rfl) ?_
      refine wl_val (v := .bool true) (w' := w_7) (by kernel_rfl) (run_pick_t (v := .bool true) (by kernel_rfl) (by kernel_rfl)) ?_
      refine wl_nil ?_
      have hS : Stp w0.heap.size _ [some g_5, some g_4, some g_2, some g_1] F [] w_7 _ := Stp.pick hL [0, 1, 3, 4] rfl (by decide)
      replace h_1 := hS.box h_1 nilN
      replace h_2 := hS.box h_2 nilN
      replace h_10 := hS.box h_10 nilN
      replace h_14 := hS.box h_14 nilN
      replace hB := hS.below hL hB
      replace hL := hS.hL
      exact then_c ⟨true, (fun i => ([.bool b_1, .bool (!b_1), .bool (!b_1), undef, undef, .bool true, .bool true, undef, undef, undef, undef, undef] : List Value).getD i undef), by kernel_rfl, hL, hB, h_1, h_2, h_10, h_14, hm⟩
  · intro l1 w_8 hI
    obtain ⟨x_3, u_1, rfl, hL, hB, h_1, h_2, h_10, h_14, hm⟩ := hI
    unfold m11_J1 at hm
    refine cw_cond (t := x_3) (by kernel_rfl) (fun hc_3 => ?_) (fun hc_3 => ?_)
    · have hm := ite_t hm hc_3
      refine cw_seq ?_
      refine cw_region ?_
      refine wl_val (v := .agg #[.int .i64 0, .int .u8 0]) (w' := w_8) (by kernel_rfl) (by kernel_rfl) ?_
      refine wl_op (by kernel_rfl) (ow_store_box' (g := g_2) (j := 0) (v := .agg #[.int .i64 0, .int .u8 0]) (vs := [.int .i64 0, .int .u8 0]) (cs' := [.int .i64 0, .int .u8 0]) sz_23 (by kernel_rfl) (by kernel_rfl) rfl rfl rfl hL h_2 rfl (by simp) rfl ?_)
      intro w_9 hS h_15
      replace h_1 := hS.box h_1 (hL.apart 3 2 rfl rfl (by decide) _ rfl)
      replace h_10 := hS.box h_10 (hL.apart 1 2 rfl rfl (by decide) _ rfl)
      replace h_14 := hS.box h_14 (hL.apart 0 2 rfl rfl (by decide) _ rfl)
      replace hB := hS.below hL hB
      replace hL := hS.hL
      refine wl_val (v := .bool false) (w' := w_9) (by kernel_rfl) (run_assign (v := .bool false) (by kernel_rfl)) ?_
      refine wl_nil ?_
      refine then_n ?_
      refine cw_ret ?_
      refine then_ret ?_
      have hl0 := loadVar_boxn (P := Tryd.prog) (j := 0) (vs := [.int .i64 0, .int .u8 0]) Tryd.underlying23 rfl sz_23 h_15 (by kernel_rfl) rfl
      have hS : Stp w0.heap.size _ [] F [] w_9 _ := Stp.pick hL [] rfl (by decide)
      replace hB := hS.below hL hB
      replace hL := hS.hL
      obtain rfl := Option.some.inj hm
      exact ret2 (v := .agg #[.int .i64 0, .int .u8 0]) (v' := .bool false) rfl (resv_cell (ad := ⟨g_2, 0, none⟩) (by kernel_rfl) hl0) (resv_tmp (by kernel_rfl)) ⟨_, rfl, by kernel_rfl, hB⟩
    · have hm := ite_f hm hc_3
      refine cw_skip ?_
      refine then_n ?_
      refine cw_seq ?_
      refine cw_region ?_
      refine wl_val (v := .agg #[.int .i64 p0_0.N, .int .u8 p0_0.D]) (w' := w_8) (by kernel_rfl) (run_load_boxn (j := 0) (vs := [.int .i64 p0_0.N, .int .u8 p0_0.D]) Tryd.underlying23 rfl sz_23 (by kernel_rfl) h_1 (by kernel_rfl) rfl) ?_
      refine wl_val (v := .pointer (some ⟨g_4, 1, none⟩)) (w' := w_8) (by kernel_rfl) (run_fieldAddr (b := g_4) (o := 0) fo_28_1 (by kernel_rfl)) ?_
      refine wl_val (v := .int .i64 x_1.Num) (w' := w_8) (by kernel_rfl) (run_load_box1 (j := 1) Tryd.underlying2 rfl (by kernel_rfl) h_10 (by kernel_rfl)) ?_
      refine wl_val (v := .pointer (some ⟨g_5, 2, none⟩)) (w' := w_8) (by kernel_rfl) (run_fieldAddr (b := g_5) (o := 0) fo_28_2 (by kernel_rfl)) ?_
      refine wl_val (v := .int .i64 x_2.Den) (w' := w_8) (by kernel_rfl) (run_load_box1 (j := 2) Tryd.underlying2 rfl (by kernel_rfl) h_14 (by kernel_rfl)) ?_
      refine wl_val (v := .int .i64 (mul .i64 x_1.Num x_2.Den)) (w' := w_8) (by kernel_rfl) (run_mul (k := .i64) (a := x_1.Num) (b := x_2.Den) (by kernel_rfl) (by kernel_rfl)) ?_
      refine wl_val (v := .pointer (some ⟨g_4, 2, none⟩)) (w' := w_8) (by kernel_rfl) (run_fieldAddr (b := g_4) (o := 0) fo_28_2 (by kernel_rfl)) ?_
      refine wl_val (v := .int .i64 x_1.Den) (w' := w_8) (by kernel_rfl) (run_load_box1 (j := 2) Tryd.underlying2 rfl (by kernel_rfl) h_10 (by kernel_rfl)) ?_
      refine wl_val (v := .pointer (some ⟨g_5, 1, none⟩)) (w' := w_8) (by kernel_rfl) (run_fieldAddr (b := g_5) (o := 0) fo_28_1 (by kernel_rfl)) ?_
      refine wl_val (v := .int .i64 x_2.Num) (w' := w_8) (by kernel_rfl) (run_load_box1 (j := 1) Tryd.underlying2 rfl (by kernel_rfl) h_14 (by kernel_rfl)) ?_
      refine wl_val (v := .int .i64 (mul .i64 x_1.Den x_2.Num)) (w' := w_8) (by kernel_rfl) (run_mul (k := .i64) (a := x_1.Den) (b := x_2.Num) (by kernel_rfl) (by kernel_rfl)) ?_
      obtain ⟨r_2, h_16, hm⟩ := bind_e hm
      refine wl_op (by kernel_rfl) (ow_enter (run_callf (vs := [.agg #[.int .i64 p0_0.N, .int .u8 p0_0.D], .int .i64 (mul .i64 x_1.Num x_2.Den), .int .i64 (mul .i64 x_1.Den x_2.Num)]) Tryd.func13 nm_13 (by kernel_rfl) (by kernel_rfl)) (f13_ok (p0_0 := p0_0) (p1_0 := (mul .i64 x_1.Num x_2.Den)) (p2_0 := (mul .i64 x_1.Den x_2.Num)) fuel _ w_8 hL.lt  h_16) ?_)
      intro vR w_10 hR
      obtain ⟨rfl, hBe⟩ := hR
      have hS := Stp.call hL (Fz.of_below hBe [])
      replace h_1 := hS.box h_1 nilN
      replace h_2 := hS.box h_2 nilN
      replace h_10 := hS.box h_10 nilN
      replace h_14 := hS.box h_14 nilN
      replace hB := hS.below hL hB
      replace hL := hS.hL
      refine wl_val (v := .agg #[.int .i64 r_2.1.N, .int .u8 r_2.1.D]) (w' := w_10) (by kernel_rfl) (run_extract (vs := #[.agg #[.int .i64 r_2.1.N, .int .u8 r_2.1.D], .bool r_2.2]) (by kernel_rfl) (by kernel_rfl)) ?_
      refine wl_val (v := .bool r_2.2) (w' := w_10) (by kernel_rfl) (run_extract (vs := #[.agg #[.int .i64 r_2.1.N, .int .u8 r_2.1.D], .bool r_2.2]) (by kernel_rfl) (by kernel_rfl)) ?_
      refine wl_op (by kernel_rfl) (ow_store_box' (g := g_2) (j := 0) (v := .agg #[.int .i64 r_2.1.N, .int .u8 r_2.1.D]) (vs := [.int .i64 r_2.1.N, .int .u8 r_2.1.D]) (cs' := [.int .i64 r_2.1.N, .int .u8 r_2.1.D]) sz_23 (by kernel_rfl) (by kernel_rfl) rfl rfl rfl hL h_2 rfl (by simp) rfl ?_)
      intro w_11 hS h_17
      replace h_1 := hS.box h_1 (hL.apart 3 2 rfl rfl (by decide) _ rfl)
      replace h_10 := hS.box h_10 (hL.apart 1 2 rfl rfl (by decide) _ rfl)
      replace h_14 := hS.box h_14 (hL.apart 0 2 rfl rfl (by decide) _ rfl)
      replace hB := hS.below hL hB
      replace hL := hS.hL
      refine wl_val (v := .bool r_2.2) (w' := w_11) (by kernel_rfl) (run_assign (v := .bool r_2.2) (by kernel_rfl)) ?_
      refine wl_nil ?_
      refine then_n ?_
      refine cw_norm [.agg #[.int .i64 p0_0.N, .int .u8 p0_0.D], .string ⟨⟨p1_0⟩⟩, .string ⟨⟨p2_0⟩⟩, .pointer (some ⟨g_1, 0, none⟩), undef, undef, .pointer (some ⟨g_2, 0, none⟩), .bool r_2.2, .map (some g_3), .pointer (some ⟨g_4, 0, none⟩), .bool b_1, .pointer (some ⟨g_5, 0, none⟩), .bool b_2, .map (some g_3), .tuple #[.agg #[.string ⟨⟨x_1.Base⟩⟩, .int .i64 x_1.Num, .int .i64 x_1.Den], .bool b_1], .map (some g_3), .string ⟨⟨p1_0⟩⟩, .tuple #[.agg #[.string ⟨⟨x_1.Base⟩⟩, .int .i64 x_1.Num, .int .i64 x_1.Den], .bool b_1], .agg #[.string ⟨⟨x_1.Base⟩⟩, .int .i64 x_1.Num, .int .i64 x_1.Den], .bool b_1, .tuple #[.agg #[.string ⟨⟨x_2.Base⟩⟩, .int .i64 x_2.Num, .int .i64 x_2.Den], .bool b_2], .map (some g_3), .string ⟨⟨p2_0⟩⟩, .tuple #[.agg #[.string ⟨⟨x_2.Base⟩⟩, .int .i64 x_2.Num, .int .i64 x_2.Den], .bool b_2], .agg #[.string ⟨⟨x_2.Base⟩⟩, .int .i64 x_2.Num, .int .i64 x_2.Den], .bool b_2, (u_1 0), (u_1 1), (u_1 2), (u_1 3), (u_1 4), (u_1 5), (u_1 6), (u_1 7), (u_1 8), (u_1 9), (u_1 10), (u_1 11), .bool x_3, undef, .agg #[.int .i64 p0_0.N, .int .u8 p0_0.D], .pointer (some ⟨g_4, 1, none⟩), .int .i64 x_1.Num, .pointer (some ⟨g_5, 2, none⟩), .int .i64 x_2.Den, .int .i64 (mul .i64 x_1.Num x_2.Den), .pointer (some ⟨g_4, 2, none⟩), .int .i64 x_1.Den, .pointer (some ⟨g_5, 1, none⟩), .int .i64 x_2.Num, .int .i64 (mul .i64 x_1.Den x_2.Num), .tuple #[.agg #[.int .i64 r_2.1.N, .int .u8 r_2.1.D], .bool r_2.2], .agg #[.int .i64 r_2.1.N, .int .u8 r_2.1.D], .bool r_2.2] (by kernel_rfl) ?_
      refine cw_ret ?_
      have hl0 := loadVar_boxn (P := Tryd.prog) (j := 0) (vs := [.int .i64 r_2.1.N, .int .u8 r_2.1.D]) Tryd.underlying23 rfl sz_23 h_17 (by kernel_rfl) rfl
      have hS : Stp w0.heap.size _ [] F [] w_11 _ := Stp.pick hL [] rfl (by decide)
      replace hB := hS.below hL hB
      replace hL := hS.hL
      obtain rfl := Option.some.inj hm
      exact ret2 (v := .agg #[.int .i64 r_2.1.N, .int .u8 r_2.1.D]) (v' := .bool r_2.2) rfl (resv_cell (ad := ⟨g_2, 0, none⟩) (by kernel_rfl) hl0) (resv_tmp (by kernel_rfl)) ⟨_, rfl, by kernel_rfl, hB⟩
end SxYtihfogahdofdmaaDoor

/- Written by program (gen.py): the model of strings.trimRightByte, and the proof that its code computes it. -/
namespace SxYtihfogahdofdmaaDoor
open Go Go.RowKit Sx Go.Proofs
set_option linter.unusedVariables false
set_option linter.unusedSimpArgs false
attribute [local irreducible] WL WX CW OW
/-! ### 57: "strings.trimRightByte" -/
def m57_J1 (fuel : Nat) (s_5 : (List UInt8)) : Option (List UInt8) :=
  some s_5
def m57_J3 (fuel : Nat) (s_7 : (List UInt8)) (self_1 : (((List UInt8)) → Option (List UInt8))) (x_6 : Bool) : Option (List UInt8) :=
  if x_6 then ((cut s_7 0 (sub .i64 (s_7.length : Int) 1)).bind fun s_9 => self_1 s_9) else (m57_J1 fuel  s_7)
def m57_L2 (fuel : Nat) (p1_0 : Int) (self_1 : (List UInt8) → Option (List UInt8)) (s_7 : (List UInt8)) : Option (List UInt8) :=
  if (gt (s_7.length : Int) 0) then ((at? s_7 (sub .i64 (s_7.length : Int) 1)).bind fun b_7 => m57_J3 fuel s_7 self_1 (eqi (b_7.toNat : Int) p1_0)) else (m57_J3 fuel s_7 self_1 false)
def m57 (fuel : Nat) (p0_0 : (List UInt8)) (p1_0 : Int) : Option (List UInt8) :=
  loopF (m57_L2 fuel p1_0) fuel p0_0
@[reducible] def Q57 (F : Lx) (w0 : World) (r : (List UInt8)) (v : Value) (w' : World) : Prop := v = .string ⟨⟨r⟩⟩ ∧ Below w0.heap.size w0 w'
set_option maxRecDepth 100000 in
set_option maxHeartbeats 4000000 in
theorem f57_ok (fuel : Nat) (F : Lx) (w0 : World) (hF : ∀ k, some k ∈ F → k < w0.heap.size) {p0_0 : (List UInt8)} {p1_0 : Int} {r : (List UInt8)} (hm : m57 fuel p0_0 p1_0 = some r) :
    Calls Tryd.prog 57 #[.string ⟨⟨p0_0⟩⟩, .int .u8 p1_0] w0 (fun e w' => ∃ v, e = .returned v ∧ Q57 F w0 r v w') := by
  have hPF : PF (bodyPost Tryd.prog Tryd.f57 (fun e w' => ∃ v, e = .returned v ∧ Q57 F w0 r v w')) := PF.body (fun c w h => by obtain ⟨v, e, _⟩ := h; cases e)
  have hL := LOk.start hF
  have hB := Below.refl w0.heap.size w0
  unfold m57 at hm
  refine enter (l := [.string ⟨⟨p0_0⟩⟩, .int .u8 p1_0, undef, undef, undef, undef, undef, undef, undef, undef, undef, undef, undef, undef, undef, undef, undef, undef, undef, undef, undef, undef, undef]) Tryd.func57 rfl Tryd.ntmps57 (by kernel_rfl) ?_
  refine cw_seq ?_
  refine cw_region ?_
  refine wl_val (v := .string ⟨⟨([] : List UInt8)⟩⟩) (w' := w0) (by kernel_rfl) (run_assign (v := .string ⟨⟨([] : List UInt8)⟩⟩) (by kernel_rfl)) ?_
  refine wl_nil ?_
  refine then_n ?_
  refine cw_cut (fun l' w' => ∃ s_5, ∃ u_6 : Nat → Value, l' = [.string ⟨⟨s_5⟩⟩, .int .u8 p1_0, undef, undef, .string ⟨⟨([] : List UInt8)⟩⟩, (u_6 0), (u_6 1), (u_6 2), (u_6 3), (u_6 4), (u_6 5), (u_6 6), (u_6 7), (u_6 8), (u_6 9), (u_6 10), (u_6 11), (u_6 12), (u_6 13), (u_6 14), (u_6 15), (u_6 16), undef] ∧ LOk w0.heap.size [] F w' ∧ Below w0.heap.size w0 w' ∧ m57_J1 fuel s_5 = some r) ?_ ?_
  · refine cw_block ?_
    refine cw_loop (σ := (List UInt8)) (m57_L2 fuel p1_0) r (fun s l' w' => ∃ u_9 : Nat → Value, l' = [.string ⟨⟨s⟩⟩, .int .u8 p1_0, undef, undef, .string ⟨⟨([] : List UInt8)⟩⟩, (u_9 0), (u_9 1), (u_9 2), (u_9 3), (u_9 4), (u_9 5), (u_9 6), (u_9 7), (u_9 8), (u_9 9), (u_9 10), (u_9 11), (u_9 12), (u_9 13), (u_9 14), (u_9 15), (u_9 16), undef] ∧ LOk w0.heap.size [] F w' ∧ Below w0.heap.size w0 w') ?_ (s := p0_0) (n := fuel) ⟨(fun i => ([undef, undef, undef, undef, undef, undef, undef, undef, undef, undef, undef, undef, undef, undef, undef, undef, undef] : List Value).getD i undef), by kernel_rfl, hL, hB⟩ hm
    intro self_1 s l1 w_2 hI hm
    obtain ⟨s_7, rfl⟩ : ∃ z, z = s := ⟨s, rfl⟩
    try dsimp only at hI
    obtain ⟨u_9, rfl, hL, hB⟩ := hI
    unfold m57_L2 at hm
    refine cw_seq ?_
    refine cw_cut (fun l' w' => ∃ x_6, ∃ u_11 : Nat → Value, l' = [.string ⟨⟨s_7⟩⟩, .int .u8 p1_0, undef, undef, .string ⟨⟨([] : List UInt8)⟩⟩, (u_11 0), (u_11 1), (u_11 2), (u_11 3), (u_11 4), (u_11 5), (u_11 6), (u_11 7), (u_11 8), (u_11 9), (u_11 10), .bool x_6, (u_9 12), (u_9 13), (u_9 14), (u_9 15), (u_9 16), undef] ∧ LOk w0.heap.size [] F w' ∧ Below w0.heap.size w0 w' ∧ m57_J3 fuel s_7 self_1 x_6 = some r) ?_ ?_
    · refine cw_region ?_
      refine wl_val (v := .string ⟨⟨s_7⟩⟩) (w' := w_2) (by kernel_rfl) (run_move (v := .string ⟨⟨s_7⟩⟩) (by kernel_rfl)) ?_
      refine wl_val (v := .int .i64 (s_7.length : Int)) (w' := w_2) (by kernel_rfl) (run_len_str (s := s_7) Tryd.underlying9 (by kernel_rfl)) ?_
      refine wl_val (v := .bool (gt (s_7.length : Int) 0)) (w' := w_2) (by kernel_rfl) (run_gt (k := .i64) (a := (s_7.length : Int)) (b := 0) (by kernel_rfl) (by kernel_rfl)) ?_
      refine wl_val (v := .bool (gt (s_7.length : Int) 0)) (w' := w_2) (by kernel_rfl) (run_move (v := .bool (gt (s_7.length : Int) 0)) (by kernel_rfl)) ?_
      rcases Bool.eq_false_or_eq_true (gt (s_7.length : Int) 0) with hc_13 | hc_13
      · have hm := ite_t hm hc_13
        refine wl_val (v := .string ⟨⟨s_7⟩⟩) (w' := w_2) (wg (c := (gt (s_7.length : Int) 0)) (want := true) (by kernel_rfl) hc_13 rfl) (run_move (v := .string ⟨⟨s_7⟩⟩) (by kernel_rfl)) ?_
        refine wl_val (v := .string ⟨⟨s_7⟩⟩) (w' := w_2) (wg (c := (gt (s_7.length : Int) 0)) (want := true) (by kernel_rfl) hc_13 rfl) (run_move (v := .string ⟨⟨s_7⟩⟩) (by kernel_rfl)) ?_
        refine wl_val (v := .int .i64 (s_7.length : Int)) (w' := w_2) (wg (c := (gt (s_7.length : Int) 0)) (want := true) (by kernel_rfl) hc_13 rfl) (run_len_str (s := s_7) Tryd.underlying9 (by kernel_rfl)) ?_
        refine wl_val (v := .int .i64 (sub .i64 (s_7.length : Int) 1)) (w' := w_2) (wg (c := (gt (s_7.length : Int) 0)) (want := true) (by kernel_rfl) hc_13 rfl) (run_sub (k := .i64) (a := (s_7.length : Int)) (b := 1) (by kernel_rfl) (by kernel_rfl)) ?_
        obtain ⟨b_7, h_19, hm⟩ := bind_e hm
        obtain ⟨h_200, h_201, _⟩ := at_some h_19
        refine wl_val (v := .int .u8 (b_7.toNat : Int)) (w' := w_2) (wg (c := (gt (s_7.length : Int) 0)) (want := true) (by kernel_rfl) hc_13 rfl) (run_index_str (s := s_7) (k := .i64) (j := (sub .i64 (s_7.length : Int) 1)) Tryd.underlying9 (by kernel_rfl) (by kernel_rfl) h_200 h_201) ?_
        refine wl_norm [.string ⟨⟨s_7⟩⟩, .int .u8 p1_0, undef, undef, .string ⟨⟨([] : List UInt8)⟩⟩, .string ⟨⟨s_7⟩⟩, .int .i64 (s_7.length : Int), .bool (gt (s_7.length : Int) 0), .bool (gt (s_7.length : Int) 0), .string ⟨⟨s_7⟩⟩, .string ⟨⟨s_7⟩⟩, .int .i64 (s_7.length : Int), .int .i64 (sub .i64 (s_7.length : Int) 1), .int .u8 (b_7.toNat : Int), (u_9 9), (u_9 10), (u_9 11), (u_9 12), (u_9 13), (u_9 14), (u_9 15), (u_9 16), undef] (by kernel_rfl) ?_
        refine wl_val (v := .int .u8 p1_0) (w' := w_2) (wg (c := (gt (s_7.length : Int) 0)) (want := true) (by kernel_rfl) hc_13 rfl) (run_move (v := .int .u8 p1_0) (by kernel_rfl)) ?_
        refine wl_val (v := .bool (eqi (b_7.toNat : Int) p1_0)) (w' := w_2) (wg (c := (gt (s_7.length : Int) 0)) (want := true) (by kernel_rfl) hc_13 rfl) (run_eqi (k := .u8) (a := (b_7.toNat : Int)) (b := p1_0) (by kernel_rfl) (by kernel_rfl)) ?_
        refine wl_val (v := .bool (eqi (b_7.toNat : Int) p1_0)) (w' := w_2) (by kernel_rfl) (run_pick_t (v := .bool (eqi (b_7.toNat : Int) p1_0)) (tr2 (c := (gt (s_7.length : Int) 0)) (by kernel_rfl) hc_13) (by kernel_rfl)) ?_
        refine wl_nil ?_
        exact then_c ⟨(eqi (b_7.toNat : Int) p1_0), (fun i => ([.string ⟨⟨s_7⟩⟩, .int .i64 (s_7.length : Int), .bool (gt (s_7.length : Int) 0), .bool (gt (s_7.length : Int) 0), .string ⟨⟨s_7⟩⟩, .string ⟨⟨s_7⟩⟩, .int .i64 (s_7.length : Int), .int .i64 (sub .i64 (s_7.length : Int) 1), .int .u8 (b_7.toNat : Int), .int .u8 p1_0, .bool (eqi (b_7.toNat : Int) p1_0)] : List Value).getD i undef), by kernel_rfl, hL, hB, hm⟩
      · have hm := ite_f hm hc_13
        refine wl_not (wg (c := (gt (s_7.length : Int) 0)) (want := true) (by kernel_rfl) hc_13 rfl) ?_
        refine wl_not (wg (c := (gt (s_7.length : Int) 0)) (want := true) (by kernel_rfl) hc_13 rfl) ?_
        refine wl_not (wg (c := (gt (s_7.length : Int) 0)) (want := true) (by kernel_rfl) hc_13 rfl) ?_
        refine wl_not (wg (c := (gt (s_7.length : Int) 0)) (want := true) (by kernel_rfl) hc_13 rfl) ?_
        refine wl_not (wg (c := (gt (s_7.length : Int) 0)) (want := true) (by kernel_rfl) hc_13 rfl) ?_
        refine wl_norm [.string ⟨⟨s_7⟩⟩, .int .u8 p1_0, undef, undef, .string ⟨⟨([] : List UInt8)⟩⟩, .string ⟨⟨s_7⟩⟩, .int .i64 (s_7.length : Int), .bool (gt (s_7.length : Int) 0), .bool (gt (s_7.length : Int) 0), undef, undef, undef, undef, undef, (u_9 9), (u_9 10), (u_9 11), (u_9 12), (u_9 13), (u_9 14), (u_9 15), (u_9 16), undef] (by kernel_rfl) ?_
        refine wl_not (wg (c := (gt (s_7.length : Int) 0)) (want := true) (by kernel_rfl) hc_13 rfl) ?_
        refine wl_not (wg (c := (gt (s_7.length : Int) 0)) (want := true) (by kernel_rfl) hc_13 rfl) ?_
        refine wl_val (v := .bool false) (w' := w_2) (by kernel_rfl) (run_pick_f (v := .bool false) (tr2 (c := (gt (s_7.length : Int) 0)) (by kernel_rfl) hc_13) (by kernel_rfl)) ?_
        refine wl_nil ?_
        exact then_c ⟨false, (fun i => ([.string ⟨⟨s_7⟩⟩, .int .i64 (s_7.length : Int), .bool (gt (s_7.length : Int) 0), .bool (gt (s_7.length : Int) 0), undef, undef, undef, undef, undef, undef, undef] : List Value).getD i undef), by kernel_rfl, hL, hB, hm⟩
    · intro l1 w_3 hI
      obtain ⟨x_6, u_11, rfl, hL, hB, hm⟩ := hI
      unfold m57_J3 at hm
      refine cw_cond (t := x_6) (by kernel_rfl) (fun hc_12 => ?_) (fun hc_12 => ?_)
      · have hm := ite_t hm hc_12
        refine cw_skip ?_
        refine then_n ?_
        refine cw_block ?_
        refine cw_region ?_
        refine wl_val (v := .string ⟨⟨s_7⟩⟩) (w' := w_3) (by kernel_rfl) (run_move (v := .string ⟨⟨s_7⟩⟩) (by kernel_rfl)) ?_
        refine wl_val (v := .string ⟨⟨s_7⟩⟩) (w' := w_3) (by kernel_rfl) (run_move (v := .string ⟨⟨s_7⟩⟩) (by kernel_rfl)) ?_
        refine wl_val (v := .int .i64 (s_7.length : Int)) (w' := w_3) (by kernel_rfl) (run_len_str (s := s_7) Tryd.underlying9 (by kernel_rfl)) ?_
        refine wl_val (v := .int .i64 (sub .i64 (s_7.length : Int) 1)) (w' := w_3) (by kernel_rfl) (run_sub (k := .i64) (a := (s_7.length : Int)) (b := 1) (by kernel_rfl) (by kernel_rfl)) ?_
        obtain ⟨s_9, h_18, hm⟩ := bind_e hm
        refine wl_val (v := .string ⟨⟨s_9⟩⟩) (w' := w_3) (by kernel_rfl) (run_slice_str_h (s := s_7) (k := .i64) (j := (sub .i64 (s_7.length : Int) 1)) Tryd.underlying9 (by kernel_rfl) (by kernel_rfl) h_18) ?_
        refine wl_val (v := .string ⟨⟨s_9⟩⟩) (w' := w_3) (by kernel_rfl) (run_assign (v := .string ⟨⟨s_9⟩⟩) (by kernel_rfl)) ?_
        refine wl_nil ?_
        refine inBlock_n ?_
        exact ⟨_, rfl, s_9, ⟨(fun i => ([(u_11 0), (u_11 1), (u_11 2), (u_11 3), (u_11 4), (u_11 5), (u_11 6), (u_11 7), (u_11 8), (u_11 9), (u_11 10), .bool x_6, .string ⟨⟨s_7⟩⟩, .string ⟨⟨s_7⟩⟩, .int .i64 (s_7.length : Int), .int .i64 (sub .i64 (s_7.length : Int) 1), .string ⟨⟨s_9⟩⟩] : List Value).getD i undef), by kernel_rfl, hL, hB⟩, hm⟩
      · have hm := ite_f hm hc_12
        refine cw_exit ?_
        refine then_exit ?_
        refine then_exit ?_
        refine inBlock_same ?_
        exact then_c ⟨s_7, (fun i => ([(u_11 0), (u_11 1), (u_11 2), (u_11 3), (u_11 4), (u_11 5), (u_11 6), (u_11 7), (u_11 8), (u_11 9), (u_11 10), .bool x_6, (u_9 12), (u_9 13), (u_9 14), (u_9 15), (u_9 16)] : List Value).getD i undef), by kernel_rfl, hL, hB, hm⟩
  · intro l1 w_1 hI
    obtain ⟨s_5, u_6, rfl, hL, hB, hm⟩ := hI
    unfold m57_J1 at hm
    refine cw_seq ?_
    refine cw_region ?_
    refine wl_val (v := .string ⟨⟨s_5⟩⟩) (w' := w_1) (by kernel_rfl) (run_move (v := .string ⟨⟨s_5⟩⟩) (by kernel_rfl)) ?_
    refine wl_val (v := .string ⟨⟨s_5⟩⟩) (w' := w_1) (by kernel_rfl) (run_assign (v := .string ⟨⟨s_5⟩⟩) (by kernel_rfl)) ?_
    refine wl_nil ?_
    refine then_n ?_
    refine cw_ret ?_
    obtain rfl := Option.some.inj hm
    exact ret1 (v := .string ⟨⟨s_5⟩⟩) rfl (resv_tmp (by kernel_rfl)) ⟨_, rfl, by kernel_rfl, hB⟩
end SxYtihfogahdofdmaaDoor

/- Written by program (gen.py): the model of unicode/utf8.RuneStart, and the proof that its code computes it. -/
namespace SxYtihfogahdofdmaaDoor
open Go Go.RowKit Sx Go.Proofs
set_option linter.unusedVariables false
set_option linter.unusedSimpArgs false
attribute [local irreducible] WL WX CW OW
/-! ### 85: "unicode/utf8.RuneStart" -/
def m85 (fuel : Nat) (p0_0 : Int) : Option Bool :=
  some (nei (band .u8 p0_0 192) 128)
@[reducible] def Q85 (F : Lx) (w0 : World) (r : Bool) (v : Value) (w' : World) : Prop := v = .bool r ∧ Below w0.heap.size w0 w'
set_option maxRecDepth 100000 in
set_option maxHeartbeats 4000000 in
theorem f85_ok (fuel : Nat) (F : Lx) (w0 : World) (hF : ∀ k, some k ∈ F → k < w0.heap.size) {p0_0 : Int} {r : Bool} (hm : m85 fuel p0_0 = some r) :
    Calls Tryd.prog 85 #[.int .u8 p0_0] w0 (fun e w' => ∃ v, e = .returned v ∧ Q85 F w0 r v w') := by
  have hPF : PF (bodyPost Tryd.prog Tryd.f85 (fun e w' => ∃ v, e = .returned v ∧ Q85 F w0 r v w')) := PF.body (fun c w h => by obtain ⟨v, e, _⟩ := h; cases e)
  have hL := LOk.start hF
  have hB := Below.refl w0.heap.size w0
  unfold m85 at hm
  refine enter (l := [.int .u8 p0_0, undef, undef, undef, undef, undef]) Tryd.func85 rfl Tryd.ntmps85 (by kernel_rfl) ?_
  refine cw_seq ?_
  refine cw_region ?_
  refine wl_val (v := .bool false) (w' := w0) (by kernel_rfl) (run_assign (v := .bool false) (by kernel_rfl)) ?_
  refine wl_nil ?_
  refine then_n ?_
  refine cw_seq ?_
  refine cw_region ?_
  refine wl_val (v := .int .u8 p0_0) (w' := w0) (by kernel_rfl) (run_move (v := .int .u8 p0_0) (by kernel_rfl)) ?_
  refine wl_val (v := .int .u8 (band .u8 p0_0 192)) (w' := w0) (by kernel_rfl) (run_band (k := .u8) (a := p0_0) (b := 192) (by kernel_rfl) (by kernel_rfl)) ?_
  refine wl_val (v := .bool (nei (band .u8 p0_0 192) 128)) (w' := w0) (by kernel_rfl) (run_nei (k := .u8) (a := (band .u8 p0_0 192)) (b := 128) (by kernel_rfl) (by kernel_rfl)) ?_
  refine wl_val (v := .bool (nei (band .u8 p0_0 192) 128)) (w' := w0) (by kernel_rfl) (run_assign (v := .bool (nei (band .u8 p0_0 192) 128)) (by kernel_rfl)) ?_
  refine wl_nil ?_
  refine then_n ?_
  refine cw_ret ?_
  obtain rfl := Option.some.inj hm
  exact ret1 (v := .bool (nei (band .u8 p0_0 192) 128)) rfl (resv_tmp (by kernel_rfl)) ⟨_, rfl, by kernel_rfl, hB⟩
end SxYtihfogahdofdmaaDoor

/- Written by program (gen.py): the model of unicode/utf8.decodeRuneInStringSlow, and the proof that its code computes it. -/
namespace SxYtihfogahdofdmaaDoor
open Go Go.RowKit Sx Go.Proofs
set_option linter.unusedVariables false
set_option linter.unusedSimpArgs false
attribute [local irreducible] WL WX CW OW
/-! ### 94: "unicode/utf8.decodeRuneInStringSlow" -/
def m94 (fuel : Nat) (p0_0 : (List UInt8)) : Option (Int × Int) :=
  if (lt (p0_0.length : Int) 1) then (some (65533, 0)) else ((at? p0_0 0).bind fun b_1 => none)
@[reducible] def Q94 (F : Lx) (w0 : World) (r : (Int × Int)) (v : Value) (w' : World) : Prop := v = .tuple #[.int .i32 r.1, .int .i64 r.2] ∧ Below w0.heap.size w0 w'
set_option maxRecDepth 100000 in
set_option maxHeartbeats 4000000 in
theorem f94_ok (fuel : Nat) (F : Lx) (w0 : World) (hF : ∀ k, some k ∈ F → k < w0.heap.size) {p0_0 : (List UInt8)} {r : (Int × Int)} (hm : m94 fuel p0_0 = some r) :
    Calls Tryd.prog 94 #[.string ⟨⟨p0_0⟩⟩] w0 (fun e w' => ∃ v, e = .returned v ∧ Q94 F w0 r v w') := by
  have hPF : PF (bodyPost Tryd.prog Tryd.f94 (fun e w' => ∃ v, e = .returned v ∧ Q94 F w0 r v w')) := PF.body (fun c w h => by obtain ⟨v, e, _⟩ := h; cases e)
  have hL := LOk.start hF
  have hB := Below.refl w0.heap.size w0
  unfold m94 at hm
  refine enter (l := [.string ⟨⟨p0_0⟩⟩, undef, undef, undef, undef, undef, undef, undef, undef, undef, undef, undef, undef, undef, undef, undef, undef, undef, undef, undef, undef, undef, undef, undef, undef, undef, undef, undef, undef, undef, undef, undef, undef, undef, undef, undef, undef, undef, undef, undef, undef, undef, undef, undef, undef, undef, undef, undef, undef, undef, undef, undef, undef, undef, undef, undef, undef, undef, undef, undef, undef, undef, undef, undef, undef, undef, undef, undef, undef, undef, undef, undef, undef, undef, undef, undef, undef, undef, undef, undef, undef, undef, undef, undef, undef, undef, undef, undef, undef, undef, undef, undef, undef, undef, undef, undef, undef, undef, undef, undef, undef, undef, undef, undef, undef, undef, undef, undef, undef, undef, undef, undef, undef, undef, undef, undef, undef]) Tryd.func94 rfl Tryd.ntmps94 (by kernel_rfl) ?_
  refine cw_seq ?_
  refine cw_region ?_
  refine wl_val (v := .int .i32 0) (w' := w0) (by kernel_rfl) (run_assign (v := .int .i32 0) (by kernel_rfl)) ?_
  refine wl_val (v := .int .i64 0) (w' := w0) (by kernel_rfl) (run_assign (v := .int .i64 0) (by kernel_rfl)) ?_
  refine wl_nil ?_
  refine then_n ?_
  refine cw_seq ?_
  refine cw_region ?_
  refine wl_val (v := .string ⟨⟨p0_0⟩⟩) (w' := w0) (by kernel_rfl) (run_move (v := .string ⟨⟨p0_0⟩⟩) (by kernel_rfl)) ?_
  refine wl_val (v := .int .i64 (p0_0.length : Int)) (w' := w0) (by kernel_rfl) (run_len_str (s := p0_0) Tryd.underlying9 (by kernel_rfl)) ?_
  refine wl_val (v := .int .i64 (p0_0.length : Int)) (w' := w0) (by kernel_rfl) (run_assign (v := .int .i64 (p0_0.length : Int)) (by kernel_rfl)) ?_
  refine wl_nil ?_
  refine then_n ?_
  refine cw_seq ?_
  refine cw_seq ?_
  refine cw_region ?_
  refine wl_val (v := .int .i64 (p0_0.length : Int)) (w' := w0) (by kernel_rfl) (run_move (v := .int .i64 (p0_0.length : Int)) (by kernel_rfl)) ?_
  refine wl_val (v := .bool (lt (p0_0.length : Int) 1)) (w' := w0) (by kernel_rfl) (run_lt (k := .i64) (a := (p0_0.length : Int)) (b := 1) (by kernel_rfl) (by kernel_rfl)) ?_
  refine wl_nil ?_
  refine then_n ?_
  refine cw_cond (t := (lt (p0_0.length : Int) 1)) (by kernel_rfl) (fun hc_1 => ?_) (fun hc_1 => ?_)
  · have hm := ite_t hm hc_1
    refine cw_seq ?_
    refine cw_region ?_
    refine wl_val (v := .int .i32 65533) (w' := w0) (by kernel_rfl) (run_assign (v := .int .i32 65533) (by kernel_rfl)) ?_
    refine wl_val (v := .int .i64 0) (w' := w0) (by kernel_rfl) (run_assign (v := .int .i64 0) (by kernel_rfl)) ?_
    refine wl_nil ?_
    refine then_n ?_
    refine cw_ret ?_
    refine then_ret ?_
    obtain rfl := Option.some.inj hm
    exact ret2 (v := .int .i32 65533) (v' := .int .i64 0) rfl (resv_tmp (by kernel_rfl)) (resv_tmp (by kernel_rfl)) ⟨_, rfl, by kernel_rfl, hB⟩
  · have hm := ite_f hm hc_1
    refine cw_skip ?_
    refine then_n ?_
    refine cw_seq ?_
    refine cw_region ?_
    refine wl_val (v := .string ⟨⟨p0_0⟩⟩) (w' := w0) (by kernel_rfl) (run_move (v := .string ⟨⟨p0_0⟩⟩) (by kernel_rfl)) ?_
    obtain ⟨b_1, h_1, hm⟩ := bind_e hm
    obtain ⟨h_20, h_21, _⟩ := at_some h_1
    refine wl_val (v := .int .u8 (b_1.toNat : Int)) (w' := w0) (by kernel_rfl) (run_index_str (s := p0_0) (k := .i64) (j := 0) Tryd.underlying9 (by kernel_rfl) (by kernel_rfl) h_20 h_21) ?_
    refine wl_val (v := .int .u8 (b_1.toNat : Int)) (w' := w0) (by kernel_rfl) (run_assign (v := .int .u8 (b_1.toNat : Int)) (by kernel_rfl)) ?_
    refine wl_nil ?_
    refine then_n ?_
    refine cw_seq ?_
    refine cw_region ?_
    refine wl_val (v := .int .u8 (b_1.toNat : Int)) (w' := w0) (by kernel_rfl) (run_move (v := .int .u8 (b_1.toNat : Int)) (by kernel_rfl)) ?_
    cases hm
end SxYtihfogahdofdmaaDoor

/- Written by program (gen.py): the model of unicode/utf8.DecodeRuneInString, and the proof that its code computes it. -/
namespace SxYtihfogahdofdmaaDoor
open Go Go.RowKit Sx Go.Proofs
set_option linter.unusedVariables false
set_option linter.unusedSimpArgs false
attribute [local irreducible] WL WX CW OW
/-! ### 86: "unicode/utf8.DecodeRuneInString" -/
def m86_J1 (fuel : Nat) (p0_0 : (List UInt8)) (x_1 : Bool) : Option (Int × Int) :=
  if x_1 then ((at? p0_0 0).bind fun b_2 => some ((cvt .i32 (b_2.toNat : Int)), 1)) else ((m94 fuel p0_0).bind fun r_1 => some (r_1.1, r_1.2))
def m86 (fuel : Nat) (p0_0 : (List UInt8)) : Option (Int × Int) :=
  if (nes p0_0 ([] : List UInt8)) then ((at? p0_0 0).bind fun b_3 => m86_J1 fuel p0_0 (lt (b_3.toNat : Int) 128)) else (m86_J1 fuel p0_0 false)
@[reducible] def Q86 (F : Lx) (w0 : World) (r : (Int × Int)) (v : Value) (w' : World) : Prop := v = .tuple #[.int .i32 r.1, .int .i64 r.2] ∧ Below w0.heap.size w0 w'
set_option maxRecDepth 100000 in
set_option maxHeartbeats 4000000 in
theorem f86_ok (fuel : Nat) (F : Lx) (w0 : World) (hF : ∀ k, some k ∈ F → k < w0.heap.size) {p0_0 : (List UInt8)} {r : (Int × Int)} (hm : m86 fuel p0_0 = some r) :
    Calls Tryd.prog 86 #[.string ⟨⟨p0_0⟩⟩] w0 (fun e w' => ∃ v, e = .returned v ∧ Q86 F w0 r v w') := by
  have hPF : PF (bodyPost Tryd.prog Tryd.f86 (fun e w' => ∃ v, e = .returned v ∧ Q86 F w0 r v w')) := PF.body (fun c w h => by obtain ⟨v, e, _⟩ := h; cases e)
  have hL := LOk.start hF
  have hB := Below.refl w0.heap.size w0
  unfold m86 at hm
  refine enter (l := [.string ⟨⟨p0_0⟩⟩, undef, undef, undef, undef, undef, undef, undef, undef, undef, undef, undef, undef, undef, undef, undef, undef, undef, undef]) Tryd.func86 rfl Tryd.ntmps86 (by kernel_rfl) ?_
  refine cw_seq ?_
  refine cw_region ?_
  refine wl_val (v := .int .i32 0) (w' := w0) (by kernel_rfl) (run_assign (v := .int .i32 0) (by kernel_rfl)) ?_
  refine wl_val (v := .int .i64 0) (w' := w0) (by kernel_rfl) (run_assign (v := .int .i64 0) (by kernel_rfl)) ?_
  refine wl_nil ?_
  refine then_n ?_
  refine cw_seq ?_
  refine cw_cut (fun l' w' => ∃ x_1, ∃ u_1 : Nat → Value, l' = [.string ⟨⟨p0_0⟩⟩, undef, .int .i32 0, .int .i64 0, (u_1 0), (u_1 1), (u_1 2), (u_1 3), (u_1 4), (u_1 5), .bool x_1, undef, undef, undef, undef, undef, undef, undef, undef] ∧ LOk w0.heap.size [] F w' ∧ Below w0.heap.size w0 w' ∧ m86_J1 fuel p0_0 x_1 = some r) ?_ ?_
  · refine cw_region ?_
    refine wl_val (v := .string ⟨⟨p0_0⟩⟩) (w' := w0) (by kernel_rfl) (run_move (v := .string ⟨⟨p0_0⟩⟩) (by kernel_rfl)) ?_
    refine wl_val (v := .bool (nes p0_0 ([] : List UInt8))) (w' := w0) (by kernel_rfl) (run_nes (a := p0_0) (b := ([] : List UInt8)) (by kernel_rfl) (by kernel_rfl)) ?_
    refine wl_val (v := .bool (nes p0_0 ([] : List UInt8))) (w' := w0) (by kernel_rfl) (run_move (v := .bool (nes p0_0 ([] : List UInt8))) (by kernel_rfl)) ?_
    rcases Bool.eq_false_or_eq_true (nes p0_0 ([] : List UInt8)) with hc_3 | hc_3
    · have hm := ite_t hm hc_3
      refine wl_val (v := .string ⟨⟨p0_0⟩⟩) (w' := w0) (wg (c := (nes p0_0 ([] : List UInt8))) (want := true) (by kernel_rfl) hc_3 rfl) (run_move (v := .string ⟨⟨p0_0⟩⟩) (by kernel_rfl)) ?_
      obtain ⟨b_3, h_6, hm⟩ := bind_e hm
      obtain ⟨h_70, h_71, _⟩ := at_some h_6
      refine wl_val (v := .int .u8 (b_3.toNat : Int)) (w' := w0) (wg (c := (nes p0_0 ([] : List UInt8))) (want := true) (by kernel_rfl) hc_3 rfl) (run_index_str (s := p0_0) (k := .i64) (j := 0) Tryd.underlying9 (by kernel_rfl) (by kernel_rfl) h_70 h_71) ?_
      refine wl_val (v := .bool (lt (b_3.toNat : Int) 128)) (w' := w0) (wg (c := (nes p0_0 ([] : List UInt8))) (want := true) (by kernel_rfl) hc_3 rfl) (run_lt (k := .u8) (a := (b_3.toNat : Int)) (b := 128) (by kernel_rfl) (by kernel_rfl)) ?_
      refine wl_val (v := .bool (lt (b_3.toNat : Int) 128)) (w' := w0) (by kernel_rfl) (run_pick_t (v := .bool (lt (b_3.toNat : Int) 128)) (tr2 (c := (nes p0_0 ([] : List UInt8))) (by kernel_rfl) hc_3) (by kernel_rfl)) ?_
      refine wl_nil ?_
      exact then_c ⟨(lt (b_3.toNat : Int) 128), (fun i => ([.string ⟨⟨p0_0⟩⟩, .bool (nes p0_0 ([] : List UInt8)), .bool (nes p0_0 ([] : List UInt8)), .string ⟨⟨p0_0⟩⟩, .int .u8 (b_3.toNat : Int), .bool (lt (b_3.toNat : Int) 128)] : List Value).getD i undef), by kernel_rfl, hL, hB, hm⟩
    · have hm := ite_f hm hc_3
      refine wl_not0 (wg (c := (nes p0_0 ([] : List UInt8))) (want := true) (by kernel_rfl) hc_3 rfl) (by kernel_rfl) ?_
      refine wl_not0 (wg (c := (nes p0_0 ([] : List UInt8))) (want := true) (by kernel_rfl) hc_3 rfl) (by kernel_rfl) ?_
      refine wl_not0 (wg (c := (nes p0_0 ([] : List UInt8))) (want := true) (by kernel_rfl) hc_3 rfl) (by kernel_rfl) ?_
      refine wl_val (v := .bool false) (w' := w0) (by kernel_rfl) (run_pick_f (v := .bool false) (tr2 (c := (nes p0_0 ([] : List UInt8))) (by kernel_rfl) hc_3) (by kernel_rfl)) ?_
      refine wl_nil ?_
      exact then_c ⟨false, (fun i => ([.string ⟨⟨p0_0⟩⟩, .bool (nes p0_0 ([] : List UInt8)), .bool (nes p0_0 ([] : List UInt8)), undef, undef, undef] : List Value).getD i undef), by kernel_rfl, hL, hB, hm⟩
  · intro l1 w_1 hI
    obtain ⟨x_1, u_1, rfl, hL, hB, hm⟩ := hI
    unfold m86_J1 at hm
    refine cw_cond (t := x_1) (by kernel_rfl) (fun hc_2 => ?_) (fun hc_2 => ?_)
    · have hm := ite_t hm hc_2
      refine cw_seq ?_
      refine cw_region ?_
      refine wl_val (v := .string ⟨⟨p0_0⟩⟩) (w' := w_1) (by kernel_rfl) (run_move (v := .string ⟨⟨p0_0⟩⟩) (by kernel_rfl)) ?_
      obtain ⟨b_2, h_3, hm⟩ := bind_e hm
      obtain ⟨h_40, h_41, _⟩ := at_some h_3
      refine wl_val (v := .int .u8 (b_2.toNat : Int)) (w' := w_1) (by kernel_rfl) (run_index_str (s := p0_0) (k := .i64) (j := 0) Tryd.underlying9 (by kernel_rfl) (by kernel_rfl) h_40 h_41) ?_
      refine wl_val (v := .int .i32 (cvt .i32 (b_2.toNat : Int))) (w' := w_1) (by kernel_rfl) (run_cvt (k := .u8) (a := (b_2.toNat : Int)) Tryd.underlying5 Tryd.underlying21 (by kernel_rfl)) ?_
      refine wl_val (v := .int .i32 (cvt .i32 (b_2.toNat : Int))) (w' := w_1) (by kernel_rfl) (run_assign (v := .int .i32 (cvt .i32 (b_2.toNat : Int))) (by kernel_rfl)) ?_
      refine wl_val (v := .int .i64 1) (w' := w_1) (by kernel_rfl) (run_assign (v := .int .i64 1) (by kernel_rfl)) ?_
      refine wl_nil ?_
      refine then_n ?_
      refine cw_ret ?_
      refine then_ret ?_
      obtain rfl := Option.some.inj hm
      exact ret2 (v := .int .i32 (cvt .i32 (b_2.toNat : Int))) (v' := .int .i64 1) rfl (resv_tmp (by kernel_rfl)) (resv_tmp (by kernel_rfl)) ⟨_, rfl, by kernel_rfl, hB⟩
    · have hm := ite_f hm hc_2
      refine cw_region ?_
      refine wl_val (v := .string ⟨⟨p0_0⟩⟩) (w' := w_1) (by kernel_rfl) (run_move (v := .string ⟨⟨p0_0⟩⟩) (by kernel_rfl)) ?_
      obtain ⟨r_1, h_5, hm⟩ := bind_e hm
      refine wl_op (by kernel_rfl) (ow_enter (run_callf (vs := [.string ⟨⟨p0_0⟩⟩]) Tryd.func94 nm_94 (by kernel_rfl) (by kernel_rfl)) (f94_ok (p0_0 := p0_0) fuel _ w_1 hL.lt  h_5) ?_)
      intro vR w_2 hR
      obtain ⟨rfl, hBe⟩ := hR
      have hS := Stp.call hL (Fz.of_below hBe [])
      replace hB := hS.below hL hB
      replace hL := hS.hL
      refine wl_val (v := .tuple #[.int .i32 r_1.1, .int .i64 r_1.2]) (w' := w_2) (by kernel_rfl) (run_move (v := .tuple #[.int .i32 r_1.1, .int .i64 r_1.2]) (by kernel_rfl)) ?_
      refine wl_val (v := .int .i32 r_1.1) (w' := w_2) (by kernel_rfl) (run_extract (vs := #[.int .i32 r_1.1, .int .i64 r_1.2]) (by kernel_rfl) (by kernel_rfl)) ?_
      refine wl_val (v := .int .i64 r_1.2) (w' := w_2) (by kernel_rfl) (run_extract (vs := #[.int .i32 r_1.1, .int .i64 r_1.2]) (by kernel_rfl) (by kernel_rfl)) ?_
      refine wl_val (v := .int .i32 r_1.1) (w' := w_2) (by kernel_rfl) (run_assign (v := .int .i32 r_1.1) (by kernel_rfl)) ?_
      refine wl_val (v := .int .i64 r_1.2) (w' := w_2) (by kernel_rfl) (run_assign (v := .int .i64 r_1.2) (by kernel_rfl)) ?_
      refine wl_nil ?_
      refine then_n ?_
      refine cw_ret ?_
      obtain rfl := Option.some.inj hm
      exact ret2 (v := .int .i32 r_1.1) (v' := .int .i64 r_1.2) rfl (resv_tmp (by kernel_rfl)) (resv_tmp (by kernel_rfl)) ⟨_, rfl, by kernel_rfl, hB⟩
end SxYtihfogahdofdmaaDoor

/- Written by program (gen.py): the model of unicode/utf8.DecodeLastRuneInString, and the proof that its code computes it. -/
namespace SxYtihfogahdofdmaaDoor
open Go Go.RowKit Sx Go.Proofs
set_option linter.unusedVariables false
set_option linter.unusedSimpArgs false
attribute [local irreducible] WL WX CW OW
/-! ### 72: "unicode/utf8.DecodeLastRuneInString" -/
def m72 (fuel : Nat) (p0_0 : (List UInt8)) : Option (Int × Int) :=
  if (eqi (p0_0.length : Int) 0) then (some (65533, 0)) else ((at? p0_0 (sub .i64 (p0_0.length : Int) 1)).bind fun b_1 => if (lt (cvt .i32 (b_1.toNat : Int)) 128) then (some ((cvt .i32 (b_1.toNat : Int)), 1)) else (none))
@[reducible] def Q72 (F : Lx) (w0 : World) (r : (Int × Int)) (v : Value) (w' : World) : Prop := v = .tuple #[.int .i32 r.1, .int .i64 r.2] ∧ Below w0.heap.size w0 w'
set_option maxRecDepth 100000 in
set_option maxHeartbeats 4000000 in
theorem f72_ok (fuel : Nat) (F : Lx) (w0 : World) (hF : ∀ k, some k ∈ F → k < w0.heap.size) {p0_0 : (List UInt8)} {r : (Int × Int)} (hm : m72 fuel p0_0 = some r) :
    Calls Tryd.prog 72 #[.string ⟨⟨p0_0⟩⟩] w0 (fun e w' => ∃ v, e = .returned v ∧ Q72 F w0 r v w') := by
  have hPF : PF (bodyPost Tryd.prog Tryd.f72 (fun e w' => ∃ v, e = .returned v ∧ Q72 F w0 r v w')) := PF.body (fun c w h => by obtain ⟨v, e, _⟩ := h; cases e)
  have hL := LOk.start hF
  have hB := Below.refl w0.heap.size w0
  unfold m72 at hm
  refine enter (l := [.string ⟨⟨p0_0⟩⟩, undef, undef, undef, undef, undef, undef, undef, undef, undef, undef, undef, undef, undef, undef, undef, undef, undef, undef, undef, undef, undef, undef, undef, undef, undef, undef, undef, undef, undef, undef, undef, undef, undef, undef, undef, undef, undef, undef, undef, undef, undef, undef, undef, undef, undef, undef, undef, undef, undef, undef]) Tryd.func72 rfl Tryd.ntmps72 (by kernel_rfl) ?_
  refine cw_seq ?_
  refine cw_region ?_
  refine wl_val (v := .int .i32 0) (w' := w0) (by kernel_rfl) (run_assign (v := .int .i32 0) (by kernel_rfl)) ?_
  refine wl_val (v := .int .i64 0) (w' := w0) (by kernel_rfl) (run_assign (v := .int .i64 0) (by kernel_rfl)) ?_
  refine wl_nil ?_
  refine then_n ?_
  refine cw_seq ?_
  refine cw_region ?_
  refine wl_val (v := .string ⟨⟨p0_0⟩⟩) (w' := w0) (by kernel_rfl) (run_move (v := .string ⟨⟨p0_0⟩⟩) (by kernel_rfl)) ?_
  refine wl_val (v := .int .i64 (p0_0.length : Int)) (w' := w0) (by kernel_rfl) (run_len_str (s := p0_0) Tryd.underlying9 (by kernel_rfl)) ?_
  refine wl_val (v := .int .i64 (p0_0.length : Int)) (w' := w0) (by kernel_rfl) (run_assign (v := .int .i64 (p0_0.length : Int)) (by kernel_rfl)) ?_
  refine wl_nil ?_
  refine then_n ?_
  refine cw_seq ?_
  refine cw_seq ?_
  refine cw_region ?_
  refine wl_val (v := .int .i64 (p0_0.length : Int)) (w' := w0) (by kernel_rfl) (run_move (v := .int .i64 (p0_0.length : Int)) (by kernel_rfl)) ?_
  refine wl_val (v := .bool (eqi (p0_0.length : Int) 0)) (w' := w0) (by kernel_rfl) (run_eqi (k := .i64) (a := (p0_0.length : Int)) (b := 0) (by kernel_rfl) (by kernel_rfl)) ?_
  refine wl_nil ?_
  refine then_n ?_
  refine cw_cond (t := (eqi (p0_0.length : Int) 0)) (by kernel_rfl) (fun hc_1 => ?_) (fun hc_1 => ?_)
  · have hm := ite_t hm hc_1
    refine cw_seq ?_
    refine cw_region ?_
    refine wl_val (v := .int .i32 65533) (w' := w0) (by kernel_rfl) (run_assign (v := .int .i32 65533) (by kernel_rfl)) ?_
    refine wl_val (v := .int .i64 0) (w' := w0) (by kernel_rfl) (run_assign (v := .int .i64 0) (by kernel_rfl)) ?_
    refine wl_nil ?_
    refine then_n ?_
    refine cw_ret ?_
    refine then_ret ?_
    obtain rfl := Option.some.inj hm
    exact ret2 (v := .int .i32 65533) (v' := .int .i64 0) rfl (resv_tmp (by kernel_rfl)) (resv_tmp (by kernel_rfl)) ⟨_, rfl, by kernel_rfl, hB⟩
  · have hm := ite_f hm hc_1
    refine cw_skip ?_
    refine then_n ?_
    refine cw_seq ?_
    refine cw_region ?_
    refine wl_val (v := .int .i64 (p0_0.length : Int)) (w' := w0) (by kernel_rfl) (run_move (v := .int .i64 (p0_0.length : Int)) (by kernel_rfl)) ?_
    refine wl_val (v := .int .i64 (sub .i64 (p0_0.length : Int) 1)) (w' := w0) (by kernel_rfl) (run_sub (k := .i64) (a := (p0_0.length : Int)) (b := 1) (by kernel_rfl) (by kernel_rfl)) ?_
    refine wl_val (v := .int .i64 (sub .i64 (p0_0.length : Int) 1)) (w' := w0) (by kernel_rfl) (run_assign (v := .int .i64 (sub .i64 (p0_0.length : Int) 1)) (by kernel_rfl)) ?_
    refine wl_nil ?_
    refine then_n ?_
    refine cw_seq ?_
    refine cw_region ?_
    refine wl_val (v := .string ⟨⟨p0_0⟩⟩) (w' := w0) (by kernel_rfl) (run_move (v := .string ⟨⟨p0_0⟩⟩) (by kernel_rfl)) ?_
    refine wl_val (v := .int .i64 (sub .i64 (p0_0.length : Int) 1)) (w' := w0) (by kernel_rfl) (run_move (v := .int .i64 (sub .i64 (p0_0.length : Int) 1)) (by kernel_rfl)) ?_
    obtain ⟨b_1, h_1, hm⟩ := bind_e hm
    obtain ⟨h_20, h_21, _⟩ := at_some h_1
    refine wl_val (v := .int .u8 (b_1.toNat : Int)) (w' := w0) (by kernel_rfl) (run_index_str (s := p0_0) (k := .i64) (j := (sub .i64 (p0_0.length : Int) 1)) Tryd.underlying9 (by kernel_rfl) (by kernel_rfl) h_20 h_21) ?_
    refine wl_val (v := .int .i32 (cvt .i32 (b_1.toNat : Int))) (w' := w0) (by kernel_rfl) (run_cvt (k := .u8) (a := (b_1.toNat : Int)) Tryd.underlying5 Tryd.underlying21 (by kernel_rfl)) ?_
    refine wl_norm [.string ⟨⟨p0_0⟩⟩, undef, .int .i32 0, .int .i64 0, .int .i64 (p0_0.length : Int), .int .i64 (sub .i64 (p0_0.length : Int) 1), undef, .string ⟨⟨p0_0⟩⟩, .int .i64 (p0_0.length : Int), .int .i64 (p0_0.length : Int), .bool (eqi (p0_0.length : Int) 0), .int .i64 (p0_0.length : Int), .int .i64 (sub .i64 (p0_0.length : Int) 1), .string ⟨⟨p0_0⟩⟩, .int .i64 (sub .i64 (p0_0.length : Int) 1), .int .u8 (b_1.toNat : Int), .int .i32 (cvt .i32 (b_1.toNat : Int)), undef, undef, undef, undef, undef, undef, undef, undef, undef, undef, undef, undef, undef, undef, undef, undef, undef, undef, undef, undef, undef, undef, undef, undef, undef, undef, undef, undef, undef, undef, undef, undef, undef, undef] (by kernel_rfl) ?_
    refine wl_val (v := .int .i32 (cvt .i32 (b_1.toNat : Int))) (w' := w0) (by kernel_rfl) (run_assign (v := .int .i32 (cvt .i32 (b_1.toNat : Int))) (by kernel_rfl)) ?_
    refine wl_nil ?_
    refine then_n ?_
    refine cw_seq ?_
    refine cw_seq ?_
    refine cw_region ?_
    refine wl_val (v := .int .i32 (cvt .i32 (b_1.toNat : Int))) (w' := w0) (by kernel_rfl) (run_move (v := .int .i32 (cvt .i32 (b_1.toNat : Int))) (by kernel_rfl)) ?_
    refine wl_val (v := .bool (lt (cvt .i32 (b_1.toNat : Int)) 128)) (w' := w0) (by kernel_rfl) (run_lt (k := .i32) (a := (cvt .i32 (b_1.toNat : Int))) (b := 128) (by kernel_rfl) (by kernel_rfl)) ?_
    refine wl_nil ?_
    refine then_n ?_
    refine cw_cond (t := (lt (cvt .i32 (b_1.toNat : Int)) 128)) (by kernel_rfl) (fun hc_2 => ?_) (fun hc_2 => ?_)
    · have hm := ite_t hm hc_2
      refine cw_seq ?_
      refine cw_region ?_
      refine wl_val (v := .int .i32 (cvt .i32 (b_1.toNat : Int))) (w' := w0) (by kernel_rfl) (run_move (v := .int .i32 (cvt .i32 (b_1.toNat : Int))) (by kernel_rfl)) ?_
      refine wl_val (v := .int .i32 (cvt .i32 (b_1.toNat : Int))) (w' := w0) (by kernel_rfl) (run_assign (v := .int .i32 (cvt .i32 (b_1.toNat : Int))) (by kernel_rfl)) ?_
      refine wl_val (v := .int .i64 1) (w' := w0) (by kernel_rfl) (run_assign (v := .int .i64 1) (by kernel_rfl)) ?_
      refine wl_nil ?_
      refine then_n ?_
      refine cw_ret ?_
      refine then_ret ?_
      obtain rfl := Option.some.inj hm
      exact ret2 (v := .int .i32 (cvt .i32 (b_1.toNat : Int))) (v' := .int .i64 1) rfl (resv_tmp (by kernel_rfl)) (resv_tmp (by kernel_rfl)) ⟨_, rfl, by kernel_rfl, hB⟩
    · have hm := ite_f hm hc_2
      refine cw_skip ?_
      refine then_n ?_
      refine cw_seq ?_
      refine cw_region ?_
      refine wl_val (v := .int .i64 (p0_0.length : Int)) (w' := w0) (by kernel_rfl) (run_move (v := .int .i64 (p0_0.length : Int)) (by kernel_rfl)) ?_
      refine wl_val (v := .int .i64 (sub .i64 (p0_0.length : Int) 4)) (w' := w0) (by kernel_rfl) (run_sub (k := .i64) (a := (p0_0.length : Int)) (b := 4) (by kernel_rfl) (by kernel_rfl)) ?_
      cases hm
end SxYtihfogahdofdmaaDoor

/- Written by program (gen.py): the model of strings.ContainsRune, and the proof that its code computes it. -/
namespace SxYtihfogahdofdmaaDoor
open Go Go.RowKit Sx Go.Proofs
set_option linter.unusedVariables false
set_option linter.unusedSimpArgs false
attribute [local irreducible] WL WX CW OW
/-! ### 73: "strings.ContainsRune" -/
def m73 (fuel : Nat) (p0_0 : (List UInt8)) (p1_0 : Int) : Option Bool :=
  none
@[reducible] def Q73 (F : Lx) (w0 : World) (r : Bool) (v : Value) (w' : World) : Prop := v = .bool r ∧ Below w0.heap.size w0 w'
set_option maxRecDepth 100000 in
set_option maxHeartbeats 4000000 in
theorem f73_ok (fuel : Nat) (F : Lx) (w0 : World) (hF : ∀ k, some k ∈ F → k < w0.heap.size) {p0_0 : (List UInt8)} {p1_0 : Int} {r : Bool} (hm : m73 fuel p0_0 p1_0 = some r) :
    Calls Tryd.prog 73 #[.string ⟨⟨p0_0⟩⟩, .int .i32 p1_0] w0 (fun e w' => ∃ v, e = .returned v ∧ Q73 F w0 r v w') := by
  have hPF : PF (bodyPost Tryd.prog Tryd.f73 (fun e w' => ∃ v, e = .returned v ∧ Q73 F w0 r v w')) := PF.body (fun c w h => by obtain ⟨v, e, _⟩ := h; cases e)
  have hL := LOk.start hF
  have hB := Below.refl w0.heap.size w0
  unfold m73 at hm
  refine enter (l := [.string ⟨⟨p0_0⟩⟩, .int .i32 p1_0, undef, undef, undef, undef, undef, undef, undef]) Tryd.func73 rfl Tryd.ntmps73 (by kernel_rfl) ?_
  refine cw_seq ?_
  refine cw_region ?_
  refine wl_val (v := .bool false) (w' := w0) (by kernel_rfl) (run_assign (v := .bool false) (by kernel_rfl)) ?_
  refine wl_nil ?_
  refine then_n ?_
  refine cw_seq ?_
  refine cw_region ?_
  refine wl_val (v := .string ⟨⟨p0_0⟩⟩) (w' := w0) (by kernel_rfl) (run_move (v := .string ⟨⟨p0_0⟩⟩) (by kernel_rfl)) ?_
  refine wl_val (v := .int .i32 p1_0) (w' := w0) (by kernel_rfl) (run_move (v := .int .i32 p1_0) (by kernel_rfl)) ?_
  cases hm
end SxYtihfogahdofdmaaDoor

/- Written by program (gen.py): the model of strings.trimRightUnicode, and the proof that its code computes it. -/
namespace SxYtihfogahdofdmaaDoor
open Go Go.RowKit Sx Go.Proofs
set_option linter.unusedVariables false
set_option linter.unusedSimpArgs false
attribute [local irreducible] WL WX CW OW
/-! ### 60: "strings.trimRightUnicode" -/
def m60_J1 (fuel : Nat) (s_5 : (List UInt8)) : Option (List UInt8) :=
  some s_5
def m60_J3 (fuel : Nat) (p1_0 : (List UInt8)) (s_7 : (List UInt8)) (self_1 : (((List UInt8)) → Option (List UInt8))) (r_17 : Int) (n_6 : Int) : Option (List UInt8) :=
  (m73 fuel p1_0 r_17).bind fun r_18 => if r_18 then ((cut s_7 0 (sub .i64 (s_7.length : Int) n_6)).bind fun s_9 => self_1 s_9) else (m60_J1 fuel  s_7)
def m60_L2 (fuel : Nat) (p1_0 : (List UInt8)) (self_1 : (List UInt8) → Option (List UInt8)) (s_7 : (List UInt8)) : Option (List UInt8) :=
  if (gt (s_7.length : Int) 0) then ((at? s_7 (sub .i64 (s_7.length : Int) 1)).bind fun b_6 => if (ge (cvt .i32 (b_6.toNat : Int)) 128) then ((m72 fuel s_7).bind fun r_19 => m60_J3 fuel p1_0 s_7 self_1 r_19.1 r_19.2) else (m60_J3 fuel p1_0 s_7 self_1 (cvt .i32 (b_6.toNat : Int)) 1)) else (m60_J1 fuel  s_7)
def m60 (fuel : Nat) (p0_0 : (List UInt8)) (p1_0 : (List UInt8)) : Option (List UInt8) :=
  loopF (m60_L2 fuel p1_0) fuel p0_0
@[reducible] def Q60 (F : Lx) (w0 : World) (r : (List UInt8)) (v : Value) (w' : World) : Prop := v = .string ⟨⟨r⟩⟩ ∧ Below w0.heap.size w0 w'
set_option maxRecDepth 100000 in
set_option maxHeartbeats 4000000 in
theorem f60_ok (fuel : Nat) (F : Lx) (w0 : World) (hF : ∀ k, some k ∈ F → k < w0.heap.size) {p0_0 : (List UInt8)} {p1_0 : (List UInt8)} {r : (List UInt8)} (hm : m60 fuel p0_0 p1_0 = some r) :
    Calls Tryd.prog 60 #[.string ⟨⟨p0_0⟩⟩, .string ⟨⟨p1_0⟩⟩] w0 (fun e w' => ∃ v, e = .returned v ∧ Q60 F w0 r v w') := by
  have hPF : PF (bodyPost Tryd.prog Tryd.f60 (fun e w' => ∃ v, e = .returned v ∧ Q60 F w0 r v w')) := PF.body (fun c w h => by obtain ⟨v, e, _⟩ := h; cases e)
  have hL := LOk.start hF
  have hB := Below.refl w0.heap.size w0
  unfold m60 at hm
  refine enter (l := [.string ⟨⟨p0_0⟩⟩, .string ⟨⟨p1_0⟩⟩, undef, undef, undef, undef, undef, undef, undef, undef, undef, undef, undef, undef, undef, undef, undef, undef, undef, undef, undef, undef, undef, undef, undef, undef, undef, undef, undef, undef, undef, undef, undef, undef]) Tryd.func60 rfl Tryd.ntmps60 (by kernel_rfl) ?_
  refine cw_seq ?_
  refine cw_region ?_
  refine wl_val (v := .string ⟨⟨([] : List UInt8)⟩⟩) (w' := w0) (by kernel_rfl) (run_assign (v := .string ⟨⟨([] : List UInt8)⟩⟩) (by kernel_rfl)) ?_
  refine wl_nil ?_
  refine then_n ?_
  refine cw_cut (fun l' w' => ∃ s_5, ∃ u_6 : Nat → Value, l' = [.string ⟨⟨s_5⟩⟩, .string ⟨⟨p1_0⟩⟩, undef, undef, .string ⟨⟨([] : List UInt8)⟩⟩, (u_6 0), (u_6 1), (u_6 2), (u_6 3), (u_6 4), (u_6 5), (u_6 6), (u_6 7), (u_6 8), (u_6 9), (u_6 10), (u_6 11), (u_6 12), (u_6 13), (u_6 14), (u_6 15), (u_6 16), (u_6 17), (u_6 18), (u_6 19), (u_6 20), (u_6 21), (u_6 22), (u_6 23), (u_6 24), (u_6 25), (u_6 26), (u_6 27), undef] ∧ LOk w0.heap.size [] F w' ∧ Below w0.heap.size w0 w' ∧ m60_J1 fuel s_5 = some r) ?_ ?_
  · refine cw_block ?_
    refine cw_loop (σ := (List UInt8)) (m60_L2 fuel p1_0) r (fun s l' w' => ∃ u_9 : Nat → Value, l' = [.string ⟨⟨s⟩⟩, .string ⟨⟨p1_0⟩⟩, undef, undef, .string ⟨⟨([] : List UInt8)⟩⟩, (u_9 0), (u_9 1), (u_9 2), (u_9 3), (u_9 4), (u_9 5), (u_9 6), (u_9 7), (u_9 8), (u_9 9), (u_9 10), (u_9 11), (u_9 12), (u_9 13), (u_9 14), (u_9 15), (u_9 16), (u_9 17), (u_9 18), (u_9 19), (u_9 20), (u_9 21), (u_9 22), (u_9 23), (u_9 24), (u_9 25), (u_9 26), (u_9 27), undef] ∧ LOk w0.heap.size [] F w' ∧ Below w0.heap.size w0 w') ?_ (s := p0_0) (n := fuel) ⟨(fun i => ([undef, undef, undef, undef, undef, undef, undef, undef, undef, undef, undef, undef, undef, undef, undef, undef, undef, undef, undef, undef, undef, undef, undef, undef, undef, undef, undef, undef] : List Value).getD i undef), by kernel_rfl, hL, hB⟩ hm
    intro self_1 s l1 w_12 hI hm
    obtain ⟨s_7, rfl⟩ : ∃ z, z = s := ⟨s, rfl⟩
    try dsimp only at hI
    obtain ⟨u_9, rfl, hL, hB⟩ := hI
    unfold m60_L2 at hm
    refine cw_seq ?_
    refine cw_seq ?_
    refine cw_region ?_
    refine wl_val (v := .string ⟨⟨s_7⟩⟩) (w' := w_12) (by kernel_rfl) (run_move (v := .string ⟨⟨s_7⟩⟩) (by kernel_rfl)) ?_
    refine wl_val (v := .int .i64 (s_7.length : Int)) (w' := w_12) (by kernel_rfl) (run_len_str (s := s_7) Tryd.underlying9 (by kernel_rfl)) ?_
    refine wl_val (v := .bool (gt (s_7.length : Int) 0)) (w' := w_12) (by kernel_rfl) (run_gt (k := .i64) (a := (s_7.length : Int)) (b := 0) (by kernel_rfl) (by kernel_rfl)) ?_
    refine wl_nil ?_
    refine then_n ?_
    refine cw_cond (t := (gt (s_7.length : Int) 0)) (by kernel_rfl) (fun hc_16 => ?_) (fun hc_16 => ?_)
    · have hm := ite_t hm hc_16
      refine cw_skip ?_
      refine then_n ?_
      refine cw_block ?_
      refine cw_seq ?_
      refine cw_region ?_
      refine wl_val (v := .string ⟨⟨s_7⟩⟩) (w' := w_12) (by kernel_rfl) (run_move (v := .string ⟨⟨s_7⟩⟩) (by kernel_rfl)) ?_
      refine wl_val (v := .string ⟨⟨s_7⟩⟩) (w' := w_12) (by kernel_rfl) (run_move (v := .string ⟨⟨s_7⟩⟩) (by kernel_rfl)) ?_
      refine wl_val (v := .int .i64 (s_7.length : Int)) (w' := w_12) (by kernel_rfl) (run_len_str (s := s_7) Tryd.underlying9 (by kernel_rfl)) ?_
      refine wl_val (v := .int .i64 (sub .i64 (s_7.length : Int) 1)) (w' := w_12) (by kernel_rfl) (run_sub (k := .i64) (a := (s_7.length : Int)) (b := 1) (by kernel_rfl) (by kernel_rfl)) ?_
      obtain ⟨b_6, h_26, hm⟩ := bind_e hm
      obtain ⟨h_270, h_271, _⟩ := at_some h_26
      refine wl_val (v := .int .u8 (b_6.toNat : Int)) (w' := w_12) (by kernel_rfl) (run_index_str (s := s_7) (k := .i64) (j := (sub .i64 (s_7.length : Int) 1)) Tryd.underlying9 (by kernel_rfl) (by kernel_rfl) h_270 h_271) ?_
      refine wl_val (v := .int .i32 (cvt .i32 (b_6.toNat : Int))) (w' := w_12) (by kernel_rfl) (run_cvt (k := .u8) (a := (b_6.toNat : Int)) Tryd.underlying5 Tryd.underlying21 (by kernel_rfl)) ?_
      refine wl_val (v := .int .i32 (cvt .i32 (b_6.toNat : Int))) (w' := w_12) (by kernel_rfl) (run_assign (v := .int .i32 (cvt .i32 (b_6.toNat : Int))) (by kernel_rfl)) ?_
      refine wl_val (v := .int .i64 1) (w' := w_12) (by kernel_rfl) (run_assign (v := .int .i64 1) (by kernel_rfl)) ?_
      refine wl_nil ?_
      refine then_n ?_
      refine cw_norm [.string ⟨⟨s_7⟩⟩, .string ⟨⟨p1_0⟩⟩, undef, undef, .string ⟨⟨([] : List UInt8)⟩⟩, .int .i32 (cvt .i32 (b_6.toNat : Int)), .int .i64 1, .string ⟨⟨s_7⟩⟩, .int .i64 (s_7.length : Int), .bool (gt (s_7.length : Int) 0), .string ⟨⟨s_7⟩⟩, .string ⟨⟨s_7⟩⟩, .int .i64 (s_7.length : Int), .int .i64 (sub .i64 (s_7.length : Int) 1), .int .u8 (b_6.toNat : Int), .int .i32 (cvt .i32 (b_6.toNat : Int)), (u_9 11), (u_9 12), (u_9 13), (u_9 14), (u_9 15), (u_9 16), (u_9 17), (u_9 18), (u_9 19), (u_9 20), (u_9 21), (u_9 22), (u_9 23), (u_9 24), (u_9 25), (u_9 26), (u_9 27), undef] (by kernel_rfl) ?_
      refine cw_cut (fun l' w' => ∃ r_17 n_6, ∃ u_11 : Nat → Value, l' = [.string ⟨⟨s_7⟩⟩, .string ⟨⟨p1_0⟩⟩, undef, undef, .string ⟨⟨([] : List UInt8)⟩⟩, .int .i32 r_17, .int .i64 n_6, .string ⟨⟨s_7⟩⟩, .int .i64 (s_7.length : Int), .bool (gt (s_7.length : Int) 0), .string ⟨⟨s_7⟩⟩, .string ⟨⟨s_7⟩⟩, .int .i64 (s_7.length : Int), .int .i64 (sub .i64 (s_7.length : Int) 1), .int .u8 (b_6.toNat : Int), .int .i32 (cvt .i32 (b_6.toNat : Int)), (u_11 0), (u_11 1), (u_11 2), (u_11 3), (u_11 4), (u_11 5), (u_11 6), (u_9 18), (u_9 19), (u_9 20), (u_9 21), (u_9 22), (u_9 23), (u_9 24), (u_9 25), (u_9 26), (u_9 27), undef] ∧ LOk w0.heap.size [] F w' ∧ Below w0.heap.size w0 w' ∧ m60_J3 fuel p1_0 s_7 self_1 r_17 n_6 = some r) ?_ ?_
      · refine cw_seq ?_
        refine cw_region ?_
        refine wl_val (v := .int .i32 (cvt .i32 (b_6.toNat : Int))) (w' := w_12) (by kernel_rfl) (run_move (v := .int .i32 (cvt .i32 (b_6.toNat : Int))) (by kernel_rfl)) ?_
        refine wl_val (v := .bool (ge (cvt .i32 (b_6.toNat : Int)) 128)) (w' := w_12) (by kernel_rfl) (run_ge (k := .i32) (a := (cvt .i32 (b_6.toNat : Int))) (b := 128) (by kernel_rfl) (by kernel_rfl)) ?_
        refine wl_nil ?_
        refine then_n ?_
        refine cw_cond (t := (ge (cvt .i32 (b_6.toNat : Int)) 128)) (by kernel_rfl) (fun hc_19 => ?_) (fun hc_19 => ?_)
        · have hm := ite_t hm hc_19
          refine cw_region ?_
          refine wl_val (v := .string ⟨⟨s_7⟩⟩) (w' := w_12) (by kernel_rfl) (run_move (v := .string ⟨⟨s_7⟩⟩) (by kernel_rfl)) ?_
          obtain ⟨r_19, h_31, hm⟩ := bind_e hm
          refine wl_op (by kernel_rfl) (ow_enter (run_callf (vs := [.string ⟨⟨s_7⟩⟩]) Tryd.func72 nm_72 (by kernel_rfl) (by kernel_rfl)) (f72_ok (p0_0 := s_7) fuel _ w_12 hL.lt  h_31) ?_)
          intro vR w_16 hR
          obtain ⟨rfl, hBe⟩ := hR
          have hS := Stp.call hL (Fz.of_below hBe [])
          replace hB := hS.below hL hB
          replace hL := hS.hL
          refine wl_val (v := .tuple #[.int .i32 r_19.1, .int .i64 r_19.2]) (w' := w_16) (by kernel_rfl) (run_move (v := .tuple #[.int .i32 r_19.1, .int .i64 r_19.2]) (by kernel_rfl)) ?_
          refine wl_val (v := .int .i32 r_19.1) (w' := w_16) (by kernel_rfl) (run_extract (vs := #[.int .i32 r_19.1, .int .i64 r_19.2]) (by kernel_rfl) (by kernel_rfl)) ?_
          refine wl_val (v := .int .i64 r_19.2) (w' := w_16) (by kernel_rfl) (run_extract (vs := #[.int .i32 r_19.1, .int .i64 r_19.2]) (by kernel_rfl) (by kernel_rfl)) ?_
          refine wl_val (v := .int .i32 r_19.1) (w' := w_16) (by kernel_rfl) (run_assign (v := .int .i32 r_19.1) (by kernel_rfl)) ?_
          refine wl_val (v := .int .i64 r_19.2) (w' := w_16) (by kernel_rfl) (run_assign (v := .int .i64 r_19.2) (by kernel_rfl)) ?_
          refine wl_nil ?_
          exact then_c ⟨r_19.1, r_19.2, (fun i => ([.int .i32 (cvt .i32 (b_6.toNat : Int)), .bool (ge (cvt .i32 (b_6.toNat : Int)) 128), .tuple #[.int .i32 r_19.1, .int .i64 r_19.2], .string ⟨⟨s_7⟩⟩, .tuple #[.int .i32 r_19.1, .int .i64 r_19.2], .int .i32 r_19.1, .int .i64 r_19.2] : List Value).getD i undef), by kernel_rfl, hL, hB, hm⟩
        · have hm := ite_f hm hc_19
          refine cw_skip ?_
          exact then_c ⟨(cvt .i32 (b_6.toNat : Int)), 1, (fun i => ([.int .i32 (cvt .i32 (b_6.toNat : Int)), .bool (ge (cvt .i32 (b_6.toNat : Int)) 128), (u_9 13), (u_9 14), (u_9 15), (u_9 16), (u_9 17)] : List Value).getD i undef), by kernel_rfl, hL, hB, hm⟩
      · intro l1 w_14 hI
        obtain ⟨r_17, n_6, u_11, rfl, hL, hB, hm⟩ := hI
        unfold m60_J3 at hm
        refine cw_seq ?_
        refine cw_seq ?_
        refine cw_region ?_
        refine wl_val (v := .string ⟨⟨p1_0⟩⟩) (w' := w_14) (by kernel_rfl) (run_move (v := .string ⟨⟨p1_0⟩⟩) (by kernel_rfl)) ?_
        refine wl_val (v := .int .i32 r_17) (w' := w_14) (by kernel_rfl) (run_move (v := .int .i32 r_17) (by kernel_rfl)) ?_
        obtain ⟨r_18, h_29, hm⟩ := bind_e hm
        refine wl_op (by kernel_rfl) (ow_enter (run_callf (vs := [.string ⟨⟨p1_0⟩⟩, .int .i32 r_17]) Tryd.func73 nm_73 (by kernel_rfl) (by kernel_rfl)) (f73_ok (p0_0 := p1_0) (p1_0 := r_17) fuel _ w_14 hL.lt  h_29) ?_)
        intro vR w_15 hR
        obtain ⟨rfl, hBe⟩ := hR
        have hS := Stp.call hL (Fz.of_below hBe [])
        replace hB := hS.below hL hB
        replace hL := hS.hL
        refine wl_val (v := .bool (!r_18)) (w' := w_15) (by kernel_rfl) (run_not (b := r_18) (by kernel_rfl)) ?_
        refine wl_nil ?_
        refine then_n ?_
        refine cw_cond (t := (!r_18)) (by kernel_rfl) (fun hc => ?_) (fun hc => ?_)
        · have hc_18 : r_18 = false := by simpa using hc
          have hm := ite_f hm hc_18
          refine cw_exit ?_
          refine then_exit ?_
          refine inBlock_other rfl ?_
          refine then_exit ?_
          refine inBlock_same ?_
          exact then_c ⟨s_7, (fun i => ([.int .i32 r_17, .int .i64 n_6, .string ⟨⟨s_7⟩⟩, .int .i64 (s_7.length : Int), .bool (gt (s_7.length : Int) 0), .string ⟨⟨s_7⟩⟩, .string ⟨⟨s_7⟩⟩, .int .i64 (s_7.length : Int), .int .i64 (sub .i64 (s_7.length : Int) 1), .int .u8 (b_6.toNat : Int), .int .i32 (cvt .i32 (b_6.toNat : Int)), (u_11 0), (u_11 1), (u_11 2), (u_11 3), (u_11 4), (u_11 5), (u_11 6), .string ⟨⟨p1_0⟩⟩, .int .i32 r_17, .bool r_18, .bool (!r_18), (u_9 22), (u_9 23), (u_9 24), (u_9 25), (u_9 26), (u_9 27)] : List Value).getD i undef), by kernel_rfl, hL, hB, hm⟩
        · have hc_18 : r_18 = true := by simpa using hc
          have hm := ite_t hm hc_18
          refine cw_skip ?_
          refine then_n ?_
          refine cw_region ?_
          refine wl_val (v := .string ⟨⟨s_7⟩⟩) (w' := w_15) (by kernel_rfl) (run_move (v := .string ⟨⟨s_7⟩⟩) (by kernel_rfl)) ?_
          refine wl_val (v := .string ⟨⟨s_7⟩⟩) (w' := w_15) (by kernel_rfl) (run_move (v := .string ⟨⟨s_7⟩⟩) (by kernel_rfl)) ?_
          refine wl_val (v := .int .i64 (s_7.length : Int)) (w' := w_15) (by kernel_rfl) (run_len_str (s := s_7) Tryd.underlying9 (by kernel_rfl)) ?_
          refine wl_val (v := .int .i64 n_6) (w' := w_15) (by kernel_rfl) (run_move (v := .int .i64 n_6) (by kernel_rfl)) ?_
          refine wl_val (v := .int .i64 (sub .i64 (s_7.length : Int) n_6)) (w' := w_15) (by kernel_rfl) (run_sub (k := .i64) (a := (s_7.length : Int)) (b := n_6) (by kernel_rfl) (by kernel_rfl)) ?_
          obtain ⟨s_9, h_30, hm⟩ := bind_e hm
          refine wl_val (v := .string ⟨⟨s_9⟩⟩) (w' := w_15) (by kernel_rfl) (run_slice_str_h (s := s_7) (k := .i64) (j := (sub .i64 (s_7.length : Int) n_6)) Tryd.underlying9 (by kernel_rfl) (by kernel_rfl) h_30) ?_
          refine wl_val (v := .string ⟨⟨s_9⟩⟩) (w' := w_15) (by kernel_rfl) (run_assign (v := .string ⟨⟨s_9⟩⟩) (by kernel_rfl)) ?_
          refine wl_nil ?_
          refine inBlock_n ?_
          exact ⟨_, rfl, s_9, ⟨(fun i => ([.int .i32 r_17, .int .i64 n_6, .string ⟨⟨s_7⟩⟩, .int .i64 (s_7.length : Int), .bool (gt (s_7.length : Int) 0), .string ⟨⟨s_7⟩⟩, .string ⟨⟨s_7⟩⟩, .int .i64 (s_7.length : Int), .int .i64 (sub .i64 (s_7.length : Int) 1), .int .u8 (b_6.toNat : Int), .int .i32 (cvt .i32 (b_6.toNat : Int)), (u_11 0), (u_11 1), (u_11 2), (u_11 3), (u_11 4), (u_11 5), (u_11 6), .string ⟨⟨p1_0⟩⟩, .int .i32 r_17, .bool r_18, .bool (!r_18), .string ⟨⟨s_7⟩⟩, .string ⟨⟨s_7⟩⟩, .int .i64 (s_7.length : Int), .int .i64 n_6, .int .i64 (sub .i64 (s_7.length : Int) n_6), .string ⟨⟨s_9⟩⟩] : List Value).getD i undef), by kernel_rfl, hL, hB⟩, hm⟩
    · have hm := ite_f hm hc_16
      refine cw_exit ?_
      refine then_exit ?_
      refine then_exit ?_
      refine inBlock_same ?_
      exact then_c ⟨s_7, (fun i => ([(u_9 0), (u_9 1), .string ⟨⟨s_7⟩⟩, .int .i64 (s_7.length : Int), .bool (gt (s_7.length : Int) 0), (u_9 5), (u_9 6), (u_9 7), (u_9 8), (u_9 9), (u_9 10), (u_9 11), (u_9 12), (u_9 13), (u_9 14), (u_9 15), (u_9 16), (u_9 17), (u_9 18), (u_9 19), (u_9 20), (u_9 21), (u_9 22), (u_9 23), (u_9 24), (u_9 25), (u_9 26), (u_9 27)] : List Value).getD i undef), by kernel_rfl, hL, hB, hm⟩
  · intro l1 w_7 hI
    obtain ⟨s_5, u_6, rfl, hL, hB, hm⟩ := hI
    unfold m60_J1 at hm
    refine cw_seq ?_
    refine cw_region ?_
    refine wl_val (v := .string ⟨⟨s_5⟩⟩) (w' := w_7) (by kernel_rfl) (run_move (v := .string ⟨⟨s_5⟩⟩) (by kernel_rfl)) ?_
    refine wl_val (v := .string ⟨⟨s_5⟩⟩) (w' := w_7) (by kernel_rfl) (run_assign (v := .string ⟨⟨s_5⟩⟩) (by kernel_rfl)) ?_
    refine wl_nil ?_
    refine then_n ?_
    refine cw_ret ?_
    obtain rfl := Option.some.inj hm
    exact ret1 (v := .string ⟨⟨s_5⟩⟩) rfl (resv_tmp (by kernel_rfl)) ⟨_, rfl, by kernel_rfl, hB⟩
end SxYtihfogahdofdmaaDoor

/- Written by program (gen.py): the model of strings.TrimRight, and the proof that its code computes it. -/
namespace SxYtihfogahdofdmaaDoor
open Go Go.RowKit Sx Go.Proofs
set_option linter.unusedVariables false
set_option linter.unusedSimpArgs false
attribute [local irreducible] WL WX CW OW
/-! ### 32: "strings.TrimRight" -/
def m32_J2 (fuel : Nat) (p0_0 : (List UInt8)) (p1_0 : (List UInt8)) (x_2 : Bool) : Option (List UInt8) :=
  if x_2 then ((at? p1_0 0).bind fun b_2 => (m57 fuel p0_0 (b_2.toNat : Int)).bind fun r_1 => some r_1) else (none)
def m32_J1 (fuel : Nat) (p0_0 : (List UInt8)) (p1_0 : (List UInt8)) (x_1 : Bool) : Option (List UInt8) :=
  if x_1 then (some p0_0) else (if (eqi (p1_0.length : Int) 1) then ((at? p1_0 0).bind fun b_3 => m32_J2 fuel p0_0 p1_0 (lt (b_3.toNat : Int) 128)) else (m32_J2 fuel p0_0 p1_0 false))
def m32 (fuel : Nat) (p0_0 : (List UInt8)) (p1_0 : (List UInt8)) : Option (List UInt8) :=
  if (eqs p0_0 ([] : List UInt8)) then (m32_J1 fuel p0_0 p1_0 true) else (m32_J1 fuel p0_0 p1_0 (eqs p1_0 ([] : List UInt8)))
@[reducible] def Q32 (F : Lx) (w0 : World) (r : (List UInt8)) (v : Value) (w' : World) : Prop := v = .string ⟨⟨r⟩⟩ ∧ Below w0.heap.size w0 w'
set_option maxRecDepth 100000 in
set_option maxHeartbeats 4000000 in
theorem f32_ok (fuel : Nat) (F : Lx) (w0 : World) (hF : ∀ k, some k ∈ F → k < w0.heap.size) {p0_0 : (List UInt8)} {p1_0 : (List UInt8)} {r : (List UInt8)} (hm : m32 fuel p0_0 p1_0 = some r) :
    Calls Tryd.prog 32 #[.string ⟨⟨p0_0⟩⟩, .string ⟨⟨p1_0⟩⟩] w0 (fun e w' => ∃ v, e = .returned v ∧ Q32 F w0 r v w') := by
  have hPF : PF (bodyPost Tryd.prog Tryd.f32 (fun e w' => ∃ v, e = .returned v ∧ Q32 F w0 r v w')) := PF.body (fun c w h => by obtain ⟨v, e, _⟩ := h; cases e)
  have hL := LOk.start hF
  have hB := Below.refl w0.heap.size w0
  unfold m32 at hm
  refine enter (l := [.string ⟨⟨p0_0⟩⟩, .string ⟨⟨p1_0⟩⟩, undef, undef, undef, undef, undef, undef, undef, undef, undef, undef, undef, undef, undef, undef, undef, undef, undef, undef, undef, undef, undef, undef, undef, undef, undef, undef, undef, undef, undef, undef, undef, undef, undef, undef, undef]) Tryd.func32 rfl Tryd.ntmps32 (by kernel_rfl) ?_
  refine cw_seq ?_
  refine cw_region ?_
  refine wl_val (v := .string ⟨⟨([] : List UInt8)⟩⟩) (w' := w0) (by kernel_rfl) (run_assign (v := .string ⟨⟨([] : List UInt8)⟩⟩) (by kernel_rfl)) ?_
  refine wl_nil ?_
  refine then_n ?_
  refine cw_seq ?_
  refine cw_cut (fun l' w' => ∃ x_1, ∃ u_1 : Nat → Value, l' = [.string ⟨⟨p0_0⟩⟩, .string ⟨⟨p1_0⟩⟩, undef, undef, .string ⟨⟨([] : List UInt8)⟩⟩, undef, undef, (u_1 0), (u_1 1), (u_1 2), (u_1 3), (u_1 4), .bool x_1, undef, undef, undef, undef, undef, undef, undef, undef, undef, undef, undef, undef, undef, undef, undef, undef, undef, undef, undef, undef, undef, undef, undef, undef] ∧ LOk w0.heap.size [] F w' ∧ Below w0.heap.size w0 w' ∧ m32_J1 fuel p0_0 p1_0 x_1 = some r) ?_ ?_
  · refine cw_region ?_
    refine wl_val (v := .string ⟨⟨p0_0⟩⟩) (w' := w0) (by kernel_rfl) (run_move (v := .string ⟨⟨p0_0⟩⟩) (by kernel_rfl)) ?_
    refine wl_val (v := .bool (eqs p0_0 ([] : List UInt8))) (w' := w0) (by kernel_rfl) (run_eqs (a := p0_0) (b := ([] : List UInt8)) (by kernel_rfl) (by kernel_rfl)) ?_
    refine wl_val (v := .bool (eqs p0_0 ([] : List UInt8))) (w' := w0) (by kernel_rfl) (run_move (v := .bool (eqs p0_0 ([] : List UInt8))) (by kernel_rfl)) ?_
    rcases Bool.eq_false_or_eq_true (eqs p0_0 ([] : List UInt8)) with hc_6 | hc_6
    · have hm := ite_t hm hc_6
      refine wl_not0 (wg (c := (eqs p0_0 ([] : List UInt8))) (want := false) (by kernel_rfl) hc_6 rfl) (by kernel_rfl) ?_
      refine wl_not0 (wg (c := (eqs p0_0 ([] : List UInt8))) (want := false) (by kernel_rfl) hc_6 rfl) (by kernel_rfl) ?_
      refine wl_val (v := .bool true) (w' := w0) (by kernel_rfl) (run_pick_t (v := .bool true) (tr2 (c := (eqs p0_0 ([] : List UInt8))) (by kernel_rfl) hc_6) (by kernel_rfl)) ?_
      refine wl_nil ?_
      exact then_c ⟨true, (fun i => ([.string ⟨⟨p0_0⟩⟩, .bool (eqs p0_0 ([] : List UInt8)), .bool (eqs p0_0 ([] : List UInt8)), undef, undef] : List Value).getD i undef), by kernel_rfl, hL, hB, hm⟩
    · have hm := ite_f hm hc_6
      refine wl_val (v := .string ⟨⟨p1_0⟩⟩) (w' := w0) (wg (c := (eqs p0_0 ([] : List UInt8))) (want := false) (by kernel_rfl) hc_6 rfl) (run_move (v := .string ⟨⟨p1_0⟩⟩) (by kernel_rfl)) ?_
      refine wl_val (v := .bool (eqs p1_0 ([] : List UInt8))) (w' := w0) (wg (c := (eqs p0_0 ([] : List UInt8))) (want := false) (by kernel_rfl) hc_6 rfl) (run_eqs (a := p1_0) (b := ([] : List UInt8)) (by kernel_rfl) (by kernel_rfl)) ?_
      refine wl_val (v := .bool (eqs p1_0 ([] : List UInt8))) (w' := w0) (by kernel_rfl) (run_pick_f (v := .bool (eqs p1_0 ([] : List UInt8))) (tr2 (c := (eqs p0_0 ([] : List UInt8))) (by kernel_rfl) hc_6) (by kernel_rfl)) ?_
      refine wl_nil ?_
      exact then_c ⟨(eqs p1_0 ([] : List UInt8)), (fun i => ([.string ⟨⟨p0_0⟩⟩, .bool (eqs p0_0 ([] : List UInt8)), .bool (eqs p0_0 ([] : List UInt8)), .string ⟨⟨p1_0⟩⟩, .bool (eqs p1_0 ([] : List UInt8))] : List Value).getD i undef), by kernel_rfl, hL, hB, hm⟩
  · intro l1 w_1 hI
    obtain ⟨x_1, u_1, rfl, hL, hB, hm⟩ := hI
    unfold m32_J1 at hm
    refine cw_cond (t := x_1) (by kernel_rfl) (fun hc_2 => ?_) (fun hc_2 => ?_)
    · have hm := ite_t hm hc_2
      refine cw_seq ?_
      refine cw_region ?_
      refine wl_val (v := .string ⟨⟨p0_0⟩⟩) (w' := w_1) (by kernel_rfl) (run_move (v := .string ⟨⟨p0_0⟩⟩) (by kernel_rfl)) ?_
      refine wl_val (v := .string ⟨⟨p0_0⟩⟩) (w' := w_1) (by kernel_rfl) (run_assign (v := .string ⟨⟨p0_0⟩⟩) (by kernel_rfl)) ?_
      refine wl_nil ?_
      refine then_n ?_
      refine cw_ret ?_
      refine then_ret ?_
      obtain rfl := Option.some.inj hm
      exact ret1 (v := .string ⟨⟨p0_0⟩⟩) rfl (resv_tmp (by kernel_rfl)) ⟨_, rfl, by kernel_rfl, hB⟩
    · have hm := ite_f hm hc_2
      refine cw_skip ?_
      refine then_n ?_
      refine cw_seq ?_
      refine cw_cut (fun l' w' => ∃ x_2, ∃ u_2 : Nat → Value, l' = [.string ⟨⟨p0_0⟩⟩, .string ⟨⟨p1_0⟩⟩, undef, undef, .string ⟨⟨([] : List UInt8)⟩⟩, undef, undef, (u_1 0), (u_1 1), (u_1 2), (u_1 3), (u_1 4), .bool x_1, undef, (u_2 0), (u_2 1), (u_2 2), (u_2 3), (u_2 4), (u_2 5), (u_2 6), .bool x_2, undef, undef, undef, undef, undef, undef, undef, undef, undef, undef, undef, undef, undef, undef, undef] ∧ LOk w0.heap.size [] F w' ∧ Below w0.heap.size w0 w' ∧ m32_J2 fuel p0_0 p1_0 x_2 = some r) ?_ ?_
      · refine cw_region ?_
        refine wl_val (v := .string ⟨⟨p1_0⟩⟩) (w' := w_1) (by kernel_rfl) (run_move (v := .string ⟨⟨p1_0⟩⟩) (by kernel_rfl)) ?_
        refine wl_val (v := .int .i64 (p1_0.length : Int)) (w' := w_1) (by kernel_rfl) (run_len_str (s := p1_0) Tryd.underlying9 (by kernel_rfl)) ?_
        refine wl_val (v := .bool (eqi (p1_0.length : Int) 1)) (w' := w_1) (by kernel_rfl) (run_eqi (k := .i64) (a := (p1_0.length : Int)) (b := 1) (by kernel_rfl) (by kernel_rfl)) ?_
        refine wl_val (v := .bool (eqi (p1_0.length : Int) 1)) (w' := w_1) (by kernel_rfl) (run_move (v := .bool (eqi (p1_0.length : Int) 1)) (by kernel_rfl)) ?_
        rcases Bool.eq_false_or_eq_true (eqi (p1_0.length : Int) 1) with hc_5 | hc_5
        · have hm := ite_t hm hc_5
          refine wl_val (v := .string ⟨⟨p1_0⟩⟩) (w' := w_1) (wg (c := (eqi (p1_0.length : Int) 1)) (want := true) (by kernel_rfl) hc_5 rfl) (run_move (v := .string ⟨⟨p1_0⟩⟩) (by kernel_rfl)) ?_
          obtain ⟨b_3, h_6, hm⟩ := bind_e hm
          obtain ⟨h_70, h_71, _⟩ := at_some h_6
          refine wl_val (v := .int .u8 (b_3.toNat : Int)) (w' := w_1) (wg (c := (eqi (p1_0.length : Int) 1)) (want := true) (by kernel_rfl) hc_5 rfl) (run_index_str (s := p1_0) (k := .i64) (j := 0) Tryd.underlying9 (by kernel_rfl) (by kernel_rfl) h_70 h_71) ?_
          refine wl_val (v := .bool (lt (b_3.toNat : Int) 128)) (w' := w_1) (wg (c := (eqi (p1_0.length : Int) 1)) (want := true) (by kernel_rfl) hc_5 rfl) (run_lt (k := .u8) (a := (b_3.toNat : Int)) (b := 128) (by kernel_rfl) (by kernel_rfl)) ?_
          refine wl_val (v := .bool (lt (b_3.toNat : Int) 128)) (w' := w_1) (by kernel_rfl) (run_pick_t (v := .bool (lt (b_3.toNat : Int) 128)) (tr2 (c := (eqi (p1_0.length : Int) 1)) (by kernel_rfl) hc_5) (by kernel_rfl)) ?_
          refine wl_nil ?_
          exact then_c ⟨(lt (b_3.toNat : Int) 128), (fun i => ([.string ⟨⟨p1_0⟩⟩, .int .i64 (p1_0.length : Int), .bool (eqi (p1_0.length : Int) 1), .bool (eqi (p1_0.length : Int) 1), .string ⟨⟨p1_0⟩⟩, .int .u8 (b_3.toNat : Int), .bool (lt (b_3.toNat : Int) 128)] : List Value).getD i undef), by kernel_rfl, hL, hB, hm⟩
        · have hm := ite_f hm hc_5
          refine wl_not0 (wg (c := (eqi (p1_0.length : Int) 1)) (want := true) (by kernel_rfl) hc_5 rfl) (by kernel_rfl) ?_
          refine wl_not0 (wg (c := (eqi (p1_0.length : Int) 1)) (want := true) (by kernel_rfl) hc_5 rfl) (by kernel_rfl) ?_
          refine wl_not0 (wg (c := (eqi (p1_0.length : Int) 1)) (want := true) (by kernel_rfl) hc_5 rfl) (by kernel_rfl) ?_
          refine wl_val (v := .bool false) (w' := w_1) (by kernel_rfl) (run_pick_f (v := .bool false) (tr2 (c := (eqi (p1_0.length : Int) 1)) (by kernel_rfl) hc_5) (by kernel_rfl)) ?_
          refine wl_nil ?_
          exact then_c ⟨false, (fun i => ([.string ⟨⟨p1_0⟩⟩, .int .i64 (p1_0.length : Int), .bool (eqi (p1_0.length : Int) 1), .bool (eqi (p1_0.length : Int) 1), undef, undef, undef] : List Value).getD i undef), by kernel_rfl, hL, hB, hm⟩
      · intro l1 w_2 hI
        obtain ⟨x_2, u_2, rfl, hL, hB, hm⟩ := hI
        unfold m32_J2 at hm
        refine cw_cond (t := x_2) (by kernel_rfl) (fun hc_4 => ?_) (fun hc_4 => ?_)
        · have hm := ite_t hm hc_4
          refine cw_seq ?_
          refine cw_region ?_
          refine wl_val (v := .string ⟨⟨p0_0⟩⟩) (w' := w_2) (by kernel_rfl) (run_move (v := .string ⟨⟨p0_0⟩⟩) (by kernel_rfl)) ?_
          refine wl_val (v := .string ⟨⟨p1_0⟩⟩) (w' := w_2) (by kernel_rfl) (run_move (v := .string ⟨⟨p1_0⟩⟩) (by kernel_rfl)) ?_
          obtain ⟨b_2, h_3, hm⟩ := bind_e hm
          obtain ⟨h_40, h_41, _⟩ := at_some h_3
          refine wl_val (v := .int .u8 (b_2.toNat : Int)) (w' := w_2) (by kernel_rfl) (run_index_str (s := p1_0) (k := .i64) (j := 0) Tryd.underlying9 (by kernel_rfl) (by kernel_rfl) h_40 h_41) ?_
          obtain ⟨r_1, h_5, hm⟩ := bind_e hm
          refine wl_op (by kernel_rfl) (ow_enter (run_callf (vs := [.string ⟨⟨p0_0⟩⟩, .int .u8 (b_2.toNat : Int)]) Tryd.func57 nm_57 (by kernel_rfl) (by kernel_rfl)) (f57_ok (p0_0 := p0_0) (p1_0 := (b_2.toNat : Int)) fuel _ w_2 hL.lt  h_5) ?_)
          intro vR w_3 hR
          obtain ⟨rfl, hBe⟩ := hR
          have hS := Stp.call hL (Fz.of_below hBe [])
          replace hB := hS.below hL hB
          replace hL := hS.hL
          refine wl_val (v := .string ⟨⟨r_1⟩⟩) (w' := w_3) (by kernel_rfl) (run_assign (v := .string ⟨⟨r_1⟩⟩) (by kernel_rfl)) ?_
          refine wl_nil ?_
          refine then_n ?_
          refine cw_ret ?_
          refine then_ret ?_
          obtain rfl := Option.some.inj hm
          exact ret1 (v := .string ⟨⟨r_1⟩⟩) rfl (resv_tmp (by kernel_rfl)) ⟨_, rfl, by kernel_rfl, hB⟩
        · have hm := ite_f hm hc_4
          refine cw_skip ?_
          refine then_n ?_
          refine cw_seq ?_
          refine cw_seq ?_
          refine cw_region ?_
          refine wl_val (v := .string ⟨⟨p1_0⟩⟩) (w' := w_2) (by kernel_rfl) (run_move (v := .string ⟨⟨p1_0⟩⟩) (by kernel_rfl)) ?_
          cases hm
end SxYtihfogahdofdmaaDoor

/- Written by program (gen.py): the model of internal/stringslite.HasPrefix, and the proof that its code computes it. -/
namespace SxYtihfogahdofdmaaDoor
open Go Go.RowKit Sx Go.Proofs
set_option linter.unusedVariables false
set_option linter.unusedSimpArgs false
attribute [local irreducible] WL WX CW OW
/-! ### 66: "internal/stringslite.HasPrefix" -/
def m66_J1 (fuel : Nat) (x_1 : Bool) : Option Bool :=
  some x_1
def m66 (fuel : Nat) (p0_0 : (List UInt8)) (p1_0 : (List UInt8)) : Option Bool :=
  if (ge (p0_0.length : Int) (p1_0.length : Int)) then ((cut p0_0 0 (p1_0.length : Int)).bind fun s_2 => m66_J1 fuel  (eqs s_2 p1_0)) else (m66_J1 fuel  false)
@[reducible] def Q66 (F : Lx) (w0 : World) (r : Bool) (v : Value) (w' : World) : Prop := v = .bool r ∧ Below w0.heap.size w0 w'
set_option maxRecDepth 100000 in
set_option maxHeartbeats 4000000 in
theorem f66_ok (fuel : Nat) (F : Lx) (w0 : World) (hF : ∀ k, some k ∈ F → k < w0.heap.size) {p0_0 : (List UInt8)} {p1_0 : (List UInt8)} {r : Bool} (hm : m66 fuel p0_0 p1_0 = some r) :
    Calls Tryd.prog 66 #[.string ⟨⟨p0_0⟩⟩, .string ⟨⟨p1_0⟩⟩] w0 (fun e w' => ∃ v, e = .returned v ∧ Q66 F w0 r v w') := by
  have hPF : PF (bodyPost Tryd.prog Tryd.f66 (fun e w' => ∃ v, e = .returned v ∧ Q66 F w0 r v w')) := PF.body (fun c w h => by obtain ⟨v, e, _⟩ := h; cases e)
  have hL := LOk.start hF
  have hB := Below.refl w0.heap.size w0
  unfold m66 at hm
  refine enter (l := [.string ⟨⟨p0_0⟩⟩, .string ⟨⟨p1_0⟩⟩, undef, undef, undef, undef, undef, undef, undef, undef, undef, undef, undef, undef, undef, undef, undef, undef]) Tryd.func66 rfl Tryd.ntmps66 (by kernel_rfl) ?_
  refine cw_seq ?_
  refine cw_region ?_
  refine wl_val (v := .bool false) (w' := w0) (by kernel_rfl) (run_assign (v := .bool false) (by kernel_rfl)) ?_
  refine wl_nil ?_
  refine then_n ?_
  refine cw_cut (fun l' w' => ∃ x_1, ∃ u_1 : Nat → Value, l' = [.string ⟨⟨p0_0⟩⟩, .string ⟨⟨p1_0⟩⟩, undef, undef, .bool x_1, (u_1 0), (u_1 1), (u_1 2), (u_1 3), (u_1 4), (u_1 5), (u_1 6), (u_1 7), (u_1 8), (u_1 9), (u_1 10), (u_1 11), (u_1 12)] ∧ LOk w0.heap.size [] F w' ∧ Below w0.heap.size w0 w' ∧ m66_J1 fuel x_1 = some r) ?_ ?_
  · refine cw_region ?_
    refine wl_val (v := .string ⟨⟨p0_0⟩⟩) (w' := w0) (by kernel_rfl) (run_move (v := .string ⟨⟨p0_0⟩⟩) (by kernel_rfl)) ?_
    refine wl_val (v := .int .i64 (p0_0.length : Int)) (w' := w0) (by kernel_rfl) (run_len_str (s := p0_0) Tryd.underlying9 (by kernel_rfl)) ?_
    refine wl_val (v := .string ⟨⟨p1_0⟩⟩) (w' := w0) (by kernel_rfl) (run_move (v := .string ⟨⟨p1_0⟩⟩) (by kernel_rfl)) ?_
    refine wl_val (v := .int .i64 (p1_0.length : Int)) (w' := w0) (by kernel_rfl) (run_len_str (s := p1_0) Tryd.underlying9 (by kernel_rfl)) ?_
    refine wl_val (v := .bool (ge (p0_0.length : Int) (p1_0.length : Int))) (w' := w0) (by kernel_rfl) (run_ge (k := .i64) (a := (p0_0.length : Int)) (b := (p1_0.length : Int)) (by kernel_rfl) (by kernel_rfl)) ?_
    refine wl_val (v := .bool (ge (p0_0.length : Int) (p1_0.length : Int))) (w' := w0) (by kernel_rfl) (run_move (v := .bool (ge (p0_0.length : Int) (p1_0.length : Int))) (by kernel_rfl)) ?_
    rcases Bool.eq_false_or_eq_true (ge (p0_0.length : Int) (p1_0.length : Int)) with hc_2 | hc_2
    · have hm := ite_t hm hc_2
      refine wl_val (v := .string ⟨⟨p0_0⟩⟩) (w' := w0) (wg (c := (ge (p0_0.length : Int) (p1_0.length : Int))) (want := true) (by kernel_rfl) hc_2 rfl) (run_move (v := .string ⟨⟨p0_0⟩⟩) (by kernel_rfl)) ?_
      refine wl_val (v := .string ⟨⟨p1_0⟩⟩) (w' := w0) (wg (c := (ge (p0_0.length : Int) (p1_0.length : Int))) (want := true) (by kernel_rfl) hc_2 rfl) (run_move (v := .string ⟨⟨p1_0⟩⟩) (by kernel_rfl)) ?_
      refine wl_norm [.string ⟨⟨p0_0⟩⟩, .string ⟨⟨p1_0⟩⟩, undef, undef, .bool false, .string ⟨⟨p0_0⟩⟩, .int .i64 (p0_0.length : Int), .string ⟨⟨p1_0⟩⟩, .int .i64 (p1_0.length : Int), .bool (ge (p0_0.length : Int) (p1_0.length : Int)), .bool (ge (p0_0.length : Int) (p1_0.length : Int)), .string ⟨⟨p0_0⟩⟩, .string ⟨⟨p1_0⟩⟩, undef, undef, undef, undef, undef] (by kernel_rfl) ?_
      refine wl_val (v := .int .i64 (p1_0.length : Int)) (w' := w0) (wg (c := (ge (p0_0.length : Int) (p1_0.length : Int))) (want := true) (by kernel_rfl) hc_2 rfl) (run_len_str (s := p1_0) Tryd.underlying9 (by kernel_rfl)) ?_
      obtain ⟨s_2, h_2, hm⟩ := bind_e hm
      refine wl_val (v := .string ⟨⟨s_2⟩⟩) (w' := w0) (wg (c := (ge (p0_0.length : Int) (p1_0.length : Int))) (want := true) (by kernel_rfl) hc_2 rfl) (run_slice_str_h (s := p0_0) (k := .i64) (j := (p1_0.length : Int)) Tryd.underlying9 (by kernel_rfl) (by kernel_rfl) h_2) ?_
      refine wl_val (v := .string ⟨⟨p1_0⟩⟩) (w' := w0) (wg (c := (ge (p0_0.length : Int) (p1_0.length : Int))) (want := true) (by kernel_rfl) hc_2 rfl) (run_move (v := .string ⟨⟨p1_0⟩⟩) (by kernel_rfl)) ?_
      refine wl_val (v := .bool (eqs s_2 p1_0)) (w' := w0) (wg (c := (ge (p0_0.length : Int) (p1_0.length : Int))) (want := true) (by kernel_rfl) hc_2 rfl) (run_eqs (a := s_2) (b := p1_0) (by kernel_rfl) (by kernel_rfl)) ?_
      refine wl_val (v := .bool (eqs s_2 p1_0)) (w' := w0) (by kernel_rfl) (run_pick_t (v := .bool (eqs s_2 p1_0)) (tr2 (c := (ge (p0_0.length : Int) (p1_0.length : Int))) (by kernel_rfl) hc_2) (by kernel_rfl)) ?_
      refine wl_val (v := .bool (eqs s_2 p1_0)) (w' := w0) (by kernel_rfl) (run_assign (v := .bool (eqs s_2 p1_0)) (by kernel_rfl)) ?_
      refine wl_nil ?_
      exact then_c ⟨(eqs s_2 p1_0), (fun i => ([.string ⟨⟨p0_0⟩⟩, .int .i64 (p0_0.length : Int), .string ⟨⟨p1_0⟩⟩, .int .i64 (p1_0.length : Int), .bool (ge (p0_0.length : Int) (p1_0.length : Int)), .bool (ge (p0_0.length : Int) (p1_0.length : Int)), .string ⟨⟨p0_0⟩⟩, .string ⟨⟨p1_0⟩⟩, .int .i64 (p1_0.length : Int), .string ⟨⟨s_2⟩⟩, .string ⟨⟨p1_0⟩⟩, .bool (eqs s_2 p1_0), .bool (eqs s_2 p1_0)] : List Value).getD i undef), by kernel_rfl, hL, hB, hm⟩
    · have hm := ite_f hm hc_2
      refine wl_not0 (wg (c := (ge (p0_0.length : Int) (p1_0.length : Int))) (want := true) (by kernel_rfl) hc_2 rfl) (by kernel_rfl) ?_
      refine wl_not0 (wg (c := (ge (p0_0.length : Int) (p1_0.length : Int))) (want := true) (by kernel_rfl) hc_2 rfl) (by kernel_rfl) ?_
      refine wl_not0 (wg (c := (ge (p0_0.length : Int) (p1_0.length : Int))) (want := true) (by kernel_rfl) hc_2 rfl) (by kernel_rfl) ?_
      refine wl_not0 (wg (c := (ge (p0_0.length : Int) (p1_0.length : Int))) (want := true) (by kernel_rfl) hc_2 rfl) (by kernel_rfl) ?_
      refine wl_not0 (wg (c := (ge (p0_0.length : Int) (p1_0.length : Int))) (want := true) (by kernel_rfl) hc_2 rfl) (by kernel_rfl) ?_
      refine wl_not0 (wg (c := (ge (p0_0.length : Int) (p1_0.length : Int))) (want := true) (by kernel_rfl) hc_2 rfl) (by kernel_rfl) ?_
      refine wl_val (v := .bool false) (w' := w0) (by kernel_rfl) (run_pick_f (v := .bool false) (tr2 (c := (ge (p0_0.length : Int) (p1_0.length : Int))) (by kernel_rfl) hc_2) (by kernel_rfl)) ?_
      refine wl_val (v := .bool false) (w' := w0) (by kernel_rfl) (run_assign (v := .bool false) (by kernel_rfl)) ?_
      refine wl_nil ?_
      exact then_c ⟨false, (fun i => ([.string ⟨⟨p0_0⟩⟩, .int .i64 (p0_0.length : Int), .string ⟨⟨p1_0⟩⟩, .int .i64 (p1_0.length : Int), .bool (ge (p0_0.length : Int) (p1_0.length : Int)), .bool (ge (p0_0.length : Int) (p1_0.length : Int)), undef, undef, undef, undef, undef, undef, .bool false] : List Value).getD i undef), by kernel_rfl, hL, hB, hm⟩
  · intro l1 w_1 hI
    obtain ⟨x_1, u_1, rfl, hL, hB, hm⟩ := hI
    unfold m66_J1 at hm
    refine cw_ret ?_
    obtain rfl := Option.some.inj hm
    exact ret1 (v := .bool x_1) rfl (resv_tmp (by kernel_rfl)) ⟨_, rfl, by kernel_rfl, hB⟩
end SxYtihfogahdofdmaaDoor

/- Written by program (gen.py): the model of internal/stringslite.CutPrefix, and the proof that its code computes it. -/
namespace SxYtihfogahdofdmaaDoor
open Go Go.RowKit Sx Go.Proofs
set_option linter.unusedVariables false
set_option linter.unusedSimpArgs false
attribute [local irreducible] WL WX CW OW
/-! ### 62: "internal/stringslite.CutPrefix" -/
def m62 (fuel : Nat) (p0_0 : (List UInt8)) (p1_0 : (List UInt8)) : Option ((List UInt8) × Bool) :=
  (m66 fuel p0_0 p1_0).bind fun r_1 => if r_1 then ((cut p0_0 (p1_0.length : Int) (p0_0.length : Int)).bind fun s_1 => some (s_1, true)) else (some (p0_0, false))
@[reducible] def Q62 (F : Lx) (w0 : World) (r : ((List UInt8) × Bool)) (v : Value) (w' : World) : Prop := v = .tuple #[.string ⟨⟨r.1⟩⟩, .bool r.2] ∧ Below w0.heap.size w0 w'
set_option maxRecDepth 100000 in
set_option maxHeartbeats 4000000 in
theorem f62_ok (fuel : Nat) (F : Lx) (w0 : World) (hF : ∀ k, some k ∈ F → k < w0.heap.size) {p0_0 : (List UInt8)} {p1_0 : (List UInt8)} {r : ((List UInt8) × Bool)} (hm : m62 fuel p0_0 p1_0 = some r) :
    Calls Tryd.prog 62 #[.string ⟨⟨p0_0⟩⟩, .string ⟨⟨p1_0⟩⟩] w0 (fun e w' => ∃ v, e = .returned v ∧ Q62 F w0 r v w') := by
  have hPF : PF (bodyPost Tryd.prog Tryd.f62 (fun e w' => ∃ v, e = .returned v ∧ Q62 F w0 r v w')) := PF.body (fun c w h => by obtain ⟨v, e, _⟩ := h; cases e)
  have hL := LOk.start hF
  have hB := Below.refl w0.heap.size w0
  unfold m62 at hm
  refine enter (l := [.string ⟨⟨p0_0⟩⟩, .string ⟨⟨p1_0⟩⟩, undef, undef, undef, undef, undef, undef, undef, undef, undef, undef, undef, undef, undef]) Tryd.func62 rfl Tryd.ntmps62 (by kernel_rfl) ?_
  refine cw_seq ?_
  refine cw_region ?_
  refine wl_val (v := .string ⟨⟨([] : List UInt8)⟩⟩) (w' := w0) (by kernel_rfl) (run_assign (v := .string ⟨⟨([] : List UInt8)⟩⟩) (by kernel_rfl)) ?_
  refine wl_val (v := .bool false) (w' := w0) (by kernel_rfl) (run_assign (v := .bool false) (by kernel_rfl)) ?_
  refine wl_nil ?_
  refine then_n ?_
  refine cw_seq ?_
  refine cw_seq ?_
  refine cw_region ?_
  refine wl_val (v := .string ⟨⟨p0_0⟩⟩) (w' := w0) (by kernel_rfl) (run_move (v := .string ⟨⟨p0_0⟩⟩) (by kernel_rfl)) ?_
  refine wl_val (v := .string ⟨⟨p1_0⟩⟩) (w' := w0) (by kernel_rfl) (run_move (v := .string ⟨⟨p1_0⟩⟩) (by kernel_rfl)) ?_
  obtain ⟨r_1, h_1, hm⟩ := bind_e hm
  refine wl_op (by kernel_rfl) (ow_enter (run_callf (vs := [.string ⟨⟨p0_0⟩⟩, .string ⟨⟨p1_0⟩⟩]) Tryd.func66 nm_66 (by kernel_rfl) (by kernel_rfl)) (f66_ok (p0_0 := p0_0) (p1_0 := p1_0) fuel _ w0 hL.lt  h_1) ?_)
  intro vR w_1 hR
  obtain ⟨rfl, hBe⟩ := hR
  have hS := Stp.call hL (Fz.of_below hBe [])
  replace hB := hS.below hL hB
  replace hL := hS.hL
  refine wl_val (v := .bool (!r_1)) (w' := w_1) (by kernel_rfl) (run_not (b := r_1) (by kernel_rfl)) ?_
  refine wl_nil ?_
  refine then_n ?_
  refine cw_cond (t := (!r_1)) (by kernel_rfl) (fun hc => ?_) (fun hc => ?_)
  · have hc_1 : r_1 = false := by simpa using hc
    have hm := ite_f hm hc_1
    refine cw_seq ?_
    refine cw_region ?_
    refine wl_val (v := .string ⟨⟨p0_0⟩⟩) (w' := w_1) (by kernel_rfl) (run_move (v := .string ⟨⟨p0_0⟩⟩) (by kernel_rfl)) ?_
    refine wl_val (v := .string ⟨⟨p0_0⟩⟩) (w' := w_1) (by kernel_rfl) (run_assign (v := .string ⟨⟨p0_0⟩⟩) (by kernel_rfl)) ?_
    refine wl_val (v := .bool false) (w' := w_1) (by kernel_rfl) (run_assign (v := .bool false) (by kernel_rfl)) ?_
    refine wl_nil ?_
    refine then_n ?_
    refine cw_ret ?_
    refine then_ret ?_
    obtain rfl := Option.some.inj hm
    exact ret2 (v := .string ⟨⟨p0_0⟩⟩) (v' := .bool false) rfl (resv_tmp (by kernel_rfl)) (resv_tmp (by kernel_rfl)) ⟨_, rfl, by kernel_rfl, hB⟩
  · have hc_1 : r_1 = true := by simpa using hc
    have hm := ite_t hm hc_1
    refine cw_skip ?_
    refine then_n ?_
    refine cw_seq ?_
    refine cw_region ?_
    refine wl_val (v := .string ⟨⟨p0_0⟩⟩) (w' := w_1) (by kernel_rfl) (run_move (v := .string ⟨⟨p0_0⟩⟩) (by kernel_rfl)) ?_
    refine wl_val (v := .string ⟨⟨p1_0⟩⟩) (w' := w_1) (by kernel_rfl) (run_move (v := .string ⟨⟨p1_0⟩⟩) (by kernel_rfl)) ?_
    refine wl_val (v := .int .i64 (p1_0.length : Int)) (w' := w_1) (by kernel_rfl) (run_len_str (s := p1_0) Tryd.underlying9 (by kernel_rfl)) ?_
    obtain ⟨s_1, h_2, hm⟩ := bind_e hm
    refine wl_val (v := .string ⟨⟨s_1⟩⟩) (w' := w_1) (by kernel_rfl) (run_slice_str_l (s := p0_0) (k := .i64) (i := (p1_0.length : Int)) Tryd.underlying9 (by kernel_rfl) (by kernel_rfl) h_2) ?_
    refine wl_val (v := .string ⟨⟨s_1⟩⟩) (w' := w_1) (by kernel_rfl) (run_assign (v := .string ⟨⟨s_1⟩⟩) (by kernel_rfl)) ?_
    refine wl_val (v := .bool true) (w' := w_1) (by kernel_rfl) (run_assign (v := .bool true) (by kernel_rfl)) ?_
    refine wl_nil ?_
    refine then_n ?_
    refine cw_norm [.string ⟨⟨p0_0⟩⟩, .string ⟨⟨p1_0⟩⟩, undef, undef, .string ⟨⟨s_1⟩⟩, .bool true, .string ⟨⟨p0_0⟩⟩, .string ⟨⟨p1_0⟩⟩, .bool r_1, .bool (!r_1), undef, .string ⟨⟨p0_0⟩⟩, .string ⟨⟨p1_0⟩⟩, .int .i64 (p1_0.length : Int), .string ⟨⟨s_1⟩⟩] (by kernel_rfl) ?_
    refine cw_ret ?_
    obtain rfl := Option.some.inj hm
    exact ret2 (v := .string ⟨⟨s_1⟩⟩) (v' := .bool true) rfl (resv_tmp (by kernel_rfl)) (resv_tmp (by kernel_rfl)) ⟨_, rfl, by kernel_rfl, hB⟩
end SxYtihfogahdofdmaaDoor

/- Written by program (gen.py): the model of strings.CutPrefix, and the proof that its code computes it. -/
namespace SxYtihfogahdofdmaaDoor
open Go Go.RowKit Sx Go.Proofs
set_option linter.unusedVariables false
set_option linter.unusedSimpArgs false
attribute [local irreducible] WL WX CW OW
/-! ### 41: "strings.CutPrefix" -/
def m41 (fuel : Nat) (p0_0 : (List UInt8)) (p1_0 : (List UInt8)) : Option ((List UInt8) × Bool) :=
  (m62 fuel p0_0 p1_0).bind fun r_1 => some (r_1.1, r_1.2)
@[reducible] def Q41 (F : Lx) (w0 : World) (r : ((List UInt8) × Bool)) (v : Value) (w' : World) : Prop := v = .tuple #[.string ⟨⟨r.1⟩⟩, .bool r.2] ∧ Below w0.heap.size w0 w'
set_option maxRecDepth 100000 in
set_option maxHeartbeats 4000000 in
theorem f41_ok (fuel : Nat) (F : Lx) (w0 : World) (hF : ∀ k, some k ∈ F → k < w0.heap.size) {p0_0 : (List UInt8)} {p1_0 : (List UInt8)} {r : ((List UInt8) × Bool)} (hm : m41 fuel p0_0 p1_0 = some r) :
    Calls Tryd.prog 41 #[.string ⟨⟨p0_0⟩⟩, .string ⟨⟨p1_0⟩⟩] w0 (fun e w' => ∃ v, e = .returned v ∧ Q41 F w0 r v w') := by
  have hPF : PF (bodyPost Tryd.prog Tryd.f41 (fun e w' => ∃ v, e = .returned v ∧ Q41 F w0 r v w')) := PF.body (fun c w h => by obtain ⟨v, e, _⟩ := h; cases e)
  have hL := LOk.start hF
  have hB := Below.refl w0.heap.size w0
  unfold m41 at hm
  refine enter (l := [.string ⟨⟨p0_0⟩⟩, .string ⟨⟨p1_0⟩⟩, undef, undef, undef, undef, undef, undef, undef, undef, undef]) Tryd.func41 rfl Tryd.ntmps41 (by kernel_rfl) ?_
  refine cw_seq ?_
  refine cw_region ?_
  refine wl_val (v := .string ⟨⟨([] : List UInt8)⟩⟩) (w' := w0) (by kernel_rfl) (run_assign (v := .string ⟨⟨([] : List UInt8)⟩⟩) (by kernel_rfl)) ?_
  refine wl_val (v := .bool false) (w' := w0) (by kernel_rfl) (run_assign (v := .bool false) (by kernel_rfl)) ?_
  refine wl_nil ?_
  refine then_n ?_
  refine cw_seq ?_
  refine cw_region ?_
  refine wl_val (v := .string ⟨⟨p0_0⟩⟩) (w' := w0) (by kernel_rfl) (run_move (v := .string ⟨⟨p0_0⟩⟩) (by kernel_rfl)) ?_
  refine wl_val (v := .string ⟨⟨p1_0⟩⟩) (w' := w0) (by kernel_rfl) (run_move (v := .string ⟨⟨p1_0⟩⟩) (by kernel_rfl)) ?_
  obtain ⟨r_1, h_1, hm⟩ := bind_e hm
  refine wl_op (by kernel_rfl) (ow_enter (run_callf (vs := [.string ⟨⟨p0_0⟩⟩, .string ⟨⟨p1_0⟩⟩]) Tryd.func62 nm_62 (by kernel_rfl) (by kernel_rfl)) (f62_ok (p0_0 := p0_0) (p1_0 := p1_0) fuel _ w0 hL.lt  h_1) ?_)
  intro vR w_1 hR
  obtain ⟨rfl, hBe⟩ := hR
  have hS := Stp.call hL (Fz.of_below hBe [])
  replace hB := hS.below hL hB
  replace hL := hS.hL
  refine wl_val (v := .string ⟨⟨r_1.1⟩⟩) (w' := w_1) (by kernel_rfl) (run_extract (vs := #[.string ⟨⟨r_1.1⟩⟩, .bool r_1.2]) (by kernel_rfl) (by kernel_rfl)) ?_
  refine wl_val (v := .bool r_1.2) (w' := w_1) (by kernel_rfl) (run_extract (vs := #[.string ⟨⟨r_1.1⟩⟩, .bool r_1.2]) (by kernel_rfl) (by kernel_rfl)) ?_
  refine wl_val (v := .string ⟨⟨r_1.1⟩⟩) (w' := w_1) (by kernel_rfl) (run_assign (v := .string ⟨⟨r_1.1⟩⟩) (by kernel_rfl)) ?_
  refine wl_val (v := .bool r_1.2) (w' := w_1) (by kernel_rfl) (run_assign (v := .bool r_1.2) (by kernel_rfl)) ?_
  refine wl_nil ?_
  refine then_n ?_
  refine cw_ret ?_
  obtain rfl := Option.some.inj hm
  exact ret2 (v := .string ⟨⟨r_1.1⟩⟩) (v' := .bool r_1.2) rfl (resv_tmp (by kernel_rfl)) (resv_tmp (by kernel_rfl)) ⟨_, rfl, by kernel_rfl, hB⟩
end SxYtihfogahdofdmaaDoor

/- Written by program (gen.py): the model of internal/stringslite.IndexByte, and the proof that its code computes it. -/
namespace SxYtihfogahdofdmaaDoor
open Go Go.RowKit Sx Go.Proofs
set_option linter.unusedVariables false
set_option linter.unusedSimpArgs false
attribute [local irreducible] WL WX CW OW
/-! ### 81: "internal/stringslite.IndexByte" -/
def m81 (fuel : Nat) (p0_0 : (List UInt8)) (p1_0 : Int) : Option Int :=
  some (Lib.indexByte p0_0 p1_0.toNat.toUInt8)
@[reducible] def Q81 (F : Lx) (w0 : World) (r : Int) (v : Value) (w' : World) : Prop := v = .int .i64 r ∧ Below w0.heap.size w0 w'
set_option maxRecDepth 100000 in
set_option maxHeartbeats 4000000 in
theorem f81_ok (fuel : Nat) (F : Lx) (w0 : World) (hF : ∀ k, some k ∈ F → k < w0.heap.size) {p0_0 : (List UInt8)} {p1_0 : Int} {r : Int} (hm : m81 fuel p0_0 p1_0 = some r) :
    Calls Tryd.prog 81 #[.string ⟨⟨p0_0⟩⟩, .int .u8 p1_0] w0 (fun e w' => ∃ v, e = .returned v ∧ Q81 F w0 r v w') := by
  have hPF : PF (bodyPost Tryd.prog Tryd.f81 (fun e w' => ∃ v, e = .returned v ∧ Q81 F w0 r v w')) := PF.body (fun c w h => by obtain ⟨v, e, _⟩ := h; cases e)
  have hL := LOk.start hF
  have hB := Below.refl w0.heap.size w0
  unfold m81 at hm
  refine enter (l := [.string ⟨⟨p0_0⟩⟩, .int .u8 p1_0, undef, undef, undef, undef, undef, undef]) Tryd.func81 rfl Tryd.ntmps81 (by kernel_rfl) ?_
  refine cw_seq ?_
  refine cw_region ?_
  refine wl_val (v := .int .i64 0) (w' := w0) (by kernel_rfl) (run_assign (v := .int .i64 0) (by kernel_rfl)) ?_
  refine wl_nil ?_
  refine then_n ?_
  refine cw_seq ?_
  refine cw_region ?_
  refine wl_val (v := .string ⟨⟨p0_0⟩⟩) (w' := w0) (by kernel_rfl) (run_move (v := .string ⟨⟨p0_0⟩⟩) (by kernel_rfl)) ?_
  refine wl_val (v := .int .u8 p1_0) (w' := w0) (by kernel_rfl) (run_move (v := .int .u8 p1_0) (by kernel_rfl)) ?_
  refine wl_val (v := .int .i64 (Lib.indexByte p0_0 p1_0.toNat.toUInt8)) (w' := w0) (by kernel_rfl) (run_ibs (s := p0_0) (c := p1_0) Tryd.func92 nm_92 (by kernel_rfl) xf_92 xe_92 (by kernel_rfl) (by kernel_rfl)) ?_
  refine wl_val (v := .int .i64 (Lib.indexByte p0_0 p1_0.toNat.toUInt8)) (w' := w0) (by kernel_rfl) (run_assign (v := .int .i64 (Lib.indexByte p0_0 p1_0.toNat.toUInt8)) (by kernel_rfl)) ?_
  refine wl_nil ?_
  refine then_n ?_
  refine cw_ret ?_
  obtain rfl := Option.some.inj hm
  exact ret1 (v := .int .i64 (Lib.indexByte p0_0 p1_0.toNat.toUInt8)) rfl (resv_tmp (by kernel_rfl)) ⟨_, rfl, by kernel_rfl, hB⟩
end SxYtihfogahdofdmaaDoor

/- Written by program (gen.py): the model of internal/bytealg.Cutover, and the proof that its code computes it. -/
namespace SxYtihfogahdofdmaaDoor
open Go Go.RowKit Sx Go.Proofs
set_option linter.unusedVariables false
set_option linter.unusedSimpArgs false
attribute [local irreducible] WL WX CW OW
/-! ### 83: "internal/bytealg.Cutover" -/
def m83 (fuel : Nat) (p0_0 : Int) : Option Int :=
  some (quo .i64 (add .i64 p0_0 16) 8)
@[reducible] def Q83 (F : Lx) (w0 : World) (r : Int) (v : Value) (w' : World) : Prop := v = .int .i64 r ∧ Below w0.heap.size w0 w'
set_option maxRecDepth 100000 in
set_option maxHeartbeats 4000000 in
theorem f83_ok (fuel : Nat) (F : Lx) (w0 : World) (hF : ∀ k, some k ∈ F → k < w0.heap.size) {p0_0 : Int} {r : Int} (hm : m83 fuel p0_0 = some r) :
    Calls Tryd.prog 83 #[.int .i64 p0_0] w0 (fun e w' => ∃ v, e = .returned v ∧ Q83 F w0 r v w') := by
  have hPF : PF (bodyPost Tryd.prog Tryd.f83 (fun e w' => ∃ v, e = .returned v ∧ Q83 F w0 r v w')) := PF.body (fun c w h => by obtain ⟨v, e, _⟩ := h; cases e)
  have hL := LOk.start hF
  have hB := Below.refl w0.heap.size w0
  unfold m83 at hm
  refine enter (l := [.int .i64 p0_0, undef, undef, undef, undef, undef]) Tryd.func83 rfl Tryd.ntmps83 (by kernel_rfl) ?_
  refine cw_seq ?_
  refine cw_region ?_
  refine wl_val (v := .int .i64 0) (w' := w0) (by kernel_rfl) (run_assign (v := .int .i64 0) (by kernel_rfl)) ?_
  refine wl_nil ?_
  refine then_n ?_
  refine cw_seq ?_
  refine cw_region ?_
  refine wl_val (v := .int .i64 p0_0) (w' := w0) (by kernel_rfl) (run_move (v := .int .i64 p0_0) (by kernel_rfl)) ?_
  refine wl_val (v := .int .i64 (add .i64 p0_0 16)) (w' := w0) (by kernel_rfl) (run_add (k := .i64) (a := p0_0) (b := 16) (by kernel_rfl) (by kernel_rfl)) ?_
  refine wl_val (v := .int .i64 (quo .i64 (add .i64 p0_0 16) 8)) (w' := w0) (by kernel_rfl) (run_quo (k := .i64) (a := (add .i64 p0_0 16)) (b := 8) (by kernel_rfl) (by kernel_rfl) (by decide)) ?_
  refine wl_val (v := .int .i64 (quo .i64 (add .i64 p0_0 16) 8)) (w' := w0) (by kernel_rfl) (run_assign (v := .int .i64 (quo .i64 (add .i64 p0_0 16) 8)) (by kernel_rfl)) ?_
  refine wl_nil ?_
  refine then_n ?_
  refine cw_ret ?_
  obtain rfl := Option.some.inj hm
  exact ret1 (v := .int .i64 (quo .i64 (add .i64 p0_0 16) 8)) rfl (resv_tmp (by kernel_rfl)) ⟨_, rfl, by kernel_rfl, hB⟩
end SxYtihfogahdofdmaaDoor

/- Written by program (gen.py): the model of internal/bytealg.hashStr[string], and the proof that its code computes it. -/
namespace SxYtihfogahdofdmaaDoor
open Go Go.RowKit Sx Go.Proofs
set_option linter.unusedVariables false
set_option linter.unusedSimpArgs false
attribute [local irreducible] WL WX CW OW
/-! ### 93: "internal/bytealg.hashStr[string]" -/
def m93_J2 (fuel : Nat) (hash_2 : Int) (pow_5 : Int) : Option (Int × Int) :=
  some (hash_2, pow_5)
def m93_J4 (fuel : Nat) (sq_2 : Int) (i_3 : Int) (self_1 : ((Int × Int × Int) → Option (Int × Int))) (pow_9 : Int) : Option (Int × Int) :=
  self_1 (pow_9, (mul .u32 sq_2 sq_2), (shr .i64 i_3 1))
def m93_L3 (fuel : Nat) (hash_2 : Int) (self_1 : Int × Int × Int → Option (Int × Int)) : Int × Int × Int → Option (Int × Int) := fun (pow_7, sq_2, i_3) =>
  if (gt i_3 0) then (if (nei (band .i64 i_3 1) 0) then (m93_J4 fuel sq_2 i_3 self_1 (mul .u32 pow_7 sq_2)) else (m93_J4 fuel sq_2 i_3 self_1 pow_7)) else (m93_J2 fuel hash_2 pow_7)
def m93_J1 (fuel : Nat) (p0_0 : (List UInt8)) (hash_2 : Int) : Option (Int × Int) :=
  loopF (m93_L3 fuel hash_2) fuel (1, 16777619, (p0_0.length : Int))
def m93_L5 (fuel : Nat) (p0_0 : (List UInt8)) (self_2 : Int × Int → Option (Int × Int)) : Int × Int → Option (Int × Int) := fun (hash_3, i_4) =>
  if (lt i_4 (p0_0.length : Int)) then ((at? p0_0 i_4).bind fun b_6 => (some (add .u32 (mul .u32 hash_3 16777619) (cvt .u32 (b_6.toNat : Int)))).bind fun x_6 => self_2 (x_6, (add .i64 i_4 1))) else (m93_J1 fuel p0_0 hash_3)
def m93 (fuel : Nat) (p0_0 : (List UInt8)) : Option (Int × Int) :=
  loopF (m93_L5 fuel p0_0) fuel (0, 0)
@[reducible] def Q93 (F : Lx) (w0 : World) (r : (Int × Int)) (v : Value) (w' : World) : Prop := v = .tuple #[.int .u32 r.1, .int .u32 r.2] ∧ Below w0.heap.size w0 w'
set_option maxRecDepth 100000 in
set_option maxHeartbeats 4000000 in
theorem f93_ok (fuel : Nat) (F : Lx) (w0 : World) (hF : ∀ k, some k ∈ F → k < w0.heap.size) {p0_0 : (List UInt8)} {r : (Int × Int)} (hm : m93 fuel p0_0 = some r) :
    Calls Tryd.prog 93 #[.string ⟨⟨p0_0⟩⟩] w0 (fun e w' => ∃ v, e = .returned v ∧ Q93 F w0 r v w') := by
  have hPF : PF (bodyPost Tryd.prog Tryd.f93 (fun e w' => ∃ v, e = .returned v ∧ Q93 F w0 r v w')) := PF.body (fun c w h => by obtain ⟨v, e, _⟩ := h; cases e)
  have hL := LOk.start hF
  have hB := Below.refl w0.heap.size w0
  unfold m93 at hm
  refine enter (l := [.string ⟨⟨p0_0⟩⟩, undef, undef, undef, undef, undef, undef, undef, undef, undef, undef, undef, undef, undef, undef, undef, undef, undef, undef, undef, undef, undef, undef, undef, undef, undef, undef, undef, undef, undef, undef, undef, undef, undef, undef, undef, undef, undef, undef]) Tryd.func93 rfl Tryd.ntmps93 (by kernel_rfl) ?_
  refine cw_seq ?_
  refine cw_region ?_
  refine wl_val (v := .int .u32 0) (w' := w0) (by kernel_rfl) (run_assign (v := .int .u32 0) (by kernel_rfl)) ?_
  refine wl_val (v := .int .u32 0) (w' := w0) (by kernel_rfl) (run_assign (v := .int .u32 0) (by kernel_rfl)) ?_
  refine wl_nil ?_
  refine then_n ?_
  refine cw_seq ?_
  refine cw_region ?_
  refine wl_val (v := .int .u32 0) (w' := w0) (by kernel_rfl) (run_assign (v := .int .u32 0) (by kernel_rfl)) ?_
  refine wl_nil ?_
  refine then_n ?_
  refine cw_cut (fun l' w' => ∃ hash_2, ∃ u_3 : Nat → Value, l' = [.string ⟨⟨p0_0⟩⟩, undef, .int .u32 0, .int .u32 0, .int .u32 hash_2, (u_3 0), undef, undef, undef, (u_3 1), (u_3 2), (u_3 3), (u_3 4), (u_3 5), (u_3 6), (u_3 7), (u_3 8), (u_3 9), (u_3 10), (u_3 11), (u_3 12), (u_3 13), undef, undef, undef, undef, undef, undef, undef, undef, undef, undef, undef, undef, undef, undef, undef, undef, undef] ∧ LOk w0.heap.size [] F w' ∧ Below w0.heap.size w0 w' ∧ m93_J1 fuel p0_0 hash_2 = some r) ?_ ?_
  · refine cw_seq ?_
    refine cw_region ?_
    refine wl_val (v := .int .i64 0) (w' := w0) (by kernel_rfl) (run_assign (v := .int .i64 0) (by kernel_rfl)) ?_
    refine wl_nil ?_
    refine then_n ?_
    refine cw_block ?_
    refine cw_loop (σ := Int × Int) (m93_L5 fuel p0_0) r (fun s l' w' => ∃ u_16 : Nat → Value, l' = [.string ⟨⟨p0_0⟩⟩, undef, .int .u32 0, .int .u32 0, .int .u32 s.1, .int .i64 s.2, undef, undef, undef, (u_16 0), (u_16 1), (u_16 2), (u_16 3), (u_16 4), (u_16 5), (u_16 6), (u_16 7), (u_16 8), (u_16 9), (u_16 10), (u_16 11), (u_16 12), undef, undef, undef, undef, undef, undef, undef, undef, undef, undef, undef, undef, undef, undef, undef, undef, undef] ∧ LOk w0.heap.size [] F w' ∧ Below w0.heap.size w0 w') ?_ (s := (0, 0)) (n := fuel) ⟨(fun i => ([undef, undef, undef, undef, undef, undef, undef, undef, undef, undef, undef, undef, undef] : List Value).getD i undef), by kernel_rfl, hL, hB⟩ hm
    intro self_2 s l1 w_5 hI hm
    obtain ⟨hash_3, i_4⟩ := s
    try dsimp only at hI
    obtain ⟨u_16, rfl, hL, hB⟩ := hI
    unfold m93_L5 at hm
    refine cw_seq ?_
    refine cw_seq ?_
    refine cw_region ?_
    refine wl_val (v := .int .i64 i_4) (w' := w_5) (by kernel_rfl) (run_move (v := .int .i64 i_4) (by kernel_rfl)) ?_
    refine wl_val (v := .string ⟨⟨p0_0⟩⟩) (w' := w_5) (by kernel_rfl) (run_move (v := .string ⟨⟨p0_0⟩⟩) (by kernel_rfl)) ?_
    refine wl_val (v := .int .i64 (p0_0.length : Int)) (w' := w_5) (by kernel_rfl) (run_len_str (s := p0_0) Tryd.underlying9 (by kernel_rfl)) ?_
    refine wl_val (v := .bool (lt i_4 (p0_0.length : Int))) (w' := w_5) (by kernel_rfl) (run_lt (k := .i64) (a := i_4) (b := (p0_0.length : Int)) (by kernel_rfl) (by kernel_rfl)) ?_
    refine wl_nil ?_
    refine then_n ?_
    refine cw_cond (t := (lt i_4 (p0_0.length : Int))) (by kernel_rfl) (fun hc_19 => ?_) (fun hc_19 => ?_)
    · have hm := ite_t hm hc_19
      refine cw_skip ?_
      refine then_n ?_
      refine cw_seq ?_
      refine cw_block ?_
      refine cw_region ?_
      refine wl_val (v := .int .u32 hash_3) (w' := w_5) (by kernel_rfl) (run_move (v := .int .u32 hash_3) (by kernel_rfl)) ?_
      refine wl_val (v := .int .u32 (mul .u32 hash_3 16777619)) (w' := w_5) (by kernel_rfl) (run_mul (k := .u32) (a := hash_3) (b := 16777619) (by kernel_rfl) (by kernel_rfl)) ?_
      refine wl_val (v := .string ⟨⟨p0_0⟩⟩) (w' := w_5) (by kernel_rfl) (run_move (v := .string ⟨⟨p0_0⟩⟩) (by kernel_rfl)) ?_
      refine wl_val (v := .int .i64 i_4) (w' := w_5) (by kernel_rfl) (run_move (v := .int .i64 i_4) (by kernel_rfl)) ?_
      obtain ⟨b_6, h_16, hm⟩ := bind_e hm
      obtain ⟨h_170, h_171, _⟩ := at_some h_16
      refine wl_val (v := .int .u8 (b_6.toNat : Int)) (w' := w_5) (by kernel_rfl) (run_index_str (s := p0_0) (k := .i64) (j := i_4) Tryd.underlying9 (by kernel_rfl) (by kernel_rfl) h_170 h_171) ?_
      refine wl_val (v := .int .u32 (cvt .u32 (b_6.toNat : Int))) (w' := w_5) (by kernel_rfl) (run_cvt (k := .u8) (a := (b_6.toNat : Int)) Tryd.underlying5 Tryd.underlying96 (by kernel_rfl)) ?_
      obtain ⟨x_6, h_18, hm⟩ := bind_e hm
      refine wl_val (v := .int .u32 x_6) (w' := w_5) (by kernel_rfl) (by rw [← Option.some.inj h_18]; exact run_add (k := .u32) (a := (mul .u32 hash_3 16777619)) (b := (cvt .u32 (b_6.toNat : Int))) (by kernel_rfl) (by kernel_rfl)) ?_
      refine wl_val (v := .int .u32 x_6) (w' := w_5) (by kernel_rfl) (run_assign (v := .int .u32 x_6) (by kernel_rfl)) ?_
      refine wl_nil ?_
      refine inBlock_n ?_
      refine then_n ?_
      refine cw_norm [.string ⟨⟨p0_0⟩⟩, undef, .int .u32 0, .int .u32 0, .int .u32 x_6, .int .i64 i_4, undef, undef, undef, .int .i64 i_4, .string ⟨⟨p0_0⟩⟩, .int .i64 (p0_0.length : Int), .bool (lt i_4 (p0_0.length : Int)), (u_16 4), (u_16 5), .int .u32 hash_3, .int .u32 (mul .u32 hash_3 16777619), .string ⟨⟨p0_0⟩⟩, .int .i64 i_4, .int .u8 (b_6.toNat : Int), .int .u32 (cvt .u32 (b_6.toNat : Int)), .int .u32 x_6, undef, undef, undef, undef, undef, undef, undef, undef, undef, undef, undef, undef, undef, undef, undef, undef, undef] (by kernel_rfl) ?_
      refine cw_region ?_
      refine wl_val (v := .int .i64 i_4) (w' := w_5) (by kernel_rfl) (run_move (v := .int .i64 i_4) (by kernel_rfl)) ?_
      refine wl_val (v := .int .i64 (add .i64 i_4 1)) (w' := w_5) (by kernel_rfl) (run_add (k := .i64) (a := i_4) (b := 1) (by kernel_rfl) (by kernel_rfl)) ?_
      refine wl_val (v := .int .i64 (add .i64 i_4 1)) (w' := w_5) (by kernel_rfl) (run_assign (v := .int .i64 (add .i64 i_4 1)) (by kernel_rfl)) ?_
      refine wl_nil ?_
      exact ⟨_, rfl, (x_6, (add .i64 i_4 1)), ⟨(fun i => ([.int .i64 i_4, .string ⟨⟨p0_0⟩⟩, .int .i64 (p0_0.length : Int), .bool (lt i_4 (p0_0.length : Int)), .int .i64 i_4, .int .i64 (add .i64 i_4 1), .int .u32 hash_3, .int .u32 (mul .u32 hash_3 16777619), .string ⟨⟨p0_0⟩⟩, .int .i64 i_4, .int .u8 (b_6.toNat : Int), .int .u32 (cvt .u32 (b_6.toNat : Int)), .int .u32 x_6] : List Value).getD i undef), by kernel_rfl, hL, hB⟩, hm⟩
    · have hm := ite_f hm hc_19
      refine cw_exit ?_
      refine then_exit ?_
      refine then_exit ?_
      refine inBlock_same ?_
      exact then_c ⟨hash_3, (fun i => ([.int .i64 i_4, .int .i64 i_4, .string ⟨⟨p0_0⟩⟩, .int .i64 (p0_0.length : Int), .bool (lt i_4 (p0_0.length : Int)), (u_16 4), (u_16 5), (u_16 6), (u_16 7), (u_16 8), (u_16 9), (u_16 10), (u_16 11), (u_16 12)] : List Value).getD i undef), by kernel_rfl, hL, hB, hm⟩
  · intro l1 w_1 hI
    obtain ⟨hash_2, u_3, rfl, hL, hB, hm⟩ := hI
    unfold m93_J1 at hm
    refine cw_seq ?_
    refine cw_region ?_
    refine wl_val (v := .int .u32 1) (w' := w_1) (by kernel_rfl) (run_assign (v := .int .u32 1) (by kernel_rfl)) ?_
    refine wl_val (v := .int .u32 16777619) (w' := w_1) (by kernel_rfl) (run_assign (v := .int .u32 16777619) (by kernel_rfl)) ?_
    refine wl_nil ?_
    refine then_n ?_
    refine cw_cut (fun l' w' => ∃ pow_5, ∃ u_9 : Nat → Value, l' = [.string ⟨⟨p0_0⟩⟩, undef, .int .u32 0, .int .u32 0, .int .u32 hash_2, (u_3 0), .int .u32 pow_5, (u_9 0), (u_9 1), (u_3 1), (u_3 2), (u_3 3), (u_3 4), (u_3 5), (u_3 6), (u_3 7), (u_3 8), (u_3 9), (u_3 10), (u_3 11), (u_3 12), (u_3 13), (u_9 2), (u_9 3), (u_9 4), (u_9 5), (u_9 6), (u_9 7), (u_9 8), (u_9 9), (u_9 10), (u_9 11), (u_9 12), (u_9 13), (u_9 14), (u_9 15), (u_9 16), undef, undef] ∧ LOk w0.heap.size [] F w' ∧ Below w0.heap.size w0 w' ∧ m93_J2 fuel hash_2 pow_5 = some r) ?_ ?_
    · refine cw_seq ?_
      refine cw_region ?_
      refine wl_val (v := .string ⟨⟨p0_0⟩⟩) (w' := w_1) (by kernel_rfl) (run_move (v := .string ⟨⟨p0_0⟩⟩) (by kernel_rfl)) ?_
      refine wl_val (v := .int .i64 (p0_0.length : Int)) (w' := w_1) (by kernel_rfl) (run_len_str (s := p0_0) Tryd.underlying9 (by kernel_rfl)) ?_
      refine wl_val (v := .int .i64 (p0_0.length : Int)) (w' := w_1) (by kernel_rfl) (run_assign (v := .int .i64 (p0_0.length : Int)) (by kernel_rfl)) ?_
      refine wl_nil ?_
      refine then_n ?_
      refine cw_block ?_
      refine cw_loop (σ := Int × Int × Int) (m93_L3 fuel hash_2) r (fun s l' w' => ∃ u_12 : Nat → Value, l' = [.string ⟨⟨p0_0⟩⟩, undef, .int .u32 0, .int .u32 0, .int .u32 hash_2, (u_3 0), .int .u32 s.1, .int .u32 s.2.1, .int .i64 s.2.2, (u_3 1), (u_3 2), (u_3 3), (u_3 4), (u_3 5), (u_3 6), (u_3 7), (u_3 8), (u_3 9), (u_3 10), (u_3 11), (u_3 12), (u_3 13), .string ⟨⟨p0_0⟩⟩, .int .i64 (p0_0.length : Int), (u_12 0), (u_12 1), (u_12 2), (u_12 3), (u_12 4), (u_12 5), (u_12 6), (u_12 7), (u_12 8), (u_12 9), (u_12 10), (u_12 11), (u_12 12), undef, undef] ∧ LOk w0.heap.size [] F w' ∧ Below w0.heap.size w0 w') ?_ (s := (1, 16777619, (p0_0.length : Int))) (n := fuel) ⟨(fun i => ([undef, undef, undef, undef, undef, undef, undef, undef, undef, undef, undef, undef, undef] : List Value).getD i undef), by kernel_rfl, hL, hB⟩ hm
      intro self_1 s l1 w_3 hI hm
      obtain ⟨pow_7, sq_2, i_3⟩ := s
      try dsimp only at hI
      obtain ⟨u_12, rfl, hL, hB⟩ := hI
      unfold m93_L3 at hm
      refine cw_seq ?_
      refine cw_seq ?_
      refine cw_region ?_
      refine wl_val (v := .int .i64 i_3) (w' := w_3) (by kernel_rfl) (run_move (v := .int .i64 i_3) (by kernel_rfl)) ?_
      refine wl_val (v := .bool (gt i_3 0)) (w' := w_3) (by kernel_rfl) (run_gt (k := .i64) (a := i_3) (b := 0) (by kernel_rfl) (by kernel_rfl)) ?_
      refine wl_nil ?_
      refine then_n ?_
      refine cw_cond (t := (gt i_3 0)) (by kernel_rfl) (fun hc_14 => ?_) (fun hc_14 => ?_)
      · have hm := ite_t hm hc_14
        refine cw_skip ?_
        refine then_n ?_
        refine cw_seq ?_
        refine cw_block ?_
        refine cw_cut (fun l' w' => ∃ pow_9, ∃ u_14 : Nat → Value, l' = [.string ⟨⟨p0_0⟩⟩, undef, .int .u32 0, .int .u32 0, .int .u32 hash_2, (u_3 0), .int .u32 pow_9, .int .u32 sq_2, .int .i64 i_3, (u_3 1), (u_3 2), (u_3 3), (u_3 4), (u_3 5), (u_3 6), (u_3 7), (u_3 8), (u_3 9), (u_3 10), (u_3 11), (u_3 12), (u_3 13), .string ⟨⟨p0_0⟩⟩, .int .i64 (p0_0.length : Int), .int .i64 i_3, .bool (gt i_3 0), (u_12 2), (u_12 3), (u_14 0), (u_14 1), (u_14 2), (u_14 3), (u_14 4), (u_14 5), (u_12 10), (u_12 11), (u_12 12), undef, undef] ∧ LOk w0.heap.size [] F w' ∧ Below w0.heap.size w0 w' ∧ m93_J4 fuel sq_2 i_3 self_1 pow_9 = some r) ?_ ?_
        · refine cw_seq ?_
          refine cw_region ?_
          refine wl_val (v := .int .i64 i_3) (w' := w_3) (by kernel_rfl) (run_move (v := .int .i64 i_3) (by kernel_rfl)) ?_
          refine wl_val (v := .int .i64 (band .i64 i_3 1)) (w' := w_3) (by kernel_rfl) (run_band (k := .i64) (a := i_3) (b := 1) (by kernel_rfl) (by kernel_rfl)) ?_
          refine wl_val (v := .bool (nei (band .i64 i_3 1) 0)) (w' := w_3) (by kernel_rfl) (run_nei (k := .i64) (a := (band .i64 i_3 1)) (b := 0) (by kernel_rfl) (by kernel_rfl)) ?_
          refine wl_nil ?_
          refine then_n ?_
          refine cw_cond (t := (nei (band .i64 i_3 1) 0)) (by kernel_rfl) (fun hc_16 => ?_) (fun hc_16 => ?_)
          · have hm := ite_t hm hc_16
            refine cw_region ?_
            refine wl_val (v := .int .u32 pow_7) (w' := w_3) (by kernel_rfl) (run_move (v := .int .u32 pow_7) (by kernel_rfl)) ?_
            refine wl_val (v := .int .u32 sq_2) (w' := w_3) (by kernel_rfl) (run_move (v := .int .u32 sq_2) (by kernel_rfl)) ?_
            refine wl_val (v := .int .u32 (mul .u32 pow_7 sq_2)) (w' := w_3) (by kernel_rfl) (run_mul (k := .u32) (a := pow_7) (b := sq_2) (by kernel_rfl) (by kernel_rfl)) ?_
            refine wl_val (v := .int .u32 (mul .u32 pow_7 sq_2)) (w' := w_3) (by kernel_rfl) (run_assign (v := .int .u32 (mul .u32 pow_7 sq_2)) (by kernel_rfl)) ?_
            refine wl_nil ?_
            exact then_c ⟨(mul .u32 pow_7 sq_2), (fun i => ([.int .i64 i_3, .int .i64 (band .i64 i_3 1), .bool (nei (band .i64 i_3 1) 0), .int .u32 pow_7, .int .u32 sq_2, .int .u32 (mul .u32 pow_7 sq_2)] : List Value).getD i undef), by kernel_rfl, hL, hB, hm⟩
          · have hm := ite_f hm hc_16
            refine cw_skip ?_
            exact then_c ⟨pow_7, (fun i => ([.int .i64 i_3, .int .i64 (band .i64 i_3 1), .bool (nei (band .i64 i_3 1) 0), (u_12 7), (u_12 8), (u_12 9)] : List Value).getD i undef), by kernel_rfl, hL, hB, hm⟩
        · intro l1 w_4 hI
          obtain ⟨pow_9, u_14, rfl, hL, hB, hm⟩ := hI
          unfold m93_J4 at hm
          refine cw_region ?_
          refine wl_val (v := .int .u32 sq_2) (w' := w_4) (by kernel_rfl) (run_move (v := .int .u32 sq_2) (by kernel_rfl)) ?_
          refine wl_val (v := .int .u32 sq_2) (w' := w_4) (by kernel_rfl) (run_move (v := .int .u32 sq_2) (by kernel_rfl)) ?_
          refine wl_val (v := .int .u32 (mul .u32 sq_2 sq_2)) (w' := w_4) (by kernel_rfl) (run_mul (k := .u32) (a := sq_2) (b := sq_2) (by kernel_rfl) (by kernel_rfl)) ?_
          refine wl_val (v := .int .u32 (mul .u32 sq_2 sq_2)) (w' := w_4) (by kernel_rfl) (run_assign (v := .int .u32 (mul .u32 sq_2 sq_2)) (by kernel_rfl)) ?_
          refine wl_nil ?_
          refine inBlock_n ?_
          refine then_n ?_
          refine cw_region ?_
          refine wl_val (v := .int .i64 i_3) (w' := w_4) (by kernel_rfl) (run_move (v := .int .i64 i_3) (by kernel_rfl)) ?_
          refine wl_val (v := .int .i64 (shr .i64 i_3 1)) (w' := w_4) (by kernel_rfl) (run_shr (k := .i64) (a := i_3) (k' := .u64) (b := 1) (by kernel_rfl) (by kernel_rfl) rfl) ?_
          refine wl_val (v := .int .i64 (shr .i64 i_3 1)) (w' := w_4) (by kernel_rfl) (run_assign (v := .int .i64 (shr .i64 i_3 1)) (by kernel_rfl)) ?_
          refine wl_nil ?_
          exact ⟨_, rfl, (pow_9, (mul .u32 sq_2 sq_2), (shr .i64 i_3 1)), ⟨(fun i => ([.int .i64 i_3, .bool (gt i_3 0), .int .i64 i_3, .int .i64 (shr .i64 i_3 1), (u_14 0), (u_14 1), (u_14 2), (u_14 3), (u_14 4), (u_14 5), .int .u32 sq_2, .int .u32 sq_2, .int .u32 (mul .u32 sq_2 sq_2)] : List Value).getD i undef), by kernel_rfl, hL, hB⟩, hm⟩
      · have hm := ite_f hm hc_14
        refine cw_exit ?_
        refine then_exit ?_
        refine then_exit ?_
        refine inBlock_same ?_
        exact then_c ⟨pow_7, (fun i => ([.int .u32 sq_2, .int .i64 i_3, .string ⟨⟨p0_0⟩⟩, .int .i64 (p0_0.length : Int), .int .i64 i_3, .bool (gt i_3 0), (u_12 2), (u_12 3), (u_12 4), (u_12 5), (u_12 6), (u_12 7), (u_12 8), (u_12 9), (u_12 10), (u_12 11), (u_12 12)] : List Value).getD i undef), by kernel_rfl, hL, hB, hm⟩
    · intro l1 w_2 hI
      obtain ⟨pow_5, u_9, rfl, hL, hB, hm⟩ := hI
      unfold m93_J2 at hm
      refine cw_seq ?_
      refine cw_region ?_
      refine wl_val (v := .int .u32 hash_2) (w' := w_2) (by kernel_rfl) (run_move (v := .int .u32 hash_2) (by kernel_rfl)) ?_
      refine wl_val (v := .int .u32 pow_5) (w' := w_2) (by kernel_rfl) (run_move (v := .int .u32 pow_5) (by kernel_rfl)) ?_
      refine wl_val (v := .int .u32 hash_2) (w' := w_2) (by kernel_rfl) (run_assign (v := .int .u32 hash_2) (by kernel_rfl)) ?_
      refine wl_val (v := .int .u32 pow_5) (w' := w_2) (by kernel_rfl) (run_assign (v := .int .u32 pow_5) (by kernel_rfl)) ?_
      refine wl_nil ?_
      refine then_n ?_
      refine cw_ret ?_
      obtain rfl := Option.some.inj hm
      exact ret2 (v := .int .u32 hash_2) (v' := .int .u32 pow_5) rfl (resv_tmp (by kernel_rfl)) (resv_tmp (by kernel_rfl)) ⟨_, rfl, by kernel_rfl, hB⟩
end SxYtihfogahdofdmaaDoor

/- Written by program (gen.py): the model of internal/bytealg.IndexRabinKarp[string], and the proof that its code computes it. -/
namespace SxYtihfogahdofdmaaDoor
open Go Go.RowKit Sx Go.Proofs
set_option linter.unusedVariables false
set_option linter.unusedSimpArgs false
attribute [local irreducible] WL WX CW OW
/-! ### 84: "internal/bytealg.IndexRabinKarp[string]" -/
def m84_J3 (fuel : Nat) : Option Int :=
  some (-1)
def m84_J5 (fuel : Nat) (p1_0 : (List UInt8)) (i_3 : Int) (self_1 : ((Int × Int) → Option Int)) (x_23 : Int) (x_24 : Bool) : Option Int :=
  if x_24 then (some (sub .i64 (add .i64 i_3 1) (p1_0.length : Int))) else (self_1 (x_23, (add .i64 i_3 1)))
def m84_L4 (fuel : Nat) (p0_0 : (List UInt8)) (p1_0 : (List UInt8)) (r_1 : (Int × Int)) (self_1 : Int × Int → Option Int) : Int × Int → Option Int := fun (h_45, i_3) =>
  if (lt i_3 (p0_0.length : Int)) then ((at? p0_0 i_3).bind fun b_14 => (some (add .u32 (mul .u32 h_45 16777619) (cvt .u32 (b_14.toNat : Int)))).bind fun x_22 => (at? p0_0 (sub .i64 i_3 (p1_0.length : Int))).bind fun b_15 => (some (sub .u32 x_22 (mul .u32 r_1.2 (cvt .u32 (b_15.toNat : Int))))).bind fun x_23 => if (eqi x_23 r_1.1) then ((cut p0_0 (sub .i64 (add .i64 i_3 1) (p1_0.length : Int)) (add .i64 i_3 1)).bind fun s_8 => m84_J5 fuel p1_0 i_3 self_1 x_23 (eqs s_8 p1_0)) else (m84_J5 fuel p1_0 i_3 self_1 x_23 false)) else (m84_J3 fuel  )
def m84_J2 (fuel : Nat) (p0_0 : (List UInt8)) (p1_0 : (List UInt8)) (r_1 : (Int × Int)) (h_12 : Int) (x_4 : Bool) : Option Int :=
  if x_4 then (some 0) else (loopF (m84_L4 fuel p0_0 p1_0 r_1) fuel (h_12, (p1_0.length : Int)))
def m84_J1 (fuel : Nat) (p0_0 : (List UInt8)) (p1_0 : (List UInt8)) (r_1 : (Int × Int)) (h_12 : Int) : Option Int :=
  if (eqi h_12 r_1.1) then ((cut p0_0 0 (p1_0.length : Int)).bind fun s_9 => m84_J2 fuel p0_0 p1_0 r_1 h_12 (eqs s_9 p1_0)) else (m84_J2 fuel p0_0 p1_0 r_1 h_12 false)
def m84_L6 (fuel : Nat) (p0_0 : (List UInt8)) (p1_0 : (List UInt8)) (r_1 : (Int × Int)) (self_2 : Int × Int → Option Int) : Int × Int → Option Int := fun (h_65, i_4) =>
  if (lt i_4 (p1_0.length : Int)) then ((at? p0_0 i_4).bind fun b_18 => (some (add .u32 (mul .u32 h_65 16777619) (cvt .u32 (b_18.toNat : Int)))).bind fun x_27 => self_2 (x_27, (add .i64 i_4 1))) else (m84_J1 fuel p0_0 p1_0 r_1 h_65)
def m84 (fuel : Nat) (p0_0 : (List UInt8)) (p1_0 : (List UInt8)) : Option Int :=
  (m93 fuel p1_0).bind fun r_1 => loopF (m84_L6 fuel p0_0 p1_0 r_1) fuel (0, 0)
@[reducible] def Q84 (F : Lx) (w0 : World) (r : Int) (v : Value) (w' : World) : Prop := v = .int .i64 r ∧ Below w0.heap.size w0 w'
set_option maxRecDepth 100000 in
set_option maxHeartbeats 4000000 in
theorem f84_ok (fuel : Nat) (F : Lx) (w0 : World) (hF : ∀ k, some k ∈ F → k < w0.heap.size) {p0_0 : (List UInt8)} {p1_0 : (List UInt8)} {r : Int} (hm : m84 fuel p0_0 p1_0 = some r) :
    Calls Tryd.prog 84 #[.string ⟨⟨p0_0⟩⟩, .string ⟨⟨p1_0⟩⟩] w0 (fun e w' => ∃ v, e = .returned v ∧ Q84 F w0 r v w') := by
  have hPF : PF (bodyPost Tryd.prog Tryd.f84 (fun e w' => ∃ v, e = .returned v ∧ Q84 F w0 r v w')) := PF.body (fun c w h => by obtain ⟨v, e, _⟩ := h; cases e)
  have hL := LOk.start hF
  have hB := Below.refl w0.heap.size w0
  unfold m84 at hm
  refine enter (l := [.string ⟨⟨p0_0⟩⟩, .string ⟨⟨p1_0⟩⟩, undef, undef, undef, undef, undef, undef, undef, undef, undef, undef, undef, undef, undef, undef, undef, undef, undef, undef, undef, undef, undef, undef, undef, undef, undef, undef, undef, undef, undef, undef, undef, undef, undef, undef, undef, undef, undef, undef, undef, undef, undef, undef, undef, undef, undef, undef, undef, undef, undef, undef, undef, undef, undef, undef, undef, undef, undef, undef, undef, undef, undef, undef, undef, undef, undef, undef, undef, undef, undef, undef, undef, undef, undef, undef, undef, undef, undef, undef, undef]) Tryd.func84 rfl Tryd.ntmps84 (by kernel_rfl) ?_
  refine cw_seq ?_
  refine cw_region ?_
  refine wl_val (v := .int .i64 0) (w' := w0) (by kernel_rfl) (run_assign (v := .int .i64 0) (by kernel_rfl)) ?_
  refine wl_nil ?_
  refine then_n ?_
  refine cw_seq ?_
  refine cw_region ?_
  refine wl_val (v := .string ⟨⟨p1_0⟩⟩) (w' := w0) (by kernel_rfl) (run_move (v := .string ⟨⟨p1_0⟩⟩) (by kernel_rfl)) ?_
  obtain ⟨r_1, h_1, hm⟩ := bind_e hm
  refine wl_op (by kernel_rfl) (ow_enter (run_callf (vs := [.string ⟨⟨p1_0⟩⟩]) Tryd.func93 nm_93 (by kernel_rfl) (by kernel_rfl)) (f93_ok (p0_0 := p1_0) fuel _ w0 hL.lt  h_1) ?_)
  intro vR w_1 hR
  obtain ⟨rfl, hBe⟩ := hR
  have hS := Stp.call hL (Fz.of_below hBe [])
  replace hB := hS.below hL hB
  replace hL := hS.hL
  refine wl_val (v := .tuple #[.int .u32 r_1.1, .int .u32 r_1.2]) (w' := w_1) (by kernel_rfl) (run_move (v := .tuple #[.int .u32 r_1.1, .int .u32 r_1.2]) (by kernel_rfl)) ?_
  refine wl_val (v := .int .u32 r_1.1) (w' := w_1) (by kernel_rfl) (run_extract (vs := #[.int .u32 r_1.1, .int .u32 r_1.2]) (by kernel_rfl) (by kernel_rfl)) ?_
  refine wl_val (v := .int .u32 r_1.2) (w' := w_1) (by kernel_rfl) (run_extract (vs := #[.int .u32 r_1.1, .int .u32 r_1.2]) (by kernel_rfl) (by kernel_rfl)) ?_
  refine wl_val (v := .int .u32 r_1.1) (w' := w_1) (by kernel_rfl) (run_assign (v := .int .u32 r_1.1) (by kernel_rfl)) ?_
  refine wl_val (v := .int .u32 r_1.2) (w' := w_1) (by kernel_rfl) (run_assign (v := .int .u32 r_1.2) (by kernel_rfl)) ?_
  refine wl_nil ?_
  refine then_n ?_
  refine cw_seq ?_
  refine cw_region ?_
  refine wl_val (v := .string ⟨⟨p1_0⟩⟩) (w' := w_1) (by kernel_rfl) (run_move (v := .string ⟨⟨p1_0⟩⟩) (by kernel_rfl)) ?_
  refine wl_val (v := .int .i64 (p1_0.length : Int)) (w' := w_1) (by kernel_rfl) (run_len_str (s := p1_0) Tryd.underlying9 (by kernel_rfl)) ?_
  refine wl_val (v := .int .i64 (p1_0.length : Int)) (w' := w_1) (by kernel_rfl) (run_assign (v := .int .i64 (p1_0.length : Int)) (by kernel_rfl)) ?_
  refine wl_nil ?_
  refine then_n ?_
  refine cw_seq ?_
  refine cw_region ?_
  refine wl_val (v := .int .u32 0) (w' := w_1) (by kernel_rfl) (run_assign (v := .int .u32 0) (by kernel_rfl)) ?_
  refine wl_nil ?_
  refine then_n ?_
  refine cw_norm [.string ⟨⟨p0_0⟩⟩, .string ⟨⟨p1_0⟩⟩, undef, undef, .int .i64 0, .int .u32 r_1.1, .int .u32 r_1.2, .int .i64 (p1_0.length : Int), .int .u32 0, undef, undef, .tuple #[.int .u32 r_1.1, .int .u32 r_1.2], .string ⟨⟨p1_0⟩⟩, .tuple #[.int .u32 r_1.1, .int .u32 r_1.2], .int .u32 r_1.1, .int .u32 r_1.2, .string ⟨⟨p1_0⟩⟩, .int .i64 (p1_0.length : Int), undef, undef, undef, undef, undef, undef, undef, undef, undef, undef, undef, undef, undef, undef, undef, undef, undef, undef, undef, undef, undef, undef, undef, undef, undef, undef, undef, undef, undef, undef, undef, undef, undef, undef, undef, undef, undef, undef, undef, undef, undef, undef, undef, undef, undef, undef, undef, undef, undef, undef, undef, undef, undef, undef, undef, undef, undef, undef, undef, undef, undef, undef, undef] (by kernel_rfl) ?_
  refine cw_cut (fun l' w' => ∃ h_12, ∃ u_3 : Nat → Value, l' = [.string ⟨⟨p0_0⟩⟩, .string ⟨⟨p1_0⟩⟩, undef, undef, .int .i64 0, .int .u32 r_1.1, .int .u32 r_1.2, .int .i64 (p1_0.length : Int), .int .u32 h_12, (u_3 0), undef, .tuple #[.int .u32 r_1.1, .int .u32 r_1.2], .string ⟨⟨p1_0⟩⟩, .tuple #[.int .u32 r_1.1, .int .u32 r_1.2], .int .u32 r_1.1, .int .u32 r_1.2, .string ⟨⟨p1_0⟩⟩, .int .i64 (p1_0.length : Int), (u_3 1), (u_3 2), (u_3 3), (u_3 4), (u_3 5), (u_3 6), (u_3 7), (u_3 8), (u_3 9), (u_3 10), (u_3 11), (u_3 12), undef, undef, undef, undef, undef, undef, undef, undef, undef, undef, undef, undef, undef, undef, undef, undef, undef, undef, undef, undef, undef, undef, undef, undef, undef, undef, undef, undef, undef, undef, undef, undef, undef, undef, undef, undef, undef, undef, undef, undef, undef, undef, undef, undef, undef, undef, undef, undef, undef, undef, undef] ∧ LOk w0.heap.size [] F w' ∧ Below w0.heap.size w0 w' ∧ m84_J1 fuel p0_0 p1_0 r_1 h_12 = some r) ?_ ?_
  · refine cw_seq ?_
    refine cw_region ?_
    refine wl_val (v := .int .i64 0) (w' := w_1) (by kernel_rfl) (run_assign (v := .int .i64 0) (by kernel_rfl)) ?_
    refine wl_nil ?_
    refine then_n ?_
    refine cw_block ?_
    refine cw_loop (σ := Int × Int) (m84_L6 fuel p0_0 p1_0 r_1) r (fun s l' w' => ∃ u_17 : Nat → Value, l' = [.string ⟨⟨p0_0⟩⟩, .string ⟨⟨p1_0⟩⟩, undef, undef, .int .i64 0, .int .u32 r_1.1, .int .u32 r_1.2, .int .i64 (p1_0.length : Int), .int .u32 s.1, .int .i64 s.2, undef, .tuple #[.int .u32 r_1.1, .int .u32 r_1.2], .string ⟨⟨p1_0⟩⟩, .tuple #[.int .u32 r_1.1, .int .u32 r_1.2], .int .u32 r_1.1, .int .u32 r_1.2, .string ⟨⟨p1_0⟩⟩, .int .i64 (p1_0.length : Int), (u_17 0), (u_17 1), (u_17 2), (u_17 3), (u_17 4), (u_17 5), (u_17 6), (u_17 7), (u_17 8), (u_17 9), (u_17 10), (u_17 11), undef, undef, undef, undef, undef, undef, undef, undef, undef, undef, undef, undef, undef, undef, undef, undef, undef, undef, undef, undef, undef, undef, undef, undef, undef, undef, undef, undef, undef, undef, undef, undef, undef, undef, undef, undef, undef, undef, undef, undef, undef, undef, undef, undef, undef, undef, undef, undef, undef, undef, undef] ∧ LOk w0.heap.size [] F w' ∧ Below w0.heap.size w0 w') ?_ (s := (0, 0)) (n := fuel) ⟨(fun i => ([undef, undef, undef, undef, undef, undef, undef, undef, undef, undef, undef, undef] : List Value).getD i undef), by kernel_rfl, hL, hB⟩ hm
    intro self_2 s l1 w_7 hI hm
    obtain ⟨h_65, i_4⟩ := s
    try dsimp only at hI
    obtain ⟨u_17, rfl, hL, hB⟩ := hI
    unfold m84_L6 at hm
    refine cw_seq ?_
    refine cw_seq ?_
    refine cw_region ?_
    refine wl_val (v := .int .i64 i_4) (w' := w_7) (by kernel_rfl) (run_move (v := .int .i64 i_4) (by kernel_rfl)) ?_
    refine wl_val (v := .int .i64 (p1_0.length : Int)) (w' := w_7) (by kernel_rfl) (run_move (v := .int .i64 (p1_0.length : Int)) (by kernel_rfl)) ?_
    refine wl_val (v := .bool (lt i_4 (p1_0.length : Int))) (w' := w_7) (by kernel_rfl) (run_lt (k := .i64) (a := i_4) (b := (p1_0.length : Int)) (by kernel_rfl) (by kernel_rfl)) ?_
    refine wl_nil ?_
    refine then_n ?_
    refine cw_cond (t := (lt i_4 (p1_0.length : Int))) (by kernel_rfl) (fun hc_28 => ?_) (fun hc_28 => ?_)
    · have hm := ite_t hm hc_28
      refine cw_skip ?_
      refine then_n ?_
      refine cw_seq ?_
      refine cw_block ?_
      refine cw_region ?_
      refine wl_val (v := .int .u32 h_65) (w' := w_7) (by kernel_rfl) (run_move (v := .int .u32 h_65) (by kernel_rfl)) ?_
      refine wl_val (v := .int .u32 (mul .u32 h_65 16777619)) (w' := w_7) (by kernel_rfl) (run_mul (k := .u32) (a := h_65) (b := 16777619) (by kernel_rfl) (by kernel_rfl)) ?_
      refine wl_val (v := .string ⟨⟨p0_0⟩⟩) (w' := w_7) (by kernel_rfl) (run_move (v := .string ⟨⟨p0_0⟩⟩) (by kernel_rfl)) ?_
      refine wl_val (v := .int .i64 i_4) (w' := w_7) (by kernel_rfl) (run_move (v := .int .i64 i_4) (by kernel_rfl)) ?_
      obtain ⟨b_18, h_69, hm⟩ := bind_e hm
      obtain ⟨h_700, h_701, _⟩ := at_some h_69
      refine wl_val (v := .int .u8 (b_18.toNat : Int)) (w' := w_7) (by kernel_rfl) (run_index_str (s := p0_0) (k := .i64) (j := i_4) Tryd.underlying9 (by kernel_rfl) (by kernel_rfl) h_700 h_701) ?_
      refine wl_val (v := .int .u32 (cvt .u32 (b_18.toNat : Int))) (w' := w_7) (by kernel_rfl) (run_cvt (k := .u8) (a := (b_18.toNat : Int)) Tryd.underlying5 Tryd.underlying96 (by kernel_rfl)) ?_
      obtain ⟨x_27, h_71, hm⟩ := bind_e hm
      refine wl_val (v := .int .u32 x_27) (w' := w_7) (by kernel_rfl) (by rw [← Option.some.inj h_71]; exact run_add (k := .u32) (a := (mul .u32 h_65 16777619)) (b := (cvt .u32 (b_18.toNat : Int))) (by kernel_rfl) (by kernel_rfl)) ?_
      refine wl_val (v := .int .u32 x_27) (w' := w_7) (by kernel_rfl) (run_assign (v := .int .u32 x_27) (by kernel_rfl)) ?_
      refine wl_nil ?_
      refine inBlock_n ?_
      refine then_n ?_
      refine cw_norm [.string ⟨⟨p0_0⟩⟩, .string ⟨⟨p1_0⟩⟩, undef, undef, .int .i64 0, .int .u32 r_1.1, .int .u32 r_1.2, .int .i64 (p1_0.length : Int), .int .u32 x_27, .int .i64 i_4, undef, .tuple #[.int .u32 r_1.1, .int .u32 r_1.2], .string ⟨⟨p1_0⟩⟩, .tuple #[.int .u32 r_1.1, .int .u32 r_1.2], .int .u32 r_1.1, .int .u32 r_1.2, .string ⟨⟨p1_0⟩⟩, .int .i64 (p1_0.length : Int), .int .i64 i_4, .int .i64 (p1_0.length : Int), .bool (lt i_4 (p1_0.length : Int)), (u_17 3), (u_17 4), .int .u32 h_65, .int .u32 (mul .u32 h_65 16777619), .string ⟨⟨p0_0⟩⟩, .int .i64 i_4, .int .u8 (b_18.toNat : Int), .int .u32 (cvt .u32 (b_18.toNat : Int)), .int .u32 x_27, undef, undef, undef, undef, undef, undef, undef, undef, undef, undef, undef, undef, undef, undef, undef, undef, undef, undef, undef, undef, undef, undef, undef, undef, undef, undef, undef, undef, undef, undef, undef, undef, undef, undef, undef, undef, undef, undef, undef, undef, undef, undef, undef, undef, undef, undef, undef, undef, undef, undef, undef] (by kernel_rfl) ?_
      refine cw_region ?_
      refine wl_val (v := .int .i64 i_4) (w' := w_7) (by kernel_rfl) (run_move (v := .int .i64 i_4) (by kernel_rfl)) ?_
      refine wl_val (v := .int .i64 (add .i64 i_4 1)) (w' := w_7) (by kernel_rfl) (run_add (k := .i64) (a := i_4) (b := 1) (by kernel_rfl) (by kernel_rfl)) ?_
      refine wl_val (v := .int .i64 (add .i64 i_4 1)) (w' := w_7) (by kernel_rfl) (run_assign (v := .int .i64 (add .i64 i_4 1)) (by kernel_rfl)) ?_
      refine wl_nil ?_
      exact ⟨_, rfl, (x_27, (add .i64 i_4 1)), ⟨(fun i => ([.int .i64 i_4, .int .i64 (p1_0.length : Int), .bool (lt i_4 (p1_0.length : Int)), .int .i64 i_4, .int .i64 (add .i64 i_4 1), .int .u32 h_65, .int .u32 (mul .u32 h_65 16777619), .string ⟨⟨p0_0⟩⟩, .int .i64 i_4, .int .u8 (b_18.toNat : Int), .int .u32 (cvt .u32 (b_18.toNat : Int)), .int .u32 x_27] : List Value).getD i undef), by kernel_rfl, hL, hB⟩, hm⟩
    · have hm := ite_f hm hc_28
      refine cw_exit ?_
      refine then_exit ?_
      refine then_exit ?_
      refine inBlock_same ?_
      exact then_c ⟨h_65, (fun i => ([.int .i64 i_4, .int .i64 i_4, .int .i64 (p1_0.length : Int), .bool (lt i_4 (p1_0.length : Int)), (u_17 3), (u_17 4), (u_17 5), (u_17 6), (u_17 7), (u_17 8), (u_17 9), (u_17 10), (u_17 11)] : List Value).getD i undef), by kernel_rfl, hL, hB, hm⟩
  · intro l1 w_2 hI
    obtain ⟨h_12, u_3, rfl, hL, hB, hm⟩ := hI
    unfold m84_J1 at hm
    refine cw_seq ?_
    refine cw_cut (fun l' w' => ∃ x_4, ∃ u_4 : Nat → Value, l' = [.string ⟨⟨p0_0⟩⟩, .string ⟨⟨p1_0⟩⟩, undef, undef, .int .i64 0, .int .u32 r_1.1, .int .u32 r_1.2, .int .i64 (p1_0.length : Int), .int .u32 h_12, (u_3 0), undef, .tuple #[.int .u32 r_1.1, .int .u32 r_1.2], .string ⟨⟨p1_0⟩⟩, .tuple #[.int .u32 r_1.1, .int .u32 r_1.2], .int .u32 r_1.1, .int .u32 r_1.2, .string ⟨⟨p1_0⟩⟩, .int .i64 (p1_0.length : Int), (u_3 1), (u_3 2), (u_3 3), (u_3 4), (u_3 5), (u_3 6), (u_3 7), (u_3 8), (u_3 9), (u_3 10), (u_3 11), (u_3 12), (u_4 0), (u_4 1), (u_4 2), (u_4 3), (u_4 4), (u_4 5), (u_4 6), (u_4 7), (u_4 8), .bool x_4, undef, undef, undef, undef, undef, undef, undef, undef, undef, undef, undef, undef, undef, undef, undef, undef, undef, undef, undef, undef, undef, undef, undef, undef, undef, undef, undef, undef, undef, undef, undef, undef, undef, undef, undef, undef, undef, undef, undef, undef, undef] ∧ LOk w0.heap.size [] F w' ∧ Below w0.heap.size w0 w' ∧ m84_J2 fuel p0_0 p1_0 r_1 h_12 x_4 = some r) ?_ ?_
    · refine cw_region ?_
      refine wl_val (v := .int .u32 h_12) (w' := w_2) (by kernel_rfl) (run_move (v := .int .u32 h_12) (by kernel_rfl)) ?_
      refine wl_val (v := .int .u32 r_1.1) (w' := w_2) (by kernel_rfl) (run_move (v := .int .u32 r_1.1) (by kernel_rfl)) ?_
      refine wl_val (v := .bool (eqi h_12 r_1.1)) (w' := w_2) (by kernel_rfl) (run_eqi (k := .u32) (a := h_12) (b := r_1.1) (by kernel_rfl) (by kernel_rfl)) ?_
      refine wl_val (v := .bool (eqi h_12 r_1.1)) (w' := w_2) (by kernel_rfl) (run_move (v := .bool (eqi h_12 r_1.1)) (by kernel_rfl)) ?_
      rcases Bool.eq_false_or_eq_true (eqi h_12 r_1.1) with hc_25 | hc_25
      · have hm := ite_t hm hc_25
        refine wl_val (v := .string ⟨⟨p0_0⟩⟩) (w' := w_2) (wg (c := (eqi h_12 r_1.1)) (want := true) (by kernel_rfl) hc_25 rfl) (run_move (v := .string ⟨⟨p0_0⟩⟩) (by kernel_rfl)) ?_
        refine wl_val (v := .int .i64 (p1_0.length : Int)) (w' := w_2) (wg (c := (eqi h_12 r_1.1)) (want := true) (by kernel_rfl) hc_25 rfl) (run_move (v := .int .i64 (p1_0.length : Int)) (by kernel_rfl)) ?_
        obtain ⟨s_9, h_61, hm⟩ := bind_e hm
        refine wl_val (v := .string ⟨⟨s_9⟩⟩) (w' := w_2) (wg (c := (eqi h_12 r_1.1)) (want := true) (by kernel_rfl) hc_25 rfl) (run_slice_str_h (s := p0_0) (k := .i64) (j := (p1_0.length : Int)) Tryd.underlying9 (by kernel_rfl) (by kernel_rfl) h_61) ?_
        refine wl_val (v := .string ⟨⟨p1_0⟩⟩) (w' := w_2) (wg (c := (eqi h_12 r_1.1)) (want := true) (by kernel_rfl) hc_25 rfl) (run_move (v := .string ⟨⟨p1_0⟩⟩) (by kernel_rfl)) ?_
        refine wl_val (v := .bool (eqs s_9 p1_0)) (w' := w_2) (wg (c := (eqi h_12 r_1.1)) (want := true) (by kernel_rfl) hc_25 rfl) (run_eqs (a := s_9) (b := p1_0) (by kernel_rfl) (by kernel_rfl)) ?_
        refine wl_val (v := .bool (eqs s_9 p1_0)) (w' := w_2) (by kernel_rfl) (run_pick_t (v := .bool (eqs s_9 p1_0)) (tr2 (c := (eqi h_12 r_1.1)) (by kernel_rfl) hc_25) (by kernel_rfl)) ?_
        refine wl_nil ?_
        exact then_c ⟨(eqs s_9 p1_0), (fun i => ([.int .u32 h_12, .int .u32 r_1.1, .bool (eqi h_12 r_1.1), .bool (eqi h_12 r_1.1), .string ⟨⟨p0_0⟩⟩, .int .i64 (p1_0.length : Int), .string ⟨⟨s_9⟩⟩, .string ⟨⟨p1_0⟩⟩, .bool (eqs s_9 p1_0)] : List Value).getD i undef), by kernel_rfl, hL, hB, hm⟩
      · have hm := ite_f hm hc_25
        refine wl_not0 (wg (c := (eqi h_12 r_1.1)) (want := true) (by kernel_rfl) hc_25 rfl) (by kernel_rfl) ?_
        refine wl_not0 (wg (c := (eqi h_12 r_1.1)) (want := true) (by kernel_rfl) hc_25 rfl) (by kernel_rfl) ?_
        refine wl_not0 (wg (c := (eqi h_12 r_1.1)) (want := true) (by kernel_rfl) hc_25 rfl) (by kernel_rfl) ?_
        refine wl_not0 (wg (c := (eqi h_12 r_1.1)) (want := true) (by kernel_rfl) hc_25 rfl) (by kernel_rfl) ?_
        refine wl_not0 (wg (c := (eqi h_12 r_1.1)) (want := true) (by kernel_rfl) hc_25 rfl) (by kernel_rfl) ?_
        refine wl_val (v := .bool false) (w' := w_2) (by kernel_rfl) (run_pick_f (v := .bool false) (tr2 (c := (eqi h_12 r_1.1)) (by kernel_rfl) hc_25) (by kernel_rfl)) ?_
        refine wl_nil ?_
        exact then_c ⟨false, (fun i => ([.int .u32 h_12, .int .u32 r_1.1, .bool (eqi h_12 r_1.1), .bool (eqi h_12 r_1.1), undef, undef, undef, undef, undef] : List Value).getD i undef), by kernel_rfl, hL, hB, hm⟩
    · intro l1 w_3 hI
      obtain ⟨x_4, u_4, rfl, hL, hB, hm⟩ := hI
      unfold m84_J2 at hm
      refine cw_cond (t := x_4) (by kernel_rfl) (fun hc_5 => ?_) (fun hc_5 => ?_)
      · have hm := ite_t hm hc_5
        refine cw_seq ?_
        refine cw_region ?_
        refine wl_val (v := .int .i64 0) (w' := w_3) (by kernel_rfl) (run_assign (v := .int .i64 0) (by kernel_rfl)) ?_
        refine wl_nil ?_
        refine then_n ?_
        refine cw_ret ?_
        refine then_ret ?_
        obtain rfl := Option.some.inj hm
        exact ret1 (v := .int .i64 0) rfl (resv_tmp (by kernel_rfl)) ⟨_, rfl, by kernel_rfl, hB⟩
      · have hm := ite_f hm hc_5
        refine cw_skip ?_
        refine then_n ?_
        refine cw_cut (fun l' w' => ∃ u_10 : Nat → Value, l' = [.string ⟨⟨p0_0⟩⟩, .string ⟨⟨p1_0⟩⟩, undef, undef, (u_10 0), .int .u32 r_1.1, .int .u32 r_1.2, .int .i64 (p1_0.length : Int), (u_10 1), (u_3 0), (u_10 2), .tuple #[.int .u32 r_1.1, .int .u32 r_1.2], .string ⟨⟨p1_0⟩⟩, .tuple #[.int .u32 r_1.1, .int .u32 r_1.2], .int .u32 r_1.1, .int .u32 r_1.2, .string ⟨⟨p1_0⟩⟩, .int .i64 (p1_0.length : Int), (u_3 1), (u_3 2), (u_3 3), (u_3 4), (u_3 5), (u_3 6), (u_3 7), (u_3 8), (u_3 9), (u_3 10), (u_3 11), (u_3 12), (u_4 0), (u_4 1), (u_4 2), (u_4 3), (u_4 4), (u_4 5), (u_4 6), (u_4 7), (u_4 8), .bool x_4, (u_10 3), (u_10 4), (u_10 5), (u_10 6), (u_10 7), (u_10 8), (u_10 9), (u_10 10), (u_10 11), (u_10 12), (u_10 13), (u_10 14), (u_10 15), (u_10 16), (u_10 17), (u_10 18), (u_10 19), (u_10 20), (u_10 21), (u_10 22), (u_10 23), (u_10 24), (u_10 25), (u_10 26), (u_10 27), (u_10 28), (u_10 29), (u_10 30), (u_10 31), (u_10 32), (u_10 33), (u_10 34), (u_10 35), (u_10 36), (u_10 37), (u_10 38), (u_10 39), (u_10 40), (u_10 41), (u_10 42), (u_10 43)] ∧ LOk w0.heap.size [] F w' ∧ Below w0.heap.size w0 w' ∧ m84_J3 fuel  = some r) ?_ ?_
        · refine cw_seq ?_
          refine cw_region ?_
          refine wl_val (v := .int .i64 (p1_0.length : Int)) (w' := w_3) (by kernel_rfl) (run_move (v := .int .i64 (p1_0.length : Int)) (by kernel_rfl)) ?_
          refine wl_val (v := .int .i64 (p1_0.length : Int)) (w' := w_3) (by kernel_rfl) (run_assign (v := .int .i64 (p1_0.length : Int)) (by kernel_rfl)) ?_
          refine wl_nil ?_
          refine then_n ?_
          refine cw_block ?_
          refine cw_loop (σ := Int × Int) (m84_L4 fuel p0_0 p1_0 r_1) r (fun s l' w' => ∃ u_13 : Nat → Value, l' = [.string ⟨⟨p0_0⟩⟩, .string ⟨⟨p1_0⟩⟩, undef, undef, (u_13 0), .int .u32 r_1.1, .int .u32 r_1.2, .int .i64 (p1_0.length : Int), .int .u32 s.1, (u_3 0), .int .i64 s.2, .tuple #[.int .u32 r_1.1, .int .u32 r_1.2], .string ⟨⟨p1_0⟩⟩, .tuple #[.int .u32 r_1.1, .int .u32 r_1.2], .int .u32 r_1.1, .int .u32 r_1.2, .string ⟨⟨p1_0⟩⟩, .int .i64 (p1_0.length : Int), (u_3 1), (u_3 2), (u_3 3), (u_3 4), (u_3 5), (u_3 6), (u_3 7), (u_3 8), (u_3 9), (u_3 10), (u_3 11), (u_3 12), (u_4 0), (u_4 1), (u_4 2), (u_4 3), (u_4 4), (u_4 5), (u_4 6), (u_4 7), (u_4 8), .bool x_4, .int .i64 (p1_0.length : Int), (u_13 1), (u_13 2), (u_13 3), (u_13 4), (u_13 5), (u_13 6), (u_13 7), (u_13 8), (u_13 9), (u_13 10), (u_13 11), (u_13 12), (u_13 13), (u_13 14), (u_13 15), (u_13 16), (u_13 17), (u_13 18), (u_13 19), (u_13 20), (u_13 21), (u_13 22), (u_13 23), (u_13 24), (u_13 25), (u_13 26), (u_13 27), (u_13 28), (u_13 29), (u_13 30), (u_13 31), (u_13 32), (u_13 33), (u_13 34), (u_13 35), (u_13 36), (u_13 37), (u_13 38), (u_13 39), (u_13 40)] ∧ LOk w0.heap.size [] F w' ∧ Below w0.heap.size w0 w') ?_ (s := (h_12, (p1_0.length : Int))) (n := fuel) ⟨(fun i => ([.int .i64 0, undef, undef, undef, undef, undef, undef, undef, undef, undef, undef, undef, undef, undef, undef, undef, undef, undef, undef, undef, undef, undef, undef, undef, undef, undef, undef, undef, undef, undef, undef, undef, undef, undef, undef, undef, undef, undef, undef, undef, undef] : List Value).getD i undef), by kernel_rfl, hL, hB⟩ hm
          intro self_1 s l1 w_5 hI hm
          obtain ⟨h_45, i_3⟩ := s
          try dsimp only at hI
          obtain ⟨u_13, rfl, hL, hB⟩ := hI
          unfold m84_L4 at hm
          refine cw_seq ?_
          refine cw_seq ?_
          refine cw_region ?_
          refine wl_val (v := .int .i64 i_3) (w' := w_5) (by kernel_rfl) (run_move (v := .int .i64 i_3) (by kernel_rfl)) ?_
          refine wl_val (v := .string ⟨⟨p0_0⟩⟩) (w' := w_5) (by kernel_rfl) (run_move (v := .string ⟨⟨p0_0⟩⟩) (by kernel_rfl)) ?_
          refine wl_val (v := .int .i64 (p0_0.length : Int)) (w' := w_5) (by kernel_rfl) (run_len_str (s := p0_0) Tryd.underlying9 (by kernel_rfl)) ?_
          refine wl_val (v := .bool (lt i_3 (p0_0.length : Int))) (w' := w_5) (by kernel_rfl) (run_lt (k := .i64) (a := i_3) (b := (p0_0.length : Int)) (by kernel_rfl) (by kernel_rfl)) ?_
          refine wl_nil ?_
          refine then_n ?_
          refine cw_cond (t := (lt i_3 (p0_0.length : Int))) (by kernel_rfl) (fun hc_21 => ?_) (fun hc_21 => ?_)
          · have hm := ite_t hm hc_21
            refine cw_skip ?_
            refine then_n ?_
            refine cw_block ?_
            refine cw_seq ?_
            refine cw_region ?_
            refine wl_val (v := .int .u32 h_45) (w' := w_5) (by kernel_rfl) (run_move (v := .int .u32 h_45) (by kernel_rfl)) ?_
            refine wl_val (v := .int .u32 (mul .u32 h_45 16777619)) (w' := w_5) (by kernel_rfl) (run_mul (k := .u32) (a := h_45) (b := 16777619) (by kernel_rfl) (by kernel_rfl)) ?_
            refine wl_val (v := .int .u32 (mul .u32 h_45 16777619)) (w' := w_5) (by kernel_rfl) (run_assign (v := .int .u32 (mul .u32 h_45 16777619)) (by kernel_rfl)) ?_
            refine wl_nil ?_
            refine then_n ?_
            refine cw_seq ?_
            refine cw_region ?_
            refine wl_val (v := .int .u32 (mul .u32 h_45 16777619)) (w' := w_5) (by kernel_rfl) (run_move (v := .int .u32 (mul .u32 h_45 16777619)) (by kernel_rfl)) ?_
            refine wl_val (v := .string ⟨⟨p0_0⟩⟩) (w' := w_5) (by kernel_rfl) (run_move (v := .string ⟨⟨p0_0⟩⟩) (by kernel_rfl)) ?_
            refine wl_val (v := .int .i64 i_3) (w' := w_5) (by kernel_rfl) (run_move (v := .int .i64 i_3) (by kernel_rfl)) ?_
            obtain ⟨b_14, h_53, hm⟩ := bind_e hm
            obtain ⟨h_540, h_541, _⟩ := at_some h_53
            refine wl_val (v := .int .u8 (b_14.toNat : Int)) (w' := w_5) (by kernel_rfl) (run_index_str (s := p0_0) (k := .i64) (j := i_3) Tryd.underlying9 (by kernel_rfl) (by kernel_rfl) h_540 h_541) ?_
            refine wl_val (v := .int .u32 (cvt .u32 (b_14.toNat : Int))) (w' := w_5) (by kernel_rfl) (run_cvt (k := .u8) (a := (b_14.toNat : Int)) Tryd.underlying5 Tryd.underlying96 (by kernel_rfl)) ?_
            obtain ⟨x_22, h_55, hm⟩ := bind_e hm
            refine wl_val (v := .int .u32 x_22) (w' := w_5) (by kernel_rfl) (by rw [← Option.some.inj h_55]; exact run_add (k := .u32) (a := (mul .u32 h_45 16777619)) (b := (cvt .u32 (b_14.toNat : Int))) (by kernel_rfl) (by kernel_rfl)) ?_
            refine wl_val (v := .int .u32 x_22) (w' := w_5) (by kernel_rfl) (run_assign (v := .int .u32 x_22) (by kernel_rfl)) ?_
            refine wl_nil ?_
            refine then_n ?_
            refine cw_norm [.string ⟨⟨p0_0⟩⟩, .string ⟨⟨p1_0⟩⟩, undef, undef, (u_13 0), .int .u32 r_1.1, .int .u32 r_1.2, .int .i64 (p1_0.length : Int), .int .u32 x_22, (u_3 0), .int .i64 i_3, .tuple #[.int .u32 r_1.1, .int .u32 r_1.2], .string ⟨⟨p1_0⟩⟩, .tuple #[.int .u32 r_1.1, .int .u32 r_1.2], .int .u32 r_1.1, .int .u32 r_1.2, .string ⟨⟨p1_0⟩⟩, .int .i64 (p1_0.length : Int), (u_3 1), (u_3 2), (u_3 3), (u_3 4), (u_3 5), (u_3 6), (u_3 7), (u_3 8), (u_3 9), (u_3 10), (u_3 11), (u_3 12), (u_4 0), (u_4 1), (u_4 2), (u_4 3), (u_4 4), (u_4 5), (u_4 6), (u_4 7), (u_4 8), .bool x_4, .int .i64 (p1_0.length : Int), .int .i64 i_3, .string ⟨⟨p0_0⟩⟩, .int .i64 (p0_0.length : Int), .bool (lt i_3 (p0_0.length : Int)), .int .u32 h_45, .int .u32 (mul .u32 h_45 16777619), .int .u32 (mul .u32 h_45 16777619), .string ⟨⟨p0_0⟩⟩, .int .i64 i_3, .int .u8 (b_14.toNat : Int), .int .u32 (cvt .u32 (b_14.toNat : Int)), .int .u32 x_22, (u_13 13), (u_13 14), (u_13 15), (u_13 16), (u_13 17), (u_13 18), (u_13 19), (u_13 20), (u_13 21), (u_13 22), (u_13 23), (u_13 24), (u_13 25), (u_13 26), (u_13 27), (u_13 28), (u_13 29), (u_13 30), (u_13 31), (u_13 32), (u_13 33), (u_13 34), (u_13 35), (u_13 36), (u_13 37), (u_13 38), (u_13 39), (u_13 40)] (by kernel_rfl) ?_
            refine cw_seq ?_
            refine cw_region ?_
            refine wl_val (v := .int .u32 x_22) (w' := w_5) (by kernel_rfl) (run_move (v := .int .u32 x_22) (by kernel_rfl)) ?_
            refine wl_val (v := .int .u32 r_1.2) (w' := w_5) (by kernel_rfl) (run_move (v := .int .u32 r_1.2) (by kernel_rfl)) ?_
            refine wl_val (v := .string ⟨⟨p0_0⟩⟩) (w' := w_5) (by kernel_rfl) (run_move (v := .string ⟨⟨p0_0⟩⟩) (by kernel_rfl)) ?_
            refine wl_val (v := .int .i64 i_3) (w' := w_5) (by kernel_rfl) (run_move (v := .int .i64 i_3) (by kernel_rfl)) ?_
            refine wl_val (v := .int .i64 (p1_0.length : Int)) (w' := w_5) (by kernel_rfl) (run_move (v := .int .i64 (p1_0.length : Int)) (by kernel_rfl)) ?_
            refine wl_val (v := .int .i64 (sub .i64 i_3 (p1_0.length : Int))) (w' := w_5) (by kernel_rfl) (run_sub (k := .i64) (a := i_3) (b := (p1_0.length : Int)) (by kernel_rfl) (by kernel_rfl)) ?_
            obtain ⟨b_15, h_56, hm⟩ := bind_e hm
            obtain ⟨h_570, h_571, _⟩ := at_some h_56
            refine wl_val (v := .int .u8 (b_15.toNat : Int)) (w' := w_5) (by kernel_rfl) (run_index_str (s := p0_0) (k := .i64) (j := (sub .i64 i_3 (p1_0.length : Int))) Tryd.underlying9 (by kernel_rfl) (by kernel_rfl) h_570 h_571) ?_
            refine wl_val (v := .int .u32 (cvt .u32 (b_15.toNat : Int))) (w' := w_5) (by kernel_rfl) (run_cvt (k := .u8) (a := (b_15.toNat : Int)) Tryd.underlying5 Tryd.underlying96 (by kernel_rfl)) ?_
            refine wl_val (v := .int .u32 (mul .u32 r_1.2 (cvt .u32 (b_15.toNat : Int)))) (w' := w_5) (by kernel_rfl) (run_mul (k := .u32) (a := r_1.2) (b := (cvt .u32 (b_15.toNat : Int))) (by kernel_rfl) (by kernel_rfl)) ?_
            obtain ⟨x_23, h_58, hm⟩ := bind_e hm
            refine wl_val (v := .int .u32 x_23) (w' := w_5) (by kernel_rfl) (by rw [← Option.some.inj h_58]; exact run_sub (k := .u32) (a := x_22) (b := (mul .u32 r_1.2 (cvt .u32 (b_15.toNat : Int)))) (by kernel_rfl) (by kernel_rfl)) ?_
            refine wl_val (v := .int .u32 x_23) (w' := w_5) (by kernel_rfl) (run_assign (v := .int .u32 x_23) (by kernel_rfl)) ?_
            refine wl_nil ?_
            refine then_n ?_
            refine cw_norm [.string ⟨⟨p0_0⟩⟩, .string ⟨⟨p1_0⟩⟩, undef, undef, (u_13 0), .int .u32 r_1.1, .int .u32 r_1.2, .int .i64 (p1_0.length : Int), .int .u32 x_23, (u_3 0), .int .i64 i_3, .tuple #[.int .u32 r_1.1, .int .u32 r_1.2], .string ⟨⟨p1_0⟩⟩, .tuple #[.int .u32 r_1.1, .int .u32 r_1.2], .int .u32 r_1.1, .int .u32 r_1.2, .string ⟨⟨p1_0⟩⟩, .int .i64 (p1_0.length : Int), (u_3 1), (u_3 2), (u_3 3), (u_3 4), (u_3 5), (u_3 6), (u_3 7), (u_3 8), (u_3 9), (u_3 10), (u_3 11), (u_3 12), (u_4 0), (u_4 1), (u_4 2), (u_4 3), (u_4 4), (u_4 5), (u_4 6), (u_4 7), (u_4 8), .bool x_4, .int .i64 (p1_0.length : Int), .int .i64 i_3, .string ⟨⟨p0_0⟩⟩, .int .i64 (p0_0.length : Int), .bool (lt i_3 (p0_0.length : Int)), .int .u32 h_45, .int .u32 (mul .u32 h_45 16777619), .int .u32 (mul .u32 h_45 16777619), .string ⟨⟨p0_0⟩⟩, .int .i64 i_3, .int .u8 (b_14.toNat : Int), .int .u32 (cvt .u32 (b_14.toNat : Int)), .int .u32 x_22, .int .u32 x_22, .int .u32 r_1.2, .string ⟨⟨p0_0⟩⟩, .int .i64 i_3, .int .i64 (p1_0.length : Int), .int .i64 (sub .i64 i_3 (p1_0.length : Int)), .int .u8 (b_15.toNat : Int), .int .u32 (cvt .u32 (b_15.toNat : Int)), .int .u32 (mul .u32 r_1.2 (cvt .u32 (b_15.toNat : Int))), .int .u32 x_23, (u_13 23), (u_13 24), (u_13 25), (u_13 26), (u_13 27), (u_13 28), (u_13 29), (u_13 30), (u_13 31), (u_13 32), (u_13 33), (u_13 34), (u_13 35), (u_13 36), (u_13 37), (u_13 38), (u_13 39), (u_13 40)] (by kernel_rfl) ?_
            refine cw_seq ?_
            refine cw_region ?_
            refine wl_val (v := .int .i64 i_3) (w' := w_5) (by kernel_rfl) (run_move (v := .int .i64 i_3) (by kernel_rfl)) ?_
            refine wl_val (v := .int .i64 (add .i64 i_3 1)) (w' := w_5) (by kernel_rfl) (run_add (k := .i64) (a := i_3) (b := 1) (by kernel_rfl) (by kernel_rfl)) ?_
            refine wl_val (v := .int .i64 (add .i64 i_3 1)) (w' := w_5) (by kernel_rfl) (run_assign (v := .int .i64 (add .i64 i_3 1)) (by kernel_rfl)) ?_
            refine wl_nil ?_
            refine then_n ?_
            refine cw_cut (fun l' w' => ∃ x_24, ∃ u_15 : Nat → Value, l' = [.string ⟨⟨p0_0⟩⟩, .string ⟨⟨p1_0⟩⟩, undef, undef, (u_13 0), .int .u32 r_1.1, .int .u32 r_1.2, .int .i64 (p1_0.length : Int), .int .u32 x_23, (u_3 0), .int .i64 (add .i64 i_3 1), .tuple #[.int .u32 r_1.1, .int .u32 r_1.2], .string ⟨⟨p1_0⟩⟩, .tuple #[.int .u32 r_1.1, .int .u32 r_1.2], .int .u32 r_1.1, .int .u32 r_1.2, .string ⟨⟨p1_0⟩⟩, .int .i64 (p1_0.length : Int), (u_3 1), (u_3 2), (u_3 3), (u_3 4), (u_3 5), (u_3 6), (u_3 7), (u_3 8), (u_3 9), (u_3 10), (u_3 11), (u_3 12), (u_4 0), (u_4 1), (u_4 2), (u_4 3), (u_4 4), (u_4 5), (u_4 6), (u_4 7), (u_4 8), .bool x_4, .int .i64 (p1_0.length : Int), .int .i64 i_3, .string ⟨⟨p0_0⟩⟩, .int .i64 (p0_0.length : Int), .bool (lt i_3 (p0_0.length : Int)), .int .u32 h_45, .int .u32 (mul .u32 h_45 16777619), .int .u32 (mul .u32 h_45 16777619), .string ⟨⟨p0_0⟩⟩, .int .i64 i_3, .int .u8 (b_14.toNat : Int), .int .u32 (cvt .u32 (b_14.toNat : Int)), .int .u32 x_22, .int .u32 x_22, .int .u32 r_1.2, .string ⟨⟨p0_0⟩⟩, .int .i64 i_3, .int .i64 (p1_0.length : Int), .int .i64 (sub .i64 i_3 (p1_0.length : Int)), .int .u8 (b_15.toNat : Int), .int .u32 (cvt .u32 (b_15.toNat : Int)), .int .u32 (mul .u32 r_1.2 (cvt .u32 (b_15.toNat : Int))), .int .u32 x_23, .int .i64 i_3, .int .i64 (add .i64 i_3 1), (u_15 0), (u_15 1), (u_15 2), (u_15 3), (u_15 4), (u_15 5), (u_15 6), (u_15 7), (u_15 8), (u_15 9), (u_15 10), (u_15 11), .bool x_24, (u_13 38), (u_13 39), (u_13 40)] ∧ LOk w0.heap.size [] F w' ∧ Below w0.heap.size w0 w' ∧ m84_J5 fuel p1_0 i_3 self_1 x_23 x_24 = some r) ?_ ?_
            · refine cw_region ?_
              refine wl_val (v := .int .u32 x_23) (w' := w_5) (by kernel_rfl) (run_move (v := .int .u32 x_23) (by kernel_rfl)) ?_
              refine wl_val (v := .int .u32 r_1.1) (w' := w_5) (by kernel_rfl) (run_move (v := .int .u32 r_1.1) (by kernel_rfl)) ?_
              refine wl_val (v := .bool (eqi x_23 r_1.1)) (w' := w_5) (by kernel_rfl) (run_eqi (k := .u32) (a := x_23) (b := r_1.1) (by kernel_rfl) (by kernel_rfl)) ?_
              refine wl_val (v := .bool (eqi x_23 r_1.1)) (w' := w_5) (by kernel_rfl) (run_move (v := .bool (eqi x_23 r_1.1)) (by kernel_rfl)) ?_
              rcases Bool.eq_false_or_eq_true (eqi x_23 r_1.1) with hc_24 | hc_24
              · have hm := ite_t hm hc_24
                refine wl_val (v := .string ⟨⟨p0_0⟩⟩) (w' := w_5) (wg (c := (eqi x_23 r_1.1)) (want := true) (by kernel_rfl) hc_24 rfl) (run_move (v := .string ⟨⟨p0_0⟩⟩) (by kernel_rfl)) ?_
                refine wl_val (v := .int .i64 (add .i64 i_3 1)) (w' := w_5) (wg (c := (eqi x_23 r_1.1)) (want := true) (by kernel_rfl) hc_24 rfl) (run_move (v := .int .i64 (add .i64 i_3 1)) (by kernel_rfl)) ?_
                refine wl_norm [.string ⟨⟨p0_0⟩⟩, .string ⟨⟨p1_0⟩⟩, undef, undef, (u_13 0), .int .u32 r_1.1, .int .u32 r_1.2, .int .i64 (p1_0.length : Int), .int .u32 x_23, (u_3 0), .int .i64 (add .i64 i_3 1), .tuple #[.int .u32 r_1.1, .int .u32 r_1.2], .string ⟨⟨p1_0⟩⟩, .tuple #[.int .u32 r_1.1, .int .u32 r_1.2], .int .u32 r_1.1, .int .u32 r_1.2, .string ⟨⟨p1_0⟩⟩, .int .i64 (p1_0.length : Int), (u_3 1), (u_3 2), (u_3 3), (u_3 4), (u_3 5), (u_3 6), (u_3 7), (u_3 8), (u_3 9), (u_3 10), (u_3 11), (u_3 12), (u_4 0), (u_4 1), (u_4 2), (u_4 3), (u_4 4), (u_4 5), (u_4 6), (u_4 7), (u_4 8), .bool x_4, .int .i64 (p1_0.length : Int), .int .i64 i_3, .string ⟨⟨p0_0⟩⟩, .int .i64 (p0_0.length : Int), .bool (lt i_3 (p0_0.length : Int)), .int .u32 h_45, .int .u32 (mul .u32 h_45 16777619), .int .u32 (mul .u32 h_45 16777619), .string ⟨⟨p0_0⟩⟩, .int .i64 i_3, .int .u8 (b_14.toNat : Int), .int .u32 (cvt .u32 (b_14.toNat : Int)), .int .u32 x_22, .int .u32 x_22, .int .u32 r_1.2, .string ⟨⟨p0_0⟩⟩, .int .i64 i_3, .int .i64 (p1_0.length : Int), .int .i64 (sub .i64 i_3 (p1_0.length : Int)), .int .u8 (b_15.toNat : Int), .int .u32 (cvt .u32 (b_15.toNat : Int)), .int .u32 (mul .u32 r_1.2 (cvt .u32 (b_15.toNat : Int))), .int .u32 x_23, .int .i64 i_3, .int .i64 (add .i64 i_3 1), .int .u32 x_23, .int .u32 r_1.1, .bool (eqi x_23 r_1.1), .bool (eqi x_23 r_1.1), .string ⟨⟨p0_0⟩⟩, .int .i64 (add .i64 i_3 1), (u_13 31), (u_13 32), (u_13 33), (u_13 34), (u_13 35), (u_13 36), (u_13 37), (u_13 38), (u_13 39), (u_13 40)] (by kernel_rfl) ?_
                refine wl_val (v := .int .i64 (p1_0.length : Int)) (w' := w_5) (wg (c := (eqi x_23 r_1.1)) (want := true) (by kernel_rfl) hc_24 rfl) (run_move (v := .int .i64 (p1_0.length : Int)) (by kernel_rfl)) ?_
                refine wl_val (v := .int .i64 (sub .i64 (add .i64 i_3 1) (p1_0.length : Int))) (w' := w_5) (wg (c := (eqi x_23 r_1.1)) (want := true) (by kernel_rfl) hc_24 rfl) (run_sub (k := .i64) (a := (add .i64 i_3 1)) (b := (p1_0.length : Int)) (by kernel_rfl) (by kernel_rfl)) ?_
                refine wl_val (v := .int .i64 (add .i64 i_3 1)) (w' := w_5) (wg (c := (eqi x_23 r_1.1)) (want := true) (by kernel_rfl) hc_24 rfl) (run_move (v := .int .i64 (add .i64 i_3 1)) (by kernel_rfl)) ?_
                obtain ⟨s_8, h_60, hm⟩ := bind_e hm
                refine wl_val (v := .string ⟨⟨s_8⟩⟩) (w' := w_5) (wg (c := (eqi x_23 r_1.1)) (want := true) (by kernel_rfl) hc_24 rfl) (run_slice_str_lh (s := p0_0) (k := .i64) (i := (sub .i64 (add .i64 i_3 1) (p1_0.length : Int))) (k' := .i64) (j := (add .i64 i_3 1)) Tryd.underlying9 (by kernel_rfl) (by kernel_rfl) (by kernel_rfl) h_60) ?_
                refine wl_val (v := .string ⟨⟨p1_0⟩⟩) (w' := w_5) (wg (c := (eqi x_23 r_1.1)) (want := true) (by kernel_rfl) hc_24 rfl) (run_move (v := .string ⟨⟨p1_0⟩⟩) (by kernel_rfl)) ?_
                refine wl_val (v := .bool (eqs s_8 p1_0)) (w' := w_5) (wg (c := (eqi x_23 r_1.1)) (want := true) (by kernel_rfl) hc_24 rfl) (run_eqs (a := s_8) (b := p1_0) (by kernel_rfl) (by kernel_rfl)) ?_
                refine wl_val (v := .bool (eqs s_8 p1_0)) (w' := w_5) (by kernel_rfl) (run_pick_t (v := .bool (eqs s_8 p1_0)) (tr2 (c := (eqi x_23 r_1.1)) (by kernel_rfl) hc_24) (by kernel_rfl)) ?_
                refine wl_nil ?_
                exact then_c ⟨(eqs s_8 p1_0), (fun i => ([.int .u32 x_23, .int .u32 r_1.1, .bool (eqi x_23 r_1.1), .bool (eqi x_23 r_1.1), .string ⟨⟨p0_0⟩⟩, .int .i64 (add .i64 i_3 1), .int .i64 (p1_0.length : Int), .int .i64 (sub .i64 (add .i64 i_3 1) (p1_0.length : Int)), .int .i64 (add .i64 i_3 1), .string ⟨⟨s_8⟩⟩, .string ⟨⟨p1_0⟩⟩, .bool (eqs s_8 p1_0)] : List Value).getD i undef), by kernel_rfl, hL, hB, hm⟩
              · have hm := ite_f hm hc_24
                refine wl_not (wg (c := (eqi x_23 r_1.1)) (want := true) (by kernel_rfl) hc_24 rfl) ?_
                refine wl_not (wg (c := (eqi x_23 r_1.1)) (want := true) (by kernel_rfl) hc_24 rfl) ?_
                refine wl_norm [.string ⟨⟨p0_0⟩⟩, .string ⟨⟨p1_0⟩⟩, undef, undef, (u_13 0), .int .u32 r_1.1, .int .u32 r_1.2, .int .i64 (p1_0.length : Int), .int .u32 x_23, (u_3 0), .int .i64 (add .i64 i_3 1), .tuple #[.int .u32 r_1.1, .int .u32 r_1.2], .string ⟨⟨p1_0⟩⟩, .tuple #[.int .u32 r_1.1, .int .u32 r_1.2], .int .u32 r_1.1, .int .u32 r_1.2, .string ⟨⟨p1_0⟩⟩, .int .i64 (p1_0.length : Int), (u_3 1), (u_3 2), (u_3 3), (u_3 4), (u_3 5), (u_3 6), (u_3 7), (u_3 8), (u_3 9), (u_3 10), (u_3 11), (u_3 12), (u_4 0), (u_4 1), (u_4 2), (u_4 3), (u_4 4), (u_4 5), (u_4 6), (u_4 7), (u_4 8), .bool x_4, .int .i64 (p1_0.length : Int), .int .i64 i_3, .string ⟨⟨p0_0⟩⟩, .int .i64 (p0_0.length : Int), .bool (lt i_3 (p0_0.length : Int)), .int .u32 h_45, .int .u32 (mul .u32 h_45 16777619), .int .u32 (mul .u32 h_45 16777619), .string ⟨⟨p0_0⟩⟩, .int .i64 i_3, .int .u8 (b_14.toNat : Int), .int .u32 (cvt .u32 (b_14.toNat : Int)), .int .u32 x_22, .int .u32 x_22, .int .u32 r_1.2, .string ⟨⟨p0_0⟩⟩, .int .i64 i_3, .int .i64 (p1_0.length : Int), .int .i64 (sub .i64 i_3 (p1_0.length : Int)), .int .u8 (b_15.toNat : Int), .int .u32 (cvt .u32 (b_15.toNat : Int)), .int .u32 (mul .u32 r_1.2 (cvt .u32 (b_15.toNat : Int))), .int .u32 x_23, .int .i64 i_3, .int .i64 (add .i64 i_3 1), .int .u32 x_23, .int .u32 r_1.1, .bool (eqi x_23 r_1.1), .bool (eqi x_23 r_1.1), undef, undef, (u_13 31), (u_13 32), (u_13 33), (u_13 34), (u_13 35), (u_13 36), (u_13 37), (u_13 38), (u_13 39), (u_13 40)] (by kernel_rfl) ?_
                refine wl_not (wg (c := (eqi x_23 r_1.1)) (want := true) (by kernel_rfl) hc_24 rfl) ?_
                refine wl_not (wg (c := (eqi x_23 r_1.1)) (want := true) (by kernel_rfl) hc_24 rfl) ?_
                refine wl_not (wg (c := (eqi x_23 r_1.1)) (want := true) (by kernel_rfl) hc_24 rfl) ?_
                refine wl_not (wg (c := (eqi x_23 r_1.1)) (want := true) (by kernel_rfl) hc_24 rfl) ?_
                refine wl_not (wg (c := (eqi x_23 r_1.1)) (want := true) (by kernel_rfl) hc_24 rfl) ?_
                refine wl_not (wg (c := (eqi x_23 r_1.1)) (want := true) (by kernel_rfl) hc_24 rfl) ?_
                refine wl_val (v := .bool false) (w' := w_5) (by kernel_rfl) (run_pick_f (v := .bool false) (tr2 (c := (eqi x_23 r_1.1)) (by kernel_rfl) hc_24) (by kernel_rfl)) ?_
                refine wl_nil ?_
                exact then_c ⟨false, (fun i => ([.int .u32 x_23, .int .u32 r_1.1, .bool (eqi x_23 r_1.1), .bool (eqi x_23 r_1.1), undef, undef, undef, undef, undef, undef, undef, undef] : List Value).getD i undef), by kernel_rfl, hL, hB, hm⟩
            · intro l1 w_6 hI
              obtain ⟨x_24, u_15, rfl, hL, hB, hm⟩ := hI
              unfold m84_J5 at hm
              refine cw_cond (t := x_24) (by kernel_rfl) (fun hc_23 => ?_) (fun hc_23 => ?_)
              · have hm := ite_t hm hc_23
                refine cw_seq ?_
                refine cw_region ?_
                refine wl_val (v := .int .i64 (add .i64 i_3 1)) (w' := w_6) (by kernel_rfl) (run_move (v := .int .i64 (add .i64 i_3 1)) (by kernel_rfl)) ?_
                refine wl_val (v := .int .i64 (p1_0.length : Int)) (w' := w_6) (by kernel_rfl) (run_move (v := .int .i64 (p1_0.length : Int)) (by kernel_rfl)) ?_
                refine wl_val (v := .int .i64 (sub .i64 (add .i64 i_3 1) (p1_0.length : Int))) (w' := w_6) (by kernel_rfl) (run_sub (k := .i64) (a := (add .i64 i_3 1)) (b := (p1_0.length : Int)) (by kernel_rfl) (by kernel_rfl)) ?_
                refine wl_val (v := .int .i64 (sub .i64 (add .i64 i_3 1) (p1_0.length : Int))) (w' := w_6) (by kernel_rfl) (run_assign (v := .int .i64 (sub .i64 (add .i64 i_3 1) (p1_0.length : Int))) (by kernel_rfl)) ?_
                refine wl_nil ?_
                refine then_n ?_
                refine cw_ret ?_
                refine inBlock_ret ?_
                refine then_ret ?_
                refine inBlock_ret ?_
                refine then_ret ?_
                obtain rfl := Option.some.inj hm
                exact ret1 (v := .int .i64 (sub .i64 (add .i64 i_3 1) (p1_0.length : Int))) rfl (resv_tmp (by kernel_rfl)) ⟨_, rfl, by kernel_rfl, hB⟩
              · have hm := ite_f hm hc_23
                refine cw_skip ?_
                refine inBlock_n ?_
                exact ⟨_, rfl, (x_23, (add .i64 i_3 1)), ⟨(fun i => ([(u_13 0), .int .i64 i_3, .string ⟨⟨p0_0⟩⟩, .int .i64 (p0_0.length : Int), .bool (lt i_3 (p0_0.length : Int)), .int .u32 h_45, .int .u32 (mul .u32 h_45 16777619), .int .u32 (mul .u32 h_45 16777619), .string ⟨⟨p0_0⟩⟩, .int .i64 i_3, .int .u8 (b_14.toNat : Int), .int .u32 (cvt .u32 (b_14.toNat : Int)), .int .u32 x_22, .int .u32 x_22, .int .u32 r_1.2, .string ⟨⟨p0_0⟩⟩, .int .i64 i_3, .int .i64 (p1_0.length : Int), .int .i64 (sub .i64 i_3 (p1_0.length : Int)), .int .u8 (b_15.toNat : Int), .int .u32 (cvt .u32 (b_15.toNat : Int)), .int .u32 (mul .u32 r_1.2 (cvt .u32 (b_15.toNat : Int))), .int .u32 x_23, .int .i64 i_3, .int .i64 (add .i64 i_3 1), (u_15 0), (u_15 1), (u_15 2), (u_15 3), (u_15 4), (u_15 5), (u_15 6), (u_15 7), (u_15 8), (u_15 9), (u_15 10), (u_15 11), .bool x_24, (u_13 38), (u_13 39), (u_13 40)] : List Value).getD i undef), by kernel_rfl, hL, hB⟩, hm⟩
          · have hm := ite_f hm hc_21
            refine cw_exit ?_
            refine then_exit ?_
            refine then_exit ?_
            refine inBlock_same ?_
            exact then_c ⟨(fun i => ([(u_13 0), .int .u32 h_45, .int .i64 i_3, .int .i64 (p1_0.length : Int), .int .i64 i_3, .string ⟨⟨p0_0⟩⟩, .int .i64 (p0_0.length : Int), .bool (lt i_3 (p0_0.length : Int)), (u_13 5), (u_13 6), (u_13 7), (u_13 8), (u_13 9), (u_13 10), (u_13 11), (u_13 12), (u_13 13), (u_13 14), (u_13 15), (u_13 16), (u_13 17), (u_13 18), (u_13 19), (u_13 20), (u_13 21), (u_13 22), (u_13 23), (u_13 24), (u_13 25), (u_13 26), (u_13 27), (u_13 28), (u_13 29), (u_13 30), (u_13 31), (u_13 32), (u_13 33), (u_13 34), (u_13 35), (u_13 36), (u_13 37), (u_13 38), (u_13 39), (u_13 40)] : List Value).getD i undef), by kernel_rfl, hL, hB, hm⟩
        · intro l1 w_4 hI
          obtain ⟨u_10, rfl, hL, hB, hm⟩ := hI
          unfold m84_J3 at hm
          refine cw_seq ?_
          refine cw_region ?_
          refine wl_val (v := .int .i64 (-1)) (w' := w_4) (by kernel_rfl) (run_assign (v := .int .i64 (-1)) (by kernel_rfl)) ?_
          refine wl_nil ?_
          refine then_n ?_
          refine cw_ret ?_
          obtain rfl := Option.some.inj hm
          exact ret1 (v := .int .i64 (-1)) rfl (resv_tmp (by kernel_rfl)) ⟨_, rfl, by kernel_rfl, hB⟩
end SxYtihfogahdofdmaaDoor
