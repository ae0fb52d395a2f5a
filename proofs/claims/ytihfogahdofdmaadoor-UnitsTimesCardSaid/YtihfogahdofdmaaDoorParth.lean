/- Proved in the last of these 10 parts (this is part 8): UnitsTimes: for every argument the card's run of the law answers true. Conditions: those of the given statement, and no others. -/
import Derived.Test.YtihfogahdofdmaaDoorPartc
import Derived.Test.YtihfogahdofdmaaDoorParte
import Derived.Test.YtihfogahdofdmaaDoorPartf
import Derived.Test.YtihfogahdofdmaaDoorPartg
set_option linter.unusedVariables false
set_option linter.unusedSimpArgs false
set_option linter.unusedSectionVars false
section
/- Written by program (gen.py): the model of saucier/saucierlaw12.awake, and the proof that its code computes it. -/
namespace SxYtihfogahdofdmaaDoor
open Go Go.RowKit Sx Go.Proofs
set_option linter.unusedVariables false
set_option linter.unusedSimpArgs false
attribute [local irreducible] WL WX CW OW
/-! ### 12: "saucier/saucierlaw12.awake" -/
def m12_J1 (fuel : Nat) (x_1 : Bool) : Option Bool :=
  some x_1
def m12 (fuel : Nat) : Option Bool :=
  (m18 fuel ([49, 50, 46, 53, 48] : List UInt8)).bind fun r_1 => (m34 fuel ([50, 46, 53] : List UInt8)).bind fun r_2 => (m13 fuel r_2 3 2).bind fun r_3 => (m34 fuel ([50, 46, 53] : List UInt8)).bind fun r_4 => (m13 fuel r_4 3 7).bind fun r_5 => (m34 fuel ([49, 46, 53] : List UInt8)).bind fun r_6 => (m11 fuel r_6 ([109, 105, 110] : List UInt8) ([109, 115] : List UInt8)).bind fun r_7 => (m34 fuel ([53] : List UInt8)).bind fun r_8 => (m11 fuel r_8 ([109, 115] : List UInt8) ([104] : List UInt8)).bind fun r_9 => (m34 fuel ([45, 49, 46, 50] : List UInt8)).bind fun r_10 => (m17 fuel r_10 1 true).bind fun r_11 => (m34 fuel ([45, 49, 46, 50] : List UInt8)).bind fun r_12 => (m17 fuel r_12 1 false).bind fun r_13 => (m16 fuel 65524 1 true).bind fun r_14 => if r_1.2 then ((some ((eqi r_1.1.N 125) && ((eqi r_1.1.D 1) && true))).bind fun c_13 => if c_13 then ((m21 fuel r_1.1).bind fun r_42 => if (eqs r_42 ([49, 50, 46, 53] : List UInt8)) then ((m35 fuel ([48, 49] : List UInt8)).bind fun r_43 => if r_43 then ((m35 fuel ([46, 53] : List UInt8)).bind fun r_44 => if r_44 then ((m35 fuel ([49, 46] : List UInt8)).bind fun r_45 => if r_45 then ((m35 fuel ([49, 46, 48, 48, 48, 48, 48, 48, 49] : List UInt8)).bind fun r_46 => if r_46 then ((m35 fuel ([43, 49] : List UInt8)).bind fun r_47 => if r_47 then (if r_3.2 then ((m34 fuel ([51, 46, 55, 53] : List UInt8)).bind fun r_48 => (some ((eqi r_3.1.N r_48.N) && ((eqi r_3.1.D r_48.D) && true))).bind fun c_14 => if c_14 then (if r_5.2 then (m12_J1 fuel  false) else (if r_7.2 then ((m34 fuel ([57, 48, 48, 48, 48] : List UInt8)).bind fun r_49 => (some ((eqi r_7.1.N r_49.N) && ((eqi r_7.1.D r_49.D) && true))).bind fun c_15 => if c_15 then (if r_9.2 then (m12_J1 fuel  false) else (if r_11.2 then (if (eqi r_11.1 65524) then (if r_13.2 then (m12_J1 fuel  false) else (if r_14.2 then ((m34 fuel ([45, 49, 46, 50] : List UInt8)).bind fun r_50 => (some ((eqi r_14.1.N r_50.N) && ((eqi r_14.1.D r_50.D) && true))).bind fun c_16 => m12_J1 fuel  c_16) else (m12_J1 fuel  false))) else (m12_J1 fuel  false)) else (m12_J1 fuel  false))) else (m12_J1 fuel  false)) else (m12_J1 fuel  false))) else (m12_J1 fuel  false)) else (m12_J1 fuel  false)) else (m12_J1 fuel  false)) else (m12_J1 fuel  false)) else (m12_J1 fuel  false)) else (m12_J1 fuel  false)) else (m12_J1 fuel  false)) else (m12_J1 fuel  false)) else (m12_J1 fuel  false)) else (m12_J1 fuel  false)
@[reducible] def Q12 (F : Lx) (w0 : World) (r : Bool) (v : Value) (w' : World) : Prop := v = .bool r ∧ Below w0.heap.size w0 w'
set_option maxRecDepth 100000 in
set_option maxHeartbeats 4000000 in
theorem f12_ok (fuel : Nat) (F : Lx) (w0 : World) (hF : ∀ k, some k ∈ F → k < w0.heap.size) {r : Bool} (hm : m12 fuel = some r) :
    Calls Tryd.prog 12 #[] w0 (fun e w' => ∃ v, e = .returned v ∧ Q12 F w0 r v w') := by
  have hPF : PF (bodyPost Tryd.prog Tryd.f12 (fun e w' => ∃ v, e = .returned v ∧ Q12 F w0 r v w')) := PF.body (fun c w h => by obtain ⟨v, e, _⟩ := h; cases e)
  have hL := LOk.start hF
  have hB := Below.refl w0.heap.size w0
  unfold m12 at hm
  refine enter (l := [undef, undef, undef, undef, undef, undef, undef, undef, undef, undef, undef, undef, undef, undef, undef, undef, undef, undef, undef, undef, undef, undef, undef, undef, undef, undef, undef, undef, undef, undef, undef, undef, undef, undef, undef, undef, undef, undef, undef, undef, undef, undef, undef, undef, undef, undef, undef, undef, undef, undef, undef, undef, undef, undef, undef, undef, undef, undef, undef, undef, undef, undef, undef, undef, undef, undef, undef, undef, undef, undef, undef, undef, undef, undef, undef, undef, undef, undef, undef, undef, undef, undef, undef, undef, undef, undef, undef, undef, undef, undef, undef, undef, undef, undef, undef, undef, undef, undef, undef, undef, undef, undef, undef, undef, undef, undef, undef, undef, undef, undef, undef, undef, undef, undef, undef, undef, undef, undef, undef, undef, undef, undef, undef, undef]) Tryd.func12 rfl Tryd.ntmps12 (by kernel_rfl) ?_
  refine cw_seq ?_
  refine cw_region ?_
  refine wl_val (v := .bool false) (w' := w0) (by kernel_rfl) (run_assign (v := .bool false) (by kernel_rfl)) ?_
  refine wl_nil ?_
  refine then_n ?_
  refine cw_seq ?_
  refine cw_region ?_
  obtain ⟨r_1, h_1, hm⟩ := bind_e hm
  refine wl_op (by kernel_rfl) (ow_enter (run_callf (vs := [.string ⟨⟨([49, 50, 46, 53, 48] : List UInt8)⟩⟩]) Tryd.func18 nm_18 (by kernel_rfl) (by kernel_rfl)) (f18_ok (p0_0 := ([49, 50, 46, 53, 48] : List UInt8)) fuel _ w0 hL.lt  h_1) ?_)
  intro vR w_1 hR
  obtain ⟨rfl, hBe⟩ := hR
  have hS := Stp.call hL (Fz.of_below hBe [])
  replace hB := hS.below hL hB
  replace hL := hS.hL
  refine wl_val (v := .tuple #[.agg #[.int .i64 r_1.1.N, .int .u8 r_1.1.D], .bool r_1.2]) (w' := w_1) (by kernel_rfl) (run_move (v := .tuple #[.agg #[.int .i64 r_1.1.N, .int .u8 r_1.1.D], .bool r_1.2]) (by kernel_rfl)) ?_
  refine wl_val (v := .agg #[.int .i64 r_1.1.N, .int .u8 r_1.1.D]) (w' := w_1) (by kernel_rfl) (run_extract (vs := #[.agg #[.int .i64 r_1.1.N, .int .u8 r_1.1.D], .bool r_1.2]) (by kernel_rfl) (by kernel_rfl)) ?_
  refine wl_val (v := .bool r_1.2) (w' := w_1) (by kernel_rfl) (run_extract (vs := #[.agg #[.int .i64 r_1.1.N, .int .u8 r_1.1.D], .bool r_1.2]) (by kernel_rfl) (by kernel_rfl)) ?_
  refine wl_op (by kernel_rfl) (ow_alloc' (z := .agg #[.int .i64 0, .int .u8 0]) (vs := [.int .i64 0, .int .u8 0]) (by kernel_rfl) rfl hL ?_)
  intro g_1 w_2 hS h_2
  replace hB := hS.below hL hB
  replace hL := hS.hL
  refine wl_op (by kernel_rfl) (ow_store_box' (g := g_1) (j := 0) (v := .agg #[.int .i64 r_1.1.N, .int .u8 r_1.1.D]) (vs := [.int .i64 r_1.1.N, .int .u8 r_1.1.D]) (cs' := [.int .i64 r_1.1.N, .int .u8 r_1.1.D]) sz_23 (by kernel_rfl) (by kernel_rfl) rfl rfl rfl hL h_2 rfl (by simp) rfl ?_)
  intro w_3 hS h_3
  replace hB := hS.below hL hB
  replace hL := hS.hL
  refine wl_val (v := .bool r_1.2) (w' := w_3) (by kernel_rfl) (run_assign (v := .bool r_1.2) (by kernel_rfl)) ?_
  refine wl_nil ?_
  refine then_n ?_
  refine cw_seq ?_
  refine cw_region ?_
  obtain ⟨r_2, h_4, hm⟩ := bind_e hm
  refine wl_op (by kernel_rfl) (ow_enter (run_callf (vs := [.string ⟨⟨([50, 46, 53] : List UInt8)⟩⟩]) Tryd.func34 nm_34 (by kernel_rfl) (by kernel_rfl)) (f34_ok (p0_0 := ([50, 46, 53] : List UInt8)) fuel _ w_3 hL.lt  h_4) ?_)
  intro vR w_4 hR
  obtain ⟨rfl, hBe⟩ := hR
  have hS := Stp.call hL (Fz.of_below hBe [])
  replace h_3 := hS.box h_3 nilN
  replace hB := hS.below hL hB
  replace hL := hS.hL
  obtain ⟨r_3, h_5, hm⟩ := bind_e hm
  refine wl_op (by kernel_rfl) (ow_enter (run_callf (vs := [.agg #[.int .i64 r_2.N, .int .u8 r_2.D], .int .i64 3, .int .i64 2]) Tryd.func13 nm_13 (by kernel_rfl) (by kernel_rfl)) (f13_ok (p0_0 := r_2) (p1_0 := 3) (p2_0 := 2) fuel _ w_4 hL.lt  h_5) ?_)
  intro vR w_5 hR
  obtain ⟨rfl, hBe⟩ := hR
  have hS := Stp.call hL (Fz.of_below hBe [])
  replace h_3 := hS.box h_3 nilN
  replace hB := hS.below hL hB
  replace hL := hS.hL
  refine wl_val (v := .tuple #[.agg #[.int .i64 r_3.1.N, .int .u8 r_3.1.D], .bool r_3.2]) (w' := w_5) (by kernel_rfl) (run_move (v := .tuple #[.agg #[.int .i64 r_3.1.N, .int .u8 r_3.1.D], .bool r_3.2]) (by kernel_rfl)) ?_
  refine wl_val (v := .agg #[.int .i64 r_3.1.N, .int .u8 r_3.1.D]) (w' := w_5) (by kernel_rfl) (run_extract (vs := #[.agg #[.int .i64 r_3.1.N, .int .u8 r_3.1.D], .bool r_3.2]) (by kernel_rfl) (by kernel_rfl)) ?_
  refine wl_val (v := .bool r_3.2) (w' := w_5) (by kernel_rfl) (run_extract (vs := #[.agg #[.int .i64 r_3.1.N, .int .u8 r_3.1.D], .bool r_3.2]) (by kernel_rfl) (by kernel_rfl)) ?_
  refine wl_op (by kernel_rfl) (ow_alloc' (z := .agg #[.int .i64 0, .int .u8 0]) (vs := [.int .i64 0, .int .u8 0]) (by kernel_rfl) rfl hL ?_)
  intro g_2 w_6 hS h_6
  replace h_3 := hS.box h_3 nilN
  replace hB := hS.below hL hB
  replace hL := hS.hL
  refine wl_op (by kernel_rfl) (ow_store_box' (g := g_2) (j := 0) (v := .agg #[.int .i64 r_3.1.N, .int .u8 r_3.1.D]) (vs := [.int .i64 r_3.1.N, .int .u8 r_3.1.D]) (cs' := [.int .i64 r_3.1.N, .int .u8 r_3.1.D]) sz_23 (by kernel_rfl) (by kernel_rfl) rfl rfl rfl hL h_6 rfl (by simp) rfl ?_)
  intro w_7 hS h_7
  replace h_3 := hS.box h_3 (hL.apart 1 0 rfl rfl (by decide) _ rfl)
  replace hB := hS.below hL hB
  replace hL := hS.hL
  refine wl_val (v := .bool r_3.2) (w' := w_7) (by kernel_rfl) (run_assign (v := .bool r_3.2) (by kernel_rfl)) ?_
  refine wl_nil ?_
  refine then_n ?_
  refine cw_seq ?_
  refine cw_region ?_
  obtain ⟨r_4, h_8, hm⟩ := bind_e hm
  refine wl_op (by kernel_rfl) (ow_enter (run_callf (vs := [.string ⟨⟨([50, 46, 53] : List UInt8)⟩⟩]) Tryd.func34 nm_34 (by kernel_rfl) (by kernel_rfl)) (f34_ok (p0_0 := ([50, 46, 53] : List UInt8)) fuel _ w_7 hL.lt  h_8) ?_)
  intro vR w_8 hR
  obtain ⟨rfl, hBe⟩ := hR
  have hS := Stp.call hL (Fz.of_below hBe [])
  replace h_3 := hS.box h_3 nilN
  replace h_7 := hS.box h_7 nilN
  replace hB := hS.below hL hB
  replace hL := hS.hL
  obtain ⟨r_5, h_9, hm⟩ := bind_e hm
  refine wl_op (by kernel_rfl) (ow_enter (run_callf (vs := [.agg #[.int .i64 r_4.N, .int .u8 r_4.D], .int .i64 3, .int .i64 7]) Tryd.func13 nm_13 (by kernel_rfl) (by kernel_rfl)) (f13_ok (p0_0 := r_4) (p1_0 := 3) (p2_0 := 7) fuel _ w_8 hL.lt  h_9) ?_)
  intro vR w_9 hR
  obtain ⟨rfl, hBe⟩ := hR
  have hS := Stp.call hL (Fz.of_below hBe [])
  replace h_3 := hS.box h_3 nilN
  replace h_7 := hS.box h_7 nilN
  replace hB := hS.below hL hB
  replace hL := hS.hL
  refine wl_val (v := .tuple #[.agg #[.int .i64 r_5.1.N, .int .u8 r_5.1.D], .bool r_5.2]) (w' := w_9) (by kernel_rfl) (run_move (v := .tuple #[.agg #[.int .i64 r_5.1.N, .int .u8 r_5.1.D], .bool r_5.2]) (by kernel_rfl)) ?_
  refine wl_val (v := .agg #[.int .i64 r_5.1.N, .int .u8 r_5.1.D]) (w' := w_9) (by kernel_rfl) (run_extract (vs := #[.agg #[.int .i64 r_5.1.N, .int .u8 r_5.1.D], .bool r_5.2]) (by kernel_rfl) (by kernel_rfl)) ?_
  refine wl_val (v := .bool r_5.2) (w' := w_9) (by kernel_rfl) (run_extract (vs := #[.agg #[.int .i64 r_5.1.N, .int .u8 r_5.1.D], .bool r_5.2]) (by kernel_rfl) (by kernel_rfl)) ?_
  refine wl_op (by kernel_rfl) (ow_alloc' (z := .agg #[.int .i64 0, .int .u8 0]) (vs := [.int .i64 0, .int .u8 0]) (by kernel_rfl) rfl hL ?_)
  intro g_3 w_10 hS h_10
  replace h_3 := hS.box h_3 nilN
  replace h_7 := hS.box h_7 nilN
  replace hB := hS.below hL hB
  replace hL := hS.hL
  refine wl_op (by kernel_rfl) (ow_store_box' (g := g_3) (j := 0) (v := .agg #[.int .i64 r_5.1.N, .int .u8 r_5.1.D]) (vs := [.int .i64 r_5.1.N, .int .u8 r_5.1.D]) (cs' := [.int .i64 r_5.1.N, .int .u8 r_5.1.D]) sz_23 (by kernel_rfl) (by kernel_rfl) rfl rfl rfl hL h_10 rfl (by simp) rfl ?_)
  intro w_11 hS h_11
  replace h_3 := hS.box h_3 (hL.apart 2 0 rfl rfl (by decide) _ rfl)
  replace h_7 := hS.box h_7 (hL.apart 1 0 rfl rfl (by decide) _ rfl)
  replace hB := hS.below hL hB
  replace hL := hS.hL
  refine wl_val (v := .bool r_5.2) (w' := w_11) (by kernel_rfl) (run_assign (v := .bool r_5.2) (by kernel_rfl)) ?_
  refine wl_nil ?_
  refine then_n ?_
  refine cw_norm [.bool false, .pointer (some ⟨g_1, 0, none⟩), .bool r_1.2, .pointer (some ⟨g_2, 0, none⟩), .bool r_3.2, .pointer (some ⟨g_3, 0, none⟩), .bool r_5.2, undef, undef, undef, undef, undef, undef, undef, undef, undef, undef, .tuple #[.agg #[.int .i64 r_1.1.N, .int .u8 r_1.1.D], .bool r_1.2], .tuple #[.agg #[.int .i64 r_1.1.N, .int .u8 r_1.1.D], .bool r_1.2], .agg #[.int .i64 r_1.1.N, .int .u8 r_1.1.D], .bool r_1.2, .tuple #[.agg #[.int .i64 r_3.1.N, .int .u8 r_3.1.D], .bool r_3.2], .agg #[.int .i64 r_2.N, .int .u8 r_2.D], .tuple #[.agg #[.int .i64 r_3.1.N, .int .u8 r_3.1.D], .bool r_3.2], .agg #[.int .i64 r_3.1.N, .int .u8 r_3.1.D], .bool r_3.2, .tuple #[.agg #[.int .i64 r_5.1.N, .int .u8 r_5.1.D], .bool r_5.2], .agg #[.int .i64 r_4.N, .int .u8 r_4.D], .tuple #[.agg #[.int .i64 r_5.1.N, .int .u8 r_5.1.D], .bool r_5.2], .agg #[.int .i64 r_5.1.N, .int .u8 r_5.1.D], .bool r_5.2, undef, undef, undef, undef, undef, undef, undef, undef, undef, undef, undef, undef, undef, undef, undef, undef, undef, undef, undef, undef, undef, undef, undef, undef, undef, undef, undef, undef, undef, undef, undef, undef, undef, undef, undef, undef, undef, undef, undef, undef, undef, undef, undef, undef, undef, undef, undef, undef, undef, undef, undef, undef, undef, undef, undef, undef, undef, undef, undef, undef, undef, undef, undef, undef, undef, undef, undef, undef, undef, undef, undef, undef, undef, undef, undef, undef, undef, undef, undef, undef, undef, undef, undef, undef, undef, undef, undef, undef, undef, undef, undef, undef, undef] (by kernel_rfl) ?_
  refine cw_seq ?_
  refine cw_region ?_
  obtain ⟨r_6, h_12, hm⟩ := bind_e hm
  refine wl_op (by kernel_rfl) (ow_enter (run_callf (vs := [.string ⟨⟨([49, 46, 53] : List UInt8)⟩⟩]) Tryd.func34 nm_34 (by kernel_rfl) (by kernel_rfl)) (f34_ok (p0_0 := ([49, 46, 53] : List UInt8)) fuel _ w_11 hL.lt  h_12) ?_)
  intro vR w_12 hR
  obtain ⟨rfl, hBe⟩ := hR
  have hS := Stp.call hL (Fz.of_below hBe [])
  replace h_3 := hS.box h_3 nilN
  replace h_7 := hS.box h_7 nilN
  replace h_11 := hS.box h_11 nilN
  replace hB := hS.below hL hB
  replace hL := hS.hL
  obtain ⟨r_7, h_13, hm⟩ := bind_e hm
  refine wl_op (by kernel_rfl) (ow_enter (run_callf (vs := [.agg #[.int .i64 r_6.N, .int .u8 r_6.D], .string ⟨⟨([109, 105, 110] : List UInt8)⟩⟩, .string ⟨⟨([109, 115] : List UInt8)⟩⟩]) Tryd.func11 nm_11 (by kernel_rfl) (by kernel_rfl)) (f11_ok (p0_0 := r_6) (p1_0 := ([109, 105, 110] : List UInt8)) (p2_0 := ([109, 115] : List UInt8)) fuel _ w_12 hL.lt  h_13) ?_)
  intro vR w_13 hR
  obtain ⟨rfl, hBe⟩ := hR
  have hS := Stp.call hL (Fz.of_below hBe [])
  replace h_3 := hS.box h_3 nilN
  replace h_7 := hS.box h_7 nilN
  replace h_11 := hS.box h_11 nilN
  replace hB := hS.below hL hB
  replace hL := hS.hL
  refine wl_val (v := .tuple #[.agg #[.int .i64 r_7.1.N, .int .u8 r_7.1.D], .bool r_7.2]) (w' := w_13) (by kernel_rfl) (run_move (v := .tuple #[.agg #[.int .i64 r_7.1.N, .int .u8 r_7.1.D], .bool r_7.2]) (by kernel_rfl)) ?_
  refine wl_val (v := .agg #[.int .i64 r_7.1.N, .int .u8 r_7.1.D]) (w' := w_13) (by kernel_rfl) (run_extract (vs := #[.agg #[.int .i64 r_7.1.N, .int .u8 r_7.1.D], .bool r_7.2]) (by kernel_rfl) (by kernel_rfl)) ?_
  refine wl_val (v := .bool r_7.2) (w' := w_13) (by kernel_rfl) (run_extract (vs := #[.agg #[.int .i64 r_7.1.N, .int .u8 r_7.1.D], .bool r_7.2]) (by kernel_rfl) (by kernel_rfl)) ?_
  refine wl_op (by kernel_rfl) (ow_alloc' (z := .agg #[.int .i64 0, .int .u8 0]) (vs := [.int .i64 0, .int .u8 0]) (by kernel_rfl) rfl hL ?_)
  intro g_4 w_14 hS h_14
  replace h_3 := hS.box h_3 nilN
  replace h_7 := hS.box h_7 nilN
  replace h_11 := hS.box h_11 nilN
  replace hB := hS.below hL hB
  replace hL := hS.hL
  refine wl_op (by kernel_rfl) (ow_store_box' (g := g_4) (j := 0) (v := .agg #[.int .i64 r_7.1.N, .int .u8 r_7.1.D]) (vs := [.int .i64 r_7.1.N, .int .u8 r_7.1.D]) (cs' := [.int .i64 r_7.1.N, .int .u8 r_7.1.D]) sz_23 (by kernel_rfl) (by kernel_rfl) rfl rfl rfl hL h_14 rfl (by simp) rfl ?_)
  intro w_15 hS h_15
  replace h_3 := hS.box h_3 (hL.apart 3 0 rfl rfl (by decide) _ rfl)
  replace h_7 := hS.box h_7 (hL.apart 2 0 rfl rfl (by decide) _ rfl)
  replace h_11 := hS.box h_11 (hL.apart 1 0 rfl rfl (by decide) _ rfl)
  replace hB := hS.below hL hB
  replace hL := hS.hL
  refine wl_val (v := .bool r_7.2) (w' := w_15) (by kernel_rfl) (run_assign (v := .bool r_7.2) (by kernel_rfl)) ?_
  refine wl_nil ?_
  refine then_n ?_
  refine cw_seq ?_
  refine cw_region ?_
  obtain ⟨r_8, h_16, hm⟩ := bind_e hm
  refine wl_op (by kernel_rfl) (ow_enter (run_callf (vs := [.string ⟨⟨([53] : List UInt8)⟩⟩]) Tryd.func34 nm_34 (by kernel_rfl) (by kernel_rfl)) (f34_ok (p0_0 := ([53] : List UInt8)) fuel _ w_15 hL.lt  h_16) ?_)
  intro vR w_16 hR
  obtain ⟨rfl, hBe⟩ := hR
  have hS := Stp.call hL (Fz.of_below hBe [])
  replace h_3 := hS.box h_3 nilN
  replace h_7 := hS.box h_7 nilN
  replace h_11 := hS.box h_11 nilN
  replace h_15 := hS.box h_15 nilN
  replace hB := hS.below hL hB
  replace hL := hS.hL
  obtain ⟨r_9, h_17, hm⟩ := bind_e hm
  refine wl_op (by kernel_rfl) (ow_enter (run_callf (vs := [.agg #[.int .i64 r_8.N, .int .u8 r_8.D], .string ⟨⟨([109, 115] : List UInt8)⟩⟩, .string ⟨⟨([104] : List UInt8)⟩⟩]) Tryd.func11 nm_11 (by kernel_rfl) (by kernel_rfl)) (f11_ok (p0_0 := r_8) (p1_0 := ([109, 115] : List UInt8)) (p2_0 := ([104] : List UInt8)) fuel _ w_16 hL.lt  h_17) ?_)
  intro vR w_17 hR
  obtain ⟨rfl, hBe⟩ := hR
  have hS := Stp.call hL (Fz.of_below hBe [])
  replace h_3 := hS.box h_3 nilN
  replace h_7 := hS.box h_7 nilN
  replace h_11 := hS.box h_11 nilN
  replace h_15 := hS.box h_15 nilN
  replace hB := hS.below hL hB
  replace hL := hS.hL
  refine wl_val (v := .tuple #[.agg #[.int .i64 r_9.1.N, .int .u8 r_9.1.D], .bool r_9.2]) (w' := w_17) (by kernel_rfl) (run_move (v := .tuple #[.agg #[.int .i64 r_9.1.N, .int .u8 r_9.1.D], .bool r_9.2]) (by kernel_rfl)) ?_
  refine wl_val (v := .agg #[.int .i64 r_9.1.N, .int .u8 r_9.1.D]) (w' := w_17) (by kernel_rfl) (run_extract (vs := #[.agg #[.int .i64 r_9.1.N, .int .u8 r_9.1.D], .bool r_9.2]) (by kernel_rfl) (by kernel_rfl)) ?_
  refine wl_val (v := .bool r_9.2) (w' := w_17) (by kernel_rfl) (run_extract (vs := #[.agg #[.int .i64 r_9.1.N, .int .u8 r_9.1.D], .bool r_9.2]) (by kernel_rfl) (by kernel_rfl)) ?_
  refine wl_op (by kernel_rfl) (ow_alloc' (z := .agg #[.int .i64 0, .int .u8 0]) (vs := [.int .i64 0, .int .u8 0]) (by kernel_rfl) rfl hL ?_)
  intro g_5 w_18 hS h_18
  replace h_3 := hS.box h_3 nilN
  replace h_7 := hS.box h_7 nilN
  replace h_11 := hS.box h_11 nilN
  replace h_15 := hS.box h_15 nilN
  replace hB := hS.below hL hB
  replace hL := hS.hL
  refine wl_op (by kernel_rfl) (ow_store_box' (g := g_5) (j := 0) (v := .agg #[.int .i64 r_9.1.N, .int .u8 r_9.1.D]) (vs := [.int .i64 r_9.1.N, .int .u8 r_9.1.D]) (cs' := [.int .i64 r_9.1.N, .int .u8 r_9.1.D]) sz_23 (by kernel_rfl) (by kernel_rfl) rfl rfl rfl hL h_18 rfl (by simp) rfl ?_)
  intro w_19 hS h_19
  replace h_3 := hS.box h_3 (hL.apart 4 0 rfl rfl (by decide) _ rfl)
  replace h_7 := hS.box h_7 (hL.apart 3 0 rfl rfl (by decide) _ rfl)
  replace h_11 := hS.box h_11 (hL.apart 2 0 rfl rfl (by decide) _ rfl)
  replace h_15 := hS.box h_15 (hL.apart 1 0 rfl rfl (by decide) _ rfl)
  replace hB := hS.below hL hB
  replace hL := hS.hL
  refine wl_val (v := .bool r_9.2) (w' := w_19) (by kernel_rfl) (run_assign (v := .bool r_9.2) (by kernel_rfl)) ?_
  refine wl_nil ?_
  refine then_n ?_
  refine cw_seq ?_
  refine cw_region ?_
  obtain ⟨r_10, h_20, hm⟩ := bind_e hm
  refine wl_op (by kernel_rfl) (ow_enter (run_callf (vs := [.string ⟨⟨([45, 49, 46, 50] : List UInt8)⟩⟩]) Tryd.func34 nm_34 (by kernel_rfl) (by kernel_rfl)) (f34_ok (p0_0 := ([45, 49, 46, 50] : List UInt8)) fuel _ w_19 hL.lt  h_20) ?_)
  intro vR w_20 hR
  obtain ⟨rfl, hBe⟩ := hR
  have hS := Stp.call hL (Fz.of_below hBe [])
  replace h_3 := hS.box h_3 nilN
  replace h_7 := hS.box h_7 nilN
  replace h_11 := hS.box h_11 nilN
  replace h_15 := hS.box h_15 nilN
  replace h_19 := hS.box h_19 nilN
  replace hB := hS.below hL hB
  replace hL := hS.hL
  obtain ⟨r_11, h_21, hm⟩ := bind_e hm
  refine wl_op (by kernel_rfl) (ow_enter (run_callf (vs := [.agg #[.int .i64 r_10.N, .int .u8 r_10.D], .int .i64 1, .bool true]) Tryd.func17 nm_17 (by kernel_rfl) (by kernel_rfl)) (f17_ok (p0_0 := r_10) (p1_0 := 1) (p2_0 := true) fuel _ w_20 hL.lt  h_21) ?_)
  intro vR w_21 hR
  obtain ⟨rfl, hBe⟩ := hR
  have hS := Stp.call hL (Fz.of_below hBe [])
  replace h_3 := hS.box h_3 nilN
  replace h_7 := hS.box h_7 nilN
  replace h_11 := hS.box h_11 nilN
  replace h_15 := hS.box h_15 nilN
  replace h_19 := hS.box h_19 nilN
  replace hB := hS.below hL hB
  replace hL := hS.hL
  refine wl_val (v := .tuple #[.int .u16 r_11.1, .bool r_11.2]) (w' := w_21) (by kernel_rfl) (run_move (v := .tuple #[.int .u16 r_11.1, .bool r_11.2]) (by kernel_rfl)) ?_
  refine wl_val (v := .int .u16 r_11.1) (w' := w_21) (by kernel_rfl) (run_extract (vs := #[.int .u16 r_11.1, .bool r_11.2]) (by kernel_rfl) (by kernel_rfl)) ?_
  refine wl_val (v := .bool r_11.2) (w' := w_21) (by kernel_rfl) (run_extract (vs := #[.int .u16 r_11.1, .bool r_11.2]) (by kernel_rfl) (by kernel_rfl)) ?_
  refine wl_val (v := .int .u16 r_11.1) (w' := w_21) (by kernel_rfl) (run_assign (v := .int .u16 r_11.1) (by kernel_rfl)) ?_
  refine wl_val (v := .bool r_11.2) (w' := w_21) (by kernel_rfl) (run_assign (v := .bool r_11.2) (by kernel_rfl)) ?_
  refine wl_nil ?_
  refine then_n ?_
  refine cw_norm [.bool false, .pointer (some ⟨g_1, 0, none⟩), .bool r_1.2, .pointer (some ⟨g_2, 0, none⟩), .bool r_3.2, .pointer (some ⟨g_3, 0, none⟩), .bool r_5.2, .pointer (some ⟨g_4, 0, none⟩), .bool r_7.2, .pointer (some ⟨g_5, 0, none⟩), .bool r_9.2, .int .u16 r_11.1, .bool r_11.2, undef, undef, undef, undef, .tuple #[.agg #[.int .i64 r_1.1.N, .int .u8 r_1.1.D], .bool r_1.2], .tuple #[.agg #[.int .i64 r_1.1.N, .int .u8 r_1.1.D], .bool r_1.2], .agg #[.int .i64 r_1.1.N, .int .u8 r_1.1.D], .bool r_1.2, .tuple #[.agg #[.int .i64 r_3.1.N, .int .u8 r_3.1.D], .bool r_3.2], .agg #[.int .i64 r_2.N, .int .u8 r_2.D], .tuple #[.agg #[.int .i64 r_3.1.N, .int .u8 r_3.1.D], .bool r_3.2], .agg #[.int .i64 r_3.1.N, .int .u8 r_3.1.D], .bool r_3.2, .tuple #[.agg #[.int .i64 r_5.1.N, .int .u8 r_5.1.D], .bool r_5.2], .agg #[.int .i64 r_4.N, .int .u8 r_4.D], .tuple #[.agg #[.int .i64 r_5.1.N, .int .u8 r_5.1.D], .bool r_5.2], .agg #[.int .i64 r_5.1.N, .int .u8 r_5.1.D], .bool r_5.2, .tuple #[.agg #[.int .i64 r_7.1.N, .int .u8 r_7.1.D], .bool r_7.2], .agg #[.int .i64 r_6.N, .int .u8 r_6.D], .tuple #[.agg #[.int .i64 r_7.1.N, .int .u8 r_7.1.D], .bool r_7.2], .agg #[.int .i64 r_7.1.N, .int .u8 r_7.1.D], .bool r_7.2, .tuple #[.agg #[.int .i64 r_9.1.N, .int .u8 r_9.1.D], .bool r_9.2], .agg #[.int .i64 r_8.N, .int .u8 r_8.D], .tuple #[.agg #[.int .i64 r_9.1.N, .int .u8 r_9.1.D], .bool r_9.2], .agg #[.int .i64 r_9.1.N, .int .u8 r_9.1.D], .bool r_9.2, .tuple #[.int .u16 r_11.1, .bool r_11.2], .agg #[.int .i64 r_10.N, .int .u8 r_10.D], .tuple #[.int .u16 r_11.1, .bool r_11.2], .int .u16 r_11.1, .bool r_11.2, undef, undef, undef, undef, undef, undef, undef, undef, undef, undef, undef, undef, undef, undef, undef, undef, undef, undef, undef, undef, undef, undef, undef, undef, undef, undef, undef, undef, undef, undef, undef, undef, undef, undef, undef, undef, undef, undef, undef, undef, undef, undef, undef, undef, undef, undef, undef, undef, undef, undef, undef, undef, undef, undef, undef, undef, undef, undef, undef, undef, undef, undef, undef, undef, undef, undef, undef, undef, undef, undef, undef, undef, undef, undef, undef, undef, undef, undef] (by kernel_rfl) ?_
  refine cw_seq ?_
  refine cw_region ?_
  obtain ⟨r_12, h_22, hm⟩ := bind_e hm
  refine wl_op (by kernel_rfl) (ow_enter (run_callf (vs := [.string ⟨⟨([45, 49, 46, 50] : List UInt8)⟩⟩]) Tryd.func34 nm_34 (by kernel_rfl) (by kernel_rfl)) (f34_ok (p0_0 := ([45, 49, 46, 50] : List UInt8)) fuel _ w_21 hL.lt  h_22) ?_)
  intro vR w_22 hR
  obtain ⟨rfl, hBe⟩ := hR
  have hS := Stp.call hL (Fz.of_below hBe [])
  replace h_3 := hS.box h_3 nilN
  replace h_7 := hS.box h_7 nilN
  replace h_11 := hS.box h_11 nilN
  replace h_15 := hS.box h_15 nilN
  replace h_19 := hS.box h_19 nilN
  replace hB := hS.below hL hB
  replace hL := hS.hL
  obtain ⟨r_13, h_23, hm⟩ := bind_e hm
  refine wl_op (by kernel_rfl) (ow_enter (run_callf (vs := [.agg #[.int .i64 r_12.N, .int .u8 r_12.D], .int .i64 1, .bool false]) Tryd.func17 nm_17 (by kernel_rfl) (by kernel_rfl)) (f17_ok (p0_0 := r_12) (p1_0 := 1) (p2_0 := false) fuel _ w_22 hL.lt  h_23) ?_)
  intro vR w_23 hR
  obtain ⟨rfl, hBe⟩ := hR
  have hS := Stp.call hL (Fz.of_below hBe [])
  replace h_3 := hS.box h_3 nilN
  replace h_7 := hS.box h_7 nilN
  replace h_11 := hS.box h_11 nilN
  replace h_15 := hS.box h_15 nilN
  replace h_19 := hS.box h_19 nilN
  replace hB := hS.below hL hB
  replace hL := hS.hL
  refine wl_val (v := .tuple #[.int .u16 r_13.1, .bool r_13.2]) (w' := w_23) (by kernel_rfl) (run_move (v := .tuple #[.int .u16 r_13.1, .bool r_13.2]) (by kernel_rfl)) ?_
  refine wl_val (v := .int .u16 r_13.1) (w' := w_23) (by kernel_rfl) (run_extract (vs := #[.int .u16 r_13.1, .bool r_13.2]) (by kernel_rfl) (by kernel_rfl)) ?_
  refine wl_val (v := .bool r_13.2) (w' := w_23) (by kernel_rfl) (run_extract (vs := #[.int .u16 r_13.1, .bool r_13.2]) (by kernel_rfl) (by kernel_rfl)) ?_
  refine wl_val (v := .int .u16 r_13.1) (w' := w_23) (by kernel_rfl) (run_assign (v := .int .u16 r_13.1) (by kernel_rfl)) ?_
  refine wl_val (v := .bool r_13.2) (w' := w_23) (by kernel_rfl) (run_assign (v := .bool r_13.2) (by kernel_rfl)) ?_
  refine wl_nil ?_
  refine then_n ?_
  refine cw_seq ?_
  refine cw_region ?_
  obtain ⟨r_14, h_24, hm⟩ := bind_e hm
  refine wl_op (by kernel_rfl) (ow_enter (run_callf (vs := [.int .u16 65524, .int .i64 1, .bool true]) Tryd.func16 nm_16 (by kernel_rfl) (by kernel_rfl)) (f16_ok (p0_0 := 65524) (p1_0 := 1) (p2_0 := true) fuel _ w_23 hL.lt  h_24) ?_)
  intro vR w_24 hR
  obtain ⟨rfl, hBe⟩ := hR
  have hS := Stp.call hL (Fz.of_below hBe [])
  replace h_3 := hS.box h_3 nilN
  replace h_7 := hS.box h_7 nilN
  replace h_11 := hS.box h_11 nilN
  replace h_15 := hS.box h_15 nilN
  replace h_19 := hS.box h_19 nilN
  replace hB := hS.below hL hB
  replace hL := hS.hL
  refine wl_val (v := .tuple #[.agg #[.int .i64 r_14.1.N, .int .u8 r_14.1.D], .bool r_14.2]) (w' := w_24) (by kernel_rfl) (run_move (v := .tuple #[.agg #[.int .i64 r_14.1.N, .int .u8 r_14.1.D], .bool r_14.2]) (by kernel_rfl)) ?_
  refine wl_val (v := .agg #[.int .i64 r_14.1.N, .int .u8 r_14.1.D]) (w' := w_24) (by kernel_rfl) (run_extract (vs := #[.agg #[.int .i64 r_14.1.N, .int .u8 r_14.1.D], .bool r_14.2]) (by kernel_rfl) (by kernel_rfl)) ?_
  refine wl_val (v := .bool r_14.2) (w' := w_24) (by kernel_rfl) (run_extract (vs := #[.agg #[.int .i64 r_14.1.N, .int .u8 r_14.1.D], .bool r_14.2]) (by kernel_rfl) (by kernel_rfl)) ?_
  refine wl_op (by kernel_rfl) (ow_alloc' (z := .agg #[.int .i64 0, .int .u8 0]) (vs := [.int .i64 0, .int .u8 0]) (by kernel_rfl) rfl hL ?_)
  intro g_6 w_25 hS h_25
  replace h_3 := hS.box h_3 nilN
  replace h_7 := hS.box h_7 nilN
  replace h_11 := hS.box h_11 nilN
  replace h_15 := hS.box h_15 nilN
  replace h_19 := hS.box h_19 nilN
  replace hB := hS.below hL hB
  replace hL := hS.hL
  refine wl_op (by kernel_rfl) (ow_store_box' (g := g_6) (j := 0) (v := .agg #[.int .i64 r_14.1.N, .int .u8 r_14.1.D]) (vs := [.int .i64 r_14.1.N, .int .u8 r_14.1.D]) (cs' := [.int .i64 r_14.1.N, .int .u8 r_14.1.D]) sz_23 (by kernel_rfl) (by kernel_rfl) rfl rfl rfl hL h_25 rfl (by simp) rfl ?_)
  intro w_26 hS h_26
  replace h_3 := hS.box h_3 (hL.apart 5 0 rfl rfl (by decide) _ rfl)
  replace h_7 := hS.box h_7 (hL.apart 4 0 rfl rfl (by decide) _ rfl)
  replace h_11 := hS.box h_11 (hL.apart 3 0 rfl rfl (by decide) _ rfl)
  replace h_15 := hS.box h_15 (hL.apart 2 0 rfl rfl (by decide) _ rfl)
  replace h_19 := hS.box h_19 (hL.apart 1 0 rfl rfl (by decide) _ rfl)
  replace hB := hS.below hL hB
  replace hL := hS.hL
  refine wl_val (v := .bool r_14.2) (w' := w_26) (by kernel_rfl) (run_assign (v := .bool r_14.2) (by kernel_rfl)) ?_
  refine wl_nil ?_
  refine then_n ?_
  refine cw_cut (fun l' w' => ∃ x_1, ∃ u_1 : Nat → Value, l' = [.bool x_1, .pointer (some ⟨g_1, 0, none⟩), .bool r_1.2, .pointer (some ⟨g_2, 0, none⟩), .bool r_3.2, .pointer (some ⟨g_3, 0, none⟩), .bool r_5.2, .pointer (some ⟨g_4, 0, none⟩), .bool r_7.2, .pointer (some ⟨g_5, 0, none⟩), .bool r_9.2, .int .u16 r_11.1, .bool r_11.2, .int .u16 r_13.1, .bool r_13.2, .pointer (some ⟨g_6, 0, none⟩), .bool r_14.2, .tuple #[.agg #[.int .i64 r_1.1.N, .int .u8 r_1.1.D], .bool r_1.2], .tuple #[.agg #[.int .i64 r_1.1.N, .int .u8 r_1.1.D], .bool r_1.2], .agg #[.int .i64 r_1.1.N, .int .u8 r_1.1.D], .bool r_1.2, .tuple #[.agg #[.int .i64 r_3.1.N, .int .u8 r_3.1.D], .bool r_3.2], .agg #[.int .i64 r_2.N, .int .u8 r_2.D], .tuple #[.agg #[.int .i64 r_3.1.N, .int .u8 r_3.1.D], .bool r_3.2], .agg #[.int .i64 r_3.1.N, .int .u8 r_3.1.D], .bool r_3.2, .tuple #[.agg #[.int .i64 r_5.1.N, .int .u8 r_5.1.D], .bool r_5.2], .agg #[.int .i64 r_4.N, .int .u8 r_4.D], .tuple #[.agg #[.int .i64 r_5.1.N, .int .u8 r_5.1.D], .bool r_5.2], .agg #[.int .i64 r_5.1.N, .int .u8 r_5.1.D], .bool r_5.2, .tuple #[.agg #[.int .i64 r_7.1.N, .int .u8 r_7.1.D], .bool r_7.2], .agg #[.int .i64 r_6.N, .int .u8 r_6.D], .tuple #[.agg #[.int .i64 r_7.1.N, .int .u8 r_7.1.D], .bool r_7.2], .agg #[.int .i64 r_7.1.N, .int .u8 r_7.1.D], .bool r_7.2, .tuple #[.agg #[.int .i64 r_9.1.N, .int .u8 r_9.1.D], .bool r_9.2], .agg #[.int .i64 r_8.N, .int .u8 r_8.D], .tuple #[.agg #[.int .i64 r_9.1.N, .int .u8 r_9.1.D], .bool r_9.2], .agg #[.int .i64 r_9.1.N, .int .u8 r_9.1.D], .bool r_9.2, .tuple #[.int .u16 r_11.1, .bool r_11.2], .agg #[.int .i64 r_10.N, .int .u8 r_10.D], .tuple #[.int .u16 r_11.1, .bool r_11.2], .int .u16 r_11.1, .bool r_11.2, .tuple #[.int .u16 r_13.1, .bool r_13.2], .agg #[.int .i64 r_12.N, .int .u8 r_12.D], .tuple #[.int .u16 r_13.1, .bool r_13.2], .int .u16 r_13.1, .bool r_13.2, .tuple #[.agg #[.int .i64 r_14.1.N, .int .u8 r_14.1.D], .bool r_14.2], .tuple #[.agg #[.int .i64 r_14.1.N, .int .u8 r_14.1.D], .bool r_14.2], .agg #[.int .i64 r_14.1.N, .int .u8 r_14.1.D], .bool r_14.2, (u_1 0), (u_1 1), (u_1 2), (u_1 3), (u_1 4), (u_1 5), (u_1 6), (u_1 7), (u_1 8), (u_1 9), (u_1 10), (u_1 11), (u_1 12), (u_1 13), (u_1 14), (u_1 15), (u_1 16), (u_1 17), (u_1 18), (u_1 19), (u_1 20), (u_1 21), (u_1 22), (u_1 23), (u_1 24), (u_1 25), (u_1 26), (u_1 27), (u_1 28), (u_1 29), (u_1 30), (u_1 31), (u_1 32), (u_1 33), (u_1 34), (u_1 35), (u_1 36), (u_1 37), (u_1 38), (u_1 39), (u_1 40), (u_1 41), (u_1 42), (u_1 43), (u_1 44), (u_1 45), (u_1 46), (u_1 47), (u_1 48), (u_1 49), (u_1 50), (u_1 51), (u_1 52), (u_1 53), (u_1 54), (u_1 55), (u_1 56), (u_1 57), (u_1 58), (u_1 59), (u_1 60), (u_1 61), (u_1 62), (u_1 63), (u_1 64), (u_1 65), (u_1 66), (u_1 67), (u_1 68)] ∧ LOk w0.heap.size [] F w' ∧ Below w0.heap.size w0 w' ∧ m12_J1 fuel x_1 = some r) ?_ ?_
  · refine cw_region_draw [(0, true), (1, true), (2, true), (3, true), (4, true), (5, true), (6, true), (7, true), (8, false), (9, true), (10, true), (11, true), (12, false), (13, true), (14, true), (15, false), (16, true), (17, true), (18, false), (19, true), (20, true), (21, false), (22, true), (23, true), (24, false), (25, true), (26, true), (27, true), (28, true), (29, true), (30, true), (31, false), (32, true), (33, true), (34, true), (35, true), (36, true), (37, true), (38, true), (39, true), (40, true), (41, true), (42, true), (43, false), (44, true), (45, true), (46, true), (47, true), (48, true), (49, true), (50, true), (51, true), (52, true), (53, true), (54, true), (55, true), (56, true), (57, true), (58, true), (59, true), (60, true), (61, true), (62, true), (63, true), (64, true), (65, true), (66, false), (67, true), (68, true), (69, true)] (fun x => Fz [] w_26 x) rfl (by kernel_rfl) (PF.then hPF) (Fz.drew _ _) ?_
    have hZ : Fz [] w_26 w_26.drew := Fz.drew _ _
    have hS0 : Stp w0.heap.size [some g_6, some g_5, some g_4, some g_3, some g_2, some g_1] [some g_6, some g_5, some g_4, some g_3, some g_2, some g_1] F [] w_26 w_26.drew := Stp.call hL (Fz.drew _ _)
    generalize w_26.drew = w_56 at hS0 hZ ⊢
    refine wx_take (v := .bool r_1.2) (by kernel_rfl) (fun w' hS => run_move (v := .bool r_1.2) (by kernel_rfl)) ?_
    refine wx_take (v := .bool r_1.2) (by kernel_rfl) (fun w' hS => run_move (v := .bool r_1.2) (by kernel_rfl)) ?_
    refine wx_norm [.bool false, .pointer (some ⟨g_1, 0, none⟩), .bool r_1.2, .pointer (some ⟨g_2, 0, none⟩), .bool r_3.2, .pointer (some ⟨g_3, 0, none⟩), .bool r_5.2, .pointer (some ⟨g_4, 0, none⟩), .bool r_7.2, .pointer (some ⟨g_5, 0, none⟩), .bool r_9.2, .int .u16 r_11.1, .bool r_11.2, .int .u16 r_13.1, .bool r_13.2, .pointer (some ⟨g_6, 0, none⟩), .bool r_14.2, .tuple #[.agg #[.int .i64 r_1.1.N, .int .u8 r_1.1.D], .bool r_1.2], .tuple #[.agg #[.int .i64 r_1.1.N, .int .u8 r_1.1.D], .bool r_1.2], .agg #[.int .i64 r_1.1.N, .int .u8 r_1.1.D], .bool r_1.2, .tuple #[.agg #[.int .i64 r_3.1.N, .int .u8 r_3.1.D], .bool r_3.2], .agg #[.int .i64 r_2.N, .int .u8 r_2.D], .tuple #[.agg #[.int .i64 r_3.1.N, .int .u8 r_3.1.D], .bool r_3.2], .agg #[.int .i64 r_3.1.N, .int .u8 r_3.1.D], .bool r_3.2, .tuple #[.agg #[.int .i64 r_5.1.N, .int .u8 r_5.1.D], .bool r_5.2], .agg #[.int .i64 r_4.N, .int .u8 r_4.D], .tuple #[.agg #[.int .i64 r_5.1.N, .int .u8 r_5.1.D], .bool r_5.2], .agg #[.int .i64 r_5.1.N, .int .u8 r_5.1.D], .bool r_5.2, .tuple #[.agg #[.int .i64 r_7.1.N, .int .u8 r_7.1.D], .bool r_7.2], .agg #[.int .i64 r_6.N, .int .u8 r_6.D], .tuple #[.agg #[.int .i64 r_7.1.N, .int .u8 r_7.1.D], .bool r_7.2], .agg #[.int .i64 r_7.1.N, .int .u8 r_7.1.D], .bool r_7.2, .tuple #[.agg #[.int .i64 r_9.1.N, .int .u8 r_9.1.D], .bool r_9.2], .agg #[.int .i64 r_8.N, .int .u8 r_8.D], .tuple #[.agg #[.int .i64 r_9.1.N, .int .u8 r_9.1.D], .bool r_9.2], .agg #[.int .i64 r_9.1.N, .int .u8 r_9.1.D], .bool r_9.2, .tuple #[.int .u16 r_11.1, .bool r_11.2], .agg #[.int .i64 r_10.N, .int .u8 r_10.D], .tuple #[.int .u16 r_11.1, .bool r_11.2], .int .u16 r_11.1, .bool r_11.2, .tuple #[.int .u16 r_13.1, .bool r_13.2], .agg #[.int .i64 r_12.N, .int .u8 r_12.D], .tuple #[.int .u16 r_13.1, .bool r_13.2], .int .u16 r_13.1, .bool r_13.2, .tuple #[.agg #[.int .i64 r_14.1.N, .int .u8 r_14.1.D], .bool r_14.2], .tuple #[.agg #[.int .i64 r_14.1.N, .int .u8 r_14.1.D], .bool r_14.2], .agg #[.int .i64 r_14.1.N, .int .u8 r_14.1.D], .bool r_14.2, .bool r_1.2, .bool r_1.2, undef, undef, undef, undef, undef, undef, undef, undef, undef, undef, undef, undef, undef, undef, undef, undef, undef, undef, undef, undef, undef, undef, undef, undef, undef, undef, undef, undef, undef, undef, undef, undef, undef, undef, undef, undef, undef, undef, undef, undef, undef, undef, undef, undef, undef, undef, undef, undef, undef, undef, undef, undef, undef, undef, undef, undef, undef, undef, undef, undef, undef, undef, undef, undef, undef, undef, undef] (by kernel_rfl) ?_
    rcases Bool.eq_false_or_eq_true r_1.2 with hc_55 | hc_55
    · have hm := ite_t hm hc_55
      refine wx_take (v := .agg #[.int .i64 r_1.1.N, .int .u8 r_1.1.D]) (wg (c := r_1.2) (want := true) (by kernel_rfl) hc_55 rfl) (fun w' hS => run_load_boxn (j := 0) (vs := [.int .i64 r_1.1.N, .int .u8 r_1.1.D]) Tryd.underlying23 rfl sz_23 (by kernel_rfl) (h_3.step hS nilN) (by kernel_rfl) rfl) ?_
      refine wx_take (v := .agg #[.int .i64 125, .int .u8 1]) (wg (c := r_1.2) (want := true) (by kernel_rfl) hc_55 rfl) (fun w' hS => by kernel_rfl) ?_
      obtain ⟨c_13, h_66, hm⟩ := bind_e hm
      refine wx_take (v := .bool c_13) (wg (c := r_1.2) (want := true) (by kernel_rfl) hc_55 rfl) (fun w' hS => by rw [← Option.some.inj h_66]; exact run_eq_agg (r := ((eqi r_1.1.N 125) && ((eqi r_1.1.D 1) && true))) (by kernel_rfl) (by kernel_rfl) eg_23 eq_23) ?_
      refine wx_take (v := .bool c_13) (by kernel_rfl) (fun w' hS => run_pick_t (v := .bool c_13) (tr2 (c := r_1.2) (by kernel_rfl) hc_55) (by kernel_rfl)) ?_
      refine wx_take (v := .bool c_13) (by kernel_rfl) (fun w' hS => run_move (v := .bool c_13) (by kernel_rfl)) ?_
      rcases Bool.eq_false_or_eq_true c_13 with hc_56 | hc_56
      · have hm := ite_t hm hc_56
        refine wx_take (v := .agg #[.int .i64 r_1.1.N, .int .u8 r_1.1.D]) (wg (c := c_13) (want := true) (by kernel_rfl) hc_56 rfl) (fun w' hS => run_load_boxn (j := 0) (vs := [.int .i64 r_1.1.N, .int .u8 r_1.1.D]) Tryd.underlying23 rfl sz_23 (by kernel_rfl) (h_3.step hS nilN) (by kernel_rfl) rfl) ?_
        have h_3b := h_3
        have h_7b := h_7
        have h_11b := h_11
        have h_15b := h_15
        have h_19b := h_19
        have h_26b := h_26
        have hLb := hL
        replace h_3 := hS0.box h_3 nilN
        replace h_7 := hS0.box h_7 nilN
        replace h_11 := hS0.box h_11 nilN
        replace h_15 := hS0.box h_15 nilN
        replace h_19 := hS0.box h_19 nilN
        replace h_26 := hS0.box h_26 nilN
        replace hB := hS0.below hL hB
        replace hL := hS0.hL
        obtain ⟨r_42, h_67, hm⟩ := bind_e hm
        refine wx_op (wg (c := c_13) (want := true) (by kernel_rfl) hc_56 rfl) (fun _ => ow_enter (run_callf (vs := [.agg #[.int .i64 r_1.1.N, .int .u8 r_1.1.D]]) Tryd.func21 nm_21 (by kernel_rfl) (by kernel_rfl)) (f21_ok (p0_0 := r_1.1) fuel _ w_56 hL.lt  h_67) ?_)
        intro vR w_57 hR
        obtain ⟨rfl, hBe⟩ := hR
        have hS := Stp.call hL (Fz.of_below hBe [])
        replace hZ := hZ.trans (hS.hf.sub nilM)
        refine ⟨hZ, ?_⟩
        replace h_3 := hS.box h_3 nilN
        replace h_7 := hS.box h_7 nilN
        replace h_11 := hS.box h_11 nilN
        replace h_15 := hS.box h_15 nilN
        replace h_19 := hS.box h_19 nilN
        replace h_26 := hS.box h_26 nilN
        replace hB := hS.below hL hB
        replace hL := hS.hL
        refine wx_take (v := .bool (eqs r_42 ([49, 50, 46, 53] : List UInt8))) (wg (c := c_13) (want := true) (by kernel_rfl) hc_56 rfl) (fun w' hS => run_eqs (a := r_42) (b := ([49, 50, 46, 53] : List UInt8)) (by kernel_rfl) (by kernel_rfl)) ?_
        refine wx_take (v := .bool (eqs r_42 ([49, 50, 46, 53] : List UInt8))) (by kernel_rfl) (fun w' hS => run_pick_t (v := .bool (eqs r_42 ([49, 50, 46, 53] : List UInt8))) (tr2 (c := c_13) (by kernel_rfl) hc_56) (by kernel_rfl)) ?_
        refine wx_take (v := .bool (eqs r_42 ([49, 50, 46, 53] : List UInt8))) (by kernel_rfl) (fun w' hS => run_move (v := .bool (eqs r_42 ([49, 50, 46, 53] : List UInt8))) (by kernel_rfl)) ?_
        refine wx_norm [.bool false, .pointer (some ⟨g_1, 0, none⟩), .bool r_1.2, .pointer (some ⟨g_2, 0, none⟩), .bool r_3.2, .pointer (some ⟨g_3, 0, none⟩), .bool r_5.2, .pointer (some ⟨g_4, 0, none⟩), .bool r_7.2, .pointer (some ⟨g_5, 0, none⟩), .bool r_9.2, .int .u16 r_11.1, .bool r_11.2, .int .u16 r_13.1, .bool r_13.2, .pointer (some ⟨g_6, 0, none⟩), .bool r_14.2, .tuple #[.agg #[.int .i64 r_1.1.N, .int .u8 r_1.1.D], .bool r_1.2], .tuple #[.agg #[.int .i64 r_1.1.N, .int .u8 r_1.1.D], .bool r_1.2], .agg #[.int .i64 r_1.1.N, .int .u8 r_1.1.D], .bool r_1.2, .tuple #[.agg #[.int .i64 r_3.1.N, .int .u8 r_3.1.D], .bool r_3.2], .agg #[.int .i64 r_2.N, .int .u8 r_2.D], .tuple #[.agg #[.int .i64 r_3.1.N, .int .u8 r_3.1.D], .bool r_3.2], .agg #[.int .i64 r_3.1.N, .int .u8 r_3.1.D], .bool r_3.2, .tuple #[.agg #[.int .i64 r_5.1.N, .int .u8 r_5.1.D], .bool r_5.2], .agg #[.int .i64 r_4.N, .int .u8 r_4.D], .tuple #[.agg #[.int .i64 r_5.1.N, .int .u8 r_5.1.D], .bool r_5.2], .agg #[.int .i64 r_5.1.N, .int .u8 r_5.1.D], .bool r_5.2, .tuple #[.agg #[.int .i64 r_7.1.N, .int .u8 r_7.1.D], .bool r_7.2], .agg #[.int .i64 r_6.N, .int .u8 r_6.D], .tuple #[.agg #[.int .i64 r_7.1.N, .int .u8 r_7.1.D], .bool r_7.2], .agg #[.int .i64 r_7.1.N, .int .u8 r_7.1.D], .bool r_7.2, .tuple #[.agg #[.int .i64 r_9.1.N, .int .u8 r_9.1.D], .bool r_9.2], .agg #[.int .i64 r_8.N, .int .u8 r_8.D], .tuple #[.agg #[.int .i64 r_9.1.N, .int .u8 r_9.1.D], .bool r_9.2], .agg #[.int .i64 r_9.1.N, .int .u8 r_9.1.D], .bool r_9.2, .tuple #[.int .u16 r_11.1, .bool r_11.2], .agg #[.int .i64 r_10.N, .int .u8 r_10.D], .tuple #[.int .u16 r_11.1, .bool r_11.2], .int .u16 r_11.1, .bool r_11.2, .tuple #[.int .u16 r_13.1, .bool r_13.2], .agg #[.int .i64 r_12.N, .int .u8 r_12.D], .tuple #[.int .u16 r_13.1, .bool r_13.2], .int .u16 r_13.1, .bool r_13.2, .tuple #[.agg #[.int .i64 r_14.1.N, .int .u8 r_14.1.D], .bool r_14.2], .tuple #[.agg #[.int .i64 r_14.1.N, .int .u8 r_14.1.D], .bool r_14.2], .agg #[.int .i64 r_14.1.N, .int .u8 r_14.1.D], .bool r_14.2, .bool r_1.2, .bool r_1.2, .agg #[.int .i64 r_1.1.N, .int .u8 r_1.1.D], .agg #[.int .i64 125, .int .u8 1], .bool c_13, .bool c_13, .bool c_13, .agg #[.int .i64 r_1.1.N, .int .u8 r_1.1.D], .string ⟨⟨r_42⟩⟩, .bool (eqs r_42 ([49, 50, 46, 53] : List UInt8)), .bool (eqs r_42 ([49, 50, 46, 53] : List UInt8)), .bool (eqs r_42 ([49, 50, 46, 53] : List UInt8)), undef, undef, undef, undef, undef, undef, undef, undef, undef, undef, undef, undef, undef, undef, undef, undef, undef, undef, undef, undef, undef, undef, undef, undef, undef, undef, undef, undef, undef, undef, undef, undef, undef, undef, undef, undef, undef, undef, undef, undef, undef, undef, undef, undef, undef, undef, undef, undef, undef, undef, undef, undef, undef, undef, undef, undef, undef] (by kernel_rfl) ?_
        rcases Bool.eq_false_or_eq_true (eqs r_42 ([49, 50, 46, 53] : List UInt8)) with hc_57 | hc_57
        · have hm := ite_t hm hc_57
          obtain ⟨r_43, h_68, hm⟩ := bind_e hm
          refine wx_op (wg (c := (eqs r_42 ([49, 50, 46, 53] : List UInt8))) (want := true) (by kernel_rfl) hc_57 rfl) (fun _ => ow_enter (run_callf (vs := [.string ⟨⟨([48, 49] : List UInt8)⟩⟩]) Tryd.func35 nm_35 (by kernel_rfl) (by kernel_rfl)) (f35_ok (p0_0 := ([48, 49] : List UInt8)) fuel _ w_57 hL.lt  h_68) ?_)
          intro vR w_58 hR
          obtain ⟨rfl, hBe⟩ := hR
          have hS := Stp.call hL (Fz.of_below hBe [])
          replace hZ := hZ.trans (hS.hf.sub nilM)
          refine ⟨hZ, ?_⟩
          replace h_3 := hS.box h_3 nilN
          replace h_7 := hS.box h_7 nilN
          replace h_11 := hS.box h_11 nilN
          replace h_15 := hS.box h_15 nilN
          replace h_19 := hS.box h_19 nilN
          replace h_26 := hS.box h_26 nilN
          replace hB := hS.below hL hB
          replace hL := hS.hL
          refine wx_take (v := .bool r_43) (by kernel_rfl) (fun w' hS => run_pick_t (v := .bool r_43) (tr2 (c := (eqs r_42 ([49, 50, 46, 53] : List UInt8))) (by kernel_rfl) hc_57) (by kernel_rfl)) ?_
          refine wx_take (v := .bool r_43) (by kernel_rfl) (fun w' hS => run_move (v := .bool r_43) (by kernel_rfl)) ?_
          rcases Bool.eq_false_or_eq_true r_43 with hc_58 | hc_58
          · have hm := ite_t hm hc_58
            obtain ⟨r_44, h_69, hm⟩ := bind_e hm
            refine wx_op (wg (c := r_43) (want := true) (by kernel_rfl) hc_58 rfl) (fun _ => ow_enter (run_callf (vs := [.string ⟨⟨([46, 53] : List UInt8)⟩⟩]) Tryd.func35 nm_35 (by kernel_rfl) (by kernel_rfl)) (f35_ok (p0_0 := ([46, 53] : List UInt8)) fuel _ w_58 hL.lt  h_69) ?_)
            intro vR w_59 hR
            obtain ⟨rfl, hBe⟩ := hR
            have hS := Stp.call hL (Fz.of_below hBe [])
            replace hZ := hZ.trans (hS.hf.sub nilM)
            refine ⟨hZ, ?_⟩
            replace h_3 := hS.box h_3 nilN
            replace h_7 := hS.box h_7 nilN
            replace h_11 := hS.box h_11 nilN
            replace h_15 := hS.box h_15 nilN
            replace h_19 := hS.box h_19 nilN
            replace h_26 := hS.box h_26 nilN
            replace hB := hS.below hL hB
            replace hL := hS.hL
            refine wx_take (v := .bool r_44) (by kernel_rfl) (fun w' hS => run_pick_t (v := .bool r_44) (tr2 (c := r_43) (by kernel_rfl) hc_58) (by kernel_rfl)) ?_
            refine wx_take (v := .bool r_44) (by kernel_rfl) (fun w' hS => run_move (v := .bool r_44) (by kernel_rfl)) ?_
            rcases Bool.eq_false_or_eq_true r_44 with hc_59 | hc_59
            · have hm := ite_t hm hc_59
              obtain ⟨r_45, h_70, hm⟩ := bind_e hm
              refine wx_op (wg (c := r_44) (want := true) (by kernel_rfl) hc_59 rfl) (fun _ => ow_enter (run_callf (vs := [.string ⟨⟨([49, 46] : List UInt8)⟩⟩]) Tryd.func35 nm_35 (by kernel_rfl) (by kernel_rfl)) (f35_ok (p0_0 := ([49, 46] : List UInt8)) fuel _ w_59 hL.lt  h_70) ?_)
              intro vR w_60 hR
              obtain ⟨rfl, hBe⟩ := hR
              have hS := Stp.call hL (Fz.of_below hBe [])
              replace hZ := hZ.trans (hS.hf.sub nilM)
              refine ⟨hZ, ?_⟩
              replace h_3 := hS.box h_3 nilN
              replace h_7 := hS.box h_7 nilN
              replace h_11 := hS.box h_11 nilN
              replace h_15 := hS.box h_15 nilN
              replace h_19 := hS.box h_19 nilN
              replace h_26 := hS.box h_26 nilN
              replace hB := hS.below hL hB
              replace hL := hS.hL
              refine wx_take (v := .bool r_45) (by kernel_rfl) (fun w' hS => run_pick_t (v := .bool r_45) (tr2 (c := r_44) (by kernel_rfl) hc_59) (by kernel_rfl)) ?_
              refine wx_take (v := .bool r_45) (by kernel_rfl) (fun w' hS => run_move (v := .bool r_45) (by kernel_rfl)) ?_
              rcases Bool.eq_false_or_eq_true r_45 with hc_60 | hc_60
              · have hm := ite_t hm hc_60
                obtain ⟨r_46, h_71, hm⟩ := bind_e hm
                refine wx_op (wg (c := r_45) (want := true) (by kernel_rfl) hc_60 rfl) (fun _ => ow_enter (run_callf (vs := [.string ⟨⟨([49, 46, 48, 48, 48, 48, 48, 48, 49] : List UInt8)⟩⟩]) Tryd.func35 nm_35 (by kernel_rfl) (by kernel_rfl)) (f35_ok (p0_0 := ([49, 46, 48, 48, 48, 48, 48, 48, 49] : List UInt8)) fuel _ w_60 hL.lt  h_71) ?_)
                intro vR w_61 hR
                obtain ⟨rfl, hBe⟩ := hR
                have hS := Stp.call hL (Fz.of_below hBe [])
                replace hZ := hZ.trans (hS.hf.sub nilM)
                refine ⟨hZ, ?_⟩
                replace h_3 := hS.box h_3 nilN
                replace h_7 := hS.box h_7 nilN
                replace h_11 := hS.box h_11 nilN
                replace h_15 := hS.box h_15 nilN
                replace h_19 := hS.box h_19 nilN
                replace h_26 := hS.box h_26 nilN
                replace hB := hS.below hL hB
                replace hL := hS.hL
                refine wx_take (v := .bool r_46) (by kernel_rfl) (fun w' hS => run_pick_t (v := .bool r_46) (tr2 (c := r_45) (by kernel_rfl) hc_60) (by kernel_rfl)) ?_
                refine wx_take (v := .bool r_46) (by kernel_rfl) (fun w' hS => run_move (v := .bool r_46) (by kernel_rfl)) ?_
                rcases Bool.eq_false_or_eq_true r_46 with hc_61 | hc_61
                · have hm := ite_t hm hc_61
                  obtain ⟨r_47, h_72, hm⟩ := bind_e hm
                  refine wx_op (wg (c := r_46) (want := true) (by kernel_rfl) hc_61 rfl) (fun _ => ow_enter (run_callf (vs := [.string ⟨⟨([43, 49] : List UInt8)⟩⟩]) Tryd.func35 nm_35 (by kernel_rfl) (by kernel_rfl)) (f35_ok (p0_0 := ([43, 49] : List UInt8)) fuel _ w_61 hL.lt  h_72) ?_)
                  intro vR w_62 hR
                  obtain ⟨rfl, hBe⟩ := hR
                  have hS := Stp.call hL (Fz.of_below hBe [])
                  replace hZ := hZ.trans (hS.hf.sub nilM)
                  refine ⟨hZ, ?_⟩
                  replace h_3 := hS.box h_3 nilN
                  replace h_7 := hS.box h_7 nilN
                  replace h_11 := hS.box h_11 nilN
                  replace h_15 := hS.box h_15 nilN
                  replace h_19 := hS.box h_19 nilN
                  replace h_26 := hS.box h_26 nilN
                  replace hB := hS.below hL hB
                  replace hL := hS.hL
                  refine wx_take (v := .bool r_47) (by kernel_rfl) (fun w' hS => run_pick_t (v := .bool r_47) (tr2 (c := r_46) (by kernel_rfl) hc_61) (by kernel_rfl)) ?_
                  refine wx_take (v := .bool r_47) (by kernel_rfl) (fun w' hS => run_move (v := .bool r_47) (by kernel_rfl)) ?_
                  refine wx_norm [.bool false, .pointer (some ⟨g_1, 0, none⟩), .bool r_1.2, .pointer (some ⟨g_2, 0, none⟩), .bool r_3.2, .pointer (some ⟨g_3, 0, none⟩), .bool r_5.2, .pointer (some ⟨g_4, 0, none⟩), .bool r_7.2, .pointer (some ⟨g_5, 0, none⟩), .bool r_9.2, .int .u16 r_11.1, .bool r_11.2, .int .u16 r_13.1, .bool r_13.2, .pointer (some ⟨g_6, 0, none⟩), .bool r_14.2, .tuple #[.agg #[.int .i64 r_1.1.N, .int .u8 r_1.1.D], .bool r_1.2], .tuple #[.agg #[.int .i64 r_1.1.N, .int .u8 r_1.1.D], .bool r_1.2], .agg #[.int .i64 r_1.1.N, .int .u8 r_1.1.D], .bool r_1.2, .tuple #[.agg #[.int .i64 r_3.1.N, .int .u8 r_3.1.D], .bool r_3.2], .agg #[.int .i64 r_2.N, .int .u8 r_2.D], .tuple #[.agg #[.int .i64 r_3.1.N, .int .u8 r_3.1.D], .bool r_3.2], .agg #[.int .i64 r_3.1.N, .int .u8 r_3.1.D], .bool r_3.2, .tuple #[.agg #[.int .i64 r_5.1.N, .int .u8 r_5.1.D], .bool r_5.2], .agg #[.int .i64 r_4.N, .int .u8 r_4.D], .tuple #[.agg #[.int .i64 r_5.1.N, .int .u8 r_5.1.D], .bool r_5.2], .agg #[.int .i64 r_5.1.N, .int .u8 r_5.1.D], .bool r_5.2, .tuple #[.agg #[.int .i64 r_7.1.N, .int .u8 r_7.1.D], .bool r_7.2], .agg #[.int .i64 r_6.N, .int .u8 r_6.D], .tuple #[.agg #[.int .i64 r_7.1.N, .int .u8 r_7.1.D], .bool r_7.2], .agg #[.int .i64 r_7.1.N, .int .u8 r_7.1.D], .bool r_7.2, .tuple #[.agg #[.int .i64 r_9.1.N, .int .u8 r_9.1.D], .bool r_9.2], .agg #[.int .i64 r_8.N, .int .u8 r_8.D], .tuple #[.agg #[.int .i64 r_9.1.N, .int .u8 r_9.1.D], .bool r_9.2], .agg #[.int .i64 r_9.1.N, .int .u8 r_9.1.D], .bool r_9.2, .tuple #[.int .u16 r_11.1, .bool r_11.2], .agg #[.int .i64 r_10.N, .int .u8 r_10.D], .tuple #[.int .u16 r_11.1, .bool r_11.2], .int .u16 r_11.1, .bool r_11.2, .tuple #[.int .u16 r_13.1, .bool r_13.2], .agg #[.int .i64 r_12.N, .int .u8 r_12.D], .tuple #[.int .u16 r_13.1, .bool r_13.2], .int .u16 r_13.1, .bool r_13.2, .tuple #[.agg #[.int .i64 r_14.1.N, .int .u8 r_14.1.D], .bool r_14.2], .tuple #[.agg #[.int .i64 r_14.1.N, .int .u8 r_14.1.D], .bool r_14.2], .agg #[.int .i64 r_14.1.N, .int .u8 r_14.1.D], .bool r_14.2, .bool r_1.2, .bool r_1.2, .agg #[.int .i64 r_1.1.N, .int .u8 r_1.1.D], .agg #[.int .i64 125, .int .u8 1], .bool c_13, .bool c_13, .bool c_13, .agg #[.int .i64 r_1.1.N, .int .u8 r_1.1.D], .string ⟨⟨r_42⟩⟩, .bool (eqs r_42 ([49, 50, 46, 53] : List UInt8)), .bool (eqs r_42 ([49, 50, 46, 53] : List UInt8)), .bool (eqs r_42 ([49, 50, 46, 53] : List UInt8)), .bool r_43, .bool r_43, .bool r_43, .bool r_44, .bool r_44, .bool r_44, .bool r_45, .bool r_45, .bool r_45, .bool r_46, .bool r_46, .bool r_46, .bool r_47, .bool r_47, .bool r_47, undef, undef, undef, undef, undef, undef, undef, undef, undef, undef, undef, undef, undef, undef, undef, undef, undef, undef, undef, undef, undef, undef, undef, undef, undef, undef, undef, undef, undef, undef, undef, undef, undef, undef, undef, undef, undef, undef, undef, undef, undef, undef] (by kernel_rfl) ?_
                  rcases Bool.eq_false_or_eq_true r_47 with hc_62 | hc_62
                  · have hm := ite_t hm hc_62
                    refine wx_take (v := .bool r_3.2) (wg (c := r_47) (want := true) (by kernel_rfl) hc_62 rfl) (fun w' hS => run_move (v := .bool r_3.2) (by kernel_rfl)) ?_
                    refine wx_take (v := .bool r_3.2) (by kernel_rfl) (fun w' hS => run_pick_t (v := .bool r_3.2) (tr2 (c := r_47) (by kernel_rfl) hc_62) (by kernel_rfl)) ?_
                    refine wx_take (v := .bool r_3.2) (by kernel_rfl) (fun w' hS => run_move (v := .bool r_3.2) (by kernel_rfl)) ?_
                    rcases Bool.eq_false_or_eq_true r_3.2 with hc_63 | hc_63
                    · have hm := ite_t hm hc_63
                      refine wx_take (v := .agg #[.int .i64 r_3.1.N, .int .u8 r_3.1.D]) (wg (c := r_3.2) (want := true) (by kernel_rfl) hc_63 rfl) (fun w' hS => run_load_boxn (j := 0) (vs := [.int .i64 r_3.1.N, .int .u8 r_3.1.D]) Tryd.underlying23 rfl sz_23 (by kernel_rfl) (h_7b.step hS nilN) (by kernel_rfl) rfl) ?_
                      obtain ⟨r_48, h_73, hm⟩ := bind_e hm
                      refine wx_op (wg (c := r_3.2) (want := true) (by kernel_rfl) hc_63 rfl) (fun _ => ow_enter (run_callf (vs := [.string ⟨⟨([51, 46, 55, 53] : List UInt8)⟩⟩]) Tryd.func34 nm_34 (by kernel_rfl) (by kernel_rfl)) (f34_ok (p0_0 := ([51, 46, 55, 53] : List UInt8)) fuel _ w_62 hL.lt  h_73) ?_)
                      intro vR w_63 hR
                      obtain ⟨rfl, hBe⟩ := hR
                      have hS := Stp.call hL (Fz.of_below hBe [])
                      replace hZ := hZ.trans (hS.hf.sub nilM)
                      refine ⟨hZ, ?_⟩
                      replace h_3 := hS.box h_3 nilN
                      replace h_7 := hS.box h_7 nilN
                      replace h_11 := hS.box h_11 nilN
                      replace h_15 := hS.box h_15 nilN
                      replace h_19 := hS.box h_19 nilN
                      replace h_26 := hS.box h_26 nilN
                      replace hB := hS.below hL hB
                      replace hL := hS.hL
                      obtain ⟨c_14, h_74, hm⟩ := bind_e hm
                      refine wx_take (v := .bool c_14) (wg (c := r_3.2) (want := true) (by kernel_rfl) hc_63 rfl) (fun w' hS => by rw [← Option.some.inj h_74]; exact run_eq_agg (r := ((eqi r_3.1.N r_48.N) && ((eqi r_3.1.D r_48.D) && true))) (by kernel_rfl) (by kernel_rfl) eg_23 eq_23) ?_
                      refine wx_take (v := .bool c_14) (by kernel_rfl) (fun w' hS => run_pick_t (v := .bool c_14) (tr2 (c := r_3.2) (by kernel_rfl) hc_63) (by kernel_rfl)) ?_
                      refine wx_take (v := .bool c_14) (by kernel_rfl) (fun w' hS => run_move (v := .bool c_14) (by kernel_rfl)) ?_
                      rcases Bool.eq_false_or_eq_true c_14 with hc_64 | hc_64
                      · have hm := ite_t hm hc_64
                        refine wx_take (v := .bool r_5.2) (wg (c := c_14) (want := true) (by kernel_rfl) hc_64 rfl) (fun w' hS => run_move (v := .bool r_5.2) (by kernel_rfl)) ?_
                        refine wx_take (v := .bool (!r_5.2)) (wg (c := c_14) (want := true) (by kernel_rfl) hc_64 rfl) (fun w' hS => run_not (b := r_5.2) (by kernel_rfl)) ?_
                        refine wx_take (v := .bool (!r_5.2)) (by kernel_rfl) (fun w' hS => run_pick_t (v := .bool (!r_5.2)) (tr2 (c := c_14) (by kernel_rfl) hc_64) (by kernel_rfl)) ?_
                        refine wx_take (v := .bool (!r_5.2)) (by kernel_rfl) (fun w' hS => run_move (v := .bool (!r_5.2)) (by kernel_rfl)) ?_
                        refine wx_norm [.bool false, .pointer (some ⟨g_1, 0, none⟩), .bool r_1.2, .pointer (some ⟨g_2, 0, none⟩), .bool r_3.2, .pointer (some ⟨g_3, 0, none⟩), .bool r_5.2, .pointer (some ⟨g_4, 0, none⟩), .bool r_7.2, .pointer (some ⟨g_5, 0, none⟩), .bool r_9.2, .int .u16 r_11.1, .bool r_11.2, .int .u16 r_13.1, .bool r_13.2, .pointer (some ⟨g_6, 0, none⟩), .bool r_14.2, .tuple #[.agg #[.int .i64 r_1.1.N, .int .u8 r_1.1.D], .bool r_1.2], .tuple #[.agg #[.int .i64 r_1.1.N, .int .u8 r_1.1.D], .bool r_1.2], .agg #[.int .i64 r_1.1.N, .int .u8 r_1.1.D], .bool r_1.2, .tuple #[.agg #[.int .i64 r_3.1.N, .int .u8 r_3.1.D], .bool r_3.2], .agg #[.int .i64 r_2.N, .int .u8 r_2.D], .tuple #[.agg #[.int .i64 r_3.1.N, .int .u8 r_3.1.D], .bool r_3.2], .agg #[.int .i64 r_3.1.N, .int .u8 r_3.1.D], .bool r_3.2, .tuple #[.agg #[.int .i64 r_5.1.N, .int .u8 r_5.1.D], .bool r_5.2], .agg #[.int .i64 r_4.N, .int .u8 r_4.D], .tuple #[.agg #[.int .i64 r_5.1.N, .int .u8 r_5.1.D], .bool r_5.2], .agg #[.int .i64 r_5.1.N, .int .u8 r_5.1.D], .bool r_5.2, .tuple #[.agg #[.int .i64 r_7.1.N, .int .u8 r_7.1.D], .bool r_7.2], .agg #[.int .i64 r_6.N, .int .u8 r_6.D], .tuple #[.agg #[.int .i64 r_7.1.N, .int .u8 r_7.1.D], .bool r_7.2], .agg #[.int .i64 r_7.1.N, .int .u8 r_7.1.D], .bool r_7.2, .tuple #[.agg #[.int .i64 r_9.1.N, .int .u8 r_9.1.D], .bool r_9.2], .agg #[.int .i64 r_8.N, .int .u8 r_8.D], .tuple #[.agg #[.int .i64 r_9.1.N, .int .u8 r_9.1.D], .bool r_9.2], .agg #[.int .i64 r_9.1.N, .int .u8 r_9.1.D], .bool r_9.2, .tuple #[.int .u16 r_11.1, .bool r_11.2], .agg #[.int .i64 r_10.N, .int .u8 r_10.D], .tuple #[.int .u16 r_11.1, .bool r_11.2], .int .u16 r_11.1, .bool r_11.2, .tuple #[.int .u16 r_13.1, .bool r_13.2], .agg #[.int .i64 r_12.N, .int .u8 r_12.D], .tuple #[.int .u16 r_13.1, .bool r_13.2], .int .u16 r_13.1, .bool r_13.2, .tuple #[.agg #[.int .i64 r_14.1.N, .int .u8 r_14.1.D], .bool r_14.2], .tuple #[.agg #[.int .i64 r_14.1.N, .int .u8 r_14.1.D], .bool r_14.2], .agg #[.int .i64 r_14.1.N, .int .u8 r_14.1.D], .bool r_14.2, .bool r_1.2, .bool r_1.2, .agg #[.int .i64 r_1.1.N, .int .u8 r_1.1.D], .agg #[.int .i64 125, .int .u8 1], .bool c_13, .bool c_13, .bool c_13, .agg #[.int .i64 r_1.1.N, .int .u8 r_1.1.D], .string ⟨⟨r_42⟩⟩, .bool (eqs r_42 ([49, 50, 46, 53] : List UInt8)), .bool (eqs r_42 ([49, 50, 46, 53] : List UInt8)), .bool (eqs r_42 ([49, 50, 46, 53] : List UInt8)), .bool r_43, .bool r_43, .bool r_43, .bool r_44, .bool r_44, .bool r_44, .bool r_45, .bool r_45, .bool r_45, .bool r_46, .bool r_46, .bool r_46, .bool r_47, .bool r_47, .bool r_47, .bool r_3.2, .bool r_3.2, .bool r_3.2, .agg #[.int .i64 r_3.1.N, .int .u8 r_3.1.D], .agg #[.int .i64 r_48.N, .int .u8 r_48.D], .bool c_14, .bool c_14, .bool c_14, .bool r_5.2, .bool (!r_5.2), .bool (!r_5.2), .bool (!r_5.2), undef, undef, undef, undef, undef, undef, undef, undef, undef, undef, undef, undef, undef, undef, undef, undef, undef, undef, undef, undef, undef, undef, undef, undef, undef, undef, undef, undef, undef, undef] (by kernel_rfl) ?_
                        rcases Bool.eq_false_or_eq_true r_5.2 with hc_65 | hc_65
                        · have hm := ite_t hm hc_65
                          refine wx_take_not0 (wg (c := (!r_5.2)) (want := true) (by kernel_rfl) (not_t hc_65) rfl) (by kernel_rfl) ?_
                          refine wx_take (v := .bool false) (by kernel_rfl) (fun w' hS => run_pick_f (v := .bool false) (tr2 (c := (!r_5.2)) (by kernel_rfl) (not_t hc_65)) (by kernel_rfl)) ?_
                          refine wx_take (v := .bool false) (by kernel_rfl) (fun w' hS => run_move (v := .bool false) (by kernel_rfl)) ?_
                          refine wx_take_not0 (by kernel_rfl) (by kernel_rfl) ?_
                          refine wx_not0 (by kernel_rfl) (by kernel_rfl) ?_
                          refine wx_take_not0 (by kernel_rfl) (by kernel_rfl) ?_
                          refine wx_take (v := .bool false) (by kernel_rfl) (fun w' hS => run_pick_f (v := .bool false) (by kernel_rfl) (by kernel_rfl)) ?_
                          refine wx_take (v := .bool false) (by kernel_rfl) (fun w' hS => run_move (v := .bool false) (by kernel_rfl)) ?_
                          refine wx_take_not0 (by kernel_rfl) (by kernel_rfl) ?_
                          refine wx_take_not0 (by kernel_rfl) (by kernel_rfl) ?_
                          refine wx_take (v := .bool false) (by kernel_rfl) (fun w' hS => run_pick_f (v := .bool false) (by kernel_rfl) (by kernel_rfl)) ?_
                          refine wx_take (v := .bool false) (by kernel_rfl) (fun w' hS => run_move (v := .bool false) (by kernel_rfl)) ?_
                          refine wx_take_not0 (by kernel_rfl) (by kernel_rfl) ?_
                          refine wx_take (v := .bool false) (by kernel_rfl) (fun w' hS => run_pick_f (v := .bool false) (by kernel_rfl) (by kernel_rfl)) ?_
                          refine wx_take (v := .bool false) (by kernel_rfl) (fun w' hS => run_move (v := .bool false) (by kernel_rfl)) ?_
                          refine wx_take_not0 (by kernel_rfl) (by kernel_rfl) ?_
                          refine wx_take_not0 (by kernel_rfl) (by kernel_rfl) ?_
                          refine wx_take (v := .bool false) (by kernel_rfl) (fun w' hS => run_pick_f (v := .bool false) (by kernel_rfl) (by kernel_rfl)) ?_
                          refine wx_take (v := .bool false) (by kernel_rfl) (fun w' hS => run_move (v := .bool false) (by kernel_rfl)) ?_
                          refine wx_norm [.bool false, .pointer (some ⟨g_1, 0, none⟩), .bool r_1.2, .pointer (some ⟨g_2, 0, none⟩), .bool r_3.2, .pointer (some ⟨g_3, 0, none⟩), .bool r_5.2, .pointer (some ⟨g_4, 0, none⟩), .bool r_7.2, .pointer (some ⟨g_5, 0, none⟩), .bool r_9.2, .int .u16 r_11.1, .bool r_11.2, .int .u16 r_13.1, .bool r_13.2, .pointer (some ⟨g_6, 0, none⟩), .bool r_14.2, .tuple #[.agg #[.int .i64 r_1.1.N, .int .u8 r_1.1.D], .bool r_1.2], .tuple #[.agg #[.int .i64 r_1.1.N, .int .u8 r_1.1.D], .bool r_1.2], .agg #[.int .i64 r_1.1.N, .int .u8 r_1.1.D], .bool r_1.2, .tuple #[.agg #[.int .i64 r_3.1.N, .int .u8 r_3.1.D], .bool r_3.2], .agg #[.int .i64 r_2.N, .int .u8 r_2.D], .tuple #[.agg #[.int .i64 r_3.1.N, .int .u8 r_3.1.D], .bool r_3.2], .agg #[.int .i64 r_3.1.N, .int .u8 r_3.1.D], .bool r_3.2, .tuple #[.agg #[.int .i64 r_5.1.N, .int .u8 r_5.1.D], .bool r_5.2], .agg #[.int .i64 r_4.N, .int .u8 r_4.D], .tuple #[.agg #[.int .i64 r_5.1.N, .int .u8 r_5.1.D], .bool r_5.2], .agg #[.int .i64 r_5.1.N, .int .u8 r_5.1.D], .bool r_5.2, .tuple #[.agg #[.int .i64 r_7.1.N, .int .u8 r_7.1.D], .bool r_7.2], .agg #[.int .i64 r_6.N, .int .u8 r_6.D], .tuple #[.agg #[.int .i64 r_7.1.N, .int .u8 r_7.1.D], .bool r_7.2], .agg #[.int .i64 r_7.1.N, .int .u8 r_7.1.D], .bool r_7.2, .tuple #[.agg #[.int .i64 r_9.1.N, .int .u8 r_9.1.D], .bool r_9.2], .agg #[.int .i64 r_8.N, .int .u8 r_8.D], .tuple #[.agg #[.int .i64 r_9.1.N, .int .u8 r_9.1.D], .bool r_9.2], .agg #[.int .i64 r_9.1.N, .int .u8 r_9.1.D], .bool r_9.2, .tuple #[.int .u16 r_11.1, .bool r_11.2], .agg #[.int .i64 r_10.N, .int .u8 r_10.D], .tuple #[.int .u16 r_11.1, .bool r_11.2], .int .u16 r_11.1, .bool r_11.2, .tuple #[.int .u16 r_13.1, .bool r_13.2], .agg #[.int .i64 r_12.N, .int .u8 r_12.D], .tuple #[.int .u16 r_13.1, .bool r_13.2], .int .u16 r_13.1, .bool r_13.2, .tuple #[.agg #[.int .i64 r_14.1.N, .int .u8 r_14.1.D], .bool r_14.2], .tuple #[.agg #[.int .i64 r_14.1.N, .int .u8 r_14.1.D], .bool r_14.2], .agg #[.int .i64 r_14.1.N, .int .u8 r_14.1.D], .bool r_14.2, .bool r_1.2, .bool r_1.2, .agg #[.int .i64 r_1.1.N, .int .u8 r_1.1.D], .agg #[.int .i64 125, .int .u8 1], .bool c_13, .bool c_13, .bool c_13, .agg #[.int .i64 r_1.1.N, .int .u8 r_1.1.D], .string ⟨⟨r_42⟩⟩, .bool (eqs r_42 ([49, 50, 46, 53] : List UInt8)), .bool (eqs r_42 ([49, 50, 46, 53] : List UInt8)), .bool (eqs r_42 ([49, 50, 46, 53] : List UInt8)), .bool r_43, .bool r_43, .bool r_43, .bool r_44, .bool r_44, .bool r_44, .bool r_45, .bool r_45, .bool r_45, .bool r_46, .bool r_46, .bool r_46, .bool r_47, .bool r_47, .bool r_47, .bool r_3.2, .bool r_3.2, .bool r_3.2, .agg #[.int .i64 r_3.1.N, .int .u8 r_3.1.D], .agg #[.int .i64 r_48.N, .int .u8 r_48.D], .bool c_14, .bool c_14, .bool c_14, .bool r_5.2, .bool (!r_5.2), .bool (!r_5.2), .bool (!r_5.2), undef, .bool false, .bool false, undef, undef, undef, .bool false, .bool false, undef, undef, .bool false, .bool false, undef, .bool false, .bool false, undef, undef, .bool false, .bool false, undef, undef, undef, undef, undef, undef, undef, undef, undef, undef, undef] (by kernel_rfl) ?_
                          refine wx_take_not0 (by kernel_rfl) (by kernel_rfl) ?_
                          refine wx_take_not0 (by kernel_rfl) (by kernel_rfl) ?_
                          refine wx_take (v := .bool false) (by kernel_rfl) (fun w' hS => run_pick_f (v := .bool false) (by kernel_rfl) (by kernel_rfl)) ?_
                          refine wx_take (v := .bool false) (by kernel_rfl) (fun w' hS => run_move (v := .bool false) (by kernel_rfl)) ?_
                          refine wx_take_not0 (by kernel_rfl) (by kernel_rfl) ?_
                          refine wx_take (v := .bool false) (by kernel_rfl) (fun w' hS => run_pick_f (v := .bool false) (by kernel_rfl) (by kernel_rfl)) ?_
                          refine wx_take (v := .bool false) (by kernel_rfl) (fun w' hS => run_move (v := .bool false) (by kernel_rfl)) ?_
                          refine wx_take_not0 (by kernel_rfl) (by kernel_rfl) ?_
                          refine wx_not0 (by kernel_rfl) (by kernel_rfl) ?_
                          refine wx_take_not0 (by kernel_rfl) (by kernel_rfl) ?_
                          refine wx_take (v := .bool false) (by kernel_rfl) (fun w' hS => run_pick_f (v := .bool false) (by kernel_rfl) (by kernel_rfl)) ?_
                          refine wx_take (v := .bool false) (by kernel_rfl) (fun w' hS => run_assign (v := .bool false) (by kernel_rfl)) ?_
                          refine wx_nil ?_
                          have hS : Stp w0.heap.size _ [] F [] w_63 _ := Stp.pick hL [] rfl (by decide)
                          replace hB := hS.below hL hB
                          replace hL := hS.hL
                          exact then_c ⟨false, (fun i => ([.bool r_1.2, .bool r_1.2, .agg #[.int .i64 r_1.1.N, .int .u8 r_1.1.D], .agg #[.int .i64 125, .int .u8 1], .bool c_13, .bool c_13, .bool c_13, .agg #[.int .i64 r_1.1.N, .int .u8 r_1.1.D], .string ⟨⟨r_42⟩⟩, .bool (eqs r_42 ([49, 50, 46, 53] : List UInt8)), .bool (eqs r_42 ([49, 50, 46, 53] : List UInt8)), .bool (eqs r_42 ([49, 50, 46, 53] : List UInt8)), .bool r_43, .bool r_43, .bool r_43, .bool r_44, .bool r_44, .bool r_44, .bool r_45, .bool r_45, .bool r_45, .bool r_46, .bool r_46, .bool r_46, .bool r_47, .bool r_47, .bool r_47, .bool r_3.2, .bool r_3.2, .bool r_3.2, .agg #[.int .i64 r_3.1.N, .int .u8 r_3.1.D], .agg #[.int .i64 r_48.N, .int .u8 r_48.D], .bool c_14, .bool c_14, .bool c_14, .bool r_5.2, .bool (!r_5.2), .bool (!r_5.2), .bool (!r_5.2), undef, .bool false, .bool false, undef, undef, undef, .bool false, .bool false, undef, undef, .bool false, .bool false, undef, .bool false, .bool false, undef, undef, .bool false, .bool false, undef, undef, .bool false, .bool false, undef, .bool false, .bool false, undef, undef, undef, .bool false] : List Value).getD i undef), by kernel_rfl, hL, hB, hm⟩
                        · have hm := ite_f hm hc_65
                          refine wx_take (v := .bool r_7.2) (wg (c := (!r_5.2)) (want := true) (by kernel_rfl) (not_f hc_65) rfl) (fun w' hS => run_move (v := .bool r_7.2) (by kernel_rfl)) ?_
                          refine wx_take (v := .bool r_7.2) (by kernel_rfl) (fun w' hS => run_pick_t (v := .bool r_7.2) (tr2 (c := (!r_5.2)) (by kernel_rfl) (not_f hc_65)) (by kernel_rfl)) ?_
                          refine wx_take (v := .bool r_7.2) (by kernel_rfl) (fun w' hS => run_move (v := .bool r_7.2) (by kernel_rfl)) ?_
                          rcases Bool.eq_false_or_eq_true r_7.2 with hc_66 | hc_66
                          · have hm := ite_t hm hc_66
                            refine wx_take (v := .agg #[.int .i64 r_7.1.N, .int .u8 r_7.1.D]) (wg (c := r_7.2) (want := true) (by kernel_rfl) hc_66 rfl) (fun w' hS => run_load_boxn (j := 0) (vs := [.int .i64 r_7.1.N, .int .u8 r_7.1.D]) Tryd.underlying23 rfl sz_23 (by kernel_rfl) (h_15b.step hS nilN) (by kernel_rfl) rfl) ?_
                            obtain ⟨r_49, h_75, hm⟩ := bind_e hm
                            refine wx_op (wg (c := r_7.2) (want := true) (by kernel_rfl) hc_66 rfl) (fun _ => ow_enter (run_callf (vs := [.string ⟨⟨([57, 48, 48, 48, 48] : List UInt8)⟩⟩]) Tryd.func34 nm_34 (by kernel_rfl) (by kernel_rfl)) (f34_ok (p0_0 := ([57, 48, 48, 48, 48] : List UInt8)) fuel _ w_63 hL.lt  h_75) ?_)
                            intro vR w_64 hR
                            obtain ⟨rfl, hBe⟩ := hR
                            have hS := Stp.call hL (Fz.of_below hBe [])
                            replace hZ := hZ.trans (hS.hf.sub nilM)
                            refine ⟨hZ, ?_⟩
                            replace h_3 := hS.box h_3 nilN
                            replace h_7 := hS.box h_7 nilN
                            replace h_11 := hS.box h_11 nilN
                            replace h_15 := hS.box h_15 nilN
                            replace h_19 := hS.box h_19 nilN
                            replace h_26 := hS.box h_26 nilN
                            replace hB := hS.below hL hB
                            replace hL := hS.hL
                            obtain ⟨c_15, h_76, hm⟩ := bind_e hm
                            refine wx_take (v := .bool c_15) (wg (c := r_7.2) (want := true) (by kernel_rfl) hc_66 rfl) (fun w' hS => by rw [← Option.some.inj h_76]; exact run_eq_agg (r := ((eqi r_7.1.N r_49.N) && ((eqi r_7.1.D r_49.D) && true))) (by kernel_rfl) (by kernel_rfl) eg_23 eq_23) ?_
                            refine wx_take (v := .bool c_15) (by kernel_rfl) (fun w' hS => run_pick_t (v := .bool c_15) (tr2 (c := r_7.2) (by kernel_rfl) hc_66) (by kernel_rfl)) ?_
                            refine wx_take (v := .bool c_15) (by kernel_rfl) (fun w' hS => run_move (v := .bool c_15) (by kernel_rfl)) ?_
                            rcases Bool.eq_false_or_eq_true c_15 with hc_67 | hc_67
                            · have hm := ite_t hm hc_67
                              refine wx_take (v := .bool r_9.2) (wg (c := c_15) (want := true) (by kernel_rfl) hc_67 rfl) (fun w' hS => run_move (v := .bool r_9.2) (by kernel_rfl)) ?_
                              refine wx_take (v := .bool (!r_9.2)) (wg (c := c_15) (want := true) (by kernel_rfl) hc_67 rfl) (fun w' hS => run_not (b := r_9.2) (by kernel_rfl)) ?_
                              refine wx_take (v := .bool (!r_9.2)) (by kernel_rfl) (fun w' hS => run_pick_t (v := .bool (!r_9.2)) (tr2 (c := c_15) (by kernel_rfl) hc_67) (by kernel_rfl)) ?_
                              refine wx_take (v := .bool (!r_9.2)) (by kernel_rfl) (fun w' hS => run_move (v := .bool (!r_9.2)) (by kernel_rfl)) ?_
                              refine wx_norm [.bool false, .pointer (some ⟨g_1, 0, none⟩), .bool r_1.2, .pointer (some ⟨g_2, 0, none⟩), .bool r_3.2, .pointer (some ⟨g_3, 0, none⟩), .bool r_5.2, .pointer (some ⟨g_4, 0, none⟩), .bool r_7.2, .pointer (some ⟨g_5, 0, none⟩), .bool r_9.2, .int .u16 r_11.1, .bool r_11.2, .int .u16 r_13.1, .bool r_13.2, .pointer (some ⟨g_6, 0, none⟩), .bool r_14.2, .tuple #[.agg #[.int .i64 r_1.1.N, .int .u8 r_1.1.D], .bool r_1.2], .tuple #[.agg #[.int .i64 r_1.1.N, .int .u8 r_1.1.D], .bool r_1.2], .agg #[.int .i64 r_1.1.N, .int .u8 r_1.1.D], .bool r_1.2, .tuple #[.agg #[.int .i64 r_3.1.N, .int .u8 r_3.1.D], .bool r_3.2], .agg #[.int .i64 r_2.N, .int .u8 r_2.D], .tuple #[.agg #[.int .i64 r_3.1.N, .int .u8 r_3.1.D], .bool r_3.2], .agg #[.int .i64 r_3.1.N, .int .u8 r_3.1.D], .bool r_3.2, .tuple #[.agg #[.int .i64 r_5.1.N, .int .u8 r_5.1.D], .bool r_5.2], .agg #[.int .i64 r_4.N, .int .u8 r_4.D], .tuple #[.agg #[.int .i64 r_5.1.N, .int .u8 r_5.1.D], .bool r_5.2], .agg #[.int .i64 r_5.1.N, .int .u8 r_5.1.D], .bool r_5.2, .tuple #[.agg #[.int .i64 r_7.1.N, .int .u8 r_7.1.D], .bool r_7.2], .agg #[.int .i64 r_6.N, .int .u8 r_6.D], .tuple #[.agg #[.int .i64 r_7.1.N, .int .u8 r_7.1.D], .bool r_7.2], .agg #[.int .i64 r_7.1.N, .int .u8 r_7.1.D], .bool r_7.2, .tuple #[.agg #[.int .i64 r_9.1.N, .int .u8 r_9.1.D], .bool r_9.2], .agg #[.int .i64 r_8.N, .int .u8 r_8.D], .tuple #[.agg #[.int .i64 r_9.1.N, .int .u8 r_9.1.D], .bool r_9.2], .agg #[.int .i64 r_9.1.N, .int .u8 r_9.1.D], .bool r_9.2, .tuple #[.int .u16 r_11.1, .bool r_11.2], .agg #[.int .i64 r_10.N, .int .u8 r_10.D], .tuple #[.int .u16 r_11.1, .bool r_11.2], .int .u16 r_11.1, .bool r_11.2, .tuple #[.int .u16 r_13.1, .bool r_13.2], .agg #[.int .i64 r_12.N, .int .u8 r_12.D], .tuple #[.int .u16 r_13.1, .bool r_13.2], .int .u16 r_13.1, .bool r_13.2, .tuple #[.agg #[.int .i64 r_14.1.N, .int .u8 r_14.1.D], .bool r_14.2], .tuple #[.agg #[.int .i64 r_14.1.N, .int .u8 r_14.1.D], .bool r_14.2], .agg #[.int .i64 r_14.1.N, .int .u8 r_14.1.D], .bool r_14.2, .bool r_1.2, .bool r_1.2, .agg #[.int .i64 r_1.1.N, .int .u8 r_1.1.D], .agg #[.int .i64 125, .int .u8 1], .bool c_13, .bool c_13, .bool c_13, .agg #[.int .i64 r_1.1.N, .int .u8 r_1.1.D], .string ⟨⟨r_42⟩⟩, .bool (eqs r_42 ([49, 50, 46, 53] : List UInt8)), .bool (eqs r_42 ([49, 50, 46, 53] : List UInt8)), .bool (eqs r_42 ([49, 50, 46, 53] : List UInt8)), .bool r_43, .bool r_43, .bool r_43, .bool r_44, .bool r_44, .bool r_44, .bool r_45, .bool r_45, .bool r_45, .bool r_46, .bool r_46, .bool r_46, .bool r_47, .bool r_47, .bool r_47, .bool r_3.2, .bool r_3.2, .bool r_3.2, .agg #[.int .i64 r_3.1.N, .int .u8 r_3.1.D], .agg #[.int .i64 r_48.N, .int .u8 r_48.D], .bool c_14, .bool c_14, .bool c_14, .bool r_5.2, .bool (!r_5.2), .bool (!r_5.2), .bool (!r_5.2), .bool r_7.2, .bool r_7.2, .bool r_7.2, .agg #[.int .i64 r_7.1.N, .int .u8 r_7.1.D], .agg #[.int .i64 r_49.N, .int .u8 r_49.D], .bool c_15, .bool c_15, .bool c_15, .bool r_9.2, .bool (!r_9.2), .bool (!r_9.2), .bool (!r_9.2), undef, undef, undef, undef, undef, undef, undef, undef, undef, undef, undef, undef, undef, undef, undef, undef, undef, undef] (by kernel_rfl) ?_
                              rcases Bool.eq_false_or_eq_true r_9.2 with hc_68 | hc_68
                              · have hm := ite_t hm hc_68
                                refine wx_take_not0 (wg (c := (!r_9.2)) (want := true) (by kernel_rfl) (not_t hc_68) rfl) (by kernel_rfl) ?_
                                refine wx_take (v := .bool false) (by kernel_rfl) (fun w' hS => run_pick_f (v := .bool false) (tr2 (c := (!r_9.2)) (by kernel_rfl) (not_t hc_68)) (by kernel_rfl)) ?_
                                refine wx_take (v := .bool false) (by kernel_rfl) (fun w' hS => run_move (v := .bool false) (by kernel_rfl)) ?_
                                refine wx_take_not0 (by kernel_rfl) (by kernel_rfl) ?_
                                refine wx_take_not0 (by kernel_rfl) (by kernel_rfl) ?_
                                refine wx_take (v := .bool false) (by kernel_rfl) (fun w' hS => run_pick_f (v := .bool false) (by kernel_rfl) (by kernel_rfl)) ?_
                                refine wx_take (v := .bool false) (by kernel_rfl) (fun w' hS => run_move (v := .bool false) (by kernel_rfl)) ?_
                                refine wx_take_not0 (by kernel_rfl) (by kernel_rfl) ?_
                                refine wx_take_not0 (by kernel_rfl) (by kernel_rfl) ?_
                                refine wx_take (v := .bool false) (by kernel_rfl) (fun w' hS => run_pick_f (v := .bool false) (by kernel_rfl) (by kernel_rfl)) ?_
                                refine wx_take (v := .bool false) (by kernel_rfl) (fun w' hS => run_move (v := .bool false) (by kernel_rfl)) ?_
                                refine wx_take_not0 (by kernel_rfl) (by kernel_rfl) ?_
                                refine wx_take (v := .bool false) (by kernel_rfl) (fun w' hS => run_pick_f (v := .bool false) (by kernel_rfl) (by kernel_rfl)) ?_
                                refine wx_take (v := .bool false) (by kernel_rfl) (fun w' hS => run_move (v := .bool false) (by kernel_rfl)) ?_
                                refine wx_take_not0 (by kernel_rfl) (by kernel_rfl) ?_
                                refine wx_not0 (by kernel_rfl) (by kernel_rfl) ?_
                                refine wx_take_not0 (by kernel_rfl) (by kernel_rfl) ?_
                                refine wx_take (v := .bool false) (by kernel_rfl) (fun w' hS => run_pick_f (v := .bool false) (by kernel_rfl) (by kernel_rfl)) ?_
                                refine wx_take (v := .bool false) (by kernel_rfl) (fun w' hS => run_assign (v := .bool false) (by kernel_rfl)) ?_
                                refine wx_nil ?_
                                have hS : Stp w0.heap.size _ [] F [] w_64 _ := Stp.pick hL [] rfl (by decide)
                                replace hB := hS.below hL hB
                                replace hL := hS.hL
                                exact then_c ⟨false, (fun i => ([.bool r_1.2, .bool r_1.2, .agg #[.int .i64 r_1.1.N, .int .u8 r_1.1.D], .agg #[.int .i64 125, .int .u8 1], .bool c_13, .bool c_13, .bool c_13, .agg #[.int .i64 r_1.1.N, .int .u8 r_1.1.D], .string ⟨⟨r_42⟩⟩, .bool (eqs r_42 ([49, 50, 46, 53] : List UInt8)), .bool (eqs r_42 ([49, 50, 46, 53] : List UInt8)), .bool (eqs r_42 ([49, 50, 46, 53] : List UInt8)), .bool r_43, .bool r_43, .bool r_43, .bool r_44, .bool r_44, .bool r_44, .bool r_45, .bool r_45, .bool r_45, .bool r_46, .bool r_46, .bool r_46, .bool r_47, .bool r_47, .bool r_47, .bool r_3.2, .bool r_3.2, .bool r_3.2, .agg #[.int .i64 r_3.1.N, .int .u8 r_3.1.D], .agg #[.int .i64 r_48.N, .int .u8 r_48.D], .bool c_14, .bool c_14, .bool c_14, .bool r_5.2, .bool (!r_5.2), .bool (!r_5.2), .bool (!r_5.2), .bool r_7.2, .bool r_7.2, .bool r_7.2, .agg #[.int .i64 r_7.1.N, .int .u8 r_7.1.D], .agg #[.int .i64 r_49.N, .int .u8 r_49.D], .bool c_15, .bool c_15, .bool c_15, .bool r_9.2, .bool (!r_9.2), .bool (!r_9.2), .bool (!r_9.2), undef, .bool false, .bool false, undef, undef, .bool false, .bool false, undef, undef, .bool false, .bool false, undef, .bool false, .bool false, undef, undef, undef, .bool false] : List Value).getD i undef), by kernel_rfl, hL, hB, hm⟩
                              · have hm := ite_f hm hc_68
                                refine wx_take (v := .bool r_11.2) (wg (c := (!r_9.2)) (want := true) (by kernel_rfl) (not_f hc_68) rfl) (fun w' hS => run_move (v := .bool r_11.2) (by kernel_rfl)) ?_
                                refine wx_take (v := .bool r_11.2) (by kernel_rfl) (fun w' hS => run_pick_t (v := .bool r_11.2) (tr2 (c := (!r_9.2)) (by kernel_rfl) (not_f hc_68)) (by kernel_rfl)) ?_
                                refine wx_take (v := .bool r_11.2) (by kernel_rfl) (fun w' hS => run_move (v := .bool r_11.2) (by kernel_rfl)) ?_
                                rcases Bool.eq_false_or_eq_true r_11.2 with hc_69 | hc_69
                                · have hm := ite_t hm hc_69
                                  refine wx_take (v := .int .u16 r_11.1) (wg (c := r_11.2) (want := true) (by kernel_rfl) hc_69 rfl) (fun w' hS => run_move (v := .int .u16 r_11.1) (by kernel_rfl)) ?_
                                  refine wx_take (v := .bool (eqi r_11.1 65524)) (wg (c := r_11.2) (want := true) (by kernel_rfl) hc_69 rfl) (fun w' hS => run_eqi (k := .u16) (a := r_11.1) (b := 65524) (by kernel_rfl) (by kernel_rfl)) ?_
                                  refine wx_take (v := .bool (eqi r_11.1 65524)) (by kernel_rfl) (fun w' hS => run_pick_t (v := .bool (eqi r_11.1 65524)) (tr2 (c := r_11.2) (by kernel_rfl) hc_69) (by kernel_rfl)) ?_
                                  refine wx_take (v := .bool (eqi r_11.1 65524)) (by kernel_rfl) (fun w' hS => run_move (v := .bool (eqi r_11.1 65524)) (by kernel_rfl)) ?_
                                  rcases Bool.eq_false_or_eq_true (eqi r_11.1 65524) with hc_70 | hc_70
                                  · have hm := ite_t hm hc_70
                                    refine wx_take (v := .bool r_13.2) (wg (c := (eqi r_11.1 65524)) (want := true) (by kernel_rfl) hc_70 rfl) (fun w' hS => run_move (v := .bool r_13.2) (by kernel_rfl)) ?_
                                    refine wx_take (v := .bool (!r_13.2)) (wg (c := (eqi r_11.1 65524)) (want := true) (by kernel_rfl) hc_70 rfl) (fun w' hS => run_not (b := r_13.2) (by kernel_rfl)) ?_
                                    refine wx_take (v := .bool (!r_13.2)) (by kernel_rfl) (fun w' hS => run_pick_t (v := .bool (!r_13.2)) (tr2 (c := (eqi r_11.1 65524)) (by kernel_rfl) hc_70) (by kernel_rfl)) ?_
                                    refine wx_take (v := .bool (!r_13.2)) (by kernel_rfl) (fun w' hS => run_move (v := .bool (!r_13.2)) (by kernel_rfl)) ?_
                                    refine wx_norm [.bool false, .pointer (some ⟨g_1, 0, none⟩), .bool r_1.2, .pointer (some ⟨g_2, 0, none⟩), .bool r_3.2, .pointer (some ⟨g_3, 0, none⟩), .bool r_5.2, .pointer (some ⟨g_4, 0, none⟩), .bool r_7.2, .pointer (some ⟨g_5, 0, none⟩), .bool r_9.2, .int .u16 r_11.1, .bool r_11.2, .int .u16 r_13.1, .bool r_13.2, .pointer (some ⟨g_6, 0, none⟩), .bool r_14.2, .tuple #[.agg #[.int .i64 r_1.1.N, .int .u8 r_1.1.D], .bool r_1.2], .tuple #[.agg #[.int .i64 r_1.1.N, .int .u8 r_1.1.D], .bool r_1.2], .agg #[.int .i64 r_1.1.N, .int .u8 r_1.1.D], .bool r_1.2, .tuple #[.agg #[.int .i64 r_3.1.N, .int .u8 r_3.1.D], .bool r_3.2], .agg #[.int .i64 r_2.N, .int .u8 r_2.D], .tuple #[.agg #[.int .i64 r_3.1.N, .int .u8 r_3.1.D], .bool r_3.2], .agg #[.int .i64 r_3.1.N, .int .u8 r_3.1.D], .bool r_3.2, .tuple #[.agg #[.int .i64 r_5.1.N, .int .u8 r_5.1.D], .bool r_5.2], .agg #[.int .i64 r_4.N, .int .u8 r_4.D], .tuple #[.agg #[.int .i64 r_5.1.N, .int .u8 r_5.1.D], .bool r_5.2], .agg #[.int .i64 r_5.1.N, .int .u8 r_5.1.D], .bool r_5.2, .tuple #[.agg #[.int .i64 r_7.1.N, .int .u8 r_7.1.D], .bool r_7.2], .agg #[.int .i64 r_6.N, .int .u8 r_6.D], .tuple #[.agg #[.int .i64 r_7.1.N, .int .u8 r_7.1.D], .bool r_7.2], .agg #[.int .i64 r_7.1.N, .int .u8 r_7.1.D], .bool r_7.2, .tuple #[.agg #[.int .i64 r_9.1.N, .int .u8 r_9.1.D], .bool r_9.2], .agg #[.int .i64 r_8.N, .int .u8 r_8.D], .tuple #[.agg #[.int .i64 r_9.1.N, .int .u8 r_9.1.D], .bool r_9.2], .agg #[.int .i64 r_9.1.N, .int .u8 r_9.1.D], .bool r_9.2, .tuple #[.int .u16 r_11.1, .bool r_11.2], .agg #[.int .i64 r_10.N, .int .u8 r_10.D], .tuple #[.int .u16 r_11.1, .bool r_11.2], .int .u16 r_11.1, .bool r_11.2, .tuple #[.int .u16 r_13.1, .bool r_13.2], .agg #[.int .i64 r_12.N, .int .u8 r_12.D], .tuple #[.int .u16 r_13.1, .bool r_13.2], .int .u16 r_13.1, .bool r_13.2, .tuple #[.agg #[.int .i64 r_14.1.N, .int .u8 r_14.1.D], .bool r_14.2], .tuple #[.agg #[.int .i64 r_14.1.N, .int .u8 r_14.1.D], .bool r_14.2], .agg #[.int .i64 r_14.1.N, .int .u8 r_14.1.D], .bool r_14.2, .bool r_1.2, .bool r_1.2, .agg #[.int .i64 r_1.1.N, .int .u8 r_1.1.D], .agg #[.int .i64 125, .int .u8 1], .bool c_13, .bool c_13, .bool c_13, .agg #[.int .i64 r_1.1.N, .int .u8 r_1.1.D], .string ⟨⟨r_42⟩⟩, .bool (eqs r_42 ([49, 50, 46, 53] : List UInt8)), .bool (eqs r_42 ([49, 50, 46, 53] : List UInt8)), .bool (eqs r_42 ([49, 50, 46, 53] : List UInt8)), .bool r_43, .bool r_43, .bool r_43, .bool r_44, .bool r_44, .bool r_44, .bool r_45, .bool r_45, .bool r_45, .bool r_46, .bool r_46, .bool r_46, .bool r_47, .bool r_47, .bool r_47, .bool r_3.2, .bool r_3.2, .bool r_3.2, .agg #[.int .i64 r_3.1.N, .int .u8 r_3.1.D], .agg #[.int .i64 r_48.N, .int .u8 r_48.D], .bool c_14, .bool c_14, .bool c_14, .bool r_5.2, .bool (!r_5.2), .bool (!r_5.2), .bool (!r_5.2), .bool r_7.2, .bool r_7.2, .bool r_7.2, .agg #[.int .i64 r_7.1.N, .int .u8 r_7.1.D], .agg #[.int .i64 r_49.N, .int .u8 r_49.D], .bool c_15, .bool c_15, .bool c_15, .bool r_9.2, .bool (!r_9.2), .bool (!r_9.2), .bool (!r_9.2), .bool r_11.2, .bool r_11.2, .bool r_11.2, .int .u16 r_11.1, .bool (eqi r_11.1 65524), .bool (eqi r_11.1 65524), .bool (eqi r_11.1 65524), .bool r_13.2, .bool (!r_13.2), .bool (!r_13.2), .bool (!r_13.2), undef, undef, undef, undef, undef, undef, undef] (by kernel_rfl) ?_
                                    rcases Bool.eq_false_or_eq_true r_13.2 with hc_71 | hc_71
                                    · have hm := ite_t hm hc_71
                                      refine wx_take_not0 (wg (c := (!r_13.2)) (want := true) (by kernel_rfl) (not_t hc_71) rfl) (by kernel_rfl) ?_
                                      refine wx_take (v := .bool false) (by kernel_rfl) (fun w' hS => run_pick_f (v := .bool false) (tr2 (c := (!r_13.2)) (by kernel_rfl) (not_t hc_71)) (by kernel_rfl)) ?_
                                      refine wx_take (v := .bool false) (by kernel_rfl) (fun w' hS => run_move (v := .bool false) (by kernel_rfl)) ?_
                                      refine wx_take_not0 (by kernel_rfl) (by kernel_rfl) ?_
                                      refine wx_not0 (by kernel_rfl) (by kernel_rfl) ?_
                                      refine wx_take_not0 (by kernel_rfl) (by kernel_rfl) ?_
                                      refine wx_take (v := .bool false) (by kernel_rfl) (fun w' hS => run_pick_f (v := .bool false) (by kernel_rfl) (by kernel_rfl)) ?_
                                      refine wx_take (v := .bool false) (by kernel_rfl) (fun w' hS => run_assign (v := .bool false) (by kernel_rfl)) ?_
                                      refine wx_nil ?_
                                      have hS : Stp w0.heap.size _ [] F [] w_64 _ := Stp.pick hL [] rfl (by decide)
                                      replace hB := hS.below hL hB
                                      replace hL := hS.hL
                                      exact then_c ⟨false, (fun i => ([.bool r_1.2, .bool r_1.2, .agg #[.int .i64 r_1.1.N, .int .u8 r_1.1.D], .agg #[.int .i64 125, .int .u8 1], .bool c_13, .bool c_13, .bool c_13, .agg #[.int .i64 r_1.1.N, .int .u8 r_1.1.D], .string ⟨⟨r_42⟩⟩, .bool (eqs r_42 ([49, 50, 46, 53] : List UInt8)), .bool (eqs r_42 ([49, 50, 46, 53] : List UInt8)), .bool (eqs r_42 ([49, 50, 46, 53] : List UInt8)), .bool r_43, .bool r_43, .bool r_43, .bool r_44, .bool r_44, .bool r_44, .bool r_45, .bool r_45, .bool r_45, .bool r_46, .bool r_46, .bool r_46, .bool r_47, .bool r_47, .bool r_47, .bool r_3.2, .bool r_3.2, .bool r_3.2, .agg #[.int .i64 r_3.1.N, .int .u8 r_3.1.D], .agg #[.int .i64 r_48.N, .int .u8 r_48.D], .bool c_14, .bool c_14, .bool c_14, .bool r_5.2, .bool (!r_5.2), .bool (!r_5.2), .bool (!r_5.2), .bool r_7.2, .bool r_7.2, .bool r_7.2, .agg #[.int .i64 r_7.1.N, .int .u8 r_7.1.D], .agg #[.int .i64 r_49.N, .int .u8 r_49.D], .bool c_15, .bool c_15, .bool c_15, .bool r_9.2, .bool (!r_9.2), .bool (!r_9.2), .bool (!r_9.2), .bool r_11.2, .bool r_11.2, .bool r_11.2, .int .u16 r_11.1, .bool (eqi r_11.1 65524), .bool (eqi r_11.1 65524), .bool (eqi r_11.1 65524), .bool r_13.2, .bool (!r_13.2), .bool (!r_13.2), .bool (!r_13.2), undef, .bool false, .bool false, undef, undef, undef, .bool false] : List Value).getD i undef), by kernel_rfl, hL, hB, hm⟩
                                    · have hm := ite_f hm hc_71
                                      refine wx_take (v := .bool r_14.2) (wg (c := (!r_13.2)) (want := true) (by kernel_rfl) (not_f hc_71) rfl) (fun w' hS => run_move (v := .bool r_14.2) (by kernel_rfl)) ?_
                                      refine wx_take (v := .bool r_14.2) (by kernel_rfl) (fun w' hS => run_pick_t (v := .bool r_14.2) (tr2 (c := (!r_13.2)) (by kernel_rfl) (not_f hc_71)) (by kernel_rfl)) ?_
                                      refine wx_take (v := .bool r_14.2) (by kernel_rfl) (fun w' hS => run_move (v := .bool r_14.2) (by kernel_rfl)) ?_
                                      rcases Bool.eq_false_or_eq_true r_14.2 with hc_72 | hc_72
                                      · have hm := ite_t hm hc_72
                                        refine wx_take (v := .agg #[.int .i64 r_14.1.N, .int .u8 r_14.1.D]) (wg (c := r_14.2) (want := true) (by kernel_rfl) hc_72 rfl) (fun w' hS => run_load_boxn (j := 0) (vs := [.int .i64 r_14.1.N, .int .u8 r_14.1.D]) Tryd.underlying23 rfl sz_23 (by kernel_rfl) (h_26b.step hS nilN) (by kernel_rfl) rfl) ?_
                                        obtain ⟨r_50, h_77, hm⟩ := bind_e hm
                                        refine wx_op (wg (c := r_14.2) (want := true) (by kernel_rfl) hc_72 rfl) (fun _ => ow_enter (run_callf (vs := [.string ⟨⟨([45, 49, 46, 50] : List UInt8)⟩⟩]) Tryd.func34 nm_34 (by kernel_rfl) (by kernel_rfl)) (f34_ok (p0_0 := ([45, 49, 46, 50] : List UInt8)) fuel _ w_64 hL.lt  h_77) ?_)
                                        intro vR w_65 hR
                                        obtain ⟨rfl, hBe⟩ := hR
                                        have hS := Stp.call hL (Fz.of_below hBe [])
                                        replace hZ := hZ.trans (hS.hf.sub nilM)
                                        refine ⟨hZ, ?_⟩
                                        replace h_3 := hS.box h_3 nilN
                                        replace h_7 := hS.box h_7 nilN
                                        replace h_11 := hS.box h_11 nilN
                                        replace h_15 := hS.box h_15 nilN
                                        replace h_19 := hS.box h_19 nilN
                                        replace h_26 := hS.box h_26 nilN
                                        replace hB := hS.below hL hB
                                        replace hL := hS.hL
                                        obtain ⟨c_16, h_78, hm⟩ := bind_e hm
                                        refine wx_take (v := .bool c_16) (wg (c := r_14.2) (want := true) (by kernel_rfl) hc_72 rfl) (fun w' hS => by rw [← Option.some.inj h_78]; exact run_eq_agg (r := ((eqi r_14.1.N r_50.N) && ((eqi r_14.1.D r_50.D) && true))) (by kernel_rfl) (by kernel_rfl) eg_23 eq_23) ?_
                                        refine wx_take (v := .bool c_16) (by kernel_rfl) (fun w' hS => run_pick_t (v := .bool c_16) (tr2 (c := r_14.2) (by kernel_rfl) hc_72) (by kernel_rfl)) ?_
                                        refine wx_take (v := .bool c_16) (by kernel_rfl) (fun w' hS => run_assign (v := .bool c_16) (by kernel_rfl)) ?_
                                        refine wx_nil ?_
                                        have hS : Stp w0.heap.size _ [] F [] w_65 _ := Stp.pick hL [] rfl (by decide)
                                        replace hB := hS.below hL hB
                                        replace hL := hS.hL
                                        exact then_c ⟨c_16, (fun i => ([.bool r_1.2, .bool r_1.2, .agg #[.int .i64 r_1.1.N, .int .u8 r_1.1.D], .agg #[.int .i64 125, .int .u8 1], .bool c_13, .bool c_13, .bool c_13, .agg #[.int .i64 r_1.1.N, .int .u8 r_1.1.D], .string ⟨⟨r_42⟩⟩, .bool (eqs r_42 ([49, 50, 46, 53] : List UInt8)), .bool (eqs r_42 ([49, 50, 46, 53] : List UInt8)), .bool (eqs r_42 ([49, 50, 46, 53] : List UInt8)), .bool r_43, .bool r_43, .bool r_43, .bool r_44, .bool r_44, .bool r_44, .bool r_45, .bool r_45, .bool r_45, .bool r_46, .bool r_46, .bool r_46, .bool r_47, .bool r_47, .bool r_47, .bool r_3.2, .bool r_3.2, .bool r_3.2, .agg #[.int .i64 r_3.1.N, .int .u8 r_3.1.D], .agg #[.int .i64 r_48.N, .int .u8 r_48.D], .bool c_14, .bool c_14, .bool c_14, .bool r_5.2, .bool (!r_5.2), .bool (!r_5.2), .bool (!r_5.2), .bool r_7.2, .bool r_7.2, .bool r_7.2, .agg #[.int .i64 r_7.1.N, .int .u8 r_7.1.D], .agg #[.int .i64 r_49.N, .int .u8 r_49.D], .bool c_15, .bool c_15, .bool c_15, .bool r_9.2, .bool (!r_9.2), .bool (!r_9.2), .bool (!r_9.2), .bool r_11.2, .bool r_11.2, .bool r_11.2, .int .u16 r_11.1, .bool (eqi r_11.1 65524), .bool (eqi r_11.1 65524), .bool (eqi r_11.1 65524), .bool r_13.2, .bool (!r_13.2), .bool (!r_13.2), .bool (!r_13.2), .bool r_14.2, .bool r_14.2, .bool r_14.2, .agg #[.int .i64 r_14.1.N, .int .u8 r_14.1.D], .agg #[.int .i64 r_50.N, .int .u8 r_50.D], .bool c_16, .bool c_16] : List Value).getD i undef), by kernel_rfl, hL, hB, hm⟩
                                      · have hm := ite_f hm hc_72
                                        refine wx_take_not0 (wg (c := r_14.2) (want := true) (by kernel_rfl) hc_72 rfl) (by kernel_rfl) ?_
                                        refine wx_not0 (wg (c := r_14.2) (want := true) (by kernel_rfl) hc_72 rfl) (by kernel_rfl) ?_
                                        refine wx_take_not0 (wg (c := r_14.2) (want := true) (by kernel_rfl) hc_72 rfl) (by kernel_rfl) ?_
                                        refine wx_take (v := .bool false) (by kernel_rfl) (fun w' hS => run_pick_f (v := .bool false) (tr2 (c := r_14.2) (by kernel_rfl) hc_72) (by kernel_rfl)) ?_
                                        refine wx_take (v := .bool false) (by kernel_rfl) (fun w' hS => run_assign (v := .bool false) (by kernel_rfl)) ?_
                                        refine wx_nil ?_
                                        have hS : Stp w0.heap.size _ [] F [] w_64 _ := Stp.pick hL [] rfl (by decide)
                                        replace hB := hS.below hL hB
                                        replace hL := hS.hL
                                        exact then_c ⟨false, (fun i => ([.bool r_1.2, .bool r_1.2, .agg #[.int .i64 r_1.1.N, .int .u8 r_1.1.D], .agg #[.int .i64 125, .int .u8 1], .bool c_13, .bool c_13, .bool c_13, .agg #[.int .i64 r_1.1.N, .int .u8 r_1.1.D], .string ⟨⟨r_42⟩⟩, .bool (eqs r_42 ([49, 50, 46, 53] : List UInt8)), .bool (eqs r_42 ([49, 50, 46, 53] : List UInt8)), .bool (eqs r_42 ([49, 50, 46, 53] : List UInt8)), .bool r_43, .bool r_43, .bool r_43, .bool r_44, .bool r_44, .bool r_44, .bool r_45, .bool r_45, .bool r_45, .bool r_46, .bool r_46, .bool r_46, .bool r_47, .bool r_47, .bool r_47, .bool r_3.2, .bool r_3.2, .bool r_3.2, .agg #[.int .i64 r_3.1.N, .int .u8 r_3.1.D], .agg #[.int .i64 r_48.N, .int .u8 r_48.D], .bool c_14, .bool c_14, .bool c_14, .bool r_5.2, .bool (!r_5.2), .bool (!r_5.2), .bool (!r_5.2), .bool r_7.2, .bool r_7.2, .bool r_7.2, .agg #[.int .i64 r_7.1.N, .int .u8 r_7.1.D], .agg #[.int .i64 r_49.N, .int .u8 r_49.D], .bool c_15, .bool c_15, .bool c_15, .bool r_9.2, .bool (!r_9.2), .bool (!r_9.2), .bool (!r_9.2), .bool r_11.2, .bool r_11.2, .bool r_11.2, .int .u16 r_11.1, .bool (eqi r_11.1 65524), .bool (eqi r_11.1 65524), .bool (eqi r_11.1 65524), .bool r_13.2, .bool (!r_13.2), .bool (!r_13.2), .bool (!r_13.2), .bool r_14.2, .bool r_14.2, .bool r_14.2, undef, undef, undef, .bool false] : List Value).getD i undef), by kernel_rfl, hL, hB, hm⟩
                                  · have hm := ite_f hm hc_70
                                    refine wx_take_not0 (wg (c := (eqi r_11.1 65524)) (want := true) (by kernel_rfl) hc_70 rfl) (by kernel_rfl) ?_
                                    refine wx_take_not0 (wg (c := (eqi r_11.1 65524)) (want := true) (by kernel_rfl) hc_70 rfl) (by kernel_rfl) ?_
                                    refine wx_take (v := .bool false) (by kernel_rfl) (fun w' hS => run_pick_f (v := .bool false) (tr2 (c := (eqi r_11.1 65524)) (by kernel_rfl) hc_70) (by kernel_rfl)) ?_
                                    refine wx_take (v := .bool false) (by kernel_rfl) (fun w' hS => run_move (v := .bool false) (by kernel_rfl)) ?_
                                    refine wx_norm [.bool false, .pointer (some ⟨g_1, 0, none⟩), .bool r_1.2, .pointer (some ⟨g_2, 0, none⟩), .bool r_3.2, .pointer (some ⟨g_3, 0, none⟩), .bool r_5.2, .pointer (some ⟨g_4, 0, none⟩), .bool r_7.2, .pointer (some ⟨g_5, 0, none⟩), .bool r_9.2, .int .u16 r_11.1, .bool r_11.2, .int .u16 r_13.1, .bool r_13.2, .pointer (some ⟨g_6, 0, none⟩), .bool r_14.2, .tuple #[.agg #[.int .i64 r_1.1.N, .int .u8 r_1.1.D], .bool r_1.2], .tuple #[.agg #[.int .i64 r_1.1.N, .int .u8 r_1.1.D], .bool r_1.2], .agg #[.int .i64 r_1.1.N, .int .u8 r_1.1.D], .bool r_1.2, .tuple #[.agg #[.int .i64 r_3.1.N, .int .u8 r_3.1.D], .bool r_3.2], .agg #[.int .i64 r_2.N, .int .u8 r_2.D], .tuple #[.agg #[.int .i64 r_3.1.N, .int .u8 r_3.1.D], .bool r_3.2], .agg #[.int .i64 r_3.1.N, .int .u8 r_3.1.D], .bool r_3.2, .tuple #[.agg #[.int .i64 r_5.1.N, .int .u8 r_5.1.D], .bool r_5.2], .agg #[.int .i64 r_4.N, .int .u8 r_4.D], .tuple #[.agg #[.int .i64 r_5.1.N, .int .u8 r_5.1.D], .bool r_5.2], .agg #[.int .i64 r_5.1.N, .int .u8 r_5.1.D], .bool r_5.2, .tuple #[.agg #[.int .i64 r_7.1.N, .int .u8 r_7.1.D], .bool r_7.2], .agg #[.int .i64 r_6.N, .int .u8 r_6.D], .tuple #[.agg #[.int .i64 r_7.1.N, .int .u8 r_7.1.D], .bool r_7.2], .agg #[.int .i64 r_7.1.N, .int .u8 r_7.1.D], .bool r_7.2, .tuple #[.agg #[.int .i64 r_9.1.N, .int .u8 r_9.1.D], .bool r_9.2], .agg #[.int .i64 r_8.N, .int .u8 r_8.D], .tuple #[.agg #[.int .i64 r_9.1.N, .int .u8 r_9.1.D], .bool r_9.2], .agg #[.int .i64 r_9.1.N, .int .u8 r_9.1.D], .bool r_9.2, .tuple #[.int .u16 r_11.1, .bool r_11.2], .agg #[.int .i64 r_10.N, .int .u8 r_10.D], .tuple #[.int .u16 r_11.1, .bool r_11.2], .int .u16 r_11.1, .bool r_11.2, .tuple #[.int .u16 r_13.1, .bool r_13.2], .agg #[.int .i64 r_12.N, .int .u8 r_12.D], .tuple #[.int .u16 r_13.1, .bool r_13.2], .int .u16 r_13.1, .bool r_13.2, .tuple #[.agg #[.int .i64 r_14.1.N, .int .u8 r_14.1.D], .bool r_14.2], .tuple #[.agg #[.int .i64 r_14.1.N, .int .u8 r_14.1.D], .bool r_14.2], .agg #[.int .i64 r_14.1.N, .int .u8 r_14.1.D], .bool r_14.2, .bool r_1.2, .bool r_1.2, .agg #[.int .i64 r_1.1.N, .int .u8 r_1.1.D], .agg #[.int .i64 125, .int .u8 1], .bool c_13, .bool c_13, .bool c_13, .agg #[.int .i64 r_1.1.N, .int .u8 r_1.1.D], .string ⟨⟨r_42⟩⟩, .bool (eqs r_42 ([49, 50, 46, 53] : List UInt8)), .bool (eqs r_42 ([49, 50, 46, 53] : List UInt8)), .bool (eqs r_42 ([49, 50, 46, 53] : List UInt8)), .bool r_43, .bool r_43, .bool r_43, .bool r_44, .bool r_44, .bool r_44, .bool r_45, .bool r_45, .bool r_45, .bool r_46, .bool r_46, .bool r_46, .bool r_47, .bool r_47, .bool r_47, .bool r_3.2, .bool r_3.2, .bool r_3.2, .agg #[.int .i64 r_3.1.N, .int .u8 r_3.1.D], .agg #[.int .i64 r_48.N, .int .u8 r_48.D], .bool c_14, .bool c_14, .bool c_14, .bool r_5.2, .bool (!r_5.2), .bool (!r_5.2), .bool (!r_5.2), .bool r_7.2, .bool r_7.2, .bool r_7.2, .agg #[.int .i64 r_7.1.N, .int .u8 r_7.1.D], .agg #[.int .i64 r_49.N, .int .u8 r_49.D], .bool c_15, .bool c_15, .bool c_15, .bool r_9.2, .bool (!r_9.2), .bool (!r_9.2), .bool (!r_9.2), .bool r_11.2, .bool r_11.2, .bool r_11.2, .int .u16 r_11.1, .bool (eqi r_11.1 65524), .bool (eqi r_11.1 65524), .bool (eqi r_11.1 65524), undef, undef, .bool false, .bool false, undef, undef, undef, undef, undef, undef, undef] (by kernel_rfl) ?_
                                    refine wx_take_not0 (by kernel_rfl) (by kernel_rfl) ?_
                                    refine wx_take (v := .bool false) (by kernel_rfl) (fun w' hS => run_pick_f (v := .bool false) (by kernel_rfl) (by kernel_rfl)) ?_
                                    refine wx_take (v := .bool false) (by kernel_rfl) (fun w' hS => run_move (v := .bool false) (by kernel_rfl)) ?_
                                    refine wx_take_not0 (by kernel_rfl) (by kernel_rfl) ?_
                                    refine wx_not0 (by kernel_rfl) (by kernel_rfl) ?_
                                    refine wx_take_not0 (by kernel_rfl) (by kernel_rfl) ?_
                                    refine wx_take (v := .bool false) (by kernel_rfl) (fun w' hS => run_pick_f (v := .bool false) (by kernel_rfl) (by kernel_rfl)) ?_
                                    refine wx_take (v := .bool false) (by kernel_rfl) (fun w' hS => run_assign (v := .bool false) (by kernel_rfl)) ?_
                                    refine wx_nil ?_
                                    have hS : Stp w0.heap.size _ [] F [] w_64 _ := Stp.pick hL [] rfl (by decide)
                                    replace hB := hS.below hL hB
                                    replace hL := hS.hL
                                    exact then_c ⟨false, (fun i => ([.bool r_1.2, .bool r_1.2, .agg #[.int .i64 r_1.1.N, .int .u8 r_1.1.D], .agg #[.int .i64 125, .int .u8 1], .bool c_13, .bool c_13, .bool c_13, .agg #[.int .i64 r_1.1.N, .int .u8 r_1.1.D], .string ⟨⟨r_42⟩⟩, .bool (eqs r_42 ([49, 50, 46, 53] : List UInt8)), .bool (eqs r_42 ([49, 50, 46, 53] : List UInt8)), .bool (eqs r_42 ([49, 50, 46, 53] : List UInt8)), .bool r_43, .bool r_43, .bool r_43, .bool r_44, .bool r_44, .bool r_44, .bool r_45, .bool r_45, .bool r_45, .bool r_46, .bool r_46, .bool r_46, .bool r_47, .bool r_47, .bool r_47, .bool r_3.2, .bool r_3.2, .bool r_3.2, .agg #[.int .i64 r_3.1.N, .int .u8 r_3.1.D], .agg #[.int .i64 r_48.N, .int .u8 r_48.D], .bool c_14, .bool c_14, .bool c_14, .bool r_5.2, .bool (!r_5.2), .bool (!r_5.2), .bool (!r_5.2), .bool r_7.2, .bool r_7.2, .bool r_7.2, .agg #[.int .i64 r_7.1.N, .int .u8 r_7.1.D], .agg #[.int .i64 r_49.N, .int .u8 r_49.D], .bool c_15, .bool c_15, .bool c_15, .bool r_9.2, .bool (!r_9.2), .bool (!r_9.2), .bool (!r_9.2), .bool r_11.2, .bool r_11.2, .bool r_11.2, .int .u16 r_11.1, .bool (eqi r_11.1 65524), .bool (eqi r_11.1 65524), .bool (eqi r_11.1 65524), undef, undef, .bool false, .bool false, undef, .bool false, .bool false, undef, undef, undef, .bool false] : List Value).getD i undef), by kernel_rfl, hL, hB, hm⟩
                                · have hm := ite_f hm hc_69
                                  refine wx_take_not0 (wg (c := r_11.2) (want := true) (by kernel_rfl) hc_69 rfl) (by kernel_rfl) ?_
                                  refine wx_take_not0 (wg (c := r_11.2) (want := true) (by kernel_rfl) hc_69 rfl) (by kernel_rfl) ?_
                                  refine wx_take (v := .bool false) (by kernel_rfl) (fun w' hS => run_pick_f (v := .bool false) (tr2 (c := r_11.2) (by kernel_rfl) hc_69) (by kernel_rfl)) ?_
                                  refine wx_take (v := .bool false) (by kernel_rfl) (fun w' hS => run_move (v := .bool false) (by kernel_rfl)) ?_
                                  refine wx_take_not0 (by kernel_rfl) (by kernel_rfl) ?_
                                  refine wx_take_not0 (by kernel_rfl) (by kernel_rfl) ?_
                                  refine wx_take (v := .bool false) (by kernel_rfl) (fun w' hS => run_pick_f (v := .bool false) (by kernel_rfl) (by kernel_rfl)) ?_
                                  refine wx_take (v := .bool false) (by kernel_rfl) (fun w' hS => run_move (v := .bool false) (by kernel_rfl)) ?_
                                  refine wx_take_not0 (by kernel_rfl) (by kernel_rfl) ?_
                                  refine wx_take (v := .bool false) (by kernel_rfl) (fun w' hS => run_pick_f (v := .bool false) (by kernel_rfl) (by kernel_rfl)) ?_
                                  refine wx_take (v := .bool false) (by kernel_rfl) (fun w' hS => run_move (v := .bool false) (by kernel_rfl)) ?_
                                  refine wx_norm [.bool false, .pointer (some ⟨g_1, 0, none⟩), .bool r_1.2, .pointer (some ⟨g_2, 0, none⟩), .bool r_3.2, .pointer (some ⟨g_3, 0, none⟩), .bool r_5.2, .pointer (some ⟨g_4, 0, none⟩), .bool r_7.2, .pointer (some ⟨g_5, 0, none⟩), .bool r_9.2, .int .u16 r_11.1, .bool r_11.2, .int .u16 r_13.1, .bool r_13.2, .pointer (some ⟨g_6, 0, none⟩), .bool r_14.2, .tuple #[.agg #[.int .i64 r_1.1.N, .int .u8 r_1.1.D], .bool r_1.2], .tuple #[.agg #[.int .i64 r_1.1.N, .int .u8 r_1.1.D], .bool r_1.2], .agg #[.int .i64 r_1.1.N, .int .u8 r_1.1.D], .bool r_1.2, .tuple #[.agg #[.int .i64 r_3.1.N, .int .u8 r_3.1.D], .bool r_3.2], .agg #[.int .i64 r_2.N, .int .u8 r_2.D], .tuple #[.agg #[.int .i64 r_3.1.N, .int .u8 r_3.1.D], .bool r_3.2], .agg #[.int .i64 r_3.1.N, .int .u8 r_3.1.D], .bool r_3.2, .tuple #[.agg #[.int .i64 r_5.1.N, .int .u8 r_5.1.D], .bool r_5.2], .agg #[.int .i64 r_4.N, .int .u8 r_4.D], .tuple #[.agg #[.int .i64 r_5.1.N, .int .u8 r_5.1.D], .bool r_5.2], .agg #[.int .i64 r_5.1.N, .int .u8 r_5.1.D], .bool r_5.2, .tuple #[.agg #[.int .i64 r_7.1.N, .int .u8 r_7.1.D], .bool r_7.2], .agg #[.int .i64 r_6.N, .int .u8 r_6.D], .tuple #[.agg #[.int .i64 r_7.1.N, .int .u8 r_7.1.D], .bool r_7.2], .agg #[.int .i64 r_7.1.N, .int .u8 r_7.1.D], .bool r_7.2, .tuple #[.agg #[.int .i64 r_9.1.N, .int .u8 r_9.1.D], .bool r_9.2], .agg #[.int .i64 r_8.N, .int .u8 r_8.D], .tuple #[.agg #[.int .i64 r_9.1.N, .int .u8 r_9.1.D], .bool r_9.2], .agg #[.int .i64 r_9.1.N, .int .u8 r_9.1.D], .bool r_9.2, .tuple #[.int .u16 r_11.1, .bool r_11.2], .agg #[.int .i64 r_10.N, .int .u8 r_10.D], .tuple #[.int .u16 r_11.1, .bool r_11.2], .int .u16 r_11.1, .bool r_11.2, .tuple #[.int .u16 r_13.1, .bool r_13.2], .agg #[.int .i64 r_12.N, .int .u8 r_12.D], .tuple #[.int .u16 r_13.1, .bool r_13.2], .int .u16 r_13.1, .bool r_13.2, .tuple #[.agg #[.int .i64 r_14.1.N, .int .u8 r_14.1.D], .bool r_14.2], .tuple #[.agg #[.int .i64 r_14.1.N, .int .u8 r_14.1.D], .bool r_14.2], .agg #[.int .i64 r_14.1.N, .int .u8 r_14.1.D], .bool r_14.2, .bool r_1.2, .bool r_1.2, .agg #[.int .i64 r_1.1.N, .int .u8 r_1.1.D], .agg #[.int .i64 125, .int .u8 1], .bool c_13, .bool c_13, .bool c_13, .agg #[.int .i64 r_1.1.N, .int .u8 r_1.1.D], .string ⟨⟨r_42⟩⟩, .bool (eqs r_42 ([49, 50, 46, 53] : List UInt8)), .bool (eqs r_42 ([49, 50, 46, 53] : List UInt8)), .bool (eqs r_42 ([49, 50, 46, 53] : List UInt8)), .bool r_43, .bool r_43, .bool r_43, .bool r_44, .bool r_44, .bool r_44, .bool r_45, .bool r_45, .bool r_45, .bool r_46, .bool r_46, .bool r_46, .bool r_47, .bool r_47, .bool r_47, .bool r_3.2, .bool r_3.2, .bool r_3.2, .agg #[.int .i64 r_3.1.N, .int .u8 r_3.1.D], .agg #[.int .i64 r_48.N, .int .u8 r_48.D], .bool c_14, .bool c_14, .bool c_14, .bool r_5.2, .bool (!r_5.2), .bool (!r_5.2), .bool (!r_5.2), .bool r_7.2, .bool r_7.2, .bool r_7.2, .agg #[.int .i64 r_7.1.N, .int .u8 r_7.1.D], .agg #[.int .i64 r_49.N, .int .u8 r_49.D], .bool c_15, .bool c_15, .bool c_15, .bool r_9.2, .bool (!r_9.2), .bool (!r_9.2), .bool (!r_9.2), .bool r_11.2, .bool r_11.2, .bool r_11.2, undef, undef, .bool false, .bool false, undef, undef, .bool false, .bool false, undef, .bool false, .bool false, undef, undef, undef, undef] (by kernel_rfl) ?_
                                  refine wx_take_not0 (by kernel_rfl) (by kernel_rfl) ?_
                                  refine wx_not0 (by kernel_rfl) (by kernel_rfl) ?_
                                  refine wx_take_not0 (by kernel_rfl) (by kernel_rfl) ?_
                                  refine wx_take (v := .bool false) (by kernel_rfl) (fun w' hS => run_pick_f (v := .bool false) (by kernel_rfl) (by kernel_rfl)) ?_
                                  refine wx_take (v := .bool false) (by kernel_rfl) (fun w' hS => run_assign (v := .bool false) (by kernel_rfl)) ?_
                                  refine wx_nil ?_
                                  have hS : Stp w0.heap.size _ [] F [] w_64 _ := Stp.pick hL [] rfl (by decide)
                                  replace hB := hS.below hL hB
                                  replace hL := hS.hL
                                  exact then_c ⟨false, (fun i => ([.bool r_1.2, .bool r_1.2, .agg #[.int .i64 r_1.1.N, .int .u8 r_1.1.D], .agg #[.int .i64 125, .int .u8 1], .bool c_13, .bool c_13, .bool c_13, .agg #[.int .i64 r_1.1.N, .int .u8 r_1.1.D], .string ⟨⟨r_42⟩⟩, .bool (eqs r_42 ([49, 50, 46, 53] : List UInt8)), .bool (eqs r_42 ([49, 50, 46, 53] : List UInt8)), .bool (eqs r_42 ([49, 50, 46, 53] : List UInt8)), .bool r_43, .bool r_43, .bool r_43, .bool r_44, .bool r_44, .bool r_44, .bool r_45, .bool r_45, .bool r_45, .bool r_46, .bool r_46, .bool r_46, .bool r_47, .bool r_47, .bool r_47, .bool r_3.2, .bool r_3.2, .bool r_3.2, .agg #[.int .i64 r_3.1.N, .int .u8 r_3.1.D], .agg #[.int .i64 r_48.N, .int .u8 r_48.D], .bool c_14, .bool c_14, .bool c_14, .bool r_5.2, .bool (!r_5.2), .bool (!r_5.2), .bool (!r_5.2), .bool r_7.2, .bool r_7.2, .bool r_7.2, .agg #[.int .i64 r_7.1.N, .int .u8 r_7.1.D], .agg #[.int .i64 r_49.N, .int .u8 r_49.D], .bool c_15, .bool c_15, .bool c_15, .bool r_9.2, .bool (!r_9.2), .bool (!r_9.2), .bool (!r_9.2), .bool r_11.2, .bool r_11.2, .bool r_11.2, undef, undef, .bool false, .bool false, undef, undef, .bool false, .bool false, undef, .bool false, .bool false, undef, undef, undef, .bool false] : List Value).getD i undef), by kernel_rfl, hL, hB, hm⟩
                            · have hm := ite_f hm hc_67
                              refine wx_take_not0 (wg (c := c_15) (want := true) (by kernel_rfl) hc_67 rfl) (by kernel_rfl) ?_
                              refine wx_take_not0 (wg (c := c_15) (want := true) (by kernel_rfl) hc_67 rfl) (by kernel_rfl) ?_
                              refine wx_take (v := .bool false) (by kernel_rfl) (fun w' hS => run_pick_f (v := .bool false) (tr2 (c := c_15) (by kernel_rfl) hc_67) (by kernel_rfl)) ?_
                              refine wx_take (v := .bool false) (by kernel_rfl) (fun w' hS => run_move (v := .bool false) (by kernel_rfl)) ?_
                              refine wx_norm [.bool false, .pointer (some ⟨g_1, 0, none⟩), .bool r_1.2, .pointer (some ⟨g_2, 0, none⟩), .bool r_3.2, .pointer (some ⟨g_3, 0, none⟩), .bool r_5.2, .pointer (some ⟨g_4, 0, none⟩), .bool r_7.2, .pointer (some ⟨g_5, 0, none⟩), .bool r_9.2, .int .u16 r_11.1, .bool r_11.2, .int .u16 r_13.1, .bool r_13.2, .pointer (some ⟨g_6, 0, none⟩), .bool r_14.2, .tuple #[.agg #[.int .i64 r_1.1.N, .int .u8 r_1.1.D], .bool r_1.2], .tuple #[.agg #[.int .i64 r_1.1.N, .int .u8 r_1.1.D], .bool r_1.2], .agg #[.int .i64 r_1.1.N, .int .u8 r_1.1.D], .bool r_1.2, .tuple #[.agg #[.int .i64 r_3.1.N, .int .u8 r_3.1.D], .bool r_3.2], .agg #[.int .i64 r_2.N, .int .u8 r_2.D], .tuple #[.agg #[.int .i64 r_3.1.N, .int .u8 r_3.1.D], .bool r_3.2], .agg #[.int .i64 r_3.1.N, .int .u8 r_3.1.D], .bool r_3.2, .tuple #[.agg #[.int .i64 r_5.1.N, .int .u8 r_5.1.D], .bool r_5.2], .agg #[.int .i64 r_4.N, .int .u8 r_4.D], .tuple #[.agg #[.int .i64 r_5.1.N, .int .u8 r_5.1.D], .bool r_5.2], .agg #[.int .i64 r_5.1.N, .int .u8 r_5.1.D], .bool r_5.2, .tuple #[.agg #[.int .i64 r_7.1.N, .int .u8 r_7.1.D], .bool r_7.2], .agg #[.int .i64 r_6.N, .int .u8 r_6.D], .tuple #[.agg #[.int .i64 r_7.1.N, .int .u8 r_7.1.D], .bool r_7.2], .agg #[.int .i64 r_7.1.N, .int .u8 r_7.1.D], .bool r_7.2, .tuple #[.agg #[.int .i64 r_9.1.N, .int .u8 r_9.1.D], .bool r_9.2], .agg #[.int .i64 r_8.N, .int .u8 r_8.D], .tuple #[.agg #[.int .i64 r_9.1.N, .int .u8 r_9.1.D], .bool r_9.2], .agg #[.int .i64 r_9.1.N, .int .u8 r_9.1.D], .bool r_9.2, .tuple #[.int .u16 r_11.1, .bool r_11.2], .agg #[.int .i64 r_10.N, .int .u8 r_10.D], .tuple #[.int .u16 r_11.1, .bool r_11.2], .int .u16 r_11.1, .bool r_11.2, .tuple #[.int .u16 r_13.1, .bool r_13.2], .agg #[.int .i64 r_12.N, .int .u8 r_12.D], .tuple #[.int .u16 r_13.1, .bool r_13.2], .int .u16 r_13.1, .bool r_13.2, .tuple #[.agg #[.int .i64 r_14.1.N, .int .u8 r_14.1.D], .bool r_14.2], .tuple #[.agg #[.int .i64 r_14.1.N, .int .u8 r_14.1.D], .bool r_14.2], .agg #[.int .i64 r_14.1.N, .int .u8 r_14.1.D], .bool r_14.2, .bool r_1.2, .bool r_1.2, .agg #[.int .i64 r_1.1.N, .int .u8 r_1.1.D], .agg #[.int .i64 125, .int .u8 1], .bool c_13, .bool c_13, .bool c_13, .agg #[.int .i64 r_1.1.N, .int .u8 r_1.1.D], .string ⟨⟨r_42⟩⟩, .bool (eqs r_42 ([49, 50, 46, 53] : List UInt8)), .bool (eqs r_42 ([49, 50, 46, 53] : List UInt8)), .bool (eqs r_42 ([49, 50, 46, 53] : List UInt8)), .bool r_43, .bool r_43, .bool r_43, .bool r_44, .bool r_44, .bool r_44, .bool r_45, .bool r_45, .bool r_45, .bool r_46, .bool r_46, .bool r_46, .bool r_47, .bool r_47, .bool r_47, .bool r_3.2, .bool r_3.2, .bool r_3.2, .agg #[.int .i64 r_3.1.N, .int .u8 r_3.1.D], .agg #[.int .i64 r_48.N, .int .u8 r_48.D], .bool c_14, .bool c_14, .bool c_14, .bool r_5.2, .bool (!r_5.2), .bool (!r_5.2), .bool (!r_5.2), .bool r_7.2, .bool r_7.2, .bool r_7.2, .agg #[.int .i64 r_7.1.N, .int .u8 r_7.1.D], .agg #[.int .i64 r_49.N, .int .u8 r_49.D], .bool c_15, .bool c_15, .bool c_15, undef, undef, .bool false, .bool false, undef, undef, undef, undef, undef, undef, undef, undef, undef, undef, undef, undef, undef, undef, undef, undef, undef, undef] (by kernel_rfl) ?_
                              refine wx_take_not0 (by kernel_rfl) (by kernel_rfl) ?_
                              refine wx_take (v := .bool false) (by kernel_rfl) (fun w' hS => run_pick_f (v := .bool false) (by kernel_rfl) (by kernel_rfl)) ?_
                              refine wx_take (v := .bool false) (by kernel_rfl) (fun w' hS => run_move (v := .bool false) (by kernel_rfl)) ?_
                              refine wx_take_not0 (by kernel_rfl) (by kernel_rfl) ?_
                              refine wx_take_not0 (by kernel_rfl) (by kernel_rfl) ?_
                              refine wx_take (v := .bool false) (by kernel_rfl) (fun w' hS => run_pick_f (v := .bool false) (by kernel_rfl) (by kernel_rfl)) ?_
                              refine wx_take (v := .bool false) (by kernel_rfl) (fun w' hS => run_move (v := .bool false) (by kernel_rfl)) ?_
                              refine wx_take_not0 (by kernel_rfl) (by kernel_rfl) ?_
                              refine wx_take_not0 (by kernel_rfl) (by kernel_rfl) ?_
                              refine wx_take (v := .bool false) (by kernel_rfl) (fun w' hS => run_pick_f (v := .bool false) (by kernel_rfl) (by kernel_rfl)) ?_
                              refine wx_take (v := .bool false) (by kernel_rfl) (fun w' hS => run_move (v := .bool false) (by kernel_rfl)) ?_
                              refine wx_take_not0 (by kernel_rfl) (by kernel_rfl) ?_
                              refine wx_take (v := .bool false) (by kernel_rfl) (fun w' hS => run_pick_f (v := .bool false) (by kernel_rfl) (by kernel_rfl)) ?_
                              refine wx_take (v := .bool false) (by kernel_rfl) (fun w' hS => run_move (v := .bool false) (by kernel_rfl)) ?_
                              refine wx_take_not0 (by kernel_rfl) (by kernel_rfl) ?_
                              refine wx_not0 (by kernel_rfl) (by kernel_rfl) ?_
                              refine wx_take_not0 (by kernel_rfl) (by kernel_rfl) ?_
                              refine wx_take (v := .bool false) (by kernel_rfl) (fun w' hS => run_pick_f (v := .bool false) (by kernel_rfl) (by kernel_rfl)) ?_
                              refine wx_take (v := .bool false) (by kernel_rfl) (fun w' hS => run_assign (v := .bool false) (by kernel_rfl)) ?_
                              refine wx_nil ?_
                              have hS : Stp w0.heap.size _ [] F [] w_64 _ := Stp.pick hL [] rfl (by decide)
                              replace hB := hS.below hL hB
                              replace hL := hS.hL
                              exact then_c ⟨false, (fun i => ([.bool r_1.2, .bool r_1.2, .agg #[.int .i64 r_1.1.N, .int .u8 r_1.1.D], .agg #[.int .i64 125, .int .u8 1], .bool c_13, .bool c_13, .bool c_13, .agg #[.int .i64 r_1.1.N, .int .u8 r_1.1.D], .string ⟨⟨r_42⟩⟩, .bool (eqs r_42 ([49, 50, 46, 53] : List UInt8)), .bool (eqs r_42 ([49, 50, 46, 53] : List UInt8)), .bool (eqs r_42 ([49, 50, 46, 53] : List UInt8)), .bool r_43, .bool r_43, .bool r_43, .bool r_44, .bool r_44, .bool r_44, .bool r_45, .bool r_45, .bool r_45, .bool r_46, .bool r_46, .bool r_46, .bool r_47, .bool r_47, .bool r_47, .bool r_3.2, .bool r_3.2, .bool r_3.2, .agg #[.int .i64 r_3.1.N, .int .u8 r_3.1.D], .agg #[.int .i64 r_48.N, .int .u8 r_48.D], .bool c_14, .bool c_14, .bool c_14, .bool r_5.2, .bool (!r_5.2), .bool (!r_5.2), .bool (!r_5.2), .bool r_7.2, .bool r_7.2, .bool r_7.2, .agg #[.int .i64 r_7.1.N, .int .u8 r_7.1.D], .agg #[.int .i64 r_49.N, .int .u8 r_49.D], .bool c_15, .bool c_15, .bool c_15, undef, undef, .bool false, .bool false, undef, .bool false, .bool false, undef, undef, .bool false, .bool false, undef, undef, .bool false, .bool false, undef, .bool false, .bool false, undef, undef, undef, .bool false] : List Value).getD i undef), by kernel_rfl, hL, hB, hm⟩
                          · have hm := ite_f hm hc_66
                            refine wx_take_not0 (wg (c := r_7.2) (want := true) (by kernel_rfl) hc_66 rfl) (by kernel_rfl) ?_
                            refine wx_not0 (wg (c := r_7.2) (want := true) (by kernel_rfl) hc_66 rfl) (by kernel_rfl) ?_
                            refine wx_take_not0 (wg (c := r_7.2) (want := true) (by kernel_rfl) hc_66 rfl) (by kernel_rfl) ?_
                            refine wx_take (v := .bool false) (by kernel_rfl) (fun w' hS => run_pick_f (v := .bool false) (tr2 (c := r_7.2) (by kernel_rfl) hc_66) (by kernel_rfl)) ?_
                            refine wx_take (v := .bool false) (by kernel_rfl) (fun w' hS => run_move (v := .bool false) (by kernel_rfl)) ?_
                            refine wx_take_not0 (by kernel_rfl) (by kernel_rfl) ?_
                            refine wx_take_not0 (by kernel_rfl) (by kernel_rfl) ?_
                            refine wx_take (v := .bool false) (by kernel_rfl) (fun w' hS => run_pick_f (v := .bool false) (by kernel_rfl) (by kernel_rfl)) ?_
                            refine wx_take (v := .bool false) (by kernel_rfl) (fun w' hS => run_move (v := .bool false) (by kernel_rfl)) ?_
                            refine wx_take_not0 (by kernel_rfl) (by kernel_rfl) ?_
                            refine wx_take (v := .bool false) (by kernel_rfl) (fun w' hS => run_pick_f (v := .bool false) (by kernel_rfl) (by kernel_rfl)) ?_
                            refine wx_take (v := .bool false) (by kernel_rfl) (fun w' hS => run_move (v := .bool false) (by kernel_rfl)) ?_
                            refine wx_norm [.bool false, .pointer (some ⟨g_1, 0, none⟩), .bool r_1.2, .pointer (some ⟨g_2, 0, none⟩), .bool r_3.2, .pointer (some ⟨g_3, 0, none⟩), .bool r_5.2, .pointer (some ⟨g_4, 0, none⟩), .bool r_7.2, .pointer (some ⟨g_5, 0, none⟩), .bool r_9.2, .int .u16 r_11.1, .bool r_11.2, .int .u16 r_13.1, .bool r_13.2, .pointer (some ⟨g_6, 0, none⟩), .bool r_14.2, .tuple #[.agg #[.int .i64 r_1.1.N, .int .u8 r_1.1.D], .bool r_1.2], .tuple #[.agg #[.int .i64 r_1.1.N, .int .u8 r_1.1.D], .bool r_1.2], .agg #[.int .i64 r_1.1.N, .int .u8 r_1.1.D], .bool r_1.2, .tuple #[.agg #[.int .i64 r_3.1.N, .int .u8 r_3.1.D], .bool r_3.2], .agg #[.int .i64 r_2.N, .int .u8 r_2.D], .tuple #[.agg #[.int .i64 r_3.1.N, .int .u8 r_3.1.D], .bool r_3.2], .agg #[.int .i64 r_3.1.N, .int .u8 r_3.1.D], .bool r_3.2, .tuple #[.agg #[.int .i64 r_5.1.N, .int .u8 r_5.1.D], .bool r_5.2], .agg #[.int .i64 r_4.N, .int .u8 r_4.D], .tuple #[.agg #[.int .i64 r_5.1.N, .int .u8 r_5.1.D], .bool r_5.2], .agg #[.int .i64 r_5.1.N, .int .u8 r_5.1.D], .bool r_5.2, .tuple #[.agg #[.int .i64 r_7.1.N, .int .u8 r_7.1.D], .bool r_7.2], .agg #[.int .i64 r_6.N, .int .u8 r_6.D], .tuple #[.agg #[.int .i64 r_7.1.N, .int .u8 r_7.1.D], .bool r_7.2], .agg #[.int .i64 r_7.1.N, .int .u8 r_7.1.D], .bool r_7.2, .tuple #[.agg #[.int .i64 r_9.1.N, .int .u8 r_9.1.D], .bool r_9.2], .agg #[.int .i64 r_8.N, .int .u8 r_8.D], .tuple #[.agg #[.int .i64 r_9.1.N, .int .u8 r_9.1.D], .bool r_9.2], .agg #[.int .i64 r_9.1.N, .int .u8 r_9.1.D], .bool r_9.2, .tuple #[.int .u16 r_11.1, .bool r_11.2], .agg #[.int .i64 r_10.N, .int .u8 r_10.D], .tuple #[.int .u16 r_11.1, .bool r_11.2], .int .u16 r_11.1, .bool r_11.2, .tuple #[.int .u16 r_13.1, .bool r_13.2], .agg #[.int .i64 r_12.N, .int .u8 r_12.D], .tuple #[.int .u16 r_13.1, .bool r_13.2], .int .u16 r_13.1, .bool r_13.2, .tuple #[.agg #[.int .i64 r_14.1.N, .int .u8 r_14.1.D], .bool r_14.2], .tuple #[.agg #[.int .i64 r_14.1.N, .int .u8 r_14.1.D], .bool r_14.2], .agg #[.int .i64 r_14.1.N, .int .u8 r_14.1.D], .bool r_14.2, .bool r_1.2, .bool r_1.2, .agg #[.int .i64 r_1.1.N, .int .u8 r_1.1.D], .agg #[.int .i64 125, .int .u8 1], .bool c_13, .bool c_13, .bool c_13, .agg #[.int .i64 r_1.1.N, .int .u8 r_1.1.D], .string ⟨⟨r_42⟩⟩, .bool (eqs r_42 ([49, 50, 46, 53] : List UInt8)), .bool (eqs r_42 ([49, 50, 46, 53] : List UInt8)), .bool (eqs r_42 ([49, 50, 46, 53] : List UInt8)), .bool r_43, .bool r_43, .bool r_43, .bool r_44, .bool r_44, .bool r_44, .bool r_45, .bool r_45, .bool r_45, .bool r_46, .bool r_46, .bool r_46, .bool r_47, .bool r_47, .bool r_47, .bool r_3.2, .bool r_3.2, .bool r_3.2, .agg #[.int .i64 r_3.1.N, .int .u8 r_3.1.D], .agg #[.int .i64 r_48.N, .int .u8 r_48.D], .bool c_14, .bool c_14, .bool c_14, .bool r_5.2, .bool (!r_5.2), .bool (!r_5.2), .bool (!r_5.2), .bool r_7.2, .bool r_7.2, .bool r_7.2, undef, undef, undef, .bool false, .bool false, undef, undef, .bool false, .bool false, undef, .bool false, .bool false, undef, undef, undef, undef, undef, undef, undef, undef, undef, undef, undef, undef, undef, undef, undef] (by kernel_rfl) ?_
                            refine wx_take_not0 (by kernel_rfl) (by kernel_rfl) ?_
                            refine wx_take_not0 (by kernel_rfl) (by kernel_rfl) ?_
                            refine wx_take (v := .bool false) (by kernel_rfl) (fun w' hS => run_pick_f (v := .bool false) (by kernel_rfl) (by kernel_rfl)) ?_
                            refine wx_take (v := .bool false) (by kernel_rfl) (fun w' hS => run_move (v := .bool false) (by kernel_rfl)) ?_
                            refine wx_take_not0 (by kernel_rfl) (by kernel_rfl) ?_
                            refine wx_take_not0 (by kernel_rfl) (by kernel_rfl) ?_
                            refine wx_take (v := .bool false) (by kernel_rfl) (fun w' hS => run_pick_f (v := .bool false) (by kernel_rfl) (by kernel_rfl)) ?_
                            refine wx_take (v := .bool false) (by kernel_rfl) (fun w' hS => run_move (v := .bool false) (by kernel_rfl)) ?_
                            refine wx_take_not0 (by kernel_rfl) (by kernel_rfl) ?_
                            refine wx_take (v := .bool false) (by kernel_rfl) (fun w' hS => run_pick_f (v := .bool false) (by kernel_rfl) (by kernel_rfl)) ?_
                            refine wx_take (v := .bool false) (by kernel_rfl) (fun w' hS => run_move (v := .bool false) (by kernel_rfl)) ?_
                            refine wx_take_not0 (by kernel_rfl) (by kernel_rfl) ?_
                            refine wx_not0 (by kernel_rfl) (by kernel_rfl) ?_
                            refine wx_take_not0 (by kernel_rfl) (by kernel_rfl) ?_
                            refine wx_take (v := .bool false) (by kernel_rfl) (fun w' hS => run_pick_f (v := .bool false) (by kernel_rfl) (by kernel_rfl)) ?_
                            refine wx_take (v := .bool false) (by kernel_rfl) (fun w' hS => run_assign (v := .bool false) (by kernel_rfl)) ?_
                            refine wx_nil ?_
                            have hS : Stp w0.heap.size _ [] F [] w_63 _ := Stp.pick hL [] rfl (by decide)
                            replace hB := hS.below hL hB
                            replace hL := hS.hL
                            exact then_c ⟨false, (fun i => ([.bool r_1.2, .bool r_1.2, .agg #[.int .i64 r_1.1.N, .int .u8 r_1.1.D], .agg #[.int .i64 125, .int .u8 1], .bool c_13, .bool c_13, .bool c_13, .agg #[.int .i64 r_1.1.N, .int .u8 r_1.1.D], .string ⟨⟨r_42⟩⟩, .bool (eqs r_42 ([49, 50, 46, 53] : List UInt8)), .bool (eqs r_42 ([49, 50, 46, 53] : List UInt8)), .bool (eqs r_42 ([49, 50, 46, 53] : List UInt8)), .bool r_43, .bool r_43, .bool r_43, .bool r_44, .bool r_44, .bool r_44, .bool r_45, .bool r_45, .bool r_45, .bool r_46, .bool r_46, .bool r_46, .bool r_47, .bool r_47, .bool r_47, .bool r_3.2, .bool r_3.2, .bool r_3.2, .agg #[.int .i64 r_3.1.N, .int .u8 r_3.1.D], .agg #[.int .i64 r_48.N, .int .u8 r_48.D], .bool c_14, .bool c_14, .bool c_14, .bool r_5.2, .bool (!r_5.2), .bool (!r_5.2), .bool (!r_5.2), .bool r_7.2, .bool r_7.2, .bool r_7.2, undef, undef, undef, .bool false, .bool false, undef, undef, .bool false, .bool false, undef, .bool false, .bool false, undef, undef, .bool false, .bool false, undef, undef, .bool false, .bool false, undef, .bool false, .bool false, undef, undef, undef, .bool false] : List Value).getD i undef), by kernel_rfl, hL, hB, hm⟩
                      · have hm := ite_f hm hc_64
                        refine wx_take_not0 (wg (c := c_14) (want := true) (by kernel_rfl) hc_64 rfl) (by kernel_rfl) ?_
                        refine wx_take_not0 (wg (c := c_14) (want := true) (by kernel_rfl) hc_64 rfl) (by kernel_rfl) ?_
                        refine wx_take (v := .bool false) (by kernel_rfl) (fun w' hS => run_pick_f (v := .bool false) (tr2 (c := c_14) (by kernel_rfl) hc_64) (by kernel_rfl)) ?_
                        refine wx_take (v := .bool false) (by kernel_rfl) (fun w' hS => run_move (v := .bool false) (by kernel_rfl)) ?_
                        refine wx_norm [.bool false, .pointer (some ⟨g_1, 0, none⟩), .bool r_1.2, .pointer (some ⟨g_2, 0, none⟩), .bool r_3.2, .pointer (some ⟨g_3, 0, none⟩), .bool r_5.2, .pointer (some ⟨g_4, 0, none⟩), .bool r_7.2, .pointer (some ⟨g_5, 0, none⟩), .bool r_9.2, .int .u16 r_11.1, .bool r_11.2, .int .u16 r_13.1, .bool r_13.2, .pointer (some ⟨g_6, 0, none⟩), .bool r_14.2, .tuple #[.agg #[.int .i64 r_1.1.N, .int .u8 r_1.1.D], .bool r_1.2], .tuple #[.agg #[.int .i64 r_1.1.N, .int .u8 r_1.1.D], .bool r_1.2], .agg #[.int .i64 r_1.1.N, .int .u8 r_1.1.D], .bool r_1.2, .tuple #[.agg #[.int .i64 r_3.1.N, .int .u8 r_3.1.D], .bool r_3.2], .agg #[.int .i64 r_2.N, .int .u8 r_2.D], .tuple #[.agg #[.int .i64 r_3.1.N, .int .u8 r_3.1.D], .bool r_3.2], .agg #[.int .i64 r_3.1.N, .int .u8 r_3.1.D], .bool r_3.2, .tuple #[.agg #[.int .i64 r_5.1.N, .int .u8 r_5.1.D], .bool r_5.2], .agg #[.int .i64 r_4.N, .int .u8 r_4.D], .tuple #[.agg #[.int .i64 r_5.1.N, .int .u8 r_5.1.D], .bool r_5.2], .agg #[.int .i64 r_5.1.N, .int .u8 r_5.1.D], .bool r_5.2, .tuple #[.agg #[.int .i64 r_7.1.N, .int .u8 r_7.1.D], .bool r_7.2], .agg #[.int .i64 r_6.N, .int .u8 r_6.D], .tuple #[.agg #[.int .i64 r_7.1.N, .int .u8 r_7.1.D], .bool r_7.2], .agg #[.int .i64 r_7.1.N, .int .u8 r_7.1.D], .bool r_7.2, .tuple #[.agg #[.int .i64 r_9.1.N, .int .u8 r_9.1.D], .bool r_9.2], .agg #[.int .i64 r_8.N, .int .u8 r_8.D], .tuple #[.agg #[.int .i64 r_9.1.N, .int .u8 r_9.1.D], .bool r_9.2], .agg #[.int .i64 r_9.1.N, .int .u8 r_9.1.D], .bool r_9.2, .tuple #[.int .u16 r_11.1, .bool r_11.2], .agg #[.int .i64 r_10.N, .int .u8 r_10.D], .tuple #[.int .u16 r_11.1, .bool r_11.2], .int .u16 r_11.1, .bool r_11.2, .tuple #[.int .u16 r_13.1, .bool r_13.2], .agg #[.int .i64 r_12.N, .int .u8 r_12.D], .tuple #[.int .u16 r_13.1, .bool r_13.2], .int .u16 r_13.1, .bool r_13.2, .tuple #[.agg #[.int .i64 r_14.1.N, .int .u8 r_14.1.D], .bool r_14.2], .tuple #[.agg #[.int .i64 r_14.1.N, .int .u8 r_14.1.D], .bool r_14.2], .agg #[.int .i64 r_14.1.N, .int .u8 r_14.1.D], .bool r_14.2, .bool r_1.2, .bool r_1.2, .agg #[.int .i64 r_1.1.N, .int .u8 r_1.1.D], .agg #[.int .i64 125, .int .u8 1], .bool c_13, .bool c_13, .bool c_13, .agg #[.int .i64 r_1.1.N, .int .u8 r_1.1.D], .string ⟨⟨r_42⟩⟩, .bool (eqs r_42 ([49, 50, 46, 53] : List UInt8)), .bool (eqs r_42 ([49, 50, 46, 53] : List UInt8)), .bool (eqs r_42 ([49, 50, 46, 53] : List UInt8)), .bool r_43, .bool r_43, .bool r_43, .bool r_44, .bool r_44, .bool r_44, .bool r_45, .bool r_45, .bool r_45, .bool r_46, .bool r_46, .bool r_46, .bool r_47, .bool r_47, .bool r_47, .bool r_3.2, .bool r_3.2, .bool r_3.2, .agg #[.int .i64 r_3.1.N, .int .u8 r_3.1.D], .agg #[.int .i64 r_48.N, .int .u8 r_48.D], .bool c_14, .bool c_14, .bool c_14, undef, undef, .bool false, .bool false, undef, undef, undef, undef, undef, undef, undef, undef, undef, undef, undef, undef, undef, undef, undef, undef, undef, undef, undef, undef, undef, undef, undef, undef, undef, undef, undef, undef, undef, undef] (by kernel_rfl) ?_
                        refine wx_take_not0 (by kernel_rfl) (by kernel_rfl) ?_
                        refine wx_take (v := .bool false) (by kernel_rfl) (fun w' hS => run_pick_f (v := .bool false) (by kernel_rfl) (by kernel_rfl)) ?_
                        refine wx_take (v := .bool false) (by kernel_rfl) (fun w' hS => run_move (v := .bool false) (by kernel_rfl)) ?_
                        refine wx_take_not0 (by kernel_rfl) (by kernel_rfl) ?_
                        refine wx_not0 (by kernel_rfl) (by kernel_rfl) ?_
                        refine wx_take_not0 (by kernel_rfl) (by kernel_rfl) ?_
                        refine wx_take (v := .bool false) (by kernel_rfl) (fun w' hS => run_pick_f (v := .bool false) (by kernel_rfl) (by kernel_rfl)) ?_
                        refine wx_take (v := .bool false) (by kernel_rfl) (fun w' hS => run_move (v := .bool false) (by kernel_rfl)) ?_
                        refine wx_take_not0 (by kernel_rfl) (by kernel_rfl) ?_
                        refine wx_take_not0 (by kernel_rfl) (by kernel_rfl) ?_
                        refine wx_take (v := .bool false) (by kernel_rfl) (fun w' hS => run_pick_f (v := .bool false) (by kernel_rfl) (by kernel_rfl)) ?_
                        refine wx_take (v := .bool false) (by kernel_rfl) (fun w' hS => run_move (v := .bool false) (by kernel_rfl)) ?_
                        refine wx_take_not0 (by kernel_rfl) (by kernel_rfl) ?_
                        refine wx_take (v := .bool false) (by kernel_rfl) (fun w' hS => run_pick_f (v := .bool false) (by kernel_rfl) (by kernel_rfl)) ?_
                        refine wx_take (v := .bool false) (by kernel_rfl) (fun w' hS => run_move (v := .bool false) (by kernel_rfl)) ?_
                        refine wx_take_not0 (by kernel_rfl) (by kernel_rfl) ?_
                        refine wx_take_not0 (by kernel_rfl) (by kernel_rfl) ?_
                        refine wx_take (v := .bool false) (by kernel_rfl) (fun w' hS => run_pick_f (v := .bool false) (by kernel_rfl) (by kernel_rfl)) ?_
                        refine wx_take (v := .bool false) (by kernel_rfl) (fun w' hS => run_move (v := .bool false) (by kernel_rfl)) ?_
                        refine wx_norm [.bool false, .pointer (some ⟨g_1, 0, none⟩), .bool r_1.2, .pointer (some ⟨g_2, 0, none⟩), .bool r_3.2, .pointer (some ⟨g_3, 0, none⟩), .bool r_5.2, .pointer (some ⟨g_4, 0, none⟩), .bool r_7.2, .pointer (some ⟨g_5, 0, none⟩), .bool r_9.2, .int .u16 r_11.1, .bool r_11.2, .int .u16 r_13.1, .bool r_13.2, .pointer (some ⟨g_6, 0, none⟩), .bool r_14.2, .tuple #[.agg #[.int .i64 r_1.1.N, .int .u8 r_1.1.D], .bool r_1.2], .tuple #[.agg #[.int .i64 r_1.1.N, .int .u8 r_1.1.D], .bool r_1.2], .agg #[.int .i64 r_1.1.N, .int .u8 r_1.1.D], .bool r_1.2, .tuple #[.agg #[.int .i64 r_3.1.N, .int .u8 r_3.1.D], .bool r_3.2], .agg #[.int .i64 r_2.N, .int .u8 r_2.D], .tuple #[.agg #[.int .i64 r_3.1.N, .int .u8 r_3.1.D], .bool r_3.2], .agg #[.int .i64 r_3.1.N, .int .u8 r_3.1.D], .bool r_3.2, .tuple #[.agg #[.int .i64 r_5.1.N, .int .u8 r_5.1.D], .bool r_5.2], .agg #[.int .i64 r_4.N, .int .u8 r_4.D], .tuple #[.agg #[.int .i64 r_5.1.N, .int .u8 r_5.1.D], .bool r_5.2], .agg #[.int .i64 r_5.1.N, .int .u8 r_5.1.D], .bool r_5.2, .tuple #[.agg #[.int .i64 r_7.1.N, .int .u8 r_7.1.D], .bool r_7.2], .agg #[.int .i64 r_6.N, .int .u8 r_6.D], .tuple #[.agg #[.int .i64 r_7.1.N, .int .u8 r_7.1.D], .bool r_7.2], .agg #[.int .i64 r_7.1.N, .int .u8 r_7.1.D], .bool r_7.2, .tuple #[.agg #[.int .i64 r_9.1.N, .int .u8 r_9.1.D], .bool r_9.2], .agg #[.int .i64 r_8.N, .int .u8 r_8.D], .tuple #[.agg #[.int .i64 r_9.1.N, .int .u8 r_9.1.D], .bool r_9.2], .agg #[.int .i64 r_9.1.N, .int .u8 r_9.1.D], .bool r_9.2, .tuple #[.int .u16 r_11.1, .bool r_11.2], .agg #[.int .i64 r_10.N, .int .u8 r_10.D], .tuple #[.int .u16 r_11.1, .bool r_11.2], .int .u16 r_11.1, .bool r_11.2, .tuple #[.int .u16 r_13.1, .bool r_13.2], .agg #[.int .i64 r_12.N, .int .u8 r_12.D], .tuple #[.int .u16 r_13.1, .bool r_13.2], .int .u16 r_13.1, .bool r_13.2, .tuple #[.agg #[.int .i64 r_14.1.N, .int .u8 r_14.1.D], .bool r_14.2], .tuple #[.agg #[.int .i64 r_14.1.N, .int .u8 r_14.1.D], .bool r_14.2], .agg #[.int .i64 r_14.1.N, .int .u8 r_14.1.D], .bool r_14.2, .bool r_1.2, .bool r_1.2, .agg #[.int .i64 r_1.1.N, .int .u8 r_1.1.D], .agg #[.int .i64 125, .int .u8 1], .bool c_13, .bool c_13, .bool c_13, .agg #[.int .i64 r_1.1.N, .int .u8 r_1.1.D], .string ⟨⟨r_42⟩⟩, .bool (eqs r_42 ([49, 50, 46, 53] : List UInt8)), .bool (eqs r_42 ([49, 50, 46, 53] : List UInt8)), .bool (eqs r_42 ([49, 50, 46, 53] : List UInt8)), .bool r_43, .bool r_43, .bool r_43, .bool r_44, .bool r_44, .bool r_44, .bool r_45, .bool r_45, .bool r_45, .bool r_46, .bool r_46, .bool r_46, .bool r_47, .bool r_47, .bool r_47, .bool r_3.2, .bool r_3.2, .bool r_3.2, .agg #[.int .i64 r_3.1.N, .int .u8 r_3.1.D], .agg #[.int .i64 r_48.N, .int .u8 r_48.D], .bool c_14, .bool c_14, .bool c_14, undef, undef, .bool false, .bool false, undef, .bool false, .bool false, undef, undef, undef, .bool false, .bool false, undef, undef, .bool false, .bool false, undef, .bool false, .bool false, undef, undef, .bool false, .bool false, undef, undef, undef, undef, undef, undef, undef, undef, undef, undef, undef] (by kernel_rfl) ?_
                        refine wx_take_not0 (by kernel_rfl) (by kernel_rfl) ?_
                        refine wx_take_not0 (by kernel_rfl) (by kernel_rfl) ?_
                        refine wx_take (v := .bool false) (by kernel_rfl) (fun w' hS => run_pick_f (v := .bool false) (by kernel_rfl) (by kernel_rfl)) ?_
                        refine wx_take (v := .bool false) (by kernel_rfl) (fun w' hS => run_move (v := .bool false) (by kernel_rfl)) ?_
                        refine wx_take_not0 (by kernel_rfl) (by kernel_rfl) ?_
                        refine wx_take (v := .bool false) (by kernel_rfl) (fun w' hS => run_pick_f (v := .bool false) (by kernel_rfl) (by kernel_rfl)) ?_
                        refine wx_take (v := .bool false) (by kernel_rfl) (fun w' hS => run_move (v := .bool false) (by kernel_rfl)) ?_
                        refine wx_take_not0 (by kernel_rfl) (by kernel_rfl) ?_
                        refine wx_not0 (by kernel_rfl) (by kernel_rfl) ?_
                        refine wx_take_not0 (by kernel_rfl) (by kernel_rfl) ?_
                        refine wx_take (v := .bool false) (by kernel_rfl) (fun w' hS => run_pick_f (v := .bool false) (by kernel_rfl) (by kernel_rfl)) ?_
                        refine wx_take (v := .bool false) (by kernel_rfl) (fun w' hS => run_assign (v := .bool false) (by kernel_rfl)) ?_
                        refine wx_nil ?_
                        have hS : Stp w0.heap.size _ [] F [] w_63 _ := Stp.pick hL [] rfl (by decide)
                        replace hB := hS.below hL hB
                        replace hL := hS.hL
                        exact then_c ⟨false, (fun i => ([.bool r_1.2, .bool r_1.2, .agg #[.int .i64 r_1.1.N, .int .u8 r_1.1.D], .agg #[.int .i64 125, .int .u8 1], .bool c_13, .bool c_13, .bool c_13, .agg #[.int .i64 r_1.1.N, .int .u8 r_1.1.D], .string ⟨⟨r_42⟩⟩, .bool (eqs r_42 ([49, 50, 46, 53] : List UInt8)), .bool (eqs r_42 ([49, 50, 46, 53] : List UInt8)), .bool (eqs r_42 ([49, 50, 46, 53] : List UInt8)), .bool r_43, .bool r_43, .bool r_43, .bool r_44, .bool r_44, .bool r_44, .bool r_45, .bool r_45, .bool r_45, .bool r_46, .bool r_46, .bool r_46, .bool r_47, .bool r_47, .bool r_47, .bool r_3.2, .bool r_3.2, .bool r_3.2, .agg #[.int .i64 r_3.1.N, .int .u8 r_3.1.D], .agg #[.int .i64 r_48.N, .int .u8 r_48.D], .bool c_14, .bool c_14, .bool c_14, undef, undef, .bool false, .bool false, undef, .bool false, .bool false, undef, undef, undef, .bool false, .bool false, undef, undef, .bool false, .bool false, undef, .bool false, .bool false, undef, undef, .bool false, .bool false, undef, undef, .bool false, .bool false, undef, .bool false, .bool false, undef, undef, undef, .bool false] : List Value).getD i undef), by kernel_rfl, hL, hB, hm⟩
                    · have hm := ite_f hm hc_63
                      refine wx_take_not0 (wg (c := r_3.2) (want := true) (by kernel_rfl) hc_63 rfl) (by kernel_rfl) ?_
                      refine wx_not0 (wg (c := r_3.2) (want := true) (by kernel_rfl) hc_63 rfl) (by kernel_rfl) ?_
                      refine wx_take_not0 (wg (c := r_3.2) (want := true) (by kernel_rfl) hc_63 rfl) (by kernel_rfl) ?_
                      refine wx_take (v := .bool false) (by kernel_rfl) (fun w' hS => run_pick_f (v := .bool false) (tr2 (c := r_3.2) (by kernel_rfl) hc_63) (by kernel_rfl)) ?_
                      refine wx_take (v := .bool false) (by kernel_rfl) (fun w' hS => run_move (v := .bool false) (by kernel_rfl)) ?_
                      refine wx_take_not0 (by kernel_rfl) (by kernel_rfl) ?_
                      refine wx_take_not0 (by kernel_rfl) (by kernel_rfl) ?_
                      refine wx_take (v := .bool false) (by kernel_rfl) (fun w' hS => run_pick_f (v := .bool false) (by kernel_rfl) (by kernel_rfl)) ?_
                      refine wx_take (v := .bool false) (by kernel_rfl) (fun w' hS => run_move (v := .bool false) (by kernel_rfl)) ?_
                      refine wx_take_not0 (by kernel_rfl) (by kernel_rfl) ?_
                      refine wx_take (v := .bool false) (by kernel_rfl) (fun w' hS => run_pick_f (v := .bool false) (by kernel_rfl) (by kernel_rfl)) ?_
                      refine wx_take (v := .bool false) (by kernel_rfl) (fun w' hS => run_move (v := .bool false) (by kernel_rfl)) ?_
                      refine wx_norm [.bool false, .pointer (some ⟨g_1, 0, none⟩), .bool r_1.2, .pointer (some ⟨g_2, 0, none⟩), .bool r_3.2, .pointer (some ⟨g_3, 0, none⟩), .bool r_5.2, .pointer (some ⟨g_4, 0, none⟩), .bool r_7.2, .pointer (some ⟨g_5, 0, none⟩), .bool r_9.2, .int .u16 r_11.1, .bool r_11.2, .int .u16 r_13.1, .bool r_13.2, .pointer (some ⟨g_6, 0, none⟩), .bool r_14.2, .tuple #[.agg #[.int .i64 r_1.1.N, .int .u8 r_1.1.D], .bool r_1.2], .tuple #[.agg #[.int .i64 r_1.1.N, .int .u8 r_1.1.D], .bool r_1.2], .agg #[.int .i64 r_1.1.N, .int .u8 r_1.1.D], .bool r_1.2, .tuple #[.agg #[.int .i64 r_3.1.N, .int .u8 r_3.1.D], .bool r_3.2], .agg #[.int .i64 r_2.N, .int .u8 r_2.D], .tuple #[.agg #[.int .i64 r_3.1.N, .int .u8 r_3.1.D], .bool r_3.2], .agg #[.int .i64 r_3.1.N, .int .u8 r_3.1.D], .bool r_3.2, .tuple #[.agg #[.int .i64 r_5.1.N, .int .u8 r_5.1.D], .bool r_5.2], .agg #[.int .i64 r_4.N, .int .u8 r_4.D], .tuple #[.agg #[.int .i64 r_5.1.N, .int .u8 r_5.1.D], .bool r_5.2], .agg #[.int .i64 r_5.1.N, .int .u8 r_5.1.D], .bool r_5.2, .tuple #[.agg #[.int .i64 r_7.1.N, .int .u8 r_7.1.D], .bool r_7.2], .agg #[.int .i64 r_6.N, .int .u8 r_6.D], .tuple #[.agg #[.int .i64 r_7.1.N, .int .u8 r_7.1.D], .bool r_7.2], .agg #[.int .i64 r_7.1.N, .int .u8 r_7.1.D], .bool r_7.2, .tuple #[.agg #[.int .i64 r_9.1.N, .int .u8 r_9.1.D], .bool r_9.2], .agg #[.int .i64 r_8.N, .int .u8 r_8.D], .tuple #[.agg #[.int .i64 r_9.1.N, .int .u8 r_9.1.D], .bool r_9.2], .agg #[.int .i64 r_9.1.N, .int .u8 r_9.1.D], .bool r_9.2, .tuple #[.int .u16 r_11.1, .bool r_11.2], .agg #[.int .i64 r_10.N, .int .u8 r_10.D], .tuple #[.int .u16 r_11.1, .bool r_11.2], .int .u16 r_11.1, .bool r_11.2, .tuple #[.int .u16 r_13.1, .bool r_13.2], .agg #[.int .i64 r_12.N, .int .u8 r_12.D], .tuple #[.int .u16 r_13.1, .bool r_13.2], .int .u16 r_13.1, .bool r_13.2, .tuple #[.agg #[.int .i64 r_14.1.N, .int .u8 r_14.1.D], .bool r_14.2], .tuple #[.agg #[.int .i64 r_14.1.N, .int .u8 r_14.1.D], .bool r_14.2], .agg #[.int .i64 r_14.1.N, .int .u8 r_14.1.D], .bool r_14.2, .bool r_1.2, .bool r_1.2, .agg #[.int .i64 r_1.1.N, .int .u8 r_1.1.D], .agg #[.int .i64 125, .int .u8 1], .bool c_13, .bool c_13, .bool c_13, .agg #[.int .i64 r_1.1.N, .int .u8 r_1.1.D], .string ⟨⟨r_42⟩⟩, .bool (eqs r_42 ([49, 50, 46, 53] : List UInt8)), .bool (eqs r_42 ([49, 50, 46, 53] : List UInt8)), .bool (eqs r_42 ([49, 50, 46, 53] : List UInt8)), .bool r_43, .bool r_43, .bool r_43, .bool r_44, .bool r_44, .bool r_44, .bool r_45, .bool r_45, .bool r_45, .bool r_46, .bool r_46, .bool r_46, .bool r_47, .bool r_47, .bool r_47, .bool r_3.2, .bool r_3.2, .bool r_3.2, undef, undef, undef, .bool false, .bool false, undef, undef, .bool false, .bool false, undef, .bool false, .bool false, undef, undef, undef, undef, undef, undef, undef, undef, undef, undef, undef, undef, undef, undef, undef, undef, undef, undef, undef, undef, undef, undef, undef, undef, undef, undef, undef] (by kernel_rfl) ?_
                      refine wx_take_not0 (by kernel_rfl) (by kernel_rfl) ?_
                      refine wx_not0 (by kernel_rfl) (by kernel_rfl) ?_
                      refine wx_take_not0 (by kernel_rfl) (by kernel_rfl) ?_
                      refine wx_take (v := .bool false) (by kernel_rfl) (fun w' hS => run_pick_f (v := .bool false) (by kernel_rfl) (by kernel_rfl)) ?_
                      refine wx_take (v := .bool false) (by kernel_rfl) (fun w' hS => run_move (v := .bool false) (by kernel_rfl)) ?_
                      refine wx_take_not0 (by kernel_rfl) (by kernel_rfl) ?_
                      refine wx_take_not0 (by kernel_rfl) (by kernel_rfl) ?_
                      refine wx_take (v := .bool false) (by kernel_rfl) (fun w' hS => run_pick_f (v := .bool false) (by kernel_rfl) (by kernel_rfl)) ?_
                      refine wx_take (v := .bool false) (by kernel_rfl) (fun w' hS => run_move (v := .bool false) (by kernel_rfl)) ?_
                      refine wx_take_not0 (by kernel_rfl) (by kernel_rfl) ?_
                      refine wx_take (v := .bool false) (by kernel_rfl) (fun w' hS => run_pick_f (v := .bool false) (by kernel_rfl) (by kernel_rfl)) ?_
                      refine wx_take (v := .bool false) (by kernel_rfl) (fun w' hS => run_move (v := .bool false) (by kernel_rfl)) ?_
                      refine wx_take_not0 (by kernel_rfl) (by kernel_rfl) ?_
                      refine wx_take_not0 (by kernel_rfl) (by kernel_rfl) ?_
                      refine wx_take (v := .bool false) (by kernel_rfl) (fun w' hS => run_pick_f (v := .bool false) (by kernel_rfl) (by kernel_rfl)) ?_
                      refine wx_take (v := .bool false) (by kernel_rfl) (fun w' hS => run_move (v := .bool false) (by kernel_rfl)) ?_
                      refine wx_take_not0 (by kernel_rfl) (by kernel_rfl) ?_
                      refine wx_take_not0 (by kernel_rfl) (by kernel_rfl) ?_
                      refine wx_take (v := .bool false) (by kernel_rfl) (fun w' hS => run_pick_f (v := .bool false) (by kernel_rfl) (by kernel_rfl)) ?_
                      refine wx_take (v := .bool false) (by kernel_rfl) (fun w' hS => run_move (v := .bool false) (by kernel_rfl)) ?_
                      refine wx_norm [.bool false, .pointer (some ⟨g_1, 0, none⟩), .bool r_1.2, .pointer (some ⟨g_2, 0, none⟩), .bool r_3.2, .pointer (some ⟨g_3, 0, none⟩), .bool r_5.2, .pointer (some ⟨g_4, 0, none⟩), .bool r_7.2, .pointer (some ⟨g_5, 0, none⟩), .bool r_9.2, .int .u16 r_11.1, .bool r_11.2, .int .u16 r_13.1, .bool r_13.2, .pointer (some ⟨g_6, 0, none⟩), .bool r_14.2, .tuple #[.agg #[.int .i64 r_1.1.N, .int .u8 r_1.1.D], .bool r_1.2], .tuple #[.agg #[.int .i64 r_1.1.N, .int .u8 r_1.1.D], .bool r_1.2], .agg #[.int .i64 r_1.1.N, .int .u8 r_1.1.D], .bool r_1.2, .tuple #[.agg #[.int .i64 r_3.1.N, .int .u8 r_3.1.D], .bool r_3.2], .agg #[.int .i64 r_2.N, .int .u8 r_2.D], .tuple #[.agg #[.int .i64 r_3.1.N, .int .u8 r_3.1.D], .bool r_3.2], .agg #[.int .i64 r_3.1.N, .int .u8 r_3.1.D], .bool r_3.2, .tuple #[.agg #[.int .i64 r_5.1.N, .int .u8 r_5.1.D], .bool r_5.2], .agg #[.int .i64 r_4.N, .int .u8 r_4.D], .tuple #[.agg #[.int .i64 r_5.1.N, .int .u8 r_5.1.D], .bool r_5.2], .agg #[.int .i64 r_5.1.N, .int .u8 r_5.1.D], .bool r_5.2, .tuple #[.agg #[.int .i64 r_7.1.N, .int .u8 r_7.1.D], .bool r_7.2], .agg #[.int .i64 r_6.N, .int .u8 r_6.D], .tuple #[.agg #[.int .i64 r_7.1.N, .int .u8 r_7.1.D], .bool r_7.2], .agg #[.int .i64 r_7.1.N, .int .u8 r_7.1.D], .bool r_7.2, .tuple #[.agg #[.int .i64 r_9.1.N, .int .u8 r_9.1.D], .bool r_9.2], .agg #[.int .i64 r_8.N, .int .u8 r_8.D], .tuple #[.agg #[.int .i64 r_9.1.N, .int .u8 r_9.1.D], .bool r_9.2], .agg #[.int .i64 r_9.1.N, .int .u8 r_9.1.D], .bool r_9.2, .tuple #[.int .u16 r_11.1, .bool r_11.2], .agg #[.int .i64 r_10.N, .int .u8 r_10.D], .tuple #[.int .u16 r_11.1, .bool r_11.2], .int .u16 r_11.1, .bool r_11.2, .tuple #[.int .u16 r_13.1, .bool r_13.2], .agg #[.int .i64 r_12.N, .int .u8 r_12.D], .tuple #[.int .u16 r_13.1, .bool r_13.2], .int .u16 r_13.1, .bool r_13.2, .tuple #[.agg #[.int .i64 r_14.1.N, .int .u8 r_14.1.D], .bool r_14.2], .tuple #[.agg #[.int .i64 r_14.1.N, .int .u8 r_14.1.D], .bool r_14.2], .agg #[.int .i64 r_14.1.N, .int .u8 r_14.1.D], .bool r_14.2, .bool r_1.2, .bool r_1.2, .agg #[.int .i64 r_1.1.N, .int .u8 r_1.1.D], .agg #[.int .i64 125, .int .u8 1], .bool c_13, .bool c_13, .bool c_13, .agg #[.int .i64 r_1.1.N, .int .u8 r_1.1.D], .string ⟨⟨r_42⟩⟩, .bool (eqs r_42 ([49, 50, 46, 53] : List UInt8)), .bool (eqs r_42 ([49, 50, 46, 53] : List UInt8)), .bool (eqs r_42 ([49, 50, 46, 53] : List UInt8)), .bool r_43, .bool r_43, .bool r_43, .bool r_44, .bool r_44, .bool r_44, .bool r_45, .bool r_45, .bool r_45, .bool r_46, .bool r_46, .bool r_46, .bool r_47, .bool r_47, .bool r_47, .bool r_3.2, .bool r_3.2, .bool r_3.2, undef, undef, undef, .bool false, .bool false, undef, undef, .bool false, .bool false, undef, .bool false, .bool false, undef, undef, undef, .bool false, .bool false, undef, undef, .bool false, .bool false, undef, .bool false, .bool false, undef, undef, .bool false, .bool false, undef, undef, .bool false, .bool false, undef, undef, undef, undef, undef, undef, undef] (by kernel_rfl) ?_
                      refine wx_take_not0 (by kernel_rfl) (by kernel_rfl) ?_
                      refine wx_take (v := .bool false) (by kernel_rfl) (fun w' hS => run_pick_f (v := .bool false) (by kernel_rfl) (by kernel_rfl)) ?_
                      refine wx_take (v := .bool false) (by kernel_rfl) (fun w' hS => run_move (v := .bool false) (by kernel_rfl)) ?_
                      refine wx_take_not0 (by kernel_rfl) (by kernel_rfl) ?_
                      refine wx_not0 (by kernel_rfl) (by kernel_rfl) ?_
                      refine wx_take_not0 (by kernel_rfl) (by kernel_rfl) ?_
                      refine wx_take (v := .bool false) (by kernel_rfl) (fun w' hS => run_pick_f (v := .bool false) (by kernel_rfl) (by kernel_rfl)) ?_
                      refine wx_take (v := .bool false) (by kernel_rfl) (fun w' hS => run_assign (v := .bool false) (by kernel_rfl)) ?_
                      refine wx_nil ?_
                      have hS : Stp w0.heap.size _ [] F [] w_62 _ := Stp.pick hL [] rfl (by decide)
                      replace hB := hS.below hL hB
                      replace hL := hS.hL
                      exact then_c ⟨false, (fun i => ([.bool r_1.2, .bool r_1.2, .agg #[.int .i64 r_1.1.N, .int .u8 r_1.1.D], .agg #[.int .i64 125, .int .u8 1], .bool c_13, .bool c_13, .bool c_13, .agg #[.int .i64 r_1.1.N, .int .u8 r_1.1.D], .string ⟨⟨r_42⟩⟩, .bool (eqs r_42 ([49, 50, 46, 53] : List UInt8)), .bool (eqs r_42 ([49, 50, 46, 53] : List UInt8)), .bool (eqs r_42 ([49, 50, 46, 53] : List UInt8)), .bool r_43, .bool r_43, .bool r_43, .bool r_44, .bool r_44, .bool r_44, .bool r_45, .bool r_45, .bool r_45, .bool r_46, .bool r_46, .bool r_46, .bool r_47, .bool r_47, .bool r_47, .bool r_3.2, .bool r_3.2, .bool r_3.2, undef, undef, undef, .bool false, .bool false, undef, undef, .bool false, .bool false, undef, .bool false, .bool false, undef, undef, undef, .bool false, .bool false, undef, undef, .bool false, .bool false, undef, .bool false, .bool false, undef, undef, .bool false, .bool false, undef, undef, .bool false, .bool false, undef, .bool false, .bool false, undef, undef, undef, .bool false] : List Value).getD i undef), by kernel_rfl, hL, hB, hm⟩
                  · have hm := ite_f hm hc_62
                    refine wx_take_not0 (wg (c := r_47) (want := true) (by kernel_rfl) hc_62 rfl) (by kernel_rfl) ?_
                    refine wx_take (v := .bool false) (by kernel_rfl) (fun w' hS => run_pick_f (v := .bool false) (tr2 (c := r_47) (by kernel_rfl) hc_62) (by kernel_rfl)) ?_
                    refine wx_take (v := .bool false) (by kernel_rfl) (fun w' hS => run_move (v := .bool false) (by kernel_rfl)) ?_
                    refine wx_take_not0 (by kernel_rfl) (by kernel_rfl) ?_
                    refine wx_not0 (by kernel_rfl) (by kernel_rfl) ?_
                    refine wx_take_not0 (by kernel_rfl) (by kernel_rfl) ?_
                    refine wx_take (v := .bool false) (by kernel_rfl) (fun w' hS => run_pick_f (v := .bool false) (by kernel_rfl) (by kernel_rfl)) ?_
                    refine wx_take (v := .bool false) (by kernel_rfl) (fun w' hS => run_move (v := .bool false) (by kernel_rfl)) ?_
                    refine wx_take_not0 (by kernel_rfl) (by kernel_rfl) ?_
                    refine wx_take_not0 (by kernel_rfl) (by kernel_rfl) ?_
                    refine wx_take (v := .bool false) (by kernel_rfl) (fun w' hS => run_pick_f (v := .bool false) (by kernel_rfl) (by kernel_rfl)) ?_
                    refine wx_take (v := .bool false) (by kernel_rfl) (fun w' hS => run_move (v := .bool false) (by kernel_rfl)) ?_
                    refine wx_take_not0 (by kernel_rfl) (by kernel_rfl) ?_
                    refine wx_take (v := .bool false) (by kernel_rfl) (fun w' hS => run_pick_f (v := .bool false) (by kernel_rfl) (by kernel_rfl)) ?_
                    refine wx_take (v := .bool false) (by kernel_rfl) (fun w' hS => run_move (v := .bool false) (by kernel_rfl)) ?_
                    refine wx_take_not0 (by kernel_rfl) (by kernel_rfl) ?_
                    refine wx_not0 (by kernel_rfl) (by kernel_rfl) ?_
                    refine wx_take_not0 (by kernel_rfl) (by kernel_rfl) ?_
                    refine wx_take (v := .bool false) (by kernel_rfl) (fun w' hS => run_pick_f (v := .bool false) (by kernel_rfl) (by kernel_rfl)) ?_
                    refine wx_take (v := .bool false) (by kernel_rfl) (fun w' hS => run_move (v := .bool false) (by kernel_rfl)) ?_
                    refine wx_norm [.bool false, .pointer (some ⟨g_1, 0, none⟩), .bool r_1.2, .pointer (some ⟨g_2, 0, none⟩), .bool r_3.2, .pointer (some ⟨g_3, 0, none⟩), .bool r_5.2, .pointer (some ⟨g_4, 0, none⟩), .bool r_7.2, .pointer (some ⟨g_5, 0, none⟩), .bool r_9.2, .int .u16 r_11.1, .bool r_11.2, .int .u16 r_13.1, .bool r_13.2, .pointer (some ⟨g_6, 0, none⟩), .bool r_14.2, .tuple #[.agg #[.int .i64 r_1.1.N, .int .u8 r_1.1.D], .bool r_1.2], .tuple #[.agg #[.int .i64 r_1.1.N, .int .u8 r_1.1.D], .bool r_1.2], .agg #[.int .i64 r_1.1.N, .int .u8 r_1.1.D], .bool r_1.2, .tuple #[.agg #[.int .i64 r_3.1.N, .int .u8 r_3.1.D], .bool r_3.2], .agg #[.int .i64 r_2.N, .int .u8 r_2.D], .tuple #[.agg #[.int .i64 r_3.1.N, .int .u8 r_3.1.D], .bool r_3.2], .agg #[.int .i64 r_3.1.N, .int .u8 r_3.1.D], .bool r_3.2, .tuple #[.agg #[.int .i64 r_5.1.N, .int .u8 r_5.1.D], .bool r_5.2], .agg #[.int .i64 r_4.N, .int .u8 r_4.D], .tuple #[.agg #[.int .i64 r_5.1.N, .int .u8 r_5.1.D], .bool r_5.2], .agg #[.int .i64 r_5.1.N, .int .u8 r_5.1.D], .bool r_5.2, .tuple #[.agg #[.int .i64 r_7.1.N, .int .u8 r_7.1.D], .bool r_7.2], .agg #[.int .i64 r_6.N, .int .u8 r_6.D], .tuple #[.agg #[.int .i64 r_7.1.N, .int .u8 r_7.1.D], .bool r_7.2], .agg #[.int .i64 r_7.1.N, .int .u8 r_7.1.D], .bool r_7.2, .tuple #[.agg #[.int .i64 r_9.1.N, .int .u8 r_9.1.D], .bool r_9.2], .agg #[.int .i64 r_8.N, .int .u8 r_8.D], .tuple #[.agg #[.int .i64 r_9.1.N, .int .u8 r_9.1.D], .bool r_9.2], .agg #[.int .i64 r_9.1.N, .int .u8 r_9.1.D], .bool r_9.2, .tuple #[.int .u16 r_11.1, .bool r_11.2], .agg #[.int .i64 r_10.N, .int .u8 r_10.D], .tuple #[.int .u16 r_11.1, .bool r_11.2], .int .u16 r_11.1, .bool r_11.2, .tuple #[.int .u16 r_13.1, .bool r_13.2], .agg #[.int .i64 r_12.N, .int .u8 r_12.D], .tuple #[.int .u16 r_13.1, .bool r_13.2], .int .u16 r_13.1, .bool r_13.2, .tuple #[.agg #[.int .i64 r_14.1.N, .int .u8 r_14.1.D], .bool r_14.2], .tuple #[.agg #[.int .i64 r_14.1.N, .int .u8 r_14.1.D], .bool r_14.2], .agg #[.int .i64 r_14.1.N, .int .u8 r_14.1.D], .bool r_14.2, .bool r_1.2, .bool r_1.2, .agg #[.int .i64 r_1.1.N, .int .u8 r_1.1.D], .agg #[.int .i64 125, .int .u8 1], .bool c_13, .bool c_13, .bool c_13, .agg #[.int .i64 r_1.1.N, .int .u8 r_1.1.D], .string ⟨⟨r_42⟩⟩, .bool (eqs r_42 ([49, 50, 46, 53] : List UInt8)), .bool (eqs r_42 ([49, 50, 46, 53] : List UInt8)), .bool (eqs r_42 ([49, 50, 46, 53] : List UInt8)), .bool r_43, .bool r_43, .bool r_43, .bool r_44, .bool r_44, .bool r_44, .bool r_45, .bool r_45, .bool r_45, .bool r_46, .bool r_46, .bool r_46, .bool r_47, .bool r_47, .bool r_47, undef, .bool false, .bool false, undef, undef, undef, .bool false, .bool false, undef, undef, .bool false, .bool false, undef, .bool false, .bool false, undef, undef, undef, .bool false, .bool false, undef, undef, undef, undef, undef, undef, undef, undef, undef, undef, undef, undef, undef, undef, undef, undef, undef, undef, undef, undef, undef, undef] (by kernel_rfl) ?_
                    refine wx_take_not0 (by kernel_rfl) (by kernel_rfl) ?_
                    refine wx_take_not0 (by kernel_rfl) (by kernel_rfl) ?_
                    refine wx_take (v := .bool false) (by kernel_rfl) (fun w' hS => run_pick_f (v := .bool false) (by kernel_rfl) (by kernel_rfl)) ?_
                    refine wx_take (v := .bool false) (by kernel_rfl) (fun w' hS => run_move (v := .bool false) (by kernel_rfl)) ?_
                    refine wx_take_not0 (by kernel_rfl) (by kernel_rfl) ?_
                    refine wx_take (v := .bool false) (by kernel_rfl) (fun w' hS => run_pick_f (v := .bool false) (by kernel_rfl) (by kernel_rfl)) ?_
                    refine wx_take (v := .bool false) (by kernel_rfl) (fun w' hS => run_move (v := .bool false) (by kernel_rfl)) ?_
                    refine wx_take_not0 (by kernel_rfl) (by kernel_rfl) ?_
                    refine wx_take_not0 (by kernel_rfl) (by kernel_rfl) ?_
                    refine wx_take (v := .bool false) (by kernel_rfl) (fun w' hS => run_pick_f (v := .bool false) (by kernel_rfl) (by kernel_rfl)) ?_
                    refine wx_take (v := .bool false) (by kernel_rfl) (fun w' hS => run_move (v := .bool false) (by kernel_rfl)) ?_
                    refine wx_take_not0 (by kernel_rfl) (by kernel_rfl) ?_
                    refine wx_take_not0 (by kernel_rfl) (by kernel_rfl) ?_
                    refine wx_take (v := .bool false) (by kernel_rfl) (fun w' hS => run_pick_f (v := .bool false) (by kernel_rfl) (by kernel_rfl)) ?_
                    refine wx_take (v := .bool false) (by kernel_rfl) (fun w' hS => run_move (v := .bool false) (by kernel_rfl)) ?_
                    refine wx_take_not0 (by kernel_rfl) (by kernel_rfl) ?_
                    refine wx_take (v := .bool false) (by kernel_rfl) (fun w' hS => run_pick_f (v := .bool false) (by kernel_rfl) (by kernel_rfl)) ?_
                    refine wx_take (v := .bool false) (by kernel_rfl) (fun w' hS => run_move (v := .bool false) (by kernel_rfl)) ?_
                    refine wx_norm [.bool false, .pointer (some ⟨g_1, 0, none⟩), .bool r_1.2, .pointer (some ⟨g_2, 0, none⟩), .bool r_3.2, .pointer (some ⟨g_3, 0, none⟩), .bool r_5.2, .pointer (some ⟨g_4, 0, none⟩), .bool r_7.2, .pointer (some ⟨g_5, 0, none⟩), .bool r_9.2, .int .u16 r_11.1, .bool r_11.2, .int .u16 r_13.1, .bool r_13.2, .pointer (some ⟨g_6, 0, none⟩), .bool r_14.2, .tuple #[.agg #[.int .i64 r_1.1.N, .int .u8 r_1.1.D], .bool r_1.2], .tuple #[.agg #[.int .i64 r_1.1.N, .int .u8 r_1.1.D], .bool r_1.2], .agg #[.int .i64 r_1.1.N, .int .u8 r_1.1.D], .bool r_1.2, .tuple #[.agg #[.int .i64 r_3.1.N, .int .u8 r_3.1.D], .bool r_3.2], .agg #[.int .i64 r_2.N, .int .u8 r_2.D], .tuple #[.agg #[.int .i64 r_3.1.N, .int .u8 r_3.1.D], .bool r_3.2], .agg #[.int .i64 r_3.1.N, .int .u8 r_3.1.D], .bool r_3.2, .tuple #[.agg #[.int .i64 r_5.1.N, .int .u8 r_5.1.D], .bool r_5.2], .agg #[.int .i64 r_4.N, .int .u8 r_4.D], .tuple #[.agg #[.int .i64 r_5.1.N, .int .u8 r_5.1.D], .bool r_5.2], .agg #[.int .i64 r_5.1.N, .int .u8 r_5.1.D], .bool r_5.2, .tuple #[.agg #[.int .i64 r_7.1.N, .int .u8 r_7.1.D], .bool r_7.2], .agg #[.int .i64 r_6.N, .int .u8 r_6.D], .tuple #[.agg #[.int .i64 r_7.1.N, .int .u8 r_7.1.D], .bool r_7.2], .agg #[.int .i64 r_7.1.N, .int .u8 r_7.1.D], .bool r_7.2, .tuple #[.agg #[.int .i64 r_9.1.N, .int .u8 r_9.1.D], .bool r_9.2], .agg #[.int .i64 r_8.N, .int .u8 r_8.D], .tuple #[.agg #[.int .i64 r_9.1.N, .int .u8 r_9.1.D], .bool r_9.2], .agg #[.int .i64 r_9.1.N, .int .u8 r_9.1.D], .bool r_9.2, .tuple #[.int .u16 r_11.1, .bool r_11.2], .agg #[.int .i64 r_10.N, .int .u8 r_10.D], .tuple #[.int .u16 r_11.1, .bool r_11.2], .int .u16 r_11.1, .bool r_11.2, .tuple #[.int .u16 r_13.1, .bool r_13.2], .agg #[.int .i64 r_12.N, .int .u8 r_12.D], .tuple #[.int .u16 r_13.1, .bool r_13.2], .int .u16 r_13.1, .bool r_13.2, .tuple #[.agg #[.int .i64 r_14.1.N, .int .u8 r_14.1.D], .bool r_14.2], .tuple #[.agg #[.int .i64 r_14.1.N, .int .u8 r_14.1.D], .bool r_14.2], .agg #[.int .i64 r_14.1.N, .int .u8 r_14.1.D], .bool r_14.2, .bool r_1.2, .bool r_1.2, .agg #[.int .i64 r_1.1.N, .int .u8 r_1.1.D], .agg #[.int .i64 125, .int .u8 1], .bool c_13, .bool c_13, .bool c_13, .agg #[.int .i64 r_1.1.N, .int .u8 r_1.1.D], .string ⟨⟨r_42⟩⟩, .bool (eqs r_42 ([49, 50, 46, 53] : List UInt8)), .bool (eqs r_42 ([49, 50, 46, 53] : List UInt8)), .bool (eqs r_42 ([49, 50, 46, 53] : List UInt8)), .bool r_43, .bool r_43, .bool r_43, .bool r_44, .bool r_44, .bool r_44, .bool r_45, .bool r_45, .bool r_45, .bool r_46, .bool r_46, .bool r_46, .bool r_47, .bool r_47, .bool r_47, undef, .bool false, .bool false, undef, undef, undef, .bool false, .bool false, undef, undef, .bool false, .bool false, undef, .bool false, .bool false, undef, undef, undef, .bool false, .bool false, undef, undef, .bool false, .bool false, undef, .bool false, .bool false, undef, undef, .bool false, .bool false, undef, undef, .bool false, .bool false, undef, .bool false, .bool false, undef, undef, undef, undef] (by kernel_rfl) ?_
                    refine wx_take_not0 (by kernel_rfl) (by kernel_rfl) ?_
                    refine wx_not0 (by kernel_rfl) (by kernel_rfl) ?_
                    refine wx_take_not0 (by kernel_rfl) (by kernel_rfl) ?_
                    refine wx_take (v := .bool false) (by kernel_rfl) (fun w' hS => run_pick_f (v := .bool false) (by kernel_rfl) (by kernel_rfl)) ?_
                    refine wx_take (v := .bool false) (by kernel_rfl) (fun w' hS => run_assign (v := .bool false) (by kernel_rfl)) ?_
                    refine wx_nil ?_
                    have hS : Stp w0.heap.size _ [] F [] w_62 _ := Stp.pick hL [] rfl (by decide)
                    replace hB := hS.below hL hB
                    replace hL := hS.hL
                    exact then_c ⟨false, (fun i => ([.bool r_1.2, .bool r_1.2, .agg #[.int .i64 r_1.1.N, .int .u8 r_1.1.D], .agg #[.int .i64 125, .int .u8 1], .bool c_13, .bool c_13, .bool c_13, .agg #[.int .i64 r_1.1.N, .int .u8 r_1.1.D], .string ⟨⟨r_42⟩⟩, .bool (eqs r_42 ([49, 50, 46, 53] : List UInt8)), .bool (eqs r_42 ([49, 50, 46, 53] : List UInt8)), .bool (eqs r_42 ([49, 50, 46, 53] : List UInt8)), .bool r_43, .bool r_43, .bool r_43, .bool r_44, .bool r_44, .bool r_44, .bool r_45, .bool r_45, .bool r_45, .bool r_46, .bool r_46, .bool r_46, .bool r_47, .bool r_47, .bool r_47, undef, .bool false, .bool false, undef, undef, undef, .bool false, .bool false, undef, undef, .bool false, .bool false, undef, .bool false, .bool false, undef, undef, undef, .bool false, .bool false, undef, undef, .bool false, .bool false, undef, .bool false, .bool false, undef, undef, .bool false, .bool false, undef, undef, .bool false, .bool false, undef, .bool false, .bool false, undef, undef, undef, .bool false] : List Value).getD i undef), by kernel_rfl, hL, hB, hm⟩
                · have hm := ite_f hm hc_61
                  refine wx_not0 (wg (c := r_46) (want := true) (by kernel_rfl) hc_61 rfl) (by kernel_rfl) ?_
                  refine wx_take (v := .bool false) (by kernel_rfl) (fun w' hS => run_pick_f (v := .bool false) (tr2 (c := r_46) (by kernel_rfl) hc_61) (by kernel_rfl)) ?_
                  refine wx_take (v := .bool false) (by kernel_rfl) (fun w' hS => run_move (v := .bool false) (by kernel_rfl)) ?_
                  refine wx_norm [.bool false, .pointer (some ⟨g_1, 0, none⟩), .bool r_1.2, .pointer (some ⟨g_2, 0, none⟩), .bool r_3.2, .pointer (some ⟨g_3, 0, none⟩), .bool r_5.2, .pointer (some ⟨g_4, 0, none⟩), .bool r_7.2, .pointer (some ⟨g_5, 0, none⟩), .bool r_9.2, .int .u16 r_11.1, .bool r_11.2, .int .u16 r_13.1, .bool r_13.2, .pointer (some ⟨g_6, 0, none⟩), .bool r_14.2, .tuple #[.agg #[.int .i64 r_1.1.N, .int .u8 r_1.1.D], .bool r_1.2], .tuple #[.agg #[.int .i64 r_1.1.N, .int .u8 r_1.1.D], .bool r_1.2], .agg #[.int .i64 r_1.1.N, .int .u8 r_1.1.D], .bool r_1.2, .tuple #[.agg #[.int .i64 r_3.1.N, .int .u8 r_3.1.D], .bool r_3.2], .agg #[.int .i64 r_2.N, .int .u8 r_2.D], .tuple #[.agg #[.int .i64 r_3.1.N, .int .u8 r_3.1.D], .bool r_3.2], .agg #[.int .i64 r_3.1.N, .int .u8 r_3.1.D], .bool r_3.2, .tuple #[.agg #[.int .i64 r_5.1.N, .int .u8 r_5.1.D], .bool r_5.2], .agg #[.int .i64 r_4.N, .int .u8 r_4.D], .tuple #[.agg #[.int .i64 r_5.1.N, .int .u8 r_5.1.D], .bool r_5.2], .agg #[.int .i64 r_5.1.N, .int .u8 r_5.1.D], .bool r_5.2, .tuple #[.agg #[.int .i64 r_7.1.N, .int .u8 r_7.1.D], .bool r_7.2], .agg #[.int .i64 r_6.N, .int .u8 r_6.D], .tuple #[.agg #[.int .i64 r_7.1.N, .int .u8 r_7.1.D], .bool r_7.2], .agg #[.int .i64 r_7.1.N, .int .u8 r_7.1.D], .bool r_7.2, .tuple #[.agg #[.int .i64 r_9.1.N, .int .u8 r_9.1.D], .bool r_9.2], .agg #[.int .i64 r_8.N, .int .u8 r_8.D], .tuple #[.agg #[.int .i64 r_9.1.N, .int .u8 r_9.1.D], .bool r_9.2], .agg #[.int .i64 r_9.1.N, .int .u8 r_9.1.D], .bool r_9.2, .tuple #[.int .u16 r_11.1, .bool r_11.2], .agg #[.int .i64 r_10.N, .int .u8 r_10.D], .tuple #[.int .u16 r_11.1, .bool r_11.2], .int .u16 r_11.1, .bool r_11.2, .tuple #[.int .u16 r_13.1, .bool r_13.2], .agg #[.int .i64 r_12.N, .int .u8 r_12.D], .tuple #[.int .u16 r_13.1, .bool r_13.2], .int .u16 r_13.1, .bool r_13.2, .tuple #[.agg #[.int .i64 r_14.1.N, .int .u8 r_14.1.D], .bool r_14.2], .tuple #[.agg #[.int .i64 r_14.1.N, .int .u8 r_14.1.D], .bool r_14.2], .agg #[.int .i64 r_14.1.N, .int .u8 r_14.1.D], .bool r_14.2, .bool r_1.2, .bool r_1.2, .agg #[.int .i64 r_1.1.N, .int .u8 r_1.1.D], .agg #[.int .i64 125, .int .u8 1], .bool c_13, .bool c_13, .bool c_13, .agg #[.int .i64 r_1.1.N, .int .u8 r_1.1.D], .string ⟨⟨r_42⟩⟩, .bool (eqs r_42 ([49, 50, 46, 53] : List UInt8)), .bool (eqs r_42 ([49, 50, 46, 53] : List UInt8)), .bool (eqs r_42 ([49, 50, 46, 53] : List UInt8)), .bool r_43, .bool r_43, .bool r_43, .bool r_44, .bool r_44, .bool r_44, .bool r_45, .bool r_45, .bool r_45, .bool r_46, .bool r_46, .bool r_46, undef, .bool false, .bool false, undef, undef, undef, undef, undef, undef, undef, undef, undef, undef, undef, undef, undef, undef, undef, undef, undef, undef, undef, undef, undef, undef, undef, undef, undef, undef, undef, undef, undef, undef, undef, undef, undef, undef, undef, undef, undef, undef, undef, undef, undef, undef] (by kernel_rfl) ?_
                  refine wx_take_not0 (by kernel_rfl) (by kernel_rfl) ?_
                  refine wx_take (v := .bool false) (by kernel_rfl) (fun w' hS => run_pick_f (v := .bool false) (by kernel_rfl) (by kernel_rfl)) ?_
                  refine wx_take (v := .bool false) (by kernel_rfl) (fun w' hS => run_move (v := .bool false) (by kernel_rfl)) ?_
                  refine wx_take_not0 (by kernel_rfl) (by kernel_rfl) ?_
                  refine wx_not0 (by kernel_rfl) (by kernel_rfl) ?_
                  refine wx_take_not0 (by kernel_rfl) (by kernel_rfl) ?_
                  refine wx_take (v := .bool false) (by kernel_rfl) (fun w' hS => run_pick_f (v := .bool false) (by kernel_rfl) (by kernel_rfl)) ?_
                  refine wx_take (v := .bool false) (by kernel_rfl) (fun w' hS => run_move (v := .bool false) (by kernel_rfl)) ?_
                  refine wx_take_not0 (by kernel_rfl) (by kernel_rfl) ?_
                  refine wx_take_not0 (by kernel_rfl) (by kernel_rfl) ?_
                  refine wx_take (v := .bool false) (by kernel_rfl) (fun w' hS => run_pick_f (v := .bool false) (by kernel_rfl) (by kernel_rfl)) ?_
                  refine wx_take (v := .bool false) (by kernel_rfl) (fun w' hS => run_move (v := .bool false) (by kernel_rfl)) ?_
                  refine wx_take_not0 (by kernel_rfl) (by kernel_rfl) ?_
                  refine wx_take (v := .bool false) (by kernel_rfl) (fun w' hS => run_pick_f (v := .bool false) (by kernel_rfl) (by kernel_rfl)) ?_
                  refine wx_take (v := .bool false) (by kernel_rfl) (fun w' hS => run_move (v := .bool false) (by kernel_rfl)) ?_
                  refine wx_take_not0 (by kernel_rfl) (by kernel_rfl) ?_
                  refine wx_not0 (by kernel_rfl) (by kernel_rfl) ?_
                  refine wx_take_not0 (by kernel_rfl) (by kernel_rfl) ?_
                  refine wx_take (v := .bool false) (by kernel_rfl) (fun w' hS => run_pick_f (v := .bool false) (by kernel_rfl) (by kernel_rfl)) ?_
                  refine wx_take (v := .bool false) (by kernel_rfl) (fun w' hS => run_move (v := .bool false) (by kernel_rfl)) ?_
                  refine wx_norm [.bool false, .pointer (some ⟨g_1, 0, none⟩), .bool r_1.2, .pointer (some ⟨g_2, 0, none⟩), .bool r_3.2, .pointer (some ⟨g_3, 0, none⟩), .bool r_5.2, .pointer (some ⟨g_4, 0, none⟩), .bool r_7.2, .pointer (some ⟨g_5, 0, none⟩), .bool r_9.2, .int .u16 r_11.1, .bool r_11.2, .int .u16 r_13.1, .bool r_13.2, .pointer (some ⟨g_6, 0, none⟩), .bool r_14.2, .tuple #[.agg #[.int .i64 r_1.1.N, .int .u8 r_1.1.D], .bool r_1.2], .tuple #[.agg #[.int .i64 r_1.1.N, .int .u8 r_1.1.D], .bool r_1.2], .agg #[.int .i64 r_1.1.N, .int .u8 r_1.1.D], .bool r_1.2, .tuple #[.agg #[.int .i64 r_3.1.N, .int .u8 r_3.1.D], .bool r_3.2], .agg #[.int .i64 r_2.N, .int .u8 r_2.D], .tuple #[.agg #[.int .i64 r_3.1.N, .int .u8 r_3.1.D], .bool r_3.2], .agg #[.int .i64 r_3.1.N, .int .u8 r_3.1.D], .bool r_3.2, .tuple #[.agg #[.int .i64 r_5.1.N, .int .u8 r_5.1.D], .bool r_5.2], .agg #[.int .i64 r_4.N, .int .u8 r_4.D], .tuple #[.agg #[.int .i64 r_5.1.N, .int .u8 r_5.1.D], .bool r_5.2], .agg #[.int .i64 r_5.1.N, .int .u8 r_5.1.D], .bool r_5.2, .tuple #[.agg #[.int .i64 r_7.1.N, .int .u8 r_7.1.D], .bool r_7.2], .agg #[.int .i64 r_6.N, .int .u8 r_6.D], .tuple #[.agg #[.int .i64 r_7.1.N, .int .u8 r_7.1.D], .bool r_7.2], .agg #[.int .i64 r_7.1.N, .int .u8 r_7.1.D], .bool r_7.2, .tuple #[.agg #[.int .i64 r_9.1.N, .int .u8 r_9.1.D], .bool r_9.2], .agg #[.int .i64 r_8.N, .int .u8 r_8.D], .tuple #[.agg #[.int .i64 r_9.1.N, .int .u8 r_9.1.D], .bool r_9.2], .agg #[.int .i64 r_9.1.N, .int .u8 r_9.1.D], .bool r_9.2, .tuple #[.int .u16 r_11.1, .bool r_11.2], .agg #[.int .i64 r_10.N, .int .u8 r_10.D], .tuple #[.int .u16 r_11.1, .bool r_11.2], .int .u16 r_11.1, .bool r_11.2, .tuple #[.int .u16 r_13.1, .bool r_13.2], .agg #[.int .i64 r_12.N, .int .u8 r_12.D], .tuple #[.int .u16 r_13.1, .bool r_13.2], .int .u16 r_13.1, .bool r_13.2, .tuple #[.agg #[.int .i64 r_14.1.N, .int .u8 r_14.1.D], .bool r_14.2], .tuple #[.agg #[.int .i64 r_14.1.N, .int .u8 r_14.1.D], .bool r_14.2], .agg #[.int .i64 r_14.1.N, .int .u8 r_14.1.D], .bool r_14.2, .bool r_1.2, .bool r_1.2, .agg #[.int .i64 r_1.1.N, .int .u8 r_1.1.D], .agg #[.int .i64 125, .int .u8 1], .bool c_13, .bool c_13, .bool c_13, .agg #[.int .i64 r_1.1.N, .int .u8 r_1.1.D], .string ⟨⟨r_42⟩⟩, .bool (eqs r_42 ([49, 50, 46, 53] : List UInt8)), .bool (eqs r_42 ([49, 50, 46, 53] : List UInt8)), .bool (eqs r_42 ([49, 50, 46, 53] : List UInt8)), .bool r_43, .bool r_43, .bool r_43, .bool r_44, .bool r_44, .bool r_44, .bool r_45, .bool r_45, .bool r_45, .bool r_46, .bool r_46, .bool r_46, undef, .bool false, .bool false, undef, .bool false, .bool false, undef, undef, undef, .bool false, .bool false, undef, undef, .bool false, .bool false, undef, .bool false, .bool false, undef, undef, undef, .bool false, .bool false, undef, undef, undef, undef, undef, undef, undef, undef, undef, undef, undef, undef, undef, undef, undef, undef, undef, undef, undef, undef, undef, undef] (by kernel_rfl) ?_
                  refine wx_take_not0 (by kernel_rfl) (by kernel_rfl) ?_
                  refine wx_take_not0 (by kernel_rfl) (by kernel_rfl) ?_
                  refine wx_take (v := .bool false) (by kernel_rfl) (fun w' hS => run_pick_f (v := .bool false) (by kernel_rfl) (by kernel_rfl)) ?_
                  refine wx_take (v := .bool false) (by kernel_rfl) (fun w' hS => run_move (v := .bool false) (by kernel_rfl)) ?_
                  refine wx_take_not0 (by kernel_rfl) (by kernel_rfl) ?_
                  refine wx_take (v := .bool false) (by kernel_rfl) (fun w' hS => run_pick_f (v := .bool false) (by kernel_rfl) (by kernel_rfl)) ?_
                  refine wx_take (v := .bool false) (by kernel_rfl) (fun w' hS => run_move (v := .bool false) (by kernel_rfl)) ?_
                  refine wx_take_not0 (by kernel_rfl) (by kernel_rfl) ?_
                  refine wx_take_not0 (by kernel_rfl) (by kernel_rfl) ?_
                  refine wx_take (v := .bool false) (by kernel_rfl) (fun w' hS => run_pick_f (v := .bool false) (by kernel_rfl) (by kernel_rfl)) ?_
                  refine wx_take (v := .bool false) (by kernel_rfl) (fun w' hS => run_move (v := .bool false) (by kernel_rfl)) ?_
                  refine wx_take_not0 (by kernel_rfl) (by kernel_rfl) ?_
                  refine wx_take_not0 (by kernel_rfl) (by kernel_rfl) ?_
                  refine wx_take (v := .bool false) (by kernel_rfl) (fun w' hS => run_pick_f (v := .bool false) (by kernel_rfl) (by kernel_rfl)) ?_
                  refine wx_take (v := .bool false) (by kernel_rfl) (fun w' hS => run_move (v := .bool false) (by kernel_rfl)) ?_
                  refine wx_take_not0 (by kernel_rfl) (by kernel_rfl) ?_
                  refine wx_take (v := .bool false) (by kernel_rfl) (fun w' hS => run_pick_f (v := .bool false) (by kernel_rfl) (by kernel_rfl)) ?_
                  refine wx_take (v := .bool false) (by kernel_rfl) (fun w' hS => run_move (v := .bool false) (by kernel_rfl)) ?_
                  refine wx_norm [.bool false, .pointer (some ⟨g_1, 0, none⟩), .bool r_1.2, .pointer (some ⟨g_2, 0, none⟩), .bool r_3.2, .pointer (some ⟨g_3, 0, none⟩), .bool r_5.2, .pointer (some ⟨g_4, 0, none⟩), .bool r_7.2, .pointer (some ⟨g_5, 0, none⟩), .bool r_9.2, .int .u16 r_11.1, .bool r_11.2, .int .u16 r_13.1, .bool r_13.2, .pointer (some ⟨g_6, 0, none⟩), .bool r_14.2, .tuple #[.agg #[.int .i64 r_1.1.N, .int .u8 r_1.1.D], .bool r_1.2], .tuple #[.agg #[.int .i64 r_1.1.N, .int .u8 r_1.1.D], .bool r_1.2], .agg #[.int .i64 r_1.1.N, .int .u8 r_1.1.D], .bool r_1.2, .tuple #[.agg #[.int .i64 r_3.1.N, .int .u8 r_3.1.D], .bool r_3.2], .agg #[.int .i64 r_2.N, .int .u8 r_2.D], .tuple #[.agg #[.int .i64 r_3.1.N, .int .u8 r_3.1.D], .bool r_3.2], .agg #[.int .i64 r_3.1.N, .int .u8 r_3.1.D], .bool r_3.2, .tuple #[.agg #[.int .i64 r_5.1.N, .int .u8 r_5.1.D], .bool r_5.2], .agg #[.int .i64 r_4.N, .int .u8 r_4.D], .tuple #[.agg #[.int .i64 r_5.1.N, .int .u8 r_5.1.D], .bool r_5.2], .agg #[.int .i64 r_5.1.N, .int .u8 r_5.1.D], .bool r_5.2, .tuple #[.agg #[.int .i64 r_7.1.N, .int .u8 r_7.1.D], .bool r_7.2], .agg #[.int .i64 r_6.N, .int .u8 r_6.D], .tuple #[.agg #[.int .i64 r_7.1.N, .int .u8 r_7.1.D], .bool r_7.2], .agg #[.int .i64 r_7.1.N, .int .u8 r_7.1.D], .bool r_7.2, .tuple #[.agg #[.int .i64 r_9.1.N, .int .u8 r_9.1.D], .bool r_9.2], .agg #[.int .i64 r_8.N, .int .u8 r_8.D], .tuple #[.agg #[.int .i64 r_9.1.N, .int .u8 r_9.1.D], .bool r_9.2], .agg #[.int .i64 r_9.1.N, .int .u8 r_9.1.D], .bool r_9.2, .tuple #[.int .u16 r_11.1, .bool r_11.2], .agg #[.int .i64 r_10.N, .int .u8 r_10.D], .tuple #[.int .u16 r_11.1, .bool r_11.2], .int .u16 r_11.1, .bool r_11.2, .tuple #[.int .u16 r_13.1, .bool r_13.2], .agg #[.int .i64 r_12.N, .int .u8 r_12.D], .tuple #[.int .u16 r_13.1, .bool r_13.2], .int .u16 r_13.1, .bool r_13.2, .tuple #[.agg #[.int .i64 r_14.1.N, .int .u8 r_14.1.D], .bool r_14.2], .tuple #[.agg #[.int .i64 r_14.1.N, .int .u8 r_14.1.D], .bool r_14.2], .agg #[.int .i64 r_14.1.N, .int .u8 r_14.1.D], .bool r_14.2, .bool r_1.2, .bool r_1.2, .agg #[.int .i64 r_1.1.N, .int .u8 r_1.1.D], .agg #[.int .i64 125, .int .u8 1], .bool c_13, .bool c_13, .bool c_13, .agg #[.int .i64 r_1.1.N, .int .u8 r_1.1.D], .string ⟨⟨r_42⟩⟩, .bool (eqs r_42 ([49, 50, 46, 53] : List UInt8)), .bool (eqs r_42 ([49, 50, 46, 53] : List UInt8)), .bool (eqs r_42 ([49, 50, 46, 53] : List UInt8)), .bool r_43, .bool r_43, .bool r_43, .bool r_44, .bool r_44, .bool r_44, .bool r_45, .bool r_45, .bool r_45, .bool r_46, .bool r_46, .bool r_46, undef, .bool false, .bool false, undef, .bool false, .bool false, undef, undef, undef, .bool false, .bool false, undef, undef, .bool false, .bool false, undef, .bool false, .bool false, undef, undef, undef, .bool false, .bool false, undef, undef, .bool false, .bool false, undef, .bool false, .bool false, undef, undef, .bool false, .bool false, undef, undef, .bool false, .bool false, undef, .bool false, .bool false, undef, undef, undef, undef] (by kernel_rfl) ?_
                  refine wx_take_not0 (by kernel_rfl) (by kernel_rfl) ?_
                  refine wx_not0 (by kernel_rfl) (by kernel_rfl) ?_
                  refine wx_take_not0 (by kernel_rfl) (by kernel_rfl) ?_
                  refine wx_take (v := .bool false) (by kernel_rfl) (fun w' hS => run_pick_f (v := .bool false) (by kernel_rfl) (by kernel_rfl)) ?_
                  refine wx_take (v := .bool false) (by kernel_rfl) (fun w' hS => run_assign (v := .bool false) (by kernel_rfl)) ?_
                  refine wx_nil ?_
                  have hS : Stp w0.heap.size _ [] F [] w_61 _ := Stp.pick hL [] rfl (by decide)
                  replace hB := hS.below hL hB
                  replace hL := hS.hL
                  exact then_c ⟨false, (fun i => ([.bool r_1.2, .bool r_1.2, .agg #[.int .i64 r_1.1.N, .int .u8 r_1.1.D], .agg #[.int .i64 125, .int .u8 1], .bool c_13, .bool c_13, .bool c_13, .agg #[.int .i64 r_1.1.N, .int .u8 r_1.1.D], .string ⟨⟨r_42⟩⟩, .bool (eqs r_42 ([49, 50, 46, 53] : List UInt8)), .bool (eqs r_42 ([49, 50, 46, 53] : List UInt8)), .bool (eqs r_42 ([49, 50, 46, 53] : List UInt8)), .bool r_43, .bool r_43, .bool r_43, .bool r_44, .bool r_44, .bool r_44, .bool r_45, .bool r_45, .bool r_45, .bool r_46, .bool r_46, .bool r_46, undef, .bool false, .bool false, undef, .bool false, .bool false, undef, undef, undef, .bool false, .bool false, undef, undef, .bool false, .bool false, undef, .bool false, .bool false, undef, undef, undef, .bool false, .bool false, undef, undef, .bool false, .bool false, undef, .bool false, .bool false, undef, undef, .bool false, .bool false, undef, undef, .bool false, .bool false, undef, .bool false, .bool false, undef, undef, undef, .bool false] : List Value).getD i undef), by kernel_rfl, hL, hB, hm⟩
              · have hm := ite_f hm hc_60
                refine wx_not0 (wg (c := r_45) (want := true) (by kernel_rfl) hc_60 rfl) (by kernel_rfl) ?_
                refine wx_take (v := .bool false) (by kernel_rfl) (fun w' hS => run_pick_f (v := .bool false) (tr2 (c := r_45) (by kernel_rfl) hc_60) (by kernel_rfl)) ?_
                refine wx_take (v := .bool false) (by kernel_rfl) (fun w' hS => run_move (v := .bool false) (by kernel_rfl)) ?_
                refine wx_not0 (by kernel_rfl) (by kernel_rfl) ?_
                refine wx_take (v := .bool false) (by kernel_rfl) (fun w' hS => run_pick_f (v := .bool false) (by kernel_rfl) (by kernel_rfl)) ?_
                refine wx_take (v := .bool false) (by kernel_rfl) (fun w' hS => run_move (v := .bool false) (by kernel_rfl)) ?_
                refine wx_norm [.bool false, .pointer (some ⟨g_1, 0, none⟩), .bool r_1.2, .pointer (some ⟨g_2, 0, none⟩), .bool r_3.2, .pointer (some ⟨g_3, 0, none⟩), .bool r_5.2, .pointer (some ⟨g_4, 0, none⟩), .bool r_7.2, .pointer (some ⟨g_5, 0, none⟩), .bool r_9.2, .int .u16 r_11.1, .bool r_11.2, .int .u16 r_13.1, .bool r_13.2, .pointer (some ⟨g_6, 0, none⟩), .bool r_14.2, .tuple #[.agg #[.int .i64 r_1.1.N, .int .u8 r_1.1.D], .bool r_1.2], .tuple #[.agg #[.int .i64 r_1.1.N, .int .u8 r_1.1.D], .bool r_1.2], .agg #[.int .i64 r_1.1.N, .int .u8 r_1.1.D], .bool r_1.2, .tuple #[.agg #[.int .i64 r_3.1.N, .int .u8 r_3.1.D], .bool r_3.2], .agg #[.int .i64 r_2.N, .int .u8 r_2.D], .tuple #[.agg #[.int .i64 r_3.1.N, .int .u8 r_3.1.D], .bool r_3.2], .agg #[.int .i64 r_3.1.N, .int .u8 r_3.1.D], .bool r_3.2, .tuple #[.agg #[.int .i64 r_5.1.N, .int .u8 r_5.1.D], .bool r_5.2], .agg #[.int .i64 r_4.N, .int .u8 r_4.D], .tuple #[.agg #[.int .i64 r_5.1.N, .int .u8 r_5.1.D], .bool r_5.2], .agg #[.int .i64 r_5.1.N, .int .u8 r_5.1.D], .bool r_5.2, .tuple #[.agg #[.int .i64 r_7.1.N, .int .u8 r_7.1.D], .bool r_7.2], .agg #[.int .i64 r_6.N, .int .u8 r_6.D], .tuple #[.agg #[.int .i64 r_7.1.N, .int .u8 r_7.1.D], .bool r_7.2], .agg #[.int .i64 r_7.1.N, .int .u8 r_7.1.D], .bool r_7.2, .tuple #[.agg #[.int .i64 r_9.1.N, .int .u8 r_9.1.D], .bool r_9.2], .agg #[.int .i64 r_8.N, .int .u8 r_8.D], .tuple #[.agg #[.int .i64 r_9.1.N, .int .u8 r_9.1.D], .bool r_9.2], .agg #[.int .i64 r_9.1.N, .int .u8 r_9.1.D], .bool r_9.2, .tuple #[.int .u16 r_11.1, .bool r_11.2], .agg #[.int .i64 r_10.N, .int .u8 r_10.D], .tuple #[.int .u16 r_11.1, .bool r_11.2], .int .u16 r_11.1, .bool r_11.2, .tuple #[.int .u16 r_13.1, .bool r_13.2], .agg #[.int .i64 r_12.N, .int .u8 r_12.D], .tuple #[.int .u16 r_13.1, .bool r_13.2], .int .u16 r_13.1, .bool r_13.2, .tuple #[.agg #[.int .i64 r_14.1.N, .int .u8 r_14.1.D], .bool r_14.2], .tuple #[.agg #[.int .i64 r_14.1.N, .int .u8 r_14.1.D], .bool r_14.2], .agg #[.int .i64 r_14.1.N, .int .u8 r_14.1.D], .bool r_14.2, .bool r_1.2, .bool r_1.2, .agg #[.int .i64 r_1.1.N, .int .u8 r_1.1.D], .agg #[.int .i64 125, .int .u8 1], .bool c_13, .bool c_13, .bool c_13, .agg #[.int .i64 r_1.1.N, .int .u8 r_1.1.D], .string ⟨⟨r_42⟩⟩, .bool (eqs r_42 ([49, 50, 46, 53] : List UInt8)), .bool (eqs r_42 ([49, 50, 46, 53] : List UInt8)), .bool (eqs r_42 ([49, 50, 46, 53] : List UInt8)), .bool r_43, .bool r_43, .bool r_43, .bool r_44, .bool r_44, .bool r_44, .bool r_45, .bool r_45, .bool r_45, undef, .bool false, .bool false, undef, .bool false, .bool false, undef, undef, undef, undef, undef, undef, undef, undef, undef, undef, undef, undef, undef, undef, undef, undef, undef, undef, undef, undef, undef, undef, undef, undef, undef, undef, undef, undef, undef, undef, undef, undef, undef, undef, undef, undef, undef, undef, undef, undef, undef, undef] (by kernel_rfl) ?_
                refine wx_take_not0 (by kernel_rfl) (by kernel_rfl) ?_
                refine wx_take (v := .bool false) (by kernel_rfl) (fun w' hS => run_pick_f (v := .bool false) (by kernel_rfl) (by kernel_rfl)) ?_
                refine wx_take (v := .bool false) (by kernel_rfl) (fun w' hS => run_move (v := .bool false) (by kernel_rfl)) ?_
                refine wx_take_not0 (by kernel_rfl) (by kernel_rfl) ?_
                refine wx_not0 (by kernel_rfl) (by kernel_rfl) ?_
                refine wx_take_not0 (by kernel_rfl) (by kernel_rfl) ?_
                refine wx_take (v := .bool false) (by kernel_rfl) (fun w' hS => run_pick_f (v := .bool false) (by kernel_rfl) (by kernel_rfl)) ?_
                refine wx_take (v := .bool false) (by kernel_rfl) (fun w' hS => run_move (v := .bool false) (by kernel_rfl)) ?_
                refine wx_take_not0 (by kernel_rfl) (by kernel_rfl) ?_
                refine wx_take_not0 (by kernel_rfl) (by kernel_rfl) ?_
                refine wx_take (v := .bool false) (by kernel_rfl) (fun w' hS => run_pick_f (v := .bool false) (by kernel_rfl) (by kernel_rfl)) ?_
                refine wx_take (v := .bool false) (by kernel_rfl) (fun w' hS => run_move (v := .bool false) (by kernel_rfl)) ?_
                refine wx_take_not0 (by kernel_rfl) (by kernel_rfl) ?_
                refine wx_take (v := .bool false) (by kernel_rfl) (fun w' hS => run_pick_f (v := .bool false) (by kernel_rfl) (by kernel_rfl)) ?_
                refine wx_take (v := .bool false) (by kernel_rfl) (fun w' hS => run_move (v := .bool false) (by kernel_rfl)) ?_
                refine wx_take_not0 (by kernel_rfl) (by kernel_rfl) ?_
                refine wx_not0 (by kernel_rfl) (by kernel_rfl) ?_
                refine wx_take_not0 (by kernel_rfl) (by kernel_rfl) ?_
                refine wx_take (v := .bool false) (by kernel_rfl) (fun w' hS => run_pick_f (v := .bool false) (by kernel_rfl) (by kernel_rfl)) ?_
                refine wx_take (v := .bool false) (by kernel_rfl) (fun w' hS => run_move (v := .bool false) (by kernel_rfl)) ?_
                refine wx_norm [.bool false, .pointer (some ⟨g_1, 0, none⟩), .bool r_1.2, .pointer (some ⟨g_2, 0, none⟩), .bool r_3.2, .pointer (some ⟨g_3, 0, none⟩), .bool r_5.2, .pointer (some ⟨g_4, 0, none⟩), .bool r_7.2, .pointer (some ⟨g_5, 0, none⟩), .bool r_9.2, .int .u16 r_11.1, .bool r_11.2, .int .u16 r_13.1, .bool r_13.2, .pointer (some ⟨g_6, 0, none⟩), .bool r_14.2, .tuple #[.agg #[.int .i64 r_1.1.N, .int .u8 r_1.1.D], .bool r_1.2], .tuple #[.agg #[.int .i64 r_1.1.N, .int .u8 r_1.1.D], .bool r_1.2], .agg #[.int .i64 r_1.1.N, .int .u8 r_1.1.D], .bool r_1.2, .tuple #[.agg #[.int .i64 r_3.1.N, .int .u8 r_3.1.D], .bool r_3.2], .agg #[.int .i64 r_2.N, .int .u8 r_2.D], .tuple #[.agg #[.int .i64 r_3.1.N, .int .u8 r_3.1.D], .bool r_3.2], .agg #[.int .i64 r_3.1.N, .int .u8 r_3.1.D], .bool r_3.2, .tuple #[.agg #[.int .i64 r_5.1.N, .int .u8 r_5.1.D], .bool r_5.2], .agg #[.int .i64 r_4.N, .int .u8 r_4.D], .tuple #[.agg #[.int .i64 r_5.1.N, .int .u8 r_5.1.D], .bool r_5.2], .agg #[.int .i64 r_5.1.N, .int .u8 r_5.1.D], .bool r_5.2, .tuple #[.agg #[.int .i64 r_7.1.N, .int .u8 r_7.1.D], .bool r_7.2], .agg #[.int .i64 r_6.N, .int .u8 r_6.D], .tuple #[.agg #[.int .i64 r_7.1.N, .int .u8 r_7.1.D], .bool r_7.2], .agg #[.int .i64 r_7.1.N, .int .u8 r_7.1.D], .bool r_7.2, .tuple #[.agg #[.int .i64 r_9.1.N, .int .u8 r_9.1.D], .bool r_9.2], .agg #[.int .i64 r_8.N, .int .u8 r_8.D], .tuple #[.agg #[.int .i64 r_9.1.N, .int .u8 r_9.1.D], .bool r_9.2], .agg #[.int .i64 r_9.1.N, .int .u8 r_9.1.D], .bool r_9.2, .tuple #[.int .u16 r_11.1, .bool r_11.2], .agg #[.int .i64 r_10.N, .int .u8 r_10.D], .tuple #[.int .u16 r_11.1, .bool r_11.2], .int .u16 r_11.1, .bool r_11.2, .tuple #[.int .u16 r_13.1, .bool r_13.2], .agg #[.int .i64 r_12.N, .int .u8 r_12.D], .tuple #[.int .u16 r_13.1, .bool r_13.2], .int .u16 r_13.1, .bool r_13.2, .tuple #[.agg #[.int .i64 r_14.1.N, .int .u8 r_14.1.D], .bool r_14.2], .tuple #[.agg #[.int .i64 r_14.1.N, .int .u8 r_14.1.D], .bool r_14.2], .agg #[.int .i64 r_14.1.N, .int .u8 r_14.1.D], .bool r_14.2, .bool r_1.2, .bool r_1.2, .agg #[.int .i64 r_1.1.N, .int .u8 r_1.1.D], .agg #[.int .i64 125, .int .u8 1], .bool c_13, .bool c_13, .bool c_13, .agg #[.int .i64 r_1.1.N, .int .u8 r_1.1.D], .string ⟨⟨r_42⟩⟩, .bool (eqs r_42 ([49, 50, 46, 53] : List UInt8)), .bool (eqs r_42 ([49, 50, 46, 53] : List UInt8)), .bool (eqs r_42 ([49, 50, 46, 53] : List UInt8)), .bool r_43, .bool r_43, .bool r_43, .bool r_44, .bool r_44, .bool r_44, .bool r_45, .bool r_45, .bool r_45, undef, .bool false, .bool false, undef, .bool false, .bool false, undef, .bool false, .bool false, undef, undef, undef, .bool false, .bool false, undef, undef, .bool false, .bool false, undef, .bool false, .bool false, undef, undef, undef, .bool false, .bool false, undef, undef, undef, undef, undef, undef, undef, undef, undef, undef, undef, undef, undef, undef, undef, undef, undef, undef, undef, undef, undef, undef] (by kernel_rfl) ?_
                refine wx_take_not0 (by kernel_rfl) (by kernel_rfl) ?_
                refine wx_take_not0 (by kernel_rfl) (by kernel_rfl) ?_
                refine wx_take (v := .bool false) (by kernel_rfl) (fun w' hS => run_pick_f (v := .bool false) (by kernel_rfl) (by kernel_rfl)) ?_
                refine wx_take (v := .bool false) (by kernel_rfl) (fun w' hS => run_move (v := .bool false) (by kernel_rfl)) ?_
                refine wx_take_not0 (by kernel_rfl) (by kernel_rfl) ?_
                refine wx_take (v := .bool false) (by kernel_rfl) (fun w' hS => run_pick_f (v := .bool false) (by kernel_rfl) (by kernel_rfl)) ?_
                refine wx_take (v := .bool false) (by kernel_rfl) (fun w' hS => run_move (v := .bool false) (by kernel_rfl)) ?_
                refine wx_take_not0 (by kernel_rfl) (by kernel_rfl) ?_
                refine wx_take_not0 (by kernel_rfl) (by kernel_rfl) ?_
                refine wx_take (v := .bool false) (by kernel_rfl) (fun w' hS => run_pick_f (v := .bool false) (by kernel_rfl) (by kernel_rfl)) ?_
                refine wx_take (v := .bool false) (by kernel_rfl) (fun w' hS => run_move (v := .bool false) (by kernel_rfl)) ?_
                refine wx_take_not0 (by kernel_rfl) (by kernel_rfl) ?_
                refine wx_take_not0 (by kernel_rfl) (by kernel_rfl) ?_
                refine wx_take (v := .bool false) (by kernel_rfl) (fun w' hS => run_pick_f (v := .bool false) (by kernel_rfl) (by kernel_rfl)) ?_
                refine wx_take (v := .bool false) (by kernel_rfl) (fun w' hS => run_move (v := .bool false) (by kernel_rfl)) ?_
                refine wx_take_not0 (by kernel_rfl) (by kernel_rfl) ?_
                refine wx_take (v := .bool false) (by kernel_rfl) (fun w' hS => run_pick_f (v := .bool false) (by kernel_rfl) (by kernel_rfl)) ?_
                refine wx_take (v := .bool false) (by kernel_rfl) (fun w' hS => run_move (v := .bool false) (by kernel_rfl)) ?_
                refine wx_norm [.bool false, .pointer (some ⟨g_1, 0, none⟩), .bool r_1.2, .pointer (some ⟨g_2, 0, none⟩), .bool r_3.2, .pointer (some ⟨g_3, 0, none⟩), .bool r_5.2, .pointer (some ⟨g_4, 0, none⟩), .bool r_7.2, .pointer (some ⟨g_5, 0, none⟩), .bool r_9.2, .int .u16 r_11.1, .bool r_11.2, .int .u16 r_13.1, .bool r_13.2, .pointer (some ⟨g_6, 0, none⟩), .bool r_14.2, .tuple #[.agg #[.int .i64 r_1.1.N, .int .u8 r_1.1.D], .bool r_1.2], .tuple #[.agg #[.int .i64 r_1.1.N, .int .u8 r_1.1.D], .bool r_1.2], .agg #[.int .i64 r_1.1.N, .int .u8 r_1.1.D], .bool r_1.2, .tuple #[.agg #[.int .i64 r_3.1.N, .int .u8 r_3.1.D], .bool r_3.2], .agg #[.int .i64 r_2.N, .int .u8 r_2.D], .tuple #[.agg #[.int .i64 r_3.1.N, .int .u8 r_3.1.D], .bool r_3.2], .agg #[.int .i64 r_3.1.N, .int .u8 r_3.1.D], .bool r_3.2, .tuple #[.agg #[.int .i64 r_5.1.N, .int .u8 r_5.1.D], .bool r_5.2], .agg #[.int .i64 r_4.N, .int .u8 r_4.D], .tuple #[.agg #[.int .i64 r_5.1.N, .int .u8 r_5.1.D], .bool r_5.2], .agg #[.int .i64 r_5.1.N, .int .u8 r_5.1.D], .bool r_5.2, .tuple #[.agg #[.int .i64 r_7.1.N, .int .u8 r_7.1.D], .bool r_7.2], .agg #[.int .i64 r_6.N, .int .u8 r_6.D], .tuple #[.agg #[.int .i64 r_7.1.N, .int .u8 r_7.1.D], .bool r_7.2], .agg #[.int .i64 r_7.1.N, .int .u8 r_7.1.D], .bool r_7.2, .tuple #[.agg #[.int .i64 r_9.1.N, .int .u8 r_9.1.D], .bool r_9.2], .agg #[.int .i64 r_8.N, .int .u8 r_8.D], .tuple #[.agg #[.int .i64 r_9.1.N, .int .u8 r_9.1.D], .bool r_9.2], .agg #[.int .i64 r_9.1.N, .int .u8 r_9.1.D], .bool r_9.2, .tuple #[.int .u16 r_11.1, .bool r_11.2], .agg #[.int .i64 r_10.N, .int .u8 r_10.D], .tuple #[.int .u16 r_11.1, .bool r_11.2], .int .u16 r_11.1, .bool r_11.2, .tuple #[.int .u16 r_13.1, .bool r_13.2], .agg #[.int .i64 r_12.N, .int .u8 r_12.D], .tuple #[.int .u16 r_13.1, .bool r_13.2], .int .u16 r_13.1, .bool r_13.2, .tuple #[.agg #[.int .i64 r_14.1.N, .int .u8 r_14.1.D], .bool r_14.2], .tuple #[.agg #[.int .i64 r_14.1.N, .int .u8 r_14.1.D], .bool r_14.2], .agg #[.int .i64 r_14.1.N, .int .u8 r_14.1.D], .bool r_14.2, .bool r_1.2, .bool r_1.2, .agg #[.int .i64 r_1.1.N, .int .u8 r_1.1.D], .agg #[.int .i64 125, .int .u8 1], .bool c_13, .bool c_13, .bool c_13, .agg #[.int .i64 r_1.1.N, .int .u8 r_1.1.D], .string ⟨⟨r_42⟩⟩, .bool (eqs r_42 ([49, 50, 46, 53] : List UInt8)), .bool (eqs r_42 ([49, 50, 46, 53] : List UInt8)), .bool (eqs r_42 ([49, 50, 46, 53] : List UInt8)), .bool r_43, .bool r_43, .bool r_43, .bool r_44, .bool r_44, .bool r_44, .bool r_45, .bool r_45, .bool r_45, undef, .bool false, .bool false, undef, .bool false, .bool false, undef, .bool false, .bool false, undef, undef, undef, .bool false, .bool false, undef, undef, .bool false, .bool false, undef, .bool false, .bool false, undef, undef, undef, .bool false, .bool false, undef, undef, .bool false, .bool false, undef, .bool false, .bool false, undef, undef, .bool false, .bool false, undef, undef, .bool false, .bool false, undef, .bool false, .bool false, undef, undef, undef, undef] (by kernel_rfl) ?_
                refine wx_take_not0 (by kernel_rfl) (by kernel_rfl) ?_
                refine wx_not0 (by kernel_rfl) (by kernel_rfl) ?_
                refine wx_take_not0 (by kernel_rfl) (by kernel_rfl) ?_
                refine wx_take (v := .bool false) (by kernel_rfl) (fun w' hS => run_pick_f (v := .bool false) (by kernel_rfl) (by kernel_rfl)) ?_
                refine wx_take (v := .bool false) (by kernel_rfl) (fun w' hS => run_assign (v := .bool false) (by kernel_rfl)) ?_
                refine wx_nil ?_
                have hS : Stp w0.heap.size _ [] F [] w_60 _ := Stp.pick hL [] rfl (by decide)
                replace hB := hS.below hL hB
                replace hL := hS.hL
                exact then_c ⟨false, (fun i => ([.bool r_1.2, .bool r_1.2, .agg #[.int .i64 r_1.1.N, .int .u8 r_1.1.D], .agg #[.int .i64 125, .int .u8 1], .bool c_13, .bool c_13, .bool c_13, .agg #[.int .i64 r_1.1.N, .int .u8 r_1.1.D], .string ⟨⟨r_42⟩⟩, .bool (eqs r_42 ([49, 50, 46, 53] : List UInt8)), .bool (eqs r_42 ([49, 50, 46, 53] : List UInt8)), .bool (eqs r_42 ([49, 50, 46, 53] : List UInt8)), .bool r_43, .bool r_43, .bool r_43, .bool r_44, .bool r_44, .bool r_44, .bool r_45, .bool r_45, .bool r_45, undef, .bool false, .bool false, undef, .bool false, .bool false, undef, .bool false, .bool false, undef, undef, undef, .bool false, .bool false, undef, undef, .bool false, .bool false, undef, .bool false, .bool false, undef, undef, undef, .bool false, .bool false, undef, undef, .bool false, .bool false, undef, .bool false, .bool false, undef, undef, .bool false, .bool false, undef, undef, .bool false, .bool false, undef, .bool false, .bool false, undef, undef, undef, .bool false] : List Value).getD i undef), by kernel_rfl, hL, hB, hm⟩
            · have hm := ite_f hm hc_59
              refine wx_not0 (wg (c := r_44) (want := true) (by kernel_rfl) hc_59 rfl) (by kernel_rfl) ?_
              refine wx_take (v := .bool false) (by kernel_rfl) (fun w' hS => run_pick_f (v := .bool false) (tr2 (c := r_44) (by kernel_rfl) hc_59) (by kernel_rfl)) ?_
              refine wx_take (v := .bool false) (by kernel_rfl) (fun w' hS => run_move (v := .bool false) (by kernel_rfl)) ?_
              refine wx_not0 (by kernel_rfl) (by kernel_rfl) ?_
              refine wx_take (v := .bool false) (by kernel_rfl) (fun w' hS => run_pick_f (v := .bool false) (by kernel_rfl) (by kernel_rfl)) ?_
              refine wx_take (v := .bool false) (by kernel_rfl) (fun w' hS => run_move (v := .bool false) (by kernel_rfl)) ?_
              refine wx_not0 (by kernel_rfl) (by kernel_rfl) ?_
              refine wx_take (v := .bool false) (by kernel_rfl) (fun w' hS => run_pick_f (v := .bool false) (by kernel_rfl) (by kernel_rfl)) ?_
              refine wx_take (v := .bool false) (by kernel_rfl) (fun w' hS => run_move (v := .bool false) (by kernel_rfl)) ?_
              refine wx_norm [.bool false, .pointer (some ⟨g_1, 0, none⟩), .bool r_1.2, .pointer (some ⟨g_2, 0, none⟩), .bool r_3.2, .pointer (some ⟨g_3, 0, none⟩), .bool r_5.2, .pointer (some ⟨g_4, 0, none⟩), .bool r_7.2, .pointer (some ⟨g_5, 0, none⟩), .bool r_9.2, .int .u16 r_11.1, .bool r_11.2, .int .u16 r_13.1, .bool r_13.2, .pointer (some ⟨g_6, 0, none⟩), .bool r_14.2, .tuple #[.agg #[.int .i64 r_1.1.N, .int .u8 r_1.1.D], .bool r_1.2], .tuple #[.agg #[.int .i64 r_1.1.N, .int .u8 r_1.1.D], .bool r_1.2], .agg #[.int .i64 r_1.1.N, .int .u8 r_1.1.D], .bool r_1.2, .tuple #[.agg #[.int .i64 r_3.1.N, .int .u8 r_3.1.D], .bool r_3.2], .agg #[.int .i64 r_2.N, .int .u8 r_2.D], .tuple #[.agg #[.int .i64 r_3.1.N, .int .u8 r_3.1.D], .bool r_3.2], .agg #[.int .i64 r_3.1.N, .int .u8 r_3.1.D], .bool r_3.2, .tuple #[.agg #[.int .i64 r_5.1.N, .int .u8 r_5.1.D], .bool r_5.2], .agg #[.int .i64 r_4.N, .int .u8 r_4.D], .tuple #[.agg #[.int .i64 r_5.1.N, .int .u8 r_5.1.D], .bool r_5.2], .agg #[.int .i64 r_5.1.N, .int .u8 r_5.1.D], .bool r_5.2, .tuple #[.agg #[.int .i64 r_7.1.N, .int .u8 r_7.1.D], .bool r_7.2], .agg #[.int .i64 r_6.N, .int .u8 r_6.D], .tuple #[.agg #[.int .i64 r_7.1.N, .int .u8 r_7.1.D], .bool r_7.2], .agg #[.int .i64 r_7.1.N, .int .u8 r_7.1.D], .bool r_7.2, .tuple #[.agg #[.int .i64 r_9.1.N, .int .u8 r_9.1.D], .bool r_9.2], .agg #[.int .i64 r_8.N, .int .u8 r_8.D], .tuple #[.agg #[.int .i64 r_9.1.N, .int .u8 r_9.1.D], .bool r_9.2], .agg #[.int .i64 r_9.1.N, .int .u8 r_9.1.D], .bool r_9.2, .tuple #[.int .u16 r_11.1, .bool r_11.2], .agg #[.int .i64 r_10.N, .int .u8 r_10.D], .tuple #[.int .u16 r_11.1, .bool r_11.2], .int .u16 r_11.1, .bool r_11.2, .tuple #[.int .u16 r_13.1, .bool r_13.2], .agg #[.int .i64 r_12.N, .int .u8 r_12.D], .tuple #[.int .u16 r_13.1, .bool r_13.2], .int .u16 r_13.1, .bool r_13.2, .tuple #[.agg #[.int .i64 r_14.1.N, .int .u8 r_14.1.D], .bool r_14.2], .tuple #[.agg #[.int .i64 r_14.1.N, .int .u8 r_14.1.D], .bool r_14.2], .agg #[.int .i64 r_14.1.N, .int .u8 r_14.1.D], .bool r_14.2, .bool r_1.2, .bool r_1.2, .agg #[.int .i64 r_1.1.N, .int .u8 r_1.1.D], .agg #[.int .i64 125, .int .u8 1], .bool c_13, .bool c_13, .bool c_13, .agg #[.int .i64 r_1.1.N, .int .u8 r_1.1.D], .string ⟨⟨r_42⟩⟩, .bool (eqs r_42 ([49, 50, 46, 53] : List UInt8)), .bool (eqs r_42 ([49, 50, 46, 53] : List UInt8)), .bool (eqs r_42 ([49, 50, 46, 53] : List UInt8)), .bool r_43, .bool r_43, .bool r_43, .bool r_44, .bool r_44, .bool r_44, undef, .bool false, .bool false, undef, .bool false, .bool false, undef, .bool false, .bool false, undef, undef, undef, undef, undef, undef, undef, undef, undef, undef, undef, undef, undef, undef, undef, undef, undef, undef, undef, undef, undef, undef, undef, undef, undef, undef, undef, undef, undef, undef, undef, undef, undef, undef, undef, undef, undef, undef, undef, undef, undef, undef] (by kernel_rfl) ?_
              refine wx_take_not0 (by kernel_rfl) (by kernel_rfl) ?_
              refine wx_take (v := .bool false) (by kernel_rfl) (fun w' hS => run_pick_f (v := .bool false) (by kernel_rfl) (by kernel_rfl)) ?_
              refine wx_take (v := .bool false) (by kernel_rfl) (fun w' hS => run_move (v := .bool false) (by kernel_rfl)) ?_
              refine wx_take_not0 (by kernel_rfl) (by kernel_rfl) ?_
              refine wx_not0 (by kernel_rfl) (by kernel_rfl) ?_
              refine wx_take_not0 (by kernel_rfl) (by kernel_rfl) ?_
              refine wx_take (v := .bool false) (by kernel_rfl) (fun w' hS => run_pick_f (v := .bool false) (by kernel_rfl) (by kernel_rfl)) ?_
              refine wx_take (v := .bool false) (by kernel_rfl) (fun w' hS => run_move (v := .bool false) (by kernel_rfl)) ?_
              refine wx_take_not0 (by kernel_rfl) (by kernel_rfl) ?_
              refine wx_take_not0 (by kernel_rfl) (by kernel_rfl) ?_
              refine wx_take (v := .bool false) (by kernel_rfl) (fun w' hS => run_pick_f (v := .bool false) (by kernel_rfl) (by kernel_rfl)) ?_
              refine wx_take (v := .bool false) (by kernel_rfl) (fun w' hS => run_move (v := .bool false) (by kernel_rfl)) ?_
              refine wx_take_not0 (by kernel_rfl) (by kernel_rfl) ?_
              refine wx_take (v := .bool false) (by kernel_rfl) (fun w' hS => run_pick_f (v := .bool false) (by kernel_rfl) (by kernel_rfl)) ?_
              refine wx_take (v := .bool false) (by kernel_rfl) (fun w' hS => run_move (v := .bool false) (by kernel_rfl)) ?_
              refine wx_take_not0 (by kernel_rfl) (by kernel_rfl) ?_
              refine wx_not0 (by kernel_rfl) (by kernel_rfl) ?_
              refine wx_take_not0 (by kernel_rfl) (by kernel_rfl) ?_
              refine wx_take (v := .bool false) (by kernel_rfl) (fun w' hS => run_pick_f (v := .bool false) (by kernel_rfl) (by kernel_rfl)) ?_
              refine wx_take (v := .bool false) (by kernel_rfl) (fun w' hS => run_move (v := .bool false) (by kernel_rfl)) ?_
              refine wx_norm [.bool false, .pointer (some ⟨g_1, 0, none⟩), .bool r_1.2, .pointer (some ⟨g_2, 0, none⟩), .bool r_3.2, .pointer (some ⟨g_3, 0, none⟩), .bool r_5.2, .pointer (some ⟨g_4, 0, none⟩), .bool r_7.2, .pointer (some ⟨g_5, 0, none⟩), .bool r_9.2, .int .u16 r_11.1, .bool r_11.2, .int .u16 r_13.1, .bool r_13.2, .pointer (some ⟨g_6, 0, none⟩), .bool r_14.2, .tuple #[.agg #[.int .i64 r_1.1.N, .int .u8 r_1.1.D], .bool r_1.2], .tuple #[.agg #[.int .i64 r_1.1.N, .int .u8 r_1.1.D], .bool r_1.2], .agg #[.int .i64 r_1.1.N, .int .u8 r_1.1.D], .bool r_1.2, .tuple #[.agg #[.int .i64 r_3.1.N, .int .u8 r_3.1.D], .bool r_3.2], .agg #[.int .i64 r_2.N, .int .u8 r_2.D], .tuple #[.agg #[.int .i64 r_3.1.N, .int .u8 r_3.1.D], .bool r_3.2], .agg #[.int .i64 r_3.1.N, .int .u8 r_3.1.D], .bool r_3.2, .tuple #[.agg #[.int .i64 r_5.1.N, .int .u8 r_5.1.D], .bool r_5.2], .agg #[.int .i64 r_4.N, .int .u8 r_4.D], .tuple #[.agg #[.int .i64 r_5.1.N, .int .u8 r_5.1.D], .bool r_5.2], .agg #[.int .i64 r_5.1.N, .int .u8 r_5.1.D], .bool r_5.2, .tuple #[.agg #[.int .i64 r_7.1.N, .int .u8 r_7.1.D], .bool r_7.2], .agg #[.int .i64 r_6.N, .int .u8 r_6.D], .tuple #[.agg #[.int .i64 r_7.1.N, .int .u8 r_7.1.D], .bool r_7.2], .agg #[.int .i64 r_7.1.N, .int .u8 r_7.1.D], .bool r_7.2, .tuple #[.agg #[.int .i64 r_9.1.N, .int .u8 r_9.1.D], .bool r_9.2], .agg #[.int .i64 r_8.N, .int .u8 r_8.D], .tuple #[.agg #[.int .i64 r_9.1.N, .int .u8 r_9.1.D], .bool r_9.2], .agg #[.int .i64 r_9.1.N, .int .u8 r_9.1.D], .bool r_9.2, .tuple #[.int .u16 r_11.1, .bool r_11.2], .agg #[.int .i64 r_10.N, .int .u8 r_10.D], .tuple #[.int .u16 r_11.1, .bool r_11.2], .int .u16 r_11.1, .bool r_11.2, .tuple #[.int .u16 r_13.1, .bool r_13.2], .agg #[.int .i64 r_12.N, .int .u8 r_12.D], .tuple #[.int .u16 r_13.1, .bool r_13.2], .int .u16 r_13.1, .bool r_13.2, .tuple #[.agg #[.int .i64 r_14.1.N, .int .u8 r_14.1.D], .bool r_14.2], .tuple #[.agg #[.int .i64 r_14.1.N, .int .u8 r_14.1.D], .bool r_14.2], .agg #[.int .i64 r_14.1.N, .int .u8 r_14.1.D], .bool r_14.2, .bool r_1.2, .bool r_1.2, .agg #[.int .i64 r_1.1.N, .int .u8 r_1.1.D], .agg #[.int .i64 125, .int .u8 1], .bool c_13, .bool c_13, .bool c_13, .agg #[.int .i64 r_1.1.N, .int .u8 r_1.1.D], .string ⟨⟨r_42⟩⟩, .bool (eqs r_42 ([49, 50, 46, 53] : List UInt8)), .bool (eqs r_42 ([49, 50, 46, 53] : List UInt8)), .bool (eqs r_42 ([49, 50, 46, 53] : List UInt8)), .bool r_43, .bool r_43, .bool r_43, .bool r_44, .bool r_44, .bool r_44, undef, .bool false, .bool false, undef, .bool false, .bool false, undef, .bool false, .bool false, undef, .bool false, .bool false, undef, undef, undef, .bool false, .bool false, undef, undef, .bool false, .bool false, undef, .bool false, .bool false, undef, undef, undef, .bool false, .bool false, undef, undef, undef, undef, undef, undef, undef, undef, undef, undef, undef, undef, undef, undef, undef, undef, undef, undef, undef, undef, undef, undef] (by kernel_rfl) ?_
              refine wx_take_not0 (by kernel_rfl) (by kernel_rfl) ?_
              refine wx_take_not0 (by kernel_rfl) (by kernel_rfl) ?_
              refine wx_take (v := .bool false) (by kernel_rfl) (fun w' hS => run_pick_f (v := .bool false) (by kernel_rfl) (by kernel_rfl)) ?_
              refine wx_take (v := .bool false) (by kernel_rfl) (fun w' hS => run_move (v := .bool false) (by kernel_rfl)) ?_
              refine wx_take_not0 (by kernel_rfl) (by kernel_rfl) ?_
              refine wx_take (v := .bool false) (by kernel_rfl) (fun w' hS => run_pick_f (v := .bool false) (by kernel_rfl) (by kernel_rfl)) ?_
              refine wx_take (v := .bool false) (by kernel_rfl) (fun w' hS => run_move (v := .bool false) (by kernel_rfl)) ?_
              refine wx_take_not0 (by kernel_rfl) (by kernel_rfl) ?_
              refine wx_take_not0 (by kernel_rfl) (by kernel_rfl) ?_
              refine wx_take (v := .bool false) (by kernel_rfl) (fun w' hS => run_pick_f (v := .bool false) (by kernel_rfl) (by kernel_rfl)) ?_
              refine wx_take (v := .bool false) (by kernel_rfl) (fun w' hS => run_move (v := .bool false) (by kernel_rfl)) ?_
              refine wx_take_not0 (by kernel_rfl) (by kernel_rfl) ?_
              refine wx_take_not0 (by kernel_rfl) (by kernel_rfl) ?_
              refine wx_take (v := .bool false) (by kernel_rfl) (fun w' hS => run_pick_f (v := .bool false) (by kernel_rfl) (by kernel_rfl)) ?_
              refine wx_take (v := .bool false) (by kernel_rfl) (fun w' hS => run_move (v := .bool false) (by kernel_rfl)) ?_
              refine wx_take_not0 (by kernel_rfl) (by kernel_rfl) ?_
              refine wx_take (v := .bool false) (by kernel_rfl) (fun w' hS => run_pick_f (v := .bool false) (by kernel_rfl) (by kernel_rfl)) ?_
              refine wx_take (v := .bool false) (by kernel_rfl) (fun w' hS => run_move (v := .bool false) (by kernel_rfl)) ?_
              refine wx_norm [.bool false, .pointer (some ⟨g_1, 0, none⟩), .bool r_1.2, .pointer (some ⟨g_2, 0, none⟩), .bool r_3.2, .pointer (some ⟨g_3, 0, none⟩), .bool r_5.2, .pointer (some ⟨g_4, 0, none⟩), .bool r_7.2, .pointer (some ⟨g_5, 0, none⟩), .bool r_9.2, .int .u16 r_11.1, .bool r_11.2, .int .u16 r_13.1, .bool r_13.2, .pointer (some ⟨g_6, 0, none⟩), .bool r_14.2, .tuple #[.agg #[.int .i64 r_1.1.N, .int .u8 r_1.1.D], .bool r_1.2], .tuple #[.agg #[.int .i64 r_1.1.N, .int .u8 r_1.1.D], .bool r_1.2], .agg #[.int .i64 r_1.1.N, .int .u8 r_1.1.D], .bool r_1.2, .tuple #[.agg #[.int .i64 r_3.1.N, .int .u8 r_3.1.D], .bool r_3.2], .agg #[.int .i64 r_2.N, .int .u8 r_2.D], .tuple #[.agg #[.int .i64 r_3.1.N, .int .u8 r_3.1.D], .bool r_3.2], .agg #[.int .i64 r_3.1.N, .int .u8 r_3.1.D], .bool r_3.2, .tuple #[.agg #[.int .i64 r_5.1.N, .int .u8 r_5.1.D], .bool r_5.2], .agg #[.int .i64 r_4.N, .int .u8 r_4.D], .tuple #[.agg #[.int .i64 r_5.1.N, .int .u8 r_5.1.D], .bool r_5.2], .agg #[.int .i64 r_5.1.N, .int .u8 r_5.1.D], .bool r_5.2, .tuple #[.agg #[.int .i64 r_7.1.N, .int .u8 r_7.1.D], .bool r_7.2], .agg #[.int .i64 r_6.N, .int .u8 r_6.D], .tuple #[.agg #[.int .i64 r_7.1.N, .int .u8 r_7.1.D], .bool r_7.2], .agg #[.int .i64 r_7.1.N, .int .u8 r_7.1.D], .bool r_7.2, .tuple #[.agg #[.int .i64 r_9.1.N, .int .u8 r_9.1.D], .bool r_9.2], .agg #[.int .i64 r_8.N, .int .u8 r_8.D], .tuple #[.agg #[.int .i64 r_9.1.N, .int .u8 r_9.1.D], .bool r_9.2], .agg #[.int .i64 r_9.1.N, .int .u8 r_9.1.D], .bool r_9.2, .tuple #[.int .u16 r_11.1, .bool r_11.2], .agg #[.int .i64 r_10.N, .int .u8 r_10.D], .tuple #[.int .u16 r_11.1, .bool r_11.2], .int .u16 r_11.1, .bool r_11.2, .tuple #[.int .u16 r_13.1, .bool r_13.2], .agg #[.int .i64 r_12.N, .int .u8 r_12.D], .tuple #[.int .u16 r_13.1, .bool r_13.2], .int .u16 r_13.1, .bool r_13.2, .tuple #[.agg #[.int .i64 r_14.1.N, .int .u8 r_14.1.D], .bool r_14.2], .tuple #[.agg #[.int .i64 r_14.1.N, .int .u8 r_14.1.D], .bool r_14.2], .agg #[.int .i64 r_14.1.N, .int .u8 r_14.1.D], .bool r_14.2, .bool r_1.2, .bool r_1.2, .agg #[.int .i64 r_1.1.N, .int .u8 r_1.1.D], .agg #[.int .i64 125, .int .u8 1], .bool c_13, .bool c_13, .bool c_13, .agg #[.int .i64 r_1.1.N, .int .u8 r_1.1.D], .string ⟨⟨r_42⟩⟩, .bool (eqs r_42 ([49, 50, 46, 53] : List UInt8)), .bool (eqs r_42 ([49, 50, 46, 53] : List UInt8)), .bool (eqs r_42 ([49, 50, 46, 53] : List UInt8)), .bool r_43, .bool r_43, .bool r_43, .bool r_44, .bool r_44, .bool r_44, undef, .bool false, .bool false, undef, .bool false, .bool false, undef, .bool false, .bool false, undef, .bool false, .bool false, undef, undef, undef, .bool false, .bool false, undef, undef, .bool false, .bool false, undef, .bool false, .bool false, undef, undef, undef, .bool false, .bool false, undef, undef, .bool false, .bool false, undef, .bool false, .bool false, undef, undef, .bool false, .bool false, undef, undef, .bool false, .bool false, undef, .bool false, .bool false, undef, undef, undef, undef] (by kernel_rfl) ?_
              refine wx_take_not0 (by kernel_rfl) (by kernel_rfl) ?_
              refine wx_not0 (by kernel_rfl) (by kernel_rfl) ?_
              refine wx_take_not0 (by kernel_rfl) (by kernel_rfl) ?_
              refine wx_take (v := .bool false) (by kernel_rfl) (fun w' hS => run_pick_f (v := .bool false) (by kernel_rfl) (by kernel_rfl)) ?_
              refine wx_take (v := .bool false) (by kernel_rfl) (fun w' hS => run_assign (v := .bool false) (by kernel_rfl)) ?_
              refine wx_nil ?_
              have hS : Stp w0.heap.size _ [] F [] w_59 _ := Stp.pick hL [] rfl (by decide)
              replace hB := hS.below hL hB
              replace hL := hS.hL
              exact then_c ⟨false, (fun i => ([.bool r_1.2, .bool r_1.2, .agg #[.int .i64 r_1.1.N, .int .u8 r_1.1.D], .agg #[.int .i64 125, .int .u8 1], .bool c_13, .bool c_13, .bool c_13, .agg #[.int .i64 r_1.1.N, .int .u8 r_1.1.D], .string ⟨⟨r_42⟩⟩, .bool (eqs r_42 ([49, 50, 46, 53] : List UInt8)), .bool (eqs r_42 ([49, 50, 46, 53] : List UInt8)), .bool (eqs r_42 ([49, 50, 46, 53] : List UInt8)), .bool r_43, .bool r_43, .bool r_43, .bool r_44, .bool r_44, .bool r_44, undef, .bool false, .bool false, undef, .bool false, .bool false, undef, .bool false, .bool false, undef, .bool false, .bool false, undef, undef, undef, .bool false, .bool false, undef, undef, .bool false, .bool false, undef, .bool false, .bool false, undef, undef, undef, .bool false, .bool false, undef, undef, .bool false, .bool false, undef, .bool false, .bool false, undef, undef, .bool false, .bool false, undef, undef, .bool false, .bool false, undef, .bool false, .bool false, undef, undef, undef, .bool false] : List Value).getD i undef), by kernel_rfl, hL, hB, hm⟩
          · have hm := ite_f hm hc_58
            refine wx_not0 (wg (c := r_43) (want := true) (by kernel_rfl) hc_58 rfl) (by kernel_rfl) ?_
            refine wx_take (v := .bool false) (by kernel_rfl) (fun w' hS => run_pick_f (v := .bool false) (tr2 (c := r_43) (by kernel_rfl) hc_58) (by kernel_rfl)) ?_
            refine wx_take (v := .bool false) (by kernel_rfl) (fun w' hS => run_move (v := .bool false) (by kernel_rfl)) ?_
            refine wx_not0 (by kernel_rfl) (by kernel_rfl) ?_
            refine wx_take (v := .bool false) (by kernel_rfl) (fun w' hS => run_pick_f (v := .bool false) (by kernel_rfl) (by kernel_rfl)) ?_
            refine wx_take (v := .bool false) (by kernel_rfl) (fun w' hS => run_move (v := .bool false) (by kernel_rfl)) ?_
            refine wx_not0 (by kernel_rfl) (by kernel_rfl) ?_
            refine wx_take (v := .bool false) (by kernel_rfl) (fun w' hS => run_pick_f (v := .bool false) (by kernel_rfl) (by kernel_rfl)) ?_
            refine wx_take (v := .bool false) (by kernel_rfl) (fun w' hS => run_move (v := .bool false) (by kernel_rfl)) ?_
            refine wx_not0 (by kernel_rfl) (by kernel_rfl) ?_
            refine wx_take (v := .bool false) (by kernel_rfl) (fun w' hS => run_pick_f (v := .bool false) (by kernel_rfl) (by kernel_rfl)) ?_
            refine wx_take (v := .bool false) (by kernel_rfl) (fun w' hS => run_move (v := .bool false) (by kernel_rfl)) ?_
            refine wx_norm [.bool false, .pointer (some ⟨g_1, 0, none⟩), .bool r_1.2, .pointer (some ⟨g_2, 0, none⟩), .bool r_3.2, .pointer (some ⟨g_3, 0, none⟩), .bool r_5.2, .pointer (some ⟨g_4, 0, none⟩), .bool r_7.2, .pointer (some ⟨g_5, 0, none⟩), .bool r_9.2, .int .u16 r_11.1, .bool r_11.2, .int .u16 r_13.1, .bool r_13.2, .pointer (some ⟨g_6, 0, none⟩), .bool r_14.2, .tuple #[.agg #[.int .i64 r_1.1.N, .int .u8 r_1.1.D], .bool r_1.2], .tuple #[.agg #[.int .i64 r_1.1.N, .int .u8 r_1.1.D], .bool r_1.2], .agg #[.int .i64 r_1.1.N, .int .u8 r_1.1.D], .bool r_1.2, .tuple #[.agg #[.int .i64 r_3.1.N, .int .u8 r_3.1.D], .bool r_3.2], .agg #[.int .i64 r_2.N, .int .u8 r_2.D], .tuple #[.agg #[.int .i64 r_3.1.N, .int .u8 r_3.1.D], .bool r_3.2], .agg #[.int .i64 r_3.1.N, .int .u8 r_3.1.D], .bool r_3.2, .tuple #[.agg #[.int .i64 r_5.1.N, .int .u8 r_5.1.D], .bool r_5.2], .agg #[.int .i64 r_4.N, .int .u8 r_4.D], .tuple #[.agg #[.int .i64 r_5.1.N, .int .u8 r_5.1.D], .bool r_5.2], .agg #[.int .i64 r_5.1.N, .int .u8 r_5.1.D], .bool r_5.2, .tuple #[.agg #[.int .i64 r_7.1.N, .int .u8 r_7.1.D], .bool r_7.2], .agg #[.int .i64 r_6.N, .int .u8 r_6.D], .tuple #[.agg #[.int .i64 r_7.1.N, .int .u8 r_7.1.D], .bool r_7.2], .agg #[.int .i64 r_7.1.N, .int .u8 r_7.1.D], .bool r_7.2, .tuple #[.agg #[.int .i64 r_9.1.N, .int .u8 r_9.1.D], .bool r_9.2], .agg #[.int .i64 r_8.N, .int .u8 r_8.D], .tuple #[.agg #[.int .i64 r_9.1.N, .int .u8 r_9.1.D], .bool r_9.2], .agg #[.int .i64 r_9.1.N, .int .u8 r_9.1.D], .bool r_9.2, .tuple #[.int .u16 r_11.1, .bool r_11.2], .agg #[.int .i64 r_10.N, .int .u8 r_10.D], .tuple #[.int .u16 r_11.1, .bool r_11.2], .int .u16 r_11.1, .bool r_11.2, .tuple #[.int .u16 r_13.1, .bool r_13.2], .agg #[.int .i64 r_12.N, .int .u8 r_12.D], .tuple #[.int .u16 r_13.1, .bool r_13.2], .int .u16 r_13.1, .bool r_13.2, .tuple #[.agg #[.int .i64 r_14.1.N, .int .u8 r_14.1.D], .bool r_14.2], .tuple #[.agg #[.int .i64 r_14.1.N, .int .u8 r_14.1.D], .bool r_14.2], .agg #[.int .i64 r_14.1.N, .int .u8 r_14.1.D], .bool r_14.2, .bool r_1.2, .bool r_1.2, .agg #[.int .i64 r_1.1.N, .int .u8 r_1.1.D], .agg #[.int .i64 125, .int .u8 1], .bool c_13, .bool c_13, .bool c_13, .agg #[.int .i64 r_1.1.N, .int .u8 r_1.1.D], .string ⟨⟨r_42⟩⟩, .bool (eqs r_42 ([49, 50, 46, 53] : List UInt8)), .bool (eqs r_42 ([49, 50, 46, 53] : List UInt8)), .bool (eqs r_42 ([49, 50, 46, 53] : List UInt8)), .bool r_43, .bool r_43, .bool r_43, undef, .bool false, .bool false, undef, .bool false, .bool false, undef, .bool false, .bool false, undef, .bool false, .bool false, undef, undef, undef, undef, undef, undef, undef, undef, undef, undef, undef, undef, undef, undef, undef, undef, undef, undef, undef, undef, undef, undef, undef, undef, undef, undef, undef, undef, undef, undef, undef, undef, undef, undef, undef, undef, undef, undef, undef, undef, undef, undef] (by kernel_rfl) ?_
            refine wx_take_not0 (by kernel_rfl) (by kernel_rfl) ?_
            refine wx_take (v := .bool false) (by kernel_rfl) (fun w' hS => run_pick_f (v := .bool false) (by kernel_rfl) (by kernel_rfl)) ?_
            refine wx_take (v := .bool false) (by kernel_rfl) (fun w' hS => run_move (v := .bool false) (by kernel_rfl)) ?_
            refine wx_take_not0 (by kernel_rfl) (by kernel_rfl) ?_
            refine wx_not0 (by kernel_rfl) (by kernel_rfl) ?_
            refine wx_take_not0 (by kernel_rfl) (by kernel_rfl) ?_
            refine wx_take (v := .bool false) (by kernel_rfl) (fun w' hS => run_pick_f (v := .bool false) (by kernel_rfl) (by kernel_rfl)) ?_
            refine wx_take (v := .bool false) (by kernel_rfl) (fun w' hS => run_move (v := .bool false) (by kernel_rfl)) ?_
            refine wx_take_not0 (by kernel_rfl) (by kernel_rfl) ?_
            refine wx_take_not0 (by kernel_rfl) (by kernel_rfl) ?_
            refine wx_take (v := .bool false) (by kernel_rfl) (fun w' hS => run_pick_f (v := .bool false) (by kernel_rfl) (by kernel_rfl)) ?_
            refine wx_take (v := .bool false) (by kernel_rfl) (fun w' hS => run_move (v := .bool false) (by kernel_rfl)) ?_
            refine wx_take_not0 (by kernel_rfl) (by kernel_rfl) ?_
            refine wx_take (v := .bool false) (by kernel_rfl) (fun w' hS => run_pick_f (v := .bool false) (by kernel_rfl) (by kernel_rfl)) ?_
            refine wx_take (v := .bool false) (by kernel_rfl) (fun w' hS => run_move (v := .bool false) (by kernel_rfl)) ?_
            refine wx_take_not0 (by kernel_rfl) (by kernel_rfl) ?_
            refine wx_not0 (by kernel_rfl) (by kernel_rfl) ?_
            refine wx_take_not0 (by kernel_rfl) (by kernel_rfl) ?_
            refine wx_take (v := .bool false) (by kernel_rfl) (fun w' hS => run_pick_f (v := .bool false) (by kernel_rfl) (by kernel_rfl)) ?_
            refine wx_take (v := .bool false) (by kernel_rfl) (fun w' hS => run_move (v := .bool false) (by kernel_rfl)) ?_
            refine wx_norm [.bool false, .pointer (some ⟨g_1, 0, none⟩), .bool r_1.2, .pointer (some ⟨g_2, 0, none⟩), .bool r_3.2, .pointer (some ⟨g_3, 0, none⟩), .bool r_5.2, .pointer (some ⟨g_4, 0, none⟩), .bool r_7.2, .pointer (some ⟨g_5, 0, none⟩), .bool r_9.2, .int .u16 r_11.1, .bool r_11.2, .int .u16 r_13.1, .bool r_13.2, .pointer (some ⟨g_6, 0, none⟩), .bool r_14.2, .tuple #[.agg #[.int .i64 r_1.1.N, .int .u8 r_1.1.D], .bool r_1.2], .tuple #[.agg #[.int .i64 r_1.1.N, .int .u8 r_1.1.D], .bool r_1.2], .agg #[.int .i64 r_1.1.N, .int .u8 r_1.1.D], .bool r_1.2, .tuple #[.agg #[.int .i64 r_3.1.N, .int .u8 r_3.1.D], .bool r_3.2], .agg #[.int .i64 r_2.N, .int .u8 r_2.D], .tuple #[.agg #[.int .i64 r_3.1.N, .int .u8 r_3.1.D], .bool r_3.2], .agg #[.int .i64 r_3.1.N, .int .u8 r_3.1.D], .bool r_3.2, .tuple #[.agg #[.int .i64 r_5.1.N, .int .u8 r_5.1.D], .bool r_5.2], .agg #[.int .i64 r_4.N, .int .u8 r_4.D], .tuple #[.agg #[.int .i64 r_5.1.N, .int .u8 r_5.1.D], .bool r_5.2], .agg #[.int .i64 r_5.1.N, .int .u8 r_5.1.D], .bool r_5.2, .tuple #[.agg #[.int .i64 r_7.1.N, .int .u8 r_7.1.D], .bool r_7.2], .agg #[.int .i64 r_6.N, .int .u8 r_6.D], .tuple #[.agg #[.int .i64 r_7.1.N, .int .u8 r_7.1.D], .bool r_7.2], .agg #[.int .i64 r_7.1.N, .int .u8 r_7.1.D], .bool r_7.2, .tuple #[.agg #[.int .i64 r_9.1.N, .int .u8 r_9.1.D], .bool r_9.2], .agg #[.int .i64 r_8.N, .int .u8 r_8.D], .tuple #[.agg #[.int .i64 r_9.1.N, .int .u8 r_9.1.D], .bool r_9.2], .agg #[.int .i64 r_9.1.N, .int .u8 r_9.1.D], .bool r_9.2, .tuple #[.int .u16 r_11.1, .bool r_11.2], .agg #[.int .i64 r_10.N, .int .u8 r_10.D], .tuple #[.int .u16 r_11.1, .bool r_11.2], .int .u16 r_11.1, .bool r_11.2, .tuple #[.int .u16 r_13.1, .bool r_13.2], .agg #[.int .i64 r_12.N, .int .u8 r_12.D], .tuple #[.int .u16 r_13.1, .bool r_13.2], .int .u16 r_13.1, .bool r_13.2, .tuple #[.agg #[.int .i64 r_14.1.N, .int .u8 r_14.1.D], .bool r_14.2], .tuple #[.agg #[.int .i64 r_14.1.N, .int .u8 r_14.1.D], .bool r_14.2], .agg #[.int .i64 r_14.1.N, .int .u8 r_14.1.D], .bool r_14.2, .bool r_1.2, .bool r_1.2, .agg #[.int .i64 r_1.1.N, .int .u8 r_1.1.D], .agg #[.int .i64 125, .int .u8 1], .bool c_13, .bool c_13, .bool c_13, .agg #[.int .i64 r_1.1.N, .int .u8 r_1.1.D], .string ⟨⟨r_42⟩⟩, .bool (eqs r_42 ([49, 50, 46, 53] : List UInt8)), .bool (eqs r_42 ([49, 50, 46, 53] : List UInt8)), .bool (eqs r_42 ([49, 50, 46, 53] : List UInt8)), .bool r_43, .bool r_43, .bool r_43, undef, .bool false, .bool false, undef, .bool false, .bool false, undef, .bool false, .bool false, undef, .bool false, .bool false, undef, .bool false, .bool false, undef, undef, undef, .bool false, .bool false, undef, undef, .bool false, .bool false, undef, .bool false, .bool false, undef, undef, undef, .bool false, .bool false, undef, undef, undef, undef, undef, undef, undef, undef, undef, undef, undef, undef, undef, undef, undef, undef, undef, undef, undef, undef, undef, undef] (by kernel_rfl) ?_
            refine wx_take_not0 (by kernel_rfl) (by kernel_rfl) ?_
            refine wx_take_not0 (by kernel_rfl) (by kernel_rfl) ?_
            refine wx_take (v := .bool false) (by kernel_rfl) (fun w' hS => run_pick_f (v := .bool false) (by kernel_rfl) (by kernel_rfl)) ?_
            refine wx_take (v := .bool false) (by kernel_rfl) (fun w' hS => run_move (v := .bool false) (by kernel_rfl)) ?_
            refine wx_take_not0 (by kernel_rfl) (by kernel_rfl) ?_
            refine wx_take (v := .bool false) (by kernel_rfl) (fun w' hS => run_pick_f (v := .bool false) (by kernel_rfl) (by kernel_rfl)) ?_
            refine wx_take (v := .bool false) (by kernel_rfl) (fun w' hS => run_move (v := .bool false) (by kernel_rfl)) ?_
            refine wx_take_not0 (by kernel_rfl) (by kernel_rfl) ?_
            refine wx_take_not0 (by kernel_rfl) (by kernel_rfl) ?_
            refine wx_take (v := .bool false) (by kernel_rfl) (fun w' hS => run_pick_f (v := .bool false) (by kernel_rfl) (by kernel_rfl)) ?_
            refine wx_take (v := .bool false) (by kernel_rfl) (fun w' hS => run_move (v := .bool false) (by kernel_rfl)) ?_
            refine wx_take_not0 (by kernel_rfl) (by kernel_rfl) ?_
            refine wx_take_not0 (by kernel_rfl) (by kernel_rfl) ?_
            refine wx_take (v := .bool false) (by kernel_rfl) (fun w' hS => run_pick_f (v := .bool false) (by kernel_rfl) (by kernel_rfl)) ?_
            refine wx_take (v := .bool false) (by kernel_rfl) (fun w' hS => run_move (v := .bool false) (by kernel_rfl)) ?_
            refine wx_take_not0 (by kernel_rfl) (by kernel_rfl) ?_
            refine wx_take (v := .bool false) (by kernel_rfl) (fun w' hS => run_pick_f (v := .bool false) (by kernel_rfl) (by kernel_rfl)) ?_
            refine wx_take (v := .bool false) (by kernel_rfl) (fun w' hS => run_move (v := .bool false) (by kernel_rfl)) ?_
            refine wx_norm [.bool false, .pointer (some ⟨g_1, 0, none⟩), .bool r_1.2, .pointer (some ⟨g_2, 0, none⟩), .bool r_3.2, .pointer (some ⟨g_3, 0, none⟩), .bool r_5.2, .pointer (some ⟨g_4, 0, none⟩), .bool r_7.2, .pointer (some ⟨g_5, 0, none⟩), .bool r_9.2, .int .u16 r_11.1, .bool r_11.2, .int .u16 r_13.1, .bool r_13.2, .pointer (some ⟨g_6, 0, none⟩), .bool r_14.2, .tuple #[.agg #[.int .i64 r_1.1.N, .int .u8 r_1.1.D], .bool r_1.2], .tuple #[.agg #[.int .i64 r_1.1.N, .int .u8 r_1.1.D], .bool r_1.2], .agg #[.int .i64 r_1.1.N, .int .u8 r_1.1.D], .bool r_1.2, .tuple #[.agg #[.int .i64 r_3.1.N, .int .u8 r_3.1.D], .bool r_3.2], .agg #[.int .i64 r_2.N, .int .u8 r_2.D], .tuple #[.agg #[.int .i64 r_3.1.N, .int .u8 r_3.1.D], .bool r_3.2], .agg #[.int .i64 r_3.1.N, .int .u8 r_3.1.D], .bool r_3.2, .tuple #[.agg #[.int .i64 r_5.1.N, .int .u8 r_5.1.D], .bool r_5.2], .agg #[.int .i64 r_4.N, .int .u8 r_4.D], .tuple #[.agg #[.int .i64 r_5.1.N, .int .u8 r_5.1.D], .bool r_5.2], .agg #[.int .i64 r_5.1.N, .int .u8 r_5.1.D], .bool r_5.2, .tuple #[.agg #[.int .i64 r_7.1.N, .int .u8 r_7.1.D], .bool r_7.2], .agg #[.int .i64 r_6.N, .int .u8 r_6.D], .tuple #[.agg #[.int .i64 r_7.1.N, .int .u8 r_7.1.D], .bool r_7.2], .agg #[.int .i64 r_7.1.N, .int .u8 r_7.1.D], .bool r_7.2, .tuple #[.agg #[.int .i64 r_9.1.N, .int .u8 r_9.1.D], .bool r_9.2], .agg #[.int .i64 r_8.N, .int .u8 r_8.D], .tuple #[.agg #[.int .i64 r_9.1.N, .int .u8 r_9.1.D], .bool r_9.2], .agg #[.int .i64 r_9.1.N, .int .u8 r_9.1.D], .bool r_9.2, .tuple #[.int .u16 r_11.1, .bool r_11.2], .agg #[.int .i64 r_10.N, .int .u8 r_10.D], .tuple #[.int .u16 r_11.1, .bool r_11.2], .int .u16 r_11.1, .bool r_11.2, .tuple #[.int .u16 r_13.1, .bool r_13.2], .agg #[.int .i64 r_12.N, .int .u8 r_12.D], .tuple #[.int .u16 r_13.1, .bool r_13.2], .int .u16 r_13.1, .bool r_13.2, .tuple #[.agg #[.int .i64 r_14.1.N, .int .u8 r_14.1.D], .bool r_14.2], .tuple #[.agg #[.int .i64 r_14.1.N, .int .u8 r_14.1.D], .bool r_14.2], .agg #[.int .i64 r_14.1.N, .int .u8 r_14.1.D], .bool r_14.2, .bool r_1.2, .bool r_1.2, .agg #[.int .i64 r_1.1.N, .int .u8 r_1.1.D], .agg #[.int .i64 125, .int .u8 1], .bool c_13, .bool c_13, .bool c_13, .agg #[.int .i64 r_1.1.N, .int .u8 r_1.1.D], .string ⟨⟨r_42⟩⟩, .bool (eqs r_42 ([49, 50, 46, 53] : List UInt8)), .bool (eqs r_42 ([49, 50, 46, 53] : List UInt8)), .bool (eqs r_42 ([49, 50, 46, 53] : List UInt8)), .bool r_43, .bool r_43, .bool r_43, undef, .bool false, .bool false, undef, .bool false, .bool false, undef, .bool false, .bool false, undef, .bool false, .bool false, undef, .bool false, .bool false, undef, undef, undef, .bool false, .bool false, undef, undef, .bool false, .bool false, undef, .bool false, .bool false, undef, undef, undef, .bool false, .bool false, undef, undef, .bool false, .bool false, undef, .bool false, .bool false, undef, undef, .bool false, .bool false, undef, undef, .bool false, .bool false, undef, .bool false, .bool false, undef, undef, undef, undef] (by kernel_rfl) ?_
            refine wx_take_not0 (by kernel_rfl) (by kernel_rfl) ?_
            refine wx_not0 (by kernel_rfl) (by kernel_rfl) ?_
            refine wx_take_not0 (by kernel_rfl) (by kernel_rfl) ?_
            refine wx_take (v := .bool false) (by kernel_rfl) (fun w' hS => run_pick_f (v := .bool false) (by kernel_rfl) (by kernel_rfl)) ?_
            refine wx_take (v := .bool false) (by kernel_rfl) (fun w' hS => run_assign (v := .bool false) (by kernel_rfl)) ?_
            refine wx_nil ?_
            have hS : Stp w0.heap.size _ [] F [] w_58 _ := Stp.pick hL [] rfl (by decide)
            replace hB := hS.below hL hB
            replace hL := hS.hL
            exact then_c ⟨false, (fun i => ([.bool r_1.2, .bool r_1.2, .agg #[.int .i64 r_1.1.N, .int .u8 r_1.1.D], .agg #[.int .i64 125, .int .u8 1], .bool c_13, .bool c_13, .bool c_13, .agg #[.int .i64 r_1.1.N, .int .u8 r_1.1.D], .string ⟨⟨r_42⟩⟩, .bool (eqs r_42 ([49, 50, 46, 53] : List UInt8)), .bool (eqs r_42 ([49, 50, 46, 53] : List UInt8)), .bool (eqs r_42 ([49, 50, 46, 53] : List UInt8)), .bool r_43, .bool r_43, .bool r_43, undef, .bool false, .bool false, undef, .bool false, .bool false, undef, .bool false, .bool false, undef, .bool false, .bool false, undef, .bool false, .bool false, undef, undef, undef, .bool false, .bool false, undef, undef, .bool false, .bool false, undef, .bool false, .bool false, undef, undef, undef, .bool false, .bool false, undef, undef, .bool false, .bool false, undef, .bool false, .bool false, undef, undef, .bool false, .bool false, undef, undef, .bool false, .bool false, undef, .bool false, .bool false, undef, undef, undef, .bool false] : List Value).getD i undef), by kernel_rfl, hL, hB, hm⟩
        · have hm := ite_f hm hc_57
          refine wx_not0 (wg (c := (eqs r_42 ([49, 50, 46, 53] : List UInt8))) (want := true) (by kernel_rfl) hc_57 rfl) (by kernel_rfl) ?_
          refine wx_take (v := .bool false) (by kernel_rfl) (fun w' hS => run_pick_f (v := .bool false) (tr2 (c := (eqs r_42 ([49, 50, 46, 53] : List UInt8))) (by kernel_rfl) hc_57) (by kernel_rfl)) ?_
          refine wx_take (v := .bool false) (by kernel_rfl) (fun w' hS => run_move (v := .bool false) (by kernel_rfl)) ?_
          refine wx_not0 (by kernel_rfl) (by kernel_rfl) ?_
          refine wx_take (v := .bool false) (by kernel_rfl) (fun w' hS => run_pick_f (v := .bool false) (by kernel_rfl) (by kernel_rfl)) ?_
          refine wx_take (v := .bool false) (by kernel_rfl) (fun w' hS => run_move (v := .bool false) (by kernel_rfl)) ?_
          refine wx_not0 (by kernel_rfl) (by kernel_rfl) ?_
          refine wx_take (v := .bool false) (by kernel_rfl) (fun w' hS => run_pick_f (v := .bool false) (by kernel_rfl) (by kernel_rfl)) ?_
          refine wx_take (v := .bool false) (by kernel_rfl) (fun w' hS => run_move (v := .bool false) (by kernel_rfl)) ?_
          refine wx_not0 (by kernel_rfl) (by kernel_rfl) ?_
          refine wx_take (v := .bool false) (by kernel_rfl) (fun w' hS => run_pick_f (v := .bool false) (by kernel_rfl) (by kernel_rfl)) ?_
          refine wx_take (v := .bool false) (by kernel_rfl) (fun w' hS => run_move (v := .bool false) (by kernel_rfl)) ?_
          refine wx_not0 (by kernel_rfl) (by kernel_rfl) ?_
          refine wx_take (v := .bool false) (by kernel_rfl) (fun w' hS => run_pick_f (v := .bool false) (by kernel_rfl) (by kernel_rfl)) ?_
          refine wx_take (v := .bool false) (by kernel_rfl) (fun w' hS => run_move (v := .bool false) (by kernel_rfl)) ?_
          refine wx_norm [.bool false, .pointer (some ⟨g_1, 0, none⟩), .bool r_1.2, .pointer (some ⟨g_2, 0, none⟩), .bool r_3.2, .pointer (some ⟨g_3, 0, none⟩), .bool r_5.2, .pointer (some ⟨g_4, 0, none⟩), .bool r_7.2, .pointer (some ⟨g_5, 0, none⟩), .bool r_9.2, .int .u16 r_11.1, .bool r_11.2, .int .u16 r_13.1, .bool r_13.2, .pointer (some ⟨g_6, 0, none⟩), .bool r_14.2, .tuple #[.agg #[.int .i64 r_1.1.N, .int .u8 r_1.1.D], .bool r_1.2], .tuple #[.agg #[.int .i64 r_1.1.N, .int .u8 r_1.1.D], .bool r_1.2], .agg #[.int .i64 r_1.1.N, .int .u8 r_1.1.D], .bool r_1.2, .tuple #[.agg #[.int .i64 r_3.1.N, .int .u8 r_3.1.D], .bool r_3.2], .agg #[.int .i64 r_2.N, .int .u8 r_2.D], .tuple #[.agg #[.int .i64 r_3.1.N, .int .u8 r_3.1.D], .bool r_3.2], .agg #[.int .i64 r_3.1.N, .int .u8 r_3.1.D], .bool r_3.2, .tuple #[.agg #[.int .i64 r_5.1.N, .int .u8 r_5.1.D], .bool r_5.2], .agg #[.int .i64 r_4.N, .int .u8 r_4.D], .tuple #[.agg #[.int .i64 r_5.1.N, .int .u8 r_5.1.D], .bool r_5.2], .agg #[.int .i64 r_5.1.N, .int .u8 r_5.1.D], .bool r_5.2, .tuple #[.agg #[.int .i64 r_7.1.N, .int .u8 r_7.1.D], .bool r_7.2], .agg #[.int .i64 r_6.N, .int .u8 r_6.D], .tuple #[.agg #[.int .i64 r_7.1.N, .int .u8 r_7.1.D], .bool r_7.2], .agg #[.int .i64 r_7.1.N, .int .u8 r_7.1.D], .bool r_7.2, .tuple #[.agg #[.int .i64 r_9.1.N, .int .u8 r_9.1.D], .bool r_9.2], .agg #[.int .i64 r_8.N, .int .u8 r_8.D], .tuple #[.agg #[.int .i64 r_9.1.N, .int .u8 r_9.1.D], .bool r_9.2], .agg #[.int .i64 r_9.1.N, .int .u8 r_9.1.D], .bool r_9.2, .tuple #[.int .u16 r_11.1, .bool r_11.2], .agg #[.int .i64 r_10.N, .int .u8 r_10.D], .tuple #[.int .u16 r_11.1, .bool r_11.2], .int .u16 r_11.1, .bool r_11.2, .tuple #[.int .u16 r_13.1, .bool r_13.2], .agg #[.int .i64 r_12.N, .int .u8 r_12.D], .tuple #[.int .u16 r_13.1, .bool r_13.2], .int .u16 r_13.1, .bool r_13.2, .tuple #[.agg #[.int .i64 r_14.1.N, .int .u8 r_14.1.D], .bool r_14.2], .tuple #[.agg #[.int .i64 r_14.1.N, .int .u8 r_14.1.D], .bool r_14.2], .agg #[.int .i64 r_14.1.N, .int .u8 r_14.1.D], .bool r_14.2, .bool r_1.2, .bool r_1.2, .agg #[.int .i64 r_1.1.N, .int .u8 r_1.1.D], .agg #[.int .i64 125, .int .u8 1], .bool c_13, .bool c_13, .bool c_13, .agg #[.int .i64 r_1.1.N, .int .u8 r_1.1.D], .string ⟨⟨r_42⟩⟩, .bool (eqs r_42 ([49, 50, 46, 53] : List UInt8)), .bool (eqs r_42 ([49, 50, 46, 53] : List UInt8)), .bool (eqs r_42 ([49, 50, 46, 53] : List UInt8)), undef, .bool false, .bool false, undef, .bool false, .bool false, undef, .bool false, .bool false, undef, .bool false, .bool false, undef, .bool false, .bool false, undef, undef, undef, undef, undef, undef, undef, undef, undef, undef, undef, undef, undef, undef, undef, undef, undef, undef, undef, undef, undef, undef, undef, undef, undef, undef, undef, undef, undef, undef, undef, undef, undef, undef, undef, undef, undef, undef, undef, undef, undef, undef] (by kernel_rfl) ?_
          refine wx_take_not0 (by kernel_rfl) (by kernel_rfl) ?_
          refine wx_take (v := .bool false) (by kernel_rfl) (fun w' hS => run_pick_f (v := .bool false) (by kernel_rfl) (by kernel_rfl)) ?_
          refine wx_take (v := .bool false) (by kernel_rfl) (fun w' hS => run_move (v := .bool false) (by kernel_rfl)) ?_
          refine wx_take_not0 (by kernel_rfl) (by kernel_rfl) ?_
          refine wx_not0 (by kernel_rfl) (by kernel_rfl) ?_
          refine wx_take_not0 (by kernel_rfl) (by kernel_rfl) ?_
          refine wx_take (v := .bool false) (by kernel_rfl) (fun w' hS => run_pick_f (v := .bool false) (by kernel_rfl) (by kernel_rfl)) ?_
          refine wx_take (v := .bool false) (by kernel_rfl) (fun w' hS => run_move (v := .bool false) (by kernel_rfl)) ?_
          refine wx_take_not0 (by kernel_rfl) (by kernel_rfl) ?_
          refine wx_take_not0 (by kernel_rfl) (by kernel_rfl) ?_
          refine wx_take (v := .bool false) (by kernel_rfl) (fun w' hS => run_pick_f (v := .bool false) (by kernel_rfl) (by kernel_rfl)) ?_
          refine wx_take (v := .bool false) (by kernel_rfl) (fun w' hS => run_move (v := .bool false) (by kernel_rfl)) ?_
          refine wx_take_not0 (by kernel_rfl) (by kernel_rfl) ?_
          refine wx_take (v := .bool false) (by kernel_rfl) (fun w' hS => run_pick_f (v := .bool false) (by kernel_rfl) (by kernel_rfl)) ?_
          refine wx_take (v := .bool false) (by kernel_rfl) (fun w' hS => run_move (v := .bool false) (by kernel_rfl)) ?_
          refine wx_take_not0 (by kernel_rfl) (by kernel_rfl) ?_
          refine wx_not0 (by kernel_rfl) (by kernel_rfl) ?_
          refine wx_take_not0 (by kernel_rfl) (by kernel_rfl) ?_
          refine wx_take (v := .bool false) (by kernel_rfl) (fun w' hS => run_pick_f (v := .bool false) (by kernel_rfl) (by kernel_rfl)) ?_
          refine wx_take (v := .bool false) (by kernel_rfl) (fun w' hS => run_move (v := .bool false) (by kernel_rfl)) ?_
          refine wx_norm [.bool false, .pointer (some ⟨g_1, 0, none⟩), .bool r_1.2, .pointer (some ⟨g_2, 0, none⟩), .bool r_3.2, .pointer (some ⟨g_3, 0, none⟩), .bool r_5.2, .pointer (some ⟨g_4, 0, none⟩), .bool r_7.2, .pointer (some ⟨g_5, 0, none⟩), .bool r_9.2, .int .u16 r_11.1, .bool r_11.2, .int .u16 r_13.1, .bool r_13.2, .pointer (some ⟨g_6, 0, none⟩), .bool r_14.2, .tuple #[.agg #[.int .i64 r_1.1.N, .int .u8 r_1.1.D], .bool r_1.2], .tuple #[.agg #[.int .i64 r_1.1.N, .int .u8 r_1.1.D], .bool r_1.2], .agg #[.int .i64 r_1.1.N, .int .u8 r_1.1.D], .bool r_1.2, .tuple #[.agg #[.int .i64 r_3.1.N, .int .u8 r_3.1.D], .bool r_3.2], .agg #[.int .i64 r_2.N, .int .u8 r_2.D], .tuple #[.agg #[.int .i64 r_3.1.N, .int .u8 r_3.1.D], .bool r_3.2], .agg #[.int .i64 r_3.1.N, .int .u8 r_3.1.D], .bool r_3.2, .tuple #[.agg #[.int .i64 r_5.1.N, .int .u8 r_5.1.D], .bool r_5.2], .agg #[.int .i64 r_4.N, .int .u8 r_4.D], .tuple #[.agg #[.int .i64 r_5.1.N, .int .u8 r_5.1.D], .bool r_5.2], .agg #[.int .i64 r_5.1.N, .int .u8 r_5.1.D], .bool r_5.2, .tuple #[.agg #[.int .i64 r_7.1.N, .int .u8 r_7.1.D], .bool r_7.2], .agg #[.int .i64 r_6.N, .int .u8 r_6.D], .tuple #[.agg #[.int .i64 r_7.1.N, .int .u8 r_7.1.D], .bool r_7.2], .agg #[.int .i64 r_7.1.N, .int .u8 r_7.1.D], .bool r_7.2, .tuple #[.agg #[.int .i64 r_9.1.N, .int .u8 r_9.1.D], .bool r_9.2], .agg #[.int .i64 r_8.N, .int .u8 r_8.D], .tuple #[.agg #[.int .i64 r_9.1.N, .int .u8 r_9.1.D], .bool r_9.2], .agg #[.int .i64 r_9.1.N, .int .u8 r_9.1.D], .bool r_9.2, .tuple #[.int .u16 r_11.1, .bool r_11.2], .agg #[.int .i64 r_10.N, .int .u8 r_10.D], .tuple #[.int .u16 r_11.1, .bool r_11.2], .int .u16 r_11.1, .bool r_11.2, .tuple #[.int .u16 r_13.1, .bool r_13.2], .agg #[.int .i64 r_12.N, .int .u8 r_12.D], .tuple #[.int .u16 r_13.1, .bool r_13.2], .int .u16 r_13.1, .bool r_13.2, .tuple #[.agg #[.int .i64 r_14.1.N, .int .u8 r_14.1.D], .bool r_14.2], .tuple #[.agg #[.int .i64 r_14.1.N, .int .u8 r_14.1.D], .bool r_14.2], .agg #[.int .i64 r_14.1.N, .int .u8 r_14.1.D], .bool r_14.2, .bool r_1.2, .bool r_1.2, .agg #[.int .i64 r_1.1.N, .int .u8 r_1.1.D], .agg #[.int .i64 125, .int .u8 1], .bool c_13, .bool c_13, .bool c_13, .agg #[.int .i64 r_1.1.N, .int .u8 r_1.1.D], .string ⟨⟨r_42⟩⟩, .bool (eqs r_42 ([49, 50, 46, 53] : List UInt8)), .bool (eqs r_42 ([49, 50, 46, 53] : List UInt8)), .bool (eqs r_42 ([49, 50, 46, 53] : List UInt8)), undef, .bool false, .bool false, undef, .bool false, .bool false, undef, .bool false, .bool false, undef, .bool false, .bool false, undef, .bool false, .bool false, undef, .bool false, .bool false, undef, undef, undef, .bool false, .bool false, undef, undef, .bool false, .bool false, undef, .bool false, .bool false, undef, undef, undef, .bool false, .bool false, undef, undef, undef, undef, undef, undef, undef, undef, undef, undef, undef, undef, undef, undef, undef, undef, undef, undef, undef, undef, undef, undef] (by kernel_rfl) ?_
          refine wx_take_not0 (by kernel_rfl) (by kernel_rfl) ?_
          refine wx_take_not0 (by kernel_rfl) (by kernel_rfl) ?_
          refine wx_take (v := .bool false) (by kernel_rfl) (fun w' hS => run_pick_f (v := .bool false) (by kernel_rfl) (by kernel_rfl)) ?_
          refine wx_take (v := .bool false) (by kernel_rfl) (fun w' hS => run_move (v := .bool false) (by kernel_rfl)) ?_
          refine wx_take_not0 (by kernel_rfl) (by kernel_rfl) ?_
          refine wx_take (v := .bool false) (by kernel_rfl) (fun w' hS => run_pick_f (v := .bool false) (by kernel_rfl) (by kernel_rfl)) ?_
          refine wx_take (v := .bool false) (by kernel_rfl) (fun w' hS => run_move (v := .bool false) (by kernel_rfl)) ?_
          refine wx_take_not0 (by kernel_rfl) (by kernel_rfl) ?_
          refine wx_take_not0 (by kernel_rfl) (by kernel_rfl) ?_
          refine wx_take (v := .bool false) (by kernel_rfl) (fun w' hS => run_pick_f (v := .bool false) (by kernel_rfl) (by kernel_rfl)) ?_
          refine wx_take (v := .bool false) (by kernel_rfl) (fun w' hS => run_move (v := .bool false) (by kernel_rfl)) ?_
          refine wx_take_not0 (by kernel_rfl) (by kernel_rfl) ?_
          refine wx_take_not0 (by kernel_rfl) (by kernel_rfl) ?_
          refine wx_take (v := .bool false) (by kernel_rfl) (fun w' hS => run_pick_f (v := .bool false) (by kernel_rfl) (by kernel_rfl)) ?_
          refine wx_take (v := .bool false) (by kernel_rfl) (fun w' hS => run_move (v := .bool false) (by kernel_rfl)) ?_
          refine wx_take_not0 (by kernel_rfl) (by kernel_rfl) ?_
          refine wx_take (v := .bool false) (by kernel_rfl) (fun w' hS => run_pick_f (v := .bool false) (by kernel_rfl) (by kernel_rfl)) ?_
          refine wx_take (v := .bool false) (by kernel_rfl) (fun w' hS => run_move (v := .bool false) (by kernel_rfl)) ?_
          refine wx_norm [.bool false, .pointer (some ⟨g_1, 0, none⟩), .bool r_1.2, .pointer (some ⟨g_2, 0, none⟩), .bool r_3.2, .pointer (some ⟨g_3, 0, none⟩), .bool r_5.2, .pointer (some ⟨g_4, 0, none⟩), .bool r_7.2, .pointer (some ⟨g_5, 0, none⟩), .bool r_9.2, .int .u16 r_11.1, .bool r_11.2, .int .u16 r_13.1, .bool r_13.2, .pointer (some ⟨g_6, 0, none⟩), .bool r_14.2, .tuple #[.agg #[.int .i64 r_1.1.N, .int .u8 r_1.1.D], .bool r_1.2], .tuple #[.agg #[.int .i64 r_1.1.N, .int .u8 r_1.1.D], .bool r_1.2], .agg #[.int .i64 r_1.1.N, .int .u8 r_1.1.D], .bool r_1.2, .tuple #[.agg #[.int .i64 r_3.1.N, .int .u8 r_3.1.D], .bool r_3.2], .agg #[.int .i64 r_2.N, .int .u8 r_2.D], .tuple #[.agg #[.int .i64 r_3.1.N, .int .u8 r_3.1.D], .bool r_3.2], .agg #[.int .i64 r_3.1.N, .int .u8 r_3.1.D], .bool r_3.2, .tuple #[.agg #[.int .i64 r_5.1.N, .int .u8 r_5.1.D], .bool r_5.2], .agg #[.int .i64 r_4.N, .int .u8 r_4.D], .tuple #[.agg #[.int .i64 r_5.1.N, .int .u8 r_5.1.D], .bool r_5.2], .agg #[.int .i64 r_5.1.N, .int .u8 r_5.1.D], .bool r_5.2, .tuple #[.agg #[.int .i64 r_7.1.N, .int .u8 r_7.1.D], .bool r_7.2], .agg #[.int .i64 r_6.N, .int .u8 r_6.D], .tuple #[.agg #[.int .i64 r_7.1.N, .int .u8 r_7.1.D], .bool r_7.2], .agg #[.int .i64 r_7.1.N, .int .u8 r_7.1.D], .bool r_7.2, .tuple #[.agg #[.int .i64 r_9.1.N, .int .u8 r_9.1.D], .bool r_9.2], .agg #[.int .i64 r_8.N, .int .u8 r_8.D], .tuple #[.agg #[.int .i64 r_9.1.N, .int .u8 r_9.1.D], .bool r_9.2], .agg #[.int .i64 r_9.1.N, .int .u8 r_9.1.D], .bool r_9.2, .tuple #[.int .u16 r_11.1, .bool r_11.2], .agg #[.int .i64 r_10.N, .int .u8 r_10.D], .tuple #[.int .u16 r_11.1, .bool r_11.2], .int .u16 r_11.1, .bool r_11.2, .tuple #[.int .u16 r_13.1, .bool r_13.2], .agg #[.int .i64 r_12.N, .int .u8 r_12.D], .tuple #[.int .u16 r_13.1, .bool r_13.2], .int .u16 r_13.1, .bool r_13.2, .tuple #[.agg #[.int .i64 r_14.1.N, .int .u8 r_14.1.D], .bool r_14.2], .tuple #[.agg #[.int .i64 r_14.1.N, .int .u8 r_14.1.D], .bool r_14.2], .agg #[.int .i64 r_14.1.N, .int .u8 r_14.1.D], .bool r_14.2, .bool r_1.2, .bool r_1.2, .agg #[.int .i64 r_1.1.N, .int .u8 r_1.1.D], .agg #[.int .i64 125, .int .u8 1], .bool c_13, .bool c_13, .bool c_13, .agg #[.int .i64 r_1.1.N, .int .u8 r_1.1.D], .string ⟨⟨r_42⟩⟩, .bool (eqs r_42 ([49, 50, 46, 53] : List UInt8)), .bool (eqs r_42 ([49, 50, 46, 53] : List UInt8)), .bool (eqs r_42 ([49, 50, 46, 53] : List UInt8)), undef, .bool false, .bool false, undef, .bool false, .bool false, undef, .bool false, .bool false, undef, .bool false, .bool false, undef, .bool false, .bool false, undef, .bool false, .bool false, undef, undef, undef, .bool false, .bool false, undef, undef, .bool false, .bool false, undef, .bool false, .bool false, undef, undef, undef, .bool false, .bool false, undef, undef, .bool false, .bool false, undef, .bool false, .bool false, undef, undef, .bool false, .bool false, undef, undef, .bool false, .bool false, undef, .bool false, .bool false, undef, undef, undef, undef] (by kernel_rfl) ?_
          refine wx_take_not0 (by kernel_rfl) (by kernel_rfl) ?_
          refine wx_not0 (by kernel_rfl) (by kernel_rfl) ?_
          refine wx_take_not0 (by kernel_rfl) (by kernel_rfl) ?_
          refine wx_take (v := .bool false) (by kernel_rfl) (fun w' hS => run_pick_f (v := .bool false) (by kernel_rfl) (by kernel_rfl)) ?_
          refine wx_take (v := .bool false) (by kernel_rfl) (fun w' hS => run_assign (v := .bool false) (by kernel_rfl)) ?_
          refine wx_nil ?_
          have hS : Stp w0.heap.size _ [] F [] w_57 _ := Stp.pick hL [] rfl (by decide)
          replace hB := hS.below hL hB
          replace hL := hS.hL
          exact then_c ⟨false, (fun i => ([.bool r_1.2, .bool r_1.2, .agg #[.int .i64 r_1.1.N, .int .u8 r_1.1.D], .agg #[.int .i64 125, .int .u8 1], .bool c_13, .bool c_13, .bool c_13, .agg #[.int .i64 r_1.1.N, .int .u8 r_1.1.D], .string ⟨⟨r_42⟩⟩, .bool (eqs r_42 ([49, 50, 46, 53] : List UInt8)), .bool (eqs r_42 ([49, 50, 46, 53] : List UInt8)), .bool (eqs r_42 ([49, 50, 46, 53] : List UInt8)), undef, .bool false, .bool false, undef, .bool false, .bool false, undef, .bool false, .bool false, undef, .bool false, .bool false, undef, .bool false, .bool false, undef, .bool false, .bool false, undef, undef, undef, .bool false, .bool false, undef, undef, .bool false, .bool false, undef, .bool false, .bool false, undef, undef, undef, .bool false, .bool false, undef, undef, .bool false, .bool false, undef, .bool false, .bool false, undef, undef, .bool false, .bool false, undef, undef, .bool false, .bool false, undef, .bool false, .bool false, undef, undef, undef, .bool false] : List Value).getD i undef), by kernel_rfl, hL, hB, hm⟩
      · have hm := ite_f hm hc_56
        refine wx_take_not0 (wg (c := c_13) (want := true) (by kernel_rfl) hc_56 rfl) (by kernel_rfl) ?_
        refine wx_not0 (wg (c := c_13) (want := true) (by kernel_rfl) hc_56 rfl) (by kernel_rfl) ?_
        refine wx_take_not0 (wg (c := c_13) (want := true) (by kernel_rfl) hc_56 rfl) (by kernel_rfl) ?_
        refine wx_take (v := .bool false) (by kernel_rfl) (fun w' hS => run_pick_f (v := .bool false) (tr2 (c := c_13) (by kernel_rfl) hc_56) (by kernel_rfl)) ?_
        refine wx_take (v := .bool false) (by kernel_rfl) (fun w' hS => run_move (v := .bool false) (by kernel_rfl)) ?_
        refine wx_not0 (by kernel_rfl) (by kernel_rfl) ?_
        refine wx_take (v := .bool false) (by kernel_rfl) (fun w' hS => run_pick_f (v := .bool false) (by kernel_rfl) (by kernel_rfl)) ?_
        refine wx_take (v := .bool false) (by kernel_rfl) (fun w' hS => run_move (v := .bool false) (by kernel_rfl)) ?_
        refine wx_norm [.bool false, .pointer (some ⟨g_1, 0, none⟩), .bool r_1.2, .pointer (some ⟨g_2, 0, none⟩), .bool r_3.2, .pointer (some ⟨g_3, 0, none⟩), .bool r_5.2, .pointer (some ⟨g_4, 0, none⟩), .bool r_7.2, .pointer (some ⟨g_5, 0, none⟩), .bool r_9.2, .int .u16 r_11.1, .bool r_11.2, .int .u16 r_13.1, .bool r_13.2, .pointer (some ⟨g_6, 0, none⟩), .bool r_14.2, .tuple #[.agg #[.int .i64 r_1.1.N, .int .u8 r_1.1.D], .bool r_1.2], .tuple #[.agg #[.int .i64 r_1.1.N, .int .u8 r_1.1.D], .bool r_1.2], .agg #[.int .i64 r_1.1.N, .int .u8 r_1.1.D], .bool r_1.2, .tuple #[.agg #[.int .i64 r_3.1.N, .int .u8 r_3.1.D], .bool r_3.2], .agg #[.int .i64 r_2.N, .int .u8 r_2.D], .tuple #[.agg #[.int .i64 r_3.1.N, .int .u8 r_3.1.D], .bool r_3.2], .agg #[.int .i64 r_3.1.N, .int .u8 r_3.1.D], .bool r_3.2, .tuple #[.agg #[.int .i64 r_5.1.N, .int .u8 r_5.1.D], .bool r_5.2], .agg #[.int .i64 r_4.N, .int .u8 r_4.D], .tuple #[.agg #[.int .i64 r_5.1.N, .int .u8 r_5.1.D], .bool r_5.2], .agg #[.int .i64 r_5.1.N, .int .u8 r_5.1.D], .bool r_5.2, .tuple #[.agg #[.int .i64 r_7.1.N, .int .u8 r_7.1.D], .bool r_7.2], .agg #[.int .i64 r_6.N, .int .u8 r_6.D], .tuple #[.agg #[.int .i64 r_7.1.N, .int .u8 r_7.1.D], .bool r_7.2], .agg #[.int .i64 r_7.1.N, .int .u8 r_7.1.D], .bool r_7.2, .tuple #[.agg #[.int .i64 r_9.1.N, .int .u8 r_9.1.D], .bool r_9.2], .agg #[.int .i64 r_8.N, .int .u8 r_8.D], .tuple #[.agg #[.int .i64 r_9.1.N, .int .u8 r_9.1.D], .bool r_9.2], .agg #[.int .i64 r_9.1.N, .int .u8 r_9.1.D], .bool r_9.2, .tuple #[.int .u16 r_11.1, .bool r_11.2], .agg #[.int .i64 r_10.N, .int .u8 r_10.D], .tuple #[.int .u16 r_11.1, .bool r_11.2], .int .u16 r_11.1, .bool r_11.2, .tuple #[.int .u16 r_13.1, .bool r_13.2], .agg #[.int .i64 r_12.N, .int .u8 r_12.D], .tuple #[.int .u16 r_13.1, .bool r_13.2], .int .u16 r_13.1, .bool r_13.2, .tuple #[.agg #[.int .i64 r_14.1.N, .int .u8 r_14.1.D], .bool r_14.2], .tuple #[.agg #[.int .i64 r_14.1.N, .int .u8 r_14.1.D], .bool r_14.2], .agg #[.int .i64 r_14.1.N, .int .u8 r_14.1.D], .bool r_14.2, .bool r_1.2, .bool r_1.2, .agg #[.int .i64 r_1.1.N, .int .u8 r_1.1.D], .agg #[.int .i64 125, .int .u8 1], .bool c_13, .bool c_13, .bool c_13, undef, undef, undef, .bool false, .bool false, undef, .bool false, .bool false, undef, undef, undef, undef, undef, undef, undef, undef, undef, undef, undef, undef, undef, undef, undef, undef, undef, undef, undef, undef, undef, undef, undef, undef, undef, undef, undef, undef, undef, undef, undef, undef, undef, undef, undef, undef, undef, undef, undef, undef, undef, undef, undef, undef, undef, undef, undef, undef, undef, undef, undef, undef, undef, undef] (by kernel_rfl) ?_
        refine wx_not0 (by kernel_rfl) (by kernel_rfl) ?_
        refine wx_take (v := .bool false) (by kernel_rfl) (fun w' hS => run_pick_f (v := .bool false) (by kernel_rfl) (by kernel_rfl)) ?_
        refine wx_take (v := .bool false) (by kernel_rfl) (fun w' hS => run_move (v := .bool false) (by kernel_rfl)) ?_
        refine wx_not0 (by kernel_rfl) (by kernel_rfl) ?_
        refine wx_take (v := .bool false) (by kernel_rfl) (fun w' hS => run_pick_f (v := .bool false) (by kernel_rfl) (by kernel_rfl)) ?_
        refine wx_take (v := .bool false) (by kernel_rfl) (fun w' hS => run_move (v := .bool false) (by kernel_rfl)) ?_
        refine wx_not0 (by kernel_rfl) (by kernel_rfl) ?_
        refine wx_take (v := .bool false) (by kernel_rfl) (fun w' hS => run_pick_f (v := .bool false) (by kernel_rfl) (by kernel_rfl)) ?_
        refine wx_take (v := .bool false) (by kernel_rfl) (fun w' hS => run_move (v := .bool false) (by kernel_rfl)) ?_
        refine wx_not0 (by kernel_rfl) (by kernel_rfl) ?_
        refine wx_take (v := .bool false) (by kernel_rfl) (fun w' hS => run_pick_f (v := .bool false) (by kernel_rfl) (by kernel_rfl)) ?_
        refine wx_take (v := .bool false) (by kernel_rfl) (fun w' hS => run_move (v := .bool false) (by kernel_rfl)) ?_
        refine wx_take_not0 (by kernel_rfl) (by kernel_rfl) ?_
        refine wx_take (v := .bool false) (by kernel_rfl) (fun w' hS => run_pick_f (v := .bool false) (by kernel_rfl) (by kernel_rfl)) ?_
        refine wx_take (v := .bool false) (by kernel_rfl) (fun w' hS => run_move (v := .bool false) (by kernel_rfl)) ?_
        refine wx_norm [.bool false, .pointer (some ⟨g_1, 0, none⟩), .bool r_1.2, .pointer (some ⟨g_2, 0, none⟩), .bool r_3.2, .pointer (some ⟨g_3, 0, none⟩), .bool r_5.2, .pointer (some ⟨g_4, 0, none⟩), .bool r_7.2, .pointer (some ⟨g_5, 0, none⟩), .bool r_9.2, .int .u16 r_11.1, .bool r_11.2, .int .u16 r_13.1, .bool r_13.2, .pointer (some ⟨g_6, 0, none⟩), .bool r_14.2, .tuple #[.agg #[.int .i64 r_1.1.N, .int .u8 r_1.1.D], .bool r_1.2], .tuple #[.agg #[.int .i64 r_1.1.N, .int .u8 r_1.1.D], .bool r_1.2], .agg #[.int .i64 r_1.1.N, .int .u8 r_1.1.D], .bool r_1.2, .tuple #[.agg #[.int .i64 r_3.1.N, .int .u8 r_3.1.D], .bool r_3.2], .agg #[.int .i64 r_2.N, .int .u8 r_2.D], .tuple #[.agg #[.int .i64 r_3.1.N, .int .u8 r_3.1.D], .bool r_3.2], .agg #[.int .i64 r_3.1.N, .int .u8 r_3.1.D], .bool r_3.2, .tuple #[.agg #[.int .i64 r_5.1.N, .int .u8 r_5.1.D], .bool r_5.2], .agg #[.int .i64 r_4.N, .int .u8 r_4.D], .tuple #[.agg #[.int .i64 r_5.1.N, .int .u8 r_5.1.D], .bool r_5.2], .agg #[.int .i64 r_5.1.N, .int .u8 r_5.1.D], .bool r_5.2, .tuple #[.agg #[.int .i64 r_7.1.N, .int .u8 r_7.1.D], .bool r_7.2], .agg #[.int .i64 r_6.N, .int .u8 r_6.D], .tuple #[.agg #[.int .i64 r_7.1.N, .int .u8 r_7.1.D], .bool r_7.2], .agg #[.int .i64 r_7.1.N, .int .u8 r_7.1.D], .bool r_7.2, .tuple #[.agg #[.int .i64 r_9.1.N, .int .u8 r_9.1.D], .bool r_9.2], .agg #[.int .i64 r_8.N, .int .u8 r_8.D], .tuple #[.agg #[.int .i64 r_9.1.N, .int .u8 r_9.1.D], .bool r_9.2], .agg #[.int .i64 r_9.1.N, .int .u8 r_9.1.D], .bool r_9.2, .tuple #[.int .u16 r_11.1, .bool r_11.2], .agg #[.int .i64 r_10.N, .int .u8 r_10.D], .tuple #[.int .u16 r_11.1, .bool r_11.2], .int .u16 r_11.1, .bool r_11.2, .tuple #[.int .u16 r_13.1, .bool r_13.2], .agg #[.int .i64 r_12.N, .int .u8 r_12.D], .tuple #[.int .u16 r_13.1, .bool r_13.2], .int .u16 r_13.1, .bool r_13.2, .tuple #[.agg #[.int .i64 r_14.1.N, .int .u8 r_14.1.D], .bool r_14.2], .tuple #[.agg #[.int .i64 r_14.1.N, .int .u8 r_14.1.D], .bool r_14.2], .agg #[.int .i64 r_14.1.N, .int .u8 r_14.1.D], .bool r_14.2, .bool r_1.2, .bool r_1.2, .agg #[.int .i64 r_1.1.N, .int .u8 r_1.1.D], .agg #[.int .i64 125, .int .u8 1], .bool c_13, .bool c_13, .bool c_13, undef, undef, undef, .bool false, .bool false, undef, .bool false, .bool false, undef, .bool false, .bool false, undef, .bool false, .bool false, undef, .bool false, .bool false, undef, .bool false, .bool false, undef, .bool false, .bool false, undef, undef, undef, undef, undef, undef, undef, undef, undef, undef, undef, undef, undef, undef, undef, undef, undef, undef, undef, undef, undef, undef, undef, undef, undef, undef, undef, undef, undef, undef, undef, undef, undef, undef, undef, undef, undef, undef, undef] (by kernel_rfl) ?_
        refine wx_take_not0 (by kernel_rfl) (by kernel_rfl) ?_
        refine wx_not0 (by kernel_rfl) (by kernel_rfl) ?_
        refine wx_take_not0 (by kernel_rfl) (by kernel_rfl) ?_
        refine wx_take (v := .bool false) (by kernel_rfl) (fun w' hS => run_pick_f (v := .bool false) (by kernel_rfl) (by kernel_rfl)) ?_
        refine wx_take (v := .bool false) (by kernel_rfl) (fun w' hS => run_move (v := .bool false) (by kernel_rfl)) ?_
        refine wx_take_not0 (by kernel_rfl) (by kernel_rfl) ?_
        refine wx_take_not0 (by kernel_rfl) (by kernel_rfl) ?_
        refine wx_take (v := .bool false) (by kernel_rfl) (fun w' hS => run_pick_f (v := .bool false) (by kernel_rfl) (by kernel_rfl)) ?_
        refine wx_take (v := .bool false) (by kernel_rfl) (fun w' hS => run_move (v := .bool false) (by kernel_rfl)) ?_
        refine wx_take_not0 (by kernel_rfl) (by kernel_rfl) ?_
        refine wx_take (v := .bool false) (by kernel_rfl) (fun w' hS => run_pick_f (v := .bool false) (by kernel_rfl) (by kernel_rfl)) ?_
        refine wx_take (v := .bool false) (by kernel_rfl) (fun w' hS => run_move (v := .bool false) (by kernel_rfl)) ?_
        refine wx_take_not0 (by kernel_rfl) (by kernel_rfl) ?_
        refine wx_not0 (by kernel_rfl) (by kernel_rfl) ?_
        refine wx_take_not0 (by kernel_rfl) (by kernel_rfl) ?_
        refine wx_take (v := .bool false) (by kernel_rfl) (fun w' hS => run_pick_f (v := .bool false) (by kernel_rfl) (by kernel_rfl)) ?_
        refine wx_take (v := .bool false) (by kernel_rfl) (fun w' hS => run_move (v := .bool false) (by kernel_rfl)) ?_
        refine wx_take_not0 (by kernel_rfl) (by kernel_rfl) ?_
        refine wx_take_not0 (by kernel_rfl) (by kernel_rfl) ?_
        refine wx_take (v := .bool false) (by kernel_rfl) (fun w' hS => run_pick_f (v := .bool false) (by kernel_rfl) (by kernel_rfl)) ?_
        refine wx_take (v := .bool false) (by kernel_rfl) (fun w' hS => run_move (v := .bool false) (by kernel_rfl)) ?_
        refine wx_norm [.bool false, .pointer (some ⟨g_1, 0, none⟩), .bool r_1.2, .pointer (some ⟨g_2, 0, none⟩), .bool r_3.2, .pointer (some ⟨g_3, 0, none⟩), .bool r_5.2, .pointer (some ⟨g_4, 0, none⟩), .bool r_7.2, .pointer (some ⟨g_5, 0, none⟩), .bool r_9.2, .int .u16 r_11.1, .bool r_11.2, .int .u16 r_13.1, .bool r_13.2, .pointer (some ⟨g_6, 0, none⟩), .bool r_14.2, .tuple #[.agg #[.int .i64 r_1.1.N, .int .u8 r_1.1.D], .bool r_1.2], .tuple #[.agg #[.int .i64 r_1.1.N, .int .u8 r_1.1.D], .bool r_1.2], .agg #[.int .i64 r_1.1.N, .int .u8 r_1.1.D], .bool r_1.2, .tuple #[.agg #[.int .i64 r_3.1.N, .int .u8 r_3.1.D], .bool r_3.2], .agg #[.int .i64 r_2.N, .int .u8 r_2.D], .tuple #[.agg #[.int .i64 r_3.1.N, .int .u8 r_3.1.D], .bool r_3.2], .agg #[.int .i64 r_3.1.N, .int .u8 r_3.1.D], .bool r_3.2, .tuple #[.agg #[.int .i64 r_5.1.N, .int .u8 r_5.1.D], .bool r_5.2], .agg #[.int .i64 r_4.N, .int .u8 r_4.D], .tuple #[.agg #[.int .i64 r_5.1.N, .int .u8 r_5.1.D], .bool r_5.2], .agg #[.int .i64 r_5.1.N, .int .u8 r_5.1.D], .bool r_5.2, .tuple #[.agg #[.int .i64 r_7.1.N, .int .u8 r_7.1.D], .bool r_7.2], .agg #[.int .i64 r_6.N, .int .u8 r_6.D], .tuple #[.agg #[.int .i64 r_7.1.N, .int .u8 r_7.1.D], .bool r_7.2], .agg #[.int .i64 r_7.1.N, .int .u8 r_7.1.D], .bool r_7.2, .tuple #[.agg #[.int .i64 r_9.1.N, .int .u8 r_9.1.D], .bool r_9.2], .agg #[.int .i64 r_8.N, .int .u8 r_8.D], .tuple #[.agg #[.int .i64 r_9.1.N, .int .u8 r_9.1.D], .bool r_9.2], .agg #[.int .i64 r_9.1.N, .int .u8 r_9.1.D], .bool r_9.2, .tuple #[.int .u16 r_11.1, .bool r_11.2], .agg #[.int .i64 r_10.N, .int .u8 r_10.D], .tuple #[.int .u16 r_11.1, .bool r_11.2], .int .u16 r_11.1, .bool r_11.2, .tuple #[.int .u16 r_13.1, .bool r_13.2], .agg #[.int .i64 r_12.N, .int .u8 r_12.D], .tuple #[.int .u16 r_13.1, .bool r_13.2], .int .u16 r_13.1, .bool r_13.2, .tuple #[.agg #[.int .i64 r_14.1.N, .int .u8 r_14.1.D], .bool r_14.2], .tuple #[.agg #[.int .i64 r_14.1.N, .int .u8 r_14.1.D], .bool r_14.2], .agg #[.int .i64 r_14.1.N, .int .u8 r_14.1.D], .bool r_14.2, .bool r_1.2, .bool r_1.2, .agg #[.int .i64 r_1.1.N, .int .u8 r_1.1.D], .agg #[.int .i64 125, .int .u8 1], .bool c_13, .bool c_13, .bool c_13, undef, undef, undef, .bool false, .bool false, undef, .bool false, .bool false, undef, .bool false, .bool false, undef, .bool false, .bool false, undef, .bool false, .bool false, undef, .bool false, .bool false, undef, .bool false, .bool false, undef, undef, undef, .bool false, .bool false, undef, undef, .bool false, .bool false, undef, .bool false, .bool false, undef, undef, undef, .bool false, .bool false, undef, undef, .bool false, .bool false, undef, undef, undef, undef, undef, undef, undef, undef, undef, undef, undef, undef, undef, undef, undef, undef, undef, undef] (by kernel_rfl) ?_
        refine wx_take_not0 (by kernel_rfl) (by kernel_rfl) ?_
        refine wx_take (v := .bool false) (by kernel_rfl) (fun w' hS => run_pick_f (v := .bool false) (by kernel_rfl) (by kernel_rfl)) ?_
        refine wx_take (v := .bool false) (by kernel_rfl) (fun w' hS => run_move (v := .bool false) (by kernel_rfl)) ?_
        refine wx_take_not0 (by kernel_rfl) (by kernel_rfl) ?_
        refine wx_take_not0 (by kernel_rfl) (by kernel_rfl) ?_
        refine wx_take (v := .bool false) (by kernel_rfl) (fun w' hS => run_pick_f (v := .bool false) (by kernel_rfl) (by kernel_rfl)) ?_
        refine wx_take (v := .bool false) (by kernel_rfl) (fun w' hS => run_move (v := .bool false) (by kernel_rfl)) ?_
        refine wx_take_not0 (by kernel_rfl) (by kernel_rfl) ?_
        refine wx_take_not0 (by kernel_rfl) (by kernel_rfl) ?_
        refine wx_take (v := .bool false) (by kernel_rfl) (fun w' hS => run_pick_f (v := .bool false) (by kernel_rfl) (by kernel_rfl)) ?_
        refine wx_take (v := .bool false) (by kernel_rfl) (fun w' hS => run_move (v := .bool false) (by kernel_rfl)) ?_
        refine wx_take_not0 (by kernel_rfl) (by kernel_rfl) ?_
        refine wx_take (v := .bool false) (by kernel_rfl) (fun w' hS => run_pick_f (v := .bool false) (by kernel_rfl) (by kernel_rfl)) ?_
        refine wx_take (v := .bool false) (by kernel_rfl) (fun w' hS => run_move (v := .bool false) (by kernel_rfl)) ?_
        refine wx_take_not0 (by kernel_rfl) (by kernel_rfl) ?_
        refine wx_not0 (by kernel_rfl) (by kernel_rfl) ?_
        refine wx_take_not0 (by kernel_rfl) (by kernel_rfl) ?_
        refine wx_take (v := .bool false) (by kernel_rfl) (fun w' hS => run_pick_f (v := .bool false) (by kernel_rfl) (by kernel_rfl)) ?_
        refine wx_take (v := .bool false) (by kernel_rfl) (fun w' hS => run_assign (v := .bool false) (by kernel_rfl)) ?_
        refine wx_nil ?_
        replace h_3 := hS0.box h_3 nilN
        replace h_7 := hS0.box h_7 nilN
        replace h_11 := hS0.box h_11 nilN
        replace h_15 := hS0.box h_15 nilN
        replace h_19 := hS0.box h_19 nilN
        replace h_26 := hS0.box h_26 nilN
        replace hB := hS0.below hL hB
        replace hL := hS0.hL
        have hS : Stp w0.heap.size _ [] F [] w_56 _ := Stp.pick hL [] rfl (by decide)
        replace hB := hS.below hL hB
        replace hL := hS.hL
        exact then_c ⟨false, (fun i => ([.bool r_1.2, .bool r_1.2, .agg #[.int .i64 r_1.1.N, .int .u8 r_1.1.D], .agg #[.int .i64 125, .int .u8 1], .bool c_13, .bool c_13, .bool c_13, undef, undef, undef, .bool false, .bool false, undef, .bool false, .bool false, undef, .bool false, .bool false, undef, .bool false, .bool false, undef, .bool false, .bool false, undef, .bool false, .bool false, undef, .bool false, .bool false, undef, undef, undef, .bool false, .bool false, undef, undef, .bool false, .bool false, undef, .bool false, .bool false, undef, undef, undef, .bool false, .bool false, undef, undef, .bool false, .bool false, undef, .bool false, .bool false, undef, undef, .bool false, .bool false, undef, undef, .bool false, .bool false, undef, .bool false, .bool false, undef, undef, undef, .bool false] : List Value).getD i undef), by kernel_rfl, hL, hB, hm⟩
    · have hm := ite_f hm hc_55
      refine wx_take_not0 (wg (c := r_1.2) (want := true) (by kernel_rfl) hc_55 rfl) (by kernel_rfl) ?_
      refine wx_take_not0 (wg (c := r_1.2) (want := true) (by kernel_rfl) hc_55 rfl) (by kernel_rfl) ?_
      refine wx_take_not0 (wg (c := r_1.2) (want := true) (by kernel_rfl) hc_55 rfl) (by kernel_rfl) ?_
      refine wx_take (v := .bool false) (by kernel_rfl) (fun w' hS => run_pick_f (v := .bool false) (tr2 (c := r_1.2) (by kernel_rfl) hc_55) (by kernel_rfl)) ?_
      refine wx_take (v := .bool false) (by kernel_rfl) (fun w' hS => run_move (v := .bool false) (by kernel_rfl)) ?_
      refine wx_take_not0 (by kernel_rfl) (by kernel_rfl) ?_
      refine wx_not0 (by kernel_rfl) (by kernel_rfl) ?_
      refine wx_take_not0 (by kernel_rfl) (by kernel_rfl) ?_
      refine wx_take (v := .bool false) (by kernel_rfl) (fun w' hS => run_pick_f (v := .bool false) (by kernel_rfl) (by kernel_rfl)) ?_
      refine wx_take (v := .bool false) (by kernel_rfl) (fun w' hS => run_move (v := .bool false) (by kernel_rfl)) ?_
      refine wx_not0 (by kernel_rfl) (by kernel_rfl) ?_
      refine wx_take (v := .bool false) (by kernel_rfl) (fun w' hS => run_pick_f (v := .bool false) (by kernel_rfl) (by kernel_rfl)) ?_
      refine wx_take (v := .bool false) (by kernel_rfl) (fun w' hS => run_move (v := .bool false) (by kernel_rfl)) ?_
      refine wx_not0 (by kernel_rfl) (by kernel_rfl) ?_
      refine wx_take (v := .bool false) (by kernel_rfl) (fun w' hS => run_pick_f (v := .bool false) (by kernel_rfl) (by kernel_rfl)) ?_
      refine wx_take (v := .bool false) (by kernel_rfl) (fun w' hS => run_move (v := .bool false) (by kernel_rfl)) ?_
      refine wx_not0 (by kernel_rfl) (by kernel_rfl) ?_
      refine wx_take (v := .bool false) (by kernel_rfl) (fun w' hS => run_pick_f (v := .bool false) (by kernel_rfl) (by kernel_rfl)) ?_
      refine wx_take (v := .bool false) (by kernel_rfl) (fun w' hS => run_move (v := .bool false) (by kernel_rfl)) ?_
      refine wx_norm [.bool false, .pointer (some ⟨g_1, 0, none⟩), .bool r_1.2, .pointer (some ⟨g_2, 0, none⟩), .bool r_3.2, .pointer (some ⟨g_3, 0, none⟩), .bool r_5.2, .pointer (some ⟨g_4, 0, none⟩), .bool r_7.2, .pointer (some ⟨g_5, 0, none⟩), .bool r_9.2, .int .u16 r_11.1, .bool r_11.2, .int .u16 r_13.1, .bool r_13.2, .pointer (some ⟨g_6, 0, none⟩), .bool r_14.2, .tuple #[.agg #[.int .i64 r_1.1.N, .int .u8 r_1.1.D], .bool r_1.2], .tuple #[.agg #[.int .i64 r_1.1.N, .int .u8 r_1.1.D], .bool r_1.2], .agg #[.int .i64 r_1.1.N, .int .u8 r_1.1.D], .bool r_1.2, .tuple #[.agg #[.int .i64 r_3.1.N, .int .u8 r_3.1.D], .bool r_3.2], .agg #[.int .i64 r_2.N, .int .u8 r_2.D], .tuple #[.agg #[.int .i64 r_3.1.N, .int .u8 r_3.1.D], .bool r_3.2], .agg #[.int .i64 r_3.1.N, .int .u8 r_3.1.D], .bool r_3.2, .tuple #[.agg #[.int .i64 r_5.1.N, .int .u8 r_5.1.D], .bool r_5.2], .agg #[.int .i64 r_4.N, .int .u8 r_4.D], .tuple #[.agg #[.int .i64 r_5.1.N, .int .u8 r_5.1.D], .bool r_5.2], .agg #[.int .i64 r_5.1.N, .int .u8 r_5.1.D], .bool r_5.2, .tuple #[.agg #[.int .i64 r_7.1.N, .int .u8 r_7.1.D], .bool r_7.2], .agg #[.int .i64 r_6.N, .int .u8 r_6.D], .tuple #[.agg #[.int .i64 r_7.1.N, .int .u8 r_7.1.D], .bool r_7.2], .agg #[.int .i64 r_7.1.N, .int .u8 r_7.1.D], .bool r_7.2, .tuple #[.agg #[.int .i64 r_9.1.N, .int .u8 r_9.1.D], .bool r_9.2], .agg #[.int .i64 r_8.N, .int .u8 r_8.D], .tuple #[.agg #[.int .i64 r_9.1.N, .int .u8 r_9.1.D], .bool r_9.2], .agg #[.int .i64 r_9.1.N, .int .u8 r_9.1.D], .bool r_9.2, .tuple #[.int .u16 r_11.1, .bool r_11.2], .agg #[.int .i64 r_10.N, .int .u8 r_10.D], .tuple #[.int .u16 r_11.1, .bool r_11.2], .int .u16 r_11.1, .bool r_11.2, .tuple #[.int .u16 r_13.1, .bool r_13.2], .agg #[.int .i64 r_12.N, .int .u8 r_12.D], .tuple #[.int .u16 r_13.1, .bool r_13.2], .int .u16 r_13.1, .bool r_13.2, .tuple #[.agg #[.int .i64 r_14.1.N, .int .u8 r_14.1.D], .bool r_14.2], .tuple #[.agg #[.int .i64 r_14.1.N, .int .u8 r_14.1.D], .bool r_14.2], .agg #[.int .i64 r_14.1.N, .int .u8 r_14.1.D], .bool r_14.2, .bool r_1.2, .bool r_1.2, undef, undef, undef, .bool false, .bool false, undef, undef, undef, .bool false, .bool false, undef, .bool false, .bool false, undef, .bool false, .bool false, undef, .bool false, .bool false, undef, undef, undef, undef, undef, undef, undef, undef, undef, undef, undef, undef, undef, undef, undef, undef, undef, undef, undef, undef, undef, undef, undef, undef, undef, undef, undef, undef, undef, undef, undef, undef, undef, undef, undef, undef, undef, undef, undef, undef, undef, undef, undef, undef, undef, undef, undef, undef] (by kernel_rfl) ?_
      refine wx_not0 (by kernel_rfl) (by kernel_rfl) ?_
      refine wx_take (v := .bool false) (by kernel_rfl) (fun w' hS => run_pick_f (v := .bool false) (by kernel_rfl) (by kernel_rfl)) ?_
      refine wx_take (v := .bool false) (by kernel_rfl) (fun w' hS => run_move (v := .bool false) (by kernel_rfl)) ?_
      refine wx_not0 (by kernel_rfl) (by kernel_rfl) ?_
      refine wx_take (v := .bool false) (by kernel_rfl) (fun w' hS => run_pick_f (v := .bool false) (by kernel_rfl) (by kernel_rfl)) ?_
      refine wx_take (v := .bool false) (by kernel_rfl) (fun w' hS => run_move (v := .bool false) (by kernel_rfl)) ?_
      refine wx_take_not0 (by kernel_rfl) (by kernel_rfl) ?_
      refine wx_take (v := .bool false) (by kernel_rfl) (fun w' hS => run_pick_f (v := .bool false) (by kernel_rfl) (by kernel_rfl)) ?_
      refine wx_take (v := .bool false) (by kernel_rfl) (fun w' hS => run_move (v := .bool false) (by kernel_rfl)) ?_
      refine wx_take_not0 (by kernel_rfl) (by kernel_rfl) ?_
      refine wx_not0 (by kernel_rfl) (by kernel_rfl) ?_
      refine wx_take_not0 (by kernel_rfl) (by kernel_rfl) ?_
      refine wx_take (v := .bool false) (by kernel_rfl) (fun w' hS => run_pick_f (v := .bool false) (by kernel_rfl) (by kernel_rfl)) ?_
      refine wx_take (v := .bool false) (by kernel_rfl) (fun w' hS => run_move (v := .bool false) (by kernel_rfl)) ?_
      refine wx_take_not0 (by kernel_rfl) (by kernel_rfl) ?_
      refine wx_take_not0 (by kernel_rfl) (by kernel_rfl) ?_
      refine wx_take (v := .bool false) (by kernel_rfl) (fun w' hS => run_pick_f (v := .bool false) (by kernel_rfl) (by kernel_rfl)) ?_
      refine wx_take (v := .bool false) (by kernel_rfl) (fun w' hS => run_move (v := .bool false) (by kernel_rfl)) ?_
      refine wx_norm [.bool false, .pointer (some ⟨g_1, 0, none⟩), .bool r_1.2, .pointer (some ⟨g_2, 0, none⟩), .bool r_3.2, .pointer (some ⟨g_3, 0, none⟩), .bool r_5.2, .pointer (some ⟨g_4, 0, none⟩), .bool r_7.2, .pointer (some ⟨g_5, 0, none⟩), .bool r_9.2, .int .u16 r_11.1, .bool r_11.2, .int .u16 r_13.1, .bool r_13.2, .pointer (some ⟨g_6, 0, none⟩), .bool r_14.2, .tuple #[.agg #[.int .i64 r_1.1.N, .int .u8 r_1.1.D], .bool r_1.2], .tuple #[.agg #[.int .i64 r_1.1.N, .int .u8 r_1.1.D], .bool r_1.2], .agg #[.int .i64 r_1.1.N, .int .u8 r_1.1.D], .bool r_1.2, .tuple #[.agg #[.int .i64 r_3.1.N, .int .u8 r_3.1.D], .bool r_3.2], .agg #[.int .i64 r_2.N, .int .u8 r_2.D], .tuple #[.agg #[.int .i64 r_3.1.N, .int .u8 r_3.1.D], .bool r_3.2], .agg #[.int .i64 r_3.1.N, .int .u8 r_3.1.D], .bool r_3.2, .tuple #[.agg #[.int .i64 r_5.1.N, .int .u8 r_5.1.D], .bool r_5.2], .agg #[.int .i64 r_4.N, .int .u8 r_4.D], .tuple #[.agg #[.int .i64 r_5.1.N, .int .u8 r_5.1.D], .bool r_5.2], .agg #[.int .i64 r_5.1.N, .int .u8 r_5.1.D], .bool r_5.2, .tuple #[.agg #[.int .i64 r_7.1.N, .int .u8 r_7.1.D], .bool r_7.2], .agg #[.int .i64 r_6.N, .int .u8 r_6.D], .tuple #[.agg #[.int .i64 r_7.1.N, .int .u8 r_7.1.D], .bool r_7.2], .agg #[.int .i64 r_7.1.N, .int .u8 r_7.1.D], .bool r_7.2, .tuple #[.agg #[.int .i64 r_9.1.N, .int .u8 r_9.1.D], .bool r_9.2], .agg #[.int .i64 r_8.N, .int .u8 r_8.D], .tuple #[.agg #[.int .i64 r_9.1.N, .int .u8 r_9.1.D], .bool r_9.2], .agg #[.int .i64 r_9.1.N, .int .u8 r_9.1.D], .bool r_9.2, .tuple #[.int .u16 r_11.1, .bool r_11.2], .agg #[.int .i64 r_10.N, .int .u8 r_10.D], .tuple #[.int .u16 r_11.1, .bool r_11.2], .int .u16 r_11.1, .bool r_11.2, .tuple #[.int .u16 r_13.1, .bool r_13.2], .agg #[.int .i64 r_12.N, .int .u8 r_12.D], .tuple #[.int .u16 r_13.1, .bool r_13.2], .int .u16 r_13.1, .bool r_13.2, .tuple #[.agg #[.int .i64 r_14.1.N, .int .u8 r_14.1.D], .bool r_14.2], .tuple #[.agg #[.int .i64 r_14.1.N, .int .u8 r_14.1.D], .bool r_14.2], .agg #[.int .i64 r_14.1.N, .int .u8 r_14.1.D], .bool r_14.2, .bool r_1.2, .bool r_1.2, undef, undef, undef, .bool false, .bool false, undef, undef, undef, .bool false, .bool false, undef, .bool false, .bool false, undef, .bool false, .bool false, undef, .bool false, .bool false, undef, .bool false, .bool false, undef, .bool false, .bool false, undef, .bool false, .bool false, undef, undef, undef, .bool false, .bool false, undef, undef, .bool false, .bool false, undef, undef, undef, undef, undef, undef, undef, undef, undef, undef, undef, undef, undef, undef, undef, undef, undef, undef, undef, undef, undef, undef, undef, undef, undef, undef, undef, undef, undef, undef] (by kernel_rfl) ?_
      refine wx_take_not0 (by kernel_rfl) (by kernel_rfl) ?_
      refine wx_take (v := .bool false) (by kernel_rfl) (fun w' hS => run_pick_f (v := .bool false) (by kernel_rfl) (by kernel_rfl)) ?_
      refine wx_take (v := .bool false) (by kernel_rfl) (fun w' hS => run_move (v := .bool false) (by kernel_rfl)) ?_
      refine wx_take_not0 (by kernel_rfl) (by kernel_rfl) ?_
      refine wx_not0 (by kernel_rfl) (by kernel_rfl) ?_
      refine wx_take_not0 (by kernel_rfl) (by kernel_rfl) ?_
      refine wx_take (v := .bool false) (by kernel_rfl) (fun w' hS => run_pick_f (v := .bool false) (by kernel_rfl) (by kernel_rfl)) ?_
      refine wx_take (v := .bool false) (by kernel_rfl) (fun w' hS => run_move (v := .bool false) (by kernel_rfl)) ?_
      refine wx_take_not0 (by kernel_rfl) (by kernel_rfl) ?_
      refine wx_take_not0 (by kernel_rfl) (by kernel_rfl) ?_
      refine wx_take (v := .bool false) (by kernel_rfl) (fun w' hS => run_pick_f (v := .bool false) (by kernel_rfl) (by kernel_rfl)) ?_
      refine wx_take (v := .bool false) (by kernel_rfl) (fun w' hS => run_move (v := .bool false) (by kernel_rfl)) ?_
      refine wx_take_not0 (by kernel_rfl) (by kernel_rfl) ?_
      refine wx_take (v := .bool false) (by kernel_rfl) (fun w' hS => run_pick_f (v := .bool false) (by kernel_rfl) (by kernel_rfl)) ?_
      refine wx_take (v := .bool false) (by kernel_rfl) (fun w' hS => run_move (v := .bool false) (by kernel_rfl)) ?_
      refine wx_take_not0 (by kernel_rfl) (by kernel_rfl) ?_
      refine wx_take_not0 (by kernel_rfl) (by kernel_rfl) ?_
      refine wx_take (v := .bool false) (by kernel_rfl) (fun w' hS => run_pick_f (v := .bool false) (by kernel_rfl) (by kernel_rfl)) ?_
      refine wx_take (v := .bool false) (by kernel_rfl) (fun w' hS => run_move (v := .bool false) (by kernel_rfl)) ?_
      refine wx_norm [.bool false, .pointer (some ⟨g_1, 0, none⟩), .bool r_1.2, .pointer (some ⟨g_2, 0, none⟩), .bool r_3.2, .pointer (some ⟨g_3, 0, none⟩), .bool r_5.2, .pointer (some ⟨g_4, 0, none⟩), .bool r_7.2, .pointer (some ⟨g_5, 0, none⟩), .bool r_9.2, .int .u16 r_11.1, .bool r_11.2, .int .u16 r_13.1, .bool r_13.2, .pointer (some ⟨g_6, 0, none⟩), .bool r_14.2, .tuple #[.agg #[.int .i64 r_1.1.N, .int .u8 r_1.1.D], .bool r_1.2], .tuple #[.agg #[.int .i64 r_1.1.N, .int .u8 r_1.1.D], .bool r_1.2], .agg #[.int .i64 r_1.1.N, .int .u8 r_1.1.D], .bool r_1.2, .tuple #[.agg #[.int .i64 r_3.1.N, .int .u8 r_3.1.D], .bool r_3.2], .agg #[.int .i64 r_2.N, .int .u8 r_2.D], .tuple #[.agg #[.int .i64 r_3.1.N, .int .u8 r_3.1.D], .bool r_3.2], .agg #[.int .i64 r_3.1.N, .int .u8 r_3.1.D], .bool r_3.2, .tuple #[.agg #[.int .i64 r_5.1.N, .int .u8 r_5.1.D], .bool r_5.2], .agg #[.int .i64 r_4.N, .int .u8 r_4.D], .tuple #[.agg #[.int .i64 r_5.1.N, .int .u8 r_5.1.D], .bool r_5.2], .agg #[.int .i64 r_5.1.N, .int .u8 r_5.1.D], .bool r_5.2, .tuple #[.agg #[.int .i64 r_7.1.N, .int .u8 r_7.1.D], .bool r_7.2], .agg #[.int .i64 r_6.N, .int .u8 r_6.D], .tuple #[.agg #[.int .i64 r_7.1.N, .int .u8 r_7.1.D], .bool r_7.2], .agg #[.int .i64 r_7.1.N, .int .u8 r_7.1.D], .bool r_7.2, .tuple #[.agg #[.int .i64 r_9.1.N, .int .u8 r_9.1.D], .bool r_9.2], .agg #[.int .i64 r_8.N, .int .u8 r_8.D], .tuple #[.agg #[.int .i64 r_9.1.N, .int .u8 r_9.1.D], .bool r_9.2], .agg #[.int .i64 r_9.1.N, .int .u8 r_9.1.D], .bool r_9.2, .tuple #[.int .u16 r_11.1, .bool r_11.2], .agg #[.int .i64 r_10.N, .int .u8 r_10.D], .tuple #[.int .u16 r_11.1, .bool r_11.2], .int .u16 r_11.1, .bool r_11.2, .tuple #[.int .u16 r_13.1, .bool r_13.2], .agg #[.int .i64 r_12.N, .int .u8 r_12.D], .tuple #[.int .u16 r_13.1, .bool r_13.2], .int .u16 r_13.1, .bool r_13.2, .tuple #[.agg #[.int .i64 r_14.1.N, .int .u8 r_14.1.D], .bool r_14.2], .tuple #[.agg #[.int .i64 r_14.1.N, .int .u8 r_14.1.D], .bool r_14.2], .agg #[.int .i64 r_14.1.N, .int .u8 r_14.1.D], .bool r_14.2, .bool r_1.2, .bool r_1.2, undef, undef, undef, .bool false, .bool false, undef, undef, undef, .bool false, .bool false, undef, .bool false, .bool false, undef, .bool false, .bool false, undef, .bool false, .bool false, undef, .bool false, .bool false, undef, .bool false, .bool false, undef, .bool false, .bool false, undef, undef, undef, .bool false, .bool false, undef, undef, .bool false, .bool false, undef, .bool false, .bool false, undef, undef, undef, .bool false, .bool false, undef, undef, .bool false, .bool false, undef, .bool false, .bool false, undef, undef, .bool false, .bool false, undef, undef, undef, undef, undef, undef, undef, undef, undef, undef, undef] (by kernel_rfl) ?_
      refine wx_take_not0 (by kernel_rfl) (by kernel_rfl) ?_
      refine wx_take_not0 (by kernel_rfl) (by kernel_rfl) ?_
      refine wx_take (v := .bool false) (by kernel_rfl) (fun w' hS => run_pick_f (v := .bool false) (by kernel_rfl) (by kernel_rfl)) ?_
      refine wx_take (v := .bool false) (by kernel_rfl) (fun w' hS => run_move (v := .bool false) (by kernel_rfl)) ?_
      refine wx_take_not0 (by kernel_rfl) (by kernel_rfl) ?_
      refine wx_take (v := .bool false) (by kernel_rfl) (fun w' hS => run_pick_f (v := .bool false) (by kernel_rfl) (by kernel_rfl)) ?_
      refine wx_take (v := .bool false) (by kernel_rfl) (fun w' hS => run_move (v := .bool false) (by kernel_rfl)) ?_
      refine wx_take_not0 (by kernel_rfl) (by kernel_rfl) ?_
      refine wx_not0 (by kernel_rfl) (by kernel_rfl) ?_
      refine wx_take_not0 (by kernel_rfl) (by kernel_rfl) ?_
      refine wx_take (v := .bool false) (by kernel_rfl) (fun w' hS => run_pick_f (v := .bool false) (by kernel_rfl) (by kernel_rfl)) ?_
      refine wx_take (v := .bool false) (by kernel_rfl) (fun w' hS => run_assign (v := .bool false) (by kernel_rfl)) ?_
      refine wx_nil ?_
      replace h_3 := hS0.box h_3 nilN
      replace h_7 := hS0.box h_7 nilN
      replace h_11 := hS0.box h_11 nilN
      replace h_15 := hS0.box h_15 nilN
      replace h_19 := hS0.box h_19 nilN
      replace h_26 := hS0.box h_26 nilN
      replace hB := hS0.below hL hB
      replace hL := hS0.hL
      have hS : Stp w0.heap.size _ [] F [] w_56 _ := Stp.pick hL [] rfl (by decide)
      replace hB := hS.below hL hB
      replace hL := hS.hL
      exact then_c ⟨false, (fun i => ([.bool r_1.2, .bool r_1.2, undef, undef, undef, .bool false, .bool false, undef, undef, undef, .bool false, .bool false, undef, .bool false, .bool false, undef, .bool false, .bool false, undef, .bool false, .bool false, undef, .bool false, .bool false, undef, .bool false, .bool false, undef, .bool false, .bool false, undef, undef, undef, .bool false, .bool false, undef, undef, .bool false, .bool false, undef, .bool false, .bool false, undef, undef, undef, .bool false, .bool false, undef, undef, .bool false, .bool false, undef, .bool false, .bool false, undef, undef, .bool false, .bool false, undef, undef, .bool false, .bool false, undef, .bool false, .bool false, undef, undef, undef, .bool false] : List Value).getD i undef), by kernel_rfl, hL, hB, hm⟩
  · intro l1 w_46 hI
    obtain ⟨x_1, u_1, rfl, hL, hB, hm⟩ := hI
    unfold m12_J1 at hm
    refine cw_ret ?_
    obtain rfl := Option.some.inj hm
    exact ret1 (v := .bool x_1) rfl (resv_tmp (by kernel_rfl)) ⟨_, rfl, by kernel_rfl, hB⟩
end SxYtihfogahdofdmaaDoor

end
