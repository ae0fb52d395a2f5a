/- Proved in the last of these 9 parts (this is part 8): UnitsWords answers true at every register, decimal, number of digits and sign. Conditions: those of the given statement, and no others. -/
import Derived.Test.YtihfogahdofdmaaDoorPartg
import Derived.KernelRfl
import Derived.Test.YtihfogahdofdmaaDoorParta
import Derived.Test.YtihfogahdofdmaaDoorPartb
set_option linter.unusedVariables false
set_option linter.unusedSimpArgs false
set_option linter.unusedSectionVars false
/- The chapter's examples, in the model. -/
namespace SxYtihfogahdofdmaaDoor
open Sx
set_option maxRecDepth 1000000 in
theorem awake_m : m12 64 = some true := by kernel_rfl
end SxYtihfogahdofdmaaDoor

/- Written by program (gen.py): the model of saucier/saucierlaw12.UnitsWords, and the proof that its code computes it. -/
namespace SxYtihfogahdofdmaaDoor
open Go Go.RowKit Sx Go.Proofs
set_option linter.unusedVariables false
set_option linter.unusedSimpArgs false
attribute [local irreducible] WL WX CW OW
/-! ### 5: "saucier/saucierlaw12.UnitsWords" -/
def m5_J4 (fuel : Nat) (x_3 : Bool) : Option Bool :=
  some x_3
def m5_J3 (fuel : Nat) (p0_0 : Int) (p3_0 : Bool) (r_6 : TDec) : Option Bool :=
  (m17 fuel r_6 7 p3_0).bind fun r_9 => (m16 fuel p0_0 (-1) p3_0).bind fun r_10 => if r_9.2 then (m5_J4 fuel  false) else (if r_10.2 then (m5_J4 fuel  false) else ((m12 fuel ).bind fun r_12 => m5_J4 fuel  r_12))
def m5_J5 (fuel : Nat) (p0_0 : Int) (p3_0 : Bool) (r_6 : TDec) (x_4 : Bool) : Option Bool :=
  if x_4 then (some false) else (m5_J3 fuel p0_0 p3_0 r_6 )
def m5_J2 (fuel : Nat) (p0_0 : Int) (p1_0 : TDec) (p2_0 : Int) (p3_0 : Bool) (r_1 : (TDec × Bool)) (r_2 : (TDec × Bool)) (last_1 : Bool) : Option Bool :=
  (m15 fuel r_1.1 r_2.1).bind fun r_5 => if (eqb (lt r_5 0) last_1) then (some false) else ((m9 fuel p1_0).bind fun r_6 => (m17 fuel r_6 (cvt .i64 (rem p2_0 7)) p3_0).bind fun r_13 => if r_13.2 then ((m16 fuel r_13.1 (cvt .i64 (rem p2_0 7)) p3_0).bind fun r_14 => if r_14.2 then ((some (!((eqi r_14.1.N r_6.N) && ((eqi r_14.1.D r_6.D) && true)))).bind fun c_3 => m5_J5 fuel p0_0 p3_0 r_6 c_3) else (m5_J5 fuel p0_0 p3_0 r_6 true)) else (m5_J3 fuel p0_0 p3_0 r_6 ))
def m5_J1 (fuel : Nat) (p0_0 : Int) (p1_0 : TDec) (p2_0 : Int) (p3_0 : Bool) (r_1 : (TDec × Bool)) (r_2 : (TDec × Bool)) (x_1 : Bool) : Option Bool :=
  if x_1 then (some false) else (if p3_0 then (m5_J2 fuel p0_0 p1_0 p2_0 p3_0 r_1 r_2 (eqi p0_0 32767)) else (m5_J2 fuel p0_0 p1_0 p2_0 p3_0 r_1 r_2 (eqi p0_0 65535)))
def m5 (fuel : Nat) (p0_0 : Int) (p1_0 : TDec) (p2_0 : Int) (p3_0 : Bool) : Option Bool :=
  (m16 fuel p0_0 (cvt .i64 (rem p2_0 7)) p3_0).bind fun r_1 => (m16 fuel (add .u16 p0_0 1) (cvt .i64 (rem p2_0 7)) p3_0).bind fun r_2 => (m17 fuel r_1.1 (cvt .i64 (rem p2_0 7)) p3_0).bind fun r_3 => if r_1.2 then (if r_2.2 then (if r_3.2 then (if (nei r_3.1 p0_0) then (m5_J1 fuel p0_0 p1_0 p2_0 p3_0 r_1 r_2 true) else ((m14 fuel r_1.1).bind fun r_15 => m5_J1 fuel p0_0 p1_0 p2_0 p3_0 r_1 r_2 (!r_15))) else (m5_J1 fuel p0_0 p1_0 p2_0 p3_0 r_1 r_2 true)) else (m5_J1 fuel p0_0 p1_0 p2_0 p3_0 r_1 r_2 true)) else (m5_J1 fuel p0_0 p1_0 p2_0 p3_0 r_1 r_2 true)
@[reducible] def Q5 (F : Lx) (w0 : World) (r : Bool) (v : Value) (w' : World) : Prop := v = .bool r ∧ Below w0.heap.size w0 w'
set_option maxRecDepth 100000 in
set_option maxHeartbeats 4000000 in
theorem f5_ok (fuel : Nat) (F : Lx) (w0 : World) (hF : ∀ k, some k ∈ F → k < w0.heap.size) {p0_0 : Int} {p1_0 : TDec} {p2_0 : Int} {p3_0 : Bool} {r : Bool} (hm : m5 fuel p0_0 p1_0 p2_0 p3_0 = some r) :
    Calls Tryd.prog 5 #[.int .u16 p0_0, .agg #[.int .i64 p1_0.N, .int .u8 p1_0.D], .int .u8 p2_0, .bool p3_0] w0 (fun e w' => ∃ v, e = .returned v ∧ Q5 F w0 r v w') := by
  have hPF : PF (bodyPost Tryd.prog Tryd.f5 (fun e w' => ∃ v, e = .returned v ∧ Q5 F w0 r v w')) := PF.body (fun c w h => by obtain ⟨v, e, _⟩ := h; cases e)
  have hL := LOk.start hF
  have hB := Below.refl w0.heap.size w0
  unfold m5 at hm
  refine enter (l := [.int .u16 p0_0, .agg #[.int .i64 p1_0.N, .int .u8 p1_0.D], .int .u8 p2_0, .bool p3_0, undef, undef, undef, undef, undef, undef, undef, undef, undef, undef, undef, undef, undef, undef, undef, undef, undef, undef, undef, undef, undef, undef, undef, undef, undef, undef, undef, undef, undef, undef, undef, undef, undef, undef, undef, undef, undef, undef, undef, undef, undef, undef, undef, undef, undef, undef, undef, undef, undef, undef, undef, undef, undef, undef, undef, undef, undef, undef, undef, undef, undef, undef, undef, undef, undef, undef, undef, undef, undef, undef, undef, undef, undef, undef, undef, undef, undef, undef, undef, undef, undef, undef, undef, undef, undef, undef, undef, undef, undef, undef, undef, undef, undef, undef, undef, undef, undef, undef, undef, undef, undef, undef, undef, undef, undef, undef, undef, undef, undef, undef, undef, undef, undef, undef, undef, undef, undef, undef, undef, undef, undef, undef]) Tryd.func5 rfl Tryd.ntmps5 (by kernel_rfl) ?_
  refine cw_seq ?_
  refine cw_region ?_
  refine wl_op (by kernel_rfl) (ow_box' (v := .agg #[.int .i64 p1_0.N, .int .u8 p1_0.D]) (vs := [.int .i64 p1_0.N, .int .u8 p1_0.D]) (by kernel_rfl) rfl hL ?_)
  intro g_1 w_1 hS h_1
  replace hB := hS.below hL hB
  replace hL := hS.hL
  refine wl_val (v := .bool false) (w' := w_1) (by kernel_rfl) (run_assign (v := .bool false) (by kernel_rfl)) ?_
  refine wl_nil ?_
  refine then_n ?_
  refine cw_seq ?_
  refine cw_region ?_
  refine wl_val (v := .int .u8 p2_0) (w' := w_1) (by kernel_rfl) (run_move (v := .int .u8 p2_0) (by kernel_rfl)) ?_
  refine wl_val (v := .int .u8 (rem p2_0 7)) (w' := w_1) (by kernel_rfl) (run_rem (k := .u8) (a := p2_0) (b := 7) (by kernel_rfl) (by kernel_rfl) (by decide)) ?_
  refine wl_val (v := .int .i64 (cvt .i64 (rem p2_0 7))) (w' := w_1) (by kernel_rfl) (run_cvt (k := .u8) (a := (rem p2_0 7)) Tryd.underlying5 Tryd.underlying3 (by kernel_rfl)) ?_
  refine wl_val (v := .int .i64 (cvt .i64 (rem p2_0 7))) (w' := w_1) (by kernel_rfl) (run_assign (v := .int .i64 (cvt .i64 (rem p2_0 7))) (by kernel_rfl)) ?_
  refine wl_nil ?_
  refine then_n ?_
  refine cw_seq ?_
  refine cw_region ?_
  refine wl_val (v := .int .u16 p0_0) (w' := w_1) (by kernel_rfl) (run_move (v := .int .u16 p0_0) (by kernel_rfl)) ?_
  refine wl_val (v := .int .i64 (cvt .i64 (rem p2_0 7))) (w' := w_1) (by kernel_rfl) (run_move (v := .int .i64 (cvt .i64 (rem p2_0 7))) (by kernel_rfl)) ?_
  refine wl_val (v := .bool p3_0) (w' := w_1) (by kernel_rfl) (run_move (v := .bool p3_0) (by kernel_rfl)) ?_
  obtain ⟨r_1, h_2, hm⟩ := bind_e hm
  refine wl_op (by kernel_rfl) (ow_enter (run_callf (vs := [.int .u16 p0_0, .int .i64 (cvt .i64 (rem p2_0 7)), .bool p3_0]) Tryd.func16 nm_16 (by kernel_rfl) (by kernel_rfl)) (f16_ok (p0_0 := p0_0) (p1_0 := (cvt .i64 (rem p2_0 7))) (p2_0 := p3_0) fuel _ w_1 hL.lt  h_2) ?_)
  intro vR w_2 hR
  obtain ⟨rfl, hBe⟩ := hR
  have hS := Stp.call hL (Fz.of_below hBe [])
  replace h_1 := hS.box h_1 nilN
  replace hB := hS.below hL hB
  replace hL := hS.hL
  refine wl_val (v := .tuple #[.agg #[.int .i64 r_1.1.N, .int .u8 r_1.1.D], .bool r_1.2]) (w' := w_2) (by kernel_rfl) (run_move (v := .tuple #[.agg #[.int .i64 r_1.1.N, .int .u8 r_1.1.D], .bool r_1.2]) (by kernel_rfl)) ?_
  refine wl_val (v := .agg #[.int .i64 r_1.1.N, .int .u8 r_1.1.D]) (w' := w_2) (by kernel_rfl) (run_extract (vs := #[.agg #[.int .i64 r_1.1.N, .int .u8 r_1.1.D], .bool r_1.2]) (by kernel_rfl) (by kernel_rfl)) ?_
  refine wl_val (v := .bool r_1.2) (w' := w_2) (by kernel_rfl) (run_extract (vs := #[.agg #[.int .i64 r_1.1.N, .int .u8 r_1.1.D], .bool r_1.2]) (by kernel_rfl) (by kernel_rfl)) ?_
  refine wl_op (by kernel_rfl) (ow_alloc' (z := .agg #[.int .i64 0, .int .u8 0]) (vs := [.int .i64 0, .int .u8 0]) (by kernel_rfl) rfl hL ?_)
  intro g_2 w_3 hS h_3
  replace h_1 := hS.box h_1 nilN
  replace hB := hS.below hL hB
  replace hL := hS.hL
  refine wl_op (by kernel_rfl) (ow_store_box' (g := g_2) (j := 0) (v := .agg #[.int .i64 r_1.1.N, .int .u8 r_1.1.D]) (vs := [.int .i64 r_1.1.N, .int .u8 r_1.1.D]) (cs' := [.int .i64 r_1.1.N, .int .u8 r_1.1.D]) sz_23 (by kernel_rfl) (by kernel_rfl) rfl rfl rfl hL h_3 rfl (by simp) rfl ?_)
  intro w_4 hS h_4
  replace h_1 := hS.box h_1 (hL.apart 1 0 rfl rfl (by decide) _ rfl)
  replace hB := hS.below hL hB
  replace hL := hS.hL
  refine wl_val (v := .bool r_1.2) (w' := w_4) (by kernel_rfl) (run_assign (v := .bool r_1.2) (by kernel_rfl)) ?_
  refine wl_nil ?_
  refine then_n ?_
  refine cw_norm [.int .u16 p0_0, .agg #[.int .i64 p1_0.N, .int .u8 p1_0.D], .int .u8 p2_0, .bool p3_0, undef, .pointer (some ⟨g_1, 0, none⟩), undef, undef, .bool false, .int .i64 (cvt .i64 (rem p2_0 7)), .pointer (some ⟨g_2, 0, none⟩), .bool r_1.2, undef, undef, undef, undef, undef, undef, undef, undef, undef, undef, undef, undef, undef, .int .u8 p2_0, .int .u8 (rem p2_0 7), .int .i64 (cvt .i64 (rem p2_0 7)), .tuple #[.agg #[.int .i64 r_1.1.N, .int .u8 r_1.1.D], .bool r_1.2], .int .u16 p0_0, .int .i64 (cvt .i64 (rem p2_0 7)), .bool p3_0, .tuple #[.agg #[.int .i64 r_1.1.N, .int .u8 r_1.1.D], .bool r_1.2], .agg #[.int .i64 r_1.1.N, .int .u8 r_1.1.D], .bool r_1.2, undef, undef, undef, undef, undef, undef, undef, undef, undef, undef, undef, undef, undef, undef, undef, undef, undef, undef, undef, undef, undef, undef, undef, undef, undef, undef, undef, undef, undef, undef, undef, undef, undef, undef, undef, undef, undef, undef, undef, undef, undef, undef, undef, undef, undef, undef, undef, undef, undef, undef, undef, undef, undef, undef, undef, undef, undef, undef, undef, undef, undef, undef, undef, undef, undef, undef, undef, undef, undef, undef, undef, undef, undef, undef, undef, undef, undef, undef, undef, undef, undef, undef, undef, undef, undef, undef, undef, undef, undef, undef, undef] (by kernel_rfl) ?_
  refine cw_seq ?_
  refine cw_region ?_
  refine wl_val (v := .int .u16 p0_0) (w' := w_4) (by kernel_rfl) (run_move (v := .int .u16 p0_0) (by kernel_rfl)) ?_
  refine wl_val (v := .int .u16 (add .u16 p0_0 1)) (w' := w_4) (by kernel_rfl) (run_add (k := .u16) (a := p0_0) (b := 1) (by kernel_rfl) (by kernel_rfl)) ?_
  refine wl_val (v := .int .i64 (cvt .i64 (rem p2_0 7))) (w' := w_4) (by kernel_rfl) (run_move (v := .int .i64 (cvt .i64 (rem p2_0 7))) (by kernel_rfl)) ?_
  refine wl_val (v := .bool p3_0) (w' := w_4) (by kernel_rfl) (run_move (v := .bool p3_0) (by kernel_rfl)) ?_
  obtain ⟨r_2, h_5, hm⟩ := bind_e hm
  refine wl_op (by kernel_rfl) (ow_enter (run_callf (vs := [.int .u16 (add .u16 p0_0 1), .int .i64 (cvt .i64 (rem p2_0 7)), .bool p3_0]) Tryd.func16 nm_16 (by kernel_rfl) (by kernel_rfl)) (f16_ok (p0_0 := (add .u16 p0_0 1)) (p1_0 := (cvt .i64 (rem p2_0 7))) (p2_0 := p3_0) fuel _ w_4 hL.lt  h_5) ?_)
  intro vR w_5 hR
  obtain ⟨rfl, hBe⟩ := hR
  have hS := Stp.call hL (Fz.of_below hBe [])
  replace h_1 := hS.box h_1 nilN
  replace h_4 := hS.box h_4 nilN
  replace hB := hS.below hL hB
  replace hL := hS.hL
  refine wl_val (v := .tuple #[.agg #[.int .i64 r_2.1.N, .int .u8 r_2.1.D], .bool r_2.2]) (w' := w_5) (by kernel_rfl) (run_move (v := .tuple #[.agg #[.int .i64 r_2.1.N, .int .u8 r_2.1.D], .bool r_2.2]) (by kernel_rfl)) ?_
  refine wl_val (v := .agg #[.int .i64 r_2.1.N, .int .u8 r_2.1.D]) (w' := w_5) (by kernel_rfl) (run_extract (vs := #[.agg #[.int .i64 r_2.1.N, .int .u8 r_2.1.D], .bool r_2.2]) (by kernel_rfl) (by kernel_rfl)) ?_
  refine wl_val (v := .bool r_2.2) (w' := w_5) (by kernel_rfl) (run_extract (vs := #[.agg #[.int .i64 r_2.1.N, .int .u8 r_2.1.D], .bool r_2.2]) (by kernel_rfl) (by kernel_rfl)) ?_
  refine wl_op (by kernel_rfl) (ow_alloc' (z := .agg #[.int .i64 0, .int .u8 0]) (vs := [.int .i64 0, .int .u8 0]) (by kernel_rfl) rfl hL ?_)
  intro g_3 w_6 hS h_6
  replace h_1 := hS.box h_1 nilN
  replace h_4 := hS.box h_4 nilN
  replace hB := hS.below hL hB
  replace hL := hS.hL
  refine wl_op (by kernel_rfl) (ow_store_box' (g := g_3) (j := 0) (v := .agg #[.int .i64 r_2.1.N, .int .u8 r_2.1.D]) (vs := [.int .i64 r_2.1.N, .int .u8 r_2.1.D]) (cs' := [.int .i64 r_2.1.N, .int .u8 r_2.1.D]) sz_23 (by kernel_rfl) (by kernel_rfl) rfl rfl rfl hL h_6 rfl (by simp) rfl ?_)
  intro w_7 hS h_7
  replace h_1 := hS.box h_1 (hL.apart 2 0 rfl rfl (by decide) _ rfl)
  replace h_4 := hS.box h_4 (hL.apart 1 0 rfl rfl (by decide) _ rfl)
  replace hB := hS.below hL hB
  replace hL := hS.hL
  refine wl_val (v := .bool r_2.2) (w' := w_7) (by kernel_rfl) (run_assign (v := .bool r_2.2) (by kernel_rfl)) ?_
  refine wl_nil ?_
  refine then_n ?_
  refine cw_seq ?_
  refine cw_region ?_
  refine wl_val (v := .agg #[.int .i64 r_1.1.N, .int .u8 r_1.1.D]) (w' := w_7) (by kernel_rfl) (run_load_boxn (j := 0) (vs := [.int .i64 r_1.1.N, .int .u8 r_1.1.D]) Tryd.underlying23 rfl sz_23 (by kernel_rfl) h_4 (by kernel_rfl) rfl) ?_
  refine wl_val (v := .int .i64 (cvt .i64 (rem p2_0 7))) (w' := w_7) (by kernel_rfl) (run_move (v := .int .i64 (cvt .i64 (rem p2_0 7))) (by kernel_rfl)) ?_
  refine wl_val (v := .bool p3_0) (w' := w_7) (by kernel_rfl) (run_move (v := .bool p3_0) (by kernel_rfl)) ?_
  obtain ⟨r_3, h_8, hm⟩ := bind_e hm
  refine wl_op (by kernel_rfl) (ow_enter (run_callf (vs := [.agg #[.int .i64 r_1.1.N, .int .u8 r_1.1.D], .int .i64 (cvt .i64 (rem p2_0 7)), .bool p3_0]) Tryd.func17 nm_17 (by kernel_rfl) (by kernel_rfl)) (f17_ok (p0_0 := r_1.1) (p1_0 := (cvt .i64 (rem p2_0 7))) (p2_0 := p3_0) fuel _ w_7 hL.lt  h_8) ?_)
  intro vR w_8 hR
  obtain ⟨rfl, hBe⟩ := hR
  have hS := Stp.call hL (Fz.of_below hBe [])
  replace h_1 := hS.box h_1 nilN
  replace h_4 := hS.box h_4 nilN
  replace h_7 := hS.box h_7 nilN
  replace hB := hS.below hL hB
  replace hL := hS.hL
  refine wl_val (v := .tuple #[.int .u16 r_3.1, .bool r_3.2]) (w' := w_8) (by kernel_rfl) (run_move (v := .tuple #[.int .u16 r_3.1, .bool r_3.2]) (by kernel_rfl)) ?_
  refine wl_val (v := .int .u16 r_3.1) (w' := w_8) (by kernel_rfl) (run_extract (vs := #[.int .u16 r_3.1, .bool r_3.2]) (by kernel_rfl) (by kernel_rfl)) ?_
  refine wl_val (v := .bool r_3.2) (w' := w_8) (by kernel_rfl) (run_extract (vs := #[.int .u16 r_3.1, .bool r_3.2]) (by kernel_rfl) (by kernel_rfl)) ?_
  refine wl_norm [.int .u16 p0_0, .agg #[.int .i64 p1_0.N, .int .u8 p1_0.D], .int .u8 p2_0, .bool p3_0, undef, .pointer (some ⟨g_1, 0, none⟩), undef, undef, .bool false, .int .i64 (cvt .i64 (rem p2_0 7)), .pointer (some ⟨g_2, 0, none⟩), .bool r_1.2, .pointer (some ⟨g_3, 0, none⟩), .bool r_2.2, undef, undef, undef, undef, undef, undef, undef, undef, undef, undef, undef, .int .u8 p2_0, .int .u8 (rem p2_0 7), .int .i64 (cvt .i64 (rem p2_0 7)), .tuple #[.agg #[.int .i64 r_1.1.N, .int .u8 r_1.1.D], .bool r_1.2], .int .u16 p0_0, .int .i64 (cvt .i64 (rem p2_0 7)), .bool p3_0, .tuple #[.agg #[.int .i64 r_1.1.N, .int .u8 r_1.1.D], .bool r_1.2], .agg #[.int .i64 r_1.1.N, .int .u8 r_1.1.D], .bool r_1.2, .tuple #[.agg #[.int .i64 r_2.1.N, .int .u8 r_2.1.D], .bool r_2.2], .int .u16 p0_0, .int .u16 (add .u16 p0_0 1), .int .i64 (cvt .i64 (rem p2_0 7)), .bool p3_0, .tuple #[.agg #[.int .i64 r_2.1.N, .int .u8 r_2.1.D], .bool r_2.2], .agg #[.int .i64 r_2.1.N, .int .u8 r_2.1.D], .bool r_2.2, .tuple #[.int .u16 r_3.1, .bool r_3.2], .agg #[.int .i64 r_1.1.N, .int .u8 r_1.1.D], .int .i64 (cvt .i64 (rem p2_0 7)), .bool p3_0, .tuple #[.int .u16 r_3.1, .bool r_3.2], .int .u16 r_3.1, .bool r_3.2, undef, undef, undef, undef, undef, undef, undef, undef, undef, undef, undef, undef, undef, undef, undef, undef, undef, undef, undef, undef, undef, undef, undef, undef, undef, undef, undef, undef, undef, undef, undef, undef, undef, undef, undef, undef, undef, undef, undef, undef, undef, undef, undef, undef, undef, undef, undef, undef, undef, undef, undef, undef, undef, undef, undef, undef, undef, undef, undef, undef, undef, undef, undef, undef, undef, undef, undef, undef, undef, undef, undef, undef, undef, undef, undef, undef] (by kernel_rfl) ?_
  refine wl_val (v := .int .u16 r_3.1) (w' := w_8) (by kernel_rfl) (run_assign (v := .int .u16 r_3.1) (by kernel_rfl)) ?_
  refine wl_val (v := .bool r_3.2) (w' := w_8) (by kernel_rfl) (run_assign (v := .bool r_3.2) (by kernel_rfl)) ?_
  refine wl_nil ?_
  refine then_n ?_
  refine cw_seq ?_
  refine cw_cut (fun l' w' => ∃ x_1, ∃ u_1 : Nat → Value, l' = [.int .u16 p0_0, .agg #[.int .i64 p1_0.N, .int .u8 p1_0.D], .int .u8 p2_0, .bool p3_0, undef, .pointer (some ⟨g_1, 0, none⟩), undef, undef, .bool false, .int .i64 (cvt .i64 (rem p2_0 7)), .pointer (some ⟨g_2, 0, none⟩), .bool r_1.2, .pointer (some ⟨g_3, 0, none⟩), .bool r_2.2, .int .u16 r_3.1, .bool r_3.2, undef, undef, undef, undef, undef, undef, undef, undef, undef, .int .u8 p2_0, .int .u8 (rem p2_0 7), .int .i64 (cvt .i64 (rem p2_0 7)), .tuple #[.agg #[.int .i64 r_1.1.N, .int .u8 r_1.1.D], .bool r_1.2], .int .u16 p0_0, .int .i64 (cvt .i64 (rem p2_0 7)), .bool p3_0, .tuple #[.agg #[.int .i64 r_1.1.N, .int .u8 r_1.1.D], .bool r_1.2], .agg #[.int .i64 r_1.1.N, .int .u8 r_1.1.D], .bool r_1.2, .tuple #[.agg #[.int .i64 r_2.1.N, .int .u8 r_2.1.D], .bool r_2.2], .int .u16 p0_0, .int .u16 (add .u16 p0_0 1), .int .i64 (cvt .i64 (rem p2_0 7)), .bool p3_0, .tuple #[.agg #[.int .i64 r_2.1.N, .int .u8 r_2.1.D], .bool r_2.2], .agg #[.int .i64 r_2.1.N, .int .u8 r_2.1.D], .bool r_2.2, .tuple #[.int .u16 r_3.1, .bool r_3.2], .agg #[.int .i64 r_1.1.N, .int .u8 r_1.1.D], .int .i64 (cvt .i64 (rem p2_0 7)), .bool p3_0, .tuple #[.int .u16 r_3.1, .bool r_3.2], .int .u16 r_3.1, .bool r_3.2, (u_1 0), (u_1 1), (u_1 2), (u_1 3), (u_1 4), (u_1 5), (u_1 6), (u_1 7), (u_1 8), (u_1 9), (u_1 10), (u_1 11), (u_1 12), (u_1 13), (u_1 14), (u_1 15), (u_1 16), (u_1 17), (u_1 18), .bool x_1, undef, undef, undef, undef, undef, undef, undef, undef, undef, undef, undef, undef, undef, undef, undef, undef, undef, undef, undef, undef, undef, undef, undef, undef, undef, undef, undef, undef, undef, undef, undef, undef, undef, undef, undef, undef, undef, undef, undef, undef, undef, undef, undef, undef, undef, undef, undef, undef, undef, undef, undef, undef, undef, undef, undef, undef] ∧ LOk w0.heap.size [some g_3, some g_2, some g_1] F w' ∧ Below w0.heap.size w0 w' ∧ Bx w' g_1 [.int .i64 p1_0.N, .int .u8 p1_0.D] 23 ∧ Bx w' g_2 [.int .i64 r_1.1.N, .int .u8 r_1.1.D] 23 ∧ Bx w' g_3 [.int .i64 r_2.1.N, .int .u8 r_2.1.D] 23 ∧ m5_J1 fuel p0_0 p1_0 p2_0 p3_0 r_1 r_2 x_1 = some r) ?_ ?_
  · refine cw_region ?_
    refine wl_val (v := .bool r_1.2) (w' := w_8) (by kernel_rfl) (run_move (v := .bool r_1.2) (by kernel_rfl)) ?_
    refine wl_val (v := .bool (!r_1.2)) (w' := w_8) (by kernel_rfl) (run_not (b := r_1.2) (by kernel_rfl)) ?_
    refine wl_val (v := .bool (!r_1.2)) (w' := w_8) (by kernel_rfl) (run_move (v := .bool (!r_1.2)) (by kernel_rfl)) ?_
    rcases Bool.eq_false_or_eq_true r_1.2 with hc_20 | hc_20
    · have hm := ite_t hm hc_20
      refine wl_val (v := .bool r_2.2) (w' := w_8) (wg (c := (!r_1.2)) (want := false) (by kernel_rfl) (not_t hc_20) rfl) (run_move (v := .bool r_2.2) (by kernel_rfl)) ?_
      refine wl_val (v := .bool (!r_2.2)) (w' := w_8) (wg (c := (!r_1.2)) (want := false) (by kernel_rfl) (not_t hc_20) rfl) (run_not (b := r_2.2) (by kernel_rfl)) ?_
      refine wl_val (v := .bool (!r_2.2)) (w' := w_8) (by kernel_rfl) (run_pick_f (v := .bool (!r_2.2)) (tr2 (c := (!r_1.2)) (by kernel_rfl) (not_t hc_20)) (by kernel_rfl)) ?_
      refine wl_val (v := .bool (!r_2.2)) (w' := w_8) (by kernel_rfl) (run_move (v := .bool (!r_2.2)) (by kernel_rfl)) ?_
      refine wl_norm [.int .u16 p0_0, .agg #[.int .i64 p1_0.N, .int .u8 p1_0.D], .int .u8 p2_0, .bool p3_0, undef, .pointer (some ⟨g_1, 0, none⟩), undef, undef, .bool false, .int .i64 (cvt .i64 (rem p2_0 7)), .pointer (some ⟨g_2, 0, none⟩), .bool r_1.2, .pointer (some ⟨g_3, 0, none⟩), .bool r_2.2, .int .u16 r_3.1, .bool r_3.2, undef, undef, undef, undef, undef, undef, undef, undef, undef, .int .u8 p2_0, .int .u8 (rem p2_0 7), .int .i64 (cvt .i64 (rem p2_0 7)), .tuple #[.agg #[.int .i64 r_1.1.N, .int .u8 r_1.1.D], .bool r_1.2], .int .u16 p0_0, .int .i64 (cvt .i64 (rem p2_0 7)), .bool p3_0, .tuple #[.agg #[.int .i64 r_1.1.N, .int .u8 r_1.1.D], .bool r_1.2], .agg #[.int .i64 r_1.1.N, .int .u8 r_1.1.D], .bool r_1.2, .tuple #[.agg #[.int .i64 r_2.1.N, .int .u8 r_2.1.D], .bool r_2.2], .int .u16 p0_0, .int .u16 (add .u16 p0_0 1), .int .i64 (cvt .i64 (rem p2_0 7)), .bool p3_0, .tuple #[.agg #[.int .i64 r_2.1.N, .int .u8 r_2.1.D], .bool r_2.2], .agg #[.int .i64 r_2.1.N, .int .u8 r_2.1.D], .bool r_2.2, .tuple #[.int .u16 r_3.1, .bool r_3.2], .agg #[.int .i64 r_1.1.N, .int .u8 r_1.1.D], .int .i64 (cvt .i64 (rem p2_0 7)), .bool p3_0, .tuple #[.int .u16 r_3.1, .bool r_3.2], .int .u16 r_3.1, .bool r_3.2, .bool r_1.2, .bool (!r_1.2), .bool (!r_1.2), .bool r_2.2, .bool (!r_2.2), .bool (!r_2.2), .bool (!r_2.2), undef, undef, undef, undef, undef, undef, undef, undef, undef, undef, undef, undef, undef, undef, undef, undef, undef, undef, undef, undef, undef, undef, undef, undef, undef, undef, undef, undef, undef, undef, undef, undef, undef, undef, undef, undef, undef, undef, undef, undef, undef, undef, undef, undef, undef, undef, undef, undef, undef, undef, undef, undef, undef, undef, undef, undef, undef, undef, undef, undef, undef, undef, undef, undef, undef, undef, undef, undef, undef] (by kernel_rfl) ?_
      rcases Bool.eq_false_or_eq_true r_2.2 with hc_21 | hc_21
      · have hm := ite_t hm hc_21
        refine wl_val (v := .bool r_3.2) (w' := w_8) (wg (c := (!r_2.2)) (want := false) (by kernel_rfl) (not_t hc_21) rfl) (run_move (v := .bool r_3.2) (by kernel_rfl)) ?_
        refine wl_val (v := .bool (!r_3.2)) (w' := w_8) (wg (c := (!r_2.2)) (want := false) (by kernel_rfl) (not_t hc_21) rfl) (run_not (b := r_3.2) (by kernel_rfl)) ?_
        refine wl_val (v := .bool (!r_3.2)) (w' := w_8) (by kernel_rfl) (run_pick_f (v := .bool (!r_3.2)) (tr2 (c := (!r_2.2)) (by kernel_rfl) (not_t hc_21)) (by kernel_rfl)) ?_
        refine wl_val (v := .bool (!r_3.2)) (w' := w_8) (by kernel_rfl) (run_move (v := .bool (!r_3.2)) (by kernel_rfl)) ?_
        rcases Bool.eq_false_or_eq_true r_3.2 with hc_22 | hc_22
        · have hm := ite_t hm hc_22
          refine wl_val (v := .int .u16 r_3.1) (w' := w_8) (wg (c := (!r_3.2)) (want := false) (by kernel_rfl) (not_t hc_22) rfl) (run_move (v := .int .u16 r_3.1) (by kernel_rfl)) ?_
          refine wl_val (v := .int .u16 p0_0) (w' := w_8) (wg (c := (!r_3.2)) (want := false) (by kernel_rfl) (not_t hc_22) rfl) (run_move (v := .int .u16 p0_0) (by kernel_rfl)) ?_
          refine wl_val (v := .bool (nei r_3.1 p0_0)) (w' := w_8) (wg (c := (!r_3.2)) (want := false) (by kernel_rfl) (not_t hc_22) rfl) (run_nei (k := .u16) (a := r_3.1) (b := p0_0) (by kernel_rfl) (by kernel_rfl)) ?_
          refine wl_val (v := .bool (nei r_3.1 p0_0)) (w' := w_8) (by kernel_rfl) (run_pick_f (v := .bool (nei r_3.1 p0_0)) (tr2 (c := (!r_3.2)) (by kernel_rfl) (not_t hc_22)) (by kernel_rfl)) ?_
          refine wl_val (v := .bool (nei r_3.1 p0_0)) (w' := w_8) (by kernel_rfl) (run_move (v := .bool (nei r_3.1 p0_0)) (by kernel_rfl)) ?_
          refine wl_norm [.int .u16 p0_0, .agg #[.int .i64 p1_0.N, .int .u8 p1_0.D], .int .u8 p2_0, .bool p3_0, undef, .pointer (some ⟨g_1, 0, none⟩), undef, undef, .bool false, .int .i64 (cvt .i64 (rem p2_0 7)), .pointer (some ⟨g_2, 0, none⟩), .bool r_1.2, .pointer (some ⟨g_3, 0, none⟩), .bool r_2.2, .int .u16 r_3.1, .bool r_3.2, undef, undef, undef, undef, undef, undef, undef, undef, undef, .int .u8 p2_0, .int .u8 (rem p2_0 7), .int .i64 (cvt .i64 (rem p2_0 7)), .tuple #[.agg #[.int .i64 r_1.1.N, .int .u8 r_1.1.D], .bool r_1.2], .int .u16 p0_0, .int .i64 (cvt .i64 (rem p2_0 7)), .bool p3_0, .tuple #[.agg #[.int .i64 r_1.1.N, .int .u8 r_1.1.D], .bool r_1.2], .agg #[.int .i64 r_1.1.N, .int .u8 r_1.1.D], .bool r_1.2, .tuple #[.agg #[.int .i64 r_2.1.N, .int .u8 r_2.1.D], .bool r_2.2], .int .u16 p0_0, .int .u16 (add .u16 p0_0 1), .int .i64 (cvt .i64 (rem p2_0 7)), .bool p3_0, .tuple #[.agg #[.int .i64 r_2.1.N, .int .u8 r_2.1.D], .bool r_2.2], .agg #[.int .i64 r_2.1.N, .int .u8 r_2.1.D], .bool r_2.2, .tuple #[.int .u16 r_3.1, .bool r_3.2], .agg #[.int .i64 r_1.1.N, .int .u8 r_1.1.D], .int .i64 (cvt .i64 (rem p2_0 7)), .bool p3_0, .tuple #[.int .u16 r_3.1, .bool r_3.2], .int .u16 r_3.1, .bool r_3.2, .bool r_1.2, .bool (!r_1.2), .bool (!r_1.2), .bool r_2.2, .bool (!r_2.2), .bool (!r_2.2), .bool (!r_2.2), .bool r_3.2, .bool (!r_3.2), .bool (!r_3.2), .bool (!r_3.2), .int .u16 r_3.1, .int .u16 p0_0, .bool (nei r_3.1 p0_0), .bool (nei r_3.1 p0_0), .bool (nei r_3.1 p0_0), undef, undef, undef, undef, undef, undef, undef, undef, undef, undef, undef, undef, undef, undef, undef, undef, undef, undef, undef, undef, undef, undef, undef, undef, undef, undef, undef, undef, undef, undef, undef, undef, undef, undef, undef, undef, undef, undef, undef, undef, undef, undef, undef, undef, undef, undef, undef, undef, undef, undef, undef, undef, undef, undef, undef, undef, undef, undef, undef, undef] (by kernel_rfl) ?_
          rcases Bool.eq_false_or_eq_true (nei r_3.1 p0_0) with hc_23 | hc_23
          · have hm := ite_t hm hc_23
            refine wl_not0 (wg (c := (nei r_3.1 p0_0)) (want := false) (by kernel_rfl) hc_23 rfl) (by kernel_rfl) ?_
            refine wl_not0 (wg (c := (nei r_3.1 p0_0)) (want := false) (by kernel_rfl) hc_23 rfl) (by kernel_rfl) ?_
            refine wl_not0 (wg (c := (nei r_3.1 p0_0)) (want := false) (by kernel_rfl) hc_23 rfl) (by kernel_rfl) ?_
            refine wl_val (v := .bool true) (w' := w_8) (by kernel_rfl) (run_pick_t (v := .bool true) (tr2 (c := (nei r_3.1 p0_0)) (by kernel_rfl) hc_23) (by kernel_rfl)) ?_
            refine wl_nil ?_
            exact then_c ⟨true, (fun i => ([.bool r_1.2, .bool (!r_1.2), .bool (!r_1.2), .bool r_2.2, .bool (!r_2.2), .bool (!r_2.2), .bool (!r_2.2), .bool r_3.2, .bool (!r_3.2), .bool (!r_3.2), .bool (!r_3.2), .int .u16 r_3.1, .int .u16 p0_0, .bool (nei r_3.1 p0_0), .bool (nei r_3.1 p0_0), .bool (nei r_3.1 p0_0), undef, undef, undef] : List Value).getD i undef), by kernel_rfl, hL, hB, h_1, h_4, h_7, hm⟩
          · have hm := ite_f hm hc_23
            refine wl_val (v := .agg #[.int .i64 r_1.1.N, .int .u8 r_1.1.D]) (w' := w_8) (wg (c := (nei r_3.1 p0_0)) (want := false) (by kernel_rfl) hc_23 rfl) (run_load_boxn (j := 0) (vs := [.int .i64 r_1.1.N, .int .u8 r_1.1.D]) Tryd.underlying23 rfl sz_23 (by kernel_rfl) h_4 (by kernel_rfl) rfl) ?_
            obtain ⟨r_15, h_30, hm⟩ := bind_e hm
            refine wl_op (wg (c := (nei r_3.1 p0_0)) (want := false) (by kernel_rfl) hc_23 rfl) (ow_enter (run_callf (vs := [.agg #[.int .i64 r_1.1.N, .int .u8 r_1.1.D]]) Tryd.func14 nm_14 (by kernel_rfl) (by kernel_rfl)) (f14_ok (p0_0 := r_1.1) fuel _ w_8 hL.lt  h_30) ?_)
            intro vR w_32 hR
            obtain ⟨rfl, hBe⟩ := hR
            have hS := Stp.call hL (Fz.of_below hBe [])
            replace h_1 := hS.box h_1 nilN
            replace h_4 := hS.box h_4 nilN
            replace h_7 := hS.box h_7 nilN
            replace hB := hS.below hL hB
            replace hL := hS.hL
            refine wl_val (v := .bool (!r_15)) (w' := w_32) (wg (c := (nei r_3.1 p0_0)) (want := false) (by kernel_rfl) hc_23 rfl) (run_not (b := r_15) (by kernel_rfl)) ?_
            refine wl_val (v := .bool (!r_15)) (w' := w_32) (by kernel_rfl) (run_pick_f (v := .bool (!r_15)) (tr2 (c := (nei r_3.1 p0_0)) (by kernel_rfl) hc_23) (by kernel_rfl)) ?_
            refine wl_nil ?_
            exact then_c ⟨(!r_15), (fun i => ([.bool r_1.2, .bool (!r_1.2), .bool (!r_1.2), .bool r_2.2, .bool (!r_2.2), .bool (!r_2.2), .bool (!r_2.2), .bool r_3.2, .bool (!r_3.2), .bool (!r_3.2), .bool (!r_3.2), .int .u16 r_3.1, .int .u16 p0_0, .bool (nei r_3.1 p0_0), .bool (nei r_3.1 p0_0), .bool (nei r_3.1 p0_0), .agg #[.int .i64 r_1.1.N, .int .u8 r_1.1.D], .bool r_15, .bool (!r_15)] : List Value).getD i undef), by kernel_rfl, hL, hB, h_1, h_4, h_7, hm⟩
        · have hm := ite_f hm hc_22
          refine wl_not0 (wg (c := (!r_3.2)) (want := false) (by kernel_rfl) (not_f hc_22) rfl) (by kernel_rfl) ?_
          refine wl_not0 (wg (c := (!r_3.2)) (want := false) (by kernel_rfl) (not_f hc_22) rfl) (by kernel_rfl) ?_
          refine wl_not0 (wg (c := (!r_3.2)) (want := false) (by kernel_rfl) (not_f hc_22) rfl) (by kernel_rfl) ?_
          refine wl_val (v := .bool true) (w' := w_8) (by kernel_rfl) (run_pick_t (v := .bool true) (tr2 (c := (!r_3.2)) (by kernel_rfl) (not_f hc_22)) (by kernel_rfl)) ?_
          refine wl_val (v := .bool true) (w' := w_8) (by kernel_rfl) (run_move (v := .bool true) (by kernel_rfl)) ?_
          refine wl_not0 (by kernel_rfl) (by kernel_rfl) ?_
          refine wl_not0 (by kernel_rfl) (by kernel_rfl) ?_
          refine wl_not0 (by kernel_rfl) (by kernel_rfl) ?_
          refine wl_val (v := .bool true) (w' := w_8) (by kernel_rfl) (run_pick_t (v := .bool true) (by kernel_rfl) (by kernel_rfl)) ?_
          refine wl_nil ?_
          exact then_c ⟨true, (fun i => ([.bool r_1.2, .bool (!r_1.2), .bool (!r_1.2), .bool r_2.2, .bool (!r_2.2), .bool (!r_2.2), .bool (!r_2.2), .bool r_3.2, .bool (!r_3.2), .bool (!r_3.2), .bool (!r_3.2), undef, undef, undef, .bool true, .bool true, undef, undef, undef] : List Value).getD i undef), by kernel_rfl, hL, hB, h_1, h_4, h_7, hm⟩
      · have hm := ite_f hm hc_21
        refine wl_not0 (wg (c := (!r_2.2)) (want := false) (by kernel_rfl) (not_f hc_21) rfl) (by kernel_rfl) ?_
        refine wl_not0 (wg (c := (!r_2.2)) (want := false) (by kernel_rfl) (not_f hc_21) rfl) (by kernel_rfl) ?_
        refine wl_val (v := .bool true) (w' := w_8) (by kernel_rfl) (run_pick_t (v := .bool true) (tr2 (c := (!r_2.2)) (by kernel_rfl) (not_f hc_21)) (by kernel_rfl)) ?_
        refine wl_val (v := .bool true) (w' := w_8) (by kernel_rfl) (run_move (v := .bool true) (by kernel_rfl)) ?_
        refine wl_not0 (by kernel_rfl) (by kernel_rfl) ?_
        refine wl_not0 (by kernel_rfl) (by kernel_rfl) ?_
        refine wl_not0 (by kernel_rfl) (by kernel_rfl) ?_
        refine wl_val (v := .bool true) (w' := w_8) (by kernel_rfl) (run_pick_t (v := .bool true) (by kernel_rfl) (by kernel_rfl)) ?_
        refine wl_val (v := .bool true) (w' := w_8) (by kernel_rfl) (run_move (v := .bool true) (by kernel_rfl)) ?_
        refine wl_not0 (by kernel_rfl) (by kernel_rfl) ?_
        refine wl_not0 (by kernel_rfl) (by kernel_rfl) ?_
        refine wl_not0 (by kernel_rfl) (by kernel_rfl) ?_
        refine wl_val (v := .bool true) (w' := w_8) (by kernel_rfl) (run_pick_t (v := .bool true) (by kernel_rfl) (by kernel_rfl)) ?_
        refine wl_nil ?_
        exact then_c ⟨true, (fun i => ([.bool r_1.2, .bool (!r_1.2), .bool (!r_1.2), .bool r_2.2, .bool (!r_2.2), .bool (!r_2.2), .bool (!r_2.2), undef, undef, .bool true, .bool true, undef, undef, undef, .bool true, .bool true, undef, undef, undef] : List Value).getD i undef), by kernel_rfl, hL, hB, h_1, h_4, h_7, hm⟩
    · have hm := ite_f hm hc_20
      refine wl_not0 (wg (c := (!r_1.2)) (want := false) (by kernel_rfl) (not_f hc_20) rfl) (by kernel_rfl) ?_
      refine wl_not0 (wg (c := (!r_1.2)) (want := false) (by kernel_rfl) (not_f hc_20) rfl) (by kernel_rfl) ?_
      refine wl_val (v := .bool true) (w' := w_8) (by kernel_rfl) (run_pick_t (v := .bool true) (tr2 (c := (!r_1.2)) (by kernel_rfl) (not_f hc_20)) (by kernel_rfl)) ?_
      refine wl_val (v := .bool true) (w' := w_8) (by kernel_rfl) (run_move (v := .bool true) (by kernel_rfl)) ?_
      refine wl_not0 (by kernel_rfl) (by kernel_rfl) ?_
      refine wl_not0 (by kernel_rfl) (by kernel_rfl) ?_
      refine wl_val (v := .bool true) (w' := w_8) (by kernel_rfl) (run_pick_t (v := .bool true) (by kernel_rfl) (by kernel_rfl)) ?_
      refine wl_val (v := .bool true) (w' := w_8) (by kernel_rfl) (run_move (v := .bool true) (by kernel_rfl)) ?_
      refine wl_norm [.int .u16 p0_0, .agg #[.int .i64 p1_0.N, .int .u8 p1_0.D], .int .u8 p2_0, .bool p3_0, undef, .pointer (some ⟨g_1, 0, none⟩), undef, undef, .bool false, .int .i64 (cvt .i64 (rem p2_0 7)), .pointer (some ⟨g_2, 0, none⟩), .bool r_1.2, .pointer (some ⟨g_3, 0, none⟩), .bool r_2.2, .int .u16 r_3.1, .bool r_3.2, undef, undef, undef, undef, undef, undef, undef, undef, undef, .int .u8 p2_0, .int .u8 (rem p2_0 7), .int .i64 (cvt .i64 (rem p2_0 7)), .tuple #[.agg #[.int .i64 r_1.1.N, .int .u8 r_1.1.D], .bool r_1.2], .int .u16 p0_0, .int .i64 (cvt .i64 (rem p2_0 7)), .bool p3_0, .tuple #[.agg #[.int .i64 r_1.1.N, .int .u8 r_1.1.D], .bool r_1.2], .agg #[.int .i64 r_1.1.N, .int .u8 r_1.1.D], .bool r_1.2, .tuple #[.agg #[.int .i64 r_2.1.N, .int .u8 r_2.1.D], .bool r_2.2], .int .u16 p0_0, .int .u16 (add .u16 p0_0 1), .int .i64 (cvt .i64 (rem p2_0 7)), .bool p3_0, .tuple #[.agg #[.int .i64 r_2.1.N, .int .u8 r_2.1.D], .bool r_2.2], .agg #[.int .i64 r_2.1.N, .int .u8 r_2.1.D], .bool r_2.2, .tuple #[.int .u16 r_3.1, .bool r_3.2], .agg #[.int .i64 r_1.1.N, .int .u8 r_1.1.D], .int .i64 (cvt .i64 (rem p2_0 7)), .bool p3_0, .tuple #[.int .u16 r_3.1, .bool r_3.2], .int .u16 r_3.1, .bool r_3.2, .bool r_1.2, .bool (!r_1.2), .bool (!r_1.2), undef, undef, .bool true, .bool true, undef, undef, .bool true, .bool true, undef, undef, undef, undef, undef, undef, undef, undef, undef, undef, undef, undef, undef, undef, undef, undef, undef, undef, undef, undef, undef, undef, undef, undef, undef, undef, undef, undef, undef, undef, undef, undef, undef, undef, undef, undef, undef, undef, undef, undef, undef, undef, undef, undef, undef, undef, undef, undef, undef, undef, undef, undef, undef, undef, undef, undef, undef, undef, undef, undef, undef, undef, undef, undef, undef] (by kernel_rfl) ?_
      refine wl_not0 (by kernel_rfl) (by kernel_rfl) ?_
      refine wl_not0 (by kernel_rfl) (by kernel_rfl) ?_
      refine wl_not0 (by kernel_rfl) (by kernel_rfl) ?_
      refine wl_val (v := .bool true) (w' := w_8) (by kernel_rfl) (run_pick_t (v := .bool true) (by kernel_rfl) (by kernel_rfl)) ?_
      refine wl_val (v := .bool true) (w' := w_8) (by kernel_rfl) (run_move (v := .bool true) (by kernel_rfl)) ?_
      refine wl_not0 (by kernel_rfl) (by kernel_rfl) ?_
      refine wl_not0 (by kernel_rfl) (by kernel_rfl) ?_
      refine wl_not0 (by kernel_rfl) (by kernel_rfl) ?_
      refine wl_val (v := .bool true) (w' := w_8) (by kernel_rfl) (run_pick_t (v := .bool true) (by kernel_rfl) (by kernel_rfl)) ?_
      refine wl_nil ?_
      exact then_c ⟨true, (fun i => ([.bool r_1.2, .bool (!r_1.2), .bool (!r_1.2), undef, undef, .bool true, .bool true, undef, undef, .bool true, .bool true, undef, undef, undef, .bool true, .bool true, undef, undef, undef] : List Value).getD i undef), by kernel_rfl, hL, hB, h_1, h_4, h_7, hm⟩
  · intro l1 w_10 hI
    obtain ⟨x_1, u_1, rfl, hL, hB, h_1, h_4, h_7, hm⟩ := hI
    unfold m5_J1 at hm
    refine cw_cond (t := x_1) (by kernel_rfl) (fun hc_5 => ?_) (fun hc_5 => ?_)
    · have hm := ite_t hm hc_5
      refine cw_seq ?_
      refine cw_region ?_
      refine wl_val (v := .bool false) (w' := w_10) (by kernel_rfl) (run_assign (v := .bool false) (by kernel_rfl)) ?_
      refine wl_nil ?_
      refine then_n ?_
      refine cw_ret ?_
      refine then_ret ?_
      have hS : Stp w0.heap.size _ [] F [] w_10 _ := Stp.pick hL [] rfl (by decide)
      replace hB := hS.below hL hB
      replace hL := hS.hL
      obtain rfl := Option.some.inj hm
      exact ret1 (v := .bool false) rfl (resv_tmp (by kernel_rfl)) ⟨_, rfl, by kernel_rfl, hB⟩
    · have hm := ite_f hm hc_5
      refine cw_skip ?_
      refine then_n ?_
      refine cw_seq ?_
      refine cw_region ?_
      refine wl_val (v := .int .u16 p0_0) (w' := w_10) (by kernel_rfl) (run_move (v := .int .u16 p0_0) (by kernel_rfl)) ?_
      refine wl_val (v := .bool (eqi p0_0 65535)) (w' := w_10) (by kernel_rfl) (run_eqi (k := .u16) (a := p0_0) (b := 65535) (by kernel_rfl) (by kernel_rfl)) ?_
      refine wl_val (v := .bool (eqi p0_0 65535)) (w' := w_10) (by kernel_rfl) (run_assign (v := .bool (eqi p0_0 65535)) (by kernel_rfl)) ?_
      refine wl_nil ?_
      refine then_n ?_
      refine cw_cut (fun l' w' => ∃ last_1, ∃ u_2 : Nat → Value, l' = [.int .u16 p0_0, .agg #[.int .i64 p1_0.N, .int .u8 p1_0.D], .int .u8 p2_0, .bool p3_0, undef, .pointer (some ⟨g_1, 0, none⟩), undef, undef, .bool false, .int .i64 (cvt .i64 (rem p2_0 7)), .pointer (some ⟨g_2, 0, none⟩), .bool r_1.2, .pointer (some ⟨g_3, 0, none⟩), .bool r_2.2, .int .u16 r_3.1, .bool r_3.2, .bool last_1, undef, undef, undef, undef, undef, undef, undef, undef, .int .u8 p2_0, .int .u8 (rem p2_0 7), .int .i64 (cvt .i64 (rem p2_0 7)), .tuple #[.agg #[.int .i64 r_1.1.N, .int .u8 r_1.1.D], .bool r_1.2], .int .u16 p0_0, .int .i64 (cvt .i64 (rem p2_0 7)), .bool p3_0, .tuple #[.agg #[.int .i64 r_1.1.N, .int .u8 r_1.1.D], .bool r_1.2], .agg #[.int .i64 r_1.1.N, .int .u8 r_1.1.D], .bool r_1.2, .tuple #[.agg #[.int .i64 r_2.1.N, .int .u8 r_2.1.D], .bool r_2.2], .int .u16 p0_0, .int .u16 (add .u16 p0_0 1), .int .i64 (cvt .i64 (rem p2_0 7)), .bool p3_0, .tuple #[.agg #[.int .i64 r_2.1.N, .int .u8 r_2.1.D], .bool r_2.2], .agg #[.int .i64 r_2.1.N, .int .u8 r_2.1.D], .bool r_2.2, .tuple #[.int .u16 r_3.1, .bool r_3.2], .agg #[.int .i64 r_1.1.N, .int .u8 r_1.1.D], .int .i64 (cvt .i64 (rem p2_0 7)), .bool p3_0, .tuple #[.int .u16 r_3.1, .bool r_3.2], .int .u16 r_3.1, .bool r_3.2, (u_1 0), (u_1 1), (u_1 2), (u_1 3), (u_1 4), (u_1 5), (u_1 6), (u_1 7), (u_1 8), (u_1 9), (u_1 10), (u_1 11), (u_1 12), (u_1 13), (u_1 14), (u_1 15), (u_1 16), (u_1 17), (u_1 18), .bool x_1, .int .u16 p0_0, .bool (eqi p0_0 65535), (u_2 0), (u_2 1), (u_2 2), undef, undef, undef, undef, undef, undef, undef, undef, undef, undef, undef, undef, undef, undef, undef, undef, undef, undef, undef, undef, undef, undef, undef, undef, undef, undef, undef, undef, undef, undef, undef, undef, undef, undef, undef, undef, undef, undef, undef, undef, undef, undef, undef, undef, undef, undef, undef, undef, undef, undef, undef] ∧ LOk w0.heap.size [some g_3, some g_2, some g_1] F w' ∧ Below w0.heap.size w0 w' ∧ Bx w' g_1 [.int .i64 p1_0.N, .int .u8 p1_0.D] 23 ∧ Bx w' g_2 [.int .i64 r_1.1.N, .int .u8 r_1.1.D] 23 ∧ Bx w' g_3 [.int .i64 r_2.1.N, .int .u8 r_2.1.D] 23 ∧ m5_J2 fuel p0_0 p1_0 p2_0 p3_0 r_1 r_2 last_1 = some r) ?_ ?_
      · refine cw_seq ?_
        refine cw_region ?_
        refine wl_val (v := .bool p3_0) (w' := w_10) (by kernel_rfl) (run_move (v := .bool p3_0) (by kernel_rfl)) ?_
        refine wl_nil ?_
        refine then_n ?_
        refine cw_cond (t := p3_0) (by kernel_rfl) (fun hc_19 => ?_) (fun hc_19 => ?_)
        · have hm := ite_t hm hc_19
          refine cw_region ?_
          refine wl_val (v := .int .u16 p0_0) (w' := w_10) (by kernel_rfl) (run_move (v := .int .u16 p0_0) (by kernel_rfl)) ?_
          refine wl_val (v := .bool (eqi p0_0 32767)) (w' := w_10) (by kernel_rfl) (run_eqi (k := .u16) (a := p0_0) (b := 32767) (by kernel_rfl) (by kernel_rfl)) ?_
          refine wl_val (v := .bool (eqi p0_0 32767)) (w' := w_10) (by kernel_rfl) (run_assign (v := .bool (eqi p0_0 32767)) (by kernel_rfl)) ?_
          refine wl_nil ?_
          exact then_c ⟨(eqi p0_0 32767), (fun i => ([.bool p3_0, .int .u16 p0_0, .bool (eqi p0_0 32767)] : List Value).getD i undef), by kernel_rfl, hL, hB, h_1, h_4, h_7, hm⟩
        · have hm := ite_f hm hc_19
          refine cw_skip ?_
          exact then_c ⟨(eqi p0_0 65535), (fun i => ([.bool p3_0, undef, undef] : List Value).getD i undef), by kernel_rfl, hL, hB, h_1, h_4, h_7, hm⟩
      · intro l1 w_11 hI
        obtain ⟨last_1, u_2, rfl, hL, hB, h_1, h_4, h_7, hm⟩ := hI
        unfold m5_J2 at hm
        refine cw_seq ?_
        refine cw_seq ?_
        refine cw_region ?_
        refine wl_val (v := .agg #[.int .i64 r_1.1.N, .int .u8 r_1.1.D]) (w' := w_11) (by kernel_rfl) (run_load_boxn (j := 0) (vs := [.int .i64 r_1.1.N, .int .u8 r_1.1.D]) Tryd.underlying23 rfl sz_23 (by kernel_rfl) h_4 (by kernel_rfl) rfl) ?_
        refine wl_val (v := .agg #[.int .i64 r_2.1.N, .int .u8 r_2.1.D]) (w' := w_11) (by kernel_rfl) (run_load_boxn (j := 0) (vs := [.int .i64 r_2.1.N, .int .u8 r_2.1.D]) Tryd.underlying23 rfl sz_23 (by kernel_rfl) h_7 (by kernel_rfl) rfl) ?_
        obtain ⟨r_5, h_10, hm⟩ := bind_e hm
        refine wl_op (by kernel_rfl) (ow_enter (run_callf (vs := [.agg #[.int .i64 r_1.1.N, .int .u8 r_1.1.D], .agg #[.int .i64 r_2.1.N, .int .u8 r_2.1.D]]) Tryd.func15 nm_15 (by kernel_rfl) (by kernel_rfl)) (f15_ok (p0_0 := r_1.1) (p1_0 := r_2.1) fuel _ w_11 hL.lt  h_10) ?_)
        intro vR w_12 hR
        obtain ⟨rfl, hBe⟩ := hR
        have hS := Stp.call hL (Fz.of_below hBe [])
        replace h_1 := hS.box h_1 nilN
        replace h_4 := hS.box h_4 nilN
        replace h_7 := hS.box h_7 nilN
        replace hB := hS.below hL hB
        replace hL := hS.hL
        refine wl_val (v := .bool (lt r_5 0)) (w' := w_12) (by kernel_rfl) (run_lt (k := .i64) (a := r_5) (b := 0) (by kernel_rfl) (by kernel_rfl)) ?_
        refine wl_val (v := .bool last_1) (w' := w_12) (by kernel_rfl) (run_move (v := .bool last_1) (by kernel_rfl)) ?_
        refine wl_val (v := .bool (eqb (lt r_5 0) last_1)) (w' := w_12) (by kernel_rfl) (run_eqb (a := (lt r_5 0)) (b := last_1) Tryd.underlying4 (by kernel_rfl) (by kernel_rfl)) ?_
        refine wl_nil ?_
        refine then_n ?_
        refine cw_cond (t := (eqb (lt r_5 0) last_1)) (by kernel_rfl) (fun hc_7 => ?_) (fun hc_7 => ?_)
        · have hm := ite_t hm hc_7
          refine cw_seq ?_
          refine cw_region ?_
          refine wl_val (v := .bool false) (w' := w_12) (by kernel_rfl) (run_assign (v := .bool false) (by kernel_rfl)) ?_
          refine wl_nil ?_
          refine then_n ?_
          refine cw_ret ?_
          refine then_ret ?_
          have hS : Stp w0.heap.size _ [] F [] w_12 _ := Stp.pick hL [] rfl (by decide)
          replace hB := hS.below hL hB
          replace hL := hS.hL
          obtain rfl := Option.some.inj hm
          exact ret1 (v := .bool false) rfl (resv_tmp (by kernel_rfl)) ⟨_, rfl, by kernel_rfl, hB⟩
        · have hm := ite_f hm hc_7
          refine cw_skip ?_
          refine then_n ?_
          refine cw_seq ?_
          refine cw_region ?_
          refine wl_val (v := .agg #[.int .i64 p1_0.N, .int .u8 p1_0.D]) (w' := w_12) (by kernel_rfl) (run_load_boxn (j := 0) (vs := [.int .i64 p1_0.N, .int .u8 p1_0.D]) Tryd.underlying23 rfl sz_23 (by kernel_rfl) h_1 (by kernel_rfl) rfl) ?_
          obtain ⟨r_6, h_11, hm⟩ := bind_e hm
          refine wl_op (by kernel_rfl) (ow_enter (run_callf (vs := [.agg #[.int .i64 p1_0.N, .int .u8 p1_0.D]]) Tryd.func9 nm_9 (by kernel_rfl) (by kernel_rfl)) (f9_ok (p0_0 := p1_0) fuel _ w_12 hL.lt  h_11) ?_)
          intro vR w_13 hR
          obtain ⟨rfl, hBe⟩ := hR
          have hS := Stp.call hL (Fz.of_below hBe [])
          replace h_1 := hS.box h_1 nilN
          replace h_4 := hS.box h_4 nilN
          replace h_7 := hS.box h_7 nilN
          replace hB := hS.below hL hB
          replace hL := hS.hL
          refine wl_op (by kernel_rfl) (ow_store_box' (g := g_1) (j := 0) (v := .agg #[.int .i64 r_6.N, .int .u8 r_6.D]) (vs := [.int .i64 r_6.N, .int .u8 r_6.D]) (cs' := [.int .i64 r_6.N, .int .u8 r_6.D]) sz_23 (by kernel_rfl) (by kernel_rfl) rfl rfl rfl hL h_1 rfl (by simp) rfl ?_)
          intro w_14 hS h_12
          replace h_4 := hS.box h_4 (hL.apart 1 2 rfl rfl (by decide) _ rfl)
          replace h_7 := hS.box h_7 (hL.apart 0 2 rfl rfl (by decide) _ rfl)
          replace hB := hS.below hL hB
          replace hL := hS.hL
          refine wl_nil ?_
          refine then_n ?_
          refine cw_cut (fun l' w' => ∃ u_4 : Nat → Value, l' = [.int .u16 p0_0, .agg #[.int .i64 p1_0.N, .int .u8 p1_0.D], .int .u8 p2_0, .bool p3_0, undef, .pointer (some ⟨g_1, 0, none⟩), undef, undef, (u_4 0), .int .i64 (cvt .i64 (rem p2_0 7)), .pointer (some ⟨g_2, 0, none⟩), .bool r_1.2, .pointer (some ⟨g_3, 0, none⟩), .bool r_2.2, .int .u16 r_3.1, .bool r_3.2, .bool last_1, (u_4 1), (u_4 2), (u_4 3), (u_4 4), undef, undef, undef, undef, .int .u8 p2_0, .int .u8 (rem p2_0 7), .int .i64 (cvt .i64 (rem p2_0 7)), .tuple #[.agg #[.int .i64 r_1.1.N, .int .u8 r_1.1.D], .bool r_1.2], .int .u16 p0_0, .int .i64 (cvt .i64 (rem p2_0 7)), .bool p3_0, .tuple #[.agg #[.int .i64 r_1.1.N, .int .u8 r_1.1.D], .bool r_1.2], .agg #[.int .i64 r_1.1.N, .int .u8 r_1.1.D], .bool r_1.2, .tuple #[.agg #[.int .i64 r_2.1.N, .int .u8 r_2.1.D], .bool r_2.2], .int .u16 p0_0, .int .u16 (add .u16 p0_0 1), .int .i64 (cvt .i64 (rem p2_0 7)), .bool p3_0, .tuple #[.agg #[.int .i64 r_2.1.N, .int .u8 r_2.1.D], .bool r_2.2], .agg #[.int .i64 r_2.1.N, .int .u8 r_2.1.D], .bool r_2.2, .tuple #[.int .u16 r_3.1, .bool r_3.2], .agg #[.int .i64 r_1.1.N, .int .u8 r_1.1.D], .int .i64 (cvt .i64 (rem p2_0 7)), .bool p3_0, .tuple #[.int .u16 r_3.1, .bool r_3.2], .int .u16 r_3.1, .bool r_3.2, (u_1 0), (u_1 1), (u_1 2), (u_1 3), (u_1 4), (u_1 5), (u_1 6), (u_1 7), (u_1 8), (u_1 9), (u_1 10), (u_1 11), (u_1 12), (u_1 13), (u_1 14), (u_1 15), (u_1 16), (u_1 17), (u_1 18), .bool x_1, .int .u16 p0_0, .bool (eqi p0_0 65535), (u_2 0), (u_2 1), (u_2 2), .agg #[.int .i64 r_1.1.N, .int .u8 r_1.1.D], .agg #[.int .i64 r_2.1.N, .int .u8 r_2.1.D], .int .i64 r_5, .bool (lt r_5 0), .bool last_1, .bool (eqb (lt r_5 0) last_1), .agg #[.int .i64 p1_0.N, .int .u8 p1_0.D], .agg #[.int .i64 r_6.N, .int .u8 r_6.D], (u_4 5), (u_4 6), (u_4 7), (u_4 8), (u_4 9), (u_4 10), (u_4 11), (u_4 12), (u_4 13), (u_4 14), (u_4 15), (u_4 16), (u_4 17), (u_4 18), (u_4 19), (u_4 20), (u_4 21), (u_4 22), (u_4 23), (u_4 24), (u_4 25), (u_4 26), undef, undef, undef, undef, undef, undef, undef, undef, undef, undef, undef, undef, undef, undef, undef, undef, undef, undef, undef, undef, undef] ∧ LOk w0.heap.size [some g_1] F w' ∧ Below w0.heap.size w0 w' ∧ Bx w' g_1 [.int .i64 r_6.N, .int .u8 r_6.D] 23 ∧ m5_J3 fuel p0_0 p3_0 r_6  = some r) ?_ ?_
          · refine cw_seq ?_
            refine cw_region ?_
            refine wl_val (v := .agg #[.int .i64 r_6.N, .int .u8 r_6.D]) (w' := w_14) (by kernel_rfl) (run_load_boxn (j := 0) (vs := [.int .i64 r_6.N, .int .u8 r_6.D]) Tryd.underlying23 rfl sz_23 (by kernel_rfl) h_12 (by kernel_rfl) rfl) ?_
            refine wl_val (v := .int .i64 (cvt .i64 (rem p2_0 7))) (w' := w_14) (by kernel_rfl) (run_move (v := .int .i64 (cvt .i64 (rem p2_0 7))) (by kernel_rfl)) ?_
            refine wl_val (v := .bool p3_0) (w' := w_14) (by kernel_rfl) (run_move (v := .bool p3_0) (by kernel_rfl)) ?_
            obtain ⟨r_13, h_24, hm⟩ := bind_e hm
            refine wl_op (by kernel_rfl) (ow_enter (run_callf (vs := [.agg #[.int .i64 r_6.N, .int .u8 r_6.D], .int .i64 (cvt .i64 (rem p2_0 7)), .bool p3_0]) Tryd.func17 nm_17 (by kernel_rfl) (by kernel_rfl)) (f17_ok (p0_0 := r_6) (p1_0 := (cvt .i64 (rem p2_0 7))) (p2_0 := p3_0) fuel _ w_14 hL.lt  h_24) ?_)
            intro vR w_27 hR
            obtain ⟨rfl, hBe⟩ := hR
            have hS := Stp.call hL (Fz.of_below hBe [])
            replace h_12 := hS.box h_12 nilN
            replace h_4 := hS.box h_4 nilN
            replace h_7 := hS.box h_7 nilN
            replace hB := hS.below hL hB
            replace hL := hS.hL
            refine wl_val (v := .tuple #[.int .u16 r_13.1, .bool r_13.2]) (w' := w_27) (by kernel_rfl) (run_move (v := .tuple #[.int .u16 r_13.1, .bool r_13.2]) (by kernel_rfl)) ?_
            refine wl_val (v := .int .u16 r_13.1) (w' := w_27) (by kernel_rfl) (run_extract (vs := #[.int .u16 r_13.1, .bool r_13.2]) (by kernel_rfl) (by kernel_rfl)) ?_
            refine wl_val (v := .bool r_13.2) (w' := w_27) (by kernel_rfl) (run_extract (vs := #[.int .u16 r_13.1, .bool r_13.2]) (by kernel_rfl) (by kernel_rfl)) ?_
            refine wl_val (v := .int .u16 r_13.1) (w' := w_27) (by kernel_rfl) (run_assign (v := .int .u16 r_13.1) (by kernel_rfl)) ?_
            refine wl_val (v := .bool r_13.2) (w' := w_27) (by kernel_rfl) (run_assign (v := .bool r_13.2) (by kernel_rfl)) ?_
            refine wl_nil ?_
            refine then_n ?_
            refine cw_norm [.int .u16 p0_0, .agg #[.int .i64 p1_0.N, .int .u8 p1_0.D], .int .u8 p2_0, .bool p3_0, undef, .pointer (some ⟨g_1, 0, none⟩), undef, undef, .bool false, .int .i64 (cvt .i64 (rem p2_0 7)), .pointer (some ⟨g_2, 0, none⟩), .bool r_1.2, .pointer (some ⟨g_3, 0, none⟩), .bool r_2.2, .int .u16 r_3.1, .bool r_3.2, .bool last_1, .int .u16 r_13.1, .bool r_13.2, undef, undef, undef, undef, undef, undef, .int .u8 p2_0, .int .u8 (rem p2_0 7), .int .i64 (cvt .i64 (rem p2_0 7)), .tuple #[.agg #[.int .i64 r_1.1.N, .int .u8 r_1.1.D], .bool r_1.2], .int .u16 p0_0, .int .i64 (cvt .i64 (rem p2_0 7)), .bool p3_0, .tuple #[.agg #[.int .i64 r_1.1.N, .int .u8 r_1.1.D], .bool r_1.2], .agg #[.int .i64 r_1.1.N, .int .u8 r_1.1.D], .bool r_1.2, .tuple #[.agg #[.int .i64 r_2.1.N, .int .u8 r_2.1.D], .bool r_2.2], .int .u16 p0_0, .int .u16 (add .u16 p0_0 1), .int .i64 (cvt .i64 (rem p2_0 7)), .bool p3_0, .tuple #[.agg #[.int .i64 r_2.1.N, .int .u8 r_2.1.D], .bool r_2.2], .agg #[.int .i64 r_2.1.N, .int .u8 r_2.1.D], .bool r_2.2, .tuple #[.int .u16 r_3.1, .bool r_3.2], .agg #[.int .i64 r_1.1.N, .int .u8 r_1.1.D], .int .i64 (cvt .i64 (rem p2_0 7)), .bool p3_0, .tuple #[.int .u16 r_3.1, .bool r_3.2], .int .u16 r_3.1, .bool r_3.2, (u_1 0), (u_1 1), (u_1 2), (u_1 3), (u_1 4), (u_1 5), (u_1 6), (u_1 7), (u_1 8), (u_1 9), (u_1 10), (u_1 11), (u_1 12), (u_1 13), (u_1 14), (u_1 15), (u_1 16), (u_1 17), (u_1 18), .bool x_1, .int .u16 p0_0, .bool (eqi p0_0 65535), (u_2 0), (u_2 1), (u_2 2), .agg #[.int .i64 r_1.1.N, .int .u8 r_1.1.D], .agg #[.int .i64 r_2.1.N, .int .u8 r_2.1.D], .int .i64 r_5, .bool (lt r_5 0), .bool last_1, .bool (eqb (lt r_5 0) last_1), .agg #[.int .i64 p1_0.N, .int .u8 p1_0.D], .agg #[.int .i64 r_6.N, .int .u8 r_6.D], .tuple #[.int .u16 r_13.1, .bool r_13.2], .agg #[.int .i64 r_6.N, .int .u8 r_6.D], .int .i64 (cvt .i64 (rem p2_0 7)), .bool p3_0, .tuple #[.int .u16 r_13.1, .bool r_13.2], .int .u16 r_13.1, .bool r_13.2, undef, undef, undef, undef, undef, undef, undef, undef, undef, undef, undef, undef, undef, undef, undef, undef, undef, undef, undef, undef, undef, undef, undef, undef, undef, undef, undef, undef, undef, undef, undef, undef, undef, undef, undef, undef] (by kernel_rfl) ?_
            refine cw_seq ?_
            refine cw_region ?_
            refine wl_val (v := .bool r_13.2) (w' := w_27) (by kernel_rfl) (run_move (v := .bool r_13.2) (by kernel_rfl)) ?_
            refine wl_nil ?_
            refine then_n ?_
            refine cw_cond (t := r_13.2) (by kernel_rfl) (fun hc_15 => ?_) (fun hc_15 => ?_)
            · have hm := ite_t hm hc_15
              refine cw_seq ?_
              refine cw_region ?_
              refine wl_val (v := .int .u16 r_13.1) (w' := w_27) (by kernel_rfl) (run_move (v := .int .u16 r_13.1) (by kernel_rfl)) ?_
              refine wl_val (v := .int .i64 (cvt .i64 (rem p2_0 7))) (w' := w_27) (by kernel_rfl) (run_move (v := .int .i64 (cvt .i64 (rem p2_0 7))) (by kernel_rfl)) ?_
              refine wl_val (v := .bool p3_0) (w' := w_27) (by kernel_rfl) (run_move (v := .bool p3_0) (by kernel_rfl)) ?_
              obtain ⟨r_14, h_25, hm⟩ := bind_e hm
              refine wl_op (by kernel_rfl) (ow_enter (run_callf (vs := [.int .u16 r_13.1, .int .i64 (cvt .i64 (rem p2_0 7)), .bool p3_0]) Tryd.func16 nm_16 (by kernel_rfl) (by kernel_rfl)) (f16_ok (p0_0 := r_13.1) (p1_0 := (cvt .i64 (rem p2_0 7))) (p2_0 := p3_0) fuel _ w_27 hL.lt  h_25) ?_)
              intro vR w_28 hR
              obtain ⟨rfl, hBe⟩ := hR
              have hS := Stp.call hL (Fz.of_below hBe [])
              replace h_12 := hS.box h_12 nilN
              replace h_4 := hS.box h_4 nilN
              replace h_7 := hS.box h_7 nilN
              replace hB := hS.below hL hB
              replace hL := hS.hL
              refine wl_val (v := .tuple #[.agg #[.int .i64 r_14.1.N, .int .u8 r_14.1.D], .bool r_14.2]) (w' := w_28) (by kernel_rfl) (run_move (v := .tuple #[.agg #[.int .i64 r_14.1.N, .int .u8 r_14.1.D], .bool r_14.2]) (by kernel_rfl)) ?_
              refine wl_val (v := .agg #[.int .i64 r_14.1.N, .int .u8 r_14.1.D]) (w' := w_28) (by kernel_rfl) (run_extract (vs := #[.agg #[.int .i64 r_14.1.N, .int .u8 r_14.1.D], .bool r_14.2]) (by kernel_rfl) (by kernel_rfl)) ?_
              refine wl_val (v := .bool r_14.2) (w' := w_28) (by kernel_rfl) (run_extract (vs := #[.agg #[.int .i64 r_14.1.N, .int .u8 r_14.1.D], .bool r_14.2]) (by kernel_rfl) (by kernel_rfl)) ?_
              refine wl_op (by kernel_rfl) (ow_alloc' (z := .agg #[.int .i64 0, .int .u8 0]) (vs := [.int .i64 0, .int .u8 0]) (by kernel_rfl) rfl hL ?_)
              intro g_6 w_29 hS h_26
              replace h_12 := hS.box h_12 nilN
              replace h_4 := hS.box h_4 nilN
              replace h_7 := hS.box h_7 nilN
              replace hB := hS.below hL hB
              replace hL := hS.hL
              refine wl_op (by kernel_rfl) (ow_store_box' (g := g_6) (j := 0) (v := .agg #[.int .i64 r_14.1.N, .int .u8 r_14.1.D]) (vs := [.int .i64 r_14.1.N, .int .u8 r_14.1.D]) (cs' := [.int .i64 r_14.1.N, .int .u8 r_14.1.D]) sz_23 (by kernel_rfl) (by kernel_rfl) rfl rfl rfl hL h_26 rfl (by simp) rfl ?_)
              intro w_30 hS h_27
              replace h_12 := hS.box h_12 (hL.apart 3 0 rfl rfl (by decide) _ rfl)
              replace h_4 := hS.box h_4 (hL.apart 2 0 rfl rfl (by decide) _ rfl)
              replace h_7 := hS.box h_7 (hL.apart 1 0 rfl rfl (by decide) _ rfl)
              replace hB := hS.below hL hB
              replace hL := hS.hL
              refine wl_val (v := .bool r_14.2) (w' := w_30) (by kernel_rfl) (run_assign (v := .bool r_14.2) (by kernel_rfl)) ?_
              refine wl_nil ?_
              refine then_n ?_
              refine cw_cut (fun l' w' => ∃ x_4, ∃ u_6 : Nat → Value, l' = [.int .u16 p0_0, .agg #[.int .i64 p1_0.N, .int .u8 p1_0.D], .int .u8 p2_0, .bool p3_0, undef, .pointer (some ⟨g_1, 0, none⟩), undef, undef, .bool false, .int .i64 (cvt .i64 (rem p2_0 7)), .pointer (some ⟨g_2, 0, none⟩), .bool r_1.2, .pointer (some ⟨g_3, 0, none⟩), .bool r_2.2, .int .u16 r_3.1, .bool r_3.2, .bool last_1, .int .u16 r_13.1, .bool r_13.2, .pointer (some ⟨g_6, 0, none⟩), .bool r_14.2, undef, undef, undef, undef, .int .u8 p2_0, .int .u8 (rem p2_0 7), .int .i64 (cvt .i64 (rem p2_0 7)), .tuple #[.agg #[.int .i64 r_1.1.N, .int .u8 r_1.1.D], .bool r_1.2], .int .u16 p0_0, .int .i64 (cvt .i64 (rem p2_0 7)), .bool p3_0, .tuple #[.agg #[.int .i64 r_1.1.N, .int .u8 r_1.1.D], .bool r_1.2], .agg #[.int .i64 r_1.1.N, .int .u8 r_1.1.D], .bool r_1.2, .tuple #[.agg #[.int .i64 r_2.1.N, .int .u8 r_2.1.D], .bool r_2.2], .int .u16 p0_0, .int .u16 (add .u16 p0_0 1), .int .i64 (cvt .i64 (rem p2_0 7)), .bool p3_0, .tuple #[.agg #[.int .i64 r_2.1.N, .int .u8 r_2.1.D], .bool r_2.2], .agg #[.int .i64 r_2.1.N, .int .u8 r_2.1.D], .bool r_2.2, .tuple #[.int .u16 r_3.1, .bool r_3.2], .agg #[.int .i64 r_1.1.N, .int .u8 r_1.1.D], .int .i64 (cvt .i64 (rem p2_0 7)), .bool p3_0, .tuple #[.int .u16 r_3.1, .bool r_3.2], .int .u16 r_3.1, .bool r_3.2, (u_1 0), (u_1 1), (u_1 2), (u_1 3), (u_1 4), (u_1 5), (u_1 6), (u_1 7), (u_1 8), (u_1 9), (u_1 10), (u_1 11), (u_1 12), (u_1 13), (u_1 14), (u_1 15), (u_1 16), (u_1 17), (u_1 18), .bool x_1, .int .u16 p0_0, .bool (eqi p0_0 65535), (u_2 0), (u_2 1), (u_2 2), .agg #[.int .i64 r_1.1.N, .int .u8 r_1.1.D], .agg #[.int .i64 r_2.1.N, .int .u8 r_2.1.D], .int .i64 r_5, .bool (lt r_5 0), .bool last_1, .bool (eqb (lt r_5 0) last_1), .agg #[.int .i64 p1_0.N, .int .u8 p1_0.D], .agg #[.int .i64 r_6.N, .int .u8 r_6.D], .tuple #[.int .u16 r_13.1, .bool r_13.2], .agg #[.int .i64 r_6.N, .int .u8 r_6.D], .int .i64 (cvt .i64 (rem p2_0 7)), .bool p3_0, .tuple #[.int .u16 r_13.1, .bool r_13.2], .int .u16 r_13.1, .bool r_13.2, .bool r_13.2, .tuple #[.agg #[.int .i64 r_14.1.N, .int .u8 r_14.1.D], .bool r_14.2], .int .u16 r_13.1, .int .i64 (cvt .i64 (rem p2_0 7)), .bool p3_0, .tuple #[.agg #[.int .i64 r_14.1.N, .int .u8 r_14.1.D], .bool r_14.2], .agg #[.int .i64 r_14.1.N, .int .u8 r_14.1.D], .bool r_14.2, (u_6 0), (u_6 1), (u_6 2), (u_6 3), (u_6 4), (u_6 5), .bool x_4, undef, undef, undef, undef, undef, undef, undef, undef, undef, undef, undef, undef, undef, undef, undef, undef, undef, undef, undef, undef, undef] ∧ LOk w0.heap.size [some g_1] F w' ∧ Below w0.heap.size w0 w' ∧ Bx w' g_1 [.int .i64 r_6.N, .int .u8 r_6.D] 23 ∧ m5_J5 fuel p0_0 p3_0 r_6 x_4 = some r) ?_ ?_
              · refine cw_region ?_
                refine wl_val (v := .bool r_14.2) (w' := w_30) (by kernel_rfl) (run_move (v := .bool r_14.2) (by kernel_rfl)) ?_
                refine wl_val (v := .bool (!r_14.2)) (w' := w_30) (by kernel_rfl) (run_not (b := r_14.2) (by kernel_rfl)) ?_
                refine wl_val (v := .bool (!r_14.2)) (w' := w_30) (by kernel_rfl) (run_move (v := .bool (!r_14.2)) (by kernel_rfl)) ?_
                refine wl_norm [.int .u16 p0_0, .agg #[.int .i64 p1_0.N, .int .u8 p1_0.D], .int .u8 p2_0, .bool p3_0, undef, .pointer (some ⟨g_1, 0, none⟩), undef, undef, .bool false, .int .i64 (cvt .i64 (rem p2_0 7)), .pointer (some ⟨g_2, 0, none⟩), .bool r_1.2, .pointer (some ⟨g_3, 0, none⟩), .bool r_2.2, .int .u16 r_3.1, .bool r_3.2, .bool last_1, .int .u16 r_13.1, .bool r_13.2, .pointer (some ⟨g_6, 0, none⟩), .bool r_14.2, undef, undef, undef, undef, .int .u8 p2_0, .int .u8 (rem p2_0 7), .int .i64 (cvt .i64 (rem p2_0 7)), .tuple #[.agg #[.int .i64 r_1.1.N, .int .u8 r_1.1.D], .bool r_1.2], .int .u16 p0_0, .int .i64 (cvt .i64 (rem p2_0 7)), .bool p3_0, .tuple #[.agg #[.int .i64 r_1.1.N, .int .u8 r_1.1.D], .bool r_1.2], .agg #[.int .i64 r_1.1.N, .int .u8 r_1.1.D], .bool r_1.2, .tuple #[.agg #[.int .i64 r_2.1.N, .int .u8 r_2.1.D], .bool r_2.2], .int .u16 p0_0, .int .u16 (add .u16 p0_0 1), .int .i64 (cvt .i64 (rem p2_0 7)), .bool p3_0, .tuple #[.agg #[.int .i64 r_2.1.N, .int .u8 r_2.1.D], .bool r_2.2], .agg #[.int .i64 r_2.1.N, .int .u8 r_2.1.D], .bool r_2.2, .tuple #[.int .u16 r_3.1, .bool r_3.2], .agg #[.int .i64 r_1.1.N, .int .u8 r_1.1.D], .int .i64 (cvt .i64 (rem p2_0 7)), .bool p3_0, .tuple #[.int .u16 r_3.1, .bool r_3.2], .int .u16 r_3.1, .bool r_3.2, (u_1 0), (u_1 1), (u_1 2), (u_1 3), (u_1 4), (u_1 5), (u_1 6), (u_1 7), (u_1 8), (u_1 9), (u_1 10), (u_1 11), (u_1 12), (u_1 13), (u_1 14), (u_1 15), (u_1 16), (u_1 17), (u_1 18), .bool x_1, .int .u16 p0_0, .bool (eqi p0_0 65535), (u_2 0), (u_2 1), (u_2 2), .agg #[.int .i64 r_1.1.N, .int .u8 r_1.1.D], .agg #[.int .i64 r_2.1.N, .int .u8 r_2.1.D], .int .i64 r_5, .bool (lt r_5 0), .bool last_1, .bool (eqb (lt r_5 0) last_1), .agg #[.int .i64 p1_0.N, .int .u8 p1_0.D], .agg #[.int .i64 r_6.N, .int .u8 r_6.D], .tuple #[.int .u16 r_13.1, .bool r_13.2], .agg #[.int .i64 r_6.N, .int .u8 r_6.D], .int .i64 (cvt .i64 (rem p2_0 7)), .bool p3_0, .tuple #[.int .u16 r_13.1, .bool r_13.2], .int .u16 r_13.1, .bool r_13.2, .bool r_13.2, .tuple #[.agg #[.int .i64 r_14.1.N, .int .u8 r_14.1.D], .bool r_14.2], .int .u16 r_13.1, .int .i64 (cvt .i64 (rem p2_0 7)), .bool p3_0, .tuple #[.agg #[.int .i64 r_14.1.N, .int .u8 r_14.1.D], .bool r_14.2], .agg #[.int .i64 r_14.1.N, .int .u8 r_14.1.D], .bool r_14.2, .bool r_14.2, .bool (!r_14.2), .bool (!r_14.2), undef, undef, undef, undef, undef, undef, undef, undef, undef, undef, undef, undef, undef, undef, undef, undef, undef, undef, undef, undef, undef, undef, undef, undef, undef] (by kernel_rfl) ?_
                rcases Bool.eq_false_or_eq_true r_14.2 with hc_18 | hc_18
                · have hm := ite_t hm hc_18
                  refine wl_val (v := .agg #[.int .i64 r_14.1.N, .int .u8 r_14.1.D]) (w' := w_30) (wg (c := (!r_14.2)) (want := false) (by kernel_rfl) (not_t hc_18) rfl) (run_load_boxn (j := 0) (vs := [.int .i64 r_14.1.N, .int .u8 r_14.1.D]) Tryd.underlying23 rfl sz_23 (by kernel_rfl) h_27 (by kernel_rfl) rfl) ?_
                  refine wl_val (v := .agg #[.int .i64 r_6.N, .int .u8 r_6.D]) (w' := w_30) (wg (c := (!r_14.2)) (want := false) (by kernel_rfl) (not_t hc_18) rfl) (run_load_boxn (j := 0) (vs := [.int .i64 r_6.N, .int .u8 r_6.D]) Tryd.underlying23 rfl sz_23 (by kernel_rfl) h_12 (by kernel_rfl) rfl) ?_
                  obtain ⟨c_3, h_29, hm⟩ := bind_e hm
                  refine wl_val (v := .bool c_3) (w' := w_30) (wg (c := (!r_14.2)) (want := false) (by kernel_rfl) (not_t hc_18) rfl) (by rw [← Option.some.inj h_29]; exact run_ne_agg (r := ((eqi r_14.1.N r_6.N) && ((eqi r_14.1.D r_6.D) && true))) (by kernel_rfl) (by kernel_rfl) eg_23 eq_23) ?_
                  refine wl_val (v := .bool c_3) (w' := w_30) (by kernel_rfl) (run_pick_f (v := .bool c_3) (tr2 (c := (!r_14.2)) (by kernel_rfl) (not_t hc_18)) (by kernel_rfl)) ?_
                  refine wl_nil ?_
                  have hS : Stp w0.heap.size _ [some g_1] F [] w_30 _ := Stp.pick hL [3] rfl (by decide)
                  replace h_12 := hS.box h_12 nilN
                  replace hB := hS.below hL hB
                  replace hL := hS.hL
                  exact then_c ⟨c_3, (fun i => ([.bool r_14.2, .bool (!r_14.2), .bool (!r_14.2), .agg #[.int .i64 r_14.1.N, .int .u8 r_14.1.D], .agg #[.int .i64 r_6.N, .int .u8 r_6.D], .bool c_3] : List Value).getD i undef), by kernel_rfl, hL, hB, h_12, hm⟩
                · have hm := ite_f hm hc_18
                  refine wl_not0 (wg (c := (!r_14.2)) (want := false) (by kernel_rfl) (not_f hc_18) rfl) (by kernel_rfl) ?_
                  refine wl_not0 (wg (c := (!r_14.2)) (want := false) (by kernel_rfl) (not_f hc_18) rfl) (by kernel_rfl) ?_
                  refine wl_not0 (wg (c := (!r_14.2)) (want := false) (by kernel_rfl) (not_f hc_18) rfl) (by kernel_rfl) ?_
                  refine wl_val (v := .bool true) (w' := w_30) (by kernel_rfl) (run_pick_t (v := .bool true) (tr2 (c := (!r_14.2)) (by kernel_rfl) (not_f hc_18)) (by kernel_rfl)) ?_
                  refine wl_nil ?_
                  have hS : Stp w0.heap.size _ [some g_1] F [] w_30 _ := Stp.pick hL [3] rfl (by decide)
                  replace h_12 := hS.box h_12 nilN
                  replace hB := hS.below hL hB
                  replace hL := hS.hL
                  exact then_c ⟨true, (fun i => ([.bool r_14.2, .bool (!r_14.2), .bool (!r_14.2), undef, undef, undef] : List Value).getD i undef), by kernel_rfl, hL, hB, h_12, hm⟩
              · intro l1 w_31 hI
                obtain ⟨x_4, u_6, rfl, hL, hB, h_12, hm⟩ := hI
                unfold m5_J5 at hm
                refine cw_cond (t := x_4) (by kernel_rfl) (fun hc_17 => ?_) (fun hc_17 => ?_)
                · have hm := ite_t hm hc_17
                  refine cw_seq ?_
                  refine cw_region ?_
                  refine wl_val (v := .bool false) (w' := w_31) (by kernel_rfl) (run_assign (v := .bool false) (by kernel_rfl)) ?_
                  refine wl_nil ?_
                  refine then_n ?_
                  refine cw_ret ?_
                  refine then_ret ?_
                  have hS : Stp w0.heap.size _ [] F [] w_31 _ := Stp.pick hL [] rfl (by decide)
                  replace hB := hS.below hL hB
                  replace hL := hS.hL
                  obtain rfl := Option.some.inj hm
                  exact ret1 (v := .bool false) rfl (resv_tmp (by kernel_rfl)) ⟨_, rfl, by kernel_rfl, hB⟩
                · have hm := ite_f hm hc_17
                  refine cw_skip ?_
                  exact then_c ⟨(fun i => ([.bool false, .int .u16 r_13.1, .bool r_13.2, .pointer (some ⟨g_6, 0, none⟩), .bool r_14.2, .tuple #[.int .u16 r_13.1, .bool r_13.2], .agg #[.int .i64 r_6.N, .int .u8 r_6.D], .int .i64 (cvt .i64 (rem p2_0 7)), .bool p3_0, .tuple #[.int .u16 r_13.1, .bool r_13.2], .int .u16 r_13.1, .bool r_13.2, .bool r_13.2, .tuple #[.agg #[.int .i64 r_14.1.N, .int .u8 r_14.1.D], .bool r_14.2], .int .u16 r_13.1, .int .i64 (cvt .i64 (rem p2_0 7)), .bool p3_0, .tuple #[.agg #[.int .i64 r_14.1.N, .int .u8 r_14.1.D], .bool r_14.2], .agg #[.int .i64 r_14.1.N, .int .u8 r_14.1.D], .bool r_14.2, (u_6 0), (u_6 1), (u_6 2), (u_6 3), (u_6 4), (u_6 5), .bool x_4] : List Value).getD i undef), by kernel_rfl, hL, hB, h_12, hm⟩
            · have hm := ite_f hm hc_15
              refine cw_skip ?_
              have hS : Stp w0.heap.size _ [some g_1] F [] w_27 _ := Stp.pick hL [2] rfl (by decide)
              replace h_12 := hS.box h_12 nilN
              replace hB := hS.below hL hB
              replace hL := hS.hL
              exact then_c ⟨(fun i => ([.bool false, .int .u16 r_13.1, .bool r_13.2, undef, undef, .tuple #[.int .u16 r_13.1, .bool r_13.2], .agg #[.int .i64 r_6.N, .int .u8 r_6.D], .int .i64 (cvt .i64 (rem p2_0 7)), .bool p3_0, .tuple #[.int .u16 r_13.1, .bool r_13.2], .int .u16 r_13.1, .bool r_13.2, .bool r_13.2, undef, undef, undef, undef, undef, undef, undef, undef, undef, undef, undef, undef, undef, undef] : List Value).getD i undef), by kernel_rfl, hL, hB, h_12, hm⟩
          · intro l1 w_19 hI
            obtain ⟨u_4, rfl, hL, hB, h_12, hm⟩ := hI
            unfold m5_J3 at hm
            refine cw_seq ?_
            refine cw_region ?_
            refine wl_val (v := .agg #[.int .i64 r_6.N, .int .u8 r_6.D]) (w' := w_19) (by kernel_rfl) (run_load_boxn (j := 0) (vs := [.int .i64 r_6.N, .int .u8 r_6.D]) Tryd.underlying23 rfl sz_23 (by kernel_rfl) h_12 (by kernel_rfl) rfl) ?_
            refine wl_val (v := .bool p3_0) (w' := w_19) (by kernel_rfl) (run_move (v := .bool p3_0) (by kernel_rfl)) ?_
            obtain ⟨r_9, h_18, hm⟩ := bind_e hm
            refine wl_op (by kernel_rfl) (ow_enter (run_callf (vs := [.agg #[.int .i64 r_6.N, .int .u8 r_6.D], .int .i64 7, .bool p3_0]) Tryd.func17 nm_17 (by kernel_rfl) (by kernel_rfl)) (f17_ok (p0_0 := r_6) (p1_0 := 7) (p2_0 := p3_0) fuel _ w_19 hL.lt  h_18) ?_)
            intro vR w_20 hR
            obtain ⟨rfl, hBe⟩ := hR
            have hS := Stp.call hL (Fz.of_below hBe [])
            replace h_12 := hS.box h_12 nilN
            replace hB := hS.below hL hB
            replace hL := hS.hL
            refine wl_val (v := .tuple #[.int .u16 r_9.1, .bool r_9.2]) (w' := w_20) (by kernel_rfl) (run_move (v := .tuple #[.int .u16 r_9.1, .bool r_9.2]) (by kernel_rfl)) ?_
            refine wl_val (v := .int .u16 r_9.1) (w' := w_20) (by kernel_rfl) (run_extract (vs := #[.int .u16 r_9.1, .bool r_9.2]) (by kernel_rfl) (by kernel_rfl)) ?_
            refine wl_val (v := .bool r_9.2) (w' := w_20) (by kernel_rfl) (run_extract (vs := #[.int .u16 r_9.1, .bool r_9.2]) (by kernel_rfl) (by kernel_rfl)) ?_
            refine wl_val (v := .int .u16 r_9.1) (w' := w_20) (by kernel_rfl) (run_assign (v := .int .u16 r_9.1) (by kernel_rfl)) ?_
            refine wl_val (v := .bool r_9.2) (w' := w_20) (by kernel_rfl) (run_assign (v := .bool r_9.2) (by kernel_rfl)) ?_
            refine wl_nil ?_
            refine then_n ?_
            refine cw_seq ?_
            refine cw_region ?_
            refine wl_val (v := .int .u16 p0_0) (w' := w_20) (by kernel_rfl) (run_move (v := .int .u16 p0_0) (by kernel_rfl)) ?_
            refine wl_val (v := .bool p3_0) (w' := w_20) (by kernel_rfl) (run_move (v := .bool p3_0) (by kernel_rfl)) ?_
            obtain ⟨r_10, h_19, hm⟩ := bind_e hm
            refine wl_op (by kernel_rfl) (ow_enter (run_callf (vs := [.int .u16 p0_0, .int .i64 (-1), .bool p3_0]) Tryd.func16 nm_16 (by kernel_rfl) (by kernel_rfl)) (f16_ok (p0_0 := p0_0) (p1_0 := (-1)) (p2_0 := p3_0) fuel _ w_20 hL.lt  h_19) ?_)
            intro vR w_21 hR
            obtain ⟨rfl, hBe⟩ := hR
            have hS := Stp.call hL (Fz.of_below hBe [])
            replace h_12 := hS.box h_12 nilN
            replace hB := hS.below hL hB
            replace hL := hS.hL
            refine wl_val (v := .tuple #[.agg #[.int .i64 r_10.1.N, .int .u8 r_10.1.D], .bool r_10.2]) (w' := w_21) (by kernel_rfl) (run_move (v := .tuple #[.agg #[.int .i64 r_10.1.N, .int .u8 r_10.1.D], .bool r_10.2]) (by kernel_rfl)) ?_
            refine wl_val (v := .agg #[.int .i64 r_10.1.N, .int .u8 r_10.1.D]) (w' := w_21) (by kernel_rfl) (run_extract (vs := #[.agg #[.int .i64 r_10.1.N, .int .u8 r_10.1.D], .bool r_10.2]) (by kernel_rfl) (by kernel_rfl)) ?_
            refine wl_val (v := .bool r_10.2) (w' := w_21) (by kernel_rfl) (run_extract (vs := #[.agg #[.int .i64 r_10.1.N, .int .u8 r_10.1.D], .bool r_10.2]) (by kernel_rfl) (by kernel_rfl)) ?_
            refine wl_op (by kernel_rfl) (ow_alloc' (z := .agg #[.int .i64 0, .int .u8 0]) (vs := [.int .i64 0, .int .u8 0]) (by kernel_rfl) rfl hL ?_)
            intro g_5 w_22 hS h_20
            replace h_12 := hS.box h_12 nilN
            replace hB := hS.below hL hB
            replace hL := hS.hL
            refine wl_op (by kernel_rfl) (ow_store_box' (g := g_5) (j := 0) (v := .agg #[.int .i64 r_10.1.N, .int .u8 r_10.1.D]) (vs := [.int .i64 r_10.1.N, .int .u8 r_10.1.D]) (cs' := [.int .i64 r_10.1.N, .int .u8 r_10.1.D]) sz_23 (by kernel_rfl) (by kernel_rfl) rfl rfl rfl hL h_20 rfl (by simp) rfl ?_)
            intro w_23 hS h_21
            replace h_12 := hS.box h_12 (hL.apart 1 0 rfl rfl (by decide) _ rfl)
            replace hB := hS.below hL hB
            replace hL := hS.hL
            refine wl_val (v := .bool r_10.2) (w' := w_23) (by kernel_rfl) (run_assign (v := .bool r_10.2) (by kernel_rfl)) ?_
            refine wl_nil ?_
            refine then_n ?_
            refine cw_norm [.int .u16 p0_0, .agg #[.int .i64 p1_0.N, .int .u8 p1_0.D], .int .u8 p2_0, .bool p3_0, undef, .pointer (some ⟨g_1, 0, none⟩), undef, undef, (u_4 0), .int .i64 (cvt .i64 (rem p2_0 7)), .pointer (some ⟨g_2, 0, none⟩), .bool r_1.2, .pointer (some ⟨g_3, 0, none⟩), .bool r_2.2, .int .u16 r_3.1, .bool r_3.2, .bool last_1, (u_4 1), (u_4 2), (u_4 3), (u_4 4), .int .u16 r_9.1, .bool r_9.2, .pointer (some ⟨g_5, 0, none⟩), .bool r_10.2, .int .u8 p2_0, .int .u8 (rem p2_0 7), .int .i64 (cvt .i64 (rem p2_0 7)), .tuple #[.agg #[.int .i64 r_1.1.N, .int .u8 r_1.1.D], .bool r_1.2], .int .u16 p0_0, .int .i64 (cvt .i64 (rem p2_0 7)), .bool p3_0, .tuple #[.agg #[.int .i64 r_1.1.N, .int .u8 r_1.1.D], .bool r_1.2], .agg #[.int .i64 r_1.1.N, .int .u8 r_1.1.D], .bool r_1.2, .tuple #[.agg #[.int .i64 r_2.1.N, .int .u8 r_2.1.D], .bool r_2.2], .int .u16 p0_0, .int .u16 (add .u16 p0_0 1), .int .i64 (cvt .i64 (rem p2_0 7)), .bool p3_0, .tuple #[.agg #[.int .i64 r_2.1.N, .int .u8 r_2.1.D], .bool r_2.2], .agg #[.int .i64 r_2.1.N, .int .u8 r_2.1.D], .bool r_2.2, .tuple #[.int .u16 r_3.1, .bool r_3.2], .agg #[.int .i64 r_1.1.N, .int .u8 r_1.1.D], .int .i64 (cvt .i64 (rem p2_0 7)), .bool p3_0, .tuple #[.int .u16 r_3.1, .bool r_3.2], .int .u16 r_3.1, .bool r_3.2, (u_1 0), (u_1 1), (u_1 2), (u_1 3), (u_1 4), (u_1 5), (u_1 6), (u_1 7), (u_1 8), (u_1 9), (u_1 10), (u_1 11), (u_1 12), (u_1 13), (u_1 14), (u_1 15), (u_1 16), (u_1 17), (u_1 18), .bool x_1, .int .u16 p0_0, .bool (eqi p0_0 65535), (u_2 0), (u_2 1), (u_2 2), .agg #[.int .i64 r_1.1.N, .int .u8 r_1.1.D], .agg #[.int .i64 r_2.1.N, .int .u8 r_2.1.D], .int .i64 r_5, .bool (lt r_5 0), .bool last_1, .bool (eqb (lt r_5 0) last_1), .agg #[.int .i64 p1_0.N, .int .u8 p1_0.D], .agg #[.int .i64 r_6.N, .int .u8 r_6.D], (u_4 5), (u_4 6), (u_4 7), (u_4 8), (u_4 9), (u_4 10), (u_4 11), (u_4 12), (u_4 13), (u_4 14), (u_4 15), (u_4 16), (u_4 17), (u_4 18), (u_4 19), (u_4 20), (u_4 21), (u_4 22), (u_4 23), (u_4 24), (u_4 25), (u_4 26), .tuple #[.int .u16 r_9.1, .bool r_9.2], .agg #[.int .i64 r_6.N, .int .u8 r_6.D], .bool p3_0, .tuple #[.int .u16 r_9.1, .bool r_9.2], .int .u16 r_9.1, .bool r_9.2, .tuple #[.agg #[.int .i64 r_10.1.N, .int .u8 r_10.1.D], .bool r_10.2], .int .u16 p0_0, .bool p3_0, .tuple #[.agg #[.int .i64 r_10.1.N, .int .u8 r_10.1.D], .bool r_10.2], .agg #[.int .i64 r_10.1.N, .int .u8 r_10.1.D], .bool r_10.2, undef, undef, undef, undef, undef, undef, undef, undef, undef] (by kernel_rfl) ?_
            refine cw_cut (fun l' w' => ∃ x_3, ∃ u_5 : Nat → Value, l' = [.int .u16 p0_0, .agg #[.int .i64 p1_0.N, .int .u8 p1_0.D], .int .u8 p2_0, .bool p3_0, undef, .pointer (some ⟨g_1, 0, none⟩), undef, undef, .bool x_3, .int .i64 (cvt .i64 (rem p2_0 7)), .pointer (some ⟨g_2, 0, none⟩), .bool r_1.2, .pointer (some ⟨g_3, 0, none⟩), .bool r_2.2, .int .u16 r_3.1, .bool r_3.2, .bool last_1, (u_4 1), (u_4 2), (u_4 3), (u_4 4), .int .u16 r_9.1, .bool r_9.2, .pointer (some ⟨g_5, 0, none⟩), .bool r_10.2, .int .u8 p2_0, .int .u8 (rem p2_0 7), .int .i64 (cvt .i64 (rem p2_0 7)), .tuple #[.agg #[.int .i64 r_1.1.N, .int .u8 r_1.1.D], .bool r_1.2], .int .u16 p0_0, .int .i64 (cvt .i64 (rem p2_0 7)), .bool p3_0, .tuple #[.agg #[.int .i64 r_1.1.N, .int .u8 r_1.1.D], .bool r_1.2], .agg #[.int .i64 r_1.1.N, .int .u8 r_1.1.D], .bool r_1.2, .tuple #[.agg #[.int .i64 r_2.1.N, .int .u8 r_2.1.D], .bool r_2.2], .int .u16 p0_0, .int .u16 (add .u16 p0_0 1), .int .i64 (cvt .i64 (rem p2_0 7)), .bool p3_0, .tuple #[.agg #[.int .i64 r_2.1.N, .int .u8 r_2.1.D], .bool r_2.2], .agg #[.int .i64 r_2.1.N, .int .u8 r_2.1.D], .bool r_2.2, .tuple #[.int .u16 r_3.1, .bool r_3.2], .agg #[.int .i64 r_1.1.N, .int .u8 r_1.1.D], .int .i64 (cvt .i64 (rem p2_0 7)), .bool p3_0, .tuple #[.int .u16 r_3.1, .bool r_3.2], .int .u16 r_3.1, .bool r_3.2, (u_1 0), (u_1 1), (u_1 2), (u_1 3), (u_1 4), (u_1 5), (u_1 6), (u_1 7), (u_1 8), (u_1 9), (u_1 10), (u_1 11), (u_1 12), (u_1 13), (u_1 14), (u_1 15), (u_1 16), (u_1 17), (u_1 18), .bool x_1, .int .u16 p0_0, .bool (eqi p0_0 65535), (u_2 0), (u_2 1), (u_2 2), .agg #[.int .i64 r_1.1.N, .int .u8 r_1.1.D], .agg #[.int .i64 r_2.1.N, .int .u8 r_2.1.D], .int .i64 r_5, .bool (lt r_5 0), .bool last_1, .bool (eqb (lt r_5 0) last_1), .agg #[.int .i64 p1_0.N, .int .u8 p1_0.D], .agg #[.int .i64 r_6.N, .int .u8 r_6.D], (u_4 5), (u_4 6), (u_4 7), (u_4 8), (u_4 9), (u_4 10), (u_4 11), (u_4 12), (u_4 13), (u_4 14), (u_4 15), (u_4 16), (u_4 17), (u_4 18), (u_4 19), (u_4 20), (u_4 21), (u_4 22), (u_4 23), (u_4 24), (u_4 25), (u_4 26), .tuple #[.int .u16 r_9.1, .bool r_9.2], .agg #[.int .i64 r_6.N, .int .u8 r_6.D], .bool p3_0, .tuple #[.int .u16 r_9.1, .bool r_9.2], .int .u16 r_9.1, .bool r_9.2, .tuple #[.agg #[.int .i64 r_10.1.N, .int .u8 r_10.1.D], .bool r_10.2], .int .u16 p0_0, .bool p3_0, .tuple #[.agg #[.int .i64 r_10.1.N, .int .u8 r_10.1.D], .bool r_10.2], .agg #[.int .i64 r_10.1.N, .int .u8 r_10.1.D], .bool r_10.2, (u_5 0), (u_5 1), (u_5 2), (u_5 3), (u_5 4), (u_5 5), (u_5 6), (u_5 7), (u_5 8)] ∧ LOk w0.heap.size [] F w' ∧ Below w0.heap.size w0 w' ∧ m5_J4 fuel x_3 = some r) ?_ ?_
            · refine cw_region ?_
              refine wl_val (v := .bool r_9.2) (w' := w_23) (by kernel_rfl) (run_move (v := .bool r_9.2) (by kernel_rfl)) ?_
              refine wl_val (v := .bool (!r_9.2)) (w' := w_23) (by kernel_rfl) (run_not (b := r_9.2) (by kernel_rfl)) ?_
              refine wl_val (v := .bool (!r_9.2)) (w' := w_23) (by kernel_rfl) (run_move (v := .bool (!r_9.2)) (by kernel_rfl)) ?_
              rcases Bool.eq_false_or_eq_true r_9.2 with hc_13 | hc_13
              · have hm := ite_t hm hc_13
                refine wl_not0 (wg (c := (!r_9.2)) (want := true) (by kernel_rfl) (not_t hc_13) rfl) (by kernel_rfl) ?_
                refine wl_not0 (wg (c := (!r_9.2)) (want := true) (by kernel_rfl) (not_t hc_13) rfl) (by kernel_rfl) ?_
                refine wl_val (v := .bool false) (w' := w_23) (by kernel_rfl) (run_pick_f (v := .bool false) (tr2 (c := (!r_9.2)) (by kernel_rfl) (not_t hc_13)) (by kernel_rfl)) ?_
                refine wl_val (v := .bool false) (w' := w_23) (by kernel_rfl) (run_move (v := .bool false) (by kernel_rfl)) ?_
                refine wl_not0 (by kernel_rfl) (by kernel_rfl) ?_
                refine wl_val (v := .bool false) (w' := w_23) (by kernel_rfl) (run_pick_f (v := .bool false) (by kernel_rfl) (by kernel_rfl)) ?_
                refine wl_val (v := .bool false) (w' := w_23) (by kernel_rfl) (run_assign (v := .bool false) (by kernel_rfl)) ?_
                refine wl_nil ?_
                have hS : Stp w0.heap.size _ [] F [] w_23 _ := Stp.pick hL [] rfl (by decide)
                replace hB := hS.below hL hB
                replace hL := hS.hL
                exact then_c ⟨false, (fun i => ([.bool r_9.2, .bool (!r_9.2), .bool (!r_9.2), undef, undef, .bool false, .bool false, undef, .bool false] : List Value).getD i undef), by kernel_rfl, hL, hB, hm⟩
              · have hm := ite_f hm hc_13
                refine wl_val (v := .bool r_10.2) (w' := w_23) (wg (c := (!r_9.2)) (want := true) (by kernel_rfl) (not_f hc_13) rfl) (run_move (v := .bool r_10.2) (by kernel_rfl)) ?_
                refine wl_val (v := .bool (!r_10.2)) (w' := w_23) (wg (c := (!r_9.2)) (want := true) (by kernel_rfl) (not_f hc_13) rfl) (run_not (b := r_10.2) (by kernel_rfl)) ?_
                refine wl_val (v := .bool (!r_10.2)) (w' := w_23) (by kernel_rfl) (run_pick_t (v := .bool (!r_10.2)) (tr2 (c := (!r_9.2)) (by kernel_rfl) (not_f hc_13)) (by kernel_rfl)) ?_
                refine wl_val (v := .bool (!r_10.2)) (w' := w_23) (by kernel_rfl) (run_move (v := .bool (!r_10.2)) (by kernel_rfl)) ?_
                rcases Bool.eq_false_or_eq_true r_10.2 with hc_14 | hc_14
                · have hm := ite_t hm hc_14
                  refine wl_not0 (wg (c := (!r_10.2)) (want := true) (by kernel_rfl) (not_t hc_14) rfl) (by kernel_rfl) ?_
                  refine wl_val (v := .bool false) (w' := w_23) (by kernel_rfl) (run_pick_f (v := .bool false) (tr2 (c := (!r_10.2)) (by kernel_rfl) (not_t hc_14)) (by kernel_rfl)) ?_
                  refine wl_val (v := .bool false) (w' := w_23) (by kernel_rfl) (run_assign (v := .bool false) (by kernel_rfl)) ?_
                  refine wl_nil ?_
                  have hS : Stp w0.heap.size _ [] F [] w_23 _ := Stp.pick hL [] rfl (by decide)
                  replace hB := hS.below hL hB
                  replace hL := hS.hL
                  exact then_c ⟨false, (fun i => ([.bool r_9.2, .bool (!r_9.2), .bool (!r_9.2), .bool r_10.2, .bool (!r_10.2), .bool (!r_10.2), .bool (!r_10.2), undef, .bool false] : List Value).getD i undef), by kernel_rfl, hL, hB, hm⟩
                · have hm := ite_f hm hc_14
                  obtain ⟨r_12, h_23, hm⟩ := bind_e hm
                  refine wl_op (wg (c := (!r_10.2)) (want := true) (by kernel_rfl) (not_f hc_14) rfl) (ow_enter (run_callf (vs := []) Tryd.func12 nm_12 (by kernel_rfl) (by kernel_rfl)) (f12_ok fuel _ w_23 hL.lt  h_23) ?_)
                  intro vR w_26 hR
                  obtain ⟨rfl, hBe⟩ := hR
                  have hS := Stp.call hL (Fz.of_below hBe [])
                  replace h_12 := hS.box h_12 nilN
                  replace h_21 := hS.box h_21 nilN
                  replace hB := hS.below hL hB
                  replace hL := hS.hL
                  refine wl_val (v := .bool r_12) (w' := w_26) (by kernel_rfl) (run_pick_t (v := .bool r_12) (tr2 (c := (!r_10.2)) (by kernel_rfl) (not_f hc_14)) (by kernel_rfl)) ?_
                  refine wl_val (v := .bool r_12) (w' := w_26) (by kernel_rfl) (run_assign (v := .bool r_12) (by kernel_rfl)) ?_
                  refine wl_nil ?_
                  have hS : Stp w0.heap.size _ [] F [] w_26 _ := Stp.pick hL [] rfl (by decide)
                  replace hB := hS.below hL hB
                  replace hL := hS.hL
                  exact then_c ⟨r_12, (fun i => ([.bool r_9.2, .bool (!r_9.2), .bool (!r_9.2), .bool r_10.2, .bool (!r_10.2), .bool (!r_10.2), .bool (!r_10.2), .bool r_12, .bool r_12] : List Value).getD i undef), by kernel_rfl, hL, hB, hm⟩
            · intro l1 w_25 hI
              obtain ⟨x_3, u_5, rfl, hL, hB, hm⟩ := hI
              unfold m5_J4 at hm
              refine cw_ret ?_
              obtain rfl := Option.some.inj hm
              exact ret1 (v := .bool x_3) rfl (resv_tmp (by kernel_rfl)) ⟨_, rfl, by kernel_rfl, hB⟩
end SxYtihfogahdofdmaaDoor

/- UnitsWords, as a law of the model. -/
namespace SxYtihfogahdofdmaaDoor
open Go Sx
theorem m16_below {w : Int} (s : Bool) : m16 64 w (-1) s = some ((⟨0, 0⟩ : TDec), false) := by
  unfold m16
  simp [lt, m16_J1]
theorem val_range {w : Int} (s : Bool) (h1 : 0 ≤ w) (h2 : w ≤ 65535) : -65536 ≤ val w s ∧ val w s ≤ 65535 := by unfold val; split <;> (try split) <;> omega
theorem wordOf_f (X : Int) : wordOf X false = if 0 ≤ X ∧ X ≤ 65535 then (X % 65536, true) else (0, false) := by simp [wordOf]
theorem wordOf_t (X : Int) : wordOf X true = if -32768 ≤ X ∧ X ≤ 32767 then (X % 65536, true) else (0, false) := by simp [wordOf]
theorem val_f (w : Int) : val w false = w := rfl
theorem val_t (w : Int) : val w true = if w < 32768 then w else w - 65536 := rfl
theorem word_val {w : Int} (s : Bool) (h1 : 0 ≤ w) (h2 : w ≤ 65535) : wordOf (val w s) s = (w, true) := by
  cases s
  · rw [val_f, wordOf_f, if_pos (by omega)]
    rw [show w % 65536 = w by omega]
  · rw [val_t, wordOf_t]
    by_cases h : w < 32768
    · rw [if_pos h, if_pos (by omega)]
      rw [show w % 65536 = w by omega]
    · rw [if_neg h, if_pos (by omega)]
      rw [show (w - 65536) % 65536 = w by omega]
theorem val_word {X : Int} {s : Bool} (h : (wordOf X s).2 = true) : val (wordOf X s).1 s = X ∧ 0 ≤ (wordOf X s).1 ∧ (wordOf X s).1 ≤ 65535 := by
  cases s
  · rw [wordOf_f] at h ⊢
    by_cases hc : 0 ≤ X ∧ X ≤ 65535
    · rw [if_pos hc, val_f]
      show X % 65536 = X ∧ 0 ≤ X % 65536 ∧ X % 65536 ≤ 65535
      omega
    · rw [if_neg hc] at h
      cases h
  · rw [wordOf_t] at h ⊢
    by_cases hc : -32768 ≤ X ∧ X ≤ 32767
    · rw [if_pos hc, val_t]
      show (if X % 65536 < 32768 then X % 65536 else X % 65536 - 65536) = X ∧ 0 ≤ X % 65536 ∧ X % 65536 ≤ 65535
      split <;> omega
    · rw [if_neg hc] at h
      cases h
/-- the worth of a register, without noughts -/
def worth (n : Nat) (v : Int) : TDec := ⟨(strip n v).2, ((strip n v).1 : Nat)⟩
theorem worth_D (n : Nat) (v : Int) : (worth n v).D.toNat = (strip n v).1 := by simp [worth]
theorem worth_le (n : Nat) (v : Int) : (worth n v).D.toNat ≤ n := by rw [worth_D]; exact (strip_spec n v).1
theorem worth_back (n : Nat) (v : Int) : (worth n v).N * p10 (n - (worth n v).D.toNat) = v := by
  rw [worth_D]
  exact (strip_spec n v).2.1.symm
theorem worth_six {n : Nat} (v : Int) (hn : n ≤ 6) : (worth n v).N * p10 (6 - (worth n v).D.toNat) = v * p10 (6 - n) := by
  have h := worth_le n v
  have e : 6 - (worth n v).D.toNat = (n - (worth n v).D.toNat) + (6 - n) := by omega
  rw [e, p10_add, ← Int.mul_assoc, worth_back]
theorem cmp_worth {n : Nat} {v v2 : Int} (hn : n ≤ 6) (h1 : -1000000000000 ≤ v) (h2 : v ≤ 1000000000000) (h3 : -1000000000000 ≤ v2) (h4 : v2 ≤ 1000000000000) :
    m15 64 (worth n v) (worth n v2) = some (if v < v2 then -1 else if v > v2 then 1 else 0) := by
  have hp := p10_pos (6 - n)
  rw [m15_eq (a := worth n v) (b := worth n v2) (strip_right hn h1 h2) (strip_right hn h3 h4)]
  show some (if (worth n v).N * p10 (6 - (worth n v).D.toNat) < (worth n v2).N * p10 (6 - (worth n v2).D.toNat) then (-1 : Int) else if (worth n v).N * p10 (6 - (worth n v).D.toNat) > (worth n v2).N * p10 (6 - (worth n v2).D.toNat) then 1 else 0) = _
  rw [worth_six v hn, worth_six v2 hn]
  have a1 : v * p10 (6 - n) < v2 * p10 (6 - n) ↔ v < v2 := Int.mul_lt_mul_right hp
  have a2 : v2 * p10 (6 - n) < v * p10 (6 - n) ↔ v2 < v := Int.mul_lt_mul_right hp
  simp only [gt_iff_lt, a1, a2]
theorem J3_true {w : Int} {e : TDec} (s : Bool) (he : RightD e) : m5_J3 64 w s e = some true := by
  unfold m5_J3
  rw [m17_far he s (.inr (by decide)) (by decide), m16_below]
  simp [m5_J4, awake_m]
theorem words_law {w digits : Int} {d : TDec} (s : Bool) (hw1 : 0 ≤ w) (hw2 : w ≤ 65535) (hg : 0 ≤ digits) (hD : 0 ≤ d.D) : m5 64 w d digits s = some true := by
  have g1 := Int.tmod_lt_of_pos digits (show (0 : Int) < 7 by decide)
  have g2 := Int.tmod_nonneg 7 hg
  obtain ⟨n, hn⟩ : ∃ n : Nat, digits.tmod 7 = n := ⟨_, (Int.toNat_of_nonneg g2).symm⟩
  have hn6 : n ≤ 6 := by omega
  have e0 : cvt .i64 (rem digits 7) = (n : Int) := by
    unfold rem
    rw [cvt64 (by omega) (by omega), hn]
  have ew : add .u16 w 1 = (w + 1) % 65536 := wrapu16
  have hw3 : 0 ≤ (w + 1) % 65536 := by omega
  have hw4 : (w + 1) % 65536 ≤ 65535 := by omega
  have hv := val_range s hw1 hw2
  have hv2 := val_range s hw3 hw4
  have r1 : m16 64 w n s = some (worth n (val w s), true) := m16_eq s hw1 hw2 hn6
  have r2 : m16 64 ((w + 1) % 65536) n s = some (worth n (val ((w + 1) % 65536) s), true) := m16_eq s hw3 hw4 hn6
  have hx : RightD (worth n (val w s)) := strip_right hn6 (by omega) (by omega)
  have r3 : m17 64 (worth n (val w s)) n s = some (w, true) := by
    rw [m17_eq hx s hn6 (worth_le _ _), worth_back, word_val s hw1 hw2]
  have r5 := cmp_worth (n := n) (v := val w s) (v2 := val ((w + 1) % 65536) s) hn6 (by omega) (by omega) (by omega) (by omega)
  obtain ⟨e, r6, he⟩ := m9_eq (d := d) hD
  have tail : ∀ last : Bool, (eqb (lt (if val w s < val ((w + 1) % 65536) s then (-1 : Int) else if val w s > val ((w + 1) % 65536) s then 1 else 0) 0) last) = false →
      m5_J2 64 w d digits s (worth n (val w s), true) (worth n (val ((w + 1) % 65536) s), true) last = some true := by
    intro last hl
    unfold m5_J2
    simp only [r5, Option.bind_some, hl, Bool.false_eq_true, if_false, r6, e0]
    by_cases hed : e.D.toNat ≤ n
    · rw [m17_eq he s hn6 hed]
      simp only [Option.bind_some]
      cases hq : (wordOf (e.N * p10 (n - e.D.toNat)) s).2
      · simp only [Bool.false_eq_true, if_false]
        exact J3_true s he
      · obtain ⟨v1, v2, v3⟩ := val_word hq
        have r8 := m16_eq s v2 v3 hn6
        rw [v1] at r8
        have r8' : m16 64 (wordOf (e.N * p10 (n - e.D.toNat)) s).1 n s = some (worth n (e.N * p10 (n - e.D.toNat)), true) := r8
        obtain ⟨_, b1, b2⟩ := right_mul he (n := n - e.D.toNat) (by omega)
        have b3 : -65536 ≤ e.N * p10 (n - e.D.toNat) ∧ e.N * p10 (n - e.D.toNat) ≤ 65535 := by
          have := val_range s v2 v3
          rwa [v1] at this
        have hone : worth n (e.N * p10 (n - e.D.toNat)) = e :=
          right_one (K := n) (strip_right hn6 (by omega) (by omega)) he (worth_le _ _) hed (worth_back _ _)
        simp only [if_true, r8', hone, Option.bind_some, eqi, beq_self_eq_true, Bool.and_self, Bool.not_true, m5_J5, Bool.false_eq_true, if_false]
        exact J3_true s he
    · rw [m17_far he s (.inl (by have := he.2.2.1; omega)) (by omega)]
      simp only [Option.bind_some, Bool.false_eq_true, if_false]
      exact J3_true s he
  unfold m5
  simp only [e0, ew, r1, r2, r3, Option.bind_some, if_true, nei, bne_self_eq_false, Bool.false_eq_true, if_false, m14_right hx, Bool.not_true, m5_J1]
  cases s
  · simp only [Bool.false_eq_true, if_false]
    apply tail
    by_cases h : w = 65535
    · subst h; rfl
    · have : val w false < val ((w + 1) % 65536) false := by simp [val]; omega
      simp [this, lt, eqb, eqi, h]
  · simp only [if_true]
    apply tail
    by_cases h : w = 32767
    · subst h; rfl
    · have : val w true < val ((w + 1) % 65536) true := by
        simp only [val, if_true]
        split <;> split <;> omega
      simp [this, lt, eqb, eqi, h]
end SxYtihfogahdofdmaaDoor
