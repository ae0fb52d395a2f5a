/- Proved in the last of these 10 parts (this is part 8): UnitsWays answers true at every decimal, at every three units, and at every name. Conditions: those of the given statement, and no others. -/
import Derived.Test.YtihfogahdofdmaaDoorPartg
import Derived.KernelRfl
import Derived.Test.YtihfogahdofdmaaDoorParta
import Derived.Test.YtihfogahdofdmaaDoorPartd
set_option linter.unusedVariables false
set_option linter.unusedSimpArgs false
set_option linter.unusedSectionVars false
/- The chapter's examples, in the model. -/
namespace SxYtihfogahdofdmaaDoor
open Sx
set_option maxRecDepth 1000000 in
theorem awake_m : m12 64 = some true := by kernel_rfl
end SxYtihfogahdofdmaaDoor

/- Written by program (gen.py): the model of saucier/saucierlaw12.names, and the proof that its code computes it. -/
namespace SxYtihfogahdofdmaaDoor
open Go Go.RowKit Sx Go.Proofs
set_option linter.unusedVariables false
set_option linter.unusedSimpArgs false
attribute [local irreducible] WL WX CW OW
/-! ### 8: "saucier/saucierlaw12.names" -/
def m8 (fuel : Nat) : Option (List (List UInt8)) :=
  some ([([] : List UInt8), ([37] : List UInt8), ([109] : List UInt8), ([99, 109] : List UInt8), ([109, 109] : List UInt8), ([115] : List UInt8), ([109, 115] : List UInt8), ([109, 105, 110] : List UInt8), ([104] : List UInt8), ([98, 97, 114] : List UInt8), ([109, 98, 97, 114] : List UInt8), ([107, 80, 97] : List UInt8), ([107, 103] : List UInt8), ([103] : List UInt8), ([116] : List UInt8), ([108] : List UInt8), ([109, 108] : List UInt8), ([67] : List UInt8)] : List (List UInt8))
@[reducible] def Q8 (F : Lx) (w0 : World) (r : (List (List UInt8))) (v : Value) (w' : World) : Prop := ∃ a0 n0 c0, v = .slice a0 n0 c0 ∧ Below w0.heap.size w0 w' ∧ Ow Rp.str 9 ([blk a0] ++ F) w' a0 n0 c0 r ∧ (∀ k, blk a0 = some k → w0.heap.size ≤ k ∧ k < w'.heap.size)
set_option maxRecDepth 100000 in
set_option maxHeartbeats 4000000 in
theorem f8_ok (fuel : Nat) (F : Lx) (w0 : World) (hF : ∀ k, some k ∈ F → k < w0.heap.size) {r : (List (List UInt8))} (hm : m8 fuel = some r) :
    Calls Tryd.prog 8 #[] w0 (fun e w' => ∃ v, e = .returned v ∧ Q8 F w0 r v w') := by
  have hPF : PF (bodyPost Tryd.prog Tryd.f8 (fun e w' => ∃ v, e = .returned v ∧ Q8 F w0 r v w')) := PF.body (fun c w h => by obtain ⟨v, e, _⟩ := h; cases e)
  have hL := LOk.start hF
  have hB := Below.refl w0.heap.size w0
  unfold m8 at hm
  refine enter (l := [undef, undef]) Tryd.func8 rfl Tryd.ntmps8 (by kernel_rfl) ?_
  refine cw_seq ?_
  refine cw_region ?_
  refine wl_val (v := .slice none 0 0) (w' := w0) (by kernel_rfl) (run_assign (v := .slice none 0 0) (by kernel_rfl)) ?_
  refine wl_nil ?_
  refine then_n ?_
  refine cw_seq ?_
  refine cw_region ?_
  refine wl_op (by kernel_rfl) (ow_lit (R := Rp.str) (e := 9) (len := 18) (cells := [.string ⟨⟨([] : List UInt8)⟩⟩, .string ⟨⟨([37] : List UInt8)⟩⟩, .string ⟨⟨([109] : List UInt8)⟩⟩, .string ⟨⟨([99, 109] : List UInt8)⟩⟩, .string ⟨⟨([109, 109] : List UInt8)⟩⟩, .string ⟨⟨([115] : List UInt8)⟩⟩, .string ⟨⟨([109, 115] : List UInt8)⟩⟩, .string ⟨⟨([109, 105, 110] : List UInt8)⟩⟩, .string ⟨⟨([104] : List UInt8)⟩⟩, .string ⟨⟨([98, 97, 114] : List UInt8)⟩⟩, .string ⟨⟨([109, 98, 97, 114] : List UInt8)⟩⟩, .string ⟨⟨([107, 80, 97] : List UInt8)⟩⟩, .string ⟨⟨([107, 103] : List UInt8)⟩⟩, .string ⟨⟨([103] : List UInt8)⟩⟩, .string ⟨⟨([116] : List UInt8)⟩⟩, .string ⟨⟨([108] : List UInt8)⟩⟩, .string ⟨⟨([109, 108] : List UInt8)⟩⟩, .string ⟨⟨([67] : List UInt8)⟩⟩]) (xs := ([([] : List UInt8), ([37] : List UInt8), ([109] : List UInt8), ([99, 109] : List UInt8), ([109, 109] : List UInt8), ([115] : List UInt8), ([109, 115] : List UInt8), ([109, 105, 110] : List UInt8), ([104] : List UInt8), ([98, 97, 114] : List UInt8), ([109, 98, 97, 114] : List UInt8), ([107, 80, 97] : List UInt8), ([107, 103] : List UInt8), ([103] : List UInt8), ([116] : List UInt8), ([108] : List UInt8), ([109, 108] : List UInt8), ([67] : List UInt8)] : List (List UInt8))) rfl hL (by kernel_rfl) (rows_cons (R := Rp.str) (c := [.string ⟨⟨([] : List UInt8)⟩⟩]) (x := ([] : List UInt8)) rfl (rows_cons (R := Rp.str) (c := [.string ⟨⟨([37] : List UInt8)⟩⟩]) (x := ([37] : List UInt8)) rfl (rows_cons (R := Rp.str) (c := [.string ⟨⟨([109] : List UInt8)⟩⟩]) (x := ([109] : List UInt8)) rfl (rows_cons (R := Rp.str) (c := [.string ⟨⟨([99, 109] : List UInt8)⟩⟩]) (x := ([99, 109] : List UInt8)) rfl (rows_cons (R := Rp.str) (c := [.string ⟨⟨([109, 109] : List UInt8)⟩⟩]) (x := ([109, 109] : List UInt8)) rfl (rows_cons (R := Rp.str) (c := [.string ⟨⟨([115] : List UInt8)⟩⟩]) (x := ([115] : List UInt8)) rfl (rows_cons (R := Rp.str) (c := [.string ⟨⟨([109, 115] : List UInt8)⟩⟩]) (x := ([109, 115] : List UInt8)) rfl (rows_cons (R := Rp.str) (c := [.string ⟨⟨([109, 105, 110] : List UInt8)⟩⟩]) (x := ([109, 105, 110] : List UInt8)) rfl (rows_cons (R := Rp.str) (c := [.string ⟨⟨([104] : List UInt8)⟩⟩]) (x := ([104] : List UInt8)) rfl (rows_cons (R := Rp.str) (c := [.string ⟨⟨([98, 97, 114] : List UInt8)⟩⟩]) (x := ([98, 97, 114] : List UInt8)) rfl (rows_cons (R := Rp.str) (c := [.string ⟨⟨([109, 98, 97, 114] : List UInt8)⟩⟩]) (x := ([109, 98, 97, 114] : List UInt8)) rfl (rows_cons (R := Rp.str) (c := [.string ⟨⟨([107, 80, 97] : List UInt8)⟩⟩]) (x := ([107, 80, 97] : List UInt8)) rfl (rows_cons (R := Rp.str) (c := [.string ⟨⟨([107, 103] : List UInt8)⟩⟩]) (x := ([107, 103] : List UInt8)) rfl (rows_cons (R := Rp.str) (c := [.string ⟨⟨([103] : List UInt8)⟩⟩]) (x := ([103] : List UInt8)) rfl (rows_cons (R := Rp.str) (c := [.string ⟨⟨([116] : List UInt8)⟩⟩]) (x := ([116] : List UInt8)) rfl (rows_cons (R := Rp.str) (c := [.string ⟨⟨([108] : List UInt8)⟩⟩]) (x := ([108] : List UInt8)) rfl (rows_cons (R := Rp.str) (c := [.string ⟨⟨([109, 108] : List UInt8)⟩⟩]) (x := ([109, 108] : List UInt8)) rfl (rows_cons (R := Rp.str) (c := [.string ⟨⟨([67] : List UInt8)⟩⟩]) (x := ([67] : List UInt8)) rfl (rows_nil _ _ _))))))))))))))))))) rfl (by decide) ?_)
  intro a_1 n_1 c_1 w_1 hS h_1
  replace hB := hS.below hL hB
  replace hL := hS.hL
  refine wl_val (v := .slice a_1 n_1 c_1) (w' := w_1) (by kernel_rfl) (run_assign (v := .slice a_1 n_1 c_1) (by kernel_rfl)) ?_
  refine wl_nil ?_
  refine then_n ?_
  refine cw_ret ?_
  obtain rfl := Option.some.inj hm
  exact ret1 (v := .slice a_1 n_1 c_1) rfl (resv_tmp (by kernel_rfl)) ⟨_, rfl, a_1, n_1, c_1, by kernel_rfl, hB, h_1, (hL.fresh 0 rfl)⟩
end SxYtihfogahdofdmaaDoor

/- Written by program (gen.py): the model of saucier/units.Known, and the proof that its code computes it. -/
namespace SxYtihfogahdofdmaaDoor
open Go Go.RowKit Sx Go.Proofs
set_option linter.unusedVariables false
set_option linter.unusedSimpArgs false
attribute [local irreducible] WL WX CW OW
/-! ### 10: "saucier/units.Known" -/
def m10 (fuel : Nat) (p0_0 : (List UInt8)) : Option (TUnit × Bool) :=
  (m33 fuel ).bind fun r_1 => (some ((mget r_1 p0_0).getD (⟨[], 0, 0⟩ : TUnit))).bind fun x_1 => (some (mget r_1 p0_0).isSome).bind fun b_1 => some (x_1, b_1)
@[reducible] def Q10 (F : Lx) (w0 : World) (r : (TUnit × Bool)) (v : Value) (w' : World) : Prop := v = .tuple #[.agg #[.string ⟨⟨r.1.Base⟩⟩, .int .i64 r.1.Num, .int .i64 r.1.Den], .bool r.2] ∧ Below w0.heap.size w0 w'
set_option maxRecDepth 100000 in
set_option maxHeartbeats 4000000 in
theorem f10_ok (fuel : Nat) (F : Lx) (w0 : World) (hF : ∀ k, some k ∈ F → k < w0.heap.size) {p0_0 : (List UInt8)} {r : (TUnit × Bool)} (hm : m10 fuel p0_0 = some r) :
    Calls Tryd.prog 10 #[.string ⟨⟨p0_0⟩⟩] w0 (fun e w' => ∃ v, e = .returned v ∧ Q10 F w0 r v w') := by
  have hPF : PF (bodyPost Tryd.prog Tryd.f10 (fun e w' => ∃ v, e = .returned v ∧ Q10 F w0 r v w')) := PF.body (fun c w h => by obtain ⟨v, e, _⟩ := h; cases e)
  have hL := LOk.start hF
  have hB := Below.refl w0.heap.size w0
  unfold m10 at hm
  refine enter (l := [.string ⟨⟨p0_0⟩⟩, undef, undef, undef, undef, undef, undef, undef, undef, undef, undef, undef, undef, undef]) Tryd.func10 rfl Tryd.ntmps10 (by kernel_rfl) ?_
  refine cw_seq ?_
  refine cw_region ?_
  refine wl_op (by kernel_rfl) (ow_alloc' (z := .agg #[.string ⟨⟨[]⟩⟩, .int .i64 0, .int .i64 0]) (vs := [.string ⟨⟨[]⟩⟩, .int .i64 0, .int .i64 0]) (by kernel_rfl) rfl hL ?_)
  intro g_1 w_1 hS h_1
  replace hB := hS.below hL hB
  replace hL := hS.hL
  refine wl_val (v := .bool false) (w' := w_1) (by kernel_rfl) (run_assign (v := .bool false) (by kernel_rfl)) ?_
  refine wl_nil ?_
  refine then_n ?_
  refine cw_seq ?_
  refine cw_region ?_
  obtain ⟨r_1, h_2, hm⟩ := bind_e hm
  refine wl_op (by kernel_rfl) (ow_enter (run_callf (vs := []) Tryd.func33 nm_33 (by kernel_rfl) (by kernel_rfl)) (f33_ok fuel _ w_1 hL.lt  h_2) ?_)
  intro vR w_2 hR
  obtain ⟨g_2, rfl, hBe, h_3, h_4, h_5⟩ := hR
  have hS : Stp w0.heap.size _ [some g_2, some g_1] F [] w_1 w_2 := Stp.newmap hL (Fz.of_below hBe _) h_4 h_5
  replace h_1 := hS.box h_1 nilN
  replace hB := hS.below hL hB
  replace hL := hS.hL
  refine wl_val (v := .string ⟨⟨p0_0⟩⟩) (w' := w_2) (by kernel_rfl) (run_move (v := .string ⟨⟨p0_0⟩⟩) (by kernel_rfl)) ?_
  obtain ⟨x_1, h_6, hm⟩ := bind_e hm
  obtain ⟨b_1, h_7, hm⟩ := bind_e hm
  refine wl_val (v := .tuple #[.agg #[.string ⟨⟨x_1.Base⟩⟩, .int .i64 x_1.Num, .int .i64 x_1.Den], .bool b_1]) (w' := w_2) (by kernel_rfl) (by rw [← Option.some.inj h_6, ← Option.some.inj h_7]; exact run_look kp_51 Tryd.underlying51 (z := (⟨[], 0, 0⟩ : TUnit)) (by kernel_rfl) (k := p0_0) (by kernel_rfl) (by kernel_rfl) h_3 true) ?_
  refine wl_val (v := .tuple #[.agg #[.string ⟨⟨x_1.Base⟩⟩, .int .i64 x_1.Num, .int .i64 x_1.Den], .bool b_1]) (w' := w_2) (by kernel_rfl) (run_move (v := .tuple #[.agg #[.string ⟨⟨x_1.Base⟩⟩, .int .i64 x_1.Num, .int .i64 x_1.Den], .bool b_1]) (by kernel_rfl)) ?_
  refine wl_val (v := .agg #[.string ⟨⟨x_1.Base⟩⟩, .int .i64 x_1.Num, .int .i64 x_1.Den]) (w' := w_2) (by kernel_rfl) (run_extract (vs := #[.agg #[.string ⟨⟨x_1.Base⟩⟩, .int .i64 x_1.Num, .int .i64 x_1.Den], .bool b_1]) (by kernel_rfl) (by kernel_rfl)) ?_
  refine wl_val (v := .bool b_1) (w' := w_2) (by kernel_rfl) (run_extract (vs := #[.agg #[.string ⟨⟨x_1.Base⟩⟩, .int .i64 x_1.Num, .int .i64 x_1.Den], .bool b_1]) (by kernel_rfl) (by kernel_rfl)) ?_
  refine wl_op (by kernel_rfl) (ow_alloc' (z := .agg #[.string ⟨⟨[]⟩⟩, .int .i64 0, .int .i64 0]) (vs := [.string ⟨⟨[]⟩⟩, .int .i64 0, .int .i64 0]) (by kernel_rfl) rfl hL ?_)
  intro g_3 w_3 hS h_8
  replace h_1 := hS.box h_1 nilN
  replace h_3 := hS.map h_3 nilN
  replace hB := hS.below hL hB
  replace hL := hS.hL
  refine wl_op (by kernel_rfl) (ow_store_box' (g := g_3) (j := 0) (v := .agg #[.string ⟨⟨x_1.Base⟩⟩, .int .i64 x_1.Num, .int .i64 x_1.Den]) (vs := [.string ⟨⟨x_1.Base⟩⟩, .int .i64 x_1.Num, .int .i64 x_1.Den]) (cs' := [.string ⟨⟨x_1.Base⟩⟩, .int .i64 x_1.Num, .int .i64 x_1.Den]) sz_28 (by kernel_rfl) (by kernel_rfl) rfl rfl rfl hL h_8 rfl (by simp) rfl ?_)
  intro w_4 hS h_9
  replace h_1 := hS.box h_1 (hL.apart 2 0 rfl rfl (by decide) _ rfl)
  replace h_3 := hS.map h_3 (hL.apart 1 0 rfl rfl (by decide) _ rfl)
  replace hB := hS.below hL hB
  replace hL := hS.hL
  refine wl_val (v := .bool b_1) (w' := w_4) (by kernel_rfl) (run_assign (v := .bool b_1) (by kernel_rfl)) ?_
  refine wl_nil ?_
  refine then_n ?_
  refine cw_seq ?_
  refine cw_region ?_
  refine wl_val (v := .agg #[.string ⟨⟨x_1.Base⟩⟩, .int .i64 x_1.Num, .int .i64 x_1.Den]) (w' := w_4) (by kernel_rfl) (run_load_boxn (j := 0) (vs := [.string ⟨⟨x_1.Base⟩⟩, .int .i64 x_1.Num, .int .i64 x_1.Den]) Tryd.underlying28 rfl sz_28 (by kernel_rfl) h_9 (by kernel_rfl) rfl) ?_
  refine wl_val (v := .bool b_1) (w' := w_4) (by kernel_rfl) (run_move (v := .bool b_1) (by kernel_rfl)) ?_
  refine wl_op (by kernel_rfl) (ow_store_box' (g := g_1) (j := 0) (v := .agg #[.string ⟨⟨x_1.Base⟩⟩, .int .i64 x_1.Num, .int .i64 x_1.Den]) (vs := [.string ⟨⟨x_1.Base⟩⟩, .int .i64 x_1.Num, .int .i64 x_1.Den]) (cs' := [.string ⟨⟨x_1.Base⟩⟩, .int .i64 x_1.Num, .int .i64 x_1.Den]) sz_28 (by kernel_rfl) (by kernel_rfl) rfl rfl rfl hL h_1 rfl (by simp) rfl ?_)
  intro w_5 hS h_10
  replace h_9 := hS.box h_9 (hL.apart 0 2 rfl rfl (by decide) _ rfl)
  replace h_3 := hS.map h_3 (hL.apart 1 2 rfl rfl (by decide) _ rfl)
  replace hB := hS.below hL hB
  replace hL := hS.hL
  refine wl_val (v := .bool b_1) (w' := w_5) (by kernel_rfl) (run_assign (v := .bool b_1) (by kernel_rfl)) ?_
  refine wl_nil ?_
  refine then_n ?_
  refine cw_ret ?_
  have hl0 := loadVar_boxn (P := Tryd.prog) (j := 0) (vs := [.string ⟨⟨x_1.Base⟩⟩, .int .i64 x_1.Num, .int .i64 x_1.Den]) Tryd.underlying28 rfl sz_28 h_10 (by kernel_rfl) rfl
  have hS : Stp w0.heap.size _ [] F [] w_5 _ := Stp.pick hL [] rfl (by decide)
  replace hB := hS.below hL hB
  replace hL := hS.hL
  obtain rfl := Option.some.inj hm
  exact ret2 (v := .agg #[.string ⟨⟨x_1.Base⟩⟩, .int .i64 x_1.Num, .int .i64 x_1.Den]) (v' := .bool b_1) rfl (resv_cell (ad := ⟨g_1, 0, none⟩) (by kernel_rfl) hl0) (resv_tmp (by kernel_rfl)) ⟨_, rfl, by kernel_rfl, hB⟩
end SxYtihfogahdofdmaaDoor

/- Written by program (gen.py): the model of saucier/saucierlaw12.UnitsWays, and the proof that its code computes it. -/
namespace SxYtihfogahdofdmaaDoor
open Go Go.RowKit Sx Go.Proofs
set_option linter.unusedVariables false
set_option linter.unusedSimpArgs false
attribute [local irreducible] WL WX CW OW
/-! ### 3: "saucier/saucierlaw12.UnitsWays" -/
def m3_J6 (fuel : Nat) (x_10 : Bool) : Option Bool :=
  some x_10
def m3_J5 (fuel : Nat) (p4_0 : (List UInt8)) (r_10 : (TUnit × Bool)) : Option Bool :=
  if (gt (p4_0.length : Int) 10) then (m3_J6 fuel  true) else (if r_10.2 then (m3_J6 fuel  false) else ((m12 fuel ).bind fun r_15 => m3_J6 fuel  r_15))
def m3_J8 (fuel : Nat) (x_14 : Bool) : Option Bool :=
  some x_14
def m3_L7 (fuel : Nat) (p4_0 : (List UInt8)) (r_1 : (List (List UInt8))) (r_10 : (TUnit × Bool)) (self_1 : Int → Option Bool) (x_12 : Int) : Option Bool :=
  if (lt x_12 (r_1.length : Int)) then ((at? r_1 x_12).bind fun e_12 => if (eqs e_12 p4_0) then (if r_10.2 then ((m12 fuel ).bind fun r_19 => m3_J8 fuel  r_19) else (m3_J8 fuel  false)) else (self_1 (add .i64 x_12 1))) else (m3_J5 fuel p4_0 r_10 )
def m3_J4 (fuel : Nat) (p4_0 : (List UInt8)) (r_1 : (List (List UInt8))) : Option Bool :=
  (m10 fuel p4_0).bind fun r_10 => loopF (m3_L7 fuel p4_0 r_1 r_10) fuel 0
def m3_J10 (fuel : Nat) (p4_0 : (List UInt8)) (r_1 : (List (List UInt8))) (x_16 : Bool) : Option Bool :=
  if x_16 then (some false) else (m3_J4 fuel p4_0 r_1 )
def m3_J9 (fuel : Nat) (p4_0 : (List UInt8)) (r_1 : (List (List UInt8))) (e_4 : (List UInt8)) (e_5 : (List UInt8)) (e_6 : (List UInt8)) (r_2 : TDec) (r_6 : (TDec × Bool)) (x_15 : Bool) : Option Bool :=
  if x_15 then (some false) else ((m11 fuel r_6.1 e_5 e_6).bind fun r_21 => if r_21.2 then ((m11 fuel r_2 e_4 e_6).bind fun r_22 => if r_22.2 then ((some (!((eqi r_22.1.N r_21.1.N) && ((eqi r_22.1.D r_21.1.D) && true)))).bind fun c_7 => m3_J10 fuel p4_0 r_1 c_7) else (m3_J10 fuel p4_0 r_1 true)) else (m3_J4 fuel p4_0 r_1 ))
def m3_J3 (fuel : Nat) (p4_0 : (List UInt8)) (r_1 : (List (List UInt8))) (e_4 : (List UInt8)) (e_5 : (List UInt8)) (e_6 : (List UInt8)) (r_2 : TDec) (r_6 : (TDec × Bool)) (x_3 : Bool) : Option Bool :=
  if x_3 then (some false) else (if r_6.2 then ((m11 fuel r_6.1 e_5 e_4).bind fun r_20 => if r_20.2 then ((some (!((eqi r_20.1.N r_2.N) && ((eqi r_20.1.D r_2.D) && true)))).bind fun c_8 => m3_J9 fuel p4_0 r_1 e_4 e_5 e_6 r_2 r_6 c_8) else (m3_J9 fuel p4_0 r_1 e_4 e_5 e_6 r_2 r_6 true)) else (m3_J4 fuel p4_0 r_1 ))
def m3_J2 (fuel : Nat) (p4_0 : (List UInt8)) (r_1 : (List (List UInt8))) (e_4 : (List UInt8)) (e_5 : (List UInt8)) (e_6 : (List UInt8)) (r_2 : TDec) (r_3 : (TUnit × Bool)) (r_4 : (TUnit × Bool)) (x_2 : Bool) : Option Bool :=
  if x_2 then (some false) else ((m11 fuel r_2 e_4 e_5).bind fun r_6 => if r_6.2 then (m3_J3 fuel p4_0 r_1 e_4 e_5 e_6 r_2 r_6 (nes r_3.1.Base r_4.1.Base)) else (m3_J3 fuel p4_0 r_1 e_4 e_5 e_6 r_2 r_6 false))
def m3_J1 (fuel : Nat) (p4_0 : (List UInt8)) (r_1 : (List (List UInt8))) (e_4 : (List UInt8)) (e_5 : (List UInt8)) (e_6 : (List UInt8)) (r_2 : TDec) (r_3 : (TUnit × Bool)) (r_4 : (TUnit × Bool)) (x_1 : Bool) : Option Bool :=
  if x_1 then (some false) else ((m11 fuel r_2 e_4 e_4).bind fun r_5 => if r_5.2 then ((some (!((eqi r_5.1.N r_2.N) && ((eqi r_5.1.D r_2.D) && true)))).bind fun c_9 => m3_J2 fuel p4_0 r_1 e_4 e_5 e_6 r_2 r_3 r_4 c_9) else (m3_J2 fuel p4_0 r_1 e_4 e_5 e_6 r_2 r_3 r_4 true))
def m3 (fuel : Nat) (p0_0 : TDec) (p1_0 : Int) (p2_0 : Int) (p3_0 : Int) (p4_0 : (List UInt8)) : Option Bool :=
  (m8 fuel ).bind fun r_1 => need (nei (r_1.length : Int) 0) ((at? r_1 (rem (cvt .i64 p1_0) (r_1.length : Int))).bind fun e_4 => need (nei (r_1.length : Int) 0) ((at? r_1 (rem (cvt .i64 p2_0) (r_1.length : Int))).bind fun e_5 => need (nei (r_1.length : Int) 0) ((at? r_1 (rem (cvt .i64 p3_0) (r_1.length : Int))).bind fun e_6 => (m9 fuel p0_0).bind fun r_2 => (m10 fuel e_4).bind fun r_3 => (m10 fuel e_5).bind fun r_4 => if r_3.2 then (if r_4.2 then (if (lt r_3.1.Num 1) then (m3_J1 fuel p4_0 r_1 e_4 e_5 e_6 r_2 r_3 r_4 true) else (m3_J1 fuel p4_0 r_1 e_4 e_5 e_6 r_2 r_3 r_4 (lt r_3.1.Den 1))) else (m3_J1 fuel p4_0 r_1 e_4 e_5 e_6 r_2 r_3 r_4 true)) else (m3_J1 fuel p4_0 r_1 e_4 e_5 e_6 r_2 r_3 r_4 true))))
@[reducible] def Q3 (F : Lx) (w0 : World) (r : Bool) (v : Value) (w' : World) : Prop := v = .bool r ∧ Below w0.heap.size w0 w'
set_option maxRecDepth 100000 in
set_option maxHeartbeats 4000000 in
theorem f3_ok (fuel : Nat) (F : Lx) (w0 : World) (hF : ∀ k, some k ∈ F → k < w0.heap.size) {p0_0 : TDec} {p1_0 : Int} {p2_0 : Int} {p3_0 : Int} {p4_0 : (List UInt8)} {r : Bool} (hm : m3 fuel p0_0 p1_0 p2_0 p3_0 p4_0 = some r) :
    Calls Tryd.prog 3 #[.agg #[.int .i64 p0_0.N, .int .u8 p0_0.D], .int .u8 p1_0, .int .u8 p2_0, .int .u8 p3_0, .string ⟨⟨p4_0⟩⟩] w0 (fun e w' => ∃ v, e = .returned v ∧ Q3 F w0 r v w') := by
  have hPF : PF (bodyPost Tryd.prog Tryd.f3 (fun e w' => ∃ v, e = .returned v ∧ Q3 F w0 r v w')) := PF.body (fun c w h => by obtain ⟨v, e, _⟩ := h; cases e)
  have hL := LOk.start hF
  have hB := Below.refl w0.heap.size w0
  unfold m3 at hm
  refine enter (l := [.agg #[.int .i64 p0_0.N, .int .u8 p0_0.D], .int .u8 p1_0, .int .u8 p2_0, .int .u8 p3_0, .string ⟨⟨p4_0⟩⟩, undef, undef, undef, undef, undef, undef, undef, undef, undef, undef, undef, undef, undef, undef, undef, undef, undef, undef, undef, undef, undef, undef, undef, undef, undef, undef, undef, undef, undef, undef, undef, undef, undef, undef, undef, undef, undef, undef, undef, undef, undef, undef, undef, undef, undef, undef, undef, undef, undef, undef, undef, undef, undef, undef, undef, undef, undef, undef, undef, undef, undef, undef, undef, undef, undef, undef, undef, undef, undef, undef, undef, undef, undef, undef, undef, undef, undef, undef, undef, undef, undef, undef, undef, undef, undef, undef, undef, undef, undef, undef, undef, undef, undef, undef, undef, undef, undef, undef, undef, undef, undef, undef, undef, undef, undef, undef, undef, undef, undef, undef, undef, undef, undef, undef, undef, undef, undef, undef, undef, undef, undef, undef, undef, undef, undef, undef, undef, undef, undef, undef, undef, undef, undef, undef, undef, undef, undef, undef, undef, undef, undef, undef, undef, undef, undef, undef, undef, undef, undef, undef, undef, undef, undef, undef, undef, undef, undef, undef, undef, undef, undef, undef, undef, undef, undef, undef, undef, undef, undef, undef, undef, undef, undef, undef, undef, undef]) Tryd.func3 rfl Tryd.ntmps3 (by kernel_rfl) ?_
  refine cw_seq ?_
  refine cw_region ?_
  refine wl_op (by kernel_rfl) (ow_box' (v := .agg #[.int .i64 p0_0.N, .int .u8 p0_0.D]) (vs := [.int .i64 p0_0.N, .int .u8 p0_0.D]) (by kernel_rfl) rfl hL ?_)
  intro g_1 w_1 hS h_1
  replace hB := hS.below hL hB
  replace hL := hS.hL
  refine wl_val (v := .bool false) (w' := w_1) (by kernel_rfl) (run_assign (v := .bool false) (by kernel_rfl)) ?_
  refine wl_nil ?_
  refine then_n ?_
  refine cw_seq ?_
  refine cw_region ?_
  obtain ⟨r_1, h_2, hm⟩ := bind_e hm
  refine wl_op (by kernel_rfl) (ow_enter (run_callf (vs := []) Tryd.func8 nm_8 (by kernel_rfl) (by kernel_rfl)) (f8_ok fuel _ w_1 hL.lt  h_2) ?_)
  intro vR w_2 hR
  obtain ⟨a_1, n_1, c_1, rfl, hBe, h_3, h_4⟩ := hR
  have hS : Stp w0.heap.size _ [blk a_1, some g_1] F [] w_1 w_2 := Stp.row hL (Fz.of_below hBe _) h_4
  replace h_1 := hS.box h_1 nilN
  replace hB := hS.below hL hB
  replace hL := hS.hL
  refine wl_val (v := .slice a_1 n_1 c_1) (w' := w_2) (by kernel_rfl) (run_assign (v := .slice a_1 n_1 c_1) (by kernel_rfl)) ?_
  refine wl_nil ?_
  refine then_n ?_
  refine cw_seq ?_
  refine cw_region_draw [(0, true), (1, true), (2, true), (3, true), (4, true), (5, true), (6, true), (7, true), (8, true), (9, true), (10, true), (11, true), (12, true), (13, true), (14, true), (15, true), (16, true), (17, true), (18, true), (19, true), (20, true), (21, true), (22, true), (23, true), (24, true), (25, true), (26, true)] (fun x => Fz [] w_2 x) rfl (by kernel_rfl) (PF.then hPF) (Fz.drew _ _) ?_
  have hZ : Fz [] w_2 w_2.drew := Fz.drew _ _
  have hS0 : Stp w0.heap.size [blk a_1, some g_1] [blk a_1, some g_1] F [] w_2 w_2.drew := Stp.call hL (Fz.drew _ _)
  generalize w_2.drew = w_3 at hS0 hZ ⊢
  refine wx_take (v := .slice a_1 n_1 c_1) (by kernel_rfl) (fun w' hS => run_move (v := .slice a_1 n_1 c_1) (by kernel_rfl)) ?_
  refine wx_take (v := .int .u8 p1_0) (by kernel_rfl) (fun w' hS => run_move (v := .int .u8 p1_0) (by kernel_rfl)) ?_
  refine wx_take (v := .int .i64 (cvt .i64 p1_0)) (by kernel_rfl) (fun w' hS => run_cvt (k := .u8) (a := p1_0) Tryd.underlying5 Tryd.underlying3 (by kernel_rfl)) ?_
  refine wx_take (v := .slice a_1 n_1 c_1) (by kernel_rfl) (fun w' hS => run_move (v := .slice a_1 n_1 c_1) (by kernel_rfl)) ?_
  refine wx_take (v := .int .i64 (r_1.length : Int)) (by kernel_rfl) (fun w' hS => run_len_sl (a := a_1) (n := n_1) (c := c_1) (N := r_1.length) Tryd.underlying24 (by kernel_rfl) h_3.len) ?_
  obtain ⟨h_29, hm⟩ := need_e hm
  refine wx_take (v := .int .i64 (rem (cvt .i64 p1_0) (r_1.length : Int))) (by kernel_rfl) (fun w' hS => run_rem (k := .i64) (a := (cvt .i64 p1_0)) (b := (r_1.length : Int)) (by kernel_rfl) (by kernel_rfl) (by simpa [nei] using h_29)) ?_
  obtain ⟨e_4, h_30, hm⟩ := bind_e hm
  obtain ⟨h_310, h_311, h_312⟩ := at_some h_30
  have h_34 : Stp w0.heap.size _ [some g_1] F [] _ _ := Stp.pick hL [1] rfl (by decide)
  obtain ⟨b_4, h_32, h_33⟩ := own_el h_3 h_34.hs (hL.out 0 rfl [1] rfl rfl) h_311
  refine wx_take (v := .pointer (some ⟨b_4, 0 + (rem (cvt .i64 p1_0) (r_1.length : Int)).toNat * 1, none⟩)) (by kernel_rfl) (fun w' hS => run_indexAddr' (n := n_1) (c := c_1) (k := .i64) (j := (rem (cvt .i64 p1_0) (r_1.length : Int))) Tryd.underlying24 sz_9 (by kernel_rfl) h_32 (by kernel_rfl) h_310 (by rw [h_3.len]; exact h_312)) ?_
  obtain ⟨cs_4, h_35, h_36⟩ := El.load ty_9 h_33
  obtain rfl := str_open h_35
  refine wx_take (v := .string ⟨⟨e_4⟩⟩) (by kernel_rfl) (fun w' hS => run_load' (by kernel_rfl) (h_36 _ _ hS nilM)) ?_
  refine wx_take (v := .slice a_1 n_1 c_1) (by kernel_rfl) (fun w' hS => run_move (v := .slice a_1 n_1 c_1) (by kernel_rfl)) ?_
  refine wx_take (v := .int .u8 p2_0) (by kernel_rfl) (fun w' hS => run_move (v := .int .u8 p2_0) (by kernel_rfl)) ?_
  refine wx_take (v := .int .i64 (cvt .i64 p2_0)) (by kernel_rfl) (fun w' hS => run_cvt (k := .u8) (a := p2_0) Tryd.underlying5 Tryd.underlying3 (by kernel_rfl)) ?_
  refine wx_take (v := .slice a_1 n_1 c_1) (by kernel_rfl) (fun w' hS => run_move (v := .slice a_1 n_1 c_1) (by kernel_rfl)) ?_
  refine wx_norm [.agg #[.int .i64 p0_0.N, .int .u8 p0_0.D], .int .u8 p1_0, .int .u8 p2_0, .int .u8 p3_0, .string ⟨⟨p4_0⟩⟩, .pointer (some ⟨g_1, 0, none⟩), undef, undef, undef, undef, .bool false, .slice a_1 n_1 c_1, undef, undef, undef, undef, undef, undef, undef, undef, undef, undef, undef, undef, undef, undef, undef, undef, undef, undef, undef, undef, undef, .slice a_1 n_1 c_1, .slice a_1 n_1 c_1, .int .u8 p1_0, .int .i64 (cvt .i64 p1_0), .slice a_1 n_1 c_1, .int .i64 (r_1.length : Int), .int .i64 (rem (cvt .i64 p1_0) (r_1.length : Int)), .pointer (some ⟨b_4, 0 + (rem (cvt .i64 p1_0) (r_1.length : Int)).toNat * 1, none⟩), .string ⟨⟨e_4⟩⟩, .slice a_1 n_1 c_1, .int .u8 p2_0, .int .i64 (cvt .i64 p2_0), .slice a_1 n_1 c_1, undef, undef, undef, undef, undef, undef, undef, undef, undef, undef, undef, undef, undef, undef, undef, undef, undef, undef, undef, undef, undef, undef, undef, undef, undef, undef, undef, undef, undef, undef, undef, undef, undef, undef, undef, undef, undef, undef, undef, undef, undef, undef, undef, undef, undef, undef, undef, undef, undef, undef, undef, undef, undef, undef, undef, undef, undef, undef, undef, undef, undef, undef, undef, undef, undef, undef, undef, undef, undef, undef, undef, undef, undef, undef, undef, undef, undef, undef, undef, undef, undef, undef, undef, undef, undef, undef, undef, undef, undef, undef, undef, undef, undef, undef, undef, undef, undef, undef, undef, undef, undef, undef, undef, undef, undef, undef, undef, undef, undef, undef, undef, undef, undef, undef, undef, undef, undef, undef, undef, undef, undef, undef, undef, undef, undef, undef, undef, undef, undef, undef, undef, undef, undef, undef, undef] (by kernel_rfl) ?_
  refine wx_take (v := .int .i64 (r_1.length : Int)) (by kernel_rfl) (fun w' hS => run_len_sl (a := a_1) (n := n_1) (c := c_1) (N := r_1.length) Tryd.underlying24 (by kernel_rfl) h_3.len) ?_
  obtain ⟨h_37, hm⟩ := need_e hm
  refine wx_take (v := .int .i64 (rem (cvt .i64 p2_0) (r_1.length : Int))) (by kernel_rfl) (fun w' hS => run_rem (k := .i64) (a := (cvt .i64 p2_0)) (b := (r_1.length : Int)) (by kernel_rfl) (by kernel_rfl) (by simpa [nei] using h_37)) ?_
  obtain ⟨e_5, h_38, hm⟩ := bind_e hm
  obtain ⟨h_390, h_391, h_392⟩ := at_some h_38
  have h_42 : Stp w0.heap.size _ [some g_1] F [] _ _ := Stp.pick hL [1] rfl (by decide)
  obtain ⟨b_5, h_40, h_41⟩ := own_el h_3 h_42.hs (hL.out 0 rfl [1] rfl rfl) h_391
  refine wx_take (v := .pointer (some ⟨b_5, 0 + (rem (cvt .i64 p2_0) (r_1.length : Int)).toNat * 1, none⟩)) (by kernel_rfl) (fun w' hS => run_indexAddr' (n := n_1) (c := c_1) (k := .i64) (j := (rem (cvt .i64 p2_0) (r_1.length : Int))) Tryd.underlying24 sz_9 (by kernel_rfl) h_40 (by kernel_rfl) h_390 (by rw [h_3.len]; exact h_392)) ?_
  obtain ⟨cs_5, h_43, h_44⟩ := El.load ty_9 h_41
  obtain rfl := str_open h_43
  refine wx_take (v := .string ⟨⟨e_5⟩⟩) (by kernel_rfl) (fun w' hS => run_load' (by kernel_rfl) (h_44 _ _ hS nilM)) ?_
  refine wx_take (v := .slice a_1 n_1 c_1) (by kernel_rfl) (fun w' hS => run_move (v := .slice a_1 n_1 c_1) (by kernel_rfl)) ?_
  refine wx_take (v := .int .u8 p3_0) (by kernel_rfl) (fun w' hS => run_move (v := .int .u8 p3_0) (by kernel_rfl)) ?_
  refine wx_take (v := .int .i64 (cvt .i64 p3_0)) (by kernel_rfl) (fun w' hS => run_cvt (k := .u8) (a := p3_0) Tryd.underlying5 Tryd.underlying3 (by kernel_rfl)) ?_
  refine wx_take (v := .slice a_1 n_1 c_1) (by kernel_rfl) (fun w' hS => run_move (v := .slice a_1 n_1 c_1) (by kernel_rfl)) ?_
  refine wx_take (v := .int .i64 (r_1.length : Int)) (by kernel_rfl) (fun w' hS => run_len_sl (a := a_1) (n := n_1) (c := c_1) (N := r_1.length) Tryd.underlying24 (by kernel_rfl) h_3.len) ?_
  obtain ⟨h_45, hm⟩ := need_e hm
  refine wx_take (v := .int .i64 (rem (cvt .i64 p3_0) (r_1.length : Int))) (by kernel_rfl) (fun w' hS => run_rem (k := .i64) (a := (cvt .i64 p3_0)) (b := (r_1.length : Int)) (by kernel_rfl) (by kernel_rfl) (by simpa [nei] using h_45)) ?_
  obtain ⟨e_6, h_46, hm⟩ := bind_e hm
  obtain ⟨h_470, h_471, h_472⟩ := at_some h_46
  have h_50 : Stp w0.heap.size _ [some g_1] F [] _ _ := Stp.pick hL [1] rfl (by decide)
  obtain ⟨b_6, h_48, h_49⟩ := own_el h_3 h_50.hs (hL.out 0 rfl [1] rfl rfl) h_471
  refine wx_take (v := .pointer (some ⟨b_6, 0 + (rem (cvt .i64 p3_0) (r_1.length : Int)).toNat * 1, none⟩)) (by kernel_rfl) (fun w' hS => run_indexAddr' (n := n_1) (c := c_1) (k := .i64) (j := (rem (cvt .i64 p3_0) (r_1.length : Int))) Tryd.underlying24 sz_9 (by kernel_rfl) h_48 (by kernel_rfl) h_470 (by rw [h_3.len]; exact h_472)) ?_
  obtain ⟨cs_6, h_51, h_52⟩ := El.load ty_9 h_49
  obtain rfl := str_open h_51
  refine wx_take (v := .string ⟨⟨e_6⟩⟩) (by kernel_rfl) (fun w' hS => run_load' (by kernel_rfl) (h_52 _ _ hS nilM)) ?_
  refine wx_take (v := .string ⟨⟨e_4⟩⟩) (by kernel_rfl) (fun w' hS => run_assign (v := .string ⟨⟨e_4⟩⟩) (by kernel_rfl)) ?_
  refine wx_take (v := .string ⟨⟨e_5⟩⟩) (by kernel_rfl) (fun w' hS => run_assign (v := .string ⟨⟨e_5⟩⟩) (by kernel_rfl)) ?_
  refine wx_norm [.agg #[.int .i64 p0_0.N, .int .u8 p0_0.D], .int .u8 p1_0, .int .u8 p2_0, .int .u8 p3_0, .string ⟨⟨p4_0⟩⟩, .pointer (some ⟨g_1, 0, none⟩), undef, undef, undef, undef, .bool false, .slice a_1 n_1 c_1, .string ⟨⟨e_4⟩⟩, .string ⟨⟨e_5⟩⟩, undef, undef, undef, undef, undef, undef, undef, undef, undef, undef, undef, undef, undef, undef, undef, undef, undef, undef, undef, .slice a_1 n_1 c_1, .slice a_1 n_1 c_1, .int .u8 p1_0, .int .i64 (cvt .i64 p1_0), .slice a_1 n_1 c_1, .int .i64 (r_1.length : Int), .int .i64 (rem (cvt .i64 p1_0) (r_1.length : Int)), .pointer (some ⟨b_4, 0 + (rem (cvt .i64 p1_0) (r_1.length : Int)).toNat * 1, none⟩), .string ⟨⟨e_4⟩⟩, .slice a_1 n_1 c_1, .int .u8 p2_0, .int .i64 (cvt .i64 p2_0), .slice a_1 n_1 c_1, .int .i64 (r_1.length : Int), .int .i64 (rem (cvt .i64 p2_0) (r_1.length : Int)), .pointer (some ⟨b_5, 0 + (rem (cvt .i64 p2_0) (r_1.length : Int)).toNat * 1, none⟩), .string ⟨⟨e_5⟩⟩, .slice a_1 n_1 c_1, .int .u8 p3_0, .int .i64 (cvt .i64 p3_0), .slice a_1 n_1 c_1, .int .i64 (r_1.length : Int), .int .i64 (rem (cvt .i64 p3_0) (r_1.length : Int)), .pointer (some ⟨b_6, 0 + (rem (cvt .i64 p3_0) (r_1.length : Int)).toNat * 1, none⟩), .string ⟨⟨e_6⟩⟩, undef, undef, undef, undef, undef, undef, undef, undef, undef, undef, undef, undef, undef, undef, undef, undef, undef, undef, undef, undef, undef, undef, undef, undef, undef, undef, undef, undef, undef, undef, undef, undef, undef, undef, undef, undef, undef, undef, undef, undef, undef, undef, undef, undef, undef, undef, undef, undef, undef, undef, undef, undef, undef, undef, undef, undef, undef, undef, undef, undef, undef, undef, undef, undef, undef, undef, undef, undef, undef, undef, undef, undef, undef, undef, undef, undef, undef, undef, undef, undef, undef, undef, undef, undef, undef, undef, undef, undef, undef, undef, undef, undef, undef, undef, undef, undef, undef, undef, undef, undef, undef, undef, undef, undef, undef, undef, undef, undef, undef, undef, undef, undef, undef, undef, undef, undef, undef, undef, undef, undef, undef, undef, undef] (by kernel_rfl) ?_
  refine wx_take (v := .string ⟨⟨e_6⟩⟩) (by kernel_rfl) (fun w' hS => run_assign (v := .string ⟨⟨e_6⟩⟩) (by kernel_rfl)) ?_
  refine wx_nil ?_
  replace h_3 := hS0.ow h_3 nilB
  replace h_1 := hS0.box h_1 nilN
  replace hB := hS0.below hL hB
  replace hL := hS0.hL
  refine then_n ?_
  refine cw_seq ?_
  refine cw_region ?_
  refine wl_val (v := .agg #[.int .i64 p0_0.N, .int .u8 p0_0.D]) (w' := w_3) (by kernel_rfl) (run_load_boxn (j := 0) (vs := [.int .i64 p0_0.N, .int .u8 p0_0.D]) Tryd.underlying23 rfl sz_23 (by kernel_rfl) h_1 (by kernel_rfl) rfl) ?_
  obtain ⟨r_2, h_53, hm⟩ := bind_e hm
  refine wl_op (by kernel_rfl) (ow_enter (run_callf (vs := [.agg #[.int .i64 p0_0.N, .int .u8 p0_0.D]]) Tryd.func9 nm_9 (by kernel_rfl) (by kernel_rfl)) (f9_ok (p0_0 := p0_0) fuel _ w_3 hL.lt  h_53) ?_)
  intro vR w_4 hR
  obtain ⟨rfl, hBe⟩ := hR
  have hS := Stp.call hL (Fz.of_below hBe [])
  replace h_3 := hS.ow h_3 nilB
  replace h_1 := hS.box h_1 nilN
  replace hB := hS.below hL hB
  replace hL := hS.hL
  refine wl_op (by kernel_rfl) (ow_store_box' (g := g_1) (j := 0) (v := .agg #[.int .i64 r_2.N, .int .u8 r_2.D]) (vs := [.int .i64 r_2.N, .int .u8 r_2.D]) (cs' := [.int .i64 r_2.N, .int .u8 r_2.D]) sz_23 (by kernel_rfl) (by kernel_rfl) rfl rfl rfl hL h_1 rfl (by simp) rfl ?_)
  intro w_5 hS h_54
  replace h_3 := hS.ow h_3 (hL.apart 0 1 rfl rfl (by decide))
  replace hB := hS.below hL hB
  replace hL := hS.hL
  refine wl_nil ?_
  refine then_n ?_
  refine cw_seq ?_
  refine cw_region ?_
  refine wl_val (v := .string ⟨⟨e_4⟩⟩) (w' := w_5) (by kernel_rfl) (run_move (v := .string ⟨⟨e_4⟩⟩) (by kernel_rfl)) ?_
  obtain ⟨r_3, h_55, hm⟩ := bind_e hm
  refine wl_op (by kernel_rfl) (ow_enter (run_callf (vs := [.string ⟨⟨e_4⟩⟩]) Tryd.func10 nm_10 (by kernel_rfl) (by kernel_rfl)) (f10_ok (p0_0 := e_4) fuel _ w_5 hL.lt  h_55) ?_)
  intro vR w_6 hR
  obtain ⟨rfl, hBe⟩ := hR
  have hS := Stp.call hL (Fz.of_below hBe [])
  replace h_3 := hS.ow h_3 nilB
  replace h_54 := hS.box h_54 nilN
  replace hB := hS.below hL hB
  replace hL := hS.hL
  refine wl_val (v := .tuple #[.agg #[.string ⟨⟨r_3.1.Base⟩⟩, .int .i64 r_3.1.Num, .int .i64 r_3.1.Den], .bool r_3.2]) (w' := w_6) (by kernel_rfl) (run_move (v := .tuple #[.agg #[.string ⟨⟨r_3.1.Base⟩⟩, .int .i64 r_3.1.Num, .int .i64 r_3.1.Den], .bool r_3.2]) (by kernel_rfl)) ?_
  refine wl_val (v := .agg #[.string ⟨⟨r_3.1.Base⟩⟩, .int .i64 r_3.1.Num, .int .i64 r_3.1.Den]) (w' := w_6) (by kernel_rfl) (run_extract (vs := #[.agg #[.string ⟨⟨r_3.1.Base⟩⟩, .int .i64 r_3.1.Num, .int .i64 r_3.1.Den], .bool r_3.2]) (by kernel_rfl) (by kernel_rfl)) ?_
  refine wl_val (v := .bool r_3.2) (w' := w_6) (by kernel_rfl) (run_extract (vs := #[.agg #[.string ⟨⟨r_3.1.Base⟩⟩, .int .i64 r_3.1.Num, .int .i64 r_3.1.Den], .bool r_3.2]) (by kernel_rfl) (by kernel_rfl)) ?_
  refine wl_op (by kernel_rfl) (ow_alloc' (z := .agg #[.string ⟨⟨[]⟩⟩, .int .i64 0, .int .i64 0]) (vs := [.string ⟨⟨[]⟩⟩, .int .i64 0, .int .i64 0]) (by kernel_rfl) rfl hL ?_)
  intro g_2 w_7 hS h_56
  replace h_3 := hS.ow h_3 nilB
  replace h_54 := hS.box h_54 nilN
  replace hB := hS.below hL hB
  replace hL := hS.hL
  refine wl_op (by kernel_rfl) (ow_store_box' (g := g_2) (j := 0) (v := .agg #[.string ⟨⟨r_3.1.Base⟩⟩, .int .i64 r_3.1.Num, .int .i64 r_3.1.Den]) (vs := [.string ⟨⟨r_3.1.Base⟩⟩, .int .i64 r_3.1.Num, .int .i64 r_3.1.Den]) (cs' := [.string ⟨⟨r_3.1.Base⟩⟩, .int .i64 r_3.1.Num, .int .i64 r_3.1.Den]) sz_28 (by kernel_rfl) (by kernel_rfl) rfl rfl rfl hL h_56 rfl (by simp) rfl ?_)
  intro w_8 hS h_57
  replace h_3 := hS.ow h_3 (hL.apart 1 0 rfl rfl (by decide))
  replace h_54 := hS.box h_54 (hL.apart 2 0 rfl rfl (by decide) _ rfl)
  replace hB := hS.below hL hB
  replace hL := hS.hL
  refine wl_val (v := .bool r_3.2) (w' := w_8) (by kernel_rfl) (run_assign (v := .bool r_3.2) (by kernel_rfl)) ?_
  refine wl_nil ?_
  refine then_n ?_
  refine cw_seq ?_
  refine cw_region ?_
  refine wl_val (v := .string ⟨⟨e_5⟩⟩) (w' := w_8) (by kernel_rfl) (run_move (v := .string ⟨⟨e_5⟩⟩) (by kernel_rfl)) ?_
  obtain ⟨r_4, h_58, hm⟩ := bind_e hm
  refine wl_op (by kernel_rfl) (ow_enter (run_callf (vs := [.string ⟨⟨e_5⟩⟩]) Tryd.func10 nm_10 (by kernel_rfl) (by kernel_rfl)) (f10_ok (p0_0 := e_5) fuel _ w_8 hL.lt  h_58) ?_)
  intro vR w_9 hR
  obtain ⟨rfl, hBe⟩ := hR
  have hS := Stp.call hL (Fz.of_below hBe [])
  replace h_3 := hS.ow h_3 nilB
  replace h_54 := hS.box h_54 nilN
  replace h_57 := hS.box h_57 nilN
  replace hB := hS.below hL hB
  replace hL := hS.hL
  refine wl_val (v := .tuple #[.agg #[.string ⟨⟨r_4.1.Base⟩⟩, .int .i64 r_4.1.Num, .int .i64 r_4.1.Den], .bool r_4.2]) (w' := w_9) (by kernel_rfl) (run_move (v := .tuple #[.agg #[.string ⟨⟨r_4.1.Base⟩⟩, .int .i64 r_4.1.Num, .int .i64 r_4.1.Den], .bool r_4.2]) (by kernel_rfl)) ?_
  refine wl_val (v := .agg #[.string ⟨⟨r_4.1.Base⟩⟩, .int .i64 r_4.1.Num, .int .i64 r_4.1.Den]) (w' := w_9) (by kernel_rfl) (run_extract (vs := #[.agg #[.string ⟨⟨r_4.1.Base⟩⟩, .int .i64 r_4.1.Num, .int .i64 r_4.1.Den], .bool r_4.2]) (by kernel_rfl) (by kernel_rfl)) ?_
  refine wl_val (v := .bool r_4.2) (w' := w_9) (by kernel_rfl) (run_extract (vs := #[.agg #[.string ⟨⟨r_4.1.Base⟩⟩, .int .i64 r_4.1.Num, .int .i64 r_4.1.Den], .bool r_4.2]) (by kernel_rfl) (by kernel_rfl)) ?_
  refine wl_op (by kernel_rfl) (ow_alloc' (z := .agg #[.string ⟨⟨[]⟩⟩, .int .i64 0, .int .i64 0]) (vs := [.string ⟨⟨[]⟩⟩, .int .i64 0, .int .i64 0]) (by kernel_rfl) rfl hL ?_)
  intro g_3 w_10 hS h_59
  replace h_3 := hS.ow h_3 nilB
  replace h_54 := hS.box h_54 nilN
  replace h_57 := hS.box h_57 nilN
  replace hB := hS.below hL hB
  replace hL := hS.hL
  refine wl_op (by kernel_rfl) (ow_store_box' (g := g_3) (j := 0) (v := .agg #[.string ⟨⟨r_4.1.Base⟩⟩, .int .i64 r_4.1.Num, .int .i64 r_4.1.Den]) (vs := [.string ⟨⟨r_4.1.Base⟩⟩, .int .i64 r_4.1.Num, .int .i64 r_4.1.Den]) (cs' := [.string ⟨⟨r_4.1.Base⟩⟩, .int .i64 r_4.1.Num, .int .i64 r_4.1.Den]) sz_28 (by kernel_rfl) (by kernel_rfl) rfl rfl rfl hL h_59 rfl (by simp) rfl ?_)
  intro w_11 hS h_60
  replace h_3 := hS.ow h_3 (hL.apart 2 0 rfl rfl (by decide))
  replace h_54 := hS.box h_54 (hL.apart 3 0 rfl rfl (by decide) _ rfl)
  replace h_57 := hS.box h_57 (hL.apart 1 0 rfl rfl (by decide) _ rfl)
  replace hB := hS.below hL hB
  replace hL := hS.hL
  refine wl_val (v := .bool r_4.2) (w' := w_11) (by kernel_rfl) (run_assign (v := .bool r_4.2) (by kernel_rfl)) ?_
  refine wl_nil ?_
  refine then_n ?_
  refine cw_norm [.agg #[.int .i64 p0_0.N, .int .u8 p0_0.D], .int .u8 p1_0, .int .u8 p2_0, .int .u8 p3_0, .string ⟨⟨p4_0⟩⟩, .pointer (some ⟨g_1, 0, none⟩), undef, undef, undef, undef, .bool false, .slice a_1 n_1 c_1, .string ⟨⟨e_4⟩⟩, .string ⟨⟨e_5⟩⟩, .string ⟨⟨e_6⟩⟩, .pointer (some ⟨g_2, 0, none⟩), .bool r_3.2, .pointer (some ⟨g_3, 0, none⟩), .bool r_4.2, undef, undef, undef, undef, undef, undef, undef, undef, undef, undef, undef, undef, undef, undef, .slice a_1 n_1 c_1, .slice a_1 n_1 c_1, .int .u8 p1_0, .int .i64 (cvt .i64 p1_0), .slice a_1 n_1 c_1, .int .i64 (r_1.length : Int), .int .i64 (rem (cvt .i64 p1_0) (r_1.length : Int)), .pointer (some ⟨b_4, 0 + (rem (cvt .i64 p1_0) (r_1.length : Int)).toNat * 1, none⟩), .string ⟨⟨e_4⟩⟩, .slice a_1 n_1 c_1, .int .u8 p2_0, .int .i64 (cvt .i64 p2_0), .slice a_1 n_1 c_1, .int .i64 (r_1.length : Int), .int .i64 (rem (cvt .i64 p2_0) (r_1.length : Int)), .pointer (some ⟨b_5, 0 + (rem (cvt .i64 p2_0) (r_1.length : Int)).toNat * 1, none⟩), .string ⟨⟨e_5⟩⟩, .slice a_1 n_1 c_1, .int .u8 p3_0, .int .i64 (cvt .i64 p3_0), .slice a_1 n_1 c_1, .int .i64 (r_1.length : Int), .int .i64 (rem (cvt .i64 p3_0) (r_1.length : Int)), .pointer (some ⟨b_6, 0 + (rem (cvt .i64 p3_0) (r_1.length : Int)).toNat * 1, none⟩), .string ⟨⟨e_6⟩⟩, .agg #[.int .i64 p0_0.N, .int .u8 p0_0.D], .agg #[.int .i64 r_2.N, .int .u8 r_2.D], .tuple #[.agg #[.string ⟨⟨r_3.1.Base⟩⟩, .int .i64 r_3.1.Num, .int .i64 r_3.1.Den], .bool r_3.2], .string ⟨⟨e_4⟩⟩, .tuple #[.agg #[.string ⟨⟨r_3.1.Base⟩⟩, .int .i64 r_3.1.Num, .int .i64 r_3.1.Den], .bool r_3.2], .agg #[.string ⟨⟨r_3.1.Base⟩⟩, .int .i64 r_3.1.Num, .int .i64 r_3.1.Den], .bool r_3.2, .tuple #[.agg #[.string ⟨⟨r_4.1.Base⟩⟩, .int .i64 r_4.1.Num, .int .i64 r_4.1.Den], .bool r_4.2], .string ⟨⟨e_5⟩⟩, .tuple #[.agg #[.string ⟨⟨r_4.1.Base⟩⟩, .int .i64 r_4.1.Num, .int .i64 r_4.1.Den], .bool r_4.2], .agg #[.string ⟨⟨r_4.1.Base⟩⟩, .int .i64 r_4.1.Num, .int .i64 r_4.1.Den], .bool r_4.2, undef, undef, undef, undef, undef, undef, undef, undef, undef, undef, undef, undef, undef, undef, undef, undef, undef, undef, undef, undef, undef, undef, undef, undef, undef, undef, undef, undef, undef, undef, undef, undef, undef, undef, undef, undef, undef, undef, undef, undef, undef, undef, undef, undef, undef, undef, undef, undef, undef, undef, undef, undef, undef, undef, undef, undef, undef, undef, undef, undef, undef, undef, undef, undef, undef, undef, undef, undef, undef, undef, undef, undef, undef, undef, undef, undef, undef, undef, undef, undef, undef, undef, undef, undef, undef, undef, undef, undef, undef, undef, undef, undef, undef, undef, undef, undef, undef, undef, undef, undef, undef, undef, undef, undef, undef, undef, undef, undef, undef, undef, undef] (by kernel_rfl) ?_
  refine cw_seq ?_
  refine cw_cut (fun l' w' => ∃ x_1, ∃ u_1 : Nat → Value, l' = [.agg #[.int .i64 p0_0.N, .int .u8 p0_0.D], .int .u8 p1_0, .int .u8 p2_0, .int .u8 p3_0, .string ⟨⟨p4_0⟩⟩, .pointer (some ⟨g_1, 0, none⟩), undef, undef, undef, undef, .bool false, .slice a_1 n_1 c_1, .string ⟨⟨e_4⟩⟩, .string ⟨⟨e_5⟩⟩, .string ⟨⟨e_6⟩⟩, .pointer (some ⟨g_2, 0, none⟩), .bool r_3.2, .pointer (some ⟨g_3, 0, none⟩), .bool r_4.2, undef, undef, undef, undef, undef, undef, undef, undef, undef, undef, undef, undef, undef, undef, .slice a_1 n_1 c_1, .slice a_1 n_1 c_1, .int .u8 p1_0, .int .i64 (cvt .i64 p1_0), .slice a_1 n_1 c_1, .int .i64 (r_1.length : Int), .int .i64 (rem (cvt .i64 p1_0) (r_1.length : Int)), .pointer (some ⟨b_4, 0 + (rem (cvt .i64 p1_0) (r_1.length : Int)).toNat * 1, none⟩), .string ⟨⟨e_4⟩⟩, .slice a_1 n_1 c_1, .int .u8 p2_0, .int .i64 (cvt .i64 p2_0), .slice a_1 n_1 c_1, .int .i64 (r_1.length : Int), .int .i64 (rem (cvt .i64 p2_0) (r_1.length : Int)), .pointer (some ⟨b_5, 0 + (rem (cvt .i64 p2_0) (r_1.length : Int)).toNat * 1, none⟩), .string ⟨⟨e_5⟩⟩, .slice a_1 n_1 c_1, .int .u8 p3_0, .int .i64 (cvt .i64 p3_0), .slice a_1 n_1 c_1, .int .i64 (r_1.length : Int), .int .i64 (rem (cvt .i64 p3_0) (r_1.length : Int)), .pointer (some ⟨b_6, 0 + (rem (cvt .i64 p3_0) (r_1.length : Int)).toNat * 1, none⟩), .string ⟨⟨e_6⟩⟩, .agg #[.int .i64 p0_0.N, .int .u8 p0_0.D], .agg #[.int .i64 r_2.N, .int .u8 r_2.D], .tuple #[.agg #[.string ⟨⟨r_3.1.Base⟩⟩, .int .i64 r_3.1.Num, .int .i64 r_3.1.Den], .bool r_3.2], .string ⟨⟨e_4⟩⟩, .tuple #[.agg #[.string ⟨⟨r_3.1.Base⟩⟩, .int .i64 r_3.1.Num, .int .i64 r_3.1.Den], .bool r_3.2], .agg #[.string ⟨⟨r_3.1.Base⟩⟩, .int .i64 r_3.1.Num, .int .i64 r_3.1.Den], .bool r_3.2, .tuple #[.agg #[.string ⟨⟨r_4.1.Base⟩⟩, .int .i64 r_4.1.Num, .int .i64 r_4.1.Den], .bool r_4.2], .string ⟨⟨e_5⟩⟩, .tuple #[.agg #[.string ⟨⟨r_4.1.Base⟩⟩, .int .i64 r_4.1.Num, .int .i64 r_4.1.Den], .bool r_4.2], .agg #[.string ⟨⟨r_4.1.Base⟩⟩, .int .i64 r_4.1.Num, .int .i64 r_4.1.Den], .bool r_4.2, (u_1 0), (u_1 1), (u_1 2), (u_1 3), (u_1 4), (u_1 5), (u_1 6), (u_1 7), (u_1 8), (u_1 9), (u_1 10), (u_1 11), (u_1 12), (u_1 13), (u_1 14), .bool x_1, undef, undef, undef, undef, undef, undef, undef, undef, undef, undef, undef, undef, undef, undef, undef, undef, undef, undef, undef, undef, undef, undef, undef, undef, undef, undef, undef, undef, undef, undef, undef, undef, undef, undef, undef, undef, undef, undef, undef, undef, undef, undef, undef, undef, undef, undef, undef, undef, undef, undef, undef, undef, undef, undef, undef, undef, undef, undef, undef, undef, undef, undef, undef, undef, undef, undef, undef, undef, undef, undef, undef, undef, undef, undef, undef, undef, undef, undef, undef, undef, undef, undef, undef, undef, undef, undef, undef, undef, undef, undef, undef, undef, undef, undef, undef] ∧ LOk w0.heap.size [some g_3, some g_2, blk a_1, some g_1] F w' ∧ Below w0.heap.size w0 w' ∧ Ow Rp.str 9 ([some g_3, some g_2, blk a_1, some g_1] ++ F) w' a_1 n_1 c_1 r_1 ∧ Bx w' g_1 [.int .i64 r_2.N, .int .u8 r_2.D] 23 ∧ Bx w' g_2 [.string ⟨⟨r_3.1.Base⟩⟩, .int .i64 r_3.1.Num, .int .i64 r_3.1.Den] 28 ∧ Bx w' g_3 [.string ⟨⟨r_4.1.Base⟩⟩, .int .i64 r_4.1.Num, .int .i64 r_4.1.Den] 28 ∧ m3_J1 fuel p4_0 r_1 e_4 e_5 e_6 r_2 r_3 r_4 x_1 = some r) ?_ ?_
  · refine cw_region ?_
    refine wl_val (v := .bool r_3.2) (w' := w_11) (by kernel_rfl) (run_move (v := .bool r_3.2) (by kernel_rfl)) ?_
    refine wl_val (v := .bool (!r_3.2)) (w' := w_11) (by kernel_rfl) (run_not (b := r_3.2) (by kernel_rfl)) ?_
    refine wl_val (v := .bool (!r_3.2)) (w' := w_11) (by kernel_rfl) (run_move (v := .bool (!r_3.2)) (by kernel_rfl)) ?_
    rcases Bool.eq_false_or_eq_true r_3.2 with hc_48 | hc_48
    · have hm := ite_t hm hc_48
      refine wl_val (v := .bool r_4.2) (w' := w_11) (wg (c := (!r_3.2)) (want := false) (by kernel_rfl) (not_t hc_48) rfl) (run_move (v := .bool r_4.2) (by kernel_rfl)) ?_
      refine wl_val (v := .bool (!r_4.2)) (w' := w_11) (wg (c := (!r_3.2)) (want := false) (by kernel_rfl) (not_t hc_48) rfl) (run_not (b := r_4.2) (by kernel_rfl)) ?_
      refine wl_val (v := .bool (!r_4.2)) (w' := w_11) (by kernel_rfl) (run_pick_f (v := .bool (!r_4.2)) (tr2 (c := (!r_3.2)) (by kernel_rfl) (not_t hc_48)) (by kernel_rfl)) ?_
      refine wl_val (v := .bool (!r_4.2)) (w' := w_11) (by kernel_rfl) (run_move (v := .bool (!r_4.2)) (by kernel_rfl)) ?_
      rcases Bool.eq_false_or_eq_true r_4.2 with hc_49 | hc_49
      · have hm := ite_t hm hc_49
        refine wl_val (v := .pointer (some ⟨g_2, 1, none⟩)) (w' := w_11) (wg (c := (!r_4.2)) (want := false) (by kernel_rfl) (not_t hc_49) rfl) (run_fieldAddr (b := g_2) (o := 0) fo_28_1 (by kernel_rfl)) ?_
        refine wl_val (v := .int .i64 r_3.1.Num) (w' := w_11) (wg (c := (!r_4.2)) (want := false) (by kernel_rfl) (not_t hc_49) rfl) (run_load_box1 (j := 1) Tryd.underlying2 rfl (by kernel_rfl) h_57 (by kernel_rfl)) ?_
        refine wl_norm [.agg #[.int .i64 p0_0.N, .int .u8 p0_0.D], .int .u8 p1_0, .int .u8 p2_0, .int .u8 p3_0, .string ⟨⟨p4_0⟩⟩, .pointer (some ⟨g_1, 0, none⟩), undef, undef, undef, undef, .bool false, .slice a_1 n_1 c_1, .string ⟨⟨e_4⟩⟩, .string ⟨⟨e_5⟩⟩, .string ⟨⟨e_6⟩⟩, .pointer (some ⟨g_2, 0, none⟩), .bool r_3.2, .pointer (some ⟨g_3, 0, none⟩), .bool r_4.2, undef, undef, undef, undef, undef, undef, undef, undef, undef, undef, undef, undef, undef, undef, .slice a_1 n_1 c_1, .slice a_1 n_1 c_1, .int .u8 p1_0, .int .i64 (cvt .i64 p1_0), .slice a_1 n_1 c_1, .int .i64 (r_1.length : Int), .int .i64 (rem (cvt .i64 p1_0) (r_1.length : Int)), .pointer (some ⟨b_4, 0 + (rem (cvt .i64 p1_0) (r_1.length : Int)).toNat * 1, none⟩), .string ⟨⟨e_4⟩⟩, .slice a_1 n_1 c_1, .int .u8 p2_0, .int .i64 (cvt .i64 p2_0), .slice a_1 n_1 c_1, .int .i64 (r_1.length : Int), .int .i64 (rem (cvt .i64 p2_0) (r_1.length : Int)), .pointer (some ⟨b_5, 0 + (rem (cvt .i64 p2_0) (r_1.length : Int)).toNat * 1, none⟩), .string ⟨⟨e_5⟩⟩, .slice a_1 n_1 c_1, .int .u8 p3_0, .int .i64 (cvt .i64 p3_0), .slice a_1 n_1 c_1, .int .i64 (r_1.length : Int), .int .i64 (rem (cvt .i64 p3_0) (r_1.length : Int)), .pointer (some ⟨b_6, 0 + (rem (cvt .i64 p3_0) (r_1.length : Int)).toNat * 1, none⟩), .string ⟨⟨e_6⟩⟩, .agg #[.int .i64 p0_0.N, .int .u8 p0_0.D], .agg #[.int .i64 r_2.N, .int .u8 r_2.D], .tuple #[.agg #[.string ⟨⟨r_3.1.Base⟩⟩, .int .i64 r_3.1.Num, .int .i64 r_3.1.Den], .bool r_3.2], .string ⟨⟨e_4⟩⟩, .tuple #[.agg #[.string ⟨⟨r_3.1.Base⟩⟩, .int .i64 r_3.1.Num, .int .i64 r_3.1.Den], .bool r_3.2], .agg #[.string ⟨⟨r_3.1.Base⟩⟩, .int .i64 r_3.1.Num, .int .i64 r_3.1.Den], .bool r_3.2, .tuple #[.agg #[.string ⟨⟨r_4.1.Base⟩⟩, .int .i64 r_4.1.Num, .int .i64 r_4.1.Den], .bool r_4.2], .string ⟨⟨e_5⟩⟩, .tuple #[.agg #[.string ⟨⟨r_4.1.Base⟩⟩, .int .i64 r_4.1.Num, .int .i64 r_4.1.Den], .bool r_4.2], .agg #[.string ⟨⟨r_4.1.Base⟩⟩, .int .i64 r_4.1.Num, .int .i64 r_4.1.Den], .bool r_4.2, .bool r_3.2, .bool (!r_3.2), .bool (!r_3.2), .bool r_4.2, .bool (!r_4.2), .bool (!r_4.2), .bool (!r_4.2), .pointer (some ⟨g_2, 1, none⟩), .int .i64 r_3.1.Num, undef, undef, undef, undef, undef, undef, undef, undef, undef, undef, undef, undef, undef, undef, undef, undef, undef, undef, undef, undef, undef, undef, undef, undef, undef, undef, undef, undef, undef, undef, undef, undef, undef, undef, undef, undef, undef, undef, undef, undef, undef, undef, undef, undef, undef, undef, undef, undef, undef, undef, undef, undef, undef, undef, undef, undef, undef, undef, undef, undef, undef, undef, undef, undef, undef, undef, undef, undef, undef, undef, undef, undef, undef, undef, undef, undef, undef, undef, undef, undef, undef, undef, undef, undef, undef, undef, undef, undef, undef, undef, undef, undef, undef, undef, undef, undef, undef, undef, undef, undef, undef, undef] (by kernel_rfl) ?_
        refine wl_val (v := .bool (lt r_3.1.Num 1)) (w' := w_11) (wg (c := (!r_4.2)) (want := false) (by kernel_rfl) (not_t hc_49) rfl) (run_lt (k := .i64) (a := r_3.1.Num) (b := 1) (by kernel_rfl) (by kernel_rfl)) ?_
        refine wl_val (v := .bool (lt r_3.1.Num 1)) (w' := w_11) (by kernel_rfl) (run_pick_f (v := .bool (lt r_3.1.Num 1)) (tr2 (c := (!r_4.2)) (by kernel_rfl) (not_t hc_49)) (by kernel_rfl)) ?_
        refine wl_val (v := .bool (lt r_3.1.Num 1)) (w' := w_11) (by kernel_rfl) (run_move (v := .bool (lt r_3.1.Num 1)) (by kernel_rfl)) ?_
        rcases Bool.eq_false_or_eq_true (lt r_3.1.Num 1) with hc_50 | hc_50
        · have hm := ite_t hm hc_50
          refine wl_not0 (wg (c := (lt r_3.1.Num 1)) (want := false) (by kernel_rfl) hc_50 rfl) (by kernel_rfl) ?_
          refine wl_not0 (wg (c := (lt r_3.1.Num 1)) (want := false) (by kernel_rfl) hc_50 rfl) (by kernel_rfl) ?_
          refine wl_not0 (wg (c := (lt r_3.1.Num 1)) (want := false) (by kernel_rfl) hc_50 rfl) (by kernel_rfl) ?_
          refine wl_val (v := .bool true) (w' := w_11) (by kernel_rfl) (run_pick_t (v := .bool true) (tr2 (c := (lt r_3.1.Num 1)) (by kernel_rfl) hc_50) (by kernel_rfl)) ?_
          refine wl_nil ?_
          exact then_c ⟨true, (fun i => ([.bool r_3.2, .bool (!r_3.2), .bool (!r_3.2), .bool r_4.2, .bool (!r_4.2), .bool (!r_4.2), .bool (!r_4.2), .pointer (some ⟨g_2, 1, none⟩), .int .i64 r_3.1.Num, .bool (lt r_3.1.Num 1), .bool (lt r_3.1.Num 1), .bool (lt r_3.1.Num 1), undef, undef, undef] : List Value).getD i undef), by kernel_rfl, hL, hB, h_3, h_54, h_57, h_60, hm⟩
        · have hm := ite_f hm hc_50
          refine wl_val (v := .pointer (some ⟨g_2, 2, none⟩)) (w' := w_11) (wg (c := (lt r_3.1.Num 1)) (want := false) (by kernel_rfl) hc_50 rfl) (run_fieldAddr (b := g_2) (o := 0) fo_28_2 (by kernel_rfl)) ?_
          refine wl_val (v := .int .i64 r_3.1.Den) (w' := w_11) (wg (c := (lt r_3.1.Num 1)) (want := false) (by kernel_rfl) hc_50 rfl) (run_load_box1 (j := 2) Tryd.underlying2 rfl (by kernel_rfl) h_57 (by kernel_rfl)) ?_
          refine wl_val (v := .bool (lt r_3.1.Den 1)) (w' := w_11) (wg (c := (lt r_3.1.Num 1)) (want := false) (by kernel_rfl) hc_50 rfl) (run_lt (k := .i64) (a := r_3.1.Den) (b := 1) (by kernel_rfl) (by kernel_rfl)) ?_
          refine wl_val (v := .bool (lt r_3.1.Den 1)) (w' := w_11) (by kernel_rfl) (run_pick_f (v := .bool (lt r_3.1.Den 1)) (tr2 (c := (lt r_3.1.Num 1)) (by kernel_rfl) hc_50) (by kernel_rfl)) ?_
          refine wl_nil ?_
          exact then_c ⟨(lt r_3.1.Den 1), (fun i => ([.bool r_3.2, .bool (!r_3.2), .bool (!r_3.2), .bool r_4.2, .bool (!r_4.2), .bool (!r_4.2), .bool (!r_4.2), .pointer (some ⟨g_2, 1, none⟩), .int .i64 r_3.1.Num, .bool (lt r_3.1.Num 1), .bool (lt r_3.1.Num 1), .bool (lt r_3.1.Num 1), .pointer (some ⟨g_2, 2, none⟩), .int .i64 r_3.1.Den, .bool (lt r_3.1.Den 1)] : List Value).getD i undef), by kernel_rfl, hL, hB, h_3, h_54, h_57, h_60, hm⟩
      · have hm := ite_f hm hc_49
        refine wl_not0 (wg (c := (!r_4.2)) (want := false) (by kernel_rfl) (not_f hc_49) rfl) (by kernel_rfl) ?_
        refine wl_not0 (wg (c := (!r_4.2)) (want := false) (by kernel_rfl) (not_f hc_49) rfl) (by kernel_rfl) ?_
        refine wl_not0 (wg (c := (!r_4.2)) (want := false) (by kernel_rfl) (not_f hc_49) rfl) (by kernel_rfl) ?_
        refine wl_val (v := .bool true) (w' := w_11) (by kernel_rfl) (run_pick_t (v := .bool true) (tr2 (c := (!r_4.2)) (by kernel_rfl) (not_f hc_49)) (by kernel_rfl)) ?_
        refine wl_val (v := .bool true) (w' := w_11) (by kernel_rfl) (run_move (v := .bool true) (by kernel_rfl)) ?_
        refine wl_norm [.agg #[.int .i64 p0_0.N, .int .u8 p0_0.D], .int .u8 p1_0, .int .u8 p2_0, .int .u8 p3_0, .string ⟨⟨p4_0⟩⟩, .pointer (some ⟨g_1, 0, none⟩), undef, undef, undef, undef, .bool false, .slice a_1 n_1 c_1, .string ⟨⟨e_4⟩⟩, .string ⟨⟨e_5⟩⟩, .string ⟨⟨e_6⟩⟩, .pointer (some ⟨g_2, 0, none⟩), .bool r_3.2, .pointer (some ⟨g_3, 0, none⟩), .bool r_4.2, undef, undef, undef, undef, undef, undef, undef, undef, undef, undef, undef, undef, undef, undef, .slice a_1 n_1 c_1, .slice a_1 n_1 c_1, .int .u8 p1_0, .int .i64 (cvt .i64 p1_0), .slice a_1 n_1 c_1, .int .i64 (r_1.length : Int), .int .i64 (rem (cvt .i64 p1_0) (r_1.length : Int)), .pointer (some ⟨b_4, 0 + (rem (cvt .i64 p1_0) (r_1.length : Int)).toNat * 1, none⟩), .string ⟨⟨e_4⟩⟩, .slice a_1 n_1 c_1, .int .u8 p2_0, .int .i64 (cvt .i64 p2_0), .slice a_1 n_1 c_1, .int .i64 (r_1.length : Int), .int .i64 (rem (cvt .i64 p2_0) (r_1.length : Int)), .pointer (some ⟨b_5, 0 + (rem (cvt .i64 p2_0) (r_1.length : Int)).toNat * 1, none⟩), .string ⟨⟨e_5⟩⟩, .slice a_1 n_1 c_1, .int .u8 p3_0, .int .i64 (cvt .i64 p3_0), .slice a_1 n_1 c_1, .int .i64 (r_1.length : Int), .int .i64 (rem (cvt .i64 p3_0) (r_1.length : Int)), .pointer (some ⟨b_6, 0 + (rem (cvt .i64 p3_0) (r_1.length : Int)).toNat * 1, none⟩), .string ⟨⟨e_6⟩⟩, .agg #[.int .i64 p0_0.N, .int .u8 p0_0.D], .agg #[.int .i64 r_2.N, .int .u8 r_2.D], .tuple #[.agg #[.string ⟨⟨r_3.1.Base⟩⟩, .int .i64 r_3.1.Num, .int .i64 r_3.1.Den], .bool r_3.2], .string ⟨⟨e_4⟩⟩, .tuple #[.agg #[.string ⟨⟨r_3.1.Base⟩⟩, .int .i64 r_3.1.Num, .int .i64 r_3.1.Den], .bool r_3.2], .agg #[.string ⟨⟨r_3.1.Base⟩⟩, .int .i64 r_3.1.Num, .int .i64 r_3.1.Den], .bool r_3.2, .tuple #[.agg #[.string ⟨⟨r_4.1.Base⟩⟩, .int .i64 r_4.1.Num, .int .i64 r_4.1.Den], .bool r_4.2], .string ⟨⟨e_5⟩⟩, .tuple #[.agg #[.string ⟨⟨r_4.1.Base⟩⟩, .int .i64 r_4.1.Num, .int .i64 r_4.1.Den], .bool r_4.2], .agg #[.string ⟨⟨r_4.1.Base⟩⟩, .int .i64 r_4.1.Num, .int .i64 r_4.1.Den], .bool r_4.2, .bool r_3.2, .bool (!r_3.2), .bool (!r_3.2), .bool r_4.2, .bool (!r_4.2), .bool (!r_4.2), .bool (!r_4.2), undef, undef, undef, .bool true, .bool true, undef, undef, undef, undef, undef, undef, undef, undef, undef, undef, undef, undef, undef, undef, undef, undef, undef, undef, undef, undef, undef, undef, undef, undef, undef, undef, undef, undef, undef, undef, undef, undef, undef, undef, undef, undef, undef, undef, undef, undef, undef, undef, undef, undef, undef, undef, undef, undef, undef, undef, undef, undef, undef, undef, undef, undef, undef, undef, undef, undef, undef, undef, undef, undef, undef, undef, undef, undef, undef, undef, undef, undef, undef, undef, undef, undef, undef, undef, undef, undef, undef, undef, undef, undef, undef, undef, undef, undef, undef, undef, undef, undef, undef, undef, undef, undef, undef, undef, undef] (by kernel_rfl) ?_
        refine wl_not0 (by kernel_rfl) (by kernel_rfl) ?_
        refine wl_not0 (by kernel_rfl) (by kernel_rfl) ?_
        refine wl_not0 (by kernel_rfl) (by kernel_rfl) ?_
        refine wl_val (v := .bool true) (w' := w_11) (by kernel_rfl) (run_pick_t (v := .bool true) (by kernel_rfl) (by kernel_rfl)) ?_
        refine wl_nil ?_
        exact then_c ⟨true, (fun i => ([.bool r_3.2, .bool (!r_3.2), .bool (!r_3.2), .bool r_4.2, .bool (!r_4.2), .bool (!r_4.2), .bool (!r_4.2), undef, undef, undef, .bool true, .bool true, undef, undef, undef] : List Value).getD i undef), by kernel_rfl, hL, hB, h_3, h_54, h_57, h_60, hm⟩
    · have hm := ite_f hm hc_48
      refine wl_not0 (wg (c := (!r_3.2)) (want := false) (by kernel_rfl) (not_f hc_48) rfl) (by kernel_rfl) ?_
      refine wl_not0 (wg (c := (!r_3.2)) (want := false) (by kernel_rfl) (not_f hc_48) rfl) (by kernel_rfl) ?_
      refine wl_val (v := .bool true) (w' := w_11) (by kernel_rfl) (run_pick_t (v := .bool true) (tr2 (c := (!r_3.2)) (by kernel_rfl) (not_f hc_48)) (by kernel_rfl)) ?_
      refine wl_val (v := .bool true) (w' := w_11) (by kernel_rfl) (run_move (v := .bool true) (by kernel_rfl)) ?_
      refine wl_not0 (by kernel_rfl) (by kernel_rfl) ?_
      refine wl_not0 (by kernel_rfl) (by kernel_rfl) ?_
      refine wl_not0 (by kernel_rfl) (by kernel_rfl) ?_
      refine wl_val (v := .bool true) (w' := w_11) (by kernel_rfl) (run_pick_t (v := .bool true) (by kernel_rfl) (by kernel_rfl)) ?_
      refine wl_val (v := .bool true) (w' := w_11) (by kernel_rfl) (run_move (v := .bool true) (by kernel_rfl)) ?_
      refine wl_not0 (by kernel_rfl) (by kernel_rfl) ?_
      refine wl_not0 (by kernel_rfl) (by kernel_rfl) ?_
      refine wl_not0 (by kernel_rfl) (by kernel_rfl) ?_
      refine wl_val (v := .bool true) (w' := w_11) (by kernel_rfl) (run_pick_t (v := .bool true) (by kernel_rfl) (by kernel_rfl)) ?_
      refine wl_nil ?_
      exact then_c ⟨true, (fun i => ([.bool r_3.2, .bool (!r_3.2), .bool (!r_3.2), undef, undef, .bool true, .bool true, undef, undef, undef, .bool true, .bool true, undef, undef, undef] : List Value).getD i undef), by kernel_rfl, hL, hB, h_3, h_54, h_57, h_60, hm⟩
  · intro l1 w_12 hI
    obtain ⟨x_1, u_1, rfl, hL, hB, h_3, h_54, h_57, h_60, hm⟩ := hI
    unfold m3_J1 at hm
    refine cw_cond (t := x_1) (by kernel_rfl) (fun hc_4 => ?_) (fun hc_4 => ?_)
    · have hm := ite_t hm hc_4
      refine cw_seq ?_
      refine cw_region ?_
      refine wl_val (v := .bool false) (w' := w_12) (by kernel_rfl) (run_assign (v := .bool false) (by kernel_rfl)) ?_
      refine wl_nil ?_
      refine then_n ?_
      refine cw_ret ?_
      refine then_ret ?_
      have hS : Stp w0.heap.size _ [] F [] w_12 _ := Stp.pick hL [] rfl (by decide)
      replace hB := hS.below hL hB
      replace hL := hS.hL
      obtain rfl := Option.some.inj hm
      exact ret1 (v := .bool false) rfl (resv_tmp (by kernel_rfl)) ⟨_, rfl, by kernel_rfl, hB⟩
    · have hm := ite_f hm hc_4
      refine cw_skip ?_
      refine then_n ?_
      refine cw_seq ?_
      refine cw_seq ?_
      refine cw_region ?_
      refine wl_val (v := .agg #[.int .i64 r_2.N, .int .u8 r_2.D]) (w' := w_12) (by kernel_rfl) (run_load_boxn (j := 0) (vs := [.int .i64 r_2.N, .int .u8 r_2.D]) Tryd.underlying23 rfl sz_23 (by kernel_rfl) h_54 (by kernel_rfl) rfl) ?_
      refine wl_val (v := .string ⟨⟨e_4⟩⟩) (w' := w_12) (by kernel_rfl) (run_move (v := .string ⟨⟨e_4⟩⟩) (by kernel_rfl)) ?_
      refine wl_val (v := .string ⟨⟨e_4⟩⟩) (w' := w_12) (by kernel_rfl) (run_move (v := .string ⟨⟨e_4⟩⟩) (by kernel_rfl)) ?_
      obtain ⟨r_5, h_61, hm⟩ := bind_e hm
      refine wl_op (by kernel_rfl) (ow_enter (run_callf (vs := [.agg #[.int .i64 r_2.N, .int .u8 r_2.D], .string ⟨⟨e_4⟩⟩, .string ⟨⟨e_4⟩⟩]) Tryd.func11 nm_11 (by kernel_rfl) (by kernel_rfl)) (f11_ok (p0_0 := r_2) (p1_0 := e_4) (p2_0 := e_4) fuel _ w_12 hL.lt  h_61) ?_)
      intro vR w_13 hR
      obtain ⟨rfl, hBe⟩ := hR
      have hS := Stp.call hL (Fz.of_below hBe [])
      replace h_3 := hS.ow h_3 nilB
      replace h_54 := hS.box h_54 nilN
      replace h_57 := hS.box h_57 nilN
      replace h_60 := hS.box h_60 nilN
      replace hB := hS.below hL hB
      replace hL := hS.hL
      refine wl_val (v := .tuple #[.agg #[.int .i64 r_5.1.N, .int .u8 r_5.1.D], .bool r_5.2]) (w' := w_13) (by kernel_rfl) (run_move (v := .tuple #[.agg #[.int .i64 r_5.1.N, .int .u8 r_5.1.D], .bool r_5.2]) (by kernel_rfl)) ?_
      refine wl_val (v := .agg #[.int .i64 r_5.1.N, .int .u8 r_5.1.D]) (w' := w_13) (by kernel_rfl) (run_extract (vs := #[.agg #[.int .i64 r_5.1.N, .int .u8 r_5.1.D], .bool r_5.2]) (by kernel_rfl) (by kernel_rfl)) ?_
      refine wl_val (v := .bool r_5.2) (w' := w_13) (by kernel_rfl) (run_extract (vs := #[.agg #[.int .i64 r_5.1.N, .int .u8 r_5.1.D], .bool r_5.2]) (by kernel_rfl) (by kernel_rfl)) ?_
      refine wl_op (by kernel_rfl) (ow_alloc' (z := .agg #[.int .i64 0, .int .u8 0]) (vs := [.int .i64 0, .int .u8 0]) (by kernel_rfl) rfl hL ?_)
      intro g_4 w_14 hS h_62
      replace h_3 := hS.ow h_3 nilB
      replace h_54 := hS.box h_54 nilN
      replace h_57 := hS.box h_57 nilN
      replace h_60 := hS.box h_60 nilN
      replace hB := hS.below hL hB
      replace hL := hS.hL
      refine wl_op (by kernel_rfl) (ow_store_box' (g := g_4) (j := 0) (v := .agg #[.int .i64 r_5.1.N, .int .u8 r_5.1.D]) (vs := [.int .i64 r_5.1.N, .int .u8 r_5.1.D]) (cs' := [.int .i64 r_5.1.N, .int .u8 r_5.1.D]) sz_23 (by kernel_rfl) (by kernel_rfl) rfl rfl rfl hL h_62 rfl (by simp) rfl ?_)
      intro w_15 hS h_63
      replace h_3 := hS.ow h_3 (hL.apart 3 0 rfl rfl (by decide))
      replace h_54 := hS.box h_54 (hL.apart 4 0 rfl rfl (by decide) _ rfl)
      replace h_57 := hS.box h_57 (hL.apart 2 0 rfl rfl (by decide) _ rfl)
      replace h_60 := hS.box h_60 (hL.apart 1 0 rfl rfl (by decide) _ rfl)
      replace hB := hS.below hL hB
      replace hL := hS.hL
      refine wl_val (v := .bool r_5.2) (w' := w_15) (by kernel_rfl) (run_assign (v := .bool r_5.2) (by kernel_rfl)) ?_
      refine wl_nil ?_
      refine then_n ?_
      refine cw_cut (fun l' w' => ∃ x_2, ∃ u_2 : Nat → Value, l' = [.agg #[.int .i64 p0_0.N, .int .u8 p0_0.D], .int .u8 p1_0, .int .u8 p2_0, .int .u8 p3_0, .string ⟨⟨p4_0⟩⟩, .pointer (some ⟨g_1, 0, none⟩), undef, undef, undef, undef, .bool false, .slice a_1 n_1 c_1, .string ⟨⟨e_4⟩⟩, .string ⟨⟨e_5⟩⟩, .string ⟨⟨e_6⟩⟩, .pointer (some ⟨g_2, 0, none⟩), .bool r_3.2, .pointer (some ⟨g_3, 0, none⟩), .bool r_4.2, .pointer (some ⟨g_4, 0, none⟩), .bool r_5.2, undef, undef, undef, undef, undef, undef, undef, undef, undef, undef, undef, undef, .slice a_1 n_1 c_1, .slice a_1 n_1 c_1, .int .u8 p1_0, .int .i64 (cvt .i64 p1_0), .slice a_1 n_1 c_1, .int .i64 (r_1.length : Int), .int .i64 (rem (cvt .i64 p1_0) (r_1.length : Int)), .pointer (some ⟨b_4, 0 + (rem (cvt .i64 p1_0) (r_1.length : Int)).toNat * 1, none⟩), .string ⟨⟨e_4⟩⟩, .slice a_1 n_1 c_1, .int .u8 p2_0, .int .i64 (cvt .i64 p2_0), .slice a_1 n_1 c_1, .int .i64 (r_1.length : Int), .int .i64 (rem (cvt .i64 p2_0) (r_1.length : Int)), .pointer (some ⟨b_5, 0 + (rem (cvt .i64 p2_0) (r_1.length : Int)).toNat * 1, none⟩), .string ⟨⟨e_5⟩⟩, .slice a_1 n_1 c_1, .int .u8 p3_0, .int .i64 (cvt .i64 p3_0), .slice a_1 n_1 c_1, .int .i64 (r_1.length : Int), .int .i64 (rem (cvt .i64 p3_0) (r_1.length : Int)), .pointer (some ⟨b_6, 0 + (rem (cvt .i64 p3_0) (r_1.length : Int)).toNat * 1, none⟩), .string ⟨⟨e_6⟩⟩, .agg #[.int .i64 p0_0.N, .int .u8 p0_0.D], .agg #[.int .i64 r_2.N, .int .u8 r_2.D], .tuple #[.agg #[.string ⟨⟨r_3.1.Base⟩⟩, .int .i64 r_3.1.Num, .int .i64 r_3.1.Den], .bool r_3.2], .string ⟨⟨e_4⟩⟩, .tuple #[.agg #[.string ⟨⟨r_3.1.Base⟩⟩, .int .i64 r_3.1.Num, .int .i64 r_3.1.Den], .bool r_3.2], .agg #[.string ⟨⟨r_3.1.Base⟩⟩, .int .i64 r_3.1.Num, .int .i64 r_3.1.Den], .bool r_3.2, .tuple #[.agg #[.string ⟨⟨r_4.1.Base⟩⟩, .int .i64 r_4.1.Num, .int .i64 r_4.1.Den], .bool r_4.2], .string ⟨⟨e_5⟩⟩, .tuple #[.agg #[.string ⟨⟨r_4.1.Base⟩⟩, .int .i64 r_4.1.Num, .int .i64 r_4.1.Den], .bool r_4.2], .agg #[.string ⟨⟨r_4.1.Base⟩⟩, .int .i64 r_4.1.Num, .int .i64 r_4.1.Den], .bool r_4.2, (u_1 0), (u_1 1), (u_1 2), (u_1 3), (u_1 4), (u_1 5), (u_1 6), (u_1 7), (u_1 8), (u_1 9), (u_1 10), (u_1 11), (u_1 12), (u_1 13), (u_1 14), .bool x_1, .tuple #[.agg #[.int .i64 r_5.1.N, .int .u8 r_5.1.D], .bool r_5.2], .agg #[.int .i64 r_2.N, .int .u8 r_2.D], .string ⟨⟨e_4⟩⟩, .string ⟨⟨e_4⟩⟩, .tuple #[.agg #[.int .i64 r_5.1.N, .int .u8 r_5.1.D], .bool r_5.2], .agg #[.int .i64 r_5.1.N, .int .u8 r_5.1.D], .bool r_5.2, (u_2 0), (u_2 1), (u_2 2), (u_2 3), (u_2 4), (u_2 5), .bool x_2, undef, undef, undef, undef, undef, undef, undef, undef, undef, undef, undef, undef, undef, undef, undef, undef, undef, undef, undef, undef, undef, undef, undef, undef, undef, undef, undef, undef, undef, undef, undef, undef, undef, undef, undef, undef, undef, undef, undef, undef, undef, undef, undef, undef, undef, undef, undef, undef, undef, undef, undef, undef, undef, undef, undef, undef, undef, undef, undef, undef, undef, undef, undef, undef, undef, undef, undef, undef, undef, undef, undef, undef, undef, undef, undef, undef, undef, undef, undef, undef, undef] ∧ LOk w0.heap.size [some g_3, some g_2, blk a_1, some g_1] F w' ∧ Below w0.heap.size w0 w' ∧ Ow Rp.str 9 ([some g_3, some g_2, blk a_1, some g_1] ++ F) w' a_1 n_1 c_1 r_1 ∧ Bx w' g_1 [.int .i64 r_2.N, .int .u8 r_2.D] 23 ∧ Bx w' g_2 [.string ⟨⟨r_3.1.Base⟩⟩, .int .i64 r_3.1.Num, .int .i64 r_3.1.Den] 28 ∧ Bx w' g_3 [.string ⟨⟨r_4.1.Base⟩⟩, .int .i64 r_4.1.Num, .int .i64 r_4.1.Den] 28 ∧ m3_J2 fuel p4_0 r_1 e_4 e_5 e_6 r_2 r_3 r_4 x_2 = some r) ?_ ?_
      · refine cw_region ?_
        refine wl_val (v := .bool r_5.2) (w' := w_15) (by kernel_rfl) (run_move (v := .bool r_5.2) (by kernel_rfl)) ?_
        refine wl_val (v := .bool (!r_5.2)) (w' := w_15) (by kernel_rfl) (run_not (b := r_5.2) (by kernel_rfl)) ?_
        refine wl_val (v := .bool (!r_5.2)) (w' := w_15) (by kernel_rfl) (run_move (v := .bool (!r_5.2)) (by kernel_rfl)) ?_
        refine wl_norm [.agg #[.int .i64 p0_0.N, .int .u8 p0_0.D], .int .u8 p1_0, .int .u8 p2_0, .int .u8 p3_0, .string ⟨⟨p4_0⟩⟩, .pointer (some ⟨g_1, 0, none⟩), undef, undef, undef, undef, .bool false, .slice a_1 n_1 c_1, .string ⟨⟨e_4⟩⟩, .string ⟨⟨e_5⟩⟩, .string ⟨⟨e_6⟩⟩, .pointer (some ⟨g_2, 0, none⟩), .bool r_3.2, .pointer (some ⟨g_3, 0, none⟩), .bool r_4.2, .pointer (some ⟨g_4, 0, none⟩), .bool r_5.2, undef, undef, undef, undef, undef, undef, undef, undef, undef, undef, undef, undef, .slice a_1 n_1 c_1, .slice a_1 n_1 c_1, .int .u8 p1_0, .int .i64 (cvt .i64 p1_0), .slice a_1 n_1 c_1, .int .i64 (r_1.length : Int), .int .i64 (rem (cvt .i64 p1_0) (r_1.length : Int)), .pointer (some ⟨b_4, 0 + (rem (cvt .i64 p1_0) (r_1.length : Int)).toNat * 1, none⟩), .string ⟨⟨e_4⟩⟩, .slice a_1 n_1 c_1, .int .u8 p2_0, .int .i64 (cvt .i64 p2_0), .slice a_1 n_1 c_1, .int .i64 (r_1.length : Int), .int .i64 (rem (cvt .i64 p2_0) (r_1.length : Int)), .pointer (some ⟨b_5, 0 + (rem (cvt .i64 p2_0) (r_1.length : Int)).toNat * 1, none⟩), .string ⟨⟨e_5⟩⟩, .slice a_1 n_1 c_1, .int .u8 p3_0, .int .i64 (cvt .i64 p3_0), .slice a_1 n_1 c_1, .int .i64 (r_1.length : Int), .int .i64 (rem (cvt .i64 p3_0) (r_1.length : Int)), .pointer (some ⟨b_6, 0 + (rem (cvt .i64 p3_0) (r_1.length : Int)).toNat * 1, none⟩), .string ⟨⟨e_6⟩⟩, .agg #[.int .i64 p0_0.N, .int .u8 p0_0.D], .agg #[.int .i64 r_2.N, .int .u8 r_2.D], .tuple #[.agg #[.string ⟨⟨r_3.1.Base⟩⟩, .int .i64 r_3.1.Num, .int .i64 r_3.1.Den], .bool r_3.2], .string ⟨⟨e_4⟩⟩, .tuple #[.agg #[.string ⟨⟨r_3.1.Base⟩⟩, .int .i64 r_3.1.Num, .int .i64 r_3.1.Den], .bool r_3.2], .agg #[.string ⟨⟨r_3.1.Base⟩⟩, .int .i64 r_3.1.Num, .int .i64 r_3.1.Den], .bool r_3.2, .tuple #[.agg #[.string ⟨⟨r_4.1.Base⟩⟩, .int .i64 r_4.1.Num, .int .i64 r_4.1.Den], .bool r_4.2], .string ⟨⟨e_5⟩⟩, .tuple #[.agg #[.string ⟨⟨r_4.1.Base⟩⟩, .int .i64 r_4.1.Num, .int .i64 r_4.1.Den], .bool r_4.2], .agg #[.string ⟨⟨r_4.1.Base⟩⟩, .int .i64 r_4.1.Num, .int .i64 r_4.1.Den], .bool r_4.2, (u_1 0), (u_1 1), (u_1 2), (u_1 3), (u_1 4), (u_1 5), (u_1 6), (u_1 7), (u_1 8), (u_1 9), (u_1 10), (u_1 11), (u_1 12), (u_1 13), (u_1 14), .bool x_1, .tuple #[.agg #[.int .i64 r_5.1.N, .int .u8 r_5.1.D], .bool r_5.2], .agg #[.int .i64 r_2.N, .int .u8 r_2.D], .string ⟨⟨e_4⟩⟩, .string ⟨⟨e_4⟩⟩, .tuple #[.agg #[.int .i64 r_5.1.N, .int .u8 r_5.1.D], .bool r_5.2], .agg #[.int .i64 r_5.1.N, .int .u8 r_5.1.D], .bool r_5.2, .bool r_5.2, .bool (!r_5.2), .bool (!r_5.2), undef, undef, undef, undef, undef, undef, undef, undef, undef, undef, undef, undef, undef, undef, undef, undef, undef, undef, undef, undef, undef, undef, undef, undef, undef, undef, undef, undef, undef, undef, undef, undef, undef, undef, undef, undef, undef, undef, undef, undef, undef, undef, undef, undef, undef, undef, undef, undef, undef, undef, undef, undef, undef, undef, undef, undef, undef, undef, undef, undef, undef, undef, undef, undef, undef, undef, undef, undef, undef, undef, undef, undef, undef, undef, undef, undef, undef, undef, undef, undef, undef, undef, undef, undef, undef] (by kernel_rfl) ?_
        rcases Bool.eq_false_or_eq_true r_5.2 with hc_47 | hc_47
        · have hm := ite_t hm hc_47
          refine wl_val (v := .agg #[.int .i64 r_5.1.N, .int .u8 r_5.1.D]) (w' := w_15) (wg (c := (!r_5.2)) (want := false) (by kernel_rfl) (not_t hc_47) rfl) (run_load_boxn (j := 0) (vs := [.int .i64 r_5.1.N, .int .u8 r_5.1.D]) Tryd.underlying23 rfl sz_23 (by kernel_rfl) h_63 (by kernel_rfl) rfl) ?_
          refine wl_val (v := .agg #[.int .i64 r_2.N, .int .u8 r_2.D]) (w' := w_15) (wg (c := (!r_5.2)) (want := false) (by kernel_rfl) (not_t hc_47) rfl) (run_load_boxn (j := 0) (vs := [.int .i64 r_2.N, .int .u8 r_2.D]) Tryd.underlying23 rfl sz_23 (by kernel_rfl) h_54 (by kernel_rfl) rfl) ?_
          obtain ⟨c_9, h_146, hm⟩ := bind_e hm
          refine wl_val (v := .bool c_9) (w' := w_15) (wg (c := (!r_5.2)) (want := false) (by kernel_rfl) (not_t hc_47) rfl) (by rw [← Option.some.inj h_146]; exact run_ne_agg (r := ((eqi r_5.1.N r_2.N) && ((eqi r_5.1.D r_2.D) && true))) (by kernel_rfl) (by kernel_rfl) eg_23 eq_23) ?_
          refine wl_val (v := .bool c_9) (w' := w_15) (by kernel_rfl) (run_pick_f (v := .bool c_9) (tr2 (c := (!r_5.2)) (by kernel_rfl) (not_t hc_47)) (by kernel_rfl)) ?_
          refine wl_nil ?_
          have hS : Stp w0.heap.size _ [some g_3, some g_2, blk a_1, some g_1] F [] w_15 _ := Stp.pick hL [1, 2, 3, 4] rfl (by decide)
          replace h_3 := hS.ow h_3 nilB
          replace h_54 := hS.box h_54 nilN
          replace h_57 := hS.box h_57 nilN
          replace h_60 := hS.box h_60 nilN
          replace hB := hS.below hL hB
          replace hL := hS.hL
          exact then_c ⟨c_9, (fun i => ([.bool r_5.2, .bool (!r_5.2), .bool (!r_5.2), .agg #[.int .i64 r_5.1.N, .int .u8 r_5.1.D], .agg #[.int .i64 r_2.N, .int .u8 r_2.D], .bool c_9] : List Value).getD i undef), by kernel_rfl, hL, hB, h_3, h_54, h_57, h_60, hm⟩
        · have hm := ite_f hm hc_47
          refine wl_not0 (wg (c := (!r_5.2)) (want := false) (by kernel_rfl) (not_f hc_47) rfl) (by kernel_rfl) ?_
          refine wl_not0 (wg (c := (!r_5.2)) (want := false) (by kernel_rfl) (not_f hc_47) rfl) (by kernel_rfl) ?_
          refine wl_not0 (wg (c := (!r_5.2)) (want := false) (by kernel_rfl) (not_f hc_47) rfl) (by kernel_rfl) ?_
          refine wl_val (v := .bool true) (w' := w_15) (by kernel_rfl) (run_pick_t (v := .bool true) (tr2 (c := (!r_5.2)) (by kernel_rfl) (not_f hc_47)) (by kernel_rfl)) ?_
          refine wl_nil ?_
          have hS : Stp w0.heap.size _ [some g_3, some g_2, blk a_1, some g_1] F [] w_15 _ := Stp.pick hL [1, 2, 3, 4] rfl (by decide)
          replace h_3 := hS.ow h_3 nilB
          replace h_54 := hS.box h_54 nilN
          replace h_57 := hS.box h_57 nilN
          replace h_60 := hS.box h_60 nilN
          replace hB := hS.below hL hB
          replace hL := hS.hL
          exact then_c ⟨true, (fun i => ([.bool r_5.2, .bool (!r_5.2), .bool (!r_5.2), undef, undef, undef] : List Value).getD i undef), by kernel_rfl, hL, hB, h_3, h_54, h_57, h_60, hm⟩
      · intro l1 w_16 hI
        obtain ⟨x_2, u_2, rfl, hL, hB, h_3, h_54, h_57, h_60, hm⟩ := hI
        unfold m3_J2 at hm
        refine cw_cond (t := x_2) (by kernel_rfl) (fun hc_6 => ?_) (fun hc_6 => ?_)
        · have hm := ite_t hm hc_6
          refine cw_seq ?_
          refine cw_region ?_
          refine wl_val (v := .bool false) (w' := w_16) (by kernel_rfl) (run_assign (v := .bool false) (by kernel_rfl)) ?_
          refine wl_nil ?_
          refine then_n ?_
          refine cw_ret ?_
          refine then_ret ?_
          have hS : Stp w0.heap.size _ [] F [] w_16 _ := Stp.pick hL [] rfl (by decide)
          replace hB := hS.below hL hB
          replace hL := hS.hL
          obtain rfl := Option.some.inj hm
          exact ret1 (v := .bool false) rfl (resv_tmp (by kernel_rfl)) ⟨_, rfl, by kernel_rfl, hB⟩
        · have hm := ite_f hm hc_6
          refine cw_skip ?_
          refine then_n ?_
          refine cw_seq ?_
          refine cw_region ?_
          refine wl_val (v := .agg #[.int .i64 r_2.N, .int .u8 r_2.D]) (w' := w_16) (by kernel_rfl) (run_load_boxn (j := 0) (vs := [.int .i64 r_2.N, .int .u8 r_2.D]) Tryd.underlying23 rfl sz_23 (by kernel_rfl) h_54 (by kernel_rfl) rfl) ?_
          refine wl_val (v := .string ⟨⟨e_4⟩⟩) (w' := w_16) (by kernel_rfl) (run_move (v := .string ⟨⟨e_4⟩⟩) (by kernel_rfl)) ?_
          refine wl_val (v := .string ⟨⟨e_5⟩⟩) (w' := w_16) (by kernel_rfl) (run_move (v := .string ⟨⟨e_5⟩⟩) (by kernel_rfl)) ?_
          obtain ⟨r_6, h_65, hm⟩ := bind_e hm
          refine wl_op (by kernel_rfl) (ow_enter (run_callf (vs := [.agg #[.int .i64 r_2.N, .int .u8 r_2.D], .string ⟨⟨e_4⟩⟩, .string ⟨⟨e_5⟩⟩]) Tryd.func11 nm_11 (by kernel_rfl) (by kernel_rfl)) (f11_ok (p0_0 := r_2) (p1_0 := e_4) (p2_0 := e_5) fuel _ w_16 hL.lt  h_65) ?_)
          intro vR w_17 hR
          obtain ⟨rfl, hBe⟩ := hR
          have hS := Stp.call hL (Fz.of_below hBe [])
          replace h_3 := hS.ow h_3 nilB
          replace h_54 := hS.box h_54 nilN
          replace h_57 := hS.box h_57 nilN
          replace h_60 := hS.box h_60 nilN
          replace hB := hS.below hL hB
          replace hL := hS.hL
          refine wl_val (v := .tuple #[.agg #[.int .i64 r_6.1.N, .int .u8 r_6.1.D], .bool r_6.2]) (w' := w_17) (by kernel_rfl) (run_move (v := .tuple #[.agg #[.int .i64 r_6.1.N, .int .u8 r_6.1.D], .bool r_6.2]) (by kernel_rfl)) ?_
          refine wl_val (v := .agg #[.int .i64 r_6.1.N, .int .u8 r_6.1.D]) (w' := w_17) (by kernel_rfl) (run_extract (vs := #[.agg #[.int .i64 r_6.1.N, .int .u8 r_6.1.D], .bool r_6.2]) (by kernel_rfl) (by kernel_rfl)) ?_
          refine wl_val (v := .bool r_6.2) (w' := w_17) (by kernel_rfl) (run_extract (vs := #[.agg #[.int .i64 r_6.1.N, .int .u8 r_6.1.D], .bool r_6.2]) (by kernel_rfl) (by kernel_rfl)) ?_
          refine wl_op (by kernel_rfl) (ow_alloc' (z := .agg #[.int .i64 0, .int .u8 0]) (vs := [.int .i64 0, .int .u8 0]) (by kernel_rfl) rfl hL ?_)
          intro g_5 w_18 hS h_66
          replace h_3 := hS.ow h_3 nilB
          replace h_54 := hS.box h_54 nilN
          replace h_57 := hS.box h_57 nilN
          replace h_60 := hS.box h_60 nilN
          replace hB := hS.below hL hB
          replace hL := hS.hL
          refine wl_op (by kernel_rfl) (ow_store_box' (g := g_5) (j := 0) (v := .agg #[.int .i64 r_6.1.N, .int .u8 r_6.1.D]) (vs := [.int .i64 r_6.1.N, .int .u8 r_6.1.D]) (cs' := [.int .i64 r_6.1.N, .int .u8 r_6.1.D]) sz_23 (by kernel_rfl) (by kernel_rfl) rfl rfl rfl hL h_66 rfl (by simp) rfl ?_)
          intro w_19 hS h_67
          replace h_3 := hS.ow h_3 (hL.apart 3 0 rfl rfl (by decide))
          replace h_54 := hS.box h_54 (hL.apart 4 0 rfl rfl (by decide) _ rfl)
          replace h_57 := hS.box h_57 (hL.apart 2 0 rfl rfl (by decide) _ rfl)
          replace h_60 := hS.box h_60 (hL.apart 1 0 rfl rfl (by decide) _ rfl)
          replace hB := hS.below hL hB
          replace hL := hS.hL
          refine wl_val (v := .bool r_6.2) (w' := w_19) (by kernel_rfl) (run_assign (v := .bool r_6.2) (by kernel_rfl)) ?_
          refine wl_nil ?_
          refine then_n ?_
          refine cw_seq ?_
          refine cw_cut (fun l' w' => ∃ x_3, ∃ u_3 : Nat → Value, l' = [.agg #[.int .i64 p0_0.N, .int .u8 p0_0.D], .int .u8 p1_0, .int .u8 p2_0, .int .u8 p3_0, .string ⟨⟨p4_0⟩⟩, .pointer (some ⟨g_1, 0, none⟩), undef, undef, undef, undef, .bool false, .slice a_1 n_1 c_1, .string ⟨⟨e_4⟩⟩, .string ⟨⟨e_5⟩⟩, .string ⟨⟨e_6⟩⟩, .pointer (some ⟨g_2, 0, none⟩), .bool r_3.2, .pointer (some ⟨g_3, 0, none⟩), .bool r_4.2, .pointer (some ⟨g_4, 0, none⟩), .bool r_5.2, .pointer (some ⟨g_5, 0, none⟩), .bool r_6.2, undef, undef, undef, undef, undef, undef, undef, undef, undef, undef, .slice a_1 n_1 c_1, .slice a_1 n_1 c_1, .int .u8 p1_0, .int .i64 (cvt .i64 p1_0), .slice a_1 n_1 c_1, .int .i64 (r_1.length : Int), .int .i64 (rem (cvt .i64 p1_0) (r_1.length : Int)), .pointer (some ⟨b_4, 0 + (rem (cvt .i64 p1_0) (r_1.length : Int)).toNat * 1, none⟩), .string ⟨⟨e_4⟩⟩, .slice a_1 n_1 c_1, .int .u8 p2_0, .int .i64 (cvt .i64 p2_0), .slice a_1 n_1 c_1, .int .i64 (r_1.length : Int), .int .i64 (rem (cvt .i64 p2_0) (r_1.length : Int)), .pointer (some ⟨b_5, 0 + (rem (cvt .i64 p2_0) (r_1.length : Int)).toNat * 1, none⟩), .string ⟨⟨e_5⟩⟩, .slice a_1 n_1 c_1, .int .u8 p3_0, .int .i64 (cvt .i64 p3_0), .slice a_1 n_1 c_1, .int .i64 (r_1.length : Int), .int .i64 (rem (cvt .i64 p3_0) (r_1.length : Int)), .pointer (some ⟨b_6, 0 + (rem (cvt .i64 p3_0) (r_1.length : Int)).toNat * 1, none⟩), .string ⟨⟨e_6⟩⟩, .agg #[.int .i64 p0_0.N, .int .u8 p0_0.D], .agg #[.int .i64 r_2.N, .int .u8 r_2.D], .tuple #[.agg #[.string ⟨⟨r_3.1.Base⟩⟩, .int .i64 r_3.1.Num, .int .i64 r_3.1.Den], .bool r_3.2], .string ⟨⟨e_4⟩⟩, .tuple #[.agg #[.string ⟨⟨r_3.1.Base⟩⟩, .int .i64 r_3.1.Num, .int .i64 r_3.1.Den], .bool r_3.2], .agg #[.string ⟨⟨r_3.1.Base⟩⟩, .int .i64 r_3.1.Num, .int .i64 r_3.1.Den], .bool r_3.2, .tuple #[.agg #[.string ⟨⟨r_4.1.Base⟩⟩, .int .i64 r_4.1.Num, .int .i64 r_4.1.Den], .bool r_4.2], .string ⟨⟨e_5⟩⟩, .tuple #[.agg #[.string ⟨⟨r_4.1.Base⟩⟩, .int .i64 r_4.1.Num, .int .i64 r_4.1.Den], .bool r_4.2], .agg #[.string ⟨⟨r_4.1.Base⟩⟩, .int .i64 r_4.1.Num, .int .i64 r_4.1.Den], .bool r_4.2, (u_1 0), (u_1 1), (u_1 2), (u_1 3), (u_1 4), (u_1 5), (u_1 6), (u_1 7), (u_1 8), (u_1 9), (u_1 10), (u_1 11), (u_1 12), (u_1 13), (u_1 14), .bool x_1, .tuple #[.agg #[.int .i64 r_5.1.N, .int .u8 r_5.1.D], .bool r_5.2], .agg #[.int .i64 r_2.N, .int .u8 r_2.D], .string ⟨⟨e_4⟩⟩, .string ⟨⟨e_4⟩⟩, .tuple #[.agg #[.int .i64 r_5.1.N, .int .u8 r_5.1.D], .bool r_5.2], .agg #[.int .i64 r_5.1.N, .int .u8 r_5.1.D], .bool r_5.2, (u_2 0), (u_2 1), (u_2 2), (u_2 3), (u_2 4), (u_2 5), .bool x_2, .tuple #[.agg #[.int .i64 r_6.1.N, .int .u8 r_6.1.D], .bool r_6.2], .agg #[.int .i64 r_2.N, .int .u8 r_2.D], .string ⟨⟨e_4⟩⟩, .string ⟨⟨e_5⟩⟩, .tuple #[.agg #[.int .i64 r_6.1.N, .int .u8 r_6.1.D], .bool r_6.2], .agg #[.int .i64 r_6.1.N, .int .u8 r_6.1.D], .bool r_6.2, (u_3 0), (u_3 1), (u_3 2), (u_3 3), (u_3 4), (u_3 5), (u_3 6), .bool x_3, undef, undef, undef, undef, undef, undef, undef, undef, undef, undef, undef, undef, undef, undef, undef, undef, undef, undef, undef, undef, undef, undef, undef, undef, undef, undef, undef, undef, undef, undef, undef, undef, undef, undef, undef, undef, undef, undef, undef, undef, undef, undef, undef, undef, undef, undef, undef, undef, undef, undef, undef, undef, undef, undef, undef, undef, undef, undef, undef, undef, undef, undef, undef, undef, undef, undef] ∧ LOk w0.heap.size [some g_5, blk a_1, some g_1] F w' ∧ Below w0.heap.size w0 w' ∧ Ow Rp.str 9 ([some g_5, blk a_1, some g_1] ++ F) w' a_1 n_1 c_1 r_1 ∧ Bx w' g_1 [.int .i64 r_2.N, .int .u8 r_2.D] 23 ∧ Bx w' g_5 [.int .i64 r_6.1.N, .int .u8 r_6.1.D] 23 ∧ m3_J3 fuel p4_0 r_1 e_4 e_5 e_6 r_2 r_6 x_3 = some r) ?_ ?_
          · refine cw_region ?_
            refine wl_val (v := .bool r_6.2) (w' := w_19) (by kernel_rfl) (run_move (v := .bool r_6.2) (by kernel_rfl)) ?_
            refine wl_val (v := .bool r_6.2) (w' := w_19) (by kernel_rfl) (run_move (v := .bool r_6.2) (by kernel_rfl)) ?_
            refine wl_norm [.agg #[.int .i64 p0_0.N, .int .u8 p0_0.D], .int .u8 p1_0, .int .u8 p2_0, .int .u8 p3_0, .string ⟨⟨p4_0⟩⟩, .pointer (some ⟨g_1, 0, none⟩), undef, undef, undef, undef, .bool false, .slice a_1 n_1 c_1, .string ⟨⟨e_4⟩⟩, .string ⟨⟨e_5⟩⟩, .string ⟨⟨e_6⟩⟩, .pointer (some ⟨g_2, 0, none⟩), .bool r_3.2, .pointer (some ⟨g_3, 0, none⟩), .bool r_4.2, .pointer (some ⟨g_4, 0, none⟩), .bool r_5.2, .pointer (some ⟨g_5, 0, none⟩), .bool r_6.2, undef, undef, undef, undef, undef, undef, undef, undef, undef, undef, .slice a_1 n_1 c_1, .slice a_1 n_1 c_1, .int .u8 p1_0, .int .i64 (cvt .i64 p1_0), .slice a_1 n_1 c_1, .int .i64 (r_1.length : Int), .int .i64 (rem (cvt .i64 p1_0) (r_1.length : Int)), .pointer (some ⟨b_4, 0 + (rem (cvt .i64 p1_0) (r_1.length : Int)).toNat * 1, none⟩), .string ⟨⟨e_4⟩⟩, .slice a_1 n_1 c_1, .int .u8 p2_0, .int .i64 (cvt .i64 p2_0), .slice a_1 n_1 c_1, .int .i64 (r_1.length : Int), .int .i64 (rem (cvt .i64 p2_0) (r_1.length : Int)), .pointer (some ⟨b_5, 0 + (rem (cvt .i64 p2_0) (r_1.length : Int)).toNat * 1, none⟩), .string ⟨⟨e_5⟩⟩, .slice a_1 n_1 c_1, .int .u8 p3_0, .int .i64 (cvt .i64 p3_0), .slice a_1 n_1 c_1, .int .i64 (r_1.length : Int), .int .i64 (rem (cvt .i64 p3_0) (r_1.length : Int)), .pointer (some ⟨b_6, 0 + (rem (cvt .i64 p3_0) (r_1.length : Int)).toNat * 1, none⟩), .string ⟨⟨e_6⟩⟩, .agg #[.int .i64 p0_0.N, .int .u8 p0_0.D], .agg #[.int .i64 r_2.N, .int .u8 r_2.D], .tuple #[.agg #[.string ⟨⟨r_3.1.Base⟩⟩, .int .i64 r_3.1.Num, .int .i64 r_3.1.Den], .bool r_3.2], .string ⟨⟨e_4⟩⟩, .tuple #[.agg #[.string ⟨⟨r_3.1.Base⟩⟩, .int .i64 r_3.1.Num, .int .i64 r_3.1.Den], .bool r_3.2], .agg #[.string ⟨⟨r_3.1.Base⟩⟩, .int .i64 r_3.1.Num, .int .i64 r_3.1.Den], .bool r_3.2, .tuple #[.agg #[.string ⟨⟨r_4.1.Base⟩⟩, .int .i64 r_4.1.Num, .int .i64 r_4.1.Den], .bool r_4.2], .string ⟨⟨e_5⟩⟩, .tuple #[.agg #[.string ⟨⟨r_4.1.Base⟩⟩, .int .i64 r_4.1.Num, .int .i64 r_4.1.Den], .bool r_4.2], .agg #[.string ⟨⟨r_4.1.Base⟩⟩, .int .i64 r_4.1.Num, .int .i64 r_4.1.Den], .bool r_4.2, (u_1 0), (u_1 1), (u_1 2), (u_1 3), (u_1 4), (u_1 5), (u_1 6), (u_1 7), (u_1 8), (u_1 9), (u_1 10), (u_1 11), (u_1 12), (u_1 13), (u_1 14), .bool x_1, .tuple #[.agg #[.int .i64 r_5.1.N, .int .u8 r_5.1.D], .bool r_5.2], .agg #[.int .i64 r_2.N, .int .u8 r_2.D], .string ⟨⟨e_4⟩⟩, .string ⟨⟨e_4⟩⟩, .tuple #[.agg #[.int .i64 r_5.1.N, .int .u8 r_5.1.D], .bool r_5.2], .agg #[.int .i64 r_5.1.N, .int .u8 r_5.1.D], .bool r_5.2, (u_2 0), (u_2 1), (u_2 2), (u_2 3), (u_2 4), (u_2 5), .bool x_2, .tuple #[.agg #[.int .i64 r_6.1.N, .int .u8 r_6.1.D], .bool r_6.2], .agg #[.int .i64 r_2.N, .int .u8 r_2.D], .string ⟨⟨e_4⟩⟩, .string ⟨⟨e_5⟩⟩, .tuple #[.agg #[.int .i64 r_6.1.N, .int .u8 r_6.1.D], .bool r_6.2], .agg #[.int .i64 r_6.1.N, .int .u8 r_6.1.D], .bool r_6.2, .bool r_6.2, .bool r_6.2, undef, undef, undef, undef, undef, undef, undef, undef, undef, undef, undef, undef, undef, undef, undef, undef, undef, undef, undef, undef, undef, undef, undef, undef, undef, undef, undef, undef, undef, undef, undef, undef, undef, undef, undef, undef, undef, undef, undef, undef, undef, undef, undef, undef, undef, undef, undef, undef, undef, undef, undef, undef, undef, undef, undef, undef, undef, undef, undef, undef, undef, undef, undef, undef, undef, undef, undef, undef, undef, undef, undef, undef] (by kernel_rfl) ?_
            rcases Bool.eq_false_or_eq_true r_6.2 with hc_46 | hc_46
            · have hm := ite_t hm hc_46
              refine wl_val (v := .pointer (some ⟨g_2, 0, none⟩)) (w' := w_19) (wg (c := r_6.2) (want := true) (by kernel_rfl) hc_46 rfl) (run_fieldAddr (b := g_2) (o := 0) fo_28_0 (by kernel_rfl)) ?_
              refine wl_val (v := .string ⟨⟨r_3.1.Base⟩⟩) (w' := w_19) (wg (c := r_6.2) (want := true) (by kernel_rfl) hc_46 rfl) (run_load_box1 (j := 0) Tryd.underlying9 rfl (by kernel_rfl) h_57 (by kernel_rfl)) ?_
              refine wl_val (v := .pointer (some ⟨g_3, 0, none⟩)) (w' := w_19) (wg (c := r_6.2) (want := true) (by kernel_rfl) hc_46 rfl) (run_fieldAddr (b := g_3) (o := 0) fo_28_0 (by kernel_rfl)) ?_
              refine wl_val (v := .string ⟨⟨r_4.1.Base⟩⟩) (w' := w_19) (wg (c := r_6.2) (want := true) (by kernel_rfl) hc_46 rfl) (run_load_box1 (j := 0) Tryd.underlying9 rfl (by kernel_rfl) h_60 (by kernel_rfl)) ?_
              refine wl_val (v := .bool (nes r_3.1.Base r_4.1.Base)) (w' := w_19) (wg (c := r_6.2) (want := true) (by kernel_rfl) hc_46 rfl) (run_nes (a := r_3.1.Base) (b := r_4.1.Base) (by kernel_rfl) (by kernel_rfl)) ?_
              refine wl_val (v := .bool (nes r_3.1.Base r_4.1.Base)) (w' := w_19) (by kernel_rfl) (run_pick_t (v := .bool (nes r_3.1.Base r_4.1.Base)) (tr2 (c := r_6.2) (by kernel_rfl) hc_46) (by kernel_rfl)) ?_
              refine wl_nil ?_
              have hS : Stp w0.heap.size _ [some g_5, blk a_1, some g_1] F [] w_19 _ := Stp.pick hL [0, 3, 4] rfl (by decide)
              replace h_3 := hS.ow h_3 nilB
              replace h_54 := hS.box h_54 nilN
              replace h_67 := hS.box h_67 nilN
              replace hB := hS.below hL hB
              replace hL := hS.hL
              exact then_c ⟨(nes r_3.1.Base r_4.1.Base), (fun i => ([.bool r_6.2, .bool r_6.2, .pointer (some ⟨g_2, 0, none⟩), .string ⟨⟨r_3.1.Base⟩⟩, .pointer (some ⟨g_3, 0, none⟩), .string ⟨⟨r_4.1.Base⟩⟩, .bool (nes r_3.1.Base r_4.1.Base)] : List Value).getD i undef), by kernel_rfl, hL, hB, h_3, h_54, h_67, hm⟩
            · have hm := ite_f hm hc_46
              refine wl_not0 (wg (c := r_6.2) (want := true) (by kernel_rfl) hc_46 rfl) (by kernel_rfl) ?_
              refine wl_not0 (wg (c := r_6.2) (want := true) (by kernel_rfl) hc_46 rfl) (by kernel_rfl) ?_
              refine wl_not0 (wg (c := r_6.2) (want := true) (by kernel_rfl) hc_46 rfl) (by kernel_rfl) ?_
              refine wl_not0 (wg (c := r_6.2) (want := true) (by kernel_rfl) hc_46 rfl) (by kernel_rfl) ?_
              refine wl_not0 (wg (c := r_6.2) (want := true) (by kernel_rfl) hc_46 rfl) (by kernel_rfl) ?_
              refine wl_val (v := .bool false) (w' := w_19) (by kernel_rfl) (run_pick_f (v := .bool false) (tr2 (c := r_6.2) (by kernel_rfl) hc_46) (by kernel_rfl)) ?_
              refine wl_nil ?_
              have hS : Stp w0.heap.size _ [some g_5, blk a_1, some g_1] F [] w_19 _ := Stp.pick hL [0, 3, 4] rfl (by decide)
              replace h_3 := hS.ow h_3 nilB
              replace h_54 := hS.box h_54 nilN
              replace h_67 := hS.box h_67 nilN
              replace hB := hS.below hL hB
              replace hL := hS.hL
              exact then_c ⟨false, (fun i => ([.bool r_6.2, .bool r_6.2, undef, undef, undef, undef, undef] : List Value).getD i undef), by kernel_rfl, hL, hB, h_3, h_54, h_67, hm⟩
          · intro l1 w_20 hI
            obtain ⟨x_3, u_3, rfl, hL, hB, h_3, h_54, h_67, hm⟩ := hI
            unfold m3_J3 at hm
            refine cw_cond (t := x_3) (by kernel_rfl) (fun hc_8 => ?_) (fun hc_8 => ?_)
            · have hm := ite_t hm hc_8
              refine cw_seq ?_
              refine cw_region ?_
              refine wl_val (v := .bool false) (w' := w_20) (by kernel_rfl) (run_assign (v := .bool false) (by kernel_rfl)) ?_
              refine wl_nil ?_
              refine then_n ?_
              refine cw_ret ?_
              refine then_ret ?_
              have hS : Stp w0.heap.size _ [] F [] w_20 _ := Stp.pick hL [] rfl (by decide)
              replace hB := hS.below hL hB
              replace hL := hS.hL
              obtain rfl := Option.some.inj hm
              exact ret1 (v := .bool false) rfl (resv_tmp (by kernel_rfl)) ⟨_, rfl, by kernel_rfl, hB⟩
            · have hm := ite_f hm hc_8
              refine cw_skip ?_
              refine then_n ?_
              refine cw_cut (fun l' w' => ∃ u_6 : Nat → Value, l' = [.agg #[.int .i64 p0_0.N, .int .u8 p0_0.D], .int .u8 p1_0, .int .u8 p2_0, .int .u8 p3_0, .string ⟨⟨p4_0⟩⟩, .pointer (some ⟨g_1, 0, none⟩), undef, undef, undef, undef, (u_6 0), .slice a_1 n_1 c_1, .string ⟨⟨e_4⟩⟩, .string ⟨⟨e_5⟩⟩, .string ⟨⟨e_6⟩⟩, .pointer (some ⟨g_2, 0, none⟩), .bool r_3.2, .pointer (some ⟨g_3, 0, none⟩), .bool r_4.2, .pointer (some ⟨g_4, 0, none⟩), .bool r_5.2, .pointer (some ⟨g_5, 0, none⟩), .bool r_6.2, (u_6 1), (u_6 2), (u_6 3), (u_6 4), (u_6 5), (u_6 6), undef, undef, undef, undef, .slice a_1 n_1 c_1, .slice a_1 n_1 c_1, .int .u8 p1_0, .int .i64 (cvt .i64 p1_0), .slice a_1 n_1 c_1, .int .i64 (r_1.length : Int), .int .i64 (rem (cvt .i64 p1_0) (r_1.length : Int)), .pointer (some ⟨b_4, 0 + (rem (cvt .i64 p1_0) (r_1.length : Int)).toNat * 1, none⟩), .string ⟨⟨e_4⟩⟩, .slice a_1 n_1 c_1, .int .u8 p2_0, .int .i64 (cvt .i64 p2_0), .slice a_1 n_1 c_1, .int .i64 (r_1.length : Int), .int .i64 (rem (cvt .i64 p2_0) (r_1.length : Int)), .pointer (some ⟨b_5, 0 + (rem (cvt .i64 p2_0) (r_1.length : Int)).toNat * 1, none⟩), .string ⟨⟨e_5⟩⟩, .slice a_1 n_1 c_1, .int .u8 p3_0, .int .i64 (cvt .i64 p3_0), .slice a_1 n_1 c_1, .int .i64 (r_1.length : Int), .int .i64 (rem (cvt .i64 p3_0) (r_1.length : Int)), .pointer (some ⟨b_6, 0 + (rem (cvt .i64 p3_0) (r_1.length : Int)).toNat * 1, none⟩), .string ⟨⟨e_6⟩⟩, .agg #[.int .i64 p0_0.N, .int .u8 p0_0.D], .agg #[.int .i64 r_2.N, .int .u8 r_2.D], .tuple #[.agg #[.string ⟨⟨r_3.1.Base⟩⟩, .int .i64 r_3.1.Num, .int .i64 r_3.1.Den], .bool r_3.2], .string ⟨⟨e_4⟩⟩, .tuple #[.agg #[.string ⟨⟨r_3.1.Base⟩⟩, .int .i64 r_3.1.Num, .int .i64 r_3.1.Den], .bool r_3.2], .agg #[.string ⟨⟨r_3.1.Base⟩⟩, .int .i64 r_3.1.Num, .int .i64 r_3.1.Den], .bool r_3.2, .tuple #[.agg #[.string ⟨⟨r_4.1.Base⟩⟩, .int .i64 r_4.1.Num, .int .i64 r_4.1.Den], .bool r_4.2], .string ⟨⟨e_5⟩⟩, .tuple #[.agg #[.string ⟨⟨r_4.1.Base⟩⟩, .int .i64 r_4.1.Num, .int .i64 r_4.1.Den], .bool r_4.2], .agg #[.string ⟨⟨r_4.1.Base⟩⟩, .int .i64 r_4.1.Num, .int .i64 r_4.1.Den], .bool r_4.2, (u_1 0), (u_1 1), (u_1 2), (u_1 3), (u_1 4), (u_1 5), (u_1 6), (u_1 7), (u_1 8), (u_1 9), (u_1 10), (u_1 11), (u_1 12), (u_1 13), (u_1 14), .bool x_1, .tuple #[.agg #[.int .i64 r_5.1.N, .int .u8 r_5.1.D], .bool r_5.2], .agg #[.int .i64 r_2.N, .int .u8 r_2.D], .string ⟨⟨e_4⟩⟩, .string ⟨⟨e_4⟩⟩, .tuple #[.agg #[.int .i64 r_5.1.N, .int .u8 r_5.1.D], .bool r_5.2], .agg #[.int .i64 r_5.1.N, .int .u8 r_5.1.D], .bool r_5.2, (u_2 0), (u_2 1), (u_2 2), (u_2 3), (u_2 4), (u_2 5), .bool x_2, .tuple #[.agg #[.int .i64 r_6.1.N, .int .u8 r_6.1.D], .bool r_6.2], .agg #[.int .i64 r_2.N, .int .u8 r_2.D], .string ⟨⟨e_4⟩⟩, .string ⟨⟨e_5⟩⟩, .tuple #[.agg #[.int .i64 r_6.1.N, .int .u8 r_6.1.D], .bool r_6.2], .agg #[.int .i64 r_6.1.N, .int .u8 r_6.1.D], .bool r_6.2, (u_3 0), (u_3 1), (u_3 2), (u_3 3), (u_3 4), (u_3 5), (u_3 6), .bool x_3, (u_6 7), (u_6 8), (u_6 9), (u_6 10), (u_6 11), (u_6 12), (u_6 13), (u_6 14), (u_6 15), (u_6 16), (u_6 17), (u_6 18), (u_6 19), (u_6 20), (u_6 21), (u_6 22), (u_6 23), (u_6 24), (u_6 25), (u_6 26), (u_6 27), (u_6 28), (u_6 29), (u_6 30), (u_6 31), (u_6 32), (u_6 33), (u_6 34), (u_6 35), (u_6 36), (u_6 37), (u_6 38), (u_6 39), (u_6 40), (u_6 41), (u_6 42), (u_6 43), undef, undef, undef, undef, undef, undef, undef, undef, undef, undef, undef, undef, undef, undef, undef, undef, undef, undef, undef, undef, undef, undef, undef, undef, undef, undef, undef, undef, undef] ∧ LOk w0.heap.size [blk a_1] F w' ∧ Below w0.heap.size w0 w' ∧ Ow Rp.str 9 ([blk a_1] ++ F) w' a_1 n_1 c_1 r_1 ∧ m3_J4 fuel p4_0 r_1  = some r) ?_ ?_
              · refine cw_seq ?_
                refine cw_region ?_
                refine wl_val (v := .bool r_6.2) (w' := w_20) (by kernel_rfl) (run_move (v := .bool r_6.2) (by kernel_rfl)) ?_
                refine wl_nil ?_
                refine then_n ?_
                refine cw_cond (t := r_6.2) (by kernel_rfl) (fun hc_38 => ?_) (fun hc_38 => ?_)
                · have hm := ite_t hm hc_38
                  refine cw_seq ?_
                  refine cw_region ?_
                  refine wl_val (v := .agg #[.int .i64 r_6.1.N, .int .u8 r_6.1.D]) (w' := w_20) (by kernel_rfl) (run_load_boxn (j := 0) (vs := [.int .i64 r_6.1.N, .int .u8 r_6.1.D]) Tryd.underlying23 rfl sz_23 (by kernel_rfl) h_67 (by kernel_rfl) rfl) ?_
                  refine wl_val (v := .string ⟨⟨e_5⟩⟩) (w' := w_20) (by kernel_rfl) (run_move (v := .string ⟨⟨e_5⟩⟩) (by kernel_rfl)) ?_
                  refine wl_val (v := .string ⟨⟨e_4⟩⟩) (w' := w_20) (by kernel_rfl) (run_move (v := .string ⟨⟨e_4⟩⟩) (by kernel_rfl)) ?_
                  obtain ⟨r_20, h_133, hm⟩ := bind_e hm
                  refine wl_op (by kernel_rfl) (ow_enter (run_callf (vs := [.agg #[.int .i64 r_6.1.N, .int .u8 r_6.1.D], .string ⟨⟨e_5⟩⟩, .string ⟨⟨e_4⟩⟩]) Tryd.func11 nm_11 (by kernel_rfl) (by kernel_rfl)) (f11_ok (p0_0 := r_6.1) (p1_0 := e_5) (p2_0 := e_4) fuel _ w_20 hL.lt  h_133) ?_)
                  intro vR w_47 hR
                  obtain ⟨rfl, hBe⟩ := hR
                  have hS := Stp.call hL (Fz.of_below hBe [])
                  replace h_3 := hS.ow h_3 nilB
                  replace h_54 := hS.box h_54 nilN
                  replace h_67 := hS.box h_67 nilN
                  replace hB := hS.below hL hB
                  replace hL := hS.hL
                  refine wl_val (v := .tuple #[.agg #[.int .i64 r_20.1.N, .int .u8 r_20.1.D], .bool r_20.2]) (w' := w_47) (by kernel_rfl) (run_move (v := .tuple #[.agg #[.int .i64 r_20.1.N, .int .u8 r_20.1.D], .bool r_20.2]) (by kernel_rfl)) ?_
                  refine wl_val (v := .agg #[.int .i64 r_20.1.N, .int .u8 r_20.1.D]) (w' := w_47) (by kernel_rfl) (run_extract (vs := #[.agg #[.int .i64 r_20.1.N, .int .u8 r_20.1.D], .bool r_20.2]) (by kernel_rfl) (by kernel_rfl)) ?_
                  refine wl_val (v := .bool r_20.2) (w' := w_47) (by kernel_rfl) (run_extract (vs := #[.agg #[.int .i64 r_20.1.N, .int .u8 r_20.1.D], .bool r_20.2]) (by kernel_rfl) (by kernel_rfl)) ?_
                  refine wl_op (by kernel_rfl) (ow_alloc' (z := .agg #[.int .i64 0, .int .u8 0]) (vs := [.int .i64 0, .int .u8 0]) (by kernel_rfl) rfl hL ?_)
                  intro g_10 w_48 hS h_134
                  replace h_3 := hS.ow h_3 nilB
                  replace h_54 := hS.box h_54 nilN
                  replace h_67 := hS.box h_67 nilN
                  replace hB := hS.below hL hB
                  replace hL := hS.hL
                  refine wl_op (by kernel_rfl) (ow_store_box' (g := g_10) (j := 0) (v := .agg #[.int .i64 r_20.1.N, .int .u8 r_20.1.D]) (vs := [.int .i64 r_20.1.N, .int .u8 r_20.1.D]) (cs' := [.int .i64 r_20.1.N, .int .u8 r_20.1.D]) sz_23 (by kernel_rfl) (by kernel_rfl) rfl rfl rfl hL h_134 rfl (by simp) rfl ?_)
                  intro w_49 hS h_135
                  replace h_3 := hS.ow h_3 (hL.apart 2 0 rfl rfl (by decide))
                  replace h_54 := hS.box h_54 (hL.apart 3 0 rfl rfl (by decide) _ rfl)
                  replace h_67 := hS.box h_67 (hL.apart 1 0 rfl rfl (by decide) _ rfl)
                  replace hB := hS.below hL hB
                  replace hL := hS.hL
                  refine wl_val (v := .bool r_20.2) (w' := w_49) (by kernel_rfl) (run_assign (v := .bool r_20.2) (by kernel_rfl)) ?_
                  refine wl_nil ?_
                  refine then_n ?_
                  refine cw_seq ?_
                  refine cw_cut (fun l' w' => ∃ x_15, ∃ u_19 : Nat → Value, l' = [.agg #[.int .i64 p0_0.N, .int .u8 p0_0.D], .int .u8 p1_0, .int .u8 p2_0, .int .u8 p3_0, .string ⟨⟨p4_0⟩⟩, .pointer (some ⟨g_1, 0, none⟩), undef, undef, undef, undef, .bool false, .slice a_1 n_1 c_1, .string ⟨⟨e_4⟩⟩, .string ⟨⟨e_5⟩⟩, .string ⟨⟨e_6⟩⟩, .pointer (some ⟨g_2, 0, none⟩), .bool r_3.2, .pointer (some ⟨g_3, 0, none⟩), .bool r_4.2, .pointer (some ⟨g_4, 0, none⟩), .bool r_5.2, .pointer (some ⟨g_5, 0, none⟩), .bool r_6.2, .pointer (some ⟨g_10, 0, none⟩), .bool r_20.2, undef, undef, undef, undef, undef, undef, undef, undef, .slice a_1 n_1 c_1, .slice a_1 n_1 c_1, .int .u8 p1_0, .int .i64 (cvt .i64 p1_0), .slice a_1 n_1 c_1, .int .i64 (r_1.length : Int), .int .i64 (rem (cvt .i64 p1_0) (r_1.length : Int)), .pointer (some ⟨b_4, 0 + (rem (cvt .i64 p1_0) (r_1.length : Int)).toNat * 1, none⟩), .string ⟨⟨e_4⟩⟩, .slice a_1 n_1 c_1, .int .u8 p2_0, .int .i64 (cvt .i64 p2_0), .slice a_1 n_1 c_1, .int .i64 (r_1.length : Int), .int .i64 (rem (cvt .i64 p2_0) (r_1.length : Int)), .pointer (some ⟨b_5, 0 + (rem (cvt .i64 p2_0) (r_1.length : Int)).toNat * 1, none⟩), .string ⟨⟨e_5⟩⟩, .slice a_1 n_1 c_1, .int .u8 p3_0, .int .i64 (cvt .i64 p3_0), .slice a_1 n_1 c_1, .int .i64 (r_1.length : Int), .int .i64 (rem (cvt .i64 p3_0) (r_1.length : Int)), .pointer (some ⟨b_6, 0 + (rem (cvt .i64 p3_0) (r_1.length : Int)).toNat * 1, none⟩), .string ⟨⟨e_6⟩⟩, .agg #[.int .i64 p0_0.N, .int .u8 p0_0.D], .agg #[.int .i64 r_2.N, .int .u8 r_2.D], .tuple #[.agg #[.string ⟨⟨r_3.1.Base⟩⟩, .int .i64 r_3.1.Num, .int .i64 r_3.1.Den], .bool r_3.2], .string ⟨⟨e_4⟩⟩, .tuple #[.agg #[.string ⟨⟨r_3.1.Base⟩⟩, .int .i64 r_3.1.Num, .int .i64 r_3.1.Den], .bool r_3.2], .agg #[.string ⟨⟨r_3.1.Base⟩⟩, .int .i64 r_3.1.Num, .int .i64 r_3.1.Den], .bool r_3.2, .tuple #[.agg #[.string ⟨⟨r_4.1.Base⟩⟩, .int .i64 r_4.1.Num, .int .i64 r_4.1.Den], .bool r_4.2], .string ⟨⟨e_5⟩⟩, .tuple #[.agg #[.string ⟨⟨r_4.1.Base⟩⟩, .int .i64 r_4.1.Num, .int .i64 r_4.1.Den], .bool r_4.2], .agg #[.string ⟨⟨r_4.1.Base⟩⟩, .int .i64 r_4.1.Num, .int .i64 r_4.1.Den], .bool r_4.2, (u_1 0), (u_1 1), (u_1 2), (u_1 3), (u_1 4), (u_1 5), (u_1 6), (u_1 7), (u_1 8), (u_1 9), (u_1 10), (u_1 11), (u_1 12), (u_1 13), (u_1 14), .bool x_1, .tuple #[.agg #[.int .i64 r_5.1.N, .int .u8 r_5.1.D], .bool r_5.2], .agg #[.int .i64 r_2.N, .int .u8 r_2.D], .string ⟨⟨e_4⟩⟩, .string ⟨⟨e_4⟩⟩, .tuple #[.agg #[.int .i64 r_5.1.N, .int .u8 r_5.1.D], .bool r_5.2], .agg #[.int .i64 r_5.1.N, .int .u8 r_5.1.D], .bool r_5.2, (u_2 0), (u_2 1), (u_2 2), (u_2 3), (u_2 4), (u_2 5), .bool x_2, .tuple #[.agg #[.int .i64 r_6.1.N, .int .u8 r_6.1.D], .bool r_6.2], .agg #[.int .i64 r_2.N, .int .u8 r_2.D], .string ⟨⟨e_4⟩⟩, .string ⟨⟨e_5⟩⟩, .tuple #[.agg #[.int .i64 r_6.1.N, .int .u8 r_6.1.D], .bool r_6.2], .agg #[.int .i64 r_6.1.N, .int .u8 r_6.1.D], .bool r_6.2, (u_3 0), (u_3 1), (u_3 2), (u_3 3), (u_3 4), (u_3 5), (u_3 6), .bool x_3, .bool r_6.2, .tuple #[.agg #[.int .i64 r_20.1.N, .int .u8 r_20.1.D], .bool r_20.2], .agg #[.int .i64 r_6.1.N, .int .u8 r_6.1.D], .string ⟨⟨e_5⟩⟩, .string ⟨⟨e_4⟩⟩, .tuple #[.agg #[.int .i64 r_20.1.N, .int .u8 r_20.1.D], .bool r_20.2], .agg #[.int .i64 r_20.1.N, .int .u8 r_20.1.D], .bool r_20.2, (u_19 0), (u_19 1), (u_19 2), (u_19 3), (u_19 4), (u_19 5), .bool x_15, undef, undef, undef, undef, undef, undef, undef, undef, undef, undef, undef, undef, undef, undef, undef, undef, undef, undef, undef, undef, undef, undef, undef, undef, undef, undef, undef, undef, undef, undef, undef, undef, undef, undef, undef, undef, undef, undef, undef, undef, undef, undef, undef, undef, undef, undef, undef, undef, undef, undef, undef] ∧ LOk w0.heap.size [some g_5, blk a_1, some g_1] F w' ∧ Below w0.heap.size w0 w' ∧ Ow Rp.str 9 ([some g_5, blk a_1, some g_1] ++ F) w' a_1 n_1 c_1 r_1 ∧ Bx w' g_1 [.int .i64 r_2.N, .int .u8 r_2.D] 23 ∧ Bx w' g_5 [.int .i64 r_6.1.N, .int .u8 r_6.1.D] 23 ∧ m3_J9 fuel p4_0 r_1 e_4 e_5 e_6 r_2 r_6 x_15 = some r) ?_ ?_
                  · refine cw_region ?_
                    refine wl_val (v := .bool r_20.2) (w' := w_49) (by kernel_rfl) (run_move (v := .bool r_20.2) (by kernel_rfl)) ?_
                    refine wl_val (v := .bool (!r_20.2)) (w' := w_49) (by kernel_rfl) (run_not (b := r_20.2) (by kernel_rfl)) ?_
                    refine wl_val (v := .bool (!r_20.2)) (w' := w_49) (by kernel_rfl) (run_move (v := .bool (!r_20.2)) (by kernel_rfl)) ?_
                    refine wl_norm [.agg #[.int .i64 p0_0.N, .int .u8 p0_0.D], .int .u8 p1_0, .int .u8 p2_0, .int .u8 p3_0, .string ⟨⟨p4_0⟩⟩, .pointer (some ⟨g_1, 0, none⟩), undef, undef, undef, undef, .bool false, .slice a_1 n_1 c_1, .string ⟨⟨e_4⟩⟩, .string ⟨⟨e_5⟩⟩, .string ⟨⟨e_6⟩⟩, .pointer (some ⟨g_2, 0, none⟩), .bool r_3.2, .pointer (some ⟨g_3, 0, none⟩), .bool r_4.2, .pointer (some ⟨g_4, 0, none⟩), .bool r_5.2, .pointer (some ⟨g_5, 0, none⟩), .bool r_6.2, .pointer (some ⟨g_10, 0, none⟩), .bool r_20.2, undef, undef, undef, undef, undef, undef, undef, undef, .slice a_1 n_1 c_1, .slice a_1 n_1 c_1, .int .u8 p1_0, .int .i64 (cvt .i64 p1_0), .slice a_1 n_1 c_1, .int .i64 (r_1.length : Int), .int .i64 (rem (cvt .i64 p1_0) (r_1.length : Int)), .pointer (some ⟨b_4, 0 + (rem (cvt .i64 p1_0) (r_1.length : Int)).toNat * 1, none⟩), .string ⟨⟨e_4⟩⟩, .slice a_1 n_1 c_1, .int .u8 p2_0, .int .i64 (cvt .i64 p2_0), .slice a_1 n_1 c_1, .int .i64 (r_1.length : Int), .int .i64 (rem (cvt .i64 p2_0) (r_1.length : Int)), .pointer (some ⟨b_5, 0 + (rem (cvt .i64 p2_0) (r_1.length : Int)).toNat * 1, none⟩), .string ⟨⟨e_5⟩⟩, .slice a_1 n_1 c_1, .int .u8 p3_0, .int .i64 (cvt .i64 p3_0), .slice a_1 n_1 c_1, .int .i64 (r_1.length : Int), .int .i64 (rem (cvt .i64 p3_0) (r_1.length : Int)), .pointer (some ⟨b_6, 0 + (rem (cvt .i64 p3_0) (r_1.length : Int)).toNat * 1, none⟩), .string ⟨⟨e_6⟩⟩, .agg #[.int .i64 p0_0.N, .int .u8 p0_0.D], .agg #[.int .i64 r_2.N, .int .u8 r_2.D], .tuple #[.agg #[.string ⟨⟨r_3.1.Base⟩⟩, .int .i64 r_3.1.Num, .int .i64 r_3.1.Den], .bool r_3.2], .string ⟨⟨e_4⟩⟩, .tuple #[.agg #[.string ⟨⟨r_3.1.Base⟩⟩, .int .i64 r_3.1.Num, .int .i64 r_3.1.Den], .bool r_3.2], .agg #[.string ⟨⟨r_3.1.Base⟩⟩, .int .i64 r_3.1.Num, .int .i64 r_3.1.Den], .bool r_3.2, .tuple #[.agg #[.string ⟨⟨r_4.1.Base⟩⟩, .int .i64 r_4.1.Num, .int .i64 r_4.1.Den], .bool r_4.2], .string ⟨⟨e_5⟩⟩, .tuple #[.agg #[.string ⟨⟨r_4.1.Base⟩⟩, .int .i64 r_4.1.Num, .int .i64 r_4.1.Den], .bool r_4.2], .agg #[.string ⟨⟨r_4.1.Base⟩⟩, .int .i64 r_4.1.Num, .int .i64 r_4.1.Den], .bool r_4.2, (u_1 0), (u_1 1), (u_1 2), (u_1 3), (u_1 4), (u_1 5), (u_1 6), (u_1 7), (u_1 8), (u_1 9), (u_1 10), (u_1 11), (u_1 12), (u_1 13), (u_1 14), .bool x_1, .tuple #[.agg #[.int .i64 r_5.1.N, .int .u8 r_5.1.D], .bool r_5.2], .agg #[.int .i64 r_2.N, .int .u8 r_2.D], .string ⟨⟨e_4⟩⟩, .string ⟨⟨e_4⟩⟩, .tuple #[.agg #[.int .i64 r_5.1.N, .int .u8 r_5.1.D], .bool r_5.2], .agg #[.int .i64 r_5.1.N, .int .u8 r_5.1.D], .bool r_5.2, (u_2 0), (u_2 1), (u_2 2), (u_2 3), (u_2 4), (u_2 5), .bool x_2, .tuple #[.agg #[.int .i64 r_6.1.N, .int .u8 r_6.1.D], .bool r_6.2], .agg #[.int .i64 r_2.N, .int .u8 r_2.D], .string ⟨⟨e_4⟩⟩, .string ⟨⟨e_5⟩⟩, .tuple #[.agg #[.int .i64 r_6.1.N, .int .u8 r_6.1.D], .bool r_6.2], .agg #[.int .i64 r_6.1.N, .int .u8 r_6.1.D], .bool r_6.2, (u_3 0), (u_3 1), (u_3 2), (u_3 3), (u_3 4), (u_3 5), (u_3 6), .bool x_3, .bool r_6.2, .tuple #[.agg #[.int .i64 r_20.1.N, .int .u8 r_20.1.D], .bool r_20.2], .agg #[.int .i64 r_6.1.N, .int .u8 r_6.1.D], .string ⟨⟨e_5⟩⟩, .string ⟨⟨e_4⟩⟩, .tuple #[.agg #[.int .i64 r_20.1.N, .int .u8 r_20.1.D], .bool r_20.2], .agg #[.int .i64 r_20.1.N, .int .u8 r_20.1.D], .bool r_20.2, .bool r_20.2, .bool (!r_20.2), .bool (!r_20.2), undef, undef, undef, undef, undef, undef, undef, undef, undef, undef, undef, undef, undef, undef, undef, undef, undef, undef, undef, undef, undef, undef, undef, undef, undef, undef, undef, undef, undef, undef, undef, undef, undef, undef, undef, undef, undef, undef, undef, undef, undef, undef, undef, undef, undef, undef, undef, undef, undef, undef, undef, undef, undef, undef, undef] (by kernel_rfl) ?_
                    rcases Bool.eq_false_or_eq_true r_20.2 with hc_45 | hc_45
                    · have hm := ite_t hm hc_45
                      refine wl_val (v := .agg #[.int .i64 r_20.1.N, .int .u8 r_20.1.D]) (w' := w_49) (wg (c := (!r_20.2)) (want := false) (by kernel_rfl) (not_t hc_45) rfl) (run_load_boxn (j := 0) (vs := [.int .i64 r_20.1.N, .int .u8 r_20.1.D]) Tryd.underlying23 rfl sz_23 (by kernel_rfl) h_135 (by kernel_rfl) rfl) ?_
                      refine wl_val (v := .agg #[.int .i64 r_2.N, .int .u8 r_2.D]) (w' := w_49) (wg (c := (!r_20.2)) (want := false) (by kernel_rfl) (not_t hc_45) rfl) (run_load_boxn (j := 0) (vs := [.int .i64 r_2.N, .int .u8 r_2.D]) Tryd.underlying23 rfl sz_23 (by kernel_rfl) h_54 (by kernel_rfl) rfl) ?_
                      obtain ⟨c_8, h_145, hm⟩ := bind_e hm
                      refine wl_val (v := .bool c_8) (w' := w_49) (wg (c := (!r_20.2)) (want := false) (by kernel_rfl) (not_t hc_45) rfl) (by rw [← Option.some.inj h_145]; exact run_ne_agg (r := ((eqi r_20.1.N r_2.N) && ((eqi r_20.1.D r_2.D) && true))) (by kernel_rfl) (by kernel_rfl) eg_23 eq_23) ?_
                      refine wl_val (v := .bool c_8) (w' := w_49) (by kernel_rfl) (run_pick_f (v := .bool c_8) (tr2 (c := (!r_20.2)) (by kernel_rfl) (not_t hc_45)) (by kernel_rfl)) ?_
                      refine wl_nil ?_
                      have hS : Stp w0.heap.size _ [some g_5, blk a_1, some g_1] F [] w_49 _ := Stp.pick hL [1, 2, 3] rfl (by decide)
                      replace h_3 := hS.ow h_3 nilB
                      replace h_54 := hS.box h_54 nilN
                      replace h_67 := hS.box h_67 nilN
                      replace hB := hS.below hL hB
                      replace hL := hS.hL
                      exact then_c ⟨c_8, (fun i => ([.bool r_20.2, .bool (!r_20.2), .bool (!r_20.2), .agg #[.int .i64 r_20.1.N, .int .u8 r_20.1.D], .agg #[.int .i64 r_2.N, .int .u8 r_2.D], .bool c_8] : List Value).getD i undef), by kernel_rfl, hL, hB, h_3, h_54, h_67, hm⟩
                    · have hm := ite_f hm hc_45
                      refine wl_not0 (wg (c := (!r_20.2)) (want := false) (by kernel_rfl) (not_f hc_45) rfl) (by kernel_rfl) ?_
                      refine wl_not0 (wg (c := (!r_20.2)) (want := false) (by kernel_rfl) (not_f hc_45) rfl) (by kernel_rfl) ?_
                      refine wl_not0 (wg (c := (!r_20.2)) (want := false) (by kernel_rfl) (not_f hc_45) rfl) (by kernel_rfl) ?_
                      refine wl_val (v := .bool true) (w' := w_49) (by kernel_rfl) (run_pick_t (v := .bool true) (tr2 (c := (!r_20.2)) (by kernel_rfl) (not_f hc_45)) (by kernel_rfl)) ?_
                      refine wl_nil ?_
                      have hS : Stp w0.heap.size _ [some g_5, blk a_1, some g_1] F [] w_49 _ := Stp.pick hL [1, 2, 3] rfl (by decide)
                      replace h_3 := hS.ow h_3 nilB
                      replace h_54 := hS.box h_54 nilN
                      replace h_67 := hS.box h_67 nilN
                      replace hB := hS.below hL hB
                      replace hL := hS.hL
                      exact then_c ⟨true, (fun i => ([.bool r_20.2, .bool (!r_20.2), .bool (!r_20.2), undef, undef, undef] : List Value).getD i undef), by kernel_rfl, hL, hB, h_3, h_54, h_67, hm⟩
                  · intro l1 w_50 hI
                    obtain ⟨x_15, u_19, rfl, hL, hB, h_3, h_54, h_67, hm⟩ := hI
                    unfold m3_J9 at hm
                    refine cw_cond (t := x_15) (by kernel_rfl) (fun hc_40 => ?_) (fun hc_40 => ?_)
                    · have hm := ite_t hm hc_40
                      refine cw_seq ?_
                      refine cw_region ?_
                      refine wl_val (v := .bool false) (w' := w_50) (by kernel_rfl) (run_assign (v := .bool false) (by kernel_rfl)) ?_
                      refine wl_nil ?_
                      refine then_n ?_
                      refine cw_ret ?_
                      refine then_ret ?_
                      refine then_ret ?_
                      have hS : Stp w0.heap.size _ [] F [] w_50 _ := Stp.pick hL [] rfl (by decide)
                      replace hB := hS.below hL hB
                      replace hL := hS.hL
                      obtain rfl := Option.some.inj hm
                      exact ret1 (v := .bool false) rfl (resv_tmp (by kernel_rfl)) ⟨_, rfl, by kernel_rfl, hB⟩
                    · have hm := ite_f hm hc_40
                      refine cw_skip ?_
                      refine then_n ?_
                      refine cw_seq ?_
                      refine cw_region ?_
                      refine wl_val (v := .agg #[.int .i64 r_6.1.N, .int .u8 r_6.1.D]) (w' := w_50) (by kernel_rfl) (run_load_boxn (j := 0) (vs := [.int .i64 r_6.1.N, .int .u8 r_6.1.D]) Tryd.underlying23 rfl sz_23 (by kernel_rfl) h_67 (by kernel_rfl) rfl) ?_
                      refine wl_val (v := .string ⟨⟨e_5⟩⟩) (w' := w_50) (by kernel_rfl) (run_move (v := .string ⟨⟨e_5⟩⟩) (by kernel_rfl)) ?_
                      refine wl_val (v := .string ⟨⟨e_6⟩⟩) (w' := w_50) (by kernel_rfl) (run_move (v := .string ⟨⟨e_6⟩⟩) (by kernel_rfl)) ?_
                      obtain ⟨r_21, h_137, hm⟩ := bind_e hm
                      refine wl_op (by kernel_rfl) (ow_enter (run_callf (vs := [.agg #[.int .i64 r_6.1.N, .int .u8 r_6.1.D], .string ⟨⟨e_5⟩⟩, .string ⟨⟨e_6⟩⟩]) Tryd.func11 nm_11 (by kernel_rfl) (by kernel_rfl)) (f11_ok (p0_0 := r_6.1) (p1_0 := e_5) (p2_0 := e_6) fuel _ w_50 hL.lt  h_137) ?_)
                      intro vR w_51 hR
                      obtain ⟨rfl, hBe⟩ := hR
                      have hS := Stp.call hL (Fz.of_below hBe [])
                      replace h_3 := hS.ow h_3 nilB
                      replace h_54 := hS.box h_54 nilN
                      replace h_67 := hS.box h_67 nilN
                      replace hB := hS.below hL hB
                      replace hL := hS.hL
                      refine wl_val (v := .tuple #[.agg #[.int .i64 r_21.1.N, .int .u8 r_21.1.D], .bool r_21.2]) (w' := w_51) (by kernel_rfl) (run_move (v := .tuple #[.agg #[.int .i64 r_21.1.N, .int .u8 r_21.1.D], .bool r_21.2]) (by kernel_rfl)) ?_
                      refine wl_val (v := .agg #[.int .i64 r_21.1.N, .int .u8 r_21.1.D]) (w' := w_51) (by kernel_rfl) (run_extract (vs := #[.agg #[.int .i64 r_21.1.N, .int .u8 r_21.1.D], .bool r_21.2]) (by kernel_rfl) (by kernel_rfl)) ?_
                      refine wl_val (v := .bool r_21.2) (w' := w_51) (by kernel_rfl) (run_extract (vs := #[.agg #[.int .i64 r_21.1.N, .int .u8 r_21.1.D], .bool r_21.2]) (by kernel_rfl) (by kernel_rfl)) ?_
                      refine wl_op (by kernel_rfl) (ow_alloc' (z := .agg #[.int .i64 0, .int .u8 0]) (vs := [.int .i64 0, .int .u8 0]) (by kernel_rfl) rfl hL ?_)
                      intro g_11 w_52 hS h_138
                      replace h_3 := hS.ow h_3 nilB
                      replace h_54 := hS.box h_54 nilN
                      replace h_67 := hS.box h_67 nilN
                      replace hB := hS.below hL hB
                      replace hL := hS.hL
                      refine wl_op (by kernel_rfl) (ow_store_box' (g := g_11) (j := 0) (v := .agg #[.int .i64 r_21.1.N, .int .u8 r_21.1.D]) (vs := [.int .i64 r_21.1.N, .int .u8 r_21.1.D]) (cs' := [.int .i64 r_21.1.N, .int .u8 r_21.1.D]) sz_23 (by kernel_rfl) (by kernel_rfl) rfl rfl rfl hL h_138 rfl (by simp) rfl ?_)
                      intro w_53 hS h_139
                      replace h_3 := hS.ow h_3 (hL.apart 2 0 rfl rfl (by decide))
                      replace h_54 := hS.box h_54 (hL.apart 3 0 rfl rfl (by decide) _ rfl)
                      replace h_67 := hS.box h_67 (hL.apart 1 0 rfl rfl (by decide) _ rfl)
                      replace hB := hS.below hL hB
                      replace hL := hS.hL
                      refine wl_val (v := .bool r_21.2) (w' := w_53) (by kernel_rfl) (run_assign (v := .bool r_21.2) (by kernel_rfl)) ?_
                      refine wl_nil ?_
                      refine then_n ?_
                      refine cw_seq ?_
                      refine cw_region ?_
                      refine wl_val (v := .bool r_21.2) (w' := w_53) (by kernel_rfl) (run_move (v := .bool r_21.2) (by kernel_rfl)) ?_
                      refine wl_nil ?_
                      refine then_n ?_
                      refine cw_cond (t := r_21.2) (by kernel_rfl) (fun hc_41 => ?_) (fun hc_41 => ?_)
                      · have hm := ite_t hm hc_41
                        refine cw_seq ?_
                        refine cw_region ?_
                        refine wl_val (v := .agg #[.int .i64 r_2.N, .int .u8 r_2.D]) (w' := w_53) (by kernel_rfl) (run_load_boxn (j := 0) (vs := [.int .i64 r_2.N, .int .u8 r_2.D]) Tryd.underlying23 rfl sz_23 (by kernel_rfl) h_54 (by kernel_rfl) rfl) ?_
                        refine wl_val (v := .string ⟨⟨e_4⟩⟩) (w' := w_53) (by kernel_rfl) (run_move (v := .string ⟨⟨e_4⟩⟩) (by kernel_rfl)) ?_
                        refine wl_val (v := .string ⟨⟨e_6⟩⟩) (w' := w_53) (by kernel_rfl) (run_move (v := .string ⟨⟨e_6⟩⟩) (by kernel_rfl)) ?_
                        obtain ⟨r_22, h_140, hm⟩ := bind_e hm
                        refine wl_op (by kernel_rfl) (ow_enter (run_callf (vs := [.agg #[.int .i64 r_2.N, .int .u8 r_2.D], .string ⟨⟨e_4⟩⟩, .string ⟨⟨e_6⟩⟩]) Tryd.func11 nm_11 (by kernel_rfl) (by kernel_rfl)) (f11_ok (p0_0 := r_2) (p1_0 := e_4) (p2_0 := e_6) fuel _ w_53 hL.lt  h_140) ?_)
                        intro vR w_54 hR
                        obtain ⟨rfl, hBe⟩ := hR
                        have hS := Stp.call hL (Fz.of_below hBe [])
                        replace h_3 := hS.ow h_3 nilB
                        replace h_54 := hS.box h_54 nilN
                        replace h_67 := hS.box h_67 nilN
                        replace h_139 := hS.box h_139 nilN
                        replace hB := hS.below hL hB
                        replace hL := hS.hL
                        refine wl_val (v := .tuple #[.agg #[.int .i64 r_22.1.N, .int .u8 r_22.1.D], .bool r_22.2]) (w' := w_54) (by kernel_rfl) (run_move (v := .tuple #[.agg #[.int .i64 r_22.1.N, .int .u8 r_22.1.D], .bool r_22.2]) (by kernel_rfl)) ?_
                        refine wl_val (v := .agg #[.int .i64 r_22.1.N, .int .u8 r_22.1.D]) (w' := w_54) (by kernel_rfl) (run_extract (vs := #[.agg #[.int .i64 r_22.1.N, .int .u8 r_22.1.D], .bool r_22.2]) (by kernel_rfl) (by kernel_rfl)) ?_
                        refine wl_val (v := .bool r_22.2) (w' := w_54) (by kernel_rfl) (run_extract (vs := #[.agg #[.int .i64 r_22.1.N, .int .u8 r_22.1.D], .bool r_22.2]) (by kernel_rfl) (by kernel_rfl)) ?_
                        refine wl_norm [.agg #[.int .i64 p0_0.N, .int .u8 p0_0.D], .int .u8 p1_0, .int .u8 p2_0, .int .u8 p3_0, .string ⟨⟨p4_0⟩⟩, .pointer (some ⟨g_1, 0, none⟩), undef, undef, undef, undef, .bool false, .slice a_1 n_1 c_1, .string ⟨⟨e_4⟩⟩, .string ⟨⟨e_5⟩⟩, .string ⟨⟨e_6⟩⟩, .pointer (some ⟨g_2, 0, none⟩), .bool r_3.2, .pointer (some ⟨g_3, 0, none⟩), .bool r_4.2, .pointer (some ⟨g_4, 0, none⟩), .bool r_5.2, .pointer (some ⟨g_5, 0, none⟩), .bool r_6.2, .pointer (some ⟨g_10, 0, none⟩), .bool r_20.2, .pointer (some ⟨g_11, 0, none⟩), .bool r_21.2, undef, undef, undef, undef, undef, undef, .slice a_1 n_1 c_1, .slice a_1 n_1 c_1, .int .u8 p1_0, .int .i64 (cvt .i64 p1_0), .slice a_1 n_1 c_1, .int .i64 (r_1.length : Int), .int .i64 (rem (cvt .i64 p1_0) (r_1.length : Int)), .pointer (some ⟨b_4, 0 + (rem (cvt .i64 p1_0) (r_1.length : Int)).toNat * 1, none⟩), .string ⟨⟨e_4⟩⟩, .slice a_1 n_1 c_1, .int .u8 p2_0, .int .i64 (cvt .i64 p2_0), .slice a_1 n_1 c_1, .int .i64 (r_1.length : Int), .int .i64 (rem (cvt .i64 p2_0) (r_1.length : Int)), .pointer (some ⟨b_5, 0 + (rem (cvt .i64 p2_0) (r_1.length : Int)).toNat * 1, none⟩), .string ⟨⟨e_5⟩⟩, .slice a_1 n_1 c_1, .int .u8 p3_0, .int .i64 (cvt .i64 p3_0), .slice a_1 n_1 c_1, .int .i64 (r_1.length : Int), .int .i64 (rem (cvt .i64 p3_0) (r_1.length : Int)), .pointer (some ⟨b_6, 0 + (rem (cvt .i64 p3_0) (r_1.length : Int)).toNat * 1, none⟩), .string ⟨⟨e_6⟩⟩, .agg #[.int .i64 p0_0.N, .int .u8 p0_0.D], .agg #[.int .i64 r_2.N, .int .u8 r_2.D], .tuple #[.agg #[.string ⟨⟨r_3.1.Base⟩⟩, .int .i64 r_3.1.Num, .int .i64 r_3.1.Den], .bool r_3.2], .string ⟨⟨e_4⟩⟩, .tuple #[.agg #[.string ⟨⟨r_3.1.Base⟩⟩, .int .i64 r_3.1.Num, .int .i64 r_3.1.Den], .bool r_3.2], .agg #[.string ⟨⟨r_3.1.Base⟩⟩, .int .i64 r_3.1.Num, .int .i64 r_3.1.Den], .bool r_3.2, .tuple #[.agg #[.string ⟨⟨r_4.1.Base⟩⟩, .int .i64 r_4.1.Num, .int .i64 r_4.1.Den], .bool r_4.2], .string ⟨⟨e_5⟩⟩, .tuple #[.agg #[.string ⟨⟨r_4.1.Base⟩⟩, .int .i64 r_4.1.Num, .int .i64 r_4.1.Den], .bool r_4.2], .agg #[.string ⟨⟨r_4.1.Base⟩⟩, .int .i64 r_4.1.Num, .int .i64 r_4.1.Den], .bool r_4.2, (u_1 0), (u_1 1), (u_1 2), (u_1 3), (u_1 4), (u_1 5), (u_1 6), (u_1 7), (u_1 8), (u_1 9), (u_1 10), (u_1 11), (u_1 12), (u_1 13), (u_1 14), .bool x_1, .tuple #[.agg #[.int .i64 r_5.1.N, .int .u8 r_5.1.D], .bool r_5.2], .agg #[.int .i64 r_2.N, .int .u8 r_2.D], .string ⟨⟨e_4⟩⟩, .string ⟨⟨e_4⟩⟩, .tuple #[.agg #[.int .i64 r_5.1.N, .int .u8 r_5.1.D], .bool r_5.2], .agg #[.int .i64 r_5.1.N, .int .u8 r_5.1.D], .bool r_5.2, (u_2 0), (u_2 1), (u_2 2), (u_2 3), (u_2 4), (u_2 5), .bool x_2, .tuple #[.agg #[.int .i64 r_6.1.N, .int .u8 r_6.1.D], .bool r_6.2], .agg #[.int .i64 r_2.N, .int .u8 r_2.D], .string ⟨⟨e_4⟩⟩, .string ⟨⟨e_5⟩⟩, .tuple #[.agg #[.int .i64 r_6.1.N, .int .u8 r_6.1.D], .bool r_6.2], .agg #[.int .i64 r_6.1.N, .int .u8 r_6.1.D], .bool r_6.2, (u_3 0), (u_3 1), (u_3 2), (u_3 3), (u_3 4), (u_3 5), (u_3 6), .bool x_3, .bool r_6.2, .tuple #[.agg #[.int .i64 r_20.1.N, .int .u8 r_20.1.D], .bool r_20.2], .agg #[.int .i64 r_6.1.N, .int .u8 r_6.1.D], .string ⟨⟨e_5⟩⟩, .string ⟨⟨e_4⟩⟩, .tuple #[.agg #[.int .i64 r_20.1.N, .int .u8 r_20.1.D], .bool r_20.2], .agg #[.int .i64 r_20.1.N, .int .u8 r_20.1.D], .bool r_20.2, (u_19 0), (u_19 1), (u_19 2), (u_19 3), (u_19 4), (u_19 5), .bool x_15, .tuple #[.agg #[.int .i64 r_21.1.N, .int .u8 r_21.1.D], .bool r_21.2], .agg #[.int .i64 r_6.1.N, .int .u8 r_6.1.D], .string ⟨⟨e_5⟩⟩, .string ⟨⟨e_6⟩⟩, .tuple #[.agg #[.int .i64 r_21.1.N, .int .u8 r_21.1.D], .bool r_21.2], .agg #[.int .i64 r_21.1.N, .int .u8 r_21.1.D], .bool r_21.2, .bool r_21.2, .tuple #[.agg #[.int .i64 r_22.1.N, .int .u8 r_22.1.D], .bool r_22.2], .agg #[.int .i64 r_2.N, .int .u8 r_2.D], .string ⟨⟨e_4⟩⟩, .string ⟨⟨e_6⟩⟩, .tuple #[.agg #[.int .i64 r_22.1.N, .int .u8 r_22.1.D], .bool r_22.2], .agg #[.int .i64 r_22.1.N, .int .u8 r_22.1.D], .bool r_22.2, undef, undef, undef, undef, undef, undef, undef, undef, undef, undef, undef, undef, undef, undef, undef, undef, undef, undef, undef, undef, undef, undef, undef, undef, undef, undef, undef, undef, undef, undef, undef, undef, undef, undef, undef, undef] (by kernel_rfl) ?_
                        refine wl_op (by kernel_rfl) (ow_alloc' (z := .agg #[.int .i64 0, .int .u8 0]) (vs := [.int .i64 0, .int .u8 0]) (by kernel_rfl) rfl hL ?_)
                        intro g_12 w_55 hS h_141
                        replace h_3 := hS.ow h_3 nilB
                        replace h_54 := hS.box h_54 nilN
                        replace h_67 := hS.box h_67 nilN
                        replace h_139 := hS.box h_139 nilN
                        replace hB := hS.below hL hB
                        replace hL := hS.hL
                        refine wl_op (by kernel_rfl) (ow_store_box' (g := g_12) (j := 0) (v := .agg #[.int .i64 r_22.1.N, .int .u8 r_22.1.D]) (vs := [.int .i64 r_22.1.N, .int .u8 r_22.1.D]) (cs' := [.int .i64 r_22.1.N, .int .u8 r_22.1.D]) sz_23 (by kernel_rfl) (by kernel_rfl) rfl rfl rfl hL h_141 rfl (by simp) rfl ?_)
                        intro w_56 hS h_142
                        replace h_3 := hS.ow h_3 (hL.apart 3 0 rfl rfl (by decide))
                        replace h_54 := hS.box h_54 (hL.apart 4 0 rfl rfl (by decide) _ rfl)
                        replace h_67 := hS.box h_67 (hL.apart 2 0 rfl rfl (by decide) _ rfl)
                        replace h_139 := hS.box h_139 (hL.apart 1 0 rfl rfl (by decide) _ rfl)
                        replace hB := hS.below hL hB
                        replace hL := hS.hL
                        refine wl_val (v := .bool r_22.2) (w' := w_56) (by kernel_rfl) (run_assign (v := .bool r_22.2) (by kernel_rfl)) ?_
                        refine wl_nil ?_
                        refine then_n ?_
                        refine cw_cut (fun l' w' => ∃ x_16, ∃ u_20 : Nat → Value, l' = [.agg #[.int .i64 p0_0.N, .int .u8 p0_0.D], .int .u8 p1_0, .int .u8 p2_0, .int .u8 p3_0, .string ⟨⟨p4_0⟩⟩, .pointer (some ⟨g_1, 0, none⟩), undef, undef, undef, undef, .bool false, .slice a_1 n_1 c_1, .string ⟨⟨e_4⟩⟩, .string ⟨⟨e_5⟩⟩, .string ⟨⟨e_6⟩⟩, .pointer (some ⟨g_2, 0, none⟩), .bool r_3.2, .pointer (some ⟨g_3, 0, none⟩), .bool r_4.2, .pointer (some ⟨g_4, 0, none⟩), .bool r_5.2, .pointer (some ⟨g_5, 0, none⟩), .bool r_6.2, .pointer (some ⟨g_10, 0, none⟩), .bool r_20.2, .pointer (some ⟨g_11, 0, none⟩), .bool r_21.2, .pointer (some ⟨g_12, 0, none⟩), .bool r_22.2, undef, undef, undef, undef, .slice a_1 n_1 c_1, .slice a_1 n_1 c_1, .int .u8 p1_0, .int .i64 (cvt .i64 p1_0), .slice a_1 n_1 c_1, .int .i64 (r_1.length : Int), .int .i64 (rem (cvt .i64 p1_0) (r_1.length : Int)), .pointer (some ⟨b_4, 0 + (rem (cvt .i64 p1_0) (r_1.length : Int)).toNat * 1, none⟩), .string ⟨⟨e_4⟩⟩, .slice a_1 n_1 c_1, .int .u8 p2_0, .int .i64 (cvt .i64 p2_0), .slice a_1 n_1 c_1, .int .i64 (r_1.length : Int), .int .i64 (rem (cvt .i64 p2_0) (r_1.length : Int)), .pointer (some ⟨b_5, 0 + (rem (cvt .i64 p2_0) (r_1.length : Int)).toNat * 1, none⟩), .string ⟨⟨e_5⟩⟩, .slice a_1 n_1 c_1, .int .u8 p3_0, .int .i64 (cvt .i64 p3_0), .slice a_1 n_1 c_1, .int .i64 (r_1.length : Int), .int .i64 (rem (cvt .i64 p3_0) (r_1.length : Int)), .pointer (some ⟨b_6, 0 + (rem (cvt .i64 p3_0) (r_1.length : Int)).toNat * 1, none⟩), .string ⟨⟨e_6⟩⟩, .agg #[.int .i64 p0_0.N, .int .u8 p0_0.D], .agg #[.int .i64 r_2.N, .int .u8 r_2.D], .tuple #[.agg #[.string ⟨⟨r_3.1.Base⟩⟩, .int .i64 r_3.1.Num, .int .i64 r_3.1.Den], .bool r_3.2], .string ⟨⟨e_4⟩⟩, .tuple #[.agg #[.string ⟨⟨r_3.1.Base⟩⟩, .int .i64 r_3.1.Num, .int .i64 r_3.1.Den], .bool r_3.2], .agg #[.string ⟨⟨r_3.1.Base⟩⟩, .int .i64 r_3.1.Num, .int .i64 r_3.1.Den], .bool r_3.2, .tuple #[.agg #[.string ⟨⟨r_4.1.Base⟩⟩, .int .i64 r_4.1.Num, .int .i64 r_4.1.Den], .bool r_4.2], .string ⟨⟨e_5⟩⟩, .tuple #[.agg #[.string ⟨⟨r_4.1.Base⟩⟩, .int .i64 r_4.1.Num, .int .i64 r_4.1.Den], .bool r_4.2], .agg #[.string ⟨⟨r_4.1.Base⟩⟩, .int .i64 r_4.1.Num, .int .i64 r_4.1.Den], .bool r_4.2, (u_1 0), (u_1 1), (u_1 2), (u_1 3), (u_1 4), (u_1 5), (u_1 6), (u_1 7), (u_1 8), (u_1 9), (u_1 10), (u_1 11), (u_1 12), (u_1 13), (u_1 14), .bool x_1, .tuple #[.agg #[.int .i64 r_5.1.N, .int .u8 r_5.1.D], .bool r_5.2], .agg #[.int .i64 r_2.N, .int .u8 r_2.D], .string ⟨⟨e_4⟩⟩, .string ⟨⟨e_4⟩⟩, .tuple #[.agg #[.int .i64 r_5.1.N, .int .u8 r_5.1.D], .bool r_5.2], .agg #[.int .i64 r_5.1.N, .int .u8 r_5.1.D], .bool r_5.2, (u_2 0), (u_2 1), (u_2 2), (u_2 3), (u_2 4), (u_2 5), .bool x_2, .tuple #[.agg #[.int .i64 r_6.1.N, .int .u8 r_6.1.D], .bool r_6.2], .agg #[.int .i64 r_2.N, .int .u8 r_2.D], .string ⟨⟨e_4⟩⟩, .string ⟨⟨e_5⟩⟩, .tuple #[.agg #[.int .i64 r_6.1.N, .int .u8 r_6.1.D], .bool r_6.2], .agg #[.int .i64 r_6.1.N, .int .u8 r_6.1.D], .bool r_6.2, (u_3 0), (u_3 1), (u_3 2), (u_3 3), (u_3 4), (u_3 5), (u_3 6), .bool x_3, .bool r_6.2, .tuple #[.agg #[.int .i64 r_20.1.N, .int .u8 r_20.1.D], .bool r_20.2], .agg #[.int .i64 r_6.1.N, .int .u8 r_6.1.D], .string ⟨⟨e_5⟩⟩, .string ⟨⟨e_4⟩⟩, .tuple #[.agg #[.int .i64 r_20.1.N, .int .u8 r_20.1.D], .bool r_20.2], .agg #[.int .i64 r_20.1.N, .int .u8 r_20.1.D], .bool r_20.2, (u_19 0), (u_19 1), (u_19 2), (u_19 3), (u_19 4), (u_19 5), .bool x_15, .tuple #[.agg #[.int .i64 r_21.1.N, .int .u8 r_21.1.D], .bool r_21.2], .agg #[.int .i64 r_6.1.N, .int .u8 r_6.1.D], .string ⟨⟨e_5⟩⟩, .string ⟨⟨e_6⟩⟩, .tuple #[.agg #[.int .i64 r_21.1.N, .int .u8 r_21.1.D], .bool r_21.2], .agg #[.int .i64 r_21.1.N, .int .u8 r_21.1.D], .bool r_21.2, .bool r_21.2, .tuple #[.agg #[.int .i64 r_22.1.N, .int .u8 r_22.1.D], .bool r_22.2], .agg #[.int .i64 r_2.N, .int .u8 r_2.D], .string ⟨⟨e_4⟩⟩, .string ⟨⟨e_6⟩⟩, .tuple #[.agg #[.int .i64 r_22.1.N, .int .u8 r_22.1.D], .bool r_22.2], .agg #[.int .i64 r_22.1.N, .int .u8 r_22.1.D], .bool r_22.2, (u_20 0), (u_20 1), (u_20 2), (u_20 3), (u_20 4), (u_20 5), .bool x_16, undef, undef, undef, undef, undef, undef, undef, undef, undef, undef, undef, undef, undef, undef, undef, undef, undef, undef, undef, undef, undef, undef, undef, undef, undef, undef, undef, undef, undef] ∧ LOk w0.heap.size [blk a_1] F w' ∧ Below w0.heap.size w0 w' ∧ Ow Rp.str 9 ([blk a_1] ++ F) w' a_1 n_1 c_1 r_1 ∧ m3_J10 fuel p4_0 r_1 x_16 = some r) ?_ ?_
                        · refine cw_region ?_
                          refine wl_val (v := .bool r_22.2) (w' := w_56) (by kernel_rfl) (run_move (v := .bool r_22.2) (by kernel_rfl)) ?_
                          refine wl_val (v := .bool (!r_22.2)) (w' := w_56) (by kernel_rfl) (run_not (b := r_22.2) (by kernel_rfl)) ?_
                          refine wl_val (v := .bool (!r_22.2)) (w' := w_56) (by kernel_rfl) (run_move (v := .bool (!r_22.2)) (by kernel_rfl)) ?_
                          rcases Bool.eq_false_or_eq_true r_22.2 with hc_44 | hc_44
                          · have hm := ite_t hm hc_44
                            refine wl_val (v := .agg #[.int .i64 r_22.1.N, .int .u8 r_22.1.D]) (w' := w_56) (wg (c := (!r_22.2)) (want := false) (by kernel_rfl) (not_t hc_44) rfl) (run_load_boxn (j := 0) (vs := [.int .i64 r_22.1.N, .int .u8 r_22.1.D]) Tryd.underlying23 rfl sz_23 (by kernel_rfl) h_142 (by kernel_rfl) rfl) ?_
                            refine wl_val (v := .agg #[.int .i64 r_21.1.N, .int .u8 r_21.1.D]) (w' := w_56) (wg (c := (!r_22.2)) (want := false) (by kernel_rfl) (not_t hc_44) rfl) (run_load_boxn (j := 0) (vs := [.int .i64 r_21.1.N, .int .u8 r_21.1.D]) Tryd.underlying23 rfl sz_23 (by kernel_rfl) h_139 (by kernel_rfl) rfl) ?_
                            obtain ⟨c_7, h_144, hm⟩ := bind_e hm
                            refine wl_val (v := .bool c_7) (w' := w_56) (wg (c := (!r_22.2)) (want := false) (by kernel_rfl) (not_t hc_44) rfl) (by rw [← Option.some.inj h_144]; exact run_ne_agg (r := ((eqi r_22.1.N r_21.1.N) && ((eqi r_22.1.D r_21.1.D) && true))) (by kernel_rfl) (by kernel_rfl) eg_23 eq_23) ?_
                            refine wl_val (v := .bool c_7) (w' := w_56) (by kernel_rfl) (run_pick_f (v := .bool c_7) (tr2 (c := (!r_22.2)) (by kernel_rfl) (not_t hc_44)) (by kernel_rfl)) ?_
                            refine wl_nil ?_
                            have hS : Stp w0.heap.size _ [blk a_1] F [] w_56 _ := Stp.pick hL [3] rfl (by decide)
                            replace h_3 := hS.ow h_3 nilB
                            replace hB := hS.below hL hB
                            replace hL := hS.hL
                            exact then_c ⟨c_7, (fun i => ([.bool r_22.2, .bool (!r_22.2), .bool (!r_22.2), .agg #[.int .i64 r_22.1.N, .int .u8 r_22.1.D], .agg #[.int .i64 r_21.1.N, .int .u8 r_21.1.D], .bool c_7] : List Value).getD i undef), by kernel_rfl, hL, hB, h_3, hm⟩
                          · have hm := ite_f hm hc_44
                            refine wl_not0 (wg (c := (!r_22.2)) (want := false) (by kernel_rfl) (not_f hc_44) rfl) (by kernel_rfl) ?_
                            refine wl_not0 (wg (c := (!r_22.2)) (want := false) (by kernel_rfl) (not_f hc_44) rfl) (by kernel_rfl) ?_
                            refine wl_not0 (wg (c := (!r_22.2)) (want := false) (by kernel_rfl) (not_f hc_44) rfl) (by kernel_rfl) ?_
                            refine wl_val (v := .bool true) (w' := w_56) (by kernel_rfl) (run_pick_t (v := .bool true) (tr2 (c := (!r_22.2)) (by kernel_rfl) (not_f hc_44)) (by kernel_rfl)) ?_
                            refine wl_nil ?_
                            have hS : Stp w0.heap.size _ [blk a_1] F [] w_56 _ := Stp.pick hL [3] rfl (by decide)
                            replace h_3 := hS.ow h_3 nilB
                            replace hB := hS.below hL hB
                            replace hL := hS.hL
                            exact then_c ⟨true, (fun i => ([.bool r_22.2, .bool (!r_22.2), .bool (!r_22.2), undef, undef, undef] : List Value).getD i undef), by kernel_rfl, hL, hB, h_3, hm⟩
                        · intro l1 w_57 hI
                          obtain ⟨x_16, u_20, rfl, hL, hB, h_3, hm⟩ := hI
                          unfold m3_J10 at hm
                          refine cw_cond (t := x_16) (by kernel_rfl) (fun hc_43 => ?_) (fun hc_43 => ?_)
                          · have hm := ite_t hm hc_43
                            refine cw_seq ?_
                            refine cw_region ?_
                            refine wl_val (v := .bool false) (w' := w_57) (by kernel_rfl) (run_assign (v := .bool false) (by kernel_rfl)) ?_
                            refine wl_nil ?_
                            refine then_n ?_
                            refine cw_ret ?_
                            refine then_ret ?_
                            have hS : Stp w0.heap.size _ [] F [] w_57 _ := Stp.pick hL [] rfl (by decide)
                            replace hB := hS.below hL hB
                            replace hL := hS.hL
                            obtain rfl := Option.some.inj hm
                            exact ret1 (v := .bool false) rfl (resv_tmp (by kernel_rfl)) ⟨_, rfl, by kernel_rfl, hB⟩
                          · have hm := ite_f hm hc_43
                            refine cw_skip ?_
                            exact then_c ⟨(fun i => ([.bool false, .pointer (some ⟨g_10, 0, none⟩), .bool r_20.2, .pointer (some ⟨g_11, 0, none⟩), .bool r_21.2, .pointer (some ⟨g_12, 0, none⟩), .bool r_22.2, .bool r_6.2, .tuple #[.agg #[.int .i64 r_20.1.N, .int .u8 r_20.1.D], .bool r_20.2], .agg #[.int .i64 r_6.1.N, .int .u8 r_6.1.D], .string ⟨⟨e_5⟩⟩, .string ⟨⟨e_4⟩⟩, .tuple #[.agg #[.int .i64 r_20.1.N, .int .u8 r_20.1.D], .bool r_20.2], .agg #[.int .i64 r_20.1.N, .int .u8 r_20.1.D], .bool r_20.2, (u_19 0), (u_19 1), (u_19 2), (u_19 3), (u_19 4), (u_19 5), .bool x_15, .tuple #[.agg #[.int .i64 r_21.1.N, .int .u8 r_21.1.D], .bool r_21.2], .agg #[.int .i64 r_6.1.N, .int .u8 r_6.1.D], .string ⟨⟨e_5⟩⟩, .string ⟨⟨e_6⟩⟩, .tuple #[.agg #[.int .i64 r_21.1.N, .int .u8 r_21.1.D], .bool r_21.2], .agg #[.int .i64 r_21.1.N, .int .u8 r_21.1.D], .bool r_21.2, .bool r_21.2, .tuple #[.agg #[.int .i64 r_22.1.N, .int .u8 r_22.1.D], .bool r_22.2], .agg #[.int .i64 r_2.N, .int .u8 r_2.D], .string ⟨⟨e_4⟩⟩, .string ⟨⟨e_6⟩⟩, .tuple #[.agg #[.int .i64 r_22.1.N, .int .u8 r_22.1.D], .bool r_22.2], .agg #[.int .i64 r_22.1.N, .int .u8 r_22.1.D], .bool r_22.2, (u_20 0), (u_20 1), (u_20 2), (u_20 3), (u_20 4), (u_20 5), .bool x_16] : List Value).getD i undef), by kernel_rfl, hL, hB, h_3, hm⟩
                      · have hm := ite_f hm hc_41
                        refine cw_skip ?_
                        have hS : Stp w0.heap.size _ [blk a_1] F [] w_53 _ := Stp.pick hL [2] rfl (by decide)
                        replace h_3 := hS.ow h_3 nilB
                        replace hB := hS.below hL hB
                        replace hL := hS.hL
                        exact then_c ⟨(fun i => ([.bool false, .pointer (some ⟨g_10, 0, none⟩), .bool r_20.2, .pointer (some ⟨g_11, 0, none⟩), .bool r_21.2, undef, undef, .bool r_6.2, .tuple #[.agg #[.int .i64 r_20.1.N, .int .u8 r_20.1.D], .bool r_20.2], .agg #[.int .i64 r_6.1.N, .int .u8 r_6.1.D], .string ⟨⟨e_5⟩⟩, .string ⟨⟨e_4⟩⟩, .tuple #[.agg #[.int .i64 r_20.1.N, .int .u8 r_20.1.D], .bool r_20.2], .agg #[.int .i64 r_20.1.N, .int .u8 r_20.1.D], .bool r_20.2, (u_19 0), (u_19 1), (u_19 2), (u_19 3), (u_19 4), (u_19 5), .bool x_15, .tuple #[.agg #[.int .i64 r_21.1.N, .int .u8 r_21.1.D], .bool r_21.2], .agg #[.int .i64 r_6.1.N, .int .u8 r_6.1.D], .string ⟨⟨e_5⟩⟩, .string ⟨⟨e_6⟩⟩, .tuple #[.agg #[.int .i64 r_21.1.N, .int .u8 r_21.1.D], .bool r_21.2], .agg #[.int .i64 r_21.1.N, .int .u8 r_21.1.D], .bool r_21.2, .bool r_21.2, undef, undef, undef, undef, undef, undef, undef, undef, undef, undef, undef, undef, undef, undef] : List Value).getD i undef), by kernel_rfl, hL, hB, h_3, hm⟩
                · have hm := ite_f hm hc_38
                  refine cw_skip ?_
                  have hS : Stp w0.heap.size _ [blk a_1] F [] w_20 _ := Stp.pick hL [1] rfl (by decide)
                  replace h_3 := hS.ow h_3 nilB
                  replace hB := hS.below hL hB
                  replace hL := hS.hL
                  exact then_c ⟨(fun i => ([.bool false, undef, undef, undef, undef, undef, undef, .bool r_6.2, undef, undef, undef, undef, undef, undef, undef, undef, undef, undef, undef, undef, undef, undef, undef, undef, undef, undef, undef, undef, undef, undef, undef, undef, undef, undef, undef, undef, undef, undef, undef, undef, undef, undef, undef, undef] : List Value).getD i undef), by kernel_rfl, hL, hB, h_3, hm⟩
              · intro l1 w_30 hI
                obtain ⟨u_6, rfl, hL, hB, h_3, hm⟩ := hI
                unfold m3_J4 at hm
                refine cw_seq ?_
                refine cw_region ?_
                refine wl_val (v := .string ⟨⟨p4_0⟩⟩) (w' := w_30) (by kernel_rfl) (run_move (v := .string ⟨⟨p4_0⟩⟩) (by kernel_rfl)) ?_
                obtain ⟨r_10, h_79, hm⟩ := bind_e hm
                refine wl_op (by kernel_rfl) (ow_enter (run_callf (vs := [.string ⟨⟨p4_0⟩⟩]) Tryd.func10 nm_10 (by kernel_rfl) (by kernel_rfl)) (f10_ok (p0_0 := p4_0) fuel _ w_30 hL.lt  h_79) ?_)
                intro vR w_31 hR
                obtain ⟨rfl, hBe⟩ := hR
                have hS := Stp.call hL (Fz.of_below hBe [])
                replace h_3 := hS.ow h_3 nilB
                replace hB := hS.below hL hB
                replace hL := hS.hL
                refine wl_val (v := .tuple #[.agg #[.string ⟨⟨r_10.1.Base⟩⟩, .int .i64 r_10.1.Num, .int .i64 r_10.1.Den], .bool r_10.2]) (w' := w_31) (by kernel_rfl) (run_move (v := .tuple #[.agg #[.string ⟨⟨r_10.1.Base⟩⟩, .int .i64 r_10.1.Num, .int .i64 r_10.1.Den], .bool r_10.2]) (by kernel_rfl)) ?_
                refine wl_val (v := .agg #[.string ⟨⟨r_10.1.Base⟩⟩, .int .i64 r_10.1.Num, .int .i64 r_10.1.Den]) (w' := w_31) (by kernel_rfl) (run_extract (vs := #[.agg #[.string ⟨⟨r_10.1.Base⟩⟩, .int .i64 r_10.1.Num, .int .i64 r_10.1.Den], .bool r_10.2]) (by kernel_rfl) (by kernel_rfl)) ?_
                refine wl_val (v := .bool r_10.2) (w' := w_31) (by kernel_rfl) (run_extract (vs := #[.agg #[.string ⟨⟨r_10.1.Base⟩⟩, .int .i64 r_10.1.Num, .int .i64 r_10.1.Den], .bool r_10.2]) (by kernel_rfl) (by kernel_rfl)) ?_
                refine wl_op (by kernel_rfl) (ow_alloc' (z := .agg #[.string ⟨⟨[]⟩⟩, .int .i64 0, .int .i64 0]) (vs := [.string ⟨⟨[]⟩⟩, .int .i64 0, .int .i64 0]) (by kernel_rfl) rfl hL ?_)
                intro g_9 w_32 hS h_80
                replace h_3 := hS.ow h_3 nilB
                replace hB := hS.below hL hB
                replace hL := hS.hL
                refine wl_op (by kernel_rfl) (ow_store_box' (g := g_9) (j := 0) (v := .agg #[.string ⟨⟨r_10.1.Base⟩⟩, .int .i64 r_10.1.Num, .int .i64 r_10.1.Den]) (vs := [.string ⟨⟨r_10.1.Base⟩⟩, .int .i64 r_10.1.Num, .int .i64 r_10.1.Den]) (cs' := [.string ⟨⟨r_10.1.Base⟩⟩, .int .i64 r_10.1.Num, .int .i64 r_10.1.Den]) sz_28 (by kernel_rfl) (by kernel_rfl) rfl rfl rfl hL h_80 rfl (by simp) rfl ?_)
                intro w_33 hS h_81
                replace h_3 := hS.ow h_3 (hL.apart 1 0 rfl rfl (by decide))
                replace hB := hS.below hL hB
                replace hL := hS.hL
                refine wl_val (v := .bool r_10.2) (w' := w_33) (by kernel_rfl) (run_assign (v := .bool r_10.2) (by kernel_rfl)) ?_
                refine wl_nil ?_
                refine then_n ?_
                refine cw_cut (fun l' w' => ∃ u_12 : Nat → Value, l' = [.agg #[.int .i64 p0_0.N, .int .u8 p0_0.D], .int .u8 p1_0, .int .u8 p2_0, .int .u8 p3_0, .string ⟨⟨p4_0⟩⟩, .pointer (some ⟨g_1, 0, none⟩), undef, undef, undef, undef, (u_12 0), .slice a_1 n_1 c_1, .string ⟨⟨e_4⟩⟩, .string ⟨⟨e_5⟩⟩, .string ⟨⟨e_6⟩⟩, .pointer (some ⟨g_2, 0, none⟩), .bool r_3.2, .pointer (some ⟨g_3, 0, none⟩), .bool r_4.2, .pointer (some ⟨g_4, 0, none⟩), .bool r_5.2, .pointer (some ⟨g_5, 0, none⟩), .bool r_6.2, (u_6 1), (u_6 2), (u_6 3), (u_6 4), (u_6 5), (u_6 6), .pointer (some ⟨g_9, 0, none⟩), .bool r_10.2, undef, (u_12 1), .slice a_1 n_1 c_1, .slice a_1 n_1 c_1, .int .u8 p1_0, .int .i64 (cvt .i64 p1_0), .slice a_1 n_1 c_1, .int .i64 (r_1.length : Int), .int .i64 (rem (cvt .i64 p1_0) (r_1.length : Int)), .pointer (some ⟨b_4, 0 + (rem (cvt .i64 p1_0) (r_1.length : Int)).toNat * 1, none⟩), .string ⟨⟨e_4⟩⟩, .slice a_1 n_1 c_1, .int .u8 p2_0, .int .i64 (cvt .i64 p2_0), .slice a_1 n_1 c_1, .int .i64 (r_1.length : Int), .int .i64 (rem (cvt .i64 p2_0) (r_1.length : Int)), .pointer (some ⟨b_5, 0 + (rem (cvt .i64 p2_0) (r_1.length : Int)).toNat * 1, none⟩), .string ⟨⟨e_5⟩⟩, .slice a_1 n_1 c_1, .int .u8 p3_0, .int .i64 (cvt .i64 p3_0), .slice a_1 n_1 c_1, .int .i64 (r_1.length : Int), .int .i64 (rem (cvt .i64 p3_0) (r_1.length : Int)), .pointer (some ⟨b_6, 0 + (rem (cvt .i64 p3_0) (r_1.length : Int)).toNat * 1, none⟩), .string ⟨⟨e_6⟩⟩, .agg #[.int .i64 p0_0.N, .int .u8 p0_0.D], .agg #[.int .i64 r_2.N, .int .u8 r_2.D], .tuple #[.agg #[.string ⟨⟨r_3.1.Base⟩⟩, .int .i64 r_3.1.Num, .int .i64 r_3.1.Den], .bool r_3.2], .string ⟨⟨e_4⟩⟩, .tuple #[.agg #[.string ⟨⟨r_3.1.Base⟩⟩, .int .i64 r_3.1.Num, .int .i64 r_3.1.Den], .bool r_3.2], .agg #[.string ⟨⟨r_3.1.Base⟩⟩, .int .i64 r_3.1.Num, .int .i64 r_3.1.Den], .bool r_3.2, .tuple #[.agg #[.string ⟨⟨r_4.1.Base⟩⟩, .int .i64 r_4.1.Num, .int .i64 r_4.1.Den], .bool r_4.2], .string ⟨⟨e_5⟩⟩, .tuple #[.agg #[.string ⟨⟨r_4.1.Base⟩⟩, .int .i64 r_4.1.Num, .int .i64 r_4.1.Den], .bool r_4.2], .agg #[.string ⟨⟨r_4.1.Base⟩⟩, .int .i64 r_4.1.Num, .int .i64 r_4.1.Den], .bool r_4.2, (u_1 0), (u_1 1), (u_1 2), (u_1 3), (u_1 4), (u_1 5), (u_1 6), (u_1 7), (u_1 8), (u_1 9), (u_1 10), (u_1 11), (u_1 12), (u_1 13), (u_1 14), .bool x_1, .tuple #[.agg #[.int .i64 r_5.1.N, .int .u8 r_5.1.D], .bool r_5.2], .agg #[.int .i64 r_2.N, .int .u8 r_2.D], .string ⟨⟨e_4⟩⟩, .string ⟨⟨e_4⟩⟩, .tuple #[.agg #[.int .i64 r_5.1.N, .int .u8 r_5.1.D], .bool r_5.2], .agg #[.int .i64 r_5.1.N, .int .u8 r_5.1.D], .bool r_5.2, (u_2 0), (u_2 1), (u_2 2), (u_2 3), (u_2 4), (u_2 5), .bool x_2, .tuple #[.agg #[.int .i64 r_6.1.N, .int .u8 r_6.1.D], .bool r_6.2], .agg #[.int .i64 r_2.N, .int .u8 r_2.D], .string ⟨⟨e_4⟩⟩, .string ⟨⟨e_5⟩⟩, .tuple #[.agg #[.int .i64 r_6.1.N, .int .u8 r_6.1.D], .bool r_6.2], .agg #[.int .i64 r_6.1.N, .int .u8 r_6.1.D], .bool r_6.2, (u_3 0), (u_3 1), (u_3 2), (u_3 3), (u_3 4), (u_3 5), (u_3 6), .bool x_3, (u_6 7), (u_6 8), (u_6 9), (u_6 10), (u_6 11), (u_6 12), (u_6 13), (u_6 14), (u_6 15), (u_6 16), (u_6 17), (u_6 18), (u_6 19), (u_6 20), (u_6 21), (u_6 22), (u_6 23), (u_6 24), (u_6 25), (u_6 26), (u_6 27), (u_6 28), (u_6 29), (u_6 30), (u_6 31), (u_6 32), (u_6 33), (u_6 34), (u_6 35), (u_6 36), (u_6 37), (u_6 38), (u_6 39), (u_6 40), (u_6 41), (u_6 42), (u_6 43), .tuple #[.agg #[.string ⟨⟨r_10.1.Base⟩⟩, .int .i64 r_10.1.Num, .int .i64 r_10.1.Den], .bool r_10.2], .string ⟨⟨p4_0⟩⟩, .tuple #[.agg #[.string ⟨⟨r_10.1.Base⟩⟩, .int .i64 r_10.1.Num, .int .i64 r_10.1.Den], .bool r_10.2], .agg #[.string ⟨⟨r_10.1.Base⟩⟩, .int .i64 r_10.1.Num, .int .i64 r_10.1.Den], .bool r_10.2, (u_12 2), (u_12 3), (u_12 4), (u_12 5), (u_12 6), (u_12 7), (u_12 8), (u_12 9), (u_12 10), (u_12 11), (u_12 12), (u_12 13), (u_12 14), (u_12 15), undef, undef, undef, undef, undef, undef, undef, undef, undef, undef] ∧ LOk w0.heap.size [] F w' ∧ Below w0.heap.size w0 w' ∧ m3_J5 fuel p4_0 r_10  = some r) ?_ ?_
                · refine cw_seq ?_
                  refine cw_region ?_
                  refine wl_val (v := .slice a_1 n_1 c_1) (w' := w_33) (by kernel_rfl) (run_move (v := .slice a_1 n_1 c_1) (by kernel_rfl)) ?_
                  refine wl_val (v := .int .i64 (r_1.length : Int)) (w' := w_33) (by kernel_rfl) (run_len_sl (a := a_1) (n := n_1) (c := c_1) (N := r_1.length) Tryd.underlying24 (by kernel_rfl) h_3.len) ?_
                  refine wl_val (v := .int .i64 0) (w' := w_33) (by kernel_rfl) (run_move (v := .int .i64 0) (by kernel_rfl)) ?_
                  refine wl_nil ?_
                  refine then_n ?_
                  refine cw_block ?_
                  have hS : Stp w0.heap.size _ [blk a_1] F [] w_33 _ := Stp.pick hL [1] rfl (by decide)
                  replace h_3 := hS.ow h_3 nilB
                  replace hB := hS.below hL hB
                  replace hL := hS.hL
                  refine cw_loop (σ := Int) (m3_L7 fuel p4_0 r_1 r_10) r (fun s l' w' => ∃ u_16 : Nat → Value, l' = [.agg #[.int .i64 p0_0.N, .int .u8 p0_0.D], .int .u8 p1_0, .int .u8 p2_0, .int .u8 p3_0, .string ⟨⟨p4_0⟩⟩, .pointer (some ⟨g_1, 0, none⟩), undef, undef, undef, undef, (u_16 0), .slice a_1 n_1 c_1, .string ⟨⟨e_4⟩⟩, .string ⟨⟨e_5⟩⟩, .string ⟨⟨e_6⟩⟩, .pointer (some ⟨g_2, 0, none⟩), .bool r_3.2, .pointer (some ⟨g_3, 0, none⟩), .bool r_4.2, .pointer (some ⟨g_4, 0, none⟩), .bool r_5.2, .pointer (some ⟨g_5, 0, none⟩), .bool r_6.2, (u_6 1), (u_6 2), (u_6 3), (u_6 4), (u_6 5), (u_6 6), .pointer (some ⟨g_9, 0, none⟩), .bool r_10.2, undef, (u_16 1), .slice a_1 n_1 c_1, .slice a_1 n_1 c_1, .int .u8 p1_0, .int .i64 (cvt .i64 p1_0), .slice a_1 n_1 c_1, .int .i64 (r_1.length : Int), .int .i64 (rem (cvt .i64 p1_0) (r_1.length : Int)), .pointer (some ⟨b_4, 0 + (rem (cvt .i64 p1_0) (r_1.length : Int)).toNat * 1, none⟩), .string ⟨⟨e_4⟩⟩, .slice a_1 n_1 c_1, .int .u8 p2_0, .int .i64 (cvt .i64 p2_0), .slice a_1 n_1 c_1, .int .i64 (r_1.length : Int), .int .i64 (rem (cvt .i64 p2_0) (r_1.length : Int)), .pointer (some ⟨b_5, 0 + (rem (cvt .i64 p2_0) (r_1.length : Int)).toNat * 1, none⟩), .string ⟨⟨e_5⟩⟩, .slice a_1 n_1 c_1, .int .u8 p3_0, .int .i64 (cvt .i64 p3_0), .slice a_1 n_1 c_1, .int .i64 (r_1.length : Int), .int .i64 (rem (cvt .i64 p3_0) (r_1.length : Int)), .pointer (some ⟨b_6, 0 + (rem (cvt .i64 p3_0) (r_1.length : Int)).toNat * 1, none⟩), .string ⟨⟨e_6⟩⟩, .agg #[.int .i64 p0_0.N, .int .u8 p0_0.D], .agg #[.int .i64 r_2.N, .int .u8 r_2.D], .tuple #[.agg #[.string ⟨⟨r_3.1.Base⟩⟩, .int .i64 r_3.1.Num, .int .i64 r_3.1.Den], .bool r_3.2], .string ⟨⟨e_4⟩⟩, .tuple #[.agg #[.string ⟨⟨r_3.1.Base⟩⟩, .int .i64 r_3.1.Num, .int .i64 r_3.1.Den], .bool r_3.2], .agg #[.string ⟨⟨r_3.1.Base⟩⟩, .int .i64 r_3.1.Num, .int .i64 r_3.1.Den], .bool r_3.2, .tuple #[.agg #[.string ⟨⟨r_4.1.Base⟩⟩, .int .i64 r_4.1.Num, .int .i64 r_4.1.Den], .bool r_4.2], .string ⟨⟨e_5⟩⟩, .tuple #[.agg #[.string ⟨⟨r_4.1.Base⟩⟩, .int .i64 r_4.1.Num, .int .i64 r_4.1.Den], .bool r_4.2], .agg #[.string ⟨⟨r_4.1.Base⟩⟩, .int .i64 r_4.1.Num, .int .i64 r_4.1.Den], .bool r_4.2, (u_1 0), (u_1 1), (u_1 2), (u_1 3), (u_1 4), (u_1 5), (u_1 6), (u_1 7), (u_1 8), (u_1 9), (u_1 10), (u_1 11), (u_1 12), (u_1 13), (u_1 14), .bool x_1, .tuple #[.agg #[.int .i64 r_5.1.N, .int .u8 r_5.1.D], .bool r_5.2], .agg #[.int .i64 r_2.N, .int .u8 r_2.D], .string ⟨⟨e_4⟩⟩, .string ⟨⟨e_4⟩⟩, .tuple #[.agg #[.int .i64 r_5.1.N, .int .u8 r_5.1.D], .bool r_5.2], .agg #[.int .i64 r_5.1.N, .int .u8 r_5.1.D], .bool r_5.2, (u_2 0), (u_2 1), (u_2 2), (u_2 3), (u_2 4), (u_2 5), .bool x_2, .tuple #[.agg #[.int .i64 r_6.1.N, .int .u8 r_6.1.D], .bool r_6.2], .agg #[.int .i64 r_2.N, .int .u8 r_2.D], .string ⟨⟨e_4⟩⟩, .string ⟨⟨e_5⟩⟩, .tuple #[.agg #[.int .i64 r_6.1.N, .int .u8 r_6.1.D], .bool r_6.2], .agg #[.int .i64 r_6.1.N, .int .u8 r_6.1.D], .bool r_6.2, (u_3 0), (u_3 1), (u_3 2), (u_3 3), (u_3 4), (u_3 5), (u_3 6), .bool x_3, (u_6 7), (u_6 8), (u_6 9), (u_6 10), (u_6 11), (u_6 12), (u_6 13), (u_6 14), (u_6 15), (u_6 16), (u_6 17), (u_6 18), (u_6 19), (u_6 20), (u_6 21), (u_6 22), (u_6 23), (u_6 24), (u_6 25), (u_6 26), (u_6 27), (u_6 28), (u_6 29), (u_6 30), (u_6 31), (u_6 32), (u_6 33), (u_6 34), (u_6 35), (u_6 36), (u_6 37), (u_6 38), (u_6 39), (u_6 40), (u_6 41), (u_6 42), (u_6 43), .tuple #[.agg #[.string ⟨⟨r_10.1.Base⟩⟩, .int .i64 r_10.1.Num, .int .i64 r_10.1.Den], .bool r_10.2], .string ⟨⟨p4_0⟩⟩, .tuple #[.agg #[.string ⟨⟨r_10.1.Base⟩⟩, .int .i64 r_10.1.Num, .int .i64 r_10.1.Den], .bool r_10.2], .agg #[.string ⟨⟨r_10.1.Base⟩⟩, .int .i64 r_10.1.Num, .int .i64 r_10.1.Den], .bool r_10.2, .slice a_1 n_1 c_1, .int .i64 (r_1.length : Int), .int .i64 s, (u_16 2), (u_16 3), (u_16 4), (u_16 5), (u_16 6), (u_16 7), (u_16 8), (u_16 9), (u_16 10), (u_16 11), (u_16 12), undef, undef, undef, undef, undef, undef, undef, undef, undef, undef] ∧ LOk w0.heap.size [blk a_1] F w' ∧ Below w0.heap.size w0 w' ∧ Ow Rp.str 9 ([blk a_1] ++ F) w' a_1 n_1 c_1 r_1) ?_ (s := 0) (n := fuel) ⟨(fun i => ([(u_6 0), undef, undef, undef, undef, undef, undef, undef, undef, undef, undef, undef, undef] : List Value).getD i undef), by kernel_rfl, hL, hB, h_3⟩ hm
                  intro self_1 s l1 w_43 hI hm
                  obtain ⟨x_12, rfl⟩ : ∃ z, z = s := ⟨s, rfl⟩
                  try dsimp only at hI
                  obtain ⟨u_16, rfl, hL, hB, h_3⟩ := hI
                  unfold m3_L7 at hm
                  refine cw_seq ?_
                  refine cw_region ?_
                  refine wl_val (v := .bool (lt x_12 (r_1.length : Int))) (w' := w_43) (by kernel_rfl) (run_lt (k := .i64) (a := x_12) (b := (r_1.length : Int)) (by kernel_rfl) (by kernel_rfl)) ?_
                  refine wl_nil ?_
                  refine then_n ?_
                  refine cw_seq ?_
                  refine cw_cond (t := (lt x_12 (r_1.length : Int))) (by kernel_rfl) (fun hc_34 => ?_) (fun hc_34 => ?_)
                  · have hm := ite_t hm hc_34
                    refine cw_skip ?_
                    refine then_n ?_
                    refine cw_seq ?_
                    refine cw_block ?_
                    refine cw_seq ?_
                    refine cw_region ?_
                    obtain ⟨e_12, h_124, hm⟩ := bind_e hm
                    obtain ⟨h_1250, h_1251, h_1252⟩ := at_some h_124
                    have h_128 : Stp w0.heap.size _ [] F [] _ _ := Stp.pick hL [] rfl (by decide)
                    obtain ⟨b_12, h_126, h_127⟩ := own_el h_3 h_128.hs (hL.out 0 rfl [] rfl rfl) h_1251
                    refine wl_val (v := .pointer (some ⟨b_12, 0 + x_12.toNat * 1, none⟩)) (w' := w_43) (by kernel_rfl) (run_indexAddr' (n := n_1) (c := c_1) (k := .i64) (j := x_12) Tryd.underlying24 sz_9 (by kernel_rfl) h_126 (by kernel_rfl) h_1250 (by rw [h_3.len]; exact h_1252)) ?_
                    obtain ⟨cs_12, h_129, h_130⟩ := El.load ty_9 h_127
                    obtain rfl := str_open h_129
                    refine wl_val (v := .string ⟨⟨e_12⟩⟩) (w' := w_43) (by kernel_rfl) (run_load' (by kernel_rfl) (h_130 _ _ (Fz.refl [] _) nilM)) ?_
                    refine wl_val (v := .string ⟨⟨e_12⟩⟩) (w' := w_43) (by kernel_rfl) (run_assign (v := .string ⟨⟨e_12⟩⟩) (by kernel_rfl)) ?_
                    refine wl_nil ?_
                    refine then_n ?_
                    refine cw_seq ?_
                    refine cw_region ?_
                    refine wl_val (v := .string ⟨⟨e_12⟩⟩) (w' := w_43) (by kernel_rfl) (run_move (v := .string ⟨⟨e_12⟩⟩) (by kernel_rfl)) ?_
                    refine wl_val (v := .string ⟨⟨p4_0⟩⟩) (w' := w_43) (by kernel_rfl) (run_move (v := .string ⟨⟨p4_0⟩⟩) (by kernel_rfl)) ?_
                    refine wl_val (v := .bool (eqs e_12 p4_0)) (w' := w_43) (by kernel_rfl) (run_eqs (a := e_12) (b := p4_0) (by kernel_rfl) (by kernel_rfl)) ?_
                    refine wl_nil ?_
                    refine then_n ?_
                    refine cw_cond (t := (eqs e_12 p4_0)) (by kernel_rfl) (fun hc_35 => ?_) (fun hc_35 => ?_)
                    · have hm := ite_t hm hc_35
                      refine cw_cut (fun l' w' => ∃ x_14, ∃ u_18 : Nat → Value, l' = [.agg #[.int .i64 p0_0.N, .int .u8 p0_0.D], .int .u8 p1_0, .int .u8 p2_0, .int .u8 p3_0, .string ⟨⟨p4_0⟩⟩, .pointer (some ⟨g_1, 0, none⟩), undef, undef, undef, undef, .bool x_14, .slice a_1 n_1 c_1, .string ⟨⟨e_4⟩⟩, .string ⟨⟨e_5⟩⟩, .string ⟨⟨e_6⟩⟩, .pointer (some ⟨g_2, 0, none⟩), .bool r_3.2, .pointer (some ⟨g_3, 0, none⟩), .bool r_4.2, .pointer (some ⟨g_4, 0, none⟩), .bool r_5.2, .pointer (some ⟨g_5, 0, none⟩), .bool r_6.2, (u_6 1), (u_6 2), (u_6 3), (u_6 4), (u_6 5), (u_6 6), .pointer (some ⟨g_9, 0, none⟩), .bool r_10.2, undef, .string ⟨⟨e_12⟩⟩, .slice a_1 n_1 c_1, .slice a_1 n_1 c_1, .int .u8 p1_0, .int .i64 (cvt .i64 p1_0), .slice a_1 n_1 c_1, .int .i64 (r_1.length : Int), .int .i64 (rem (cvt .i64 p1_0) (r_1.length : Int)), .pointer (some ⟨b_4, 0 + (rem (cvt .i64 p1_0) (r_1.length : Int)).toNat * 1, none⟩), .string ⟨⟨e_4⟩⟩, .slice a_1 n_1 c_1, .int .u8 p2_0, .int .i64 (cvt .i64 p2_0), .slice a_1 n_1 c_1, .int .i64 (r_1.length : Int), .int .i64 (rem (cvt .i64 p2_0) (r_1.length : Int)), .pointer (some ⟨b_5, 0 + (rem (cvt .i64 p2_0) (r_1.length : Int)).toNat * 1, none⟩), .string ⟨⟨e_5⟩⟩, .slice a_1 n_1 c_1, .int .u8 p3_0, .int .i64 (cvt .i64 p3_0), .slice a_1 n_1 c_1, .int .i64 (r_1.length : Int), .int .i64 (rem (cvt .i64 p3_0) (r_1.length : Int)), .pointer (some ⟨b_6, 0 + (rem (cvt .i64 p3_0) (r_1.length : Int)).toNat * 1, none⟩), .string ⟨⟨e_6⟩⟩, .agg #[.int .i64 p0_0.N, .int .u8 p0_0.D], .agg #[.int .i64 r_2.N, .int .u8 r_2.D], .tuple #[.agg #[.string ⟨⟨r_3.1.Base⟩⟩, .int .i64 r_3.1.Num, .int .i64 r_3.1.Den], .bool r_3.2], .string ⟨⟨e_4⟩⟩, .tuple #[.agg #[.string ⟨⟨r_3.1.Base⟩⟩, .int .i64 r_3.1.Num, .int .i64 r_3.1.Den], .bool r_3.2], .agg #[.string ⟨⟨r_3.1.Base⟩⟩, .int .i64 r_3.1.Num, .int .i64 r_3.1.Den], .bool r_3.2, .tuple #[.agg #[.string ⟨⟨r_4.1.Base⟩⟩, .int .i64 r_4.1.Num, .int .i64 r_4.1.Den], .bool r_4.2], .string ⟨⟨e_5⟩⟩, .tuple #[.agg #[.string ⟨⟨r_4.1.Base⟩⟩, .int .i64 r_4.1.Num, .int .i64 r_4.1.Den], .bool r_4.2], .agg #[.string ⟨⟨r_4.1.Base⟩⟩, .int .i64 r_4.1.Num, .int .i64 r_4.1.Den], .bool r_4.2, (u_1 0), (u_1 1), (u_1 2), (u_1 3), (u_1 4), (u_1 5), (u_1 6), (u_1 7), (u_1 8), (u_1 9), (u_1 10), (u_1 11), (u_1 12), (u_1 13), (u_1 14), .bool x_1, .tuple #[.agg #[.int .i64 r_5.1.N, .int .u8 r_5.1.D], .bool r_5.2], .agg #[.int .i64 r_2.N, .int .u8 r_2.D], .string ⟨⟨e_4⟩⟩, .string ⟨⟨e_4⟩⟩, .tuple #[.agg #[.int .i64 r_5.1.N, .int .u8 r_5.1.D], .bool r_5.2], .agg #[.int .i64 r_5.1.N, .int .u8 r_5.1.D], .bool r_5.2, (u_2 0), (u_2 1), (u_2 2), (u_2 3), (u_2 4), (u_2 5), .bool x_2, .tuple #[.agg #[.int .i64 r_6.1.N, .int .u8 r_6.1.D], .bool r_6.2], .agg #[.int .i64 r_2.N, .int .u8 r_2.D], .string ⟨⟨e_4⟩⟩, .string ⟨⟨e_5⟩⟩, .tuple #[.agg #[.int .i64 r_6.1.N, .int .u8 r_6.1.D], .bool r_6.2], .agg #[.int .i64 r_6.1.N, .int .u8 r_6.1.D], .bool r_6.2, (u_3 0), (u_3 1), (u_3 2), (u_3 3), (u_3 4), (u_3 5), (u_3 6), .bool x_3, (u_6 7), (u_6 8), (u_6 9), (u_6 10), (u_6 11), (u_6 12), (u_6 13), (u_6 14), (u_6 15), (u_6 16), (u_6 17), (u_6 18), (u_6 19), (u_6 20), (u_6 21), (u_6 22), (u_6 23), (u_6 24), (u_6 25), (u_6 26), (u_6 27), (u_6 28), (u_6 29), (u_6 30), (u_6 31), (u_6 32), (u_6 33), (u_6 34), (u_6 35), (u_6 36), (u_6 37), (u_6 38), (u_6 39), (u_6 40), (u_6 41), (u_6 42), (u_6 43), .tuple #[.agg #[.string ⟨⟨r_10.1.Base⟩⟩, .int .i64 r_10.1.Num, .int .i64 r_10.1.Den], .bool r_10.2], .string ⟨⟨p4_0⟩⟩, .tuple #[.agg #[.string ⟨⟨r_10.1.Base⟩⟩, .int .i64 r_10.1.Num, .int .i64 r_10.1.Den], .bool r_10.2], .agg #[.string ⟨⟨r_10.1.Base⟩⟩, .int .i64 r_10.1.Num, .int .i64 r_10.1.Den], .bool r_10.2, .slice a_1 n_1 c_1, .int .i64 (r_1.length : Int), .int .i64 x_12, .bool (lt x_12 (r_1.length : Int)), .pointer (some ⟨b_12, 0 + x_12.toNat * 1, none⟩), .string ⟨⟨e_12⟩⟩, .string ⟨⟨e_12⟩⟩, .string ⟨⟨p4_0⟩⟩, .bool (eqs e_12 p4_0), (u_18 0), (u_18 1), (u_18 2), (u_18 3), (u_16 12), undef, undef, undef, undef, undef, undef, undef, undef, undef, undef] ∧ LOk w0.heap.size [] F w' ∧ Below w0.heap.size w0 w' ∧ m3_J8 fuel x_14 = some r) ?_ ?_
                      · refine cw_region ?_
                        refine wl_val (v := .bool r_10.2) (w' := w_43) (by kernel_rfl) (run_move (v := .bool r_10.2) (by kernel_rfl)) ?_
                        refine wl_val (v := .bool r_10.2) (w' := w_43) (by kernel_rfl) (run_move (v := .bool r_10.2) (by kernel_rfl)) ?_
                        refine wl_norm [.agg #[.int .i64 p0_0.N, .int .u8 p0_0.D], .int .u8 p1_0, .int .u8 p2_0, .int .u8 p3_0, .string ⟨⟨p4_0⟩⟩, .pointer (some ⟨g_1, 0, none⟩), undef, undef, undef, undef, (u_16 0), .slice a_1 n_1 c_1, .string ⟨⟨e_4⟩⟩, .string ⟨⟨e_5⟩⟩, .string ⟨⟨e_6⟩⟩, .pointer (some ⟨g_2, 0, none⟩), .bool r_3.2, .pointer (some ⟨g_3, 0, none⟩), .bool r_4.2, .pointer (some ⟨g_4, 0, none⟩), .bool r_5.2, .pointer (some ⟨g_5, 0, none⟩), .bool r_6.2, (u_6 1), (u_6 2), (u_6 3), (u_6 4), (u_6 5), (u_6 6), .pointer (some ⟨g_9, 0, none⟩), .bool r_10.2, undef, .string ⟨⟨e_12⟩⟩, .slice a_1 n_1 c_1, .slice a_1 n_1 c_1, .int .u8 p1_0, .int .i64 (cvt .i64 p1_0), .slice a_1 n_1 c_1, .int .i64 (r_1.length : Int), .int .i64 (rem (cvt .i64 p1_0) (r_1.length : Int)), .pointer (some ⟨b_4, 0 + (rem (cvt .i64 p1_0) (r_1.length : Int)).toNat * 1, none⟩), .string ⟨⟨e_4⟩⟩, .slice a_1 n_1 c_1, .int .u8 p2_0, .int .i64 (cvt .i64 p2_0), .slice a_1 n_1 c_1, .int .i64 (r_1.length : Int), .int .i64 (rem (cvt .i64 p2_0) (r_1.length : Int)), .pointer (some ⟨b_5, 0 + (rem (cvt .i64 p2_0) (r_1.length : Int)).toNat * 1, none⟩), .string ⟨⟨e_5⟩⟩, .slice a_1 n_1 c_1, .int .u8 p3_0, .int .i64 (cvt .i64 p3_0), .slice a_1 n_1 c_1, .int .i64 (r_1.length : Int), .int .i64 (rem (cvt .i64 p3_0) (r_1.length : Int)), .pointer (some ⟨b_6, 0 + (rem (cvt .i64 p3_0) (r_1.length : Int)).toNat * 1, none⟩), .string ⟨⟨e_6⟩⟩, .agg #[.int .i64 p0_0.N, .int .u8 p0_0.D], .agg #[.int .i64 r_2.N, .int .u8 r_2.D], .tuple #[.agg #[.string ⟨⟨r_3.1.Base⟩⟩, .int .i64 r_3.1.Num, .int .i64 r_3.1.Den], .bool r_3.2], .string ⟨⟨e_4⟩⟩, .tuple #[.agg #[.string ⟨⟨r_3.1.Base⟩⟩, .int .i64 r_3.1.Num, .int .i64 r_3.1.Den], .bool r_3.2], .agg #[.string ⟨⟨r_3.1.Base⟩⟩, .int .i64 r_3.1.Num, .int .i64 r_3.1.Den], .bool r_3.2, .tuple #[.agg #[.string ⟨⟨r_4.1.Base⟩⟩, .int .i64 r_4.1.Num, .int .i64 r_4.1.Den], .bool r_4.2], .string ⟨⟨e_5⟩⟩, .tuple #[.agg #[.string ⟨⟨r_4.1.Base⟩⟩, .int .i64 r_4.1.Num, .int .i64 r_4.1.Den], .bool r_4.2], .agg #[.string ⟨⟨r_4.1.Base⟩⟩, .int .i64 r_4.1.Num, .int .i64 r_4.1.Den], .bool r_4.2, (u_1 0), (u_1 1), (u_1 2), (u_1 3), (u_1 4), (u_1 5), (u_1 6), (u_1 7), (u_1 8), (u_1 9), (u_1 10), (u_1 11), (u_1 12), (u_1 13), (u_1 14), .bool x_1, .tuple #[.agg #[.int .i64 r_5.1.N, .int .u8 r_5.1.D], .bool r_5.2], .agg #[.int .i64 r_2.N, .int .u8 r_2.D], .string ⟨⟨e_4⟩⟩, .string ⟨⟨e_4⟩⟩, .tuple #[.agg #[.int .i64 r_5.1.N, .int .u8 r_5.1.D], .bool r_5.2], .agg #[.int .i64 r_5.1.N, .int .u8 r_5.1.D], .bool r_5.2, (u_2 0), (u_2 1), (u_2 2), (u_2 3), (u_2 4), (u_2 5), .bool x_2, .tuple #[.agg #[.int .i64 r_6.1.N, .int .u8 r_6.1.D], .bool r_6.2], .agg #[.int .i64 r_2.N, .int .u8 r_2.D], .string ⟨⟨e_4⟩⟩, .string ⟨⟨e_5⟩⟩, .tuple #[.agg #[.int .i64 r_6.1.N, .int .u8 r_6.1.D], .bool r_6.2], .agg #[.int .i64 r_6.1.N, .int .u8 r_6.1.D], .bool r_6.2, (u_3 0), (u_3 1), (u_3 2), (u_3 3), (u_3 4), (u_3 5), (u_3 6), .bool x_3, (u_6 7), (u_6 8), (u_6 9), (u_6 10), (u_6 11), (u_6 12), (u_6 13), (u_6 14), (u_6 15), (u_6 16), (u_6 17), (u_6 18), (u_6 19), (u_6 20), (u_6 21), (u_6 22), (u_6 23), (u_6 24), (u_6 25), (u_6 26), (u_6 27), (u_6 28), (u_6 29), (u_6 30), (u_6 31), (u_6 32), (u_6 33), (u_6 34), (u_6 35), (u_6 36), (u_6 37), (u_6 38), (u_6 39), (u_6 40), (u_6 41), (u_6 42), (u_6 43), .tuple #[.agg #[.string ⟨⟨r_10.1.Base⟩⟩, .int .i64 r_10.1.Num, .int .i64 r_10.1.Den], .bool r_10.2], .string ⟨⟨p4_0⟩⟩, .tuple #[.agg #[.string ⟨⟨r_10.1.Base⟩⟩, .int .i64 r_10.1.Num, .int .i64 r_10.1.Den], .bool r_10.2], .agg #[.string ⟨⟨r_10.1.Base⟩⟩, .int .i64 r_10.1.Num, .int .i64 r_10.1.Den], .bool r_10.2, .slice a_1 n_1 c_1, .int .i64 (r_1.length : Int), .int .i64 x_12, .bool (lt x_12 (r_1.length : Int)), .pointer (some ⟨b_12, 0 + x_12.toNat * 1, none⟩), .string ⟨⟨e_12⟩⟩, .string ⟨⟨e_12⟩⟩, .string ⟨⟨p4_0⟩⟩, .bool (eqs e_12 p4_0), .bool r_10.2, .bool r_10.2, (u_16 10), (u_16 11), (u_16 12), undef, undef, undef, undef, undef, undef, undef, undef, undef, undef] (by kernel_rfl) ?_
                        rcases Bool.eq_false_or_eq_true r_10.2 with hc_37 | hc_37
                        · have hm := ite_t hm hc_37
                          obtain ⟨r_19, h_132, hm⟩ := bind_e hm
                          refine wl_op (wg (c := r_10.2) (want := true) (by kernel_rfl) hc_37 rfl) (ow_enter (run_callf (vs := []) Tryd.func12 nm_12 (by kernel_rfl) (by kernel_rfl)) (f12_ok fuel _ w_43 hL.lt  h_132) ?_)
                          intro vR w_46 hR
                          obtain ⟨rfl, hBe⟩ := hR
                          have hS := Stp.call hL (Fz.of_below hBe [])
                          replace h_3 := hS.ow h_3 nilB
                          replace hB := hS.below hL hB
                          replace hL := hS.hL
                          refine wl_val (v := .bool r_19) (w' := w_46) (by kernel_rfl) (run_pick_t (v := .bool r_19) (tr2 (c := r_10.2) (by kernel_rfl) hc_37) (by kernel_rfl)) ?_
                          refine wl_val (v := .bool r_19) (w' := w_46) (by kernel_rfl) (run_assign (v := .bool r_19) (by kernel_rfl)) ?_
                          refine wl_nil ?_
                          have hS : Stp w0.heap.size _ [] F [] w_46 _ := Stp.pick hL [] rfl (by decide)
                          replace hB := hS.below hL hB
                          replace hL := hS.hL
                          exact then_c ⟨r_19, (fun i => ([.bool r_10.2, .bool r_10.2, .bool r_19, .bool r_19] : List Value).getD i undef), by kernel_rfl, hL, hB, hm⟩
                        · have hm := ite_f hm hc_37
                          refine wl_not (wg (c := r_10.2) (want := true) (by kernel_rfl) hc_37 rfl) ?_
                          refine wl_val (v := .bool false) (w' := w_43) (by kernel_rfl) (run_pick_f (v := .bool false) (tr2 (c := r_10.2) (by kernel_rfl) hc_37) (by kernel_rfl)) ?_
                          refine wl_val (v := .bool false) (w' := w_43) (by kernel_rfl) (run_assign (v := .bool false) (by kernel_rfl)) ?_
                          refine wl_nil ?_
                          have hS : Stp w0.heap.size _ [] F [] w_43 _ := Stp.pick hL [] rfl (by decide)
                          replace hB := hS.below hL hB
                          replace hL := hS.hL
                          exact then_c ⟨false, (fun i => ([.bool r_10.2, .bool r_10.2, undef, .bool false] : List Value).getD i undef), by kernel_rfl, hL, hB, hm⟩
                      · intro l1 w_45 hI
                        obtain ⟨x_14, u_18, rfl, hL, hB, hm⟩ := hI
                        unfold m3_J8 at hm
                        refine cw_ret ?_
                        refine inBlock_ret ?_
                        refine then_ret ?_
                        refine then_ret ?_
                        refine inBlock_ret ?_
                        refine then_ret ?_
                        obtain rfl := Option.some.inj hm
                        exact ret1 (v := .bool x_14) rfl (resv_tmp (by kernel_rfl)) ⟨_, rfl, by kernel_rfl, hB⟩
                    · have hm := ite_f hm hc_35
                      refine cw_skip ?_
                      refine inBlock_n ?_
                      refine then_n ?_
                      refine cw_region ?_
                      refine wl_val (v := .int .i64 (add .i64 x_12 1)) (w' := w_43) (by kernel_rfl) (run_add (k := .i64) (a := x_12) (b := 1) (by kernel_rfl) (by kernel_rfl)) ?_
                      refine wl_val (v := .int .i64 (add .i64 x_12 1)) (w' := w_43) (by kernel_rfl) (run_move (v := .int .i64 (add .i64 x_12 1)) (by kernel_rfl)) ?_
                      refine wl_nil ?_
                      exact ⟨_, rfl, (add .i64 x_12 1), ⟨(fun i => ([(u_16 0), .string ⟨⟨e_12⟩⟩, .bool (lt x_12 (r_1.length : Int)), .pointer (some ⟨b_12, 0 + x_12.toNat * 1, none⟩), .string ⟨⟨e_12⟩⟩, .string ⟨⟨e_12⟩⟩, .string ⟨⟨p4_0⟩⟩, .bool (eqs e_12 p4_0), (u_16 8), (u_16 9), (u_16 10), (u_16 11), .int .i64 (add .i64 x_12 1)] : List Value).getD i undef), by kernel_rfl, hL, hB, h_3⟩, hm⟩
                  · have hm := ite_f hm hc_34
                    refine cw_exit ?_
                    refine then_exit ?_
                    refine then_exit ?_
                    refine inBlock_same ?_
                    have hS : Stp w0.heap.size _ [] F [] w_43 _ := Stp.pick hL [] rfl (by decide)
                    replace hB := hS.below hL hB
                    replace hL := hS.hL
                    exact then_c ⟨(fun i => ([(u_16 0), (u_16 1), .slice a_1 n_1 c_1, .int .i64 (r_1.length : Int), .int .i64 x_12, .bool (lt x_12 (r_1.length : Int)), (u_16 3), (u_16 4), (u_16 5), (u_16 6), (u_16 7), (u_16 8), (u_16 9), (u_16 10), (u_16 11), (u_16 12)] : List Value).getD i undef), by kernel_rfl, hL, hB, hm⟩
                · intro l1 w_37 hI
                  obtain ⟨u_12, rfl, hL, hB, hm⟩ := hI
                  unfold m3_J5 at hm
                  refine cw_cut (fun l' w' => ∃ x_10, ∃ u_13 : Nat → Value, l' = [.agg #[.int .i64 p0_0.N, .int .u8 p0_0.D], .int .u8 p1_0, .int .u8 p2_0, .int .u8 p3_0, .string ⟨⟨p4_0⟩⟩, .pointer (some ⟨g_1, 0, none⟩), undef, undef, undef, undef, .bool x_10, .slice a_1 n_1 c_1, .string ⟨⟨e_4⟩⟩, .string ⟨⟨e_5⟩⟩, .string ⟨⟨e_6⟩⟩, .pointer (some ⟨g_2, 0, none⟩), .bool r_3.2, .pointer (some ⟨g_3, 0, none⟩), .bool r_4.2, .pointer (some ⟨g_4, 0, none⟩), .bool r_5.2, .pointer (some ⟨g_5, 0, none⟩), .bool r_6.2, (u_6 1), (u_6 2), (u_6 3), (u_6 4), (u_6 5), (u_6 6), .pointer (some ⟨g_9, 0, none⟩), .bool r_10.2, undef, (u_12 1), .slice a_1 n_1 c_1, .slice a_1 n_1 c_1, .int .u8 p1_0, .int .i64 (cvt .i64 p1_0), .slice a_1 n_1 c_1, .int .i64 (r_1.length : Int), .int .i64 (rem (cvt .i64 p1_0) (r_1.length : Int)), .pointer (some ⟨b_4, 0 + (rem (cvt .i64 p1_0) (r_1.length : Int)).toNat * 1, none⟩), .string ⟨⟨e_4⟩⟩, .slice a_1 n_1 c_1, .int .u8 p2_0, .int .i64 (cvt .i64 p2_0), .slice a_1 n_1 c_1, .int .i64 (r_1.length : Int), .int .i64 (rem (cvt .i64 p2_0) (r_1.length : Int)), .pointer (some ⟨b_5, 0 + (rem (cvt .i64 p2_0) (r_1.length : Int)).toNat * 1, none⟩), .string ⟨⟨e_5⟩⟩, .slice a_1 n_1 c_1, .int .u8 p3_0, .int .i64 (cvt .i64 p3_0), .slice a_1 n_1 c_1, .int .i64 (r_1.length : Int), .int .i64 (rem (cvt .i64 p3_0) (r_1.length : Int)), .pointer (some ⟨b_6, 0 + (rem (cvt .i64 p3_0) (r_1.length : Int)).toNat * 1, none⟩), .string ⟨⟨e_6⟩⟩, .agg #[.int .i64 p0_0.N, .int .u8 p0_0.D], .agg #[.int .i64 r_2.N, .int .u8 r_2.D], .tuple #[.agg #[.string ⟨⟨r_3.1.Base⟩⟩, .int .i64 r_3.1.Num, .int .i64 r_3.1.Den], .bool r_3.2], .string ⟨⟨e_4⟩⟩, .tuple #[.agg #[.string ⟨⟨r_3.1.Base⟩⟩, .int .i64 r_3.1.Num, .int .i64 r_3.1.Den], .bool r_3.2], .agg #[.string ⟨⟨r_3.1.Base⟩⟩, .int .i64 r_3.1.Num, .int .i64 r_3.1.Den], .bool r_3.2, .tuple #[.agg #[.string ⟨⟨r_4.1.Base⟩⟩, .int .i64 r_4.1.Num, .int .i64 r_4.1.Den], .bool r_4.2], .string ⟨⟨e_5⟩⟩, .tuple #[.agg #[.string ⟨⟨r_4.1.Base⟩⟩, .int .i64 r_4.1.Num, .int .i64 r_4.1.Den], .bool r_4.2], .agg #[.string ⟨⟨r_4.1.Base⟩⟩, .int .i64 r_4.1.Num, .int .i64 r_4.1.Den], .bool r_4.2, (u_1 0), (u_1 1), (u_1 2), (u_1 3), (u_1 4), (u_1 5), (u_1 6), (u_1 7), (u_1 8), (u_1 9), (u_1 10), (u_1 11), (u_1 12), (u_1 13), (u_1 14), .bool x_1, .tuple #[.agg #[.int .i64 r_5.1.N, .int .u8 r_5.1.D], .bool r_5.2], .agg #[.int .i64 r_2.N, .int .u8 r_2.D], .string ⟨⟨e_4⟩⟩, .string ⟨⟨e_4⟩⟩, .tuple #[.agg #[.int .i64 r_5.1.N, .int .u8 r_5.1.D], .bool r_5.2], .agg #[.int .i64 r_5.1.N, .int .u8 r_5.1.D], .bool r_5.2, (u_2 0), (u_2 1), (u_2 2), (u_2 3), (u_2 4), (u_2 5), .bool x_2, .tuple #[.agg #[.int .i64 r_6.1.N, .int .u8 r_6.1.D], .bool r_6.2], .agg #[.int .i64 r_2.N, .int .u8 r_2.D], .string ⟨⟨e_4⟩⟩, .string ⟨⟨e_5⟩⟩, .tuple #[.agg #[.int .i64 r_6.1.N, .int .u8 r_6.1.D], .bool r_6.2], .agg #[.int .i64 r_6.1.N, .int .u8 r_6.1.D], .bool r_6.2, (u_3 0), (u_3 1), (u_3 2), (u_3 3), (u_3 4), (u_3 5), (u_3 6), .bool x_3, (u_6 7), (u_6 8), (u_6 9), (u_6 10), (u_6 11), (u_6 12), (u_6 13), (u_6 14), (u_6 15), (u_6 16), (u_6 17), (u_6 18), (u_6 19), (u_6 20), (u_6 21), (u_6 22), (u_6 23), (u_6 24), (u_6 25), (u_6 26), (u_6 27), (u_6 28), (u_6 29), (u_6 30), (u_6 31), (u_6 32), (u_6 33), (u_6 34), (u_6 35), (u_6 36), (u_6 37), (u_6 38), (u_6 39), (u_6 40), (u_6 41), (u_6 42), (u_6 43), .tuple #[.agg #[.string ⟨⟨r_10.1.Base⟩⟩, .int .i64 r_10.1.Num, .int .i64 r_10.1.Den], .bool r_10.2], .string ⟨⟨p4_0⟩⟩, .tuple #[.agg #[.string ⟨⟨r_10.1.Base⟩⟩, .int .i64 r_10.1.Num, .int .i64 r_10.1.Den], .bool r_10.2], .agg #[.string ⟨⟨r_10.1.Base⟩⟩, .int .i64 r_10.1.Num, .int .i64 r_10.1.Den], .bool r_10.2, (u_12 2), (u_12 3), (u_12 4), (u_12 5), (u_12 6), (u_12 7), (u_12 8), (u_12 9), (u_12 10), (u_12 11), (u_12 12), (u_12 13), (u_12 14), (u_12 15), (u_13 0), (u_13 1), (u_13 2), (u_13 3), (u_13 4), (u_13 5), (u_13 6), (u_13 7), (u_13 8), (u_13 9)] ∧ LOk w0.heap.size [] F w' ∧ Below w0.heap.size w0 w' ∧ m3_J6 fuel x_10 = some r) ?_ ?_
                  · refine cw_region ?_
                    refine wl_val (v := .string ⟨⟨p4_0⟩⟩) (w' := w_37) (by kernel_rfl) (run_move (v := .string ⟨⟨p4_0⟩⟩) (by kernel_rfl)) ?_
                    refine wl_val (v := .int .i64 (p4_0.length : Int)) (w' := w_37) (by kernel_rfl) (run_len_str (s := p4_0) Tryd.underlying9 (by kernel_rfl)) ?_
                    refine wl_val (v := .bool (gt (p4_0.length : Int) 10)) (w' := w_37) (by kernel_rfl) (run_gt (k := .i64) (a := (p4_0.length : Int)) (b := 10) (by kernel_rfl) (by kernel_rfl)) ?_
                    refine wl_val (v := .bool (gt (p4_0.length : Int) 10)) (w' := w_37) (by kernel_rfl) (run_move (v := .bool (gt (p4_0.length : Int) 10)) (by kernel_rfl)) ?_
                    rcases Bool.eq_false_or_eq_true (gt (p4_0.length : Int) 10) with hc_26 | hc_26
                    · have hm := ite_t hm hc_26
                      refine wl_not0 (wg (c := (gt (p4_0.length : Int) 10)) (want := false) (by kernel_rfl) hc_26 rfl) (by kernel_rfl) ?_
                      refine wl_not0 (wg (c := (gt (p4_0.length : Int) 10)) (want := false) (by kernel_rfl) hc_26 rfl) (by kernel_rfl) ?_
                      refine wl_not0 (wg (c := (gt (p4_0.length : Int) 10)) (want := false) (by kernel_rfl) hc_26 rfl) (by kernel_rfl) ?_
                      refine wl_not0 (by kernel_rfl) (by kernel_rfl) ?_
                      refine wl_not0 (wg (c := (gt (p4_0.length : Int) 10)) (want := false) (by kernel_rfl) hc_26 rfl) (by kernel_rfl) ?_
                      refine wl_val (v := .bool true) (w' := w_37) (by kernel_rfl) (run_pick_t (v := .bool true) (tr2 (c := (gt (p4_0.length : Int) 10)) (by kernel_rfl) hc_26) (by kernel_rfl)) ?_
                      refine wl_val (v := .bool true) (w' := w_37) (by kernel_rfl) (run_assign (v := .bool true) (by kernel_rfl)) ?_
                      refine wl_nil ?_
                      exact then_c ⟨true, (fun i => ([.string ⟨⟨p4_0⟩⟩, .int .i64 (p4_0.length : Int), .bool (gt (p4_0.length : Int) 10), .bool (gt (p4_0.length : Int) 10), undef, undef, undef, undef, undef, .bool true] : List Value).getD i undef), by kernel_rfl, hL, hB, hm⟩
                    · have hm := ite_f hm hc_26
                      refine wl_val (v := .bool r_10.2) (w' := w_37) (wg (c := (gt (p4_0.length : Int) 10)) (want := false) (by kernel_rfl) hc_26 rfl) (run_move (v := .bool r_10.2) (by kernel_rfl)) ?_
                      refine wl_val (v := .bool (!r_10.2)) (w' := w_37) (wg (c := (gt (p4_0.length : Int) 10)) (want := false) (by kernel_rfl) hc_26 rfl) (run_not (b := r_10.2) (by kernel_rfl)) ?_
                      refine wl_val (v := .bool (!r_10.2)) (w' := w_37) (wg (c := (gt (p4_0.length : Int) 10)) (want := false) (by kernel_rfl) hc_26 rfl) (run_move (v := .bool (!r_10.2)) (by kernel_rfl)) ?_
                      rcases Bool.eq_false_or_eq_true r_10.2 with hc_27 | hc_27
                      · have hm := ite_t hm hc_27
                        refine wl_not0 (wg (c := (!r_10.2)) (want := true) (by kernel_rfl) (not_t hc_27) rfl) (by kernel_rfl) ?_
                        refine wl_val (v := .bool false) (w' := w_37) (wg (c := (gt (p4_0.length : Int) 10)) (want := false) (by kernel_rfl) hc_26 rfl) (run_pick_f (v := .bool false) (tr2 (c := (!r_10.2)) (by kernel_rfl) (not_t hc_27)) (by kernel_rfl)) ?_
                        refine wl_val (v := .bool false) (w' := w_37) (by kernel_rfl) (run_pick_f (v := .bool false) (tr2 (c := (gt (p4_0.length : Int) 10)) (by kernel_rfl) hc_26) (by kernel_rfl)) ?_
                        refine wl_val (v := .bool false) (w' := w_37) (by kernel_rfl) (run_assign (v := .bool false) (by kernel_rfl)) ?_
                        refine wl_nil ?_
                        exact then_c ⟨false, (fun i => ([.string ⟨⟨p4_0⟩⟩, .int .i64 (p4_0.length : Int), .bool (gt (p4_0.length : Int) 10), .bool (gt (p4_0.length : Int) 10), .bool r_10.2, .bool (!r_10.2), .bool (!r_10.2), undef, .bool false, .bool false] : List Value).getD i undef), by kernel_rfl, hL, hB, hm⟩
                      · have hm := ite_f hm hc_27
                        obtain ⟨r_15, h_107, hm⟩ := bind_e hm
                        refine wl_op (wg (c := (!r_10.2)) (want := true) (by kernel_rfl) (not_f hc_27) rfl) (ow_enter (run_callf (vs := []) Tryd.func12 nm_12 (by kernel_rfl) (by kernel_rfl)) (f12_ok fuel _ w_37 hL.lt  h_107) ?_)
                        intro vR w_40 hR
                        obtain ⟨rfl, hBe⟩ := hR
                        have hS := Stp.call hL (Fz.of_below hBe [])
                        replace hB := hS.below hL hB
                        replace hL := hS.hL
                        refine wl_val (v := .bool r_15) (w' := w_40) (wg (c := (gt (p4_0.length : Int) 10)) (want := false) (by kernel_rfl) hc_26 rfl) (run_pick_t (v := .bool r_15) (tr2 (c := (!r_10.2)) (by kernel_rfl) (not_f hc_27)) (by kernel_rfl)) ?_
                        refine wl_val (v := .bool r_15) (w' := w_40) (by kernel_rfl) (run_pick_f (v := .bool r_15) (tr2 (c := (gt (p4_0.length : Int) 10)) (by kernel_rfl) hc_26) (by kernel_rfl)) ?_
                        refine wl_val (v := .bool r_15) (w' := w_40) (by kernel_rfl) (run_assign (v := .bool r_15) (by kernel_rfl)) ?_
                        refine wl_nil ?_
                        exact then_c ⟨r_15, (fun i => ([.string ⟨⟨p4_0⟩⟩, .int .i64 (p4_0.length : Int), .bool (gt (p4_0.length : Int) 10), .bool (gt (p4_0.length : Int) 10), .bool r_10.2, .bool (!r_10.2), .bool (!r_10.2), .bool r_15, .bool r_15, .bool r_15] : List Value).getD i undef), by kernel_rfl, hL, hB, hm⟩
                  · intro l1 w_39 hI
                    obtain ⟨x_10, u_13, rfl, hL, hB, hm⟩ := hI
                    unfold m3_J6 at hm
                    refine cw_ret ?_
                    obtain rfl := Option.some.inj hm
                    exact ret1 (v := .bool x_10) rfl (resv_tmp (by kernel_rfl)) ⟨_, rfl, by kernel_rfl, hB⟩
end SxYtihfogahdofdmaaDoor
