/- Proved in the last of these 10 parts (this is part 3): UnitsWays answers true at every decimal, at every three units, and at every name. Conditions: those of the given statement, and no others. -/
import Derived.Test.YtihfogahdofdmaaDoorParta
import Derived.Test.YtihfogahdofdmaaDoorPartb
set_option linter.unusedVariables false
set_option linter.unusedSimpArgs false
set_option linter.unusedSectionVars false
/- Written by program (gen.py): the model of math/bits.Div64, and the proof that its code computes it. -/
namespace SxYtihfogahdofdmaaDoor
open Go Go.RowKit Sx Go.Proofs
set_option linter.unusedVariables false
set_option linter.unusedSimpArgs false
attribute [local irreducible] WL WX CW OW
/-! ### 38: "math/bits.Div64" -/
def m38_J4 (fuel : Nat) (p1_0 : Int) (p2_0 : Int) (r_1 : Int) (q1_2 : Int) (x_17 : Int) (q0_2 : Int) : Option (Int × Int) :=
  (some (add .u64 (mul .u64 x_17 4294967296) (band .u64 (shl .u64 p1_0 (cvt .u64 r_1)) 4294967295))).bind fun x_32 => (some (sub .u64 x_32 (mul .u64 q0_2 (shl .u64 p2_0 (cvt .u64 r_1))))).bind fun x_33 => need (ge (cvt .u64 r_1) 0) (some ((add .u64 (mul .u64 q1_2 4294967296) q0_2), (shr .u64 x_33 (cvt .u64 r_1))))
def m38_J6 (fuel : Nat) (p1_0 : Int) (p2_0 : Int) (r_1 : Int) (q1_2 : Int) (x_17 : Int) (rhat_3 : Int) (q0_3 : Int) (self_1 : ((Int × Int) → Option (Int × Int))) (x_45 : Bool) : Option (Int × Int) :=
  if x_45 then ((some (add .u64 rhat_3 (shr .u64 (shl .u64 p2_0 (cvt .u64 r_1)) 32))).bind fun x_46 => if (ge x_46 4294967296) then (m38_J4 fuel p1_0 p2_0 r_1 q1_2 x_17 (sub .u64 q0_3 1)) else (self_1 (x_46, (sub .u64 q0_3 1)))) else (m38_J4 fuel p1_0 p2_0 r_1 q1_2 x_17 q0_3)
def m38_L5 (fuel : Nat) (p1_0 : Int) (p2_0 : Int) (r_1 : Int) (q1_2 : Int) (x_17 : Int) (self_1 : Int × Int → Option (Int × Int)) : Int × Int → Option (Int × Int) := fun (rhat_3, q0_3) =>
  if (ge q0_3 4294967296) then (m38_J6 fuel p1_0 p2_0 r_1 q1_2 x_17 rhat_3 q0_3 self_1 true) else ((some (mul .u64 q0_3 (band .u64 (shl .u64 p2_0 (cvt .u64 r_1)) 4294967295))).bind fun x_47 => (some (add .u64 (mul .u64 4294967296 rhat_3) (band .u64 (shl .u64 p1_0 (cvt .u64 r_1)) 4294967295))).bind fun x_48 => m38_J6 fuel p1_0 p2_0 r_1 q1_2 x_17 rhat_3 q0_3 self_1 (gt x_47 x_48))
def m38_J3 (fuel : Nat) (p1_0 : Int) (p2_0 : Int) (r_1 : Int) (x_1 : Int) (q1_2 : Int) : Option (Int × Int) :=
  (some (add .u64 (mul .u64 x_1 4294967296) (shr .u64 (shl .u64 p1_0 (cvt .u64 r_1)) 32))).bind fun x_16 => (some (sub .u64 x_16 (mul .u64 q1_2 (shl .u64 p2_0 (cvt .u64 r_1))))).bind fun x_17 => need (nei (shr .u64 (shl .u64 p2_0 (cvt .u64 r_1)) 32) 0) ((some (mul .u64 (quo .u64 x_17 (shr .u64 (shl .u64 p2_0 (cvt .u64 r_1)) 32)) (shr .u64 (shl .u64 p2_0 (cvt .u64 r_1)) 32))).bind fun x_18 => loopF (m38_L5 fuel p1_0 p2_0 r_1 q1_2 x_17) fuel ((sub .u64 x_17 x_18), (quo .u64 x_17 (shr .u64 (shl .u64 p2_0 (cvt .u64 r_1)) 32))))
def m38_J8 (fuel : Nat) (p1_0 : Int) (p2_0 : Int) (r_1 : Int) (x_1 : Int) (q1_3 : Int) (rhat_4 : Int) (self_2 : ((Int × Int) → Option (Int × Int))) (x_60 : Bool) : Option (Int × Int) :=
  if x_60 then ((some (add .u64 rhat_4 (shr .u64 (shl .u64 p2_0 (cvt .u64 r_1)) 32))).bind fun x_61 => if (ge x_61 4294967296) then (m38_J3 fuel p1_0 p2_0 r_1 x_1 (sub .u64 q1_3 1)) else (self_2 ((sub .u64 q1_3 1), x_61))) else (m38_J3 fuel p1_0 p2_0 r_1 x_1 q1_3)
def m38_L7 (fuel : Nat) (p1_0 : Int) (p2_0 : Int) (r_1 : Int) (x_1 : Int) (self_2 : Int × Int → Option (Int × Int)) : Int × Int → Option (Int × Int) := fun (q1_3, rhat_4) =>
  if (ge q1_3 4294967296) then (m38_J8 fuel p1_0 p2_0 r_1 x_1 q1_3 rhat_4 self_2 true) else ((some (mul .u64 q1_3 (band .u64 (shl .u64 p2_0 (cvt .u64 r_1)) 4294967295))).bind fun x_62 => (some (add .u64 (mul .u64 4294967296 rhat_4) (shr .u64 (shl .u64 p1_0 (cvt .u64 r_1)) 32))).bind fun x_63 => m38_J8 fuel p1_0 p2_0 r_1 x_1 q1_3 rhat_4 self_2 (gt x_62 x_63))
def m38_J2 (fuel : Nat) (p0_0 : Int) (p1_0 : Int) (p2_0 : Int) : Option (Int × Int) :=
  if (eqi p0_0 0) then (need (nei p2_0 0) (need (nei p2_0 0) (some ((quo .u64 p1_0 p2_0), (rem p1_0 p2_0))))) else ((m61 fuel p2_0).bind fun r_1 => need (ge (cvt .u64 r_1) 0) (need (ge (cvt .u64 r_1) 0) (need (ge (sub .u64 64 (cvt .u64 r_1)) 0) ((some (bor .u64 (shl .u64 p0_0 (cvt .u64 r_1)) (shr .u64 p1_0 (sub .u64 64 (cvt .u64 r_1))))).bind fun x_1 => need (ge (cvt .u64 r_1) 0) (need (nei (shr .u64 (shl .u64 p2_0 (cvt .u64 r_1)) 32) 0) ((some (mul .u64 (quo .u64 x_1 (shr .u64 (shl .u64 p2_0 (cvt .u64 r_1)) 32)) (shr .u64 (shl .u64 p2_0 (cvt .u64 r_1)) 32))).bind fun x_2 => loopF (m38_L7 fuel p1_0 p2_0 r_1 x_1) fuel ((quo .u64 x_1 (shr .u64 (shl .u64 p2_0 (cvt .u64 r_1)) 32)), (sub .u64 x_1 x_2))))))))
def m38_J1 (fuel : Nat) (p0_0 : Int) (p1_0 : Int) (p2_0 : Int) : Option (Int × Int) :=
  if (le p2_0 p0_0) then (none) else (m38_J2 fuel p0_0 p1_0 p2_0 )
def m38 (fuel : Nat) (p0_0 : Int) (p1_0 : Int) (p2_0 : Int) : Option (Int × Int) :=
  if (eqi p2_0 0) then (none) else (m38_J1 fuel p0_0 p1_0 p2_0 )
@[reducible] def Q38 (F : Lx) (w0 : World) (r : (Int × Int)) (v : Value) (w' : World) : Prop := v = .tuple #[.int .u64 r.1, .int .u64 r.2] ∧ Below w0.heap.size w0 w'
set_option maxRecDepth 100000 in
set_option maxHeartbeats 4000000 in
theorem f38_ok (fuel : Nat) (F : Lx) (w0 : World) (hF : ∀ k, some k ∈ F → k < w0.heap.size) {p0_0 : Int} {p1_0 : Int} {p2_0 : Int} {r : (Int × Int)} (hm : m38 fuel p0_0 p1_0 p2_0 = some r) :
    Calls Tryd.prog 38 #[.int .u64 p0_0, .int .u64 p1_0, .int .u64 p2_0] w0 (fun e w' => ∃ v, e = .returned v ∧ Q38 F w0 r v w') := by
  have hPF : PF (bodyPost Tryd.prog Tryd.f38 (fun e w' => ∃ v, e = .returned v ∧ Q38 F w0 r v w')) := PF.body (fun c w h => by obtain ⟨v, e, _⟩ := h; cases e)
  have hL := LOk.start hF
  have hB := Below.refl w0.heap.size w0
  unfold m38 at hm
  refine enter (l := [.int .u64 p0_0, .int .u64 p1_0, .int .u64 p2_0, undef, undef, undef, undef, undef, undef, undef, undef, undef, undef, undef, undef, undef, undef, undef, undef, undef, undef, undef, undef, undef, undef, undef, undef, undef, undef, undef, undef, undef, undef, undef, undef, undef, undef, undef, undef, undef, undef, undef, undef, undef, undef, undef, undef, undef, undef, undef, undef, undef, undef, undef, undef, undef, undef, undef, undef, undef, undef, undef, undef, undef, undef, undef, undef, undef, undef, undef, undef, undef, undef, undef, undef, undef, undef, undef, undef, undef, undef, undef, undef, undef, undef, undef, undef, undef, undef, undef, undef, undef, undef, undef, undef, undef, undef, undef, undef, undef, undef, undef, undef, undef, undef, undef, undef, undef, undef, undef, undef, undef, undef, undef, undef, undef, undef, undef, undef, undef, undef, undef, undef, undef, undef, undef, undef, undef, undef, undef, undef, undef, undef, undef, undef]) Tryd.func38 rfl Tryd.ntmps38 (by kernel_rfl) ?_
  refine cw_seq ?_
  refine cw_region ?_
  refine wl_val (v := .int .u64 0) (w' := w0) (by kernel_rfl) (run_assign (v := .int .u64 0) (by kernel_rfl)) ?_
  refine wl_val (v := .int .u64 0) (w' := w0) (by kernel_rfl) (run_assign (v := .int .u64 0) (by kernel_rfl)) ?_
  refine wl_nil ?_
  refine then_n ?_
  refine cw_cut (fun l' w' => ∃ u_1 : Nat → Value, l' = [.int .u64 p0_0, .int .u64 p1_0, .int .u64 p2_0, undef, undef, undef, .int .u64 0, .int .u64 0, undef, undef, undef, undef, undef, undef, undef, undef, undef, undef, undef, (u_1 0), (u_1 1), (u_1 2), undef, undef, undef, undef, undef, undef, undef, undef, undef, undef, undef, undef, undef, undef, undef, undef, undef, undef, undef, undef, undef, undef, undef, undef, undef, undef, undef, undef, undef, undef, undef, undef, undef, undef, undef, undef, undef, undef, undef, undef, undef, undef, undef, undef, undef, undef, undef, undef, undef, undef, undef, undef, undef, undef, undef, undef, undef, undef, undef, undef, undef, undef, undef, undef, undef, undef, undef, undef, undef, undef, undef, undef, undef, undef, undef, undef, undef, undef, undef, undef, undef, undef, undef, undef, undef, undef, undef, undef, undef, undef, undef, undef, undef, undef, undef, undef, undef, undef, undef, undef, undef, undef, undef, undef, undef, undef, undef, undef, undef, undef, undef, undef, undef] ∧ LOk w0.heap.size [] F w' ∧ Below w0.heap.size w0 w' ∧ m38_J1 fuel p0_0 p1_0 p2_0  = some r) ?_ ?_
  · refine cw_seq ?_
    refine cw_region ?_
    refine wl_val (v := .int .u64 p2_0) (w' := w0) (by kernel_rfl) (run_move (v := .int .u64 p2_0) (by kernel_rfl)) ?_
    refine wl_val (v := .bool (eqi p2_0 0)) (w' := w0) (by kernel_rfl) (run_eqi (k := .u64) (a := p2_0) (b := 0) (by kernel_rfl) (by kernel_rfl)) ?_
    refine wl_nil ?_
    refine then_n ?_
    refine cw_cond (t := (eqi p2_0 0)) (by kernel_rfl) (fun hc_43 => ?_) (fun hc_43 => ?_)
    · have hm := ite_t hm hc_43
      refine cw_region ?_
      cases hm
    · have hm := ite_f hm hc_43
      refine cw_skip ?_
      exact then_c ⟨(fun i => ([.int .u64 p2_0, .bool (eqi p2_0 0), undef] : List Value).getD i undef), by kernel_rfl, hL, hB, hm⟩
  · intro l1 w_1 hI
    obtain ⟨u_1, rfl, hL, hB, hm⟩ := hI
    unfold m38_J1 at hm
    refine cw_cut (fun l' w' => ∃ u_2 : Nat → Value, l' = [.int .u64 p0_0, .int .u64 p1_0, .int .u64 p2_0, undef, undef, undef, .int .u64 0, .int .u64 0, undef, undef, undef, undef, undef, undef, undef, undef, undef, undef, undef, (u_1 0), (u_1 1), (u_1 2), (u_2 0), (u_2 1), (u_2 2), (u_2 3), undef, undef, undef, undef, undef, undef, undef, undef, undef, undef, undef, undef, undef, undef, undef, undef, undef, undef, undef, undef, undef, undef, undef, undef, undef, undef, undef, undef, undef, undef, undef, undef, undef, undef, undef, undef, undef, undef, undef, undef, undef, undef, undef, undef, undef, undef, undef, undef, undef, undef, undef, undef, undef, undef, undef, undef, undef, undef, undef, undef, undef, undef, undef, undef, undef, undef, undef, undef, undef, undef, undef, undef, undef, undef, undef, undef, undef, undef, undef, undef, undef, undef, undef, undef, undef, undef, undef, undef, undef, undef, undef, undef, undef, undef, undef, undef, undef, undef, undef, undef, undef, undef, undef, undef, undef, undef, undef, undef, undef] ∧ LOk w0.heap.size [] F w' ∧ Below w0.heap.size w0 w' ∧ m38_J2 fuel p0_0 p1_0 p2_0  = some r) ?_ ?_
    · refine cw_seq ?_
      refine cw_region ?_
      refine wl_val (v := .int .u64 p2_0) (w' := w_1) (by kernel_rfl) (run_move (v := .int .u64 p2_0) (by kernel_rfl)) ?_
      refine wl_val (v := .int .u64 p0_0) (w' := w_1) (by kernel_rfl) (run_move (v := .int .u64 p0_0) (by kernel_rfl)) ?_
      refine wl_val (v := .bool (le p2_0 p0_0)) (w' := w_1) (by kernel_rfl) (run_le (k := .u64) (a := p2_0) (b := p0_0) (by kernel_rfl) (by kernel_rfl)) ?_
      refine wl_nil ?_
      refine then_n ?_
      refine cw_cond (t := (le p2_0 p0_0)) (by kernel_rfl) (fun hc_42 => ?_) (fun hc_42 => ?_)
      · have hm := ite_t hm hc_42
        refine cw_region ?_
        cases hm
      · have hm := ite_f hm hc_42
        refine cw_skip ?_
        exact then_c ⟨(fun i => ([.int .u64 p2_0, .int .u64 p0_0, .bool (le p2_0 p0_0), undef] : List Value).getD i undef), by kernel_rfl, hL, hB, hm⟩
    · intro l1 w_2 hI
      obtain ⟨u_2, rfl, hL, hB, hm⟩ := hI
      unfold m38_J2 at hm
      refine cw_seq ?_
      refine cw_seq ?_
      refine cw_region ?_
      refine wl_val (v := .int .u64 p0_0) (w' := w_2) (by kernel_rfl) (run_move (v := .int .u64 p0_0) (by kernel_rfl)) ?_
      refine wl_val (v := .bool (eqi p0_0 0)) (w' := w_2) (by kernel_rfl) (run_eqi (k := .u64) (a := p0_0) (b := 0) (by kernel_rfl) (by kernel_rfl)) ?_
      refine wl_nil ?_
      refine then_n ?_
      refine cw_cond (t := (eqi p0_0 0)) (by kernel_rfl) (fun hc_3 => ?_) (fun hc_3 => ?_)
      · have hm := ite_t hm hc_3
        refine cw_seq ?_
        refine cw_region_draw [(0, true), (1, true), (2, true), (3, true), (4, true), (5, true), (6, true), (7, true)] (fun x => Fz [] w_2 x) rfl (by kernel_rfl) (PF.then (PF.then hPF)) (Fz.drew _ _) ?_
        have hZ : Fz [] w_2 w_2.drew := Fz.drew _ _
        have hS0 : Stp w0.heap.size [] [] F [] w_2 w_2.drew := Stp.call hL (Fz.drew _ _)
        generalize w_2.drew = w_3 at hS0 hZ ⊢
        refine wx_take (v := .int .u64 p1_0) (by kernel_rfl) (fun w' hS => run_move (v := .int .u64 p1_0) (by kernel_rfl)) ?_
        refine wx_take (v := .int .u64 p2_0) (by kernel_rfl) (fun w' hS => run_move (v := .int .u64 p2_0) (by kernel_rfl)) ?_
        obtain ⟨h_3, hm⟩ := need_e hm
        refine wx_take (v := .int .u64 (quo .u64 p1_0 p2_0)) (by kernel_rfl) (fun w' hS => run_quo (k := .u64) (a := p1_0) (b := p2_0) (by kernel_rfl) (by kernel_rfl) (by simpa [nei] using h_3)) ?_
        refine wx_take (v := .int .u64 p1_0) (by kernel_rfl) (fun w' hS => run_move (v := .int .u64 p1_0) (by kernel_rfl)) ?_
        refine wx_take (v := .int .u64 p2_0) (by kernel_rfl) (fun w' hS => run_move (v := .int .u64 p2_0) (by kernel_rfl)) ?_
        obtain ⟨h_4, hm⟩ := need_e hm
        refine wx_take (v := .int .u64 (rem p1_0 p2_0)) (by kernel_rfl) (fun w' hS => run_rem (k := .u64) (a := p1_0) (b := p2_0) (by kernel_rfl) (by kernel_rfl) (by simpa [nei] using h_4)) ?_
        refine wx_take (v := .int .u64 (quo .u64 p1_0 p2_0)) (by kernel_rfl) (fun w' hS => run_assign (v := .int .u64 (quo .u64 p1_0 p2_0)) (by kernel_rfl)) ?_
        refine wx_take (v := .int .u64 (rem p1_0 p2_0)) (by kernel_rfl) (fun w' hS => run_assign (v := .int .u64 (rem p1_0 p2_0)) (by kernel_rfl)) ?_
        refine wx_nil ?_
        replace hB := hS0.below hL hB
        replace hL := hS0.hL
        refine then_n ?_
        refine cw_ret ?_
        refine then_ret ?_
        obtain rfl := Option.some.inj hm
        exact ret2 (v := .int .u64 (quo .u64 p1_0 p2_0)) (v' := .int .u64 (rem p1_0 p2_0)) rfl (resv_tmp (by kernel_rfl)) (resv_tmp (by kernel_rfl)) ⟨_, rfl, by kernel_rfl, hB⟩
      · have hm := ite_f hm hc_3
        refine cw_skip ?_
        refine then_n ?_
        refine cw_seq ?_
        refine cw_region ?_
        refine wl_val (v := .int .u64 p2_0) (w' := w_2) (by kernel_rfl) (run_move (v := .int .u64 p2_0) (by kernel_rfl)) ?_
        obtain ⟨r_1, h_5, hm⟩ := bind_e hm
        refine wl_op (by kernel_rfl) (ow_enter (run_callf (vs := [.int .u64 p2_0]) Tryd.func61 nm_61 (by kernel_rfl) (by kernel_rfl)) (f61_ok (p0_0 := p2_0) fuel _ w_2 hL.lt  h_5) ?_)
        intro vR w_4 hR
        obtain ⟨rfl, hBe⟩ := hR
        have hS := Stp.call hL (Fz.of_below hBe [])
        replace hB := hS.below hL hB
        replace hL := hS.hL
        refine wl_val (v := .int .u64 (cvt .u64 r_1)) (w' := w_4) (by kernel_rfl) (run_cvt (k := .i64) (a := r_1) Tryd.underlying3 Tryd.underlying72 (by kernel_rfl)) ?_
        refine wl_val (v := .int .u64 (cvt .u64 r_1)) (w' := w_4) (by kernel_rfl) (run_assign (v := .int .u64 (cvt .u64 r_1)) (by kernel_rfl)) ?_
        refine wl_nil ?_
        refine then_n ?_
        refine cw_seq ?_
        refine cw_region ?_
        refine wl_val (v := .int .u64 p2_0) (w' := w_4) (by kernel_rfl) (run_move (v := .int .u64 p2_0) (by kernel_rfl)) ?_
        refine wl_val (v := .int .u64 (cvt .u64 r_1)) (w' := w_4) (by kernel_rfl) (run_move (v := .int .u64 (cvt .u64 r_1)) (by kernel_rfl)) ?_
        obtain ⟨h_6, hm⟩ := need_e hm
        refine wl_val (v := .int .u64 (shl .u64 p2_0 (cvt .u64 r_1))) (w' := w_4) (by kernel_rfl) (run_shl (k := .u64) (a := p2_0) (k' := .u64) (b := (cvt .u64 r_1)) (by kernel_rfl) (by kernel_rfl) h_6) ?_
        refine wl_val (v := .int .u64 (shl .u64 p2_0 (cvt .u64 r_1))) (w' := w_4) (by kernel_rfl) (run_assign (v := .int .u64 (shl .u64 p2_0 (cvt .u64 r_1))) (by kernel_rfl)) ?_
        refine wl_nil ?_
        refine then_n ?_
        refine cw_seq ?_
        refine cw_region ?_
        refine wl_val (v := .int .u64 (shl .u64 p2_0 (cvt .u64 r_1))) (w' := w_4) (by kernel_rfl) (run_move (v := .int .u64 (shl .u64 p2_0 (cvt .u64 r_1))) (by kernel_rfl)) ?_
        refine wl_val (v := .int .u64 (shr .u64 (shl .u64 p2_0 (cvt .u64 r_1)) 32)) (w' := w_4) (by kernel_rfl) (run_shr (k := .u64) (a := (shl .u64 p2_0 (cvt .u64 r_1))) (k' := .u64) (b := 32) (by kernel_rfl) (by kernel_rfl) rfl) ?_
        refine wl_val (v := .int .u64 (shr .u64 (shl .u64 p2_0 (cvt .u64 r_1)) 32)) (w' := w_4) (by kernel_rfl) (run_assign (v := .int .u64 (shr .u64 (shl .u64 p2_0 (cvt .u64 r_1)) 32)) (by kernel_rfl)) ?_
        refine wl_nil ?_
        refine then_n ?_
        refine cw_norm [.int .u64 p0_0, .int .u64 p1_0, .int .u64 (shl .u64 p2_0 (cvt .u64 r_1)), undef, undef, undef, .int .u64 0, .int .u64 0, .int .u64 (cvt .u64 r_1), .int .u64 (shr .u64 (shl .u64 p2_0 (cvt .u64 r_1)) 32), undef, undef, undef, undef, undef, undef, undef, undef, undef, (u_1 0), (u_1 1), (u_1 2), (u_2 0), (u_2 1), (u_2 2), (u_2 3), .int .u64 p0_0, .bool (eqi p0_0 0), undef, undef, undef, undef, undef, undef, .int .u64 p2_0, .int .i64 r_1, .int .u64 (cvt .u64 r_1), .int .u64 p2_0, .int .u64 (cvt .u64 r_1), .int .u64 (shl .u64 p2_0 (cvt .u64 r_1)), .int .u64 (shl .u64 p2_0 (cvt .u64 r_1)), .int .u64 (shr .u64 (shl .u64 p2_0 (cvt .u64 r_1)) 32), undef, undef, undef, undef, undef, undef, undef, undef, undef, undef, undef, undef, undef, undef, undef, undef, undef, undef, undef, undef, undef, undef, undef, undef, undef, undef, undef, undef, undef, undef, undef, undef, undef, undef, undef, undef, undef, undef, undef, undef, undef, undef, undef, undef, undef, undef, undef, undef, undef, undef, undef, undef, undef, undef, undef, undef, undef, undef, undef, undef, undef, undef, undef, undef, undef, undef, undef, undef, undef, undef, undef, undef, undef, undef, undef, undef, undef, undef, undef, undef, undef, undef, undef, undef, undef, undef, undef, undef, undef, undef, undef, undef, undef] (by kernel_rfl) ?_
        refine cw_seq ?_
        refine cw_region ?_
        refine wl_val (v := .int .u64 (shl .u64 p2_0 (cvt .u64 r_1))) (w' := w_4) (by kernel_rfl) (run_move (v := .int .u64 (shl .u64 p2_0 (cvt .u64 r_1))) (by kernel_rfl)) ?_
        refine wl_val (v := .int .u64 (band .u64 (shl .u64 p2_0 (cvt .u64 r_1)) 4294967295)) (w' := w_4) (by kernel_rfl) (run_band (k := .u64) (a := (shl .u64 p2_0 (cvt .u64 r_1))) (b := 4294967295) (by kernel_rfl) (by kernel_rfl)) ?_
        refine wl_val (v := .int .u64 (band .u64 (shl .u64 p2_0 (cvt .u64 r_1)) 4294967295)) (w' := w_4) (by kernel_rfl) (run_assign (v := .int .u64 (band .u64 (shl .u64 p2_0 (cvt .u64 r_1)) 4294967295)) (by kernel_rfl)) ?_
        refine wl_nil ?_
        refine then_n ?_
        refine cw_seq ?_
        refine cw_region ?_
        refine wl_val (v := .int .u64 p0_0) (w' := w_4) (by kernel_rfl) (run_move (v := .int .u64 p0_0) (by kernel_rfl)) ?_
        refine wl_val (v := .int .u64 (cvt .u64 r_1)) (w' := w_4) (by kernel_rfl) (run_move (v := .int .u64 (cvt .u64 r_1)) (by kernel_rfl)) ?_
        obtain ⟨h_7, hm⟩ := need_e hm
        refine wl_val (v := .int .u64 (shl .u64 p0_0 (cvt .u64 r_1))) (w' := w_4) (by kernel_rfl) (run_shl (k := .u64) (a := p0_0) (k' := .u64) (b := (cvt .u64 r_1)) (by kernel_rfl) (by kernel_rfl) h_7) ?_
        refine wl_val (v := .int .u64 p1_0) (w' := w_4) (by kernel_rfl) (run_move (v := .int .u64 p1_0) (by kernel_rfl)) ?_
        refine wl_val (v := .int .u64 (cvt .u64 r_1)) (w' := w_4) (by kernel_rfl) (run_move (v := .int .u64 (cvt .u64 r_1)) (by kernel_rfl)) ?_
        refine wl_val (v := .int .u64 (sub .u64 64 (cvt .u64 r_1))) (w' := w_4) (by kernel_rfl) (run_sub (k := .u64) (a := 64) (b := (cvt .u64 r_1)) (by kernel_rfl) (by kernel_rfl)) ?_
        obtain ⟨h_8, hm⟩ := need_e hm
        refine wl_val (v := .int .u64 (shr .u64 p1_0 (sub .u64 64 (cvt .u64 r_1)))) (w' := w_4) (by kernel_rfl) (run_shr (k := .u64) (a := p1_0) (k' := .u64) (b := (sub .u64 64 (cvt .u64 r_1))) (by kernel_rfl) (by kernel_rfl) h_8) ?_
        obtain ⟨x_1, h_9, hm⟩ := bind_e hm
        refine wl_val (v := .int .u64 x_1) (w' := w_4) (by kernel_rfl) (by rw [← Option.some.inj h_9]; exact run_bor (k := .u64) (a := (shl .u64 p0_0 (cvt .u64 r_1))) (b := (shr .u64 p1_0 (sub .u64 64 (cvt .u64 r_1)))) (by kernel_rfl) (by kernel_rfl)) ?_
        refine wl_val (v := .int .u64 x_1) (w' := w_4) (by kernel_rfl) (run_assign (v := .int .u64 x_1) (by kernel_rfl)) ?_
        refine wl_nil ?_
        refine then_n ?_
        refine cw_norm [.int .u64 p0_0, .int .u64 p1_0, .int .u64 (shl .u64 p2_0 (cvt .u64 r_1)), undef, undef, undef, .int .u64 0, .int .u64 0, .int .u64 (cvt .u64 r_1), .int .u64 (shr .u64 (shl .u64 p2_0 (cvt .u64 r_1)) 32), .int .u64 (band .u64 (shl .u64 p2_0 (cvt .u64 r_1)) 4294967295), .int .u64 x_1, undef, undef, undef, undef, undef, undef, undef, (u_1 0), (u_1 1), (u_1 2), (u_2 0), (u_2 1), (u_2 2), (u_2 3), .int .u64 p0_0, .bool (eqi p0_0 0), undef, undef, undef, undef, undef, undef, .int .u64 p2_0, .int .i64 r_1, .int .u64 (cvt .u64 r_1), .int .u64 p2_0, .int .u64 (cvt .u64 r_1), .int .u64 (shl .u64 p2_0 (cvt .u64 r_1)), .int .u64 (shl .u64 p2_0 (cvt .u64 r_1)), .int .u64 (shr .u64 (shl .u64 p2_0 (cvt .u64 r_1)) 32), .int .u64 (shl .u64 p2_0 (cvt .u64 r_1)), .int .u64 (band .u64 (shl .u64 p2_0 (cvt .u64 r_1)) 4294967295), .int .u64 p0_0, .int .u64 (cvt .u64 r_1), .int .u64 (shl .u64 p0_0 (cvt .u64 r_1)), .int .u64 p1_0, .int .u64 (cvt .u64 r_1), .int .u64 (sub .u64 64 (cvt .u64 r_1)), .int .u64 (shr .u64 p1_0 (sub .u64 64 (cvt .u64 r_1))), .int .u64 x_1, undef, undef, undef, undef, undef, undef, undef, undef, undef, undef, undef, undef, undef, undef, undef, undef, undef, undef, undef, undef, undef, undef, undef, undef, undef, undef, undef, undef, undef, undef, undef, undef, undef, undef, undef, undef, undef, undef, undef, undef, undef, undef, undef, undef, undef, undef, undef, undef, undef, undef, undef, undef, undef, undef, undef, undef, undef, undef, undef, undef, undef, undef, undef, undef, undef, undef, undef, undef, undef, undef, undef, undef, undef, undef, undef, undef, undef, undef, undef, undef, undef, undef, undef] (by kernel_rfl) ?_
        refine cw_seq ?_
        refine cw_region ?_
        refine wl_val (v := .int .u64 p1_0) (w' := w_4) (by kernel_rfl) (run_move (v := .int .u64 p1_0) (by kernel_rfl)) ?_
        refine wl_val (v := .int .u64 (cvt .u64 r_1)) (w' := w_4) (by kernel_rfl) (run_move (v := .int .u64 (cvt .u64 r_1)) (by kernel_rfl)) ?_
        obtain ⟨h_10, hm⟩ := need_e hm
        refine wl_val (v := .int .u64 (shl .u64 p1_0 (cvt .u64 r_1))) (w' := w_4) (by kernel_rfl) (run_shl (k := .u64) (a := p1_0) (k' := .u64) (b := (cvt .u64 r_1)) (by kernel_rfl) (by kernel_rfl) h_10) ?_
        refine wl_val (v := .int .u64 (shl .u64 p1_0 (cvt .u64 r_1))) (w' := w_4) (by kernel_rfl) (run_assign (v := .int .u64 (shl .u64 p1_0 (cvt .u64 r_1))) (by kernel_rfl)) ?_
        refine wl_nil ?_
        refine then_n ?_
        refine cw_seq ?_
        refine cw_region ?_
        refine wl_val (v := .int .u64 (shl .u64 p1_0 (cvt .u64 r_1))) (w' := w_4) (by kernel_rfl) (run_move (v := .int .u64 (shl .u64 p1_0 (cvt .u64 r_1))) (by kernel_rfl)) ?_
        refine wl_val (v := .int .u64 (shr .u64 (shl .u64 p1_0 (cvt .u64 r_1)) 32)) (w' := w_4) (by kernel_rfl) (run_shr (k := .u64) (a := (shl .u64 p1_0 (cvt .u64 r_1))) (k' := .u64) (b := 32) (by kernel_rfl) (by kernel_rfl) rfl) ?_
        refine wl_val (v := .int .u64 (shr .u64 (shl .u64 p1_0 (cvt .u64 r_1)) 32)) (w' := w_4) (by kernel_rfl) (run_assign (v := .int .u64 (shr .u64 (shl .u64 p1_0 (cvt .u64 r_1)) 32)) (by kernel_rfl)) ?_
        refine wl_nil ?_
        refine then_n ?_
        refine cw_seq ?_
        refine cw_region ?_
        refine wl_val (v := .int .u64 (shl .u64 p1_0 (cvt .u64 r_1))) (w' := w_4) (by kernel_rfl) (run_move (v := .int .u64 (shl .u64 p1_0 (cvt .u64 r_1))) (by kernel_rfl)) ?_
        refine wl_val (v := .int .u64 (band .u64 (shl .u64 p1_0 (cvt .u64 r_1)) 4294967295)) (w' := w_4) (by kernel_rfl) (run_band (k := .u64) (a := (shl .u64 p1_0 (cvt .u64 r_1))) (b := 4294967295) (by kernel_rfl) (by kernel_rfl)) ?_
        refine wl_val (v := .int .u64 (band .u64 (shl .u64 p1_0 (cvt .u64 r_1)) 4294967295)) (w' := w_4) (by kernel_rfl) (run_assign (v := .int .u64 (band .u64 (shl .u64 p1_0 (cvt .u64 r_1)) 4294967295)) (by kernel_rfl)) ?_
        refine wl_nil ?_
        refine then_n ?_
        refine cw_seq ?_
        refine cw_region ?_
        refine wl_val (v := .int .u64 x_1) (w' := w_4) (by kernel_rfl) (run_move (v := .int .u64 x_1) (by kernel_rfl)) ?_
        refine wl_val (v := .int .u64 (shr .u64 (shl .u64 p2_0 (cvt .u64 r_1)) 32)) (w' := w_4) (by kernel_rfl) (run_move (v := .int .u64 (shr .u64 (shl .u64 p2_0 (cvt .u64 r_1)) 32)) (by kernel_rfl)) ?_
        obtain ⟨h_11, hm⟩ := need_e hm
        refine wl_val (v := .int .u64 (quo .u64 x_1 (shr .u64 (shl .u64 p2_0 (cvt .u64 r_1)) 32))) (w' := w_4) (by kernel_rfl) (run_quo (k := .u64) (a := x_1) (b := (shr .u64 (shl .u64 p2_0 (cvt .u64 r_1)) 32)) (by kernel_rfl) (by kernel_rfl) (by simpa [nei] using h_11)) ?_
        refine wl_val (v := .int .u64 (quo .u64 x_1 (shr .u64 (shl .u64 p2_0 (cvt .u64 r_1)) 32))) (w' := w_4) (by kernel_rfl) (run_assign (v := .int .u64 (quo .u64 x_1 (shr .u64 (shl .u64 p2_0 (cvt .u64 r_1)) 32))) (by kernel_rfl)) ?_
        refine wl_nil ?_
        refine then_n ?_
        refine cw_norm [.int .u64 p0_0, .int .u64 p1_0, .int .u64 (shl .u64 p2_0 (cvt .u64 r_1)), undef, undef, undef, .int .u64 0, .int .u64 0, .int .u64 (cvt .u64 r_1), .int .u64 (shr .u64 (shl .u64 p2_0 (cvt .u64 r_1)) 32), .int .u64 (band .u64 (shl .u64 p2_0 (cvt .u64 r_1)) 4294967295), .int .u64 x_1, .int .u64 (shl .u64 p1_0 (cvt .u64 r_1)), .int .u64 (shr .u64 (shl .u64 p1_0 (cvt .u64 r_1)) 32), .int .u64 (band .u64 (shl .u64 p1_0 (cvt .u64 r_1)) 4294967295), .int .u64 (quo .u64 x_1 (shr .u64 (shl .u64 p2_0 (cvt .u64 r_1)) 32)), undef, undef, undef, (u_1 0), (u_1 1), (u_1 2), (u_2 0), (u_2 1), (u_2 2), (u_2 3), .int .u64 p0_0, .bool (eqi p0_0 0), undef, undef, undef, undef, undef, undef, .int .u64 p2_0, .int .i64 r_1, .int .u64 (cvt .u64 r_1), .int .u64 p2_0, .int .u64 (cvt .u64 r_1), .int .u64 (shl .u64 p2_0 (cvt .u64 r_1)), .int .u64 (shl .u64 p2_0 (cvt .u64 r_1)), .int .u64 (shr .u64 (shl .u64 p2_0 (cvt .u64 r_1)) 32), .int .u64 (shl .u64 p2_0 (cvt .u64 r_1)), .int .u64 (band .u64 (shl .u64 p2_0 (cvt .u64 r_1)) 4294967295), .int .u64 p0_0, .int .u64 (cvt .u64 r_1), .int .u64 (shl .u64 p0_0 (cvt .u64 r_1)), .int .u64 p1_0, .int .u64 (cvt .u64 r_1), .int .u64 (sub .u64 64 (cvt .u64 r_1)), .int .u64 (shr .u64 p1_0 (sub .u64 64 (cvt .u64 r_1))), .int .u64 x_1, .int .u64 p1_0, .int .u64 (cvt .u64 r_1), .int .u64 (shl .u64 p1_0 (cvt .u64 r_1)), .int .u64 (shl .u64 p1_0 (cvt .u64 r_1)), .int .u64 (shr .u64 (shl .u64 p1_0 (cvt .u64 r_1)) 32), .int .u64 (shl .u64 p1_0 (cvt .u64 r_1)), .int .u64 (band .u64 (shl .u64 p1_0 (cvt .u64 r_1)) 4294967295), .int .u64 x_1, .int .u64 (shr .u64 (shl .u64 p2_0 (cvt .u64 r_1)) 32), .int .u64 (quo .u64 x_1 (shr .u64 (shl .u64 p2_0 (cvt .u64 r_1)) 32)), undef, undef, undef, undef, undef, undef, undef, undef, undef, undef, undef, undef, undef, undef, undef, undef, undef, undef, undef, undef, undef, undef, undef, undef, undef, undef, undef, undef, undef, undef, undef, undef, undef, undef, undef, undef, undef, undef, undef, undef, undef, undef, undef, undef, undef, undef, undef, undef, undef, undef, undef, undef, undef, undef, undef, undef, undef, undef, undef, undef, undef, undef, undef, undef, undef, undef, undef, undef, undef, undef, undef, undef, undef] (by kernel_rfl) ?_
        refine cw_seq ?_
        refine cw_region ?_
        refine wl_val (v := .int .u64 x_1) (w' := w_4) (by kernel_rfl) (run_move (v := .int .u64 x_1) (by kernel_rfl)) ?_
        refine wl_val (v := .int .u64 (quo .u64 x_1 (shr .u64 (shl .u64 p2_0 (cvt .u64 r_1)) 32))) (w' := w_4) (by kernel_rfl) (run_move (v := .int .u64 (quo .u64 x_1 (shr .u64 (shl .u64 p2_0 (cvt .u64 r_1)) 32))) (by kernel_rfl)) ?_
        refine wl_val (v := .int .u64 (shr .u64 (shl .u64 p2_0 (cvt .u64 r_1)) 32)) (w' := w_4) (by kernel_rfl) (run_move (v := .int .u64 (shr .u64 (shl .u64 p2_0 (cvt .u64 r_1)) 32)) (by kernel_rfl)) ?_
        obtain ⟨x_2, h_12, hm⟩ := bind_e hm
        refine wl_val (v := .int .u64 x_2) (w' := w_4) (by kernel_rfl) (by rw [← Option.some.inj h_12]; exact run_mul (k := .u64) (a := (quo .u64 x_1 (shr .u64 (shl .u64 p2_0 (cvt .u64 r_1)) 32))) (b := (shr .u64 (shl .u64 p2_0 (cvt .u64 r_1)) 32)) (by kernel_rfl) (by kernel_rfl)) ?_
        refine wl_val (v := .int .u64 (sub .u64 x_1 x_2)) (w' := w_4) (by kernel_rfl) (run_sub (k := .u64) (a := x_1) (b := x_2) (by kernel_rfl) (by kernel_rfl)) ?_
        refine wl_val (v := .int .u64 (sub .u64 x_1 x_2)) (w' := w_4) (by kernel_rfl) (run_assign (v := .int .u64 (sub .u64 x_1 x_2)) (by kernel_rfl)) ?_
        refine wl_nil ?_
        refine then_n ?_
        refine cw_cut (fun l' w' => ∃ q1_2, ∃ u_8 : Nat → Value, l' = [.int .u64 p0_0, .int .u64 p1_0, .int .u64 (shl .u64 p2_0 (cvt .u64 r_1)), undef, undef, undef, .int .u64 0, .int .u64 0, .int .u64 (cvt .u64 r_1), .int .u64 (shr .u64 (shl .u64 p2_0 (cvt .u64 r_1)) 32), .int .u64 (band .u64 (shl .u64 p2_0 (cvt .u64 r_1)) 4294967295), .int .u64 x_1, .int .u64 (shl .u64 p1_0 (cvt .u64 r_1)), .int .u64 (shr .u64 (shl .u64 p1_0 (cvt .u64 r_1)) 32), .int .u64 (band .u64 (shl .u64 p1_0 (cvt .u64 r_1)) 4294967295), .int .u64 q1_2, (u_8 0), undef, undef, (u_1 0), (u_1 1), (u_1 2), (u_2 0), (u_2 1), (u_2 2), (u_2 3), .int .u64 p0_0, .bool (eqi p0_0 0), undef, undef, undef, undef, undef, undef, .int .u64 p2_0, .int .i64 r_1, .int .u64 (cvt .u64 r_1), .int .u64 p2_0, .int .u64 (cvt .u64 r_1), .int .u64 (shl .u64 p2_0 (cvt .u64 r_1)), .int .u64 (shl .u64 p2_0 (cvt .u64 r_1)), .int .u64 (shr .u64 (shl .u64 p2_0 (cvt .u64 r_1)) 32), .int .u64 (shl .u64 p2_0 (cvt .u64 r_1)), .int .u64 (band .u64 (shl .u64 p2_0 (cvt .u64 r_1)) 4294967295), .int .u64 p0_0, .int .u64 (cvt .u64 r_1), .int .u64 (shl .u64 p0_0 (cvt .u64 r_1)), .int .u64 p1_0, .int .u64 (cvt .u64 r_1), .int .u64 (sub .u64 64 (cvt .u64 r_1)), .int .u64 (shr .u64 p1_0 (sub .u64 64 (cvt .u64 r_1))), .int .u64 x_1, .int .u64 p1_0, .int .u64 (cvt .u64 r_1), .int .u64 (shl .u64 p1_0 (cvt .u64 r_1)), .int .u64 (shl .u64 p1_0 (cvt .u64 r_1)), .int .u64 (shr .u64 (shl .u64 p1_0 (cvt .u64 r_1)) 32), .int .u64 (shl .u64 p1_0 (cvt .u64 r_1)), .int .u64 (band .u64 (shl .u64 p1_0 (cvt .u64 r_1)) 4294967295), .int .u64 x_1, .int .u64 (shr .u64 (shl .u64 p2_0 (cvt .u64 r_1)) 32), .int .u64 (quo .u64 x_1 (shr .u64 (shl .u64 p2_0 (cvt .u64 r_1)) 32)), .int .u64 x_1, .int .u64 (quo .u64 x_1 (shr .u64 (shl .u64 p2_0 (cvt .u64 r_1)) 32)), .int .u64 (shr .u64 (shl .u64 p2_0 (cvt .u64 r_1)) 32), .int .u64 x_2, .int .u64 (sub .u64 x_1 x_2), (u_8 1), (u_8 2), (u_8 3), (u_8 4), (u_8 5), (u_8 6), (u_8 7), (u_8 8), (u_8 9), (u_8 10), (u_8 11), (u_8 12), (u_8 13), (u_8 14), (u_8 15), (u_8 16), (u_8 17), (u_8 18), (u_8 19), undef, undef, undef, undef, undef, undef, undef, undef, undef, undef, undef, undef, undef, undef, undef, undef, undef, undef, undef, undef, undef, undef, undef, undef, undef, undef, undef, undef, undef, undef, undef, undef, undef, undef, undef, undef, undef, undef, undef, undef, undef, undef, undef, undef, undef, undef, undef, undef, undef] ∧ LOk w0.heap.size [] F w' ∧ Below w0.heap.size w0 w' ∧ m38_J3 fuel p1_0 p2_0 r_1 x_1 q1_2 = some r) ?_ ?_
        · refine cw_block ?_
          refine cw_loop (σ := Int × Int) (m38_L7 fuel p1_0 p2_0 r_1 x_1) r (fun s l' w' => ∃ u_22 : Nat → Value, l' = [.int .u64 p0_0, .int .u64 p1_0, .int .u64 (shl .u64 p2_0 (cvt .u64 r_1)), undef, undef, undef, .int .u64 0, .int .u64 0, .int .u64 (cvt .u64 r_1), .int .u64 (shr .u64 (shl .u64 p2_0 (cvt .u64 r_1)) 32), .int .u64 (band .u64 (shl .u64 p2_0 (cvt .u64 r_1)) 4294967295), .int .u64 x_1, .int .u64 (shl .u64 p1_0 (cvt .u64 r_1)), .int .u64 (shr .u64 (shl .u64 p1_0 (cvt .u64 r_1)) 32), .int .u64 (band .u64 (shl .u64 p1_0 (cvt .u64 r_1)) 4294967295), .int .u64 s.1, .int .u64 s.2, undef, undef, (u_1 0), (u_1 1), (u_1 2), (u_2 0), (u_2 1), (u_2 2), (u_2 3), .int .u64 p0_0, .bool (eqi p0_0 0), undef, undef, undef, undef, undef, undef, .int .u64 p2_0, .int .i64 r_1, .int .u64 (cvt .u64 r_1), .int .u64 p2_0, .int .u64 (cvt .u64 r_1), .int .u64 (shl .u64 p2_0 (cvt .u64 r_1)), .int .u64 (shl .u64 p2_0 (cvt .u64 r_1)), .int .u64 (shr .u64 (shl .u64 p2_0 (cvt .u64 r_1)) 32), .int .u64 (shl .u64 p2_0 (cvt .u64 r_1)), .int .u64 (band .u64 (shl .u64 p2_0 (cvt .u64 r_1)) 4294967295), .int .u64 p0_0, .int .u64 (cvt .u64 r_1), .int .u64 (shl .u64 p0_0 (cvt .u64 r_1)), .int .u64 p1_0, .int .u64 (cvt .u64 r_1), .int .u64 (sub .u64 64 (cvt .u64 r_1)), .int .u64 (shr .u64 p1_0 (sub .u64 64 (cvt .u64 r_1))), .int .u64 x_1, .int .u64 p1_0, .int .u64 (cvt .u64 r_1), .int .u64 (shl .u64 p1_0 (cvt .u64 r_1)), .int .u64 (shl .u64 p1_0 (cvt .u64 r_1)), .int .u64 (shr .u64 (shl .u64 p1_0 (cvt .u64 r_1)) 32), .int .u64 (shl .u64 p1_0 (cvt .u64 r_1)), .int .u64 (band .u64 (shl .u64 p1_0 (cvt .u64 r_1)) 4294967295), .int .u64 x_1, .int .u64 (shr .u64 (shl .u64 p2_0 (cvt .u64 r_1)) 32), .int .u64 (quo .u64 x_1 (shr .u64 (shl .u64 p2_0 (cvt .u64 r_1)) 32)), .int .u64 x_1, .int .u64 (quo .u64 x_1 (shr .u64 (shl .u64 p2_0 (cvt .u64 r_1)) 32)), .int .u64 (shr .u64 (shl .u64 p2_0 (cvt .u64 r_1)) 32), .int .u64 x_2, .int .u64 (sub .u64 x_1 x_2), (u_22 0), (u_22 1), (u_22 2), (u_22 3), (u_22 4), (u_22 5), (u_22 6), (u_22 7), (u_22 8), (u_22 9), (u_22 10), (u_22 11), (u_22 12), (u_22 13), (u_22 14), (u_22 15), (u_22 16), (u_22 17), (u_22 18), undef, undef, undef, undef, undef, undef, undef, undef, undef, undef, undef, undef, undef, undef, undef, undef, undef, undef, undef, undef, undef, undef, undef, undef, undef, undef, undef, undef, undef, undef, undef, undef, undef, undef, undef, undef, undef, undef, undef, undef, undef, undef, undef, undef, undef, undef, undef, undef, undef] ∧ LOk w0.heap.size [] F w' ∧ Below w0.heap.size w0 w') ?_ (s := ((quo .u64 x_1 (shr .u64 (shl .u64 p2_0 (cvt .u64 r_1)) 32)), (sub .u64 x_1 x_2))) (n := fuel) ⟨(fun i => ([undef, undef, undef, undef, undef, undef, undef, undef, undef, undef, undef, undef, undef, undef, undef, undef, undef, undef, undef] : List Value).getD i undef), by kernel_rfl, hL, hB⟩ hm
          intro self_2 s l1 w_9 hI hm
          obtain ⟨q1_3, rhat_4⟩ := s
          try dsimp only at hI
          obtain ⟨u_22, rfl, hL, hB⟩ := hI
          unfold m38_L7 at hm
          refine cw_seq ?_
          refine cw_cut (fun l' w' => ∃ x_60, ∃ u_24 : Nat → Value, l' = [.int .u64 p0_0, .int .u64 p1_0, .int .u64 (shl .u64 p2_0 (cvt .u64 r_1)), undef, undef, undef, .int .u64 0, .int .u64 0, .int .u64 (cvt .u64 r_1), .int .u64 (shr .u64 (shl .u64 p2_0 (cvt .u64 r_1)) 32), .int .u64 (band .u64 (shl .u64 p2_0 (cvt .u64 r_1)) 4294967295), .int .u64 x_1, .int .u64 (shl .u64 p1_0 (cvt .u64 r_1)), .int .u64 (shr .u64 (shl .u64 p1_0 (cvt .u64 r_1)) 32), .int .u64 (band .u64 (shl .u64 p1_0 (cvt .u64 r_1)) 4294967295), .int .u64 q1_3, .int .u64 rhat_4, undef, undef, (u_1 0), (u_1 1), (u_1 2), (u_2 0), (u_2 1), (u_2 2), (u_2 3), .int .u64 p0_0, .bool (eqi p0_0 0), undef, undef, undef, undef, undef, undef, .int .u64 p2_0, .int .i64 r_1, .int .u64 (cvt .u64 r_1), .int .u64 p2_0, .int .u64 (cvt .u64 r_1), .int .u64 (shl .u64 p2_0 (cvt .u64 r_1)), .int .u64 (shl .u64 p2_0 (cvt .u64 r_1)), .int .u64 (shr .u64 (shl .u64 p2_0 (cvt .u64 r_1)) 32), .int .u64 (shl .u64 p2_0 (cvt .u64 r_1)), .int .u64 (band .u64 (shl .u64 p2_0 (cvt .u64 r_1)) 4294967295), .int .u64 p0_0, .int .u64 (cvt .u64 r_1), .int .u64 (shl .u64 p0_0 (cvt .u64 r_1)), .int .u64 p1_0, .int .u64 (cvt .u64 r_1), .int .u64 (sub .u64 64 (cvt .u64 r_1)), .int .u64 (shr .u64 p1_0 (sub .u64 64 (cvt .u64 r_1))), .int .u64 x_1, .int .u64 p1_0, .int .u64 (cvt .u64 r_1), .int .u64 (shl .u64 p1_0 (cvt .u64 r_1)), .int .u64 (shl .u64 p1_0 (cvt .u64 r_1)), .int .u64 (shr .u64 (shl .u64 p1_0 (cvt .u64 r_1)) 32), .int .u64 (shl .u64 p1_0 (cvt .u64 r_1)), .int .u64 (band .u64 (shl .u64 p1_0 (cvt .u64 r_1)) 4294967295), .int .u64 x_1, .int .u64 (shr .u64 (shl .u64 p2_0 (cvt .u64 r_1)) 32), .int .u64 (quo .u64 x_1 (shr .u64 (shl .u64 p2_0 (cvt .u64 r_1)) 32)), .int .u64 x_1, .int .u64 (quo .u64 x_1 (shr .u64 (shl .u64 p2_0 (cvt .u64 r_1)) 32)), .int .u64 (shr .u64 (shl .u64 p2_0 (cvt .u64 r_1)) 32), .int .u64 x_2, .int .u64 (sub .u64 x_1 x_2), (u_24 0), (u_24 1), (u_24 2), (u_24 3), (u_24 4), (u_24 5), (u_24 6), (u_24 7), (u_24 8), (u_24 9), (u_24 10), .bool x_60, (u_22 12), (u_22 13), (u_22 14), (u_22 15), (u_22 16), (u_22 17), (u_22 18), undef, undef, undef, undef, undef, undef, undef, undef, undef, undef, undef, undef, undef, undef, undef, undef, undef, undef, undef, undef, undef, undef, undef, undef, undef, undef, undef, undef, undef, undef, undef, undef, undef, undef, undef, undef, undef, undef, undef, undef, undef, undef, undef, undef, undef, undef, undef, undef, undef] ∧ LOk w0.heap.size [] F w' ∧ Below w0.heap.size w0 w' ∧ m38_J8 fuel p1_0 p2_0 r_1 x_1 q1_3 rhat_4 self_2 x_60 = some r) ?_ ?_
          · refine cw_region ?_
            refine wl_val (v := .int .u64 q1_3) (w' := w_9) (by kernel_rfl) (run_move (v := .int .u64 q1_3) (by kernel_rfl)) ?_
            refine wl_val (v := .bool (ge q1_3 4294967296)) (w' := w_9) (by kernel_rfl) (run_ge (k := .u64) (a := q1_3) (b := 4294967296) (by kernel_rfl) (by kernel_rfl)) ?_
            refine wl_val (v := .bool (ge q1_3 4294967296)) (w' := w_9) (by kernel_rfl) (run_move (v := .bool (ge q1_3 4294967296)) (by kernel_rfl)) ?_
            rcases Bool.eq_false_or_eq_true (ge q1_3 4294967296) with hc_41 | hc_41
            · have hm := ite_t hm hc_41
              refine wl_not (wg (c := (ge q1_3 4294967296)) (want := false) (by kernel_rfl) hc_41 rfl) ?_
              refine wl_not (wg (c := (ge q1_3 4294967296)) (want := false) (by kernel_rfl) hc_41 rfl) ?_
              refine wl_not (wg (c := (ge q1_3 4294967296)) (want := false) (by kernel_rfl) hc_41 rfl) ?_
              refine wl_not (wg (c := (ge q1_3 4294967296)) (want := false) (by kernel_rfl) hc_41 rfl) ?_
              refine wl_not (wg (c := (ge q1_3 4294967296)) (want := false) (by kernel_rfl) hc_41 rfl) ?_
              refine wl_not (wg (c := (ge q1_3 4294967296)) (want := false) (by kernel_rfl) hc_41 rfl) ?_
              refine wl_norm [.int .u64 p0_0, .int .u64 p1_0, .int .u64 (shl .u64 p2_0 (cvt .u64 r_1)), undef, undef, undef, .int .u64 0, .int .u64 0, .int .u64 (cvt .u64 r_1), .int .u64 (shr .u64 (shl .u64 p2_0 (cvt .u64 r_1)) 32), .int .u64 (band .u64 (shl .u64 p2_0 (cvt .u64 r_1)) 4294967295), .int .u64 x_1, .int .u64 (shl .u64 p1_0 (cvt .u64 r_1)), .int .u64 (shr .u64 (shl .u64 p1_0 (cvt .u64 r_1)) 32), .int .u64 (band .u64 (shl .u64 p1_0 (cvt .u64 r_1)) 4294967295), .int .u64 q1_3, .int .u64 rhat_4, undef, undef, (u_1 0), (u_1 1), (u_1 2), (u_2 0), (u_2 1), (u_2 2), (u_2 3), .int .u64 p0_0, .bool (eqi p0_0 0), undef, undef, undef, undef, undef, undef, .int .u64 p2_0, .int .i64 r_1, .int .u64 (cvt .u64 r_1), .int .u64 p2_0, .int .u64 (cvt .u64 r_1), .int .u64 (shl .u64 p2_0 (cvt .u64 r_1)), .int .u64 (shl .u64 p2_0 (cvt .u64 r_1)), .int .u64 (shr .u64 (shl .u64 p2_0 (cvt .u64 r_1)) 32), .int .u64 (shl .u64 p2_0 (cvt .u64 r_1)), .int .u64 (band .u64 (shl .u64 p2_0 (cvt .u64 r_1)) 4294967295), .int .u64 p0_0, .int .u64 (cvt .u64 r_1), .int .u64 (shl .u64 p0_0 (cvt .u64 r_1)), .int .u64 p1_0, .int .u64 (cvt .u64 r_1), .int .u64 (sub .u64 64 (cvt .u64 r_1)), .int .u64 (shr .u64 p1_0 (sub .u64 64 (cvt .u64 r_1))), .int .u64 x_1, .int .u64 p1_0, .int .u64 (cvt .u64 r_1), .int .u64 (shl .u64 p1_0 (cvt .u64 r_1)), .int .u64 (shl .u64 p1_0 (cvt .u64 r_1)), .int .u64 (shr .u64 (shl .u64 p1_0 (cvt .u64 r_1)) 32), .int .u64 (shl .u64 p1_0 (cvt .u64 r_1)), .int .u64 (band .u64 (shl .u64 p1_0 (cvt .u64 r_1)) 4294967295), .int .u64 x_1, .int .u64 (shr .u64 (shl .u64 p2_0 (cvt .u64 r_1)) 32), .int .u64 (quo .u64 x_1 (shr .u64 (shl .u64 p2_0 (cvt .u64 r_1)) 32)), .int .u64 x_1, .int .u64 (quo .u64 x_1 (shr .u64 (shl .u64 p2_0 (cvt .u64 r_1)) 32)), .int .u64 (shr .u64 (shl .u64 p2_0 (cvt .u64 r_1)) 32), .int .u64 x_2, .int .u64 (sub .u64 x_1 x_2), .int .u64 q1_3, .bool (ge q1_3 4294967296), .bool (ge q1_3 4294967296), undef, undef, undef, undef, undef, undef, (u_22 9), (u_22 10), (u_22 11), (u_22 12), (u_22 13), (u_22 14), (u_22 15), (u_22 16), (u_22 17), (u_22 18), undef, undef, undef, undef, undef, undef, undef, undef, undef, undef, undef, undef, undef, undef, undef, undef, undef, undef, undef, undef, undef, undef, undef, undef, undef, undef, undef, undef, undef, undef, undef, undef, undef, undef, undef, undef, undef, undef, undef, undef, undef, undef, undef, undef, undef, undef, undef, undef, undef] (by kernel_rfl) ?_
              refine wl_not (wg (c := (ge q1_3 4294967296)) (want := false) (by kernel_rfl) hc_41 rfl) ?_
              refine wl_not (wg (c := (ge q1_3 4294967296)) (want := false) (by kernel_rfl) hc_41 rfl) ?_
              refine wl_val (v := .bool true) (w' := w_9) (by kernel_rfl) (run_pick_t (v := .bool true) (tr2 (c := (ge q1_3 4294967296)) (by kernel_rfl) hc_41) (by kernel_rfl)) ?_
              refine wl_nil ?_
              exact then_c ⟨true, (fun i => ([.int .u64 q1_3, .bool (ge q1_3 4294967296), .bool (ge q1_3 4294967296), undef, undef, undef, undef, undef, undef, undef, undef] : List Value).getD i undef), by kernel_rfl, hL, hB, hm⟩
            · have hm := ite_f hm hc_41
              refine wl_val (v := .int .u64 q1_3) (w' := w_9) (wg (c := (ge q1_3 4294967296)) (want := false) (by kernel_rfl) hc_41 rfl) (run_move (v := .int .u64 q1_3) (by kernel_rfl)) ?_
              refine wl_val (v := .int .u64 (band .u64 (shl .u64 p2_0 (cvt .u64 r_1)) 4294967295)) (w' := w_9) (wg (c := (ge q1_3 4294967296)) (want := false) (by kernel_rfl) hc_41 rfl) (run_move (v := .int .u64 (band .u64 (shl .u64 p2_0 (cvt .u64 r_1)) 4294967295)) (by kernel_rfl)) ?_
              obtain ⟨x_62, h_62, hm⟩ := bind_e hm
              refine wl_val (v := .int .u64 x_62) (w' := w_9) (wg (c := (ge q1_3 4294967296)) (want := false) (by kernel_rfl) hc_41 rfl) (by rw [← Option.some.inj h_62]; exact run_mul (k := .u64) (a := q1_3) (b := (band .u64 (shl .u64 p2_0 (cvt .u64 r_1)) 4294967295)) (by kernel_rfl) (by kernel_rfl)) ?_
              refine wl_val (v := .int .u64 rhat_4) (w' := w_9) (wg (c := (ge q1_3 4294967296)) (want := false) (by kernel_rfl) hc_41 rfl) (run_move (v := .int .u64 rhat_4) (by kernel_rfl)) ?_
              refine wl_val (v := .int .u64 (mul .u64 4294967296 rhat_4)) (w' := w_9) (wg (c := (ge q1_3 4294967296)) (want := false) (by kernel_rfl) hc_41 rfl) (run_mul (k := .u64) (a := 4294967296) (b := rhat_4) (by kernel_rfl) (by kernel_rfl)) ?_
              refine wl_val (v := .int .u64 (shr .u64 (shl .u64 p1_0 (cvt .u64 r_1)) 32)) (w' := w_9) (wg (c := (ge q1_3 4294967296)) (want := false) (by kernel_rfl) hc_41 rfl) (run_move (v := .int .u64 (shr .u64 (shl .u64 p1_0 (cvt .u64 r_1)) 32)) (by kernel_rfl)) ?_
              refine wl_norm [.int .u64 p0_0, .int .u64 p1_0, .int .u64 (shl .u64 p2_0 (cvt .u64 r_1)), undef, undef, undef, .int .u64 0, .int .u64 0, .int .u64 (cvt .u64 r_1), .int .u64 (shr .u64 (shl .u64 p2_0 (cvt .u64 r_1)) 32), .int .u64 (band .u64 (shl .u64 p2_0 (cvt .u64 r_1)) 4294967295), .int .u64 x_1, .int .u64 (shl .u64 p1_0 (cvt .u64 r_1)), .int .u64 (shr .u64 (shl .u64 p1_0 (cvt .u64 r_1)) 32), .int .u64 (band .u64 (shl .u64 p1_0 (cvt .u64 r_1)) 4294967295), .int .u64 q1_3, .int .u64 rhat_4, undef, undef, (u_1 0), (u_1 1), (u_1 2), (u_2 0), (u_2 1), (u_2 2), (u_2 3), .int .u64 p0_0, .bool (eqi p0_0 0), undef, undef, undef, undef, undef, undef, .int .u64 p2_0, .int .i64 r_1, .int .u64 (cvt .u64 r_1), .int .u64 p2_0, .int .u64 (cvt .u64 r_1), .int .u64 (shl .u64 p2_0 (cvt .u64 r_1)), .int .u64 (shl .u64 p2_0 (cvt .u64 r_1)), .int .u64 (shr .u64 (shl .u64 p2_0 (cvt .u64 r_1)) 32), .int .u64 (shl .u64 p2_0 (cvt .u64 r_1)), .int .u64 (band .u64 (shl .u64 p2_0 (cvt .u64 r_1)) 4294967295), .int .u64 p0_0, .int .u64 (cvt .u64 r_1), .int .u64 (shl .u64 p0_0 (cvt .u64 r_1)), .int .u64 p1_0, .int .u64 (cvt .u64 r_1), .int .u64 (sub .u64 64 (cvt .u64 r_1)), .int .u64 (shr .u64 p1_0 (sub .u64 64 (cvt .u64 r_1))), .int .u64 x_1, .int .u64 p1_0, .int .u64 (cvt .u64 r_1), .int .u64 (shl .u64 p1_0 (cvt .u64 r_1)), .int .u64 (shl .u64 p1_0 (cvt .u64 r_1)), .int .u64 (shr .u64 (shl .u64 p1_0 (cvt .u64 r_1)) 32), .int .u64 (shl .u64 p1_0 (cvt .u64 r_1)), .int .u64 (band .u64 (shl .u64 p1_0 (cvt .u64 r_1)) 4294967295), .int .u64 x_1, .int .u64 (shr .u64 (shl .u64 p2_0 (cvt .u64 r_1)) 32), .int .u64 (quo .u64 x_1 (shr .u64 (shl .u64 p2_0 (cvt .u64 r_1)) 32)), .int .u64 x_1, .int .u64 (quo .u64 x_1 (shr .u64 (shl .u64 p2_0 (cvt .u64 r_1)) 32)), .int .u64 (shr .u64 (shl .u64 p2_0 (cvt .u64 r_1)) 32), .int .u64 x_2, .int .u64 (sub .u64 x_1 x_2), .int .u64 q1_3, .bool (ge q1_3 4294967296), .bool (ge q1_3 4294967296), .int .u64 q1_3, .int .u64 (band .u64 (shl .u64 p2_0 (cvt .u64 r_1)) 4294967295), .int .u64 x_62, .int .u64 rhat_4, .int .u64 (mul .u64 4294967296 rhat_4), .int .u64 (shr .u64 (shl .u64 p1_0 (cvt .u64 r_1)) 32), (u_22 9), (u_22 10), (u_22 11), (u_22 12), (u_22 13), (u_22 14), (u_22 15), (u_22 16), (u_22 17), (u_22 18), undef, undef, undef, undef, undef, undef, undef, undef, undef, undef, undef, undef, undef, undef, undef, undef, undef, undef, undef, undef, undef, undef, undef, undef, undef, undef, undef, undef, undef, undef, undef, undef, undef, undef, undef, undef, undef, undef, undef, undef, undef, undef, undef, undef, undef, undef, undef, undef, undef] (by kernel_rfl) ?_
              obtain ⟨x_63, h_63, hm⟩ := bind_e hm
              refine wl_val (v := .int .u64 x_63) (w' := w_9) (wg (c := (ge q1_3 4294967296)) (want := false) (by kernel_rfl) hc_41 rfl) (by rw [← Option.some.inj h_63]; exact run_add (k := .u64) (a := (mul .u64 4294967296 rhat_4)) (b := (shr .u64 (shl .u64 p1_0 (cvt .u64 r_1)) 32)) (by kernel_rfl) (by kernel_rfl)) ?_
              refine wl_val (v := .bool (gt x_62 x_63)) (w' := w_9) (wg (c := (ge q1_3 4294967296)) (want := false) (by kernel_rfl) hc_41 rfl) (run_gt (k := .u64) (a := x_62) (b := x_63) (by kernel_rfl) (by kernel_rfl)) ?_
              refine wl_val (v := .bool (gt x_62 x_63)) (w' := w_9) (by kernel_rfl) (run_pick_f (v := .bool (gt x_62 x_63)) (tr2 (c := (ge q1_3 4294967296)) (by kernel_rfl) hc_41) (by kernel_rfl)) ?_
              refine wl_nil ?_
              exact then_c ⟨(gt x_62 x_63), (fun i => ([.int .u64 q1_3, .bool (ge q1_3 4294967296), .bool (ge q1_3 4294967296), .int .u64 q1_3, .int .u64 (band .u64 (shl .u64 p2_0 (cvt .u64 r_1)) 4294967295), .int .u64 x_62, .int .u64 rhat_4, .int .u64 (mul .u64 4294967296 rhat_4), .int .u64 (shr .u64 (shl .u64 p1_0 (cvt .u64 r_1)) 32), .int .u64 x_63, .bool (gt x_62 x_63)] : List Value).getD i undef), by kernel_rfl, hL, hB, hm⟩
          · intro l1 w_10 hI
            obtain ⟨x_60, u_24, rfl, hL, hB, hm⟩ := hI
            unfold m38_J8 at hm
            refine cw_cond (t := x_60) (by kernel_rfl) (fun hc_39 => ?_) (fun hc_39 => ?_)
            · have hm := ite_t hm hc_39
              refine cw_skip ?_
              refine then_n ?_
              refine cw_block ?_
              refine cw_seq ?_
              refine cw_region ?_
              refine wl_val (v := .int .u64 q1_3) (w' := w_10) (by kernel_rfl) (run_move (v := .int .u64 q1_3) (by kernel_rfl)) ?_
              refine wl_val (v := .int .u64 (sub .u64 q1_3 1)) (w' := w_10) (by kernel_rfl) (run_sub (k := .u64) (a := q1_3) (b := 1) (by kernel_rfl) (by kernel_rfl)) ?_
              refine wl_val (v := .int .u64 (sub .u64 q1_3 1)) (w' := w_10) (by kernel_rfl) (run_assign (v := .int .u64 (sub .u64 q1_3 1)) (by kernel_rfl)) ?_
              refine wl_nil ?_
              refine then_n ?_
              refine cw_seq ?_
              refine cw_region ?_
              refine wl_val (v := .int .u64 rhat_4) (w' := w_10) (by kernel_rfl) (run_move (v := .int .u64 rhat_4) (by kernel_rfl)) ?_
              refine wl_val (v := .int .u64 (shr .u64 (shl .u64 p2_0 (cvt .u64 r_1)) 32)) (w' := w_10) (by kernel_rfl) (run_move (v := .int .u64 (shr .u64 (shl .u64 p2_0 (cvt .u64 r_1)) 32)) (by kernel_rfl)) ?_
              obtain ⟨x_61, h_61, hm⟩ := bind_e hm
              refine wl_val (v := .int .u64 x_61) (w' := w_10) (by kernel_rfl) (by rw [← Option.some.inj h_61]; exact run_add (k := .u64) (a := rhat_4) (b := (shr .u64 (shl .u64 p2_0 (cvt .u64 r_1)) 32)) (by kernel_rfl) (by kernel_rfl)) ?_
              refine wl_val (v := .int .u64 x_61) (w' := w_10) (by kernel_rfl) (run_assign (v := .int .u64 x_61) (by kernel_rfl)) ?_
              refine wl_nil ?_
              refine then_n ?_
              refine cw_seq ?_
              refine cw_region ?_
              refine wl_val (v := .int .u64 x_61) (w' := w_10) (by kernel_rfl) (run_move (v := .int .u64 x_61) (by kernel_rfl)) ?_
              refine wl_val (v := .bool (ge x_61 4294967296)) (w' := w_10) (by kernel_rfl) (run_ge (k := .u64) (a := x_61) (b := 4294967296) (by kernel_rfl) (by kernel_rfl)) ?_
              refine wl_nil ?_
              refine then_n ?_
              refine cw_cond (t := (ge x_61 4294967296)) (by kernel_rfl) (fun hc_40 => ?_) (fun hc_40 => ?_)
              · have hm := ite_t hm hc_40
                refine cw_exit ?_
                refine inBlock_other rfl ?_
                refine then_exit ?_
                refine inBlock_same ?_
                exact then_c ⟨(sub .u64 q1_3 1), (fun i => ([.int .u64 x_61, (u_24 0), (u_24 1), (u_24 2), (u_24 3), (u_24 4), (u_24 5), (u_24 6), (u_24 7), (u_24 8), (u_24 9), (u_24 10), .bool x_60, .int .u64 q1_3, .int .u64 (sub .u64 q1_3 1), .int .u64 rhat_4, .int .u64 (shr .u64 (shl .u64 p2_0 (cvt .u64 r_1)) 32), .int .u64 x_61, .int .u64 x_61, .bool (ge x_61 4294967296)] : List Value).getD i undef), by kernel_rfl, hL, hB, hm⟩
              · have hm := ite_f hm hc_40
                refine cw_skip ?_
                refine inBlock_n ?_
                exact ⟨_, rfl, ((sub .u64 q1_3 1), x_61), ⟨(fun i => ([(u_24 0), (u_24 1), (u_24 2), (u_24 3), (u_24 4), (u_24 5), (u_24 6), (u_24 7), (u_24 8), (u_24 9), (u_24 10), .bool x_60, .int .u64 q1_3, .int .u64 (sub .u64 q1_3 1), .int .u64 rhat_4, .int .u64 (shr .u64 (shl .u64 p2_0 (cvt .u64 r_1)) 32), .int .u64 x_61, .int .u64 x_61, .bool (ge x_61 4294967296)] : List Value).getD i undef), by kernel_rfl, hL, hB⟩, hm⟩
            · have hm := ite_f hm hc_39
              refine cw_exit ?_
              refine then_exit ?_
              refine then_exit ?_
              refine inBlock_same ?_
              exact then_c ⟨q1_3, (fun i => ([.int .u64 rhat_4, (u_24 0), (u_24 1), (u_24 2), (u_24 3), (u_24 4), (u_24 5), (u_24 6), (u_24 7), (u_24 8), (u_24 9), (u_24 10), .bool x_60, (u_22 12), (u_22 13), (u_22 14), (u_22 15), (u_22 16), (u_22 17), (u_22 18)] : List Value).getD i undef), by kernel_rfl, hL, hB, hm⟩
        · intro l1 w_5 hI
          obtain ⟨q1_2, u_8, rfl, hL, hB, hm⟩ := hI
          unfold m38_J3 at hm
          refine cw_seq ?_
          refine cw_region ?_
          refine wl_val (v := .int .u64 x_1) (w' := w_5) (by kernel_rfl) (run_move (v := .int .u64 x_1) (by kernel_rfl)) ?_
          refine wl_val (v := .int .u64 (mul .u64 x_1 4294967296)) (w' := w_5) (by kernel_rfl) (run_mul (k := .u64) (a := x_1) (b := 4294967296) (by kernel_rfl) (by kernel_rfl)) ?_
          refine wl_val (v := .int .u64 (shr .u64 (shl .u64 p1_0 (cvt .u64 r_1)) 32)) (w' := w_5) (by kernel_rfl) (run_move (v := .int .u64 (shr .u64 (shl .u64 p1_0 (cvt .u64 r_1)) 32)) (by kernel_rfl)) ?_
          obtain ⟨x_16, h_23, hm⟩ := bind_e hm
          refine wl_val (v := .int .u64 x_16) (w' := w_5) (by kernel_rfl) (by rw [← Option.some.inj h_23]; exact run_add (k := .u64) (a := (mul .u64 x_1 4294967296)) (b := (shr .u64 (shl .u64 p1_0 (cvt .u64 r_1)) 32)) (by kernel_rfl) (by kernel_rfl)) ?_
          refine wl_val (v := .int .u64 q1_2) (w' := w_5) (by kernel_rfl) (run_move (v := .int .u64 q1_2) (by kernel_rfl)) ?_
          refine wl_val (v := .int .u64 (shl .u64 p2_0 (cvt .u64 r_1))) (w' := w_5) (by kernel_rfl) (run_move (v := .int .u64 (shl .u64 p2_0 (cvt .u64 r_1))) (by kernel_rfl)) ?_
          refine wl_val (v := .int .u64 (mul .u64 q1_2 (shl .u64 p2_0 (cvt .u64 r_1)))) (w' := w_5) (by kernel_rfl) (run_mul (k := .u64) (a := q1_2) (b := (shl .u64 p2_0 (cvt .u64 r_1))) (by kernel_rfl) (by kernel_rfl)) ?_
          obtain ⟨x_17, h_24, hm⟩ := bind_e hm
          refine wl_val (v := .int .u64 x_17) (w' := w_5) (by kernel_rfl) (by rw [← Option.some.inj h_24]; exact run_sub (k := .u64) (a := x_16) (b := (mul .u64 q1_2 (shl .u64 p2_0 (cvt .u64 r_1)))) (by kernel_rfl) (by kernel_rfl)) ?_
          refine wl_val (v := .int .u64 x_17) (w' := w_5) (by kernel_rfl) (run_assign (v := .int .u64 x_17) (by kernel_rfl)) ?_
          refine wl_nil ?_
          refine then_n ?_
          refine cw_seq ?_
          refine cw_region ?_
          refine wl_val (v := .int .u64 x_17) (w' := w_5) (by kernel_rfl) (run_move (v := .int .u64 x_17) (by kernel_rfl)) ?_
          refine wl_val (v := .int .u64 (shr .u64 (shl .u64 p2_0 (cvt .u64 r_1)) 32)) (w' := w_5) (by kernel_rfl) (run_move (v := .int .u64 (shr .u64 (shl .u64 p2_0 (cvt .u64 r_1)) 32)) (by kernel_rfl)) ?_
          obtain ⟨h_25, hm⟩ := need_e hm
          refine wl_val (v := .int .u64 (quo .u64 x_17 (shr .u64 (shl .u64 p2_0 (cvt .u64 r_1)) 32))) (w' := w_5) (by kernel_rfl) (run_quo (k := .u64) (a := x_17) (b := (shr .u64 (shl .u64 p2_0 (cvt .u64 r_1)) 32)) (by kernel_rfl) (by kernel_rfl) (by simpa [nei] using h_25)) ?_
          refine wl_val (v := .int .u64 (quo .u64 x_17 (shr .u64 (shl .u64 p2_0 (cvt .u64 r_1)) 32))) (w' := w_5) (by kernel_rfl) (run_assign (v := .int .u64 (quo .u64 x_17 (shr .u64 (shl .u64 p2_0 (cvt .u64 r_1)) 32))) (by kernel_rfl)) ?_
          refine wl_nil ?_
          refine then_n ?_
          refine cw_norm [.int .u64 p0_0, .int .u64 p1_0, .int .u64 (shl .u64 p2_0 (cvt .u64 r_1)), undef, undef, undef, .int .u64 0, .int .u64 0, .int .u64 (cvt .u64 r_1), .int .u64 (shr .u64 (shl .u64 p2_0 (cvt .u64 r_1)) 32), .int .u64 (band .u64 (shl .u64 p2_0 (cvt .u64 r_1)) 4294967295), .int .u64 x_1, .int .u64 (shl .u64 p1_0 (cvt .u64 r_1)), .int .u64 (shr .u64 (shl .u64 p1_0 (cvt .u64 r_1)) 32), .int .u64 (band .u64 (shl .u64 p1_0 (cvt .u64 r_1)) 4294967295), .int .u64 q1_2, (u_8 0), .int .u64 x_17, .int .u64 (quo .u64 x_17 (shr .u64 (shl .u64 p2_0 (cvt .u64 r_1)) 32)), (u_1 0), (u_1 1), (u_1 2), (u_2 0), (u_2 1), (u_2 2), (u_2 3), .int .u64 p0_0, .bool (eqi p0_0 0), undef, undef, undef, undef, undef, undef, .int .u64 p2_0, .int .i64 r_1, .int .u64 (cvt .u64 r_1), .int .u64 p2_0, .int .u64 (cvt .u64 r_1), .int .u64 (shl .u64 p2_0 (cvt .u64 r_1)), .int .u64 (shl .u64 p2_0 (cvt .u64 r_1)), .int .u64 (shr .u64 (shl .u64 p2_0 (cvt .u64 r_1)) 32), .int .u64 (shl .u64 p2_0 (cvt .u64 r_1)), .int .u64 (band .u64 (shl .u64 p2_0 (cvt .u64 r_1)) 4294967295), .int .u64 p0_0, .int .u64 (cvt .u64 r_1), .int .u64 (shl .u64 p0_0 (cvt .u64 r_1)), .int .u64 p1_0, .int .u64 (cvt .u64 r_1), .int .u64 (sub .u64 64 (cvt .u64 r_1)), .int .u64 (shr .u64 p1_0 (sub .u64 64 (cvt .u64 r_1))), .int .u64 x_1, .int .u64 p1_0, .int .u64 (cvt .u64 r_1), .int .u64 (shl .u64 p1_0 (cvt .u64 r_1)), .int .u64 (shl .u64 p1_0 (cvt .u64 r_1)), .int .u64 (shr .u64 (shl .u64 p1_0 (cvt .u64 r_1)) 32), .int .u64 (shl .u64 p1_0 (cvt .u64 r_1)), .int .u64 (band .u64 (shl .u64 p1_0 (cvt .u64 r_1)) 4294967295), .int .u64 x_1, .int .u64 (shr .u64 (shl .u64 p2_0 (cvt .u64 r_1)) 32), .int .u64 (quo .u64 x_1 (shr .u64 (shl .u64 p2_0 (cvt .u64 r_1)) 32)), .int .u64 x_1, .int .u64 (quo .u64 x_1 (shr .u64 (shl .u64 p2_0 (cvt .u64 r_1)) 32)), .int .u64 (shr .u64 (shl .u64 p2_0 (cvt .u64 r_1)) 32), .int .u64 x_2, .int .u64 (sub .u64 x_1 x_2), (u_8 1), (u_8 2), (u_8 3), (u_8 4), (u_8 5), (u_8 6), (u_8 7), (u_8 8), (u_8 9), (u_8 10), (u_8 11), (u_8 12), (u_8 13), (u_8 14), (u_8 15), (u_8 16), (u_8 17), (u_8 18), (u_8 19), .int .u64 x_1, .int .u64 (mul .u64 x_1 4294967296), .int .u64 (shr .u64 (shl .u64 p1_0 (cvt .u64 r_1)) 32), .int .u64 x_16, .int .u64 q1_2, .int .u64 (shl .u64 p2_0 (cvt .u64 r_1)), .int .u64 (mul .u64 q1_2 (shl .u64 p2_0 (cvt .u64 r_1))), .int .u64 x_17, .int .u64 x_17, .int .u64 (shr .u64 (shl .u64 p2_0 (cvt .u64 r_1)) 32), .int .u64 (quo .u64 x_17 (shr .u64 (shl .u64 p2_0 (cvt .u64 r_1)) 32)), undef, undef, undef, undef, undef, undef, undef, undef, undef, undef, undef, undef, undef, undef, undef, undef, undef, undef, undef, undef, undef, undef, undef, undef, undef, undef, undef, undef, undef, undef, undef, undef, undef, undef, undef, undef, undef, undef] (by kernel_rfl) ?_
          refine cw_seq ?_
          refine cw_region ?_
          refine wl_val (v := .int .u64 x_17) (w' := w_5) (by kernel_rfl) (run_move (v := .int .u64 x_17) (by kernel_rfl)) ?_
          refine wl_val (v := .int .u64 (quo .u64 x_17 (shr .u64 (shl .u64 p2_0 (cvt .u64 r_1)) 32))) (w' := w_5) (by kernel_rfl) (run_move (v := .int .u64 (quo .u64 x_17 (shr .u64 (shl .u64 p2_0 (cvt .u64 r_1)) 32))) (by kernel_rfl)) ?_
          refine wl_val (v := .int .u64 (shr .u64 (shl .u64 p2_0 (cvt .u64 r_1)) 32)) (w' := w_5) (by kernel_rfl) (run_move (v := .int .u64 (shr .u64 (shl .u64 p2_0 (cvt .u64 r_1)) 32)) (by kernel_rfl)) ?_
          obtain ⟨x_18, h_26, hm⟩ := bind_e hm
          refine wl_val (v := .int .u64 x_18) (w' := w_5) (by kernel_rfl) (by rw [← Option.some.inj h_26]; exact run_mul (k := .u64) (a := (quo .u64 x_17 (shr .u64 (shl .u64 p2_0 (cvt .u64 r_1)) 32))) (b := (shr .u64 (shl .u64 p2_0 (cvt .u64 r_1)) 32)) (by kernel_rfl) (by kernel_rfl)) ?_
          refine wl_val (v := .int .u64 (sub .u64 x_17 x_18)) (w' := w_5) (by kernel_rfl) (run_sub (k := .u64) (a := x_17) (b := x_18) (by kernel_rfl) (by kernel_rfl)) ?_
          refine wl_val (v := .int .u64 (sub .u64 x_17 x_18)) (w' := w_5) (by kernel_rfl) (run_assign (v := .int .u64 (sub .u64 x_17 x_18)) (by kernel_rfl)) ?_
          refine wl_nil ?_
          refine then_n ?_
          refine cw_cut (fun l' w' => ∃ q0_2, ∃ u_14 : Nat → Value, l' = [.int .u64 p0_0, .int .u64 p1_0, .int .u64 (shl .u64 p2_0 (cvt .u64 r_1)), undef, undef, undef, .int .u64 0, .int .u64 0, .int .u64 (cvt .u64 r_1), .int .u64 (shr .u64 (shl .u64 p2_0 (cvt .u64 r_1)) 32), .int .u64 (band .u64 (shl .u64 p2_0 (cvt .u64 r_1)) 4294967295), .int .u64 x_1, .int .u64 (shl .u64 p1_0 (cvt .u64 r_1)), .int .u64 (shr .u64 (shl .u64 p1_0 (cvt .u64 r_1)) 32), .int .u64 (band .u64 (shl .u64 p1_0 (cvt .u64 r_1)) 4294967295), .int .u64 q1_2, (u_14 0), .int .u64 x_17, .int .u64 q0_2, (u_1 0), (u_1 1), (u_1 2), (u_2 0), (u_2 1), (u_2 2), (u_2 3), .int .u64 p0_0, .bool (eqi p0_0 0), undef, undef, undef, undef, undef, undef, .int .u64 p2_0, .int .i64 r_1, .int .u64 (cvt .u64 r_1), .int .u64 p2_0, .int .u64 (cvt .u64 r_1), .int .u64 (shl .u64 p2_0 (cvt .u64 r_1)), .int .u64 (shl .u64 p2_0 (cvt .u64 r_1)), .int .u64 (shr .u64 (shl .u64 p2_0 (cvt .u64 r_1)) 32), .int .u64 (shl .u64 p2_0 (cvt .u64 r_1)), .int .u64 (band .u64 (shl .u64 p2_0 (cvt .u64 r_1)) 4294967295), .int .u64 p0_0, .int .u64 (cvt .u64 r_1), .int .u64 (shl .u64 p0_0 (cvt .u64 r_1)), .int .u64 p1_0, .int .u64 (cvt .u64 r_1), .int .u64 (sub .u64 64 (cvt .u64 r_1)), .int .u64 (shr .u64 p1_0 (sub .u64 64 (cvt .u64 r_1))), .int .u64 x_1, .int .u64 p1_0, .int .u64 (cvt .u64 r_1), .int .u64 (shl .u64 p1_0 (cvt .u64 r_1)), .int .u64 (shl .u64 p1_0 (cvt .u64 r_1)), .int .u64 (shr .u64 (shl .u64 p1_0 (cvt .u64 r_1)) 32), .int .u64 (shl .u64 p1_0 (cvt .u64 r_1)), .int .u64 (band .u64 (shl .u64 p1_0 (cvt .u64 r_1)) 4294967295), .int .u64 x_1, .int .u64 (shr .u64 (shl .u64 p2_0 (cvt .u64 r_1)) 32), .int .u64 (quo .u64 x_1 (shr .u64 (shl .u64 p2_0 (cvt .u64 r_1)) 32)), .int .u64 x_1, .int .u64 (quo .u64 x_1 (shr .u64 (shl .u64 p2_0 (cvt .u64 r_1)) 32)), .int .u64 (shr .u64 (shl .u64 p2_0 (cvt .u64 r_1)) 32), .int .u64 x_2, .int .u64 (sub .u64 x_1 x_2), (u_8 1), (u_8 2), (u_8 3), (u_8 4), (u_8 5), (u_8 6), (u_8 7), (u_8 8), (u_8 9), (u_8 10), (u_8 11), (u_8 12), (u_8 13), (u_8 14), (u_8 15), (u_8 16), (u_8 17), (u_8 18), (u_8 19), .int .u64 x_1, .int .u64 (mul .u64 x_1 4294967296), .int .u64 (shr .u64 (shl .u64 p1_0 (cvt .u64 r_1)) 32), .int .u64 x_16, .int .u64 q1_2, .int .u64 (shl .u64 p2_0 (cvt .u64 r_1)), .int .u64 (mul .u64 q1_2 (shl .u64 p2_0 (cvt .u64 r_1))), .int .u64 x_17, .int .u64 x_17, .int .u64 (shr .u64 (shl .u64 p2_0 (cvt .u64 r_1)) 32), .int .u64 (quo .u64 x_17 (shr .u64 (shl .u64 p2_0 (cvt .u64 r_1)) 32)), .int .u64 x_17, .int .u64 (quo .u64 x_17 (shr .u64 (shl .u64 p2_0 (cvt .u64 r_1)) 32)), .int .u64 (shr .u64 (shl .u64 p2_0 (cvt .u64 r_1)) 32), .int .u64 x_18, .int .u64 (sub .u64 x_17 x_18), (u_14 1), (u_14 2), (u_14 3), (u_14 4), (u_14 5), (u_14 6), (u_14 7), (u_14 8), (u_14 9), (u_14 10), (u_14 11), (u_14 12), (u_14 13), (u_14 14), (u_14 15), (u_14 16), (u_14 17), (u_14 18), (u_14 19), undef, undef, undef, undef, undef, undef, undef, undef, undef, undef, undef, undef, undef, undef] ∧ LOk w0.heap.size [] F w' ∧ Below w0.heap.size w0 w' ∧ m38_J4 fuel p1_0 p2_0 r_1 q1_2 x_17 q0_2 = some r) ?_ ?_
          · refine cw_block ?_
            refine cw_loop (σ := Int × Int) (m38_L5 fuel p1_0 p2_0 r_1 q1_2 x_17) r (fun s l' w' => ∃ u_17 : Nat → Value, l' = [.int .u64 p0_0, .int .u64 p1_0, .int .u64 (shl .u64 p2_0 (cvt .u64 r_1)), undef, undef, undef, .int .u64 0, .int .u64 0, .int .u64 (cvt .u64 r_1), .int .u64 (shr .u64 (shl .u64 p2_0 (cvt .u64 r_1)) 32), .int .u64 (band .u64 (shl .u64 p2_0 (cvt .u64 r_1)) 4294967295), .int .u64 x_1, .int .u64 (shl .u64 p1_0 (cvt .u64 r_1)), .int .u64 (shr .u64 (shl .u64 p1_0 (cvt .u64 r_1)) 32), .int .u64 (band .u64 (shl .u64 p1_0 (cvt .u64 r_1)) 4294967295), .int .u64 q1_2, .int .u64 s.1, .int .u64 x_17, .int .u64 s.2, (u_1 0), (u_1 1), (u_1 2), (u_2 0), (u_2 1), (u_2 2), (u_2 3), .int .u64 p0_0, .bool (eqi p0_0 0), undef, undef, undef, undef, undef, undef, .int .u64 p2_0, .int .i64 r_1, .int .u64 (cvt .u64 r_1), .int .u64 p2_0, .int .u64 (cvt .u64 r_1), .int .u64 (shl .u64 p2_0 (cvt .u64 r_1)), .int .u64 (shl .u64 p2_0 (cvt .u64 r_1)), .int .u64 (shr .u64 (shl .u64 p2_0 (cvt .u64 r_1)) 32), .int .u64 (shl .u64 p2_0 (cvt .u64 r_1)), .int .u64 (band .u64 (shl .u64 p2_0 (cvt .u64 r_1)) 4294967295), .int .u64 p0_0, .int .u64 (cvt .u64 r_1), .int .u64 (shl .u64 p0_0 (cvt .u64 r_1)), .int .u64 p1_0, .int .u64 (cvt .u64 r_1), .int .u64 (sub .u64 64 (cvt .u64 r_1)), .int .u64 (shr .u64 p1_0 (sub .u64 64 (cvt .u64 r_1))), .int .u64 x_1, .int .u64 p1_0, .int .u64 (cvt .u64 r_1), .int .u64 (shl .u64 p1_0 (cvt .u64 r_1)), .int .u64 (shl .u64 p1_0 (cvt .u64 r_1)), .int .u64 (shr .u64 (shl .u64 p1_0 (cvt .u64 r_1)) 32), .int .u64 (shl .u64 p1_0 (cvt .u64 r_1)), .int .u64 (band .u64 (shl .u64 p1_0 (cvt .u64 r_1)) 4294967295), .int .u64 x_1, .int .u64 (shr .u64 (shl .u64 p2_0 (cvt .u64 r_1)) 32), .int .u64 (quo .u64 x_1 (shr .u64 (shl .u64 p2_0 (cvt .u64 r_1)) 32)), .int .u64 x_1, .int .u64 (quo .u64 x_1 (shr .u64 (shl .u64 p2_0 (cvt .u64 r_1)) 32)), .int .u64 (shr .u64 (shl .u64 p2_0 (cvt .u64 r_1)) 32), .int .u64 x_2, .int .u64 (sub .u64 x_1 x_2), (u_8 1), (u_8 2), (u_8 3), (u_8 4), (u_8 5), (u_8 6), (u_8 7), (u_8 8), (u_8 9), (u_8 10), (u_8 11), (u_8 12), (u_8 13), (u_8 14), (u_8 15), (u_8 16), (u_8 17), (u_8 18), (u_8 19), .int .u64 x_1, .int .u64 (mul .u64 x_1 4294967296), .int .u64 (shr .u64 (shl .u64 p1_0 (cvt .u64 r_1)) 32), .int .u64 x_16, .int .u64 q1_2, .int .u64 (shl .u64 p2_0 (cvt .u64 r_1)), .int .u64 (mul .u64 q1_2 (shl .u64 p2_0 (cvt .u64 r_1))), .int .u64 x_17, .int .u64 x_17, .int .u64 (shr .u64 (shl .u64 p2_0 (cvt .u64 r_1)) 32), .int .u64 (quo .u64 x_17 (shr .u64 (shl .u64 p2_0 (cvt .u64 r_1)) 32)), .int .u64 x_17, .int .u64 (quo .u64 x_17 (shr .u64 (shl .u64 p2_0 (cvt .u64 r_1)) 32)), .int .u64 (shr .u64 (shl .u64 p2_0 (cvt .u64 r_1)) 32), .int .u64 x_18, .int .u64 (sub .u64 x_17 x_18), (u_17 0), (u_17 1), (u_17 2), (u_17 3), (u_17 4), (u_17 5), (u_17 6), (u_17 7), (u_17 8), (u_17 9), (u_17 10), (u_17 11), (u_17 12), (u_17 13), (u_17 14), (u_17 15), (u_17 16), (u_17 17), (u_17 18), undef, undef, undef, undef, undef, undef, undef, undef, undef, undef, undef, undef, undef, undef] ∧ LOk w0.heap.size [] F w' ∧ Below w0.heap.size w0 w') ?_ (s := ((sub .u64 x_17 x_18), (quo .u64 x_17 (shr .u64 (shl .u64 p2_0 (cvt .u64 r_1)) 32)))) (n := fuel) ⟨(fun i => ([undef, undef, undef, undef, undef, undef, undef, undef, undef, undef, undef, undef, undef, undef, undef, undef, undef, undef, undef] : List Value).getD i undef), by kernel_rfl, hL, hB⟩ hm
            intro self_1 s l1 w_7 hI hm
            obtain ⟨rhat_3, q0_3⟩ := s
            try dsimp only at hI
            obtain ⟨u_17, rfl, hL, hB⟩ := hI
            unfold m38_L5 at hm
            refine cw_seq ?_
            refine cw_cut (fun l' w' => ∃ x_45, ∃ u_19 : Nat → Value, l' = [.int .u64 p0_0, .int .u64 p1_0, .int .u64 (shl .u64 p2_0 (cvt .u64 r_1)), undef, undef, undef, .int .u64 0, .int .u64 0, .int .u64 (cvt .u64 r_1), .int .u64 (shr .u64 (shl .u64 p2_0 (cvt .u64 r_1)) 32), .int .u64 (band .u64 (shl .u64 p2_0 (cvt .u64 r_1)) 4294967295), .int .u64 x_1, .int .u64 (shl .u64 p1_0 (cvt .u64 r_1)), .int .u64 (shr .u64 (shl .u64 p1_0 (cvt .u64 r_1)) 32), .int .u64 (band .u64 (shl .u64 p1_0 (cvt .u64 r_1)) 4294967295), .int .u64 q1_2, .int .u64 rhat_3, .int .u64 x_17, .int .u64 q0_3, (u_1 0), (u_1 1), (u_1 2), (u_2 0), (u_2 1), (u_2 2), (u_2 3), .int .u64 p0_0, .bool (eqi p0_0 0), undef, undef, undef, undef, undef, undef, .int .u64 p2_0, .int .i64 r_1, .int .u64 (cvt .u64 r_1), .int .u64 p2_0, .int .u64 (cvt .u64 r_1), .int .u64 (shl .u64 p2_0 (cvt .u64 r_1)), .int .u64 (shl .u64 p2_0 (cvt .u64 r_1)), .int .u64 (shr .u64 (shl .u64 p2_0 (cvt .u64 r_1)) 32), .int .u64 (shl .u64 p2_0 (cvt .u64 r_1)), .int .u64 (band .u64 (shl .u64 p2_0 (cvt .u64 r_1)) 4294967295), .int .u64 p0_0, .int .u64 (cvt .u64 r_1), .int .u64 (shl .u64 p0_0 (cvt .u64 r_1)), .int .u64 p1_0, .int .u64 (cvt .u64 r_1), .int .u64 (sub .u64 64 (cvt .u64 r_1)), .int .u64 (shr .u64 p1_0 (sub .u64 64 (cvt .u64 r_1))), .int .u64 x_1, .int .u64 p1_0, .int .u64 (cvt .u64 r_1), .int .u64 (shl .u64 p1_0 (cvt .u64 r_1)), .int .u64 (shl .u64 p1_0 (cvt .u64 r_1)), .int .u64 (shr .u64 (shl .u64 p1_0 (cvt .u64 r_1)) 32), .int .u64 (shl .u64 p1_0 (cvt .u64 r_1)), .int .u64 (band .u64 (shl .u64 p1_0 (cvt .u64 r_1)) 4294967295), .int .u64 x_1, .int .u64 (shr .u64 (shl .u64 p2_0 (cvt .u64 r_1)) 32), .int .u64 (quo .u64 x_1 (shr .u64 (shl .u64 p2_0 (cvt .u64 r_1)) 32)), .int .u64 x_1, .int .u64 (quo .u64 x_1 (shr .u64 (shl .u64 p2_0 (cvt .u64 r_1)) 32)), .int .u64 (shr .u64 (shl .u64 p2_0 (cvt .u64 r_1)) 32), .int .u64 x_2, .int .u64 (sub .u64 x_1 x_2), (u_8 1), (u_8 2), (u_8 3), (u_8 4), (u_8 5), (u_8 6), (u_8 7), (u_8 8), (u_8 9), (u_8 10), (u_8 11), (u_8 12), (u_8 13), (u_8 14), (u_8 15), (u_8 16), (u_8 17), (u_8 18), (u_8 19), .int .u64 x_1, .int .u64 (mul .u64 x_1 4294967296), .int .u64 (shr .u64 (shl .u64 p1_0 (cvt .u64 r_1)) 32), .int .u64 x_16, .int .u64 q1_2, .int .u64 (shl .u64 p2_0 (cvt .u64 r_1)), .int .u64 (mul .u64 q1_2 (shl .u64 p2_0 (cvt .u64 r_1))), .int .u64 x_17, .int .u64 x_17, .int .u64 (shr .u64 (shl .u64 p2_0 (cvt .u64 r_1)) 32), .int .u64 (quo .u64 x_17 (shr .u64 (shl .u64 p2_0 (cvt .u64 r_1)) 32)), .int .u64 x_17, .int .u64 (quo .u64 x_17 (shr .u64 (shl .u64 p2_0 (cvt .u64 r_1)) 32)), .int .u64 (shr .u64 (shl .u64 p2_0 (cvt .u64 r_1)) 32), .int .u64 x_18, .int .u64 (sub .u64 x_17 x_18), (u_19 0), (u_19 1), (u_19 2), (u_19 3), (u_19 4), (u_19 5), (u_19 6), (u_19 7), (u_19 8), (u_19 9), (u_19 10), .bool x_45, (u_17 12), (u_17 13), (u_17 14), (u_17 15), (u_17 16), (u_17 17), (u_17 18), undef, undef, undef, undef, undef, undef, undef, undef, undef, undef, undef, undef, undef, undef] ∧ LOk w0.heap.size [] F w' ∧ Below w0.heap.size w0 w' ∧ m38_J6 fuel p1_0 p2_0 r_1 q1_2 x_17 rhat_3 q0_3 self_1 x_45 = some r) ?_ ?_
            · refine cw_region ?_
              refine wl_val (v := .int .u64 q0_3) (w' := w_7) (by kernel_rfl) (run_move (v := .int .u64 q0_3) (by kernel_rfl)) ?_
              refine wl_val (v := .bool (ge q0_3 4294967296)) (w' := w_7) (by kernel_rfl) (run_ge (k := .u64) (a := q0_3) (b := 4294967296) (by kernel_rfl) (by kernel_rfl)) ?_
              refine wl_val (v := .bool (ge q0_3 4294967296)) (w' := w_7) (by kernel_rfl) (run_move (v := .bool (ge q0_3 4294967296)) (by kernel_rfl)) ?_
              rcases Bool.eq_false_or_eq_true (ge q0_3 4294967296) with hc_31 | hc_31
              · have hm := ite_t hm hc_31
                refine wl_not (wg (c := (ge q0_3 4294967296)) (want := false) (by kernel_rfl) hc_31 rfl) ?_
                refine wl_not (wg (c := (ge q0_3 4294967296)) (want := false) (by kernel_rfl) hc_31 rfl) ?_
                refine wl_not (wg (c := (ge q0_3 4294967296)) (want := false) (by kernel_rfl) hc_31 rfl) ?_
                refine wl_not (wg (c := (ge q0_3 4294967296)) (want := false) (by kernel_rfl) hc_31 rfl) ?_
                refine wl_not (wg (c := (ge q0_3 4294967296)) (want := false) (by kernel_rfl) hc_31 rfl) ?_
                refine wl_not (wg (c := (ge q0_3 4294967296)) (want := false) (by kernel_rfl) hc_31 rfl) ?_
                refine wl_norm [.int .u64 p0_0, .int .u64 p1_0, .int .u64 (shl .u64 p2_0 (cvt .u64 r_1)), undef, undef, undef, .int .u64 0, .int .u64 0, .int .u64 (cvt .u64 r_1), .int .u64 (shr .u64 (shl .u64 p2_0 (cvt .u64 r_1)) 32), .int .u64 (band .u64 (shl .u64 p2_0 (cvt .u64 r_1)) 4294967295), .int .u64 x_1, .int .u64 (shl .u64 p1_0 (cvt .u64 r_1)), .int .u64 (shr .u64 (shl .u64 p1_0 (cvt .u64 r_1)) 32), .int .u64 (band .u64 (shl .u64 p1_0 (cvt .u64 r_1)) 4294967295), .int .u64 q1_2, .int .u64 rhat_3, .int .u64 x_17, .int .u64 q0_3, (u_1 0), (u_1 1), (u_1 2), (u_2 0), (u_2 1), (u_2 2), (u_2 3), .int .u64 p0_0, .bool (eqi p0_0 0), undef, undef, undef, undef, undef, undef, .int .u64 p2_0, .int .i64 r_1, .int .u64 (cvt .u64 r_1), .int .u64 p2_0, .int .u64 (cvt .u64 r_1), .int .u64 (shl .u64 p2_0 (cvt .u64 r_1)), .int .u64 (shl .u64 p2_0 (cvt .u64 r_1)), .int .u64 (shr .u64 (shl .u64 p2_0 (cvt .u64 r_1)) 32), .int .u64 (shl .u64 p2_0 (cvt .u64 r_1)), .int .u64 (band .u64 (shl .u64 p2_0 (cvt .u64 r_1)) 4294967295), .int .u64 p0_0, .int .u64 (cvt .u64 r_1), .int .u64 (shl .u64 p0_0 (cvt .u64 r_1)), .int .u64 p1_0, .int .u64 (cvt .u64 r_1), .int .u64 (sub .u64 64 (cvt .u64 r_1)), .int .u64 (shr .u64 p1_0 (sub .u64 64 (cvt .u64 r_1))), .int .u64 x_1, .int .u64 p1_0, .int .u64 (cvt .u64 r_1), .int .u64 (shl .u64 p1_0 (cvt .u64 r_1)), .int .u64 (shl .u64 p1_0 (cvt .u64 r_1)), .int .u64 (shr .u64 (shl .u64 p1_0 (cvt .u64 r_1)) 32), .int .u64 (shl .u64 p1_0 (cvt .u64 r_1)), .int .u64 (band .u64 (shl .u64 p1_0 (cvt .u64 r_1)) 4294967295), .int .u64 x_1, .int .u64 (shr .u64 (shl .u64 p2_0 (cvt .u64 r_1)) 32), .int .u64 (quo .u64 x_1 (shr .u64 (shl .u64 p2_0 (cvt .u64 r_1)) 32)), .int .u64 x_1, .int .u64 (quo .u64 x_1 (shr .u64 (shl .u64 p2_0 (cvt .u64 r_1)) 32)), .int .u64 (shr .u64 (shl .u64 p2_0 (cvt .u64 r_1)) 32), .int .u64 x_2, .int .u64 (sub .u64 x_1 x_2), (u_8 1), (u_8 2), (u_8 3), (u_8 4), (u_8 5), (u_8 6), (u_8 7), (u_8 8), (u_8 9), (u_8 10), (u_8 11), (u_8 12), (u_8 13), (u_8 14), (u_8 15), (u_8 16), (u_8 17), (u_8 18), (u_8 19), .int .u64 x_1, .int .u64 (mul .u64 x_1 4294967296), .int .u64 (shr .u64 (shl .u64 p1_0 (cvt .u64 r_1)) 32), .int .u64 x_16, .int .u64 q1_2, .int .u64 (shl .u64 p2_0 (cvt .u64 r_1)), .int .u64 (mul .u64 q1_2 (shl .u64 p2_0 (cvt .u64 r_1))), .int .u64 x_17, .int .u64 x_17, .int .u64 (shr .u64 (shl .u64 p2_0 (cvt .u64 r_1)) 32), .int .u64 (quo .u64 x_17 (shr .u64 (shl .u64 p2_0 (cvt .u64 r_1)) 32)), .int .u64 x_17, .int .u64 (quo .u64 x_17 (shr .u64 (shl .u64 p2_0 (cvt .u64 r_1)) 32)), .int .u64 (shr .u64 (shl .u64 p2_0 (cvt .u64 r_1)) 32), .int .u64 x_18, .int .u64 (sub .u64 x_17 x_18), .int .u64 q0_3, .bool (ge q0_3 4294967296), .bool (ge q0_3 4294967296), undef, undef, undef, undef, undef, undef, (u_17 9), (u_17 10), (u_17 11), (u_17 12), (u_17 13), (u_17 14), (u_17 15), (u_17 16), (u_17 17), (u_17 18), undef, undef, undef, undef, undef, undef, undef, undef, undef, undef, undef, undef, undef, undef] (by kernel_rfl) ?_
                refine wl_not (wg (c := (ge q0_3 4294967296)) (want := false) (by kernel_rfl) hc_31 rfl) ?_
                refine wl_not (wg (c := (ge q0_3 4294967296)) (want := false) (by kernel_rfl) hc_31 rfl) ?_
                refine wl_val (v := .bool true) (w' := w_7) (by kernel_rfl) (run_pick_t (v := .bool true) (tr2 (c := (ge q0_3 4294967296)) (by kernel_rfl) hc_31) (by kernel_rfl)) ?_
                refine wl_nil ?_
                exact then_c ⟨true, (fun i => ([.int .u64 q0_3, .bool (ge q0_3 4294967296), .bool (ge q0_3 4294967296), undef, undef, undef, undef, undef, undef, undef, undef] : List Value).getD i undef), by kernel_rfl, hL, hB, hm⟩
              · have hm := ite_f hm hc_31
                refine wl_val (v := .int .u64 q0_3) (w' := w_7) (wg (c := (ge q0_3 4294967296)) (want := false) (by kernel_rfl) hc_31 rfl) (run_move (v := .int .u64 q0_3) (by kernel_rfl)) ?_
                refine wl_val (v := .int .u64 (band .u64 (shl .u64 p2_0 (cvt .u64 r_1)) 4294967295)) (w' := w_7) (wg (c := (ge q0_3 4294967296)) (want := false) (by kernel_rfl) hc_31 rfl) (run_move (v := .int .u64 (band .u64 (shl .u64 p2_0 (cvt .u64 r_1)) 4294967295)) (by kernel_rfl)) ?_
                obtain ⟨x_47, h_50, hm⟩ := bind_e hm
                refine wl_val (v := .int .u64 x_47) (w' := w_7) (wg (c := (ge q0_3 4294967296)) (want := false) (by kernel_rfl) hc_31 rfl) (by rw [← Option.some.inj h_50]; exact run_mul (k := .u64) (a := q0_3) (b := (band .u64 (shl .u64 p2_0 (cvt .u64 r_1)) 4294967295)) (by kernel_rfl) (by kernel_rfl)) ?_
                refine wl_val (v := .int .u64 rhat_3) (w' := w_7) (wg (c := (ge q0_3 4294967296)) (want := false) (by kernel_rfl) hc_31 rfl) (run_move (v := .int .u64 rhat_3) (by kernel_rfl)) ?_
                refine wl_val (v := .int .u64 (mul .u64 4294967296 rhat_3)) (w' := w_7) (wg (c := (ge q0_3 4294967296)) (want := false) (by kernel_rfl) hc_31 rfl) (run_mul (k := .u64) (a := 4294967296) (b := rhat_3) (by kernel_rfl) (by kernel_rfl)) ?_
                refine wl_val (v := .int .u64 (band .u64 (shl .u64 p1_0 (cvt .u64 r_1)) 4294967295)) (w' := w_7) (wg (c := (ge q0_3 4294967296)) (want := false) (by kernel_rfl) hc_31 rfl) (run_move (v := .int .u64 (band .u64 (shl .u64 p1_0 (cvt .u64 r_1)) 4294967295)) (by kernel_rfl)) ?_
                refine wl_norm [.int .u64 p0_0, .int .u64 p1_0, .int .u64 (shl .u64 p2_0 (cvt .u64 r_1)), undef, undef, undef, .int .u64 0, .int .u64 0, .int .u64 (cvt .u64 r_1), .int .u64 (shr .u64 (shl .u64 p2_0 (cvt .u64 r_1)) 32), .int .u64 (band .u64 (shl .u64 p2_0 (cvt .u64 r_1)) 4294967295), .int .u64 x_1, .int .u64 (shl .u64 p1_0 (cvt .u64 r_1)), .int .u64 (shr .u64 (shl .u64 p1_0 (cvt .u64 r_1)) 32), .int .u64 (band .u64 (shl .u64 p1_0 (cvt .u64 r_1)) 4294967295), .int .u64 q1_2, .int .u64 rhat_3, .int .u64 x_17, .int .u64 q0_3, (u_1 0), (u_1 1), (u_1 2), (u_2 0), (u_2 1), (u_2 2), (u_2 3), .int .u64 p0_0, .bool (eqi p0_0 0), undef, undef, undef, undef, undef, undef, .int .u64 p2_0, .int .i64 r_1, .int .u64 (cvt .u64 r_1), .int .u64 p2_0, .int .u64 (cvt .u64 r_1), .int .u64 (shl .u64 p2_0 (cvt .u64 r_1)), .int .u64 (shl .u64 p2_0 (cvt .u64 r_1)), .int .u64 (shr .u64 (shl .u64 p2_0 (cvt .u64 r_1)) 32), .int .u64 (shl .u64 p2_0 (cvt .u64 r_1)), .int .u64 (band .u64 (shl .u64 p2_0 (cvt .u64 r_1)) 4294967295), .int .u64 p0_0, .int .u64 (cvt .u64 r_1), .int .u64 (shl .u64 p0_0 (cvt .u64 r_1)), .int .u64 p1_0, .int .u64 (cvt .u64 r_1), .int .u64 (sub .u64 64 (cvt .u64 r_1)), .int .u64 (shr .u64 p1_0 (sub .u64 64 (cvt .u64 r_1))), .int .u64 x_1, .int .u64 p1_0, .int .u64 (cvt .u64 r_1), .int .u64 (shl .u64 p1_0 (cvt .u64 r_1)), .int .u64 (shl .u64 p1_0 (cvt .u64 r_1)), .int .u64 (shr .u64 (shl .u64 p1_0 (cvt .u64 r_1)) 32), .int .u64 (shl .u64 p1_0 (cvt .u64 r_1)), .int .u64 (band .u64 (shl .u64 p1_0 (cvt .u64 r_1)) 4294967295), .int .u64 x_1, .int .u64 (shr .u64 (shl .u64 p2_0 (cvt .u64 r_1)) 32), .int .u64 (quo .u64 x_1 (shr .u64 (shl .u64 p2_0 (cvt .u64 r_1)) 32)), .int .u64 x_1, .int .u64 (quo .u64 x_1 (shr .u64 (shl .u64 p2_0 (cvt .u64 r_1)) 32)), .int .u64 (shr .u64 (shl .u64 p2_0 (cvt .u64 r_1)) 32), .int .u64 x_2, .int .u64 (sub .u64 x_1 x_2), (u_8 1), (u_8 2), (u_8 3), (u_8 4), (u_8 5), (u_8 6), (u_8 7), (u_8 8), (u_8 9), (u_8 10), (u_8 11), (u_8 12), (u_8 13), (u_8 14), (u_8 15), (u_8 16), (u_8 17), (u_8 18), (u_8 19), .int .u64 x_1, .int .u64 (mul .u64 x_1 4294967296), .int .u64 (shr .u64 (shl .u64 p1_0 (cvt .u64 r_1)) 32), .int .u64 x_16, .int .u64 q1_2, .int .u64 (shl .u64 p2_0 (cvt .u64 r_1)), .int .u64 (mul .u64 q1_2 (shl .u64 p2_0 (cvt .u64 r_1))), .int .u64 x_17, .int .u64 x_17, .int .u64 (shr .u64 (shl .u64 p2_0 (cvt .u64 r_1)) 32), .int .u64 (quo .u64 x_17 (shr .u64 (shl .u64 p2_0 (cvt .u64 r_1)) 32)), .int .u64 x_17, .int .u64 (quo .u64 x_17 (shr .u64 (shl .u64 p2_0 (cvt .u64 r_1)) 32)), .int .u64 (shr .u64 (shl .u64 p2_0 (cvt .u64 r_1)) 32), .int .u64 x_18, .int .u64 (sub .u64 x_17 x_18), .int .u64 q0_3, .bool (ge q0_3 4294967296), .bool (ge q0_3 4294967296), .int .u64 q0_3, .int .u64 (band .u64 (shl .u64 p2_0 (cvt .u64 r_1)) 4294967295), .int .u64 x_47, .int .u64 rhat_3, .int .u64 (mul .u64 4294967296 rhat_3), .int .u64 (band .u64 (shl .u64 p1_0 (cvt .u64 r_1)) 4294967295), (u_17 9), (u_17 10), (u_17 11), (u_17 12), (u_17 13), (u_17 14), (u_17 15), (u_17 16), (u_17 17), (u_17 18), undef, undef, undef, undef, undef, undef, undef, undef, undef, undef, undef, undef, undef, undef] (by kernel_rfl) ?_
                obtain ⟨x_48, h_51, hm⟩ := bind_e hm
                refine wl_val (v := .int .u64 x_48) (w' := w_7) (wg (c := (ge q0_3 4294967296)) (want := false) (by kernel_rfl) hc_31 rfl) (by rw [← Option.some.inj h_51]; exact run_add (k := .u64) (a := (mul .u64 4294967296 rhat_3)) (b := (band .u64 (shl .u64 p1_0 (cvt .u64 r_1)) 4294967295)) (by kernel_rfl) (by kernel_rfl)) ?_
                refine wl_val (v := .bool (gt x_47 x_48)) (w' := w_7) (wg (c := (ge q0_3 4294967296)) (want := false) (by kernel_rfl) hc_31 rfl) (run_gt (k := .u64) (a := x_47) (b := x_48) (by kernel_rfl) (by kernel_rfl)) ?_
                refine wl_val (v := .bool (gt x_47 x_48)) (w' := w_7) (by kernel_rfl) (run_pick_f (v := .bool (gt x_47 x_48)) (tr2 (c := (ge q0_3 4294967296)) (by kernel_rfl) hc_31) (by kernel_rfl)) ?_
                refine wl_nil ?_
                exact then_c ⟨(gt x_47 x_48), (fun i => ([.int .u64 q0_3, .bool (ge q0_3 4294967296), .bool (ge q0_3 4294967296), .int .u64 q0_3, .int .u64 (band .u64 (shl .u64 p2_0 (cvt .u64 r_1)) 4294967295), .int .u64 x_47, .int .u64 rhat_3, .int .u64 (mul .u64 4294967296 rhat_3), .int .u64 (band .u64 (shl .u64 p1_0 (cvt .u64 r_1)) 4294967295), .int .u64 x_48, .bool (gt x_47 x_48)] : List Value).getD i undef), by kernel_rfl, hL, hB, hm⟩
            · intro l1 w_8 hI
              obtain ⟨x_45, u_19, rfl, hL, hB, hm⟩ := hI
              unfold m38_J6 at hm
              refine cw_cond (t := x_45) (by kernel_rfl) (fun hc_29 => ?_) (fun hc_29 => ?_)
              · have hm := ite_t hm hc_29
                refine cw_skip ?_
                refine then_n ?_
                refine cw_block ?_
                refine cw_seq ?_
                refine cw_region ?_
                refine wl_val (v := .int .u64 q0_3) (w' := w_8) (by kernel_rfl) (run_move (v := .int .u64 q0_3) (by kernel_rfl)) ?_
                refine wl_val (v := .int .u64 (sub .u64 q0_3 1)) (w' := w_8) (by kernel_rfl) (run_sub (k := .u64) (a := q0_3) (b := 1) (by kernel_rfl) (by kernel_rfl)) ?_
                refine wl_val (v := .int .u64 (sub .u64 q0_3 1)) (w' := w_8) (by kernel_rfl) (run_assign (v := .int .u64 (sub .u64 q0_3 1)) (by kernel_rfl)) ?_
                refine wl_nil ?_
                refine then_n ?_
                refine cw_seq ?_
                refine cw_region ?_
                refine wl_val (v := .int .u64 rhat_3) (w' := w_8) (by kernel_rfl) (run_move (v := .int .u64 rhat_3) (by kernel_rfl)) ?_
                refine wl_val (v := .int .u64 (shr .u64 (shl .u64 p2_0 (cvt .u64 r_1)) 32)) (w' := w_8) (by kernel_rfl) (run_move (v := .int .u64 (shr .u64 (shl .u64 p2_0 (cvt .u64 r_1)) 32)) (by kernel_rfl)) ?_
                obtain ⟨x_46, h_49, hm⟩ := bind_e hm
                refine wl_val (v := .int .u64 x_46) (w' := w_8) (by kernel_rfl) (by rw [← Option.some.inj h_49]; exact run_add (k := .u64) (a := rhat_3) (b := (shr .u64 (shl .u64 p2_0 (cvt .u64 r_1)) 32)) (by kernel_rfl) (by kernel_rfl)) ?_
                refine wl_val (v := .int .u64 x_46) (w' := w_8) (by kernel_rfl) (run_assign (v := .int .u64 x_46) (by kernel_rfl)) ?_
                refine wl_nil ?_
                refine then_n ?_
                refine cw_seq ?_
                refine cw_region ?_
                refine wl_val (v := .int .u64 x_46) (w' := w_8) (by kernel_rfl) (run_move (v := .int .u64 x_46) (by kernel_rfl)) ?_
                refine wl_val (v := .bool (ge x_46 4294967296)) (w' := w_8) (by kernel_rfl) (run_ge (k := .u64) (a := x_46) (b := 4294967296) (by kernel_rfl) (by kernel_rfl)) ?_
                refine wl_nil ?_
                refine then_n ?_
                refine cw_cond (t := (ge x_46 4294967296)) (by kernel_rfl) (fun hc_30 => ?_) (fun hc_30 => ?_)
                · have hm := ite_t hm hc_30
                  refine cw_exit ?_
                  refine inBlock_other rfl ?_
                  refine then_exit ?_
                  refine inBlock_same ?_
                  exact then_c ⟨(sub .u64 q0_3 1), (fun i => ([.int .u64 x_46, (u_19 0), (u_19 1), (u_19 2), (u_19 3), (u_19 4), (u_19 5), (u_19 6), (u_19 7), (u_19 8), (u_19 9), (u_19 10), .bool x_45, .int .u64 q0_3, .int .u64 (sub .u64 q0_3 1), .int .u64 rhat_3, .int .u64 (shr .u64 (shl .u64 p2_0 (cvt .u64 r_1)) 32), .int .u64 x_46, .int .u64 x_46, .bool (ge x_46 4294967296)] : List Value).getD i undef), by kernel_rfl, hL, hB, hm⟩
                · have hm := ite_f hm hc_30
                  refine cw_skip ?_
                  refine inBlock_n ?_
                  exact ⟨_, rfl, (x_46, (sub .u64 q0_3 1)), ⟨(fun i => ([(u_19 0), (u_19 1), (u_19 2), (u_19 3), (u_19 4), (u_19 5), (u_19 6), (u_19 7), (u_19 8), (u_19 9), (u_19 10), .bool x_45, .int .u64 q0_3, .int .u64 (sub .u64 q0_3 1), .int .u64 rhat_3, .int .u64 (shr .u64 (shl .u64 p2_0 (cvt .u64 r_1)) 32), .int .u64 x_46, .int .u64 x_46, .bool (ge x_46 4294967296)] : List Value).getD i undef), by kernel_rfl, hL, hB⟩, hm⟩
              · have hm := ite_f hm hc_29
                refine cw_exit ?_
                refine then_exit ?_
                refine then_exit ?_
                refine inBlock_same ?_
                exact then_c ⟨q0_3, (fun i => ([.int .u64 rhat_3, (u_19 0), (u_19 1), (u_19 2), (u_19 3), (u_19 4), (u_19 5), (u_19 6), (u_19 7), (u_19 8), (u_19 9), (u_19 10), .bool x_45, (u_17 12), (u_17 13), (u_17 14), (u_17 15), (u_17 16), (u_17 17), (u_17 18)] : List Value).getD i undef), by kernel_rfl, hL, hB, hm⟩
          · intro l1 w_6 hI
            obtain ⟨q0_2, u_14, rfl, hL, hB, hm⟩ := hI
            unfold m38_J4 at hm
            refine cw_seq ?_
            refine cw_region ?_
            refine wl_val (v := .int .u64 q1_2) (w' := w_6) (by kernel_rfl) (run_move (v := .int .u64 q1_2) (by kernel_rfl)) ?_
            refine wl_val (v := .int .u64 (mul .u64 q1_2 4294967296)) (w' := w_6) (by kernel_rfl) (run_mul (k := .u64) (a := q1_2) (b := 4294967296) (by kernel_rfl) (by kernel_rfl)) ?_
            refine wl_val (v := .int .u64 q0_2) (w' := w_6) (by kernel_rfl) (run_move (v := .int .u64 q0_2) (by kernel_rfl)) ?_
            refine wl_val (v := .int .u64 (add .u64 (mul .u64 q1_2 4294967296) q0_2)) (w' := w_6) (by kernel_rfl) (run_add (k := .u64) (a := (mul .u64 q1_2 4294967296)) (b := q0_2) (by kernel_rfl) (by kernel_rfl)) ?_
            refine wl_val (v := .int .u64 x_17) (w' := w_6) (by kernel_rfl) (run_move (v := .int .u64 x_17) (by kernel_rfl)) ?_
            refine wl_val (v := .int .u64 (mul .u64 x_17 4294967296)) (w' := w_6) (by kernel_rfl) (run_mul (k := .u64) (a := x_17) (b := 4294967296) (by kernel_rfl) (by kernel_rfl)) ?_
            refine wl_val (v := .int .u64 (band .u64 (shl .u64 p1_0 (cvt .u64 r_1)) 4294967295)) (w' := w_6) (by kernel_rfl) (run_move (v := .int .u64 (band .u64 (shl .u64 p1_0 (cvt .u64 r_1)) 4294967295)) (by kernel_rfl)) ?_
            obtain ⟨x_32, h_37, hm⟩ := bind_e hm
            refine wl_val (v := .int .u64 x_32) (w' := w_6) (by kernel_rfl) (by rw [← Option.some.inj h_37]; exact run_add (k := .u64) (a := (mul .u64 x_17 4294967296)) (b := (band .u64 (shl .u64 p1_0 (cvt .u64 r_1)) 4294967295)) (by kernel_rfl) (by kernel_rfl)) ?_
            refine wl_val (v := .int .u64 q0_2) (w' := w_6) (by kernel_rfl) (run_move (v := .int .u64 q0_2) (by kernel_rfl)) ?_
            refine wl_val (v := .int .u64 (shl .u64 p2_0 (cvt .u64 r_1))) (w' := w_6) (by kernel_rfl) (run_move (v := .int .u64 (shl .u64 p2_0 (cvt .u64 r_1))) (by kernel_rfl)) ?_
            refine wl_val (v := .int .u64 (mul .u64 q0_2 (shl .u64 p2_0 (cvt .u64 r_1)))) (w' := w_6) (by kernel_rfl) (run_mul (k := .u64) (a := q0_2) (b := (shl .u64 p2_0 (cvt .u64 r_1))) (by kernel_rfl) (by kernel_rfl)) ?_
            obtain ⟨x_33, h_38, hm⟩ := bind_e hm
            refine wl_val (v := .int .u64 x_33) (w' := w_6) (by kernel_rfl) (by rw [← Option.some.inj h_38]; exact run_sub (k := .u64) (a := x_32) (b := (mul .u64 q0_2 (shl .u64 p2_0 (cvt .u64 r_1)))) (by kernel_rfl) (by kernel_rfl)) ?_
            refine wl_val (v := .int .u64 (cvt .u64 r_1)) (w' := w_6) (by kernel_rfl) (run_move (v := .int .u64 (cvt .u64 r_1)) (by kernel_rfl)) ?_
            obtain ⟨h_39, hm⟩ := need_e hm
            refine wl_val (v := .int .u64 (shr .u64 x_33 (cvt .u64 r_1))) (w' := w_6) (by kernel_rfl) (run_shr (k := .u64) (a := x_33) (k' := .u64) (b := (cvt .u64 r_1)) (by kernel_rfl) (by kernel_rfl) h_39) ?_
            refine wl_norm [.int .u64 p0_0, .int .u64 p1_0, .int .u64 (shl .u64 p2_0 (cvt .u64 r_1)), undef, undef, undef, .int .u64 0, .int .u64 0, .int .u64 (cvt .u64 r_1), .int .u64 (shr .u64 (shl .u64 p2_0 (cvt .u64 r_1)) 32), .int .u64 (band .u64 (shl .u64 p2_0 (cvt .u64 r_1)) 4294967295), .int .u64 x_1, .int .u64 (shl .u64 p1_0 (cvt .u64 r_1)), .int .u64 (shr .u64 (shl .u64 p1_0 (cvt .u64 r_1)) 32), .int .u64 (band .u64 (shl .u64 p1_0 (cvt .u64 r_1)) 4294967295), .int .u64 q1_2, (u_14 0), .int .u64 x_17, .int .u64 q0_2, (u_1 0), (u_1 1), (u_1 2), (u_2 0), (u_2 1), (u_2 2), (u_2 3), .int .u64 p0_0, .bool (eqi p0_0 0), undef, undef, undef, undef, undef, undef, .int .u64 p2_0, .int .i64 r_1, .int .u64 (cvt .u64 r_1), .int .u64 p2_0, .int .u64 (cvt .u64 r_1), .int .u64 (shl .u64 p2_0 (cvt .u64 r_1)), .int .u64 (shl .u64 p2_0 (cvt .u64 r_1)), .int .u64 (shr .u64 (shl .u64 p2_0 (cvt .u64 r_1)) 32), .int .u64 (shl .u64 p2_0 (cvt .u64 r_1)), .int .u64 (band .u64 (shl .u64 p2_0 (cvt .u64 r_1)) 4294967295), .int .u64 p0_0, .int .u64 (cvt .u64 r_1), .int .u64 (shl .u64 p0_0 (cvt .u64 r_1)), .int .u64 p1_0, .int .u64 (cvt .u64 r_1), .int .u64 (sub .u64 64 (cvt .u64 r_1)), .int .u64 (shr .u64 p1_0 (sub .u64 64 (cvt .u64 r_1))), .int .u64 x_1, .int .u64 p1_0, .int .u64 (cvt .u64 r_1), .int .u64 (shl .u64 p1_0 (cvt .u64 r_1)), .int .u64 (shl .u64 p1_0 (cvt .u64 r_1)), .int .u64 (shr .u64 (shl .u64 p1_0 (cvt .u64 r_1)) 32), .int .u64 (shl .u64 p1_0 (cvt .u64 r_1)), .int .u64 (band .u64 (shl .u64 p1_0 (cvt .u64 r_1)) 4294967295), .int .u64 x_1, .int .u64 (shr .u64 (shl .u64 p2_0 (cvt .u64 r_1)) 32), .int .u64 (quo .u64 x_1 (shr .u64 (shl .u64 p2_0 (cvt .u64 r_1)) 32)), .int .u64 x_1, .int .u64 (quo .u64 x_1 (shr .u64 (shl .u64 p2_0 (cvt .u64 r_1)) 32)), .int .u64 (shr .u64 (shl .u64 p2_0 (cvt .u64 r_1)) 32), .int .u64 x_2, .int .u64 (sub .u64 x_1 x_2), (u_8 1), (u_8 2), (u_8 3), (u_8 4), (u_8 5), (u_8 6), (u_8 7), (u_8 8), (u_8 9), (u_8 10), (u_8 11), (u_8 12), (u_8 13), (u_8 14), (u_8 15), (u_8 16), (u_8 17), (u_8 18), (u_8 19), .int .u64 x_1, .int .u64 (mul .u64 x_1 4294967296), .int .u64 (shr .u64 (shl .u64 p1_0 (cvt .u64 r_1)) 32), .int .u64 x_16, .int .u64 q1_2, .int .u64 (shl .u64 p2_0 (cvt .u64 r_1)), .int .u64 (mul .u64 q1_2 (shl .u64 p2_0 (cvt .u64 r_1))), .int .u64 x_17, .int .u64 x_17, .int .u64 (shr .u64 (shl .u64 p2_0 (cvt .u64 r_1)) 32), .int .u64 (quo .u64 x_17 (shr .u64 (shl .u64 p2_0 (cvt .u64 r_1)) 32)), .int .u64 x_17, .int .u64 (quo .u64 x_17 (shr .u64 (shl .u64 p2_0 (cvt .u64 r_1)) 32)), .int .u64 (shr .u64 (shl .u64 p2_0 (cvt .u64 r_1)) 32), .int .u64 x_18, .int .u64 (sub .u64 x_17 x_18), (u_14 1), (u_14 2), (u_14 3), (u_14 4), (u_14 5), (u_14 6), (u_14 7), (u_14 8), (u_14 9), (u_14 10), (u_14 11), (u_14 12), (u_14 13), (u_14 14), (u_14 15), (u_14 16), (u_14 17), (u_14 18), (u_14 19), .int .u64 q1_2, .int .u64 (mul .u64 q1_2 4294967296), .int .u64 q0_2, .int .u64 (add .u64 (mul .u64 q1_2 4294967296) q0_2), .int .u64 x_17, .int .u64 (mul .u64 x_17 4294967296), .int .u64 (band .u64 (shl .u64 p1_0 (cvt .u64 r_1)) 4294967295), .int .u64 x_32, .int .u64 q0_2, .int .u64 (shl .u64 p2_0 (cvt .u64 r_1)), .int .u64 (mul .u64 q0_2 (shl .u64 p2_0 (cvt .u64 r_1))), .int .u64 x_33, .int .u64 (cvt .u64 r_1), .int .u64 (shr .u64 x_33 (cvt .u64 r_1))] (by kernel_rfl) ?_
            refine wl_val (v := .int .u64 (add .u64 (mul .u64 q1_2 4294967296) q0_2)) (w' := w_6) (by kernel_rfl) (run_assign (v := .int .u64 (add .u64 (mul .u64 q1_2 4294967296) q0_2)) (by kernel_rfl)) ?_
            refine wl_val (v := .int .u64 (shr .u64 x_33 (cvt .u64 r_1))) (w' := w_6) (by kernel_rfl) (run_assign (v := .int .u64 (shr .u64 x_33 (cvt .u64 r_1))) (by kernel_rfl)) ?_
            refine wl_nil ?_
            refine then_n ?_
            refine cw_ret ?_
            obtain rfl := Option.some.inj hm
            exact ret2 (v := .int .u64 (add .u64 (mul .u64 q1_2 4294967296) q0_2)) (v' := .int .u64 (shr .u64 x_33 (cvt .u64 r_1))) rfl (resv_tmp (by kernel_rfl)) (resv_tmp (by kernel_rfl)) ⟨_, rfl, by kernel_rfl, hB⟩
end SxYtihfogahdofdmaaDoor

/- Plain laws: products of two words, quotients by a small number. -/
namespace SxYtihfogahdofdmaaDoor
open Go Sx
theorem wu64 (x : Int) : IntKind.u64.wrap x = x % 18446744073709551616 := by
  simp only [IntKind.wrap, IntKind.signed, IntKind.bits]
  simp
theorem wu64' {x : Int} (h1 : 0 ≤ x) (h2 : x < 18446744073709551616) : IntKind.u64.wrap x = x := by rw [wu64]; omega
theorem band_lo {x : Int} (h1 : 0 ≤ x) (h2 : x < 18446744073709551616) : band .u64 x 4294967295 = x % 4294967296 := by
  obtain ⟨n, rfl⟩ := Int.eq_ofNat_of_zero_le h1
  have e : (BitVec.ofInt 64 (n : Int) &&& BitVec.ofInt 64 4294967295).toNat = n % 4294967296 := by
    rw [BitVec.toNat_and]
    have a1 : (BitVec.ofInt 64 (n : Int)).toNat = n := by simp [BitVec.toNat_ofInt]; omega
    have a2 : (BitVec.ofInt 64 4294967295).toNat = 2 ^ 32 - 1 := by decide
    rw [a1, a2, Nat.and_two_pow_sub_one_eq_mod]
  show IntKind.u64.wrap ((BitVec.ofInt 64 (n : Int) &&& BitVec.ofInt 64 4294967295).toNat : Int) = _
  rw [e, wu64' (by omega) (by omega)]
  omega
theorem shr_k {x : Int} (k : Nat) (hk : k ≤ 64) : shr .u64 x (k : Int) = x / 2 ^ k := by
  unfold shr
  simp only [IntKind.bits, Int.toNat_natCast, Nat.min_eq_left hk]
  rw [Int.fdiv_eq_ediv_of_nonneg _ (Int.le_of_lt (Int.pow_pos (by decide)))]
theorem shr_32 {x : Int} (_ : 0 ≤ x) : shr .u64 x 32 = x / 4294967296 := shr_k 32 (by decide)
theorem mul_b {a b : Int} (A B C : Int) (hC : A * B = C) (ha : 0 ≤ a ∧ a ≤ A) (hb : 0 ≤ b ∧ b ≤ B) : 0 ≤ a * b ∧ a * b ≤ C := by
  subst hC
  exact ⟨Int.mul_nonneg ha.1 hb.1, Int.mul_le_mul ha.2 hb.2 hb.1 (by omega)⟩
theorem m36_eq {x y : Int} (hx : 0 ≤ x) (hx' : x < 18446744073709551616) (hy : 0 ≤ y) (hy' : y < 18446744073709551616) :
    m36 64 x y = some (x * y / 18446744073709551616, x * y % 18446744073709551616) := by
  unfold m36
  simp only [band_lo hx hx', band_lo hy hy', shr_32 hx, shr_32 hy, Option.bind_some]
  have bA := mul_b (a := x % 4294967296) (b := y % 4294967296) 4294967295 4294967295 18446744065119617025 (by decide) (by omega) (by omega)
  have bB := mul_b (a := x / 4294967296) (b := y % 4294967296) 4294967295 4294967295 18446744065119617025 (by decide) (by omega) (by omega)
  have bC := mul_b (a := x % 4294967296) (b := y / 4294967296) 4294967295 4294967295 18446744065119617025 (by decide) (by omega) (by omega)
  have bD := mul_b (a := x / 4294967296) (b := y / 4294967296) 4294967295 4294967295 18446744065119617025 (by decide) (by omega) (by omega)
  have hxy : x * y = (x / 4294967296 * (y / 4294967296)) * 18446744073709551616 + (x / 4294967296 * (y % 4294967296) + x % 4294967296 * (y / 4294967296)) * 4294967296 + x % 4294967296 * (y % 4294967296) := by
    have e1 : x = 4294967296 * (x / 4294967296) + x % 4294967296 := by omega
    have e2 : y = 4294967296 * (y / 4294967296) + y % 4294967296 := by omega
    generalize x / 4294967296 = x1 at *
    generalize x % 4294967296 = x0 at *
    generalize y / 4294967296 = y1 at *
    generalize y % 4294967296 = y0 at *
    subst e1 e2
    grind
  unfold add mul
  rw [hxy]
  generalize x % 4294967296 * (y % 4294967296) = A at *
  generalize x / 4294967296 * (y % 4294967296) = B at *
  generalize x % 4294967296 * (y / 4294967296) = C at *
  generalize x / 4294967296 * (y / 4294967296) = D at *
  rw [wu64' (x := A) (by omega) (by omega), wu64' (x := B) (by omega) (by omega), wu64' (x := C) (by omega) (by omega), wu64' (x := D) (by omega) (by omega)]
  rw [shr_32 (x := A) (by omega)]
  rw [wu64' (x := B + A / 4294967296) (by omega) (by omega), band_lo (by omega) (by omega), shr_32 (by omega)]
  rw [wu64' (x := (B + A / 4294967296) % 4294967296 + C) (by omega) (by omega), shr_32 (by omega)]
  rw [wu64' (x := D + (B + A / 4294967296) / 4294967296) (by omega) (by omega)]
  rw [wu64' (x := D + (B + A / 4294967296) / 4294967296 + _) (by omega) (by omega), wu64]
  congr 2
  omega
end SxYtihfogahdofdmaaDoor

/- Plain laws: how many bits a number has; quotients of two words by a small number. -/
namespace SxYtihfogahdofdmaaDoor
open Go Sx
def len8 : List UInt8 := [0, 1, 2, 2, 3, 3, 3, 3, 4, 4, 4, 4, 4, 4, 4, 4, 5, 5, 5, 5, 5, 5, 5, 5, 5, 5, 5, 5, 5, 5, 5, 5, 6, 6, 6, 6, 6, 6, 6, 6, 6, 6, 6, 6, 6, 6, 6, 6, 6, 6, 6, 6, 6, 6, 6, 6, 6, 6, 6, 6, 6, 6, 6, 6, 7, 7, 7, 7, 7, 7, 7, 7, 7, 7, 7, 7, 7, 7, 7, 7, 7, 7, 7, 7, 7, 7, 7, 7, 7, 7, 7, 7, 7, 7, 7, 7, 7, 7, 7, 7, 7, 7, 7, 7, 7, 7, 7, 7, 7, 7, 7, 7, 7, 7, 7, 7, 7, 7, 7, 7, 7, 7, 7, 7, 7, 7, 7, 7, 8, 8, 8, 8, 8, 8, 8, 8, 8, 8, 8, 8, 8, 8, 8, 8, 8, 8, 8, 8, 8, 8, 8, 8, 8, 8, 8, 8, 8, 8, 8, 8, 8, 8, 8, 8, 8, 8, 8, 8, 8, 8, 8, 8, 8, 8, 8, 8, 8, 8, 8, 8, 8, 8, 8, 8, 8, 8, 8, 8, 8, 8, 8, 8, 8, 8, 8, 8, 8, 8, 8, 8, 8, 8, 8, 8, 8, 8, 8, 8, 8, 8, 8, 8, 8, 8, 8, 8, 8, 8, 8, 8, 8, 8, 8, 8, 8, 8, 8, 8, 8, 8, 8, 8, 8, 8, 8, 8, 8, 8, 8, 8, 8, 8, 8, 8, 8, 8, 8, 8, 8, 8, 8, 8, 8, 8, 8, 8]
set_option maxRecDepth 10000 in
theorem len8_spec : ∀ x : Fin 256, ∃ c, len8[x.val]? = some c ∧ c.toNat ≤ 8 ∧ x.val < 2 ^ c.toNat ∧ (x.val = 0 ∨ 2 ^ c.toNat ≤ 2 * x.val) := by
  have h : (List.finRange 256).all (fun x => match len8[x.val]? with | some c => decide (c.toNat ≤ 8 ∧ x.val < 2 ^ c.toNat ∧ (x.val = 0 ∨ 2 ^ c.toNat ≤ 2 * x.val)) | none => false) = true := by decide +kernel
  intro x
  have hx := List.all_eq_true.1 h x (List.mem_finRange x)
  split at hx
  · rename_i c hc
    exact ⟨c, hc, of_decide_eq_true hx⟩
  · cases hx
theorem m74_J3_eq {x n : Int} (h1 : 0 ≤ x) (h2 : x < 256) (hn : 0 ≤ n) (hn' : n ≤ 100) : ∃ c : Nat, m74_J3 64 x n = some (n + c) ∧ c ≤ 8 ∧ x < 2 ^ c ∧ (x = 0 ∨ (2 : Int) ^ c ≤ 2 * x) := by
  obtain ⟨m, rfl⟩ := Int.eq_ofNat_of_zero_le h1
  obtain ⟨c, h3, h4, h5, h6⟩ := len8_spec ⟨m, by omega⟩
  refine ⟨c.toNat, ?_, h4, ?_, ?_⟩
  · have e1 : cvt .u8 (m : Int) = m := wrapu8 (by omega) (by omega)
    have e2 : at? len8 (m : Int) = some c := by
      unfold at?
      rw [if_pos (by omega)]
      exact h3
    show ((at? len8 (cvt .u8 (m : Int))).bind fun b_1 => some (add .i64 n (cvt .i64 (b_1.toNat : Int)))) = _
    rw [e1, e2]
    simp only [Option.bind_some]
    rw [cvt64 (by omega) (by omega)]
    unfold add
    rw [wrap64 (by omega) (by omega)]
  · have : ((m : Nat) : Int) < ((2 ^ c.toNat : Nat) : Int) := by exact_mod_cast h5
    simpa using this
  · rcases h6 with h6 | h6
    · left; simp at h6; omega
    · right
      have : ((2 ^ c.toNat : Nat) : Int) ≤ ((2 * m : Nat) : Int) := by exact_mod_cast h6
      simpa using this
/-- the bits of a number below 2^32 -/
theorem m74_eq {y : Int} (h1 : 1 ≤ y) (h2 : y < 4294967296) : ∃ n : Nat, m74 64 y = some (n : Int) ∧ n ≤ 32 ∧ y < 2 ^ n ∧ (2 : Int) ^ n ≤ 2 * y := by
  have e0 : ge y 4294967296 = false := decide_eq_false (by omega)
  unfold m74
  simp only [e0, Bool.false_eq_true, if_false, m74_J1]
  have p8 : (2 : Int) ^ 8 = 256 := by decide
  have p16 : (2 : Int) ^ 16 = 65536 := by decide
  by_cases q1 : 65536 ≤ y
  · have e1 : ge y 65536 = true := decide_eq_true (by omega)
    have e2 : shr .u64 y 16 = y / 65536 := by have := shr_k (x := y) 16 (by decide); rw [p16] at this; exact this
    have e3 : add .i64 0 16 = 16 := by kernel_rfl
    simp only [e1, if_true, e2, e3, m74_J2]
    by_cases q2 : 256 ≤ y / 65536
    · have e4 : ge (y / 65536) 256 = true := decide_eq_true (by omega)
      have e5 : shr .u64 (y / 65536) 8 = y / 65536 / 256 := by have := shr_k (x := y / 65536) 8 (by decide); rw [p8] at this; exact this
      have e6 : add .i64 16 8 = 24 := by kernel_rfl
      simp only [e4, if_true, e5, e6]
      obtain ⟨c, h3, h4, h5, h6⟩ := m74_J3_eq (x := y / 65536 / 256) (n := 24) (by omega) (by omega) (by omega) (by omega)
      refine ⟨24 + c, by rw [h3]; simp, by omega, ?_, ?_⟩
      · rw [Int.pow_add, show (2 : Int) ^ 24 = 16777216 by decide]; omega
      · rw [Int.pow_add, show (2 : Int) ^ 24 = 16777216 by decide]; omega
    · have e4 : ge (y / 65536) 256 = false := decide_eq_false (by omega)
      simp only [e4, Bool.false_eq_true, if_false]
      obtain ⟨c, h3, h4, h5, h6⟩ := m74_J3_eq (x := y / 65536) (n := 16) (by omega) (by omega) (by omega) (by omega)
      refine ⟨16 + c, by rw [h3]; simp, by omega, ?_, ?_⟩
      · rw [Int.pow_add, p16]; omega
      · rw [Int.pow_add, p16]; omega
  · have e1 : ge y 65536 = false := decide_eq_false (by omega)
    simp only [e1, Bool.false_eq_true, if_false, m74_J2]
    by_cases q2 : 256 ≤ y
    · have e4 : ge y 256 = true := decide_eq_true (by omega)
      have e5 : shr .u64 y 8 = y / 256 := by have := shr_k (x := y) 8 (by decide); rw [p8] at this; exact this
      have e6 : add .i64 0 8 = 8 := by kernel_rfl
      simp only [e4, if_true, e5, e6]
      obtain ⟨c, h3, h4, h5, h6⟩ := m74_J3_eq (x := y / 256) (n := 8) (by omega) (by omega) (by omega) (by omega)
      refine ⟨8 + c, by rw [h3]; simp, by omega, ?_, ?_⟩
      · rw [Int.pow_add, p8]; omega
      · rw [Int.pow_add, p8]; omega
    · have e4 : ge y 256 = false := decide_eq_false (by omega)
      simp only [e4, Bool.false_eq_true, if_false]
      obtain ⟨c, h3, h4, h5, h6⟩ := m74_J3_eq (x := y) (n := 0) (by omega) (by omega) (by omega) (by omega)
      refine ⟨c, by rw [h3]; simp, by omega, h5, ?_⟩
      omega
end SxYtihfogahdofdmaaDoor

/- Plain laws: quotients of two words by a number of at most 32 bits. -/
namespace SxYtihfogahdofdmaaDoor
open Go Sx
theorem m61_eq {y : Int} (h1 : 1 ≤ y) (h2 : y < 4294967296) : ∃ n : Nat, m61 64 y = some (((64 - n : Nat)) : Int) ∧ n ≤ 32 ∧ y < 2 ^ n ∧ (2 : Int) ^ n ≤ 2 * y := by
  obtain ⟨n, h3, h4, h5, h6⟩ := m74_eq h1 h2
  refine ⟨n, ?_, h4, h5, h6⟩
  unfold m61
  rw [h3]
  simp only [Option.bind_some]
  unfold sub
  rw [wrap64 (by omega) (by omega)]
  congr 1
  omega
theorem shl_k {x : Int} (k : Nat) (hk : k ≤ 64) : shl .u64 x (k : Int) = (x * 2 ^ k) % 18446744073709551616 := by
  unfold shl
  simp only [IntKind.bits, Int.toNat_natCast, Nat.min_eq_left hk]
  exact wu64 _
theorem cvtu (x : Int) : cvt .u64 x = x % 18446744073709551616 := wu64 x
theorem ofInt_nat {N : Nat} (h : (N : Int) < 18446744073709551616) : (BitVec.ofInt 64 (N : Int)).toNat = N := by simp; omega
theorem bor_add {a b : Int} (k : Nat) (ha : 0 ≤ a) (hb : 0 ≤ b) (hb' : b < 2 ^ k) (hs : a * 2 ^ k + b < 18446744073709551616) : bor .u64 (a * 2 ^ k) b = a * 2 ^ k + b := by
  obtain ⟨m, rfl⟩ := Int.eq_ofNat_of_zero_le ha
  obtain ⟨n, rfl⟩ := Int.eq_ofNat_of_zero_le hb
  have hc : ((m : Int) * 2 ^ k) = ((m * 2 ^ k : Nat) : Int) := by simp
  have hn : n < 2 ^ k := by exact_mod_cast hb'
  have hs' : ((m * 2 ^ k : Nat) : Int) + (n : Int) < 18446744073709551616 := by rw [← hc]; exact hs
  have e : (BitVec.ofInt 64 ((m * 2 ^ k : Nat) : Int) ||| BitVec.ofInt 64 (n : Int)).toNat = m * 2 ^ k + n := by
    rw [BitVec.toNat_or]
    have a1 := ofInt_nat (N := m * 2 ^ k) (by omega)
    have a2 := ofInt_nat (N := n) (by omega)
    rw [a1, a2, ← Nat.shiftLeft_eq, Nat.shiftLeft_add_eq_or_of_lt hn]
  rw [hc]
  show IntKind.u64.wrap ((BitVec.ofInt 64 ((m * 2 ^ k : Nat) : Int) ||| BitVec.ofInt 64 (n : Int)).toNat : Int) = _
  rw [e, wu64' (by omega) (by omega)]
  simp
theorem quou {a b : Int} (ha : 0 ≤ a) (ha' : a < 18446744073709551616) (hb : 0 < b) : quo .u64 a b = a / b := by
  unfold quo
  rw [Int.tdiv_eq_ediv_of_nonneg ha, wu64' (Int.ediv_nonneg ha (by omega))]
  exact Int.lt_of_le_of_lt (Int.ediv_le_self b ha) ha'
theorem remu {a b : Int} (ha : 0 ≤ a) : rem a b = a % b := by
  unfold rem
  rw [Int.tmod_eq_emod_of_nonneg ha]
theorem loopF64 {σ R : Type} (F : (σ → Option R) → σ → Option R) (s : σ) : loopF F 64 s = F (loopF F 63) s := rfl
set_option maxHeartbeats 4000000 in
theorem m38_eq {hi lo y : Int} (h1 : 1 ≤ y) (h2 : y < 4294967296) (hh : 0 ≤ hi) (hhy : hi < y) (hl : 0 ≤ lo) (hl' : lo < 18446744073709551616) :
    m38 64 hi lo y = some ((hi * 18446744073709551616 + lo) / y, (hi * 18446744073709551616 + lo) % y) := by
  have e0 : eqi y 0 = false := by simp [eqi]; omega
  have e1 : le y hi = false := decide_eq_false (by omega)
  have e2 : nei y 0 = true := by simp [nei]; omega
  unfold m38
  simp only [e0, Bool.false_eq_true, if_false, m38_J1, e1, m38_J2]
  by_cases hz : hi = 0
  · subst hz
    have e3 : eqi 0 0 = true := rfl
    simp only [e3, if_true, need, e2, quou hl hl' (by omega : 0 < y), remu hl]
    simp
  · have e3 : eqi hi 0 = false := by simp [eqi]; omega
    obtain ⟨n, hs, hn, hy1, hy2⟩ := m61_eq h1 h2
    simp only [e3, Bool.false_eq_true, if_false, hs, Option.bind_some]
    -- the shift
    have es : cvt .u64 (((64 - n : Nat)) : Int) = ((64 - n : Nat) : Int) := by rw [cvtu]; omega
    have et : sub .u64 64 ((64 - n : Nat) : Int) = ((n : Nat) : Int) := by
      unfold sub
      rw [wu64' (by omega) (by omega)]
      omega
    have g1 : ge ((64 - n : Nat) : Int) 0 = true := decide_eq_true (by omega)
    have g2 : ge ((n : Nat) : Int) 0 = true := decide_eq_true (by omega)
    simp only [es, et, g1, g2, need, if_true]
    -- T = 2^n, K = 2^(32-n), P = 2^(64-n)
    obtain ⟨T, hT⟩ : ∃ T : Int, T = 2 ^ n := ⟨_, rfl⟩
    obtain ⟨K, hK⟩ : ∃ K : Int, K = 2 ^ (32 - n) := ⟨_, rfl⟩
    have hT0 : 0 < T := by rw [hT]; exact Int.pow_pos (by decide)
    have hK0 : 0 < K := by rw [hK]; exact Int.pow_pos (by decide)
    have hTK : T * K = 4294967296 := by
      rw [hT, hK, ← Int.pow_add, show n + (32 - n) = 32 by omega]; decide
    have hP : (2 : Int) ^ (64 - n) = K * 4294967296 := by
      rw [hK, show (4294967296 : Int) = 2 ^ 32 by decide, ← Int.pow_add, show 32 - n + 32 = 64 - n by omega]
    rw [← hT] at hy1 hy2
    have hTP : T * (K * 4294967296) = 18446744073709551616 := by grind
    have hYK1 : y * K < 4294967296 := by rw [← hTK]; exact Int.mul_lt_mul_of_pos_right hy1 hK0
    have hYK2 : 2147483648 ≤ y * K := by
      have : T * K ≤ 2 * y * K := Int.mul_le_mul_of_nonneg_right hy2 (by omega)
      rw [hTK] at this
      grind
    have eY : shl .u64 y ((64 - n : Nat) : Int) = (y * K) * 4294967296 := by
      rw [shl_k _ (by omega), hP, ← Int.mul_assoc]
      omega
    obtain ⟨Z, hZ⟩ : ∃ Z : Int, Z = y * K := ⟨_, rfl⟩
    rw [← hZ] at hYK1 hYK2 eY
    have eYn1 : shr .u64 (Z * 4294967296) 32 = Z := by rw [shr_32 (by omega)]; omega
    have eYn0 : band .u64 (Z * 4294967296) 4294967295 = 0 := by rw [band_lo (by omega) (by omega)]; omega
    -- lo in its two pieces
    have eLo1 : shr .u64 lo ((n : Nat) : Int) = lo / T := by rw [shr_k n (by omega), ← hT]
    have eLo2 : shl .u64 lo ((64 - n : Nat) : Int) = (lo % T) * (K * 4294967296) := by
      rw [shl_k _ (by omega), hP, ← hTP, Int.mul_comm lo, Int.mul_comm T, Int.mul_emod_mul_of_pos _ _ (by omega : 0 < K * 4294967296), Int.mul_comm]
    have bLo1 : 0 ≤ lo / T := Int.ediv_nonneg hl (by omega)
    have bLo1' : lo / T < K * 4294967296 := Int.ediv_lt_of_lt_mul hT0 (by rw [Int.mul_comm, hTP]; exact hl')
    have bHi : hi * (K * 4294967296) + lo / T < Z * 4294967296 := by
      have : (hi + 1) * (K * 4294967296) ≤ y * (K * 4294967296) := Int.mul_le_mul_of_nonneg_right (by omega) (by omega)
      rw [hZ]
      grind
    have eHi : shl .u64 hi ((64 - n : Nat) : Int) = hi * (K * 4294967296) := by
      rw [shl_k _ (by omega), hP]
      have : 0 ≤ hi * (K * 4294967296) := Int.mul_nonneg hh (by omega)
      omega
    have eU : bor .u64 (shl .u64 hi ((64 - n : Nat) : Int)) (shr .u64 lo ((n : Nat) : Int)) = hi * (K * 4294967296) + lo / T := by
      rw [eHi, eLo1, ← hP]
      rw [← hP] at bLo1' bHi
      exact bor_add _ hh bLo1 bLo1' (by omega)
    have bU0 : 0 ≤ hi * (K * 4294967296) + lo / T := Int.add_nonneg (Int.mul_nonneg hh (by omega)) bLo1
    have bV0 : 0 ≤ (lo % T) * (K * 4294967296) := Int.mul_nonneg (Int.emod_nonneg _ (by omega)) (by omega)
    have bV1 : (lo % T) * (K * 4294967296) < 18446744073709551616 := by
      rw [← hTP]
      exact Int.mul_lt_mul_of_pos_right (Int.emod_lt_of_pos _ hT0) (by omega)
    obtain ⟨V, hV⟩ : ∃ V : Int, V = (lo % T) * (K * 4294967296) := ⟨_, rfl⟩
    obtain ⟨U, hU⟩ : ∃ U : Int, U = hi * (K * 4294967296) + lo / T := ⟨_, rfl⟩
    rw [← hV] at eLo2 bV0 bV1
    rw [← hU] at eU bHi bU0
    have hsum : (hi * 18446744073709551616 + lo) * (K * 4294967296) = U * 18446744073709551616 + V := by
      have : lo = T * (lo / T) + lo % T := by have := Int.mul_ediv_add_emod lo T; omega
      rw [hU, hV]
      generalize lo / T = a at *
      generalize lo % T = b at *
      subst this
      rw [← hTP]
      grind
    -- the first digit
    have hq1 : U = Z * (U / Z) + U % Z := by have := Int.mul_ediv_add_emod U Z; omega
    have hr1 : 0 ≤ U % Z ∧ U % Z < Z := ⟨Int.emod_nonneg _ (by omega), Int.emod_lt_of_pos _ (by omega)⟩
    have hq1' : 0 ≤ U / Z ∧ U / Z < 4294967296 := ⟨Int.ediv_nonneg bU0 (by omega), Int.ediv_lt_of_lt_mul (by omega) (by rw [Int.mul_comm]; exact bHi)⟩
    have en : nei Z 0 = true := by simp [nei]; omega
    have eq1 : quo .u64 U Z = U / Z := quou bU0 (by omega) (by omega)
    simp only [eU, eY, eYn1, eYn0, eLo2, en, eq1, if_true, Option.bind_some]
    obtain ⟨q1, hq1d⟩ : ∃ q, q = U / Z := ⟨_, rfl⟩
    obtain ⟨r1, hr1d⟩ : ∃ r, r = U % Z := ⟨_, rfl⟩
    rw [← hq1d, ← hr1d] at hq1
    rw [← hr1d] at hr1
    rw [← hq1d] at hq1'
    simp only [← hq1d]
    have bZq1 : 0 ≤ Z * q1 := Int.mul_nonneg (by omega) hq1'.1
    have c1 : q1 * Z = Z * q1 := Int.mul_comm _ _
    have m1 : mul .u64 q1 Z = Z * q1 := by unfold mul; rw [c1, wu64' (by omega) (by omega)]
    have s1 : sub .u64 U (Z * q1) = r1 := by unfold sub; rw [wu64' (by omega) (by omega)]; omega
    have lg1 : ge q1 4294967296 = false := decide_eq_false (by omega)
    have m0 : mul .u64 q1 0 = 0 := by unfold mul; rw [Int.mul_zero]; rfl
    have eV1 : shr .u64 V 32 = V / 4294967296 := shr_32 bV0
    have eV0 : band .u64 V 4294967295 = V % 4294967296 := band_lo bV0 bV1
    have lz : ∀ x : Int, gt 0 (add .u64 (mul .u64 4294967296 x) (V / 4294967296)) = false := fun x => by
      apply decide_eq_false
      unfold add
      rw [wu64]
      omega
    rw [m1, s1]
    simp only [loopF64, es, m38_L7, lg1, Bool.false_eq_true, if_false, eYn0, m0, eV1, Option.bind_some, lz, m38_J8, m38_J3, en, need, if_true, eYn1, eLo2, eY]
    -- the second digit
    have mY1 : mul .u64 q1 (Z * 4294967296) = (Z * q1 * 4294967296) % 18446744073709551616 := by
      unfold mul; rw [wu64, ← Int.mul_assoc, c1]
    have mU : mul .u64 U 4294967296 = (U * 4294967296) % 18446744073709551616 := by unfold mul; rw [wu64]
    have hW : sub .u64 (add .u64 (mul .u64 U 4294967296) (V / 4294967296)) (mul .u64 q1 (Z * 4294967296)) = r1 * 4294967296 + V / 4294967296 := by
      rw [mY1, mU]
      unfold sub add
      rw [wu64, wu64]
      generalize Z * q1 = A at *
      omega
    obtain ⟨W, hWd⟩ : ∃ W : Int, W = r1 * 4294967296 + V / 4294967296 := ⟨_, rfl⟩
    rw [← hWd] at hW
    have bW : 0 ≤ W ∧ W < Z * 4294967296 := by omega
    rw [hW]
    have eq0 : quo .u64 W Z = W / Z := quou (by omega) (by omega) (by omega)
    simp only [eq0]
    have hq0 : W = Z * (W / Z) + W % Z := by have := Int.mul_ediv_add_emod W Z; omega
    have hr0 : 0 ≤ W % Z ∧ W % Z < Z := ⟨Int.emod_nonneg _ (by omega), Int.emod_lt_of_pos _ (by omega)⟩
    have hq0' : 0 ≤ W / Z ∧ W / Z < 4294967296 := ⟨Int.ediv_nonneg bW.1 (by omega), Int.ediv_lt_of_lt_mul (by omega) (by rw [Int.mul_comm]; exact bW.2)⟩
    obtain ⟨q0, hq0d⟩ : ∃ q, q = W / Z := ⟨_, rfl⟩
    obtain ⟨r0, hr0d⟩ : ∃ r, r = W % Z := ⟨_, rfl⟩
    rw [← hq0d, ← hr0d] at hq0
    rw [← hr0d] at hr0
    rw [← hq0d] at hq0'
    simp only [← hq0d]
    have bZq0 : 0 ≤ Z * q0 := Int.mul_nonneg (by omega) hq0'.1
    have c0 : q0 * Z = Z * q0 := Int.mul_comm _ _
    have lg0 : ge q0 4294967296 = false := decide_eq_false (by omega)
    have m00 : mul .u64 q0 0 = 0 := by unfold mul; rw [Int.mul_zero]; rfl
    have lz0 : ∀ x : Int, gt 0 (add .u64 (mul .u64 4294967296 x) (V % 4294967296)) = false := fun x => by
      apply decide_eq_false
      unfold add
      rw [wu64]
      omega
    simp only [loopF64, es, m38_L5, lg0, Bool.false_eq_true, if_false, eYn0, m00, eV0, eLo2, eY, Option.bind_some, lz0, m38_J6, m38_J4, es, g1, need, if_true]
    have mY0 : mul .u64 q0 (Z * 4294967296) = (Z * q0 * 4294967296) % 18446744073709551616 := by
      unfold mul; rw [wu64, ← Int.mul_assoc, c0]
    have mW : mul .u64 W 4294967296 = (W * 4294967296) % 18446744073709551616 := by unfold mul; rw [wu64]
    have hR : sub .u64 (add .u64 (mul .u64 W 4294967296) (V % 4294967296)) (mul .u64 q0 (Z * 4294967296)) = r0 * 4294967296 + V % 4294967296 := by
      rw [mY0, mW]
      unfold sub add
      rw [wu64, wu64]
      generalize Z * q0 = A at *
      omega
    have hQ : add .u64 (mul .u64 q1 4294967296) q0 = q1 * 4294967296 + q0 := by
      unfold add mul
      rw [wu64' (x := q1 * 4294967296) (by omega) (by omega), wu64' (by omega) (by omega)]
    rw [hR, hQ, shr_k (64 - n) (by omega), hP]
    -- all of it
    have hall : (hi * 18446744073709551616 + lo) * (K * 4294967296) = y * (q1 * 4294967296 + q0) * (K * 4294967296) + (r0 * 4294967296 + V % 4294967296) := by
      rw [hsum]
      have eV : V = 4294967296 * (V / 4294967296) + V % 4294967296 := by omega
      generalize V / 4294967296 = V1 at *
      generalize V % 4294967296 = V0 at *
      rw [eV, hq1]
      have : U = Z * q1 + r1 := hq1
      have h3 : r1 * 4294967296 + V1 = Z * q0 + r0 := by omega
      have h4 : Z * q1 + r1 = Z * q1 + r1 := rfl
      subst hZ
      have h5 : r1 * 18446744073709551616 + 4294967296 * V1 = (y * K * q0 + r0) * 4294967296 := by omega
      grind
    have hdiv : r0 * 4294967296 + V % 4294967296 = (hi * 18446744073709551616 + lo - y * (q1 * 4294967296 + q0)) * (K * 4294967296) := by
      rw [Int.sub_mul, hall]; omega
    have hquot : (r0 * 4294967296 + V % 4294967296) / (K * 4294967296) = hi * 18446744073709551616 + lo - y * (q1 * 4294967296 + q0) := by
      rw [hdiv, Int.mul_ediv_cancel _ (by omega : K * 4294967296 ≠ 0)]
    have hb : 0 ≤ r0 * 4294967296 + V % 4294967296 ∧ r0 * 4294967296 + V % 4294967296 < y * (K * 4294967296) := by
      rw [← Int.mul_assoc, ← hZ]; omega
    rw [hquot]
    have hlt : hi * 18446744073709551616 + lo - y * (q1 * 4294967296 + q0) < y := by
      rw [hdiv] at hb
      exact Int.lt_of_mul_lt_mul_right hb.2 (by omega)
    have hge : 0 ≤ hi * 18446744073709551616 + lo - y * (q1 * 4294967296 + q0) := by
      rw [← hquot]
      exact Int.ediv_nonneg hb.1 (by omega)
    generalize hi * 18446744073709551616 + lo = X at *
    generalize q1 * 4294967296 + q0 = q at *
    have hX : X = (X - y * q) + y * q := by omega
    congr 2
    · have : X / y = (X - y * q) / y + q := by
        conv => lhs; rw [hX]
        rw [Int.add_mul_ediv_left _ _ (by omega : y ≠ 0)]
      rw [this, Int.ediv_eq_zero_of_lt hge hlt]
      omega
    · have : X % y = (X - y * q) % y := by
        conv => lhs; rw [hX]
        rw [Int.add_mul_emod_self_left]
      rw [this, Int.emod_eq_of_lt hge hlt]
end SxYtihfogahdofdmaaDoor

/- Written by program (gen.py): the model of saucier/units.Times, and the proof that its code computes it. -/
namespace SxYtihfogahdofdmaaDoor
open Go Go.RowKit Sx Go.Proofs
set_option linter.unusedVariables false
set_option linter.unusedSimpArgs false
attribute [local irreducible] WL WX CW OW
/-! ### 13: "saucier/units.Times" -/
def m13_J4 (fuel : Nat) (places_2 : Int) (n_2 : Int) : Option (TDec × Bool) :=
  some ((⟨n_2, places_2⟩ : TDec), true)
def m13_J3 (fuel : Nat) (p0_0 : TDec) (q_2 : Int) (places_2 : Int) : Option (TDec × Bool) :=
  if (gt q_2 1000000000000) then (some ((⟨0, 0⟩ : TDec), false)) else (if (lt p0_0.N 0) then (m13_J4 fuel places_2 (neg .i64 (cvt .i64 q_2))) else (m13_J4 fuel places_2 (cvt .i64 q_2)))
def m13_J6 (fuel : Nat) (p0_0 : TDec) (q_3 : Int) (places_3 : Int) (self_1 : ((Int × Int) → Option (TDec × Bool))) (x_7 : Bool) : Option (TDec × Bool) :=
  if x_7 then (self_1 ((quo .u64 q_3 10), (sub .u8 places_3 1))) else (m13_J3 fuel p0_0 q_3 places_3)
def m13_L5 (fuel : Nat) (p0_0 : TDec) (self_1 : Int × Int → Option (TDec × Bool)) : Int × Int → Option (TDec × Bool) := fun (q_3, places_3) =>
  if (gt places_3 0) then (m13_J6 fuel p0_0 q_3 places_3 self_1 (eqi (rem q_3 10) 0)) else (m13_J6 fuel p0_0 q_3 places_3 self_1 false)
def m13_J2 (fuel : Nat) (p0_0 : TDec) (p1_0 : Int) (p2_0 : Int) (n_1 : Int) : Option (TDec × Bool) :=
  (m37 fuel (sub .i64 6 (cvt .i64 p0_0.D))).bind fun r_2 => (m36 fuel (cvt .u64 (mul .i64 n_1 r_2)) (cvt .u64 p1_0)).bind fun r_3 => if (ge r_3.1 (cvt .u64 p2_0)) then (some ((⟨0, 0⟩ : TDec), false)) else ((m38 fuel r_3.1 r_3.2 (cvt .u64 p2_0)).bind fun r_4 => if (nei r_4.2 0) then (some ((⟨0, 0⟩ : TDec), false)) else (loopF (m13_L5 fuel p0_0) fuel (r_4.1, 6)))
def m13_J1 (fuel : Nat) (p0_0 : TDec) (p1_0 : Int) (p2_0 : Int) (x_1 : Bool) : Option (TDec × Bool) :=
  if x_1 then (some ((⟨0, 0⟩ : TDec), false)) else (if (lt p0_0.N 0) then (m13_J2 fuel p0_0 p1_0 p2_0 (neg .i64 p0_0.N)) else (m13_J2 fuel p0_0 p1_0 p2_0 p0_0.N))
def m13 (fuel : Nat) (p0_0 : TDec) (p1_0 : Int) (p2_0 : Int) : Option (TDec × Bool) :=
  (m14 fuel p0_0).bind fun r_5 => if r_5 then (if (lt p1_0 1) then (m13_J1 fuel p0_0 p1_0 p2_0 true) else (if (gt p1_0 1000000000) then (m13_J1 fuel p0_0 p1_0 p2_0 true) else (if (lt p2_0 1) then (m13_J1 fuel p0_0 p1_0 p2_0 true) else (m13_J1 fuel p0_0 p1_0 p2_0 (gt p2_0 1000000000))))) else (m13_J1 fuel p0_0 p1_0 p2_0 true)
@[reducible] def Q13 (F : Lx) (w0 : World) (r : (TDec × Bool)) (v : Value) (w' : World) : Prop := v = .tuple #[.agg #[.int .i64 r.1.N, .int .u8 r.1.D], .bool r.2] ∧ Below w0.heap.size w0 w'
set_option maxRecDepth 100000 in
set_option maxHeartbeats 4000000 in
theorem f13_ok (fuel : Nat) (F : Lx) (w0 : World) (hF : ∀ k, some k ∈ F → k < w0.heap.size) {p0_0 : TDec} {p1_0 : Int} {p2_0 : Int} {r : (TDec × Bool)} (hm : m13 fuel p0_0 p1_0 p2_0 = some r) :
    Calls Tryd.prog 13 #[.agg #[.int .i64 p0_0.N, .int .u8 p0_0.D], .int .i64 p1_0, .int .i64 p2_0] w0 (fun e w' => ∃ v, e = .returned v ∧ Q13 F w0 r v w') := by
  have hPF : PF (bodyPost Tryd.prog Tryd.f13 (fun e w' => ∃ v, e = .returned v ∧ Q13 F w0 r v w')) := PF.body (fun c w h => by obtain ⟨v, e, _⟩ := h; cases e)
  have hL := LOk.start hF
  have hB := Below.refl w0.heap.size w0
  unfold m13 at hm
  refine enter (l := [.agg #[.int .i64 p0_0.N, .int .u8 p0_0.D], .int .i64 p1_0, .int .i64 p2_0, undef, undef, undef, undef, undef, undef, undef, undef, undef, undef, undef, undef, undef, undef, undef, undef, undef, undef, undef, undef, undef, undef, undef, undef, undef, undef, undef, undef, undef, undef, undef, undef, undef, undef, undef, undef, undef, undef, undef, undef, undef, undef, undef, undef, undef, undef, undef, undef, undef, undef, undef, undef, undef, undef, undef, undef, undef, undef, undef, undef, undef, undef, undef, undef, undef, undef, undef, undef, undef, undef, undef, undef, undef, undef, undef, undef, undef, undef, undef, undef, undef, undef, undef, undef, undef, undef, undef, undef, undef, undef, undef]) Tryd.func13 rfl Tryd.ntmps13 (by kernel_rfl) ?_
  refine cw_seq ?_
  refine cw_region ?_
  refine wl_op (by kernel_rfl) (ow_box' (v := .agg #[.int .i64 p0_0.N, .int .u8 p0_0.D]) (vs := [.int .i64 p0_0.N, .int .u8 p0_0.D]) (by kernel_rfl) rfl hL ?_)
  intro g_1 w_1 hS h_1
  replace hB := hS.below hL hB
  replace hL := hS.hL
  refine wl_op (by kernel_rfl) (ow_alloc' (z := .agg #[.int .i64 0, .int .u8 0]) (vs := [.int .i64 0, .int .u8 0]) (by kernel_rfl) rfl hL ?_)
  intro g_2 w_2 hS h_2
  replace h_1 := hS.box h_1 nilN
  replace hB := hS.below hL hB
  replace hL := hS.hL
  refine wl_val (v := .bool false) (w' := w_2) (by kernel_rfl) (run_assign (v := .bool false) (by kernel_rfl)) ?_
  refine wl_nil ?_
  refine then_n ?_
  refine cw_seq ?_
  refine cw_cut (fun l' w' => ∃ x_1, ∃ u_1 : Nat → Value, l' = [.agg #[.int .i64 p0_0.N, .int .u8 p0_0.D], .int .i64 p1_0, .int .i64 p2_0, .pointer (some ⟨g_1, 0, none⟩), undef, undef, .pointer (some ⟨g_2, 0, none⟩), .bool false, undef, undef, undef, undef, undef, undef, (u_1 0), (u_1 1), (u_1 2), (u_1 3), (u_1 4), (u_1 5), (u_1 6), (u_1 7), (u_1 8), (u_1 9), (u_1 10), (u_1 11), (u_1 12), (u_1 13), (u_1 14), (u_1 15), (u_1 16), (u_1 17), .bool x_1, undef, undef, undef, undef, undef, undef, undef, undef, undef, undef, undef, undef, undef, undef, undef, undef, undef, undef, undef, undef, undef, undef, undef, undef, undef, undef, undef, undef, undef, undef, undef, undef, undef, undef, undef, undef, undef, undef, undef, undef, undef, undef, undef, undef, undef, undef, undef, undef, undef, undef, undef, undef, undef, undef, undef, undef, undef, undef, undef, undef, undef] ∧ LOk w0.heap.size [some g_2, some g_1] F w' ∧ Below w0.heap.size w0 w' ∧ Bx w' g_1 [.int .i64 p0_0.N, .int .u8 p0_0.D] 23 ∧ Bx w' g_2 [.int .i64 0, .int .u8 0] 23 ∧ m13_J1 fuel p0_0 p1_0 p2_0 x_1 = some r) ?_ ?_
  · refine cw_region ?_
    refine wl_val (v := .agg #[.int .i64 p0_0.N, .int .u8 p0_0.D]) (w' := w_2) (by kernel_rfl) (run_load_boxn (j := 0) (vs := [.int .i64 p0_0.N, .int .u8 p0_0.D]) Tryd.underlying23 rfl sz_23 (by kernel_rfl) h_1 (by kernel_rfl) rfl) ?_
    obtain ⟨r_5, h_12, hm⟩ := bind_e hm
    refine wl_op (by kernel_rfl) (ow_enter (run_callf (vs := [.agg #[.int .i64 p0_0.N, .int .u8 p0_0.D]]) Tryd.func14 nm_14 (by kernel_rfl) (by kernel_rfl)) (f14_ok (p0_0 := p0_0) fuel _ w_2 hL.lt  h_12) ?_)
    intro vR w_18 hR
    obtain ⟨rfl, hBe⟩ := hR
    have hS := Stp.call hL (Fz.of_below hBe [])
    replace h_1 := hS.box h_1 nilN
    replace h_2 := hS.box h_2 nilN
    replace hB := hS.below hL hB
    replace hL := hS.hL
    refine wl_val (v := .bool (!r_5)) (w' := w_18) (by kernel_rfl) (run_not (b := r_5) (by kernel_rfl)) ?_
    refine wl_val (v := .bool (!r_5)) (w' := w_18) (by kernel_rfl) (run_move (v := .bool (!r_5)) (by kernel_rfl)) ?_
    rcases Bool.eq_false_or_eq_true r_5 with hc_26 | hc_26
    · have hm := ite_t hm hc_26
      refine wl_val (v := .int .i64 p1_0) (w' := w_18) (wg (c := (!r_5)) (want := false) (by kernel_rfl) (not_t hc_26) rfl) (run_move (v := .int .i64 p1_0) (by kernel_rfl)) ?_
      refine wl_val (v := .bool (lt p1_0 1)) (w' := w_18) (wg (c := (!r_5)) (want := false) (by kernel_rfl) (not_t hc_26) rfl) (run_lt (k := .i64) (a := p1_0) (b := 1) (by kernel_rfl) (by kernel_rfl)) ?_
      refine wl_val (v := .bool (lt p1_0 1)) (w' := w_18) (by kernel_rfl) (run_pick_f (v := .bool (lt p1_0 1)) (tr2 (c := (!r_5)) (by kernel_rfl) (not_t hc_26)) (by kernel_rfl)) ?_
      refine wl_val (v := .bool (lt p1_0 1)) (w' := w_18) (by kernel_rfl) (run_move (v := .bool (lt p1_0 1)) (by kernel_rfl)) ?_
      rcases Bool.eq_false_or_eq_true (lt p1_0 1) with hc_27 | hc_27
      · have hm := ite_t hm hc_27
        refine wl_not0 (wg (c := (lt p1_0 1)) (want := false) (by kernel_rfl) hc_27 rfl) (by kernel_rfl) ?_
        refine wl_not0 (wg (c := (lt p1_0 1)) (want := false) (by kernel_rfl) hc_27 rfl) (by kernel_rfl) ?_
        refine wl_val (v := .bool true) (w' := w_18) (by kernel_rfl) (run_pick_t (v := .bool true) (tr2 (c := (lt p1_0 1)) (by kernel_rfl) hc_27) (by kernel_rfl)) ?_
        refine wl_val (v := .bool true) (w' := w_18) (by kernel_rfl) (run_move (v := .bool true) (by kernel_rfl)) ?_
        refine wl_norm [.agg #[.int .i64 p0_0.N, .int .u8 p0_0.D], .int .i64 p1_0, .int .i64 p2_0, .pointer (some ⟨g_1, 0, none⟩), undef, undef, .pointer (some ⟨g_2, 0, none⟩), .bool false, undef, undef, undef, undef, undef, undef, .agg #[.int .i64 p0_0.N, .int .u8 p0_0.D], .bool r_5, .bool (!r_5), .bool (!r_5), .int .i64 p1_0, .bool (lt p1_0 1), .bool (lt p1_0 1), .bool (lt p1_0 1), undef, undef, .bool true, .bool true, undef, undef, undef, undef, undef, undef, undef, undef, undef, undef, undef, undef, undef, undef, undef, undef, undef, undef, undef, undef, undef, undef, undef, undef, undef, undef, undef, undef, undef, undef, undef, undef, undef, undef, undef, undef, undef, undef, undef, undef, undef, undef, undef, undef, undef, undef, undef, undef, undef, undef, undef, undef, undef, undef, undef, undef, undef, undef, undef, undef, undef, undef, undef, undef, undef, undef, undef, undef] (by kernel_rfl) ?_
        refine wl_not0 (by kernel_rfl) (by kernel_rfl) ?_
        refine wl_not0 (by kernel_rfl) (by kernel_rfl) ?_
        refine wl_val (v := .bool true) (w' := w_18) (by kernel_rfl) (run_pick_t (v := .bool true) (by kernel_rfl) (by kernel_rfl)) ?_
        refine wl_val (v := .bool true) (w' := w_18) (by kernel_rfl) (run_move (v := .bool true) (by kernel_rfl)) ?_
        refine wl_not0 (by kernel_rfl) (by kernel_rfl) ?_
        refine wl_not0 (by kernel_rfl) (by kernel_rfl) ?_
        refine wl_val (v := .bool true) (w' := w_18) (by kernel_rfl) (run_pick_t (v := .bool true) (by kernel_rfl) (by kernel_rfl)) ?_
        refine wl_nil ?_
        exact then_c ⟨true, (fun i => ([.agg #[.int .i64 p0_0.N, .int .u8 p0_0.D], .bool r_5, .bool (!r_5), .bool (!r_5), .int .i64 p1_0, .bool (lt p1_0 1), .bool (lt p1_0 1), .bool (lt p1_0 1), undef, undef, .bool true, .bool true, undef, undef, .bool true, .bool true, undef, undef] : List Value).getD i undef), by kernel_rfl, hL, hB, h_1, h_2, hm⟩
      · have hm := ite_f hm hc_27
        refine wl_val (v := .int .i64 p1_0) (w' := w_18) (wg (c := (lt p1_0 1)) (want := false) (by kernel_rfl) hc_27 rfl) (run_move (v := .int .i64 p1_0) (by kernel_rfl)) ?_
        refine wl_norm [.agg #[.int .i64 p0_0.N, .int .u8 p0_0.D], .int .i64 p1_0, .int .i64 p2_0, .pointer (some ⟨g_1, 0, none⟩), undef, undef, .pointer (some ⟨g_2, 0, none⟩), .bool false, undef, undef, undef, undef, undef, undef, .agg #[.int .i64 p0_0.N, .int .u8 p0_0.D], .bool r_5, .bool (!r_5), .bool (!r_5), .int .i64 p1_0, .bool (lt p1_0 1), .bool (lt p1_0 1), .bool (lt p1_0 1), .int .i64 p1_0, undef, undef, undef, undef, undef, undef, undef, undef, undef, undef, undef, undef, undef, undef, undef, undef, undef, undef, undef, undef, undef, undef, undef, undef, undef, undef, undef, undef, undef, undef, undef, undef, undef, undef, undef, undef, undef, undef, undef, undef, undef, undef, undef, undef, undef, undef, undef, undef, undef, undef, undef, undef, undef, undef, undef, undef, undef, undef, undef, undef, undef, undef, undef, undef, undef, undef, undef, undef, undef, undef, undef] (by kernel_rfl) ?_
        refine wl_val (v := .bool (gt p1_0 1000000000)) (w' := w_18) (wg (c := (lt p1_0 1)) (want := false) (by kernel_rfl) hc_27 rfl) (run_gt (k := .i64) (a := p1_0) (b := 1000000000) (by kernel_rfl) (by kernel_rfl)) ?_
        refine wl_val (v := .bool (gt p1_0 1000000000)) (w' := w_18) (by kernel_rfl) (run_pick_f (v := .bool (gt p1_0 1000000000)) (tr2 (c := (lt p1_0 1)) (by kernel_rfl) hc_27) (by kernel_rfl)) ?_
        refine wl_val (v := .bool (gt p1_0 1000000000)) (w' := w_18) (by kernel_rfl) (run_move (v := .bool (gt p1_0 1000000000)) (by kernel_rfl)) ?_
        rcases Bool.eq_false_or_eq_true (gt p1_0 1000000000) with hc_28 | hc_28
        · have hm := ite_t hm hc_28
          refine wl_not0 (wg (c := (gt p1_0 1000000000)) (want := false) (by kernel_rfl) hc_28 rfl) (by kernel_rfl) ?_
          refine wl_not0 (wg (c := (gt p1_0 1000000000)) (want := false) (by kernel_rfl) hc_28 rfl) (by kernel_rfl) ?_
          refine wl_val (v := .bool true) (w' := w_18) (by kernel_rfl) (run_pick_t (v := .bool true) (tr2 (c := (gt p1_0 1000000000)) (by kernel_rfl) hc_28) (by kernel_rfl)) ?_
          refine wl_val (v := .bool true) (w' := w_18) (by kernel_rfl) (run_move (v := .bool true) (by kernel_rfl)) ?_
          refine wl_not0 (by kernel_rfl) (by kernel_rfl) ?_
          refine wl_not0 (by kernel_rfl) (by kernel_rfl) ?_
          refine wl_val (v := .bool true) (w' := w_18) (by kernel_rfl) (run_pick_t (v := .bool true) (by kernel_rfl) (by kernel_rfl)) ?_
          refine wl_nil ?_
          exact then_c ⟨true, (fun i => ([.agg #[.int .i64 p0_0.N, .int .u8 p0_0.D], .bool r_5, .bool (!r_5), .bool (!r_5), .int .i64 p1_0, .bool (lt p1_0 1), .bool (lt p1_0 1), .bool (lt p1_0 1), .int .i64 p1_0, .bool (gt p1_0 1000000000), .bool (gt p1_0 1000000000), .bool (gt p1_0 1000000000), undef, undef, .bool true, .bool true, undef, undef] : List Value).getD i undef), by kernel_rfl, hL, hB, h_1, h_2, hm⟩
        · have hm := ite_f hm hc_28
          refine wl_val (v := .int .i64 p2_0) (w' := w_18) (wg (c := (gt p1_0 1000000000)) (want := false) (by kernel_rfl) hc_28 rfl) (run_move (v := .int .i64 p2_0) (by kernel_rfl)) ?_
          refine wl_val (v := .bool (lt p2_0 1)) (w' := w_18) (wg (c := (gt p1_0 1000000000)) (want := false) (by kernel_rfl) hc_28 rfl) (run_lt (k := .i64) (a := p2_0) (b := 1) (by kernel_rfl) (by kernel_rfl)) ?_
          refine wl_val (v := .bool (lt p2_0 1)) (w' := w_18) (by kernel_rfl) (run_pick_f (v := .bool (lt p2_0 1)) (tr2 (c := (gt p1_0 1000000000)) (by kernel_rfl) hc_28) (by kernel_rfl)) ?_
          refine wl_val (v := .bool (lt p2_0 1)) (w' := w_18) (by kernel_rfl) (run_move (v := .bool (lt p2_0 1)) (by kernel_rfl)) ?_
          rcases Bool.eq_false_or_eq_true (lt p2_0 1) with hc_29 | hc_29
          · have hm := ite_t hm hc_29
            refine wl_not0 (wg (c := (lt p2_0 1)) (want := false) (by kernel_rfl) hc_29 rfl) (by kernel_rfl) ?_
            refine wl_not0 (wg (c := (lt p2_0 1)) (want := false) (by kernel_rfl) hc_29 rfl) (by kernel_rfl) ?_
            refine wl_val (v := .bool true) (w' := w_18) (by kernel_rfl) (run_pick_t (v := .bool true) (tr2 (c := (lt p2_0 1)) (by kernel_rfl) hc_29) (by kernel_rfl)) ?_
            refine wl_nil ?_
            exact then_c ⟨true, (fun i => ([.agg #[.int .i64 p0_0.N, .int .u8 p0_0.D], .bool r_5, .bool (!r_5), .bool (!r_5), .int .i64 p1_0, .bool (lt p1_0 1), .bool (lt p1_0 1), .bool (lt p1_0 1), .int .i64 p1_0, .bool (gt p1_0 1000000000), .bool (gt p1_0 1000000000), .bool (gt p1_0 1000000000), .int .i64 p2_0, .bool (lt p2_0 1), .bool (lt p2_0 1), .bool (lt p2_0 1), undef, undef] : List Value).getD i undef), by kernel_rfl, hL, hB, h_1, h_2, hm⟩
          · have hm := ite_f hm hc_29
            refine wl_val (v := .int .i64 p2_0) (w' := w_18) (wg (c := (lt p2_0 1)) (want := false) (by kernel_rfl) hc_29 rfl) (run_move (v := .int .i64 p2_0) (by kernel_rfl)) ?_
            refine wl_val (v := .bool (gt p2_0 1000000000)) (w' := w_18) (wg (c := (lt p2_0 1)) (want := false) (by kernel_rfl) hc_29 rfl) (run_gt (k := .i64) (a := p2_0) (b := 1000000000) (by kernel_rfl) (by kernel_rfl)) ?_
            refine wl_val (v := .bool (gt p2_0 1000000000)) (w' := w_18) (by kernel_rfl) (run_pick_f (v := .bool (gt p2_0 1000000000)) (tr2 (c := (lt p2_0 1)) (by kernel_rfl) hc_29) (by kernel_rfl)) ?_
            refine wl_nil ?_
            exact then_c ⟨(gt p2_0 1000000000), (fun i => ([.agg #[.int .i64 p0_0.N, .int .u8 p0_0.D], .bool r_5, .bool (!r_5), .bool (!r_5), .int .i64 p1_0, .bool (lt p1_0 1), .bool (lt p1_0 1), .bool (lt p1_0 1), .int .i64 p1_0, .bool (gt p1_0 1000000000), .bool (gt p1_0 1000000000), .bool (gt p1_0 1000000000), .int .i64 p2_0, .bool (lt p2_0 1), .bool (lt p2_0 1), .bool (lt p2_0 1), .int .i64 p2_0, .bool (gt p2_0 1000000000)] : List Value).getD i undef), by kernel_rfl, hL, hB, h_1, h_2, hm⟩
    · have hm := ite_f hm hc_26
      refine wl_not0 (wg (c := (!r_5)) (want := false) (by kernel_rfl) (not_f hc_26) rfl) (by kernel_rfl) ?_
      refine wl_not0 (wg (c := (!r_5)) (want := false) (by kernel_rfl) (not_f hc_26) rfl) (by kernel_rfl) ?_
      refine wl_val (v := .bool true) (w' := w_18) (by kernel_rfl) (run_pick_t (v := .bool true) (tr2 (c := (!r_5)) (by kernel_rfl) (not_f hc_26)) (by kernel_rfl)) ?_
      refine wl_val (v := .bool true) (w' := w_18) (by kernel_rfl) (run_move (v := .bool true) (by kernel_rfl)) ?_
      refine wl_not0 (by kernel_rfl) (by kernel_rfl) ?_
      refine wl_not0 (by kernel_rfl) (by kernel_rfl) ?_
      refine wl_val (v := .bool true) (w' := w_18) (by kernel_rfl) (run_pick_t (v := .bool true) (by kernel_rfl) (by kernel_rfl)) ?_
      refine wl_val (v := .bool true) (w' := w_18) (by kernel_rfl) (run_move (v := .bool true) (by kernel_rfl)) ?_
      refine wl_not0 (by kernel_rfl) (by kernel_rfl) ?_
      refine wl_not0 (by kernel_rfl) (by kernel_rfl) ?_
      refine wl_val (v := .bool true) (w' := w_18) (by kernel_rfl) (run_pick_t (v := .bool true) (by kernel_rfl) (by kernel_rfl)) ?_
      refine wl_val (v := .bool true) (w' := w_18) (by kernel_rfl) (run_move (v := .bool true) (by kernel_rfl)) ?_
      refine wl_norm [.agg #[.int .i64 p0_0.N, .int .u8 p0_0.D], .int .i64 p1_0, .int .i64 p2_0, .pointer (some ⟨g_1, 0, none⟩), undef, undef, .pointer (some ⟨g_2, 0, none⟩), .bool false, undef, undef, undef, undef, undef, undef, .agg #[.int .i64 p0_0.N, .int .u8 p0_0.D], .bool r_5, .bool (!r_5), .bool (!r_5), undef, undef, .bool true, .bool true, undef, undef, .bool true, .bool true, undef, undef, .bool true, .bool true, undef, undef, undef, undef, undef, undef, undef, undef, undef, undef, undef, undef, undef, undef, undef, undef, undef, undef, undef, undef, undef, undef, undef, undef, undef, undef, undef, undef, undef, undef, undef, undef, undef, undef, undef, undef, undef, undef, undef, undef, undef, undef, undef, undef, undef, undef, undef, undef, undef, undef, undef, undef, undef, undef, undef, undef, undef, undef, undef, undef, undef, undef, undef, undef] (by kernel_rfl) ?_
      refine wl_not0 (by kernel_rfl) (by kernel_rfl) ?_
      refine wl_not0 (by kernel_rfl) (by kernel_rfl) ?_
      refine wl_val (v := .bool true) (w' := w_18) (by kernel_rfl) (run_pick_t (v := .bool true) (by kernel_rfl) (by kernel_rfl)) ?_
      refine wl_nil ?_
      exact then_c ⟨true, (fun i => ([.agg #[.int .i64 p0_0.N, .int .u8 p0_0.D], .bool r_5, .bool (!r_5), .bool (!r_5), undef, undef, .bool true, .bool true, undef, undef, .bool true, .bool true, undef, undef, .bool true, .bool true, undef, undef] : List Value).getD i undef), by kernel_rfl, hL, hB, h_1, h_2, hm⟩
  · intro l1 w_4 hI
    obtain ⟨x_1, u_1, rfl, hL, hB, h_1, h_2, hm⟩ := hI
    unfold m13_J1 at hm
    refine cw_cond (t := x_1) (by kernel_rfl) (fun hc_5 => ?_) (fun hc_5 => ?_)
    · have hm := ite_t hm hc_5
      refine cw_seq ?_
      refine cw_region ?_
      refine wl_val (v := .agg #[.int .i64 0, .int .u8 0]) (w' := w_4) (by kernel_rfl) (by kernel_rfl) ?_
      refine wl_op (by kernel_rfl) (ow_store_box' (g := g_2) (j := 0) (v := .agg #[.int .i64 0, .int .u8 0]) (vs := [.int .i64 0, .int .u8 0]) (cs' := [.int .i64 0, .int .u8 0]) sz_23 (by kernel_rfl) (by kernel_rfl) rfl rfl rfl hL h_2 rfl (by simp) rfl ?_)
      intro w_5 hS h_4
      replace h_1 := hS.box h_1 (hL.apart 1 0 rfl rfl (by decide) _ rfl)
      replace hB := hS.below hL hB
      replace hL := hS.hL
      refine wl_val (v := .bool false) (w' := w_5) (by kernel_rfl) (run_assign (v := .bool false) (by kernel_rfl)) ?_
      refine wl_nil ?_
      refine then_n ?_
      refine cw_ret ?_
      refine then_ret ?_
      have hl0 := loadVar_boxn (P := Tryd.prog) (j := 0) (vs := [.int .i64 0, .int .u8 0]) Tryd.underlying23 rfl sz_23 h_4 (by kernel_rfl) rfl
      have hS : Stp w0.heap.size _ [] F [] w_5 _ := Stp.pick hL [] rfl (by decide)
      replace hB := hS.below hL hB
      replace hL := hS.hL
      obtain rfl := Option.some.inj hm
      exact ret2 (v := .agg #[.int .i64 0, .int .u8 0]) (v' := .bool false) rfl (resv_cell (ad := ⟨g_2, 0, none⟩) (by kernel_rfl) hl0) (resv_tmp (by kernel_rfl)) ⟨_, rfl, by kernel_rfl, hB⟩
    · have hm := ite_f hm hc_5
      refine cw_skip ?_
      refine then_n ?_
      refine cw_seq ?_
      refine cw_region ?_
      refine wl_val (v := .pointer (some ⟨g_1, 0, none⟩)) (w' := w_4) (by kernel_rfl) (run_fieldAddr (b := g_1) (o := 0) fo_23_0 (by kernel_rfl)) ?_
      refine wl_val (v := .int .i64 p0_0.N) (w' := w_4) (by kernel_rfl) (run_load_box1 (j := 0) Tryd.underlying2 rfl (by kernel_rfl) h_1 (by kernel_rfl)) ?_
      refine wl_val (v := .int .i64 p0_0.N) (w' := w_4) (by kernel_rfl) (run_assign (v := .int .i64 p0_0.N) (by kernel_rfl)) ?_
      refine wl_nil ?_
      refine then_n ?_
      refine cw_cut (fun l' w' => ∃ n_1, ∃ u_2 : Nat → Value, l' = [.agg #[.int .i64 p0_0.N, .int .u8 p0_0.D], .int .i64 p1_0, .int .i64 p2_0, .pointer (some ⟨g_1, 0, none⟩), undef, undef, .pointer (some ⟨g_2, 0, none⟩), .bool false, .int .i64 n_1, undef, undef, undef, undef, undef, (u_1 0), (u_1 1), (u_1 2), (u_1 3), (u_1 4), (u_1 5), (u_1 6), (u_1 7), (u_1 8), (u_1 9), (u_1 10), (u_1 11), (u_1 12), (u_1 13), (u_1 14), (u_1 15), (u_1 16), (u_1 17), .bool x_1, undef, .pointer (some ⟨g_1, 0, none⟩), .int .i64 p0_0.N, (u_2 0), (u_2 1), (u_2 2), (u_2 3), undef, undef, undef, undef, undef, undef, undef, undef, undef, undef, undef, undef, undef, undef, undef, undef, undef, undef, undef, undef, undef, undef, undef, undef, undef, undef, undef, undef, undef, undef, undef, undef, undef, undef, undef, undef, undef, undef, undef, undef, undef, undef, undef, undef, undef, undef, undef, undef, undef, undef, undef, undef, undef, undef] ∧ LOk w0.heap.size [some g_2, some g_1] F w' ∧ Below w0.heap.size w0 w' ∧ Bx w' g_1 [.int .i64 p0_0.N, .int .u8 p0_0.D] 23 ∧ Bx w' g_2 [.int .i64 0, .int .u8 0] 23 ∧ m13_J2 fuel p0_0 p1_0 p2_0 n_1 = some r) ?_ ?_
      · refine cw_seq ?_
        refine cw_region ?_
        refine wl_val (v := .int .i64 p0_0.N) (w' := w_4) (by kernel_rfl) (run_move (v := .int .i64 p0_0.N) (by kernel_rfl)) ?_
        refine wl_val (v := .bool (lt p0_0.N 0)) (w' := w_4) (by kernel_rfl) (run_lt (k := .i64) (a := p0_0.N) (b := 0) (by kernel_rfl) (by kernel_rfl)) ?_
        refine wl_nil ?_
        refine then_n ?_
        refine cw_cond (t := (lt p0_0.N 0)) (by kernel_rfl) (fun hc_25 => ?_) (fun hc_25 => ?_)
        · have hm := ite_t hm hc_25
          refine cw_region ?_
          refine wl_val (v := .int .i64 p0_0.N) (w' := w_4) (by kernel_rfl) (run_move (v := .int .i64 p0_0.N) (by kernel_rfl)) ?_
          refine wl_val (v := .int .i64 (neg .i64 p0_0.N)) (w' := w_4) (by kernel_rfl) (run_neg (k := .i64) (a := p0_0.N) (by kernel_rfl)) ?_
          refine wl_val (v := .int .i64 (neg .i64 p0_0.N)) (w' := w_4) (by kernel_rfl) (run_assign (v := .int .i64 (neg .i64 p0_0.N)) (by kernel_rfl)) ?_
          refine wl_nil ?_
          exact then_c ⟨(neg .i64 p0_0.N), (fun i => ([.int .i64 p0_0.N, .bool (lt p0_0.N 0), .int .i64 p0_0.N, .int .i64 (neg .i64 p0_0.N)] : List Value).getD i undef), by kernel_rfl, hL, hB, h_1, h_2, hm⟩
        · have hm := ite_f hm hc_25
          refine cw_skip ?_
          exact then_c ⟨p0_0.N, (fun i => ([.int .i64 p0_0.N, .bool (lt p0_0.N 0), undef, undef] : List Value).getD i undef), by kernel_rfl, hL, hB, h_1, h_2, hm⟩
      · intro l1 w_6 hI
        obtain ⟨n_1, u_2, rfl, hL, hB, h_1, h_2, hm⟩ := hI
        unfold m13_J2 at hm
        refine cw_seq ?_
        refine cw_region ?_
        refine wl_val (v := .int .i64 n_1) (w' := w_6) (by kernel_rfl) (run_move (v := .int .i64 n_1) (by kernel_rfl)) ?_
        refine wl_val (v := .pointer (some ⟨g_1, 1, none⟩)) (w' := w_6) (by kernel_rfl) (run_fieldAddr (b := g_1) (o := 0) fo_23_1 (by kernel_rfl)) ?_
        refine wl_val (v := .int .u8 p0_0.D) (w' := w_6) (by kernel_rfl) (run_load_box1 (j := 1) Tryd.underlying5 rfl (by kernel_rfl) h_1 (by kernel_rfl)) ?_
        refine wl_val (v := .int .i64 (cvt .i64 p0_0.D)) (w' := w_6) (by kernel_rfl) (run_cvt (k := .u8) (a := p0_0.D) Tryd.underlying5 Tryd.underlying3 (by kernel_rfl)) ?_
        refine wl_val (v := .int .i64 (sub .i64 6 (cvt .i64 p0_0.D))) (w' := w_6) (by kernel_rfl) (run_sub (k := .i64) (a := 6) (b := (cvt .i64 p0_0.D)) (by kernel_rfl) (by kernel_rfl)) ?_
        obtain ⟨r_2, h_5, hm⟩ := bind_e hm
        refine wl_op (by kernel_rfl) (ow_enter (run_callf (vs := [.int .i64 (sub .i64 6 (cvt .i64 p0_0.D))]) Tryd.func37 nm_37 (by kernel_rfl) (by kernel_rfl)) (f37_ok (p0_0 := (sub .i64 6 (cvt .i64 p0_0.D))) fuel _ w_6 hL.lt  h_5) ?_)
        intro vR w_7 hR
        obtain ⟨rfl, hBe⟩ := hR
        have hS := Stp.call hL (Fz.of_below hBe [])
        replace h_1 := hS.box h_1 nilN
        replace h_2 := hS.box h_2 nilN
        replace hB := hS.below hL hB
        replace hL := hS.hL
        refine wl_val (v := .int .i64 (mul .i64 n_1 r_2)) (w' := w_7) (by kernel_rfl) (run_mul (k := .i64) (a := n_1) (b := r_2) (by kernel_rfl) (by kernel_rfl)) ?_
        refine wl_val (v := .int .u64 (cvt .u64 (mul .i64 n_1 r_2))) (w' := w_7) (by kernel_rfl) (run_cvt (k := .i64) (a := (mul .i64 n_1 r_2)) Tryd.underlying2 Tryd.underlying55 (by kernel_rfl)) ?_
        refine wl_val (v := .int .i64 p1_0) (w' := w_7) (by kernel_rfl) (run_move (v := .int .i64 p1_0) (by kernel_rfl)) ?_
        refine wl_val (v := .int .u64 (cvt .u64 p1_0)) (w' := w_7) (by kernel_rfl) (run_cvt (k := .i64) (a := p1_0) Tryd.underlying2 Tryd.underlying55 (by kernel_rfl)) ?_
        obtain ⟨r_3, h_6, hm⟩ := bind_e hm
        refine wl_op (by kernel_rfl) (ow_enter (run_callf (vs := [.int .u64 (cvt .u64 (mul .i64 n_1 r_2)), .int .u64 (cvt .u64 p1_0)]) Tryd.func36 nm_36 (by kernel_rfl) (by kernel_rfl)) (f36_ok (p0_0 := (cvt .u64 (mul .i64 n_1 r_2))) (p1_0 := (cvt .u64 p1_0)) fuel _ w_7 hL.lt  h_6) ?_)
        intro vR w_8 hR
        obtain ⟨rfl, hBe⟩ := hR
        have hS := Stp.call hL (Fz.of_below hBe [])
        replace h_1 := hS.box h_1 nilN
        replace h_2 := hS.box h_2 nilN
        replace hB := hS.below hL hB
        replace hL := hS.hL
        refine wl_val (v := .tuple #[.int .u64 r_3.1, .int .u64 r_3.2]) (w' := w_8) (by kernel_rfl) (run_move (v := .tuple #[.int .u64 r_3.1, .int .u64 r_3.2]) (by kernel_rfl)) ?_
        refine wl_val (v := .int .u64 r_3.1) (w' := w_8) (by kernel_rfl) (run_extract (vs := #[.int .u64 r_3.1, .int .u64 r_3.2]) (by kernel_rfl) (by kernel_rfl)) ?_
        refine wl_val (v := .int .u64 r_3.2) (w' := w_8) (by kernel_rfl) (run_extract (vs := #[.int .u64 r_3.1, .int .u64 r_3.2]) (by kernel_rfl) (by kernel_rfl)) ?_
        refine wl_val (v := .int .u64 r_3.1) (w' := w_8) (by kernel_rfl) (run_assign (v := .int .u64 r_3.1) (by kernel_rfl)) ?_
        refine wl_val (v := .int .u64 r_3.2) (w' := w_8) (by kernel_rfl) (run_assign (v := .int .u64 r_3.2) (by kernel_rfl)) ?_
        refine wl_nil ?_
        refine then_n ?_
        refine cw_norm [.agg #[.int .i64 p0_0.N, .int .u8 p0_0.D], .int .i64 p1_0, .int .i64 p2_0, .pointer (some ⟨g_1, 0, none⟩), undef, undef, .pointer (some ⟨g_2, 0, none⟩), .bool false, .int .i64 n_1, .int .u64 r_3.1, .int .u64 r_3.2, undef, undef, undef, (u_1 0), (u_1 1), (u_1 2), (u_1 3), (u_1 4), (u_1 5), (u_1 6), (u_1 7), (u_1 8), (u_1 9), (u_1 10), (u_1 11), (u_1 12), (u_1 13), (u_1 14), (u_1 15), (u_1 16), (u_1 17), .bool x_1, undef, .pointer (some ⟨g_1, 0, none⟩), .int .i64 p0_0.N, (u_2 0), (u_2 1), (u_2 2), (u_2 3), .tuple #[.int .u64 r_3.1, .int .u64 r_3.2], .int .i64 n_1, .pointer (some ⟨g_1, 1, none⟩), .int .u8 p0_0.D, .int .i64 (cvt .i64 p0_0.D), .int .i64 (sub .i64 6 (cvt .i64 p0_0.D)), .int .i64 r_2, .int .i64 (mul .i64 n_1 r_2), .int .u64 (cvt .u64 (mul .i64 n_1 r_2)), .int .i64 p1_0, .int .u64 (cvt .u64 p1_0), .tuple #[.int .u64 r_3.1, .int .u64 r_3.2], .int .u64 r_3.1, .int .u64 r_3.2, undef, undef, undef, undef, undef, undef, undef, undef, undef, undef, undef, undef, undef, undef, undef, undef, undef, undef, undef, undef, undef, undef, undef, undef, undef, undef, undef, undef, undef, undef, undef, undef, undef, undef, undef, undef, undef, undef, undef, undef] (by kernel_rfl) ?_
        refine cw_seq ?_
        refine cw_seq ?_
        refine cw_region ?_
        refine wl_val (v := .int .u64 r_3.1) (w' := w_8) (by kernel_rfl) (run_move (v := .int .u64 r_3.1) (by kernel_rfl)) ?_
        refine wl_val (v := .int .i64 p2_0) (w' := w_8) (by kernel_rfl) (run_move (v := .int .i64 p2_0) (by kernel_rfl)) ?_
        refine wl_val (v := .int .u64 (cvt .u64 p2_0)) (w' := w_8) (by kernel_rfl) (run_cvt (k := .i64) (a := p2_0) Tryd.underlying2 Tryd.underlying55 (by kernel_rfl)) ?_
        refine wl_val (v := .bool (ge r_3.1 (cvt .u64 p2_0))) (w' := w_8) (by kernel_rfl) (run_ge (k := .u64) (a := r_3.1) (b := (cvt .u64 p2_0)) (by kernel_rfl) (by kernel_rfl)) ?_
        refine wl_nil ?_
        refine then_n ?_
        refine cw_cond (t := (ge r_3.1 (cvt .u64 p2_0))) (by kernel_rfl) (fun hc_7 => ?_) (fun hc_7 => ?_)
        · have hm := ite_t hm hc_7
          refine cw_seq ?_
          refine cw_region ?_
          refine wl_val (v := .agg #[.int .i64 0, .int .u8 0]) (w' := w_8) (by kernel_rfl) (by kernel_rfl) ?_
          refine wl_op (by kernel_rfl) (ow_store_box' (g := g_2) (j := 0) (v := .agg #[.int .i64 0, .int .u8 0]) (vs := [.int .i64 0, .int .u8 0]) (cs' := [.int .i64 0, .int .u8 0]) sz_23 (by kernel_rfl) (by kernel_rfl) rfl rfl rfl hL h_2 rfl (by simp) rfl ?_)
          intro w_9 hS h_7
          replace h_1 := hS.box h_1 (hL.apart 1 0 rfl rfl (by decide) _ rfl)
          replace hB := hS.below hL hB
          replace hL := hS.hL
          refine wl_val (v := .bool false) (w' := w_9) (by kernel_rfl) (run_assign (v := .bool false) (by kernel_rfl)) ?_
          refine wl_nil ?_
          refine then_n ?_
          refine cw_ret ?_
          refine then_ret ?_
          have hl0 := loadVar_boxn (P := Tryd.prog) (j := 0) (vs := [.int .i64 0, .int .u8 0]) Tryd.underlying23 rfl sz_23 h_7 (by kernel_rfl) rfl
          have hS : Stp w0.heap.size _ [] F [] w_9 _ := Stp.pick hL [] rfl (by decide)
          replace hB := hS.below hL hB
          replace hL := hS.hL
          obtain rfl := Option.some.inj hm
          exact ret2 (v := .agg #[.int .i64 0, .int .u8 0]) (v' := .bool false) rfl (resv_cell (ad := ⟨g_2, 0, none⟩) (by kernel_rfl) hl0) (resv_tmp (by kernel_rfl)) ⟨_, rfl, by kernel_rfl, hB⟩
        · have hm := ite_f hm hc_7
          refine cw_skip ?_
          refine then_n ?_
          refine cw_seq ?_
          refine cw_region ?_
          refine wl_val (v := .int .u64 r_3.1) (w' := w_8) (by kernel_rfl) (run_move (v := .int .u64 r_3.1) (by kernel_rfl)) ?_
          refine wl_val (v := .int .u64 r_3.2) (w' := w_8) (by kernel_rfl) (run_move (v := .int .u64 r_3.2) (by kernel_rfl)) ?_
          refine wl_val (v := .int .i64 p2_0) (w' := w_8) (by kernel_rfl) (run_move (v := .int .i64 p2_0) (by kernel_rfl)) ?_
          refine wl_val (v := .int .u64 (cvt .u64 p2_0)) (w' := w_8) (by kernel_rfl) (run_cvt (k := .i64) (a := p2_0) Tryd.underlying2 Tryd.underlying55 (by kernel_rfl)) ?_
          obtain ⟨r_4, h_8, hm⟩ := bind_e hm
          refine wl_op (by kernel_rfl) (ow_enter (run_callf (vs := [.int .u64 r_3.1, .int .u64 r_3.2, .int .u64 (cvt .u64 p2_0)]) Tryd.func38 nm_38 (by kernel_rfl) (by kernel_rfl)) (f38_ok (p0_0 := r_3.1) (p1_0 := r_3.2) (p2_0 := (cvt .u64 p2_0)) fuel _ w_8 hL.lt  h_8) ?_)
          intro vR w_10 hR
          obtain ⟨rfl, hBe⟩ := hR
          have hS := Stp.call hL (Fz.of_below hBe [])
          replace h_1 := hS.box h_1 nilN
          replace h_2 := hS.box h_2 nilN
          replace hB := hS.below hL hB
          replace hL := hS.hL
          refine wl_val (v := .tuple #[.int .u64 r_4.1, .int .u64 r_4.2]) (w' := w_10) (by kernel_rfl) (run_move (v := .tuple #[.int .u64 r_4.1, .int .u64 r_4.2]) (by kernel_rfl)) ?_
          refine wl_val (v := .int .u64 r_4.1) (w' := w_10) (by kernel_rfl) (run_extract (vs := #[.int .u64 r_4.1, .int .u64 r_4.2]) (by kernel_rfl) (by kernel_rfl)) ?_
          refine wl_val (v := .int .u64 r_4.2) (w' := w_10) (by kernel_rfl) (run_extract (vs := #[.int .u64 r_4.1, .int .u64 r_4.2]) (by kernel_rfl) (by kernel_rfl)) ?_
          refine wl_val (v := .int .u64 r_4.1) (w' := w_10) (by kernel_rfl) (run_assign (v := .int .u64 r_4.1) (by kernel_rfl)) ?_
          refine wl_val (v := .int .u64 r_4.2) (w' := w_10) (by kernel_rfl) (run_assign (v := .int .u64 r_4.2) (by kernel_rfl)) ?_
          refine wl_nil ?_
          refine then_n ?_
          refine cw_norm [.agg #[.int .i64 p0_0.N, .int .u8 p0_0.D], .int .i64 p1_0, .int .i64 p2_0, .pointer (some ⟨g_1, 0, none⟩), undef, undef, .pointer (some ⟨g_2, 0, none⟩), .bool false, .int .i64 n_1, .int .u64 r_3.1, .int .u64 r_3.2, .int .u64 r_4.1, .int .u64 r_4.2, undef, (u_1 0), (u_1 1), (u_1 2), (u_1 3), (u_1 4), (u_1 5), (u_1 6), (u_1 7), (u_1 8), (u_1 9), (u_1 10), (u_1 11), (u_1 12), (u_1 13), (u_1 14), (u_1 15), (u_1 16), (u_1 17), .bool x_1, undef, .pointer (some ⟨g_1, 0, none⟩), .int .i64 p0_0.N, (u_2 0), (u_2 1), (u_2 2), (u_2 3), .tuple #[.int .u64 r_3.1, .int .u64 r_3.2], .int .i64 n_1, .pointer (some ⟨g_1, 1, none⟩), .int .u8 p0_0.D, .int .i64 (cvt .i64 p0_0.D), .int .i64 (sub .i64 6 (cvt .i64 p0_0.D)), .int .i64 r_2, .int .i64 (mul .i64 n_1 r_2), .int .u64 (cvt .u64 (mul .i64 n_1 r_2)), .int .i64 p1_0, .int .u64 (cvt .u64 p1_0), .tuple #[.int .u64 r_3.1, .int .u64 r_3.2], .int .u64 r_3.1, .int .u64 r_3.2, .int .u64 r_3.1, .int .i64 p2_0, .int .u64 (cvt .u64 p2_0), .bool (ge r_3.1 (cvt .u64 p2_0)), undef, .tuple #[.int .u64 r_4.1, .int .u64 r_4.2], .int .u64 r_3.1, .int .u64 r_3.2, .int .i64 p2_0, .int .u64 (cvt .u64 p2_0), .tuple #[.int .u64 r_4.1, .int .u64 r_4.2], .int .u64 r_4.1, .int .u64 r_4.2, undef, undef, undef, undef, undef, undef, undef, undef, undef, undef, undef, undef, undef, undef, undef, undef, undef, undef, undef, undef, undef, undef, undef, undef, undef, undef, undef] (by kernel_rfl) ?_
          refine cw_seq ?_
          refine cw_seq ?_
          refine cw_region ?_
          refine wl_val (v := .int .u64 r_4.2) (w' := w_10) (by kernel_rfl) (run_move (v := .int .u64 r_4.2) (by kernel_rfl)) ?_
          refine wl_val (v := .bool (nei r_4.2 0)) (w' := w_10) (by kernel_rfl) (run_nei (k := .u64) (a := r_4.2) (b := 0) (by kernel_rfl) (by kernel_rfl)) ?_
          refine wl_nil ?_
          refine then_n ?_
          refine cw_cond (t := (nei r_4.2 0)) (by kernel_rfl) (fun hc_8 => ?_) (fun hc_8 => ?_)
          · have hm := ite_t hm hc_8
            refine cw_seq ?_
            refine cw_region ?_
            refine wl_val (v := .agg #[.int .i64 0, .int .u8 0]) (w' := w_10) (by kernel_rfl) (by kernel_rfl) ?_
            refine wl_op (by kernel_rfl) (ow_store_box' (g := g_2) (j := 0) (v := .agg #[.int .i64 0, .int .u8 0]) (vs := [.int .i64 0, .int .u8 0]) (cs' := [.int .i64 0, .int .u8 0]) sz_23 (by kernel_rfl) (by kernel_rfl) rfl rfl rfl hL h_2 rfl (by simp) rfl ?_)
            intro w_11 hS h_9
            replace h_1 := hS.box h_1 (hL.apart 1 0 rfl rfl (by decide) _ rfl)
            replace hB := hS.below hL hB
            replace hL := hS.hL
            refine wl_val (v := .bool false) (w' := w_11) (by kernel_rfl) (run_assign (v := .bool false) (by kernel_rfl)) ?_
            refine wl_nil ?_
            refine then_n ?_
            refine cw_ret ?_
            refine then_ret ?_
            have hl0 := loadVar_boxn (P := Tryd.prog) (j := 0) (vs := [.int .i64 0, .int .u8 0]) Tryd.underlying23 rfl sz_23 h_9 (by kernel_rfl) rfl
            have hS : Stp w0.heap.size _ [] F [] w_11 _ := Stp.pick hL [] rfl (by decide)
            replace hB := hS.below hL hB
            replace hL := hS.hL
            obtain rfl := Option.some.inj hm
            exact ret2 (v := .agg #[.int .i64 0, .int .u8 0]) (v' := .bool false) rfl (resv_cell (ad := ⟨g_2, 0, none⟩) (by kernel_rfl) hl0) (resv_tmp (by kernel_rfl)) ⟨_, rfl, by kernel_rfl, hB⟩
          · have hm := ite_f hm hc_8
            refine cw_skip ?_
            refine then_n ?_
            refine cw_seq ?_
            refine cw_region ?_
            refine wl_val (v := .int .u8 6) (w' := w_10) (by kernel_rfl) (run_assign (v := .int .u8 6) (by kernel_rfl)) ?_
            refine wl_nil ?_
            refine then_n ?_
            refine cw_cut (fun l' w' => ∃ q_2 places_2, ∃ u_8 : Nat → Value, l' = [.agg #[.int .i64 p0_0.N, .int .u8 p0_0.D], .int .i64 p1_0, .int .i64 p2_0, .pointer (some ⟨g_1, 0, none⟩), undef, undef, .pointer (some ⟨g_2, 0, none⟩), .bool false, .int .i64 n_1, .int .u64 r_3.1, .int .u64 r_3.2, .int .u64 q_2, .int .u64 r_4.2, .int .u8 places_2, (u_1 0), (u_1 1), (u_1 2), (u_1 3), (u_1 4), (u_1 5), (u_1 6), (u_1 7), (u_1 8), (u_1 9), (u_1 10), (u_1 11), (u_1 12), (u_1 13), (u_1 14), (u_1 15), (u_1 16), (u_1 17), .bool x_1, undef, .pointer (some ⟨g_1, 0, none⟩), .int .i64 p0_0.N, (u_2 0), (u_2 1), (u_2 2), (u_2 3), .tuple #[.int .u64 r_3.1, .int .u64 r_3.2], .int .i64 n_1, .pointer (some ⟨g_1, 1, none⟩), .int .u8 p0_0.D, .int .i64 (cvt .i64 p0_0.D), .int .i64 (sub .i64 6 (cvt .i64 p0_0.D)), .int .i64 r_2, .int .i64 (mul .i64 n_1 r_2), .int .u64 (cvt .u64 (mul .i64 n_1 r_2)), .int .i64 p1_0, .int .u64 (cvt .u64 p1_0), .tuple #[.int .u64 r_3.1, .int .u64 r_3.2], .int .u64 r_3.1, .int .u64 r_3.2, .int .u64 r_3.1, .int .i64 p2_0, .int .u64 (cvt .u64 p2_0), .bool (ge r_3.1 (cvt .u64 p2_0)), undef, .tuple #[.int .u64 r_4.1, .int .u64 r_4.2], .int .u64 r_3.1, .int .u64 r_3.2, .int .i64 p2_0, .int .u64 (cvt .u64 p2_0), .tuple #[.int .u64 r_4.1, .int .u64 r_4.2], .int .u64 r_4.1, .int .u64 r_4.2, .int .u64 r_4.2, .bool (nei r_4.2 0), undef, (u_8 0), (u_8 1), (u_8 2), (u_8 3), (u_8 4), (u_8 5), (u_8 6), (u_8 7), (u_8 8), (u_8 9), (u_8 10), undef, undef, undef, undef, undef, undef, undef, undef, undef, undef, undef, undef, undef] ∧ LOk w0.heap.size [some g_2, some g_1] F w' ∧ Below w0.heap.size w0 w' ∧ Bx w' g_1 [.int .i64 p0_0.N, .int .u8 p0_0.D] 23 ∧ Bx w' g_2 [.int .i64 0, .int .u8 0] 23 ∧ m13_J3 fuel p0_0 q_2 places_2 = some r) ?_ ?_
            · refine cw_block ?_
              refine cw_loop (σ := Int × Int) (m13_L5 fuel p0_0) r (fun s l' w' => ∃ u_12 : Nat → Value, l' = [.agg #[.int .i64 p0_0.N, .int .u8 p0_0.D], .int .i64 p1_0, .int .i64 p2_0, .pointer (some ⟨g_1, 0, none⟩), undef, undef, .pointer (some ⟨g_2, 0, none⟩), .bool false, .int .i64 n_1, .int .u64 r_3.1, .int .u64 r_3.2, .int .u64 s.1, .int .u64 r_4.2, .int .u8 s.2, (u_1 0), (u_1 1), (u_1 2), (u_1 3), (u_1 4), (u_1 5), (u_1 6), (u_1 7), (u_1 8), (u_1 9), (u_1 10), (u_1 11), (u_1 12), (u_1 13), (u_1 14), (u_1 15), (u_1 16), (u_1 17), .bool x_1, undef, .pointer (some ⟨g_1, 0, none⟩), .int .i64 p0_0.N, (u_2 0), (u_2 1), (u_2 2), (u_2 3), .tuple #[.int .u64 r_3.1, .int .u64 r_3.2], .int .i64 n_1, .pointer (some ⟨g_1, 1, none⟩), .int .u8 p0_0.D, .int .i64 (cvt .i64 p0_0.D), .int .i64 (sub .i64 6 (cvt .i64 p0_0.D)), .int .i64 r_2, .int .i64 (mul .i64 n_1 r_2), .int .u64 (cvt .u64 (mul .i64 n_1 r_2)), .int .i64 p1_0, .int .u64 (cvt .u64 p1_0), .tuple #[.int .u64 r_3.1, .int .u64 r_3.2], .int .u64 r_3.1, .int .u64 r_3.2, .int .u64 r_3.1, .int .i64 p2_0, .int .u64 (cvt .u64 p2_0), .bool (ge r_3.1 (cvt .u64 p2_0)), undef, .tuple #[.int .u64 r_4.1, .int .u64 r_4.2], .int .u64 r_3.1, .int .u64 r_3.2, .int .i64 p2_0, .int .u64 (cvt .u64 p2_0), .tuple #[.int .u64 r_4.1, .int .u64 r_4.2], .int .u64 r_4.1, .int .u64 r_4.2, .int .u64 r_4.2, .bool (nei r_4.2 0), undef, (u_12 0), (u_12 1), (u_12 2), (u_12 3), (u_12 4), (u_12 5), (u_12 6), (u_12 7), (u_12 8), (u_12 9), (u_12 10), undef, undef, undef, undef, undef, undef, undef, undef, undef, undef, undef, undef, undef] ∧ LOk w0.heap.size [some g_2, some g_1] F w' ∧ Below w0.heap.size w0 w' ∧ Bx w' g_1 [.int .i64 p0_0.N, .int .u8 p0_0.D] 23 ∧ Bx w' g_2 [.int .i64 0, .int .u8 0] 23) ?_ (s := (r_4.1, 6)) (n := fuel) ⟨(fun i => ([undef, undef, undef, undef, undef, undef, undef, undef, undef, undef, undef] : List Value).getD i undef), by kernel_rfl, hL, hB, h_1, h_2⟩ hm
              intro self_1 s l1 w_16 hI hm
              obtain ⟨q_3, places_3⟩ := s
              try dsimp only at hI
              obtain ⟨u_12, rfl, hL, hB, h_1, h_2⟩ := hI
              unfold m13_L5 at hm
              refine cw_seq ?_
              refine cw_cut (fun l' w' => ∃ x_7, ∃ u_14 : Nat → Value, l' = [.agg #[.int .i64 p0_0.N, .int .u8 p0_0.D], .int .i64 p1_0, .int .i64 p2_0, .pointer (some ⟨g_1, 0, none⟩), undef, undef, .pointer (some ⟨g_2, 0, none⟩), .bool false, .int .i64 n_1, .int .u64 r_3.1, .int .u64 r_3.2, .int .u64 q_3, .int .u64 r_4.2, .int .u8 places_3, (u_1 0), (u_1 1), (u_1 2), (u_1 3), (u_1 4), (u_1 5), (u_1 6), (u_1 7), (u_1 8), (u_1 9), (u_1 10), (u_1 11), (u_1 12), (u_1 13), (u_1 14), (u_1 15), (u_1 16), (u_1 17), .bool x_1, undef, .pointer (some ⟨g_1, 0, none⟩), .int .i64 p0_0.N, (u_2 0), (u_2 1), (u_2 2), (u_2 3), .tuple #[.int .u64 r_3.1, .int .u64 r_3.2], .int .i64 n_1, .pointer (some ⟨g_1, 1, none⟩), .int .u8 p0_0.D, .int .i64 (cvt .i64 p0_0.D), .int .i64 (sub .i64 6 (cvt .i64 p0_0.D)), .int .i64 r_2, .int .i64 (mul .i64 n_1 r_2), .int .u64 (cvt .u64 (mul .i64 n_1 r_2)), .int .i64 p1_0, .int .u64 (cvt .u64 p1_0), .tuple #[.int .u64 r_3.1, .int .u64 r_3.2], .int .u64 r_3.1, .int .u64 r_3.2, .int .u64 r_3.1, .int .i64 p2_0, .int .u64 (cvt .u64 p2_0), .bool (ge r_3.1 (cvt .u64 p2_0)), undef, .tuple #[.int .u64 r_4.1, .int .u64 r_4.2], .int .u64 r_3.1, .int .u64 r_3.2, .int .i64 p2_0, .int .u64 (cvt .u64 p2_0), .tuple #[.int .u64 r_4.1, .int .u64 r_4.2], .int .u64 r_4.1, .int .u64 r_4.2, .int .u64 r_4.2, .bool (nei r_4.2 0), undef, (u_14 0), (u_14 1), (u_14 2), (u_14 3), (u_14 4), (u_14 5), .bool x_7, (u_12 7), (u_12 8), (u_12 9), (u_12 10), undef, undef, undef, undef, undef, undef, undef, undef, undef, undef, undef, undef, undef] ∧ LOk w0.heap.size [some g_2, some g_1] F w' ∧ Below w0.heap.size w0 w' ∧ Bx w' g_1 [.int .i64 p0_0.N, .int .u8 p0_0.D] 23 ∧ Bx w' g_2 [.int .i64 0, .int .u8 0] 23 ∧ m13_J6 fuel p0_0 q_3 places_3 self_1 x_7 = some r) ?_ ?_
              · refine cw_region ?_
                refine wl_val (v := .int .u8 places_3) (w' := w_16) (by kernel_rfl) (run_move (v := .int .u8 places_3) (by kernel_rfl)) ?_
                refine wl_val (v := .bool (gt places_3 0)) (w' := w_16) (by kernel_rfl) (run_gt (k := .u8) (a := places_3) (b := 0) (by kernel_rfl) (by kernel_rfl)) ?_
                refine wl_val (v := .bool (gt places_3 0)) (w' := w_16) (by kernel_rfl) (run_move (v := .bool (gt places_3 0)) (by kernel_rfl)) ?_
                rcases Bool.eq_false_or_eq_true (gt places_3 0) with hc_24 | hc_24
                · have hm := ite_t hm hc_24
                  refine wl_val (v := .int .u64 q_3) (w' := w_16) (wg (c := (gt places_3 0)) (want := true) (by kernel_rfl) hc_24 rfl) (run_move (v := .int .u64 q_3) (by kernel_rfl)) ?_
                  refine wl_val (v := .int .u64 (rem q_3 10)) (w' := w_16) (wg (c := (gt places_3 0)) (want := true) (by kernel_rfl) hc_24 rfl) (run_rem (k := .u64) (a := q_3) (b := 10) (by kernel_rfl) (by kernel_rfl) (by decide)) ?_
                  refine wl_val (v := .bool (eqi (rem q_3 10) 0)) (w' := w_16) (wg (c := (gt places_3 0)) (want := true) (by kernel_rfl) hc_24 rfl) (run_eqi (k := .u64) (a := (rem q_3 10)) (b := 0) (by kernel_rfl) (by kernel_rfl)) ?_
                  refine wl_val (v := .bool (eqi (rem q_3 10) 0)) (w' := w_16) (by kernel_rfl) (run_pick_t (v := .bool (eqi (rem q_3 10) 0)) (tr2 (c := (gt places_3 0)) (by kernel_rfl) hc_24) (by kernel_rfl)) ?_
                  refine wl_nil ?_
                  exact then_c ⟨(eqi (rem q_3 10) 0), (fun i => ([.int .u8 places_3, .bool (gt places_3 0), .bool (gt places_3 0), .int .u64 q_3, .int .u64 (rem q_3 10), .bool (eqi (rem q_3 10) 0)] : List Value).getD i undef), by kernel_rfl, hL, hB, h_1, h_2, hm⟩
                · have hm := ite_f hm hc_24
                  refine wl_not (wg (c := (gt places_3 0)) (want := true) (by kernel_rfl) hc_24 rfl) ?_
                  refine wl_not (wg (c := (gt places_3 0)) (want := true) (by kernel_rfl) hc_24 rfl) ?_
                  refine wl_not (wg (c := (gt places_3 0)) (want := true) (by kernel_rfl) hc_24 rfl) ?_
                  refine wl_val (v := .bool false) (w' := w_16) (by kernel_rfl) (run_pick_f (v := .bool false) (tr2 (c := (gt places_3 0)) (by kernel_rfl) hc_24) (by kernel_rfl)) ?_
                  refine wl_nil ?_
                  exact then_c ⟨false, (fun i => ([.int .u8 places_3, .bool (gt places_3 0), .bool (gt places_3 0), undef, undef, undef] : List Value).getD i undef), by kernel_rfl, hL, hB, h_1, h_2, hm⟩
              · intro l1 w_17 hI
                obtain ⟨x_7, u_14, rfl, hL, hB, h_1, h_2, hm⟩ := hI
                unfold m13_J6 at hm
                refine cw_cond (t := x_7) (by kernel_rfl) (fun hc_23 => ?_) (fun hc_23 => ?_)
                · have hm := ite_t hm hc_23
                  refine cw_skip ?_
                  refine then_n ?_
                  refine cw_block ?_
                  refine cw_region ?_
                  refine wl_val (v := .int .u64 q_3) (w' := w_17) (by kernel_rfl) (run_move (v := .int .u64 q_3) (by kernel_rfl)) ?_
                  refine wl_val (v := .int .u64 (quo .u64 q_3 10)) (w' := w_17) (by kernel_rfl) (run_quo (k := .u64) (a := q_3) (b := 10) (by kernel_rfl) (by kernel_rfl) (by decide)) ?_
                  refine wl_val (v := .int .u8 places_3) (w' := w_17) (by kernel_rfl) (run_move (v := .int .u8 places_3) (by kernel_rfl)) ?_
                  refine wl_val (v := .int .u8 (sub .u8 places_3 1)) (w' := w_17) (by kernel_rfl) (run_sub (k := .u8) (a := places_3) (b := 1) (by kernel_rfl) (by kernel_rfl)) ?_
                  refine wl_val (v := .int .u64 (quo .u64 q_3 10)) (w' := w_17) (by kernel_rfl) (run_assign (v := .int .u64 (quo .u64 q_3 10)) (by kernel_rfl)) ?_
                  refine wl_val (v := .int .u8 (sub .u8 places_3 1)) (w' := w_17) (by kernel_rfl) (run_assign (v := .int .u8 (sub .u8 places_3 1)) (by kernel_rfl)) ?_
                  refine wl_nil ?_
                  refine inBlock_n ?_
                  exact ⟨_, rfl, ((quo .u64 q_3 10), (sub .u8 places_3 1)), ⟨(fun i => ([(u_14 0), (u_14 1), (u_14 2), (u_14 3), (u_14 4), (u_14 5), .bool x_7, .int .u64 q_3, .int .u64 (quo .u64 q_3 10), .int .u8 places_3, .int .u8 (sub .u8 places_3 1)] : List Value).getD i undef), by kernel_rfl, hL, hB, h_1, h_2⟩, hm⟩
                · have hm := ite_f hm hc_23
                  refine cw_exit ?_
                  refine then_exit ?_
                  refine then_exit ?_
                  refine inBlock_same ?_
                  exact then_c ⟨q_3, places_3, (fun i => ([(u_14 0), (u_14 1), (u_14 2), (u_14 3), (u_14 4), (u_14 5), .bool x_7, (u_12 7), (u_12 8), (u_12 9), (u_12 10)] : List Value).getD i undef), by kernel_rfl, hL, hB, h_1, h_2, hm⟩
            · intro l1 w_12 hI
              obtain ⟨q_2, places_2, u_8, rfl, hL, hB, h_1, h_2, hm⟩ := hI
              unfold m13_J3 at hm
              refine cw_seq ?_
              refine cw_seq ?_
              refine cw_region ?_
              refine wl_val (v := .int .u64 q_2) (w' := w_12) (by kernel_rfl) (run_move (v := .int .u64 q_2) (by kernel_rfl)) ?_
              refine wl_val (v := .bool (gt q_2 1000000000000)) (w' := w_12) (by kernel_rfl) (run_gt (k := .u64) (a := q_2) (b := 1000000000000) (by kernel_rfl) (by kernel_rfl)) ?_
              refine wl_nil ?_
              refine then_n ?_
              refine cw_cond (t := (gt q_2 1000000000000)) (by kernel_rfl) (fun hc_15 => ?_) (fun hc_15 => ?_)
              · have hm := ite_t hm hc_15
                refine cw_seq ?_
                refine cw_region ?_
                refine wl_val (v := .agg #[.int .i64 0, .int .u8 0]) (w' := w_12) (by kernel_rfl) (by kernel_rfl) ?_
                refine wl_op (by kernel_rfl) (ow_store_box' (g := g_2) (j := 0) (v := .agg #[.int .i64 0, .int .u8 0]) (vs := [.int .i64 0, .int .u8 0]) (cs' := [.int .i64 0, .int .u8 0]) sz_23 (by kernel_rfl) (by kernel_rfl) rfl rfl rfl hL h_2 rfl (by simp) rfl ?_)
                intro w_13 hS h_10
                replace h_1 := hS.box h_1 (hL.apart 1 0 rfl rfl (by decide) _ rfl)
                replace hB := hS.below hL hB
                replace hL := hS.hL
                refine wl_val (v := .bool false) (w' := w_13) (by kernel_rfl) (run_assign (v := .bool false) (by kernel_rfl)) ?_
                refine wl_nil ?_
                refine then_n ?_
                refine cw_ret ?_
                refine then_ret ?_
                have hl0 := loadVar_boxn (P := Tryd.prog) (j := 0) (vs := [.int .i64 0, .int .u8 0]) Tryd.underlying23 rfl sz_23 h_10 (by kernel_rfl) rfl
                have hS : Stp w0.heap.size _ [] F [] w_13 _ := Stp.pick hL [] rfl (by decide)
                replace hB := hS.below hL hB
                replace hL := hS.hL
                obtain rfl := Option.some.inj hm
                exact ret2 (v := .agg #[.int .i64 0, .int .u8 0]) (v' := .bool false) rfl (resv_cell (ad := ⟨g_2, 0, none⟩) (by kernel_rfl) hl0) (resv_tmp (by kernel_rfl)) ⟨_, rfl, by kernel_rfl, hB⟩
              · have hm := ite_f hm hc_15
                refine cw_skip ?_
                refine then_n ?_
                refine cw_seq ?_
                refine cw_region ?_
                refine wl_val (v := .int .u64 q_2) (w' := w_12) (by kernel_rfl) (run_move (v := .int .u64 q_2) (by kernel_rfl)) ?_
                refine wl_val (v := .int .i64 (cvt .i64 q_2)) (w' := w_12) (by kernel_rfl) (run_cvt (k := .u64) (a := q_2) Tryd.underlying55 Tryd.underlying2 (by kernel_rfl)) ?_
                refine wl_val (v := .int .i64 (cvt .i64 q_2)) (w' := w_12) (by kernel_rfl) (run_assign (v := .int .i64 (cvt .i64 q_2)) (by kernel_rfl)) ?_
                refine wl_nil ?_
                refine then_n ?_
                refine cw_cut (fun l' w' => ∃ n_2, ∃ u_9 : Nat → Value, l' = [.agg #[.int .i64 p0_0.N, .int .u8 p0_0.D], .int .i64 p1_0, .int .i64 p2_0, .pointer (some ⟨g_1, 0, none⟩), undef, undef, .pointer (some ⟨g_2, 0, none⟩), .bool false, .int .i64 n_2, .int .u64 r_3.1, .int .u64 r_3.2, .int .u64 q_2, .int .u64 r_4.2, .int .u8 places_2, (u_1 0), (u_1 1), (u_1 2), (u_1 3), (u_1 4), (u_1 5), (u_1 6), (u_1 7), (u_1 8), (u_1 9), (u_1 10), (u_1 11), (u_1 12), (u_1 13), (u_1 14), (u_1 15), (u_1 16), (u_1 17), .bool x_1, undef, .pointer (some ⟨g_1, 0, none⟩), .int .i64 p0_0.N, (u_2 0), (u_2 1), (u_2 2), (u_2 3), .tuple #[.int .u64 r_3.1, .int .u64 r_3.2], .int .i64 n_1, .pointer (some ⟨g_1, 1, none⟩), .int .u8 p0_0.D, .int .i64 (cvt .i64 p0_0.D), .int .i64 (sub .i64 6 (cvt .i64 p0_0.D)), .int .i64 r_2, .int .i64 (mul .i64 n_1 r_2), .int .u64 (cvt .u64 (mul .i64 n_1 r_2)), .int .i64 p1_0, .int .u64 (cvt .u64 p1_0), .tuple #[.int .u64 r_3.1, .int .u64 r_3.2], .int .u64 r_3.1, .int .u64 r_3.2, .int .u64 r_3.1, .int .i64 p2_0, .int .u64 (cvt .u64 p2_0), .bool (ge r_3.1 (cvt .u64 p2_0)), undef, .tuple #[.int .u64 r_4.1, .int .u64 r_4.2], .int .u64 r_3.1, .int .u64 r_3.2, .int .i64 p2_0, .int .u64 (cvt .u64 p2_0), .tuple #[.int .u64 r_4.1, .int .u64 r_4.2], .int .u64 r_4.1, .int .u64 r_4.2, .int .u64 r_4.2, .bool (nei r_4.2 0), undef, (u_8 0), (u_8 1), (u_8 2), (u_8 3), (u_8 4), (u_8 5), (u_8 6), (u_8 7), (u_8 8), (u_8 9), (u_8 10), .int .u64 q_2, .bool (gt q_2 1000000000000), undef, .int .u64 q_2, .int .i64 (cvt .i64 q_2), (u_9 0), (u_9 1), (u_9 2), (u_9 3), (u_9 4), undef, undef, undef] ∧ LOk w0.heap.size [some g_2] F w' ∧ Below w0.heap.size w0 w' ∧ Bx w' g_2 [.int .i64 0, .int .u8 0] 23 ∧ m13_J4 fuel places_2 n_2 = some r) ?_ ?_
                · refine cw_seq ?_
                  refine cw_region ?_
                  refine wl_val (v := .pointer (some ⟨g_1, 0, none⟩)) (w' := w_12) (by kernel_rfl) (run_fieldAddr (b := g_1) (o := 0) fo_23_0 (by kernel_rfl)) ?_
                  refine wl_val (v := .int .i64 p0_0.N) (w' := w_12) (by kernel_rfl) (run_load_box1 (j := 0) Tryd.underlying2 rfl (by kernel_rfl) h_1 (by kernel_rfl)) ?_
                  refine wl_val (v := .bool (lt p0_0.N 0)) (w' := w_12) (by kernel_rfl) (run_lt (k := .i64) (a := p0_0.N) (b := 0) (by kernel_rfl) (by kernel_rfl)) ?_
                  refine wl_nil ?_
                  refine then_n ?_
                  refine cw_cond (t := (lt p0_0.N 0)) (by kernel_rfl) (fun hc_17 => ?_) (fun hc_17 => ?_)
                  · have hm := ite_t hm hc_17
                    refine cw_region ?_
                    refine wl_val (v := .int .i64 (cvt .i64 q_2)) (w' := w_12) (by kernel_rfl) (run_move (v := .int .i64 (cvt .i64 q_2)) (by kernel_rfl)) ?_
                    refine wl_val (v := .int .i64 (neg .i64 (cvt .i64 q_2))) (w' := w_12) (by kernel_rfl) (run_neg (k := .i64) (a := (cvt .i64 q_2)) (by kernel_rfl)) ?_
                    refine wl_val (v := .int .i64 (neg .i64 (cvt .i64 q_2))) (w' := w_12) (by kernel_rfl) (run_assign (v := .int .i64 (neg .i64 (cvt .i64 q_2))) (by kernel_rfl)) ?_
                    refine wl_nil ?_
                    have hS : Stp w0.heap.size _ [some g_2] F [] w_12 _ := Stp.pick hL [0] rfl (by decide)
                    replace h_2 := hS.box h_2 nilN
                    replace hB := hS.below hL hB
                    replace hL := hS.hL
                    exact then_c ⟨(neg .i64 (cvt .i64 q_2)), (fun i => ([.pointer (some ⟨g_1, 0, none⟩), .int .i64 p0_0.N, .bool (lt p0_0.N 0), .int .i64 (cvt .i64 q_2), .int .i64 (neg .i64 (cvt .i64 q_2))] : List Value).getD i undef), by kernel_rfl, hL, hB, h_2, hm⟩
                  · have hm := ite_f hm hc_17
                    refine cw_skip ?_
                    have hS : Stp w0.heap.size _ [some g_2] F [] w_12 _ := Stp.pick hL [0] rfl (by decide)
                    replace h_2 := hS.box h_2 nilN
                    replace hB := hS.below hL hB
                    replace hL := hS.hL
                    exact then_c ⟨(cvt .i64 q_2), (fun i => ([.pointer (some ⟨g_1, 0, none⟩), .int .i64 p0_0.N, .bool (lt p0_0.N 0), undef, undef] : List Value).getD i undef), by kernel_rfl, hL, hB, h_2, hm⟩
                · intro l1 w_14 hI
                  obtain ⟨n_2, u_9, rfl, hL, hB, h_2, hm⟩ := hI
                  unfold m13_J4 at hm
                  refine cw_seq ?_
                  refine cw_region ?_
                  refine wl_val (v := .int .i64 n_2) (w' := w_14) (by kernel_rfl) (run_move (v := .int .i64 n_2) (by kernel_rfl)) ?_
                  refine wl_val (v := .int .u8 places_2) (w' := w_14) (by kernel_rfl) (run_move (v := .int .u8 places_2) (by kernel_rfl)) ?_
                  refine wl_val (v := .agg #[.int .i64 n_2, .int .u8 places_2]) (w' := w_14) (by kernel_rfl) (by kernel_rfl) ?_
                  refine wl_op (by kernel_rfl) (ow_store_box' (g := g_2) (j := 0) (v := .agg #[.int .i64 n_2, .int .u8 places_2]) (vs := [.int .i64 n_2, .int .u8 places_2]) (cs' := [.int .i64 n_2, .int .u8 places_2]) sz_23 (by kernel_rfl) (by kernel_rfl) rfl rfl rfl hL h_2 rfl (by simp) rfl ?_)
                  intro w_15 hS h_11
                  replace hB := hS.below hL hB
                  replace hL := hS.hL
                  refine wl_val (v := .bool true) (w' := w_15) (by kernel_rfl) (run_assign (v := .bool true) (by kernel_rfl)) ?_
                  refine wl_nil ?_
                  refine then_n ?_
                  refine cw_ret ?_
                  have hl0 := loadVar_boxn (P := Tryd.prog) (j := 0) (vs := [.int .i64 n_2, .int .u8 places_2]) Tryd.underlying23 rfl sz_23 h_11 (by kernel_rfl) rfl
                  have hS : Stp w0.heap.size _ [] F [] w_15 _ := Stp.pick hL [] rfl (by decide)
                  replace hB := hS.below hL hB
                  replace hL := hS.hL
                  obtain rfl := Option.some.inj hm
                  exact ret2 (v := .agg #[.int .i64 n_2, .int .u8 places_2]) (v' := .bool true) rfl (resv_cell (ad := ⟨g_2, 0, none⟩) (by kernel_rfl) hl0) (resv_tmp (by kernel_rfl)) ⟨_, rfl, by kernel_rfl, hB⟩
end SxYtihfogahdofdmaaDoor
