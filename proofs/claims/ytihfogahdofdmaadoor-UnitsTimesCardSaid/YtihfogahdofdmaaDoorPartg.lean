/- Proved in the last of these 10 parts (this is part 7): UnitsTimes: for every argument the card's run of the law answers true. Conditions: those of the given statement, and no others. -/
import Derived.Test.YtihfogahdofdmaaDoorPartc
import Derived.Test.YtihfogahdofdmaaDoorPartd
import Derived.Test.YtihfogahdofdmaaDoorPartf
set_option linter.unusedVariables false
set_option linter.unusedSimpArgs false
set_option linter.unusedSectionVars false
section
/- Written by program (gen.py): the model of internal/strconv.bool2[int], and the proof that its code computes it. -/
namespace SxYtihfogahdofdmaaDoor
open Go Go.RowKit Sx Go.Proofs
set_option linter.unusedVariables false
set_option linter.unusedSimpArgs false
attribute [local irreducible] WL WX CW OW
/-! ### 89: "internal/strconv.bool2[int]" -/
def m89 (fuel : Nat) (p0_0 : Bool) : Option Int :=
  if p0_0 then (some 1) else (some 0)
@[reducible] def Q89 (F : Lx) (w0 : World) (r : Int) (v : Value) (w' : World) : Prop := v = .int .i64 r ∧ Below w0.heap.size w0 w'
set_option maxRecDepth 100000 in
set_option maxHeartbeats 4000000 in
theorem f89_ok (fuel : Nat) (F : Lx) (w0 : World) (hF : ∀ k, some k ∈ F → k < w0.heap.size) {p0_0 : Bool} {r : Int} (hm : m89 fuel p0_0 = some r) :
    Calls Tryd.prog 89 #[.bool p0_0] w0 (fun e w' => ∃ v, e = .returned v ∧ Q89 F w0 r v w') := by
  have hPF : PF (bodyPost Tryd.prog Tryd.f89 (fun e w' => ∃ v, e = .returned v ∧ Q89 F w0 r v w')) := PF.body (fun c w h => by obtain ⟨v, e, _⟩ := h; cases e)
  have hL := LOk.start hF
  have hB := Below.refl w0.heap.size w0
  unfold m89 at hm
  refine enter (l := [.bool p0_0, undef, undef, undef]) Tryd.func89 rfl Tryd.ntmps89 (by kernel_rfl) ?_
  refine cw_seq ?_
  refine cw_region ?_
  refine wl_val (v := .int .i64 0) (w' := w0) (by kernel_rfl) (run_assign (v := .int .i64 0) (by kernel_rfl)) ?_
  refine wl_nil ?_
  refine then_n ?_
  refine cw_seq ?_
  refine cw_seq ?_
  refine cw_region ?_
  refine wl_val (v := .bool p0_0) (w' := w0) (by kernel_rfl) (run_move (v := .bool p0_0) (by kernel_rfl)) ?_
  refine wl_nil ?_
  refine then_n ?_
  refine cw_cond (t := p0_0) (by kernel_rfl) (fun hc_1 => ?_) (fun hc_1 => ?_)
  · have hm := ite_t hm hc_1
    refine cw_seq ?_
    refine cw_region ?_
    refine wl_val (v := .int .i64 1) (w' := w0) (by kernel_rfl) (run_assign (v := .int .i64 1) (by kernel_rfl)) ?_
    refine wl_nil ?_
    refine then_n ?_
    refine cw_ret ?_
    refine then_ret ?_
    obtain rfl := Option.some.inj hm
    exact ret1 (v := .int .i64 1) rfl (resv_tmp (by kernel_rfl)) ⟨_, rfl, by kernel_rfl, hB⟩
  · have hm := ite_f hm hc_1
    refine cw_skip ?_
    refine then_n ?_
    refine cw_seq ?_
    refine cw_region ?_
    refine wl_val (v := .int .i64 0) (w' := w0) (by kernel_rfl) (run_assign (v := .int .i64 0) (by kernel_rfl)) ?_
    refine wl_nil ?_
    refine then_n ?_
    refine cw_ret ?_
    obtain rfl := Option.some.inj hm
    exact ret1 (v := .int .i64 0) rfl (resv_tmp (by kernel_rfl)) ⟨_, rfl, by kernel_rfl, hB⟩
end SxYtihfogahdofdmaaDoor

end

section
/- Written by program (gen.py): the model of internal/strconv.numDigits, and the proof that its code computes it. -/
namespace SxYtihfogahdofdmaaDoor
open Go Go.RowKit Sx Go.Proofs
set_option linter.unusedVariables false
set_option linter.unusedSimpArgs false
attribute [local irreducible] WL WX CW OW
/-! ### 76: "internal/strconv.numDigits" -/
def m76 (fuel : Nat) (p0_0 : Int) : Option Int :=
  (m74 fuel p0_0).bind fun r_1 => (m88 fuel r_1).bind fun r_2 => none
@[reducible] def Q76 (F : Lx) (w0 : World) (r : Int) (v : Value) (w' : World) : Prop := v = .int .i64 r ∧ Below w0.heap.size w0 w'
set_option maxRecDepth 100000 in
set_option maxHeartbeats 4000000 in
theorem f76_ok (fuel : Nat) (F : Lx) (w0 : World) (hF : ∀ k, some k ∈ F → k < w0.heap.size) {p0_0 : Int} {r : Int} (hm : m76 fuel p0_0 = some r) :
    Calls Tryd.prog 76 #[.int .u64 p0_0] w0 (fun e w' => ∃ v, e = .returned v ∧ Q76 F w0 r v w') := by
  have hPF : PF (bodyPost Tryd.prog Tryd.f76 (fun e w' => ∃ v, e = .returned v ∧ Q76 F w0 r v w')) := PF.body (fun c w h => by obtain ⟨v, e, _⟩ := h; cases e)
  have hL := LOk.start hF
  have hB := Below.refl w0.heap.size w0
  unfold m76 at hm
  refine enter (l := [.int .u64 p0_0, undef, undef, undef, undef, undef, undef, undef, undef, undef, undef, undef, undef, undef, undef]) Tryd.func76 rfl Tryd.ntmps76 (by kernel_rfl) ?_
  refine cw_seq ?_
  refine cw_region ?_
  refine wl_val (v := .int .i64 0) (w' := w0) (by kernel_rfl) (run_assign (v := .int .i64 0) (by kernel_rfl)) ?_
  refine wl_nil ?_
  refine then_n ?_
  refine cw_seq ?_
  refine cw_region ?_
  refine wl_val (v := .int .u64 p0_0) (w' := w0) (by kernel_rfl) (run_move (v := .int .u64 p0_0) (by kernel_rfl)) ?_
  obtain ⟨r_1, h_1, hm⟩ := bind_e hm
  refine wl_op (by kernel_rfl) (ow_enter (run_callf (vs := [.int .u64 p0_0]) Tryd.func74 nm_74 (by kernel_rfl) (by kernel_rfl)) (f74_ok (p0_0 := p0_0) fuel _ w0 hL.lt  h_1) ?_)
  intro vR w_1 hR
  obtain ⟨rfl, hBe⟩ := hR
  have hS := Stp.call hL (Fz.of_below hBe [])
  replace hB := hS.below hL hB
  replace hL := hS.hL
  obtain ⟨r_2, h_2, hm⟩ := bind_e hm
  refine wl_op (by kernel_rfl) (ow_enter (run_callf (vs := [.int .i64 r_1]) Tryd.func88 nm_88 (by kernel_rfl) (by kernel_rfl)) (f88_ok (p0_0 := r_1) fuel _ w_1 hL.lt  h_2) ?_)
  intro vR w_2 hR
  obtain ⟨rfl, hBe⟩ := hR
  have hS := Stp.call hL (Fz.of_below hBe [])
  replace hB := hS.below hL hB
  replace hL := hS.hL
  refine wl_val (v := .int .i64 r_2) (w' := w_2) (by kernel_rfl) (run_assign (v := .int .i64 r_2) (by kernel_rfl)) ?_
  refine wl_nil ?_
  refine then_n ?_
  refine cw_seq ?_
  refine cw_region ?_
  refine wl_val (v := .int .i64 r_2) (w' := w_2) (by kernel_rfl) (run_move (v := .int .i64 r_2) (by kernel_rfl)) ?_
  refine wl_val (v := .int .u64 p0_0) (w' := w_2) (by kernel_rfl) (run_move (v := .int .u64 p0_0) (by kernel_rfl)) ?_
  refine wl_val (v := .int .i64 r_2) (w' := w_2) (by kernel_rfl) (run_move (v := .int .i64 r_2) (by kernel_rfl)) ?_
  cases hm
end SxYtihfogahdofdmaaDoor

end

section
/- Written by program (gen.py): the model of internal/strconv.isPowerOfTwo, and the proof that its code computes it. -/
namespace SxYtihfogahdofdmaaDoor
open Go Go.RowKit Sx Go.Proofs
set_option linter.unusedVariables false
set_option linter.unusedSimpArgs false
attribute [local irreducible] WL WX CW OW
/-! ### 90: "internal/strconv.isPowerOfTwo" -/
def m90 (fuel : Nat) (p0_0 : Int) : Option Bool :=
  some (eqi (band .i64 p0_0 (sub .i64 p0_0 1)) 0)
@[reducible] def Q90 (F : Lx) (w0 : World) (r : Bool) (v : Value) (w' : World) : Prop := v = .bool r ∧ Below w0.heap.size w0 w'
set_option maxRecDepth 100000 in
set_option maxHeartbeats 4000000 in
theorem f90_ok (fuel : Nat) (F : Lx) (w0 : World) (hF : ∀ k, some k ∈ F → k < w0.heap.size) {p0_0 : Int} {r : Bool} (hm : m90 fuel p0_0 = some r) :
    Calls Tryd.prog 90 #[.int .i64 p0_0] w0 (fun e w' => ∃ v, e = .returned v ∧ Q90 F w0 r v w') := by
  have hPF : PF (bodyPost Tryd.prog Tryd.f90 (fun e w' => ∃ v, e = .returned v ∧ Q90 F w0 r v w')) := PF.body (fun c w h => by obtain ⟨v, e, _⟩ := h; cases e)
  have hL := LOk.start hF
  have hB := Below.refl w0.heap.size w0
  unfold m90 at hm
  refine enter (l := [.int .i64 p0_0, undef, undef, undef, undef, undef, undef, undef]) Tryd.func90 rfl Tryd.ntmps90 (by kernel_rfl) ?_
  refine cw_seq ?_
  refine cw_region ?_
  refine wl_val (v := .bool false) (w' := w0) (by kernel_rfl) (run_assign (v := .bool false) (by kernel_rfl)) ?_
  refine wl_nil ?_
  refine then_n ?_
  refine cw_seq ?_
  refine cw_region ?_
  refine wl_val (v := .int .i64 p0_0) (w' := w0) (by kernel_rfl) (run_move (v := .int .i64 p0_0) (by kernel_rfl)) ?_
  refine wl_val (v := .int .i64 p0_0) (w' := w0) (by kernel_rfl) (run_move (v := .int .i64 p0_0) (by kernel_rfl)) ?_
  refine wl_val (v := .int .i64 (sub .i64 p0_0 1)) (w' := w0) (by kernel_rfl) (run_sub (k := .i64) (a := p0_0) (b := 1) (by kernel_rfl) (by kernel_rfl)) ?_
  refine wl_val (v := .int .i64 (band .i64 p0_0 (sub .i64 p0_0 1))) (w' := w0) (by kernel_rfl) (run_band (k := .i64) (a := p0_0) (b := (sub .i64 p0_0 1)) (by kernel_rfl) (by kernel_rfl)) ?_
  refine wl_val (v := .bool (eqi (band .i64 p0_0 (sub .i64 p0_0 1)) 0)) (w' := w0) (by kernel_rfl) (run_eqi (k := .i64) (a := (band .i64 p0_0 (sub .i64 p0_0 1))) (b := 0) (by kernel_rfl) (by kernel_rfl)) ?_
  refine wl_val (v := .bool (eqi (band .i64 p0_0 (sub .i64 p0_0 1)) 0)) (w' := w0) (by kernel_rfl) (run_assign (v := .bool (eqi (band .i64 p0_0 (sub .i64 p0_0 1)) 0)) (by kernel_rfl)) ?_
  refine wl_nil ?_
  refine then_n ?_
  refine cw_ret ?_
  obtain rfl := Option.some.inj hm
  exact ret1 (v := .bool (eqi (band .i64 p0_0 (sub .i64 p0_0 1)) 0)) rfl (resv_tmp (by kernel_rfl)) ⟨_, rfl, by kernel_rfl, hB⟩
end SxYtihfogahdofdmaaDoor

end

section
/- Written by program (gen.py): the model of math/bits.TrailingZeros32, and the proof that its code computes it. -/
namespace SxYtihfogahdofdmaaDoor
open Go Go.RowKit Sx Go.Proofs
set_option linter.unusedVariables false
set_option linter.unusedSimpArgs false
attribute [local irreducible] WL WX CW OW
/-! ### 97: "math/bits.TrailingZeros32" -/
def m97 (fuel : Nat) (p0_0 : Int) : Option Int :=
  if (eqi p0_0 0) then (some 32) else ((some (shr .u32 (mul .u32 (band .u32 p0_0 (neg .u32 p0_0)) 125613361) 27)).bind fun x_1 => none)
@[reducible] def Q97 (F : Lx) (w0 : World) (r : Int) (v : Value) (w' : World) : Prop := v = .int .i64 r ∧ Below w0.heap.size w0 w'
set_option maxRecDepth 100000 in
set_option maxHeartbeats 4000000 in
theorem f97_ok (fuel : Nat) (F : Lx) (w0 : World) (hF : ∀ k, some k ∈ F → k < w0.heap.size) {p0_0 : Int} {r : Int} (hm : m97 fuel p0_0 = some r) :
    Calls Tryd.prog 97 #[.int .u32 p0_0] w0 (fun e w' => ∃ v, e = .returned v ∧ Q97 F w0 r v w') := by
  have hPF : PF (bodyPost Tryd.prog Tryd.f97 (fun e w' => ∃ v, e = .returned v ∧ Q97 F w0 r v w')) := PF.body (fun c w h => by obtain ⟨v, e, _⟩ := h; cases e)
  have hL := LOk.start hF
  have hB := Below.refl w0.heap.size w0
  unfold m97 at hm
  refine enter (l := [.int .u32 p0_0, undef, undef, undef, undef, undef, undef, undef, undef, undef, undef, undef, undef, undef]) Tryd.func97 rfl Tryd.ntmps97 (by kernel_rfl) ?_
  refine cw_seq ?_
  refine cw_region ?_
  refine wl_val (v := .int .i64 0) (w' := w0) (by kernel_rfl) (run_assign (v := .int .i64 0) (by kernel_rfl)) ?_
  refine wl_nil ?_
  refine then_n ?_
  refine cw_seq ?_
  refine cw_seq ?_
  refine cw_region ?_
  refine wl_val (v := .int .u32 p0_0) (w' := w0) (by kernel_rfl) (run_move (v := .int .u32 p0_0) (by kernel_rfl)) ?_
  refine wl_val (v := .bool (eqi p0_0 0)) (w' := w0) (by kernel_rfl) (run_eqi (k := .u32) (a := p0_0) (b := 0) (by kernel_rfl) (by kernel_rfl)) ?_
  refine wl_nil ?_
  refine then_n ?_
  refine cw_cond (t := (eqi p0_0 0)) (by kernel_rfl) (fun hc_1 => ?_) (fun hc_1 => ?_)
  · have hm := ite_t hm hc_1
    refine cw_seq ?_
    refine cw_region ?_
    refine wl_val (v := .int .i64 32) (w' := w0) (by kernel_rfl) (run_assign (v := .int .i64 32) (by kernel_rfl)) ?_
    refine wl_nil ?_
    refine then_n ?_
    refine cw_ret ?_
    refine then_ret ?_
    obtain rfl := Option.some.inj hm
    exact ret1 (v := .int .i64 32) rfl (resv_tmp (by kernel_rfl)) ⟨_, rfl, by kernel_rfl, hB⟩
  · have hm := ite_f hm hc_1
    refine cw_skip ?_
    refine then_n ?_
    refine cw_seq ?_
    refine cw_region ?_
    refine wl_val (v := .int .u32 p0_0) (w' := w0) (by kernel_rfl) (run_move (v := .int .u32 p0_0) (by kernel_rfl)) ?_
    refine wl_val (v := .int .u32 p0_0) (w' := w0) (by kernel_rfl) (run_move (v := .int .u32 p0_0) (by kernel_rfl)) ?_
    refine wl_val (v := .int .u32 (neg .u32 p0_0)) (w' := w0) (by kernel_rfl) (run_neg (k := .u32) (a := p0_0) (by kernel_rfl)) ?_
    refine wl_val (v := .int .u32 (band .u32 p0_0 (neg .u32 p0_0))) (w' := w0) (by kernel_rfl) (run_band (k := .u32) (a := p0_0) (b := (neg .u32 p0_0)) (by kernel_rfl) (by kernel_rfl)) ?_
    refine wl_val (v := .int .u32 (mul .u32 (band .u32 p0_0 (neg .u32 p0_0)) 125613361)) (w' := w0) (by kernel_rfl) (run_mul (k := .u32) (a := (band .u32 p0_0 (neg .u32 p0_0))) (b := 125613361) (by kernel_rfl) (by kernel_rfl)) ?_
    obtain ⟨x_1, h_1, hm⟩ := bind_e hm
    refine wl_val (v := .int .u32 x_1) (w' := w0) (by kernel_rfl) (by rw [← Option.some.inj h_1]; exact run_shr (k := .u32) (a := (mul .u32 (band .u32 p0_0 (neg .u32 p0_0)) 125613361)) (k' := .u64) (b := 27) (by kernel_rfl) (by kernel_rfl) rfl) ?_
    cases hm
end SxYtihfogahdofdmaaDoor

end

section
/- Written by program (gen.py): the model of math/bits.TrailingZeros64, and the proof that its code computes it. -/
namespace SxYtihfogahdofdmaaDoor
open Go Go.RowKit Sx Go.Proofs
set_option linter.unusedVariables false
set_option linter.unusedSimpArgs false
attribute [local irreducible] WL WX CW OW
/-! ### 98: "math/bits.TrailingZeros64" -/
def m98 (fuel : Nat) (p0_0 : Int) : Option Int :=
  if (eqi p0_0 0) then (some 64) else ((some (mul .u64 (band .u64 p0_0 (neg .u64 p0_0)) 285870213051353865)).bind fun x_1 => none)
@[reducible] def Q98 (F : Lx) (w0 : World) (r : Int) (v : Value) (w' : World) : Prop := v = .int .i64 r ∧ Below w0.heap.size w0 w'
set_option maxRecDepth 100000 in
set_option maxHeartbeats 4000000 in
theorem f98_ok (fuel : Nat) (F : Lx) (w0 : World) (hF : ∀ k, some k ∈ F → k < w0.heap.size) {p0_0 : Int} {r : Int} (hm : m98 fuel p0_0 = some r) :
    Calls Tryd.prog 98 #[.int .u64 p0_0] w0 (fun e w' => ∃ v, e = .returned v ∧ Q98 F w0 r v w') := by
  have hPF : PF (bodyPost Tryd.prog Tryd.f98 (fun e w' => ∃ v, e = .returned v ∧ Q98 F w0 r v w')) := PF.body (fun c w h => by obtain ⟨v, e, _⟩ := h; cases e)
  have hL := LOk.start hF
  have hB := Below.refl w0.heap.size w0
  unfold m98 at hm
  refine enter (l := [.int .u64 p0_0, undef, undef, undef, undef, undef, undef, undef, undef, undef, undef, undef, undef, undef]) Tryd.func98 rfl Tryd.ntmps98 (by kernel_rfl) ?_
  refine cw_seq ?_
  refine cw_region ?_
  refine wl_val (v := .int .i64 0) (w' := w0) (by kernel_rfl) (run_assign (v := .int .i64 0) (by kernel_rfl)) ?_
  refine wl_nil ?_
  refine then_n ?_
  refine cw_seq ?_
  refine cw_seq ?_
  refine cw_region ?_
  refine wl_val (v := .int .u64 p0_0) (w' := w0) (by kernel_rfl) (run_move (v := .int .u64 p0_0) (by kernel_rfl)) ?_
  refine wl_val (v := .bool (eqi p0_0 0)) (w' := w0) (by kernel_rfl) (run_eqi (k := .u64) (a := p0_0) (b := 0) (by kernel_rfl) (by kernel_rfl)) ?_
  refine wl_nil ?_
  refine then_n ?_
  refine cw_cond (t := (eqi p0_0 0)) (by kernel_rfl) (fun hc_1 => ?_) (fun hc_1 => ?_)
  · have hm := ite_t hm hc_1
    refine cw_seq ?_
    refine cw_region ?_
    refine wl_val (v := .int .i64 64) (w' := w0) (by kernel_rfl) (run_assign (v := .int .i64 64) (by kernel_rfl)) ?_
    refine wl_nil ?_
    refine then_n ?_
    refine cw_ret ?_
    refine then_ret ?_
    obtain rfl := Option.some.inj hm
    exact ret1 (v := .int .i64 64) rfl (resv_tmp (by kernel_rfl)) ⟨_, rfl, by kernel_rfl, hB⟩
  · have hm := ite_f hm hc_1
    refine cw_skip ?_
    refine then_n ?_
    refine cw_seq ?_
    refine cw_region ?_
    refine wl_val (v := .int .u64 p0_0) (w' := w0) (by kernel_rfl) (run_move (v := .int .u64 p0_0) (by kernel_rfl)) ?_
    refine wl_val (v := .int .u64 p0_0) (w' := w0) (by kernel_rfl) (run_move (v := .int .u64 p0_0) (by kernel_rfl)) ?_
    refine wl_val (v := .int .u64 (neg .u64 p0_0)) (w' := w0) (by kernel_rfl) (run_neg (k := .u64) (a := p0_0) (by kernel_rfl)) ?_
    refine wl_val (v := .int .u64 (band .u64 p0_0 (neg .u64 p0_0))) (w' := w0) (by kernel_rfl) (run_band (k := .u64) (a := p0_0) (b := (neg .u64 p0_0)) (by kernel_rfl) (by kernel_rfl)) ?_
    obtain ⟨x_1, h_1, hm⟩ := bind_e hm
    refine wl_val (v := .int .u64 x_1) (w' := w0) (by kernel_rfl) (by rw [← Option.some.inj h_1]; exact run_mul (k := .u64) (a := (band .u64 p0_0 (neg .u64 p0_0))) (b := 285870213051353865) (by kernel_rfl) (by kernel_rfl)) ?_
    refine wl_val (v := .int .u64 (shr .u64 x_1 58)) (w' := w0) (by kernel_rfl) (run_shr (k := .u64) (a := x_1) (k' := .u64) (b := 58) (by kernel_rfl) (by kernel_rfl) rfl) ?_
    cases hm
end SxYtihfogahdofdmaaDoor

end

section
/- Written by program (gen.py): the model of math/bits.TrailingZeros, and the proof that its code computes it. -/
namespace SxYtihfogahdofdmaaDoor
open Go Go.RowKit Sx Go.Proofs
set_option linter.unusedVariables false
set_option linter.unusedSimpArgs false
attribute [local irreducible] WL WX CW OW
/-! ### 91: "math/bits.TrailingZeros" -/
def m91 (fuel : Nat) (p0_0 : Int) : Option Int :=
  (m98 fuel p0_0).bind fun r_1 => some r_1
@[reducible] def Q91 (F : Lx) (w0 : World) (r : Int) (v : Value) (w' : World) : Prop := v = .int .i64 r ∧ Below w0.heap.size w0 w'
set_option maxRecDepth 100000 in
set_option maxHeartbeats 4000000 in
theorem f91_ok (fuel : Nat) (F : Lx) (w0 : World) (hF : ∀ k, some k ∈ F → k < w0.heap.size) {p0_0 : Int} {r : Int} (hm : m91 fuel p0_0 = some r) :
    Calls Tryd.prog 91 #[.int .u64 p0_0] w0 (fun e w' => ∃ v, e = .returned v ∧ Q91 F w0 r v w') := by
  have hPF : PF (bodyPost Tryd.prog Tryd.f91 (fun e w' => ∃ v, e = .returned v ∧ Q91 F w0 r v w')) := PF.body (fun c w h => by obtain ⟨v, e, _⟩ := h; cases e)
  have hL := LOk.start hF
  have hB := Below.refl w0.heap.size w0
  unfold m91 at hm
  refine enter (l := [.int .u64 p0_0, undef, undef, undef, undef, undef, undef, undef]) Tryd.func91 rfl Tryd.ntmps91 (by kernel_rfl) ?_
  refine cw_seq ?_
  refine cw_region ?_
  refine wl_val (v := .int .i64 0) (w' := w0) (by kernel_rfl) (run_assign (v := .int .i64 0) (by kernel_rfl)) ?_
  refine wl_nil ?_
  refine then_n ?_
  refine cw_seq ?_
  refine cw_cond (t := false) (by kernel_rfl) (fun hc => by cases hc) (fun _ => ?_)
  refine cw_skip ?_
  refine then_n ?_
  refine cw_seq ?_
  refine cw_region ?_
  refine wl_val (v := .int .u64 p0_0) (w' := w0) (by kernel_rfl) (run_move (v := .int .u64 p0_0) (by kernel_rfl)) ?_
  obtain ⟨r_1, h_1, hm⟩ := bind_e hm
  refine wl_op (by kernel_rfl) (ow_enter (run_callf (vs := [.int .u64 p0_0]) Tryd.func98 nm_98 (by kernel_rfl) (by kernel_rfl)) (f98_ok (p0_0 := p0_0) fuel _ w0 hL.lt  h_1) ?_)
  intro vR w_1 hR
  obtain ⟨rfl, hBe⟩ := hR
  have hS := Stp.call hL (Fz.of_below hBe [])
  replace hB := hS.below hL hB
  replace hL := hS.hL
  refine wl_val (v := .int .i64 r_1) (w' := w_1) (by kernel_rfl) (run_assign (v := .int .i64 r_1) (by kernel_rfl)) ?_
  refine wl_nil ?_
  refine then_n ?_
  refine cw_ret ?_
  obtain rfl := Option.some.inj hm
  exact ret1 (v := .int .i64 r_1) rfl (resv_tmp (by kernel_rfl)) ⟨_, rfl, by kernel_rfl, hB⟩
end SxYtihfogahdofdmaaDoor

end

section
/- Written by program (gen.py): the model of internal/strconv.formatBits, and the proof that its code computes it. -/
namespace SxYtihfogahdofdmaaDoor
open Go Go.RowKit Sx Go.Proofs
set_option linter.unusedVariables false
set_option linter.unusedSimpArgs false
attribute [local irreducible] WL WX CW OW
/-! ### 78: "internal/strconv.formatBits" -/
def m78_J1 (fuel : Nat) : Option ((List Int) × (List UInt8)) :=
  none
def m78_J2 (fuel : Nat) (x_2 : Bool) : Option ((List Int) × (List UInt8)) :=
  if x_2 then (none) else (m78_J1 fuel  )
def m78 (fuel : Nat) (p0_0 : (List Int)) (p1_0 : Int) (p2_0 : Int) (p3_0 : Bool) (p4_0 : Bool) : Option ((List Int) × (List UInt8)) :=
  if (lt p2_0 2) then (m78_J2 fuel  true) else (if (eqi p2_0 10) then (m78_J2 fuel  true) else (m78_J2 fuel  (gt p2_0 36)))
@[reducible] def Q78 (F : Lx) (w0 : World) (r : ((List Int) × (List UInt8))) (v : Value) (w' : World) : Prop := ∃ a0 n0 c0, v = .tuple #[.slice a0 n0 c0, .string ⟨⟨r.2⟩⟩] ∧ Below w0.heap.size w0 w' ∧ Ow (Rp.int .u8) 5 ([blk a0] ++ F) w' a0 n0 c0 r.1 ∧ (∀ k, blk a0 = some k → w0.heap.size ≤ k ∧ k < w'.heap.size)
set_option maxRecDepth 100000 in
set_option maxHeartbeats 4000000 in
theorem f78_ok (fuel : Nat) (F : Lx) (w0 : World) (hF : ∀ k, some k ∈ F → k < w0.heap.size) {p0_0 : (List Int)} {p1_0 : Int} {p2_0 : Int} {p3_0 : Bool} {p4_0 : Bool} {a_1 : Option Addr} {n_1 c_1 : Nat} (h_1 : (Rp.slice (Rp.int .u8)).rel F w0 [.slice a_1 n_1 c_1] p0_0) {r : ((List Int) × (List UInt8))} (hm : m78 fuel p0_0 p1_0 p2_0 p3_0 p4_0 = some r) :
    Calls Tryd.prog 78 #[.slice a_1 n_1 c_1, .int .u64 p1_0, .int .i64 p2_0, .bool p3_0, .bool p4_0] w0 (fun e w' => ∃ v, e = .returned v ∧ Q78 F w0 r v w') := by
  have hPF : PF (bodyPost Tryd.prog Tryd.f78 (fun e w' => ∃ v, e = .returned v ∧ Q78 F w0 r v w')) := PF.body (fun c w h => by obtain ⟨v, e, _⟩ := h; cases e)
  have hL := LOk.start hF
  have hB := Below.refl w0.heap.size w0
  obtain rfl := slice_len h_1
  have h_1 : (Rp.slice (Rp.int .u8)).rel ([] ++ F) w0 _ _ := h_1
  unfold m78 at hm
  refine enter (l := [.slice a_1 p0_0.length c_1, .int .u64 p1_0, .int .i64 p2_0, .bool p3_0, .bool p4_0, undef, undef, undef, undef, undef, undef, undef, undef, undef, undef, undef, undef, undef, undef, undef, undef, undef, undef, undef, undef, undef, undef, undef, undef, undef, undef, undef, undef, undef, undef, undef, undef, undef, undef, undef, undef, undef, undef, undef, undef, undef, undef, undef, undef, undef, undef, undef, undef, undef, undef, undef, undef, undef, undef, undef, undef, undef, undef, undef, undef, undef, undef, undef, undef, undef, undef, undef, undef, undef, undef, undef, undef, undef, undef, undef, undef, undef, undef, undef, undef, undef, undef, undef, undef, undef, undef, undef, undef, undef, undef, undef, undef, undef, undef, undef, undef, undef]) Tryd.func78 rfl Tryd.ntmps78 (by kernel_rfl) ?_
  refine cw_seq ?_
  refine cw_region ?_
  refine wl_val (v := .slice none 0 0) (w' := w0) (by kernel_rfl) (run_assign (v := .slice none 0 0) (by kernel_rfl)) ?_
  refine wl_val (v := .string ⟨⟨([] : List UInt8)⟩⟩) (w' := w0) (by kernel_rfl) (run_assign (v := .string ⟨⟨([] : List UInt8)⟩⟩) (by kernel_rfl)) ?_
  refine wl_nil ?_
  refine then_n ?_
  refine cw_cut (fun l' w' => ∃ u_2 : Nat → Value, l' = [.slice a_1 p0_0.length c_1, .int .u64 p1_0, .int .i64 p2_0, .bool p3_0, .bool p4_0, undef, undef, undef, undef, undef, .slice none 0 0, .string ⟨⟨([] : List UInt8)⟩⟩, undef, undef, undef, undef, undef, undef, undef, (u_2 0), (u_2 1), (u_2 2), (u_2 3), (u_2 4), (u_2 5), (u_2 6), (u_2 7), (u_2 8), (u_2 9), (u_2 10), undef, undef, undef, undef, undef, undef, undef, undef, undef, undef, undef, undef, undef, undef, undef, undef, undef, undef, undef, undef, undef, undef, undef, undef, undef, undef, undef, undef, undef, undef, undef, undef, undef, undef, undef, undef, undef, undef, undef, undef, undef, undef, undef, undef, undef, undef, undef, undef, undef, undef, undef, undef, undef, undef, undef, undef, undef, undef, undef, undef, undef, undef, undef, undef, undef, undef, undef, undef, undef, undef, undef, undef] ∧ LOk w0.heap.size [] F w' ∧ Below w0.heap.size w0 w' ∧ (Rp.slice (Rp.int .u8)).rel ([] ++ F) w' [.slice a_1 p0_0.length c_1] p0_0 ∧ m78_J1 fuel  = some r) ?_ ?_
  · refine cw_cut (fun l' w' => ∃ x_2, ∃ u_3 : Nat → Value, l' = [.slice a_1 p0_0.length c_1, .int .u64 p1_0, .int .i64 p2_0, .bool p3_0, .bool p4_0, undef, undef, undef, undef, undef, .slice none 0 0, .string ⟨⟨([] : List UInt8)⟩⟩, undef, undef, undef, undef, undef, undef, undef, (u_3 0), (u_3 1), (u_3 2), (u_3 3), (u_3 4), (u_3 5), (u_3 6), (u_3 7), (u_3 8), .bool x_2, undef, undef, undef, undef, undef, undef, undef, undef, undef, undef, undef, undef, undef, undef, undef, undef, undef, undef, undef, undef, undef, undef, undef, undef, undef, undef, undef, undef, undef, undef, undef, undef, undef, undef, undef, undef, undef, undef, undef, undef, undef, undef, undef, undef, undef, undef, undef, undef, undef, undef, undef, undef, undef, undef, undef, undef, undef, undef, undef, undef, undef, undef, undef, undef, undef, undef, undef, undef, undef, undef, undef, undef, undef] ∧ LOk w0.heap.size [] F w' ∧ Below w0.heap.size w0 w' ∧ (Rp.slice (Rp.int .u8)).rel ([] ++ F) w' [.slice a_1 p0_0.length c_1] p0_0 ∧ m78_J2 fuel x_2 = some r) ?_ ?_
    · refine cw_region ?_
      refine wl_val (v := .int .i64 p2_0) (w' := w0) (by kernel_rfl) (run_move (v := .int .i64 p2_0) (by kernel_rfl)) ?_
      refine wl_val (v := .bool (lt p2_0 2)) (w' := w0) (by kernel_rfl) (run_lt (k := .i64) (a := p2_0) (b := 2) (by kernel_rfl) (by kernel_rfl)) ?_
      refine wl_val (v := .bool (lt p2_0 2)) (w' := w0) (by kernel_rfl) (run_move (v := .bool (lt p2_0 2)) (by kernel_rfl)) ?_
      rcases Bool.eq_false_or_eq_true (lt p2_0 2) with hc_7 | hc_7
      · have hm := ite_t hm hc_7
        refine wl_not0 (wg (c := (lt p2_0 2)) (want := false) (by kernel_rfl) hc_7 rfl) (by kernel_rfl) ?_
        refine wl_not0 (wg (c := (lt p2_0 2)) (want := false) (by kernel_rfl) hc_7 rfl) (by kernel_rfl) ?_
        refine wl_val (v := .bool true) (w' := w0) (by kernel_rfl) (run_pick_t (v := .bool true) (tr2 (c := (lt p2_0 2)) (by kernel_rfl) hc_7) (by kernel_rfl)) ?_
        refine wl_val (v := .bool true) (w' := w0) (by kernel_rfl) (run_move (v := .bool true) (by kernel_rfl)) ?_
        refine wl_not0 (by kernel_rfl) (by kernel_rfl) ?_
        refine wl_not0 (by kernel_rfl) (by kernel_rfl) ?_
        refine wl_val (v := .bool true) (w' := w0) (by kernel_rfl) (run_pick_t (v := .bool true) (by kernel_rfl) (by kernel_rfl)) ?_
        refine wl_nil ?_
        exact then_c ⟨true, (fun i => ([.int .i64 p2_0, .bool (lt p2_0 2), .bool (lt p2_0 2), undef, undef, .bool true, .bool true, undef, undef] : List Value).getD i undef), by kernel_rfl, hL, hB, h_1, hm⟩
      · have hm := ite_f hm hc_7
        refine wl_val (v := .int .i64 p2_0) (w' := w0) (wg (c := (lt p2_0 2)) (want := false) (by kernel_rfl) hc_7 rfl) (run_move (v := .int .i64 p2_0) (by kernel_rfl)) ?_
        refine wl_val (v := .bool (eqi p2_0 10)) (w' := w0) (wg (c := (lt p2_0 2)) (want := false) (by kernel_rfl) hc_7 rfl) (run_eqi (k := .i64) (a := p2_0) (b := 10) (by kernel_rfl) (by kernel_rfl)) ?_
        refine wl_val (v := .bool (eqi p2_0 10)) (w' := w0) (by kernel_rfl) (run_pick_f (v := .bool (eqi p2_0 10)) (tr2 (c := (lt p2_0 2)) (by kernel_rfl) hc_7) (by kernel_rfl)) ?_
        refine wl_val (v := .bool (eqi p2_0 10)) (w' := w0) (by kernel_rfl) (run_move (v := .bool (eqi p2_0 10)) (by kernel_rfl)) ?_
        refine wl_norm [.slice a_1 p0_0.length c_1, .int .u64 p1_0, .int .i64 p2_0, .bool p3_0, .bool p4_0, undef, undef, undef, undef, undef, .slice none 0 0, .string ⟨⟨([] : List UInt8)⟩⟩, undef, undef, undef, undef, undef, undef, undef, .int .i64 p2_0, .bool (lt p2_0 2), .bool (lt p2_0 2), .int .i64 p2_0, .bool (eqi p2_0 10), .bool (eqi p2_0 10), .bool (eqi p2_0 10), undef, undef, undef, undef, undef, undef, undef, undef, undef, undef, undef, undef, undef, undef, undef, undef, undef, undef, undef, undef, undef, undef, undef, undef, undef, undef, undef, undef, undef, undef, undef, undef, undef, undef, undef, undef, undef, undef, undef, undef, undef, undef, undef, undef, undef, undef, undef, undef, undef, undef, undef, undef, undef, undef, undef, undef, undef, undef, undef, undef, undef, undef, undef, undef, undef, undef, undef, undef, undef, undef, undef, undef, undef, undef, undef, undef] (by kernel_rfl) ?_
        rcases Bool.eq_false_or_eq_true (eqi p2_0 10) with hc_8 | hc_8
        · have hm := ite_t hm hc_8
          refine wl_not0 (wg (c := (eqi p2_0 10)) (want := false) (by kernel_rfl) hc_8 rfl) (by kernel_rfl) ?_
          refine wl_not0 (wg (c := (eqi p2_0 10)) (want := false) (by kernel_rfl) hc_8 rfl) (by kernel_rfl) ?_
          refine wl_val (v := .bool true) (w' := w0) (by kernel_rfl) (run_pick_t (v := .bool true) (tr2 (c := (eqi p2_0 10)) (by kernel_rfl) hc_8) (by kernel_rfl)) ?_
          refine wl_nil ?_
          exact then_c ⟨true, (fun i => ([.int .i64 p2_0, .bool (lt p2_0 2), .bool (lt p2_0 2), .int .i64 p2_0, .bool (eqi p2_0 10), .bool (eqi p2_0 10), .bool (eqi p2_0 10), undef, undef] : List Value).getD i undef), by kernel_rfl, hL, hB, h_1, hm⟩
        · have hm := ite_f hm hc_8
          refine wl_val (v := .int .i64 p2_0) (w' := w0) (wg (c := (eqi p2_0 10)) (want := false) (by kernel_rfl) hc_8 rfl) (run_move (v := .int .i64 p2_0) (by kernel_rfl)) ?_
          refine wl_val (v := .bool (gt p2_0 36)) (w' := w0) (wg (c := (eqi p2_0 10)) (want := false) (by kernel_rfl) hc_8 rfl) (run_gt (k := .i64) (a := p2_0) (b := 36) (by kernel_rfl) (by kernel_rfl)) ?_
          refine wl_val (v := .bool (gt p2_0 36)) (w' := w0) (by kernel_rfl) (run_pick_f (v := .bool (gt p2_0 36)) (tr2 (c := (eqi p2_0 10)) (by kernel_rfl) hc_8) (by kernel_rfl)) ?_
          refine wl_nil ?_
          exact then_c ⟨(gt p2_0 36), (fun i => ([.int .i64 p2_0, .bool (lt p2_0 2), .bool (lt p2_0 2), .int .i64 p2_0, .bool (eqi p2_0 10), .bool (eqi p2_0 10), .bool (eqi p2_0 10), .int .i64 p2_0, .bool (gt p2_0 36)] : List Value).getD i undef), by kernel_rfl, hL, hB, h_1, hm⟩
    · intro l1 w_3 hI
      obtain ⟨x_2, u_3, rfl, hL, hB, h_1, hm⟩ := hI
      unfold m78_J2 at hm
      refine cw_cond (t := x_2) (by kernel_rfl) (fun hc_6 => ?_) (fun hc_6 => ?_)
      · have hm := ite_t hm hc_6
        refine cw_region ?_
        cases hm
      · have hm := ite_f hm hc_6
        refine cw_skip ?_
        exact then_c ⟨(fun i => ([(u_3 0), (u_3 1), (u_3 2), (u_3 3), (u_3 4), (u_3 5), (u_3 6), (u_3 7), (u_3 8), .bool x_2, undef] : List Value).getD i undef), by kernel_rfl, hL, hB, h_1, hm⟩
  · intro l1 w_1 hI
    obtain ⟨u_2, rfl, hL, hB, h_1, hm⟩ := hI
    unfold m78_J1 at hm
    refine cw_seq ?_
    refine cw_region ?_
    cases hm
end SxYtihfogahdofdmaaDoor

end

section
/- Written by program (gen.py): the model of internal/strconv.FormatInt, and the proof that its code computes it. -/
namespace SxYtihfogahdofdmaaDoor
open Go Go.RowKit Sx Go.Proofs
set_option linter.unusedVariables false
set_option linter.unusedSimpArgs false
attribute [local irreducible] WL WX CW OW
/-! ### 64: "internal/strconv.FormatInt" -/
def m64_J1 (fuel : Nat) (p0_0 : Int) (x_1 : Bool) : Option (List UInt8) :=
  if x_1 then ((m75 fuel p0_0).bind fun r_1 => some r_1) else (none)
def m64 (fuel : Nat) (p0_0 : Int) (p1_0 : Int) : Option (List UInt8) :=
  if (eqi p1_0 10) then (if (le 0 p0_0) then (m64_J1 fuel p0_0 (lt p0_0 100)) else (m64_J1 fuel p0_0 false)) else ((m78 fuel [] (cvt .u64 p0_0) p1_0 (lt p0_0 0) false).bind fun r_2 => some r_2.2)
@[reducible] def Q64 (F : Lx) (w0 : World) (r : (List UInt8)) (v : Value) (w' : World) : Prop := v = .string ⟨⟨r⟩⟩ ∧ Below w0.heap.size w0 w'
set_option maxRecDepth 100000 in
set_option maxHeartbeats 4000000 in
theorem f64_ok (fuel : Nat) (F : Lx) (w0 : World) (hF : ∀ k, some k ∈ F → k < w0.heap.size) {p0_0 : Int} {p1_0 : Int} {r : (List UInt8)} (hm : m64 fuel p0_0 p1_0 = some r) :
    Calls Tryd.prog 64 #[.int .i64 p0_0, .int .i64 p1_0] w0 (fun e w' => ∃ v, e = .returned v ∧ Q64 F w0 r v w') := by
  have hPF : PF (bodyPost Tryd.prog Tryd.f64 (fun e w' => ∃ v, e = .returned v ∧ Q64 F w0 r v w')) := PF.body (fun c w h => by obtain ⟨v, e, _⟩ := h; cases e)
  have hL := LOk.start hF
  have hB := Below.refl w0.heap.size w0
  unfold m64 at hm
  refine enter (l := [.int .i64 p0_0, .int .i64 p1_0, undef, undef, undef, undef, undef, undef, undef, undef, undef, undef, undef, undef, undef, undef, undef, undef, undef, undef, undef, undef, undef, undef, undef, undef, undef, undef, undef, undef, undef, undef, undef, undef, undef, undef, undef, undef, undef, undef, undef, undef, undef, undef, undef, undef, undef, undef, undef, undef, undef, undef, undef, undef]) Tryd.func64 rfl Tryd.ntmps64 (by kernel_rfl) ?_
  refine cw_seq ?_
  refine cw_region ?_
  refine wl_val (v := .string ⟨⟨([] : List UInt8)⟩⟩) (w' := w0) (by kernel_rfl) (run_assign (v := .string ⟨⟨([] : List UInt8)⟩⟩) (by kernel_rfl)) ?_
  refine wl_nil ?_
  refine then_n ?_
  refine cw_seq ?_
  refine cw_seq ?_
  refine cw_region ?_
  refine wl_val (v := .int .i64 p1_0) (w' := w0) (by kernel_rfl) (run_move (v := .int .i64 p1_0) (by kernel_rfl)) ?_
  refine wl_val (v := .bool (eqi p1_0 10)) (w' := w0) (by kernel_rfl) (run_eqi (k := .i64) (a := p1_0) (b := 10) (by kernel_rfl) (by kernel_rfl)) ?_
  refine wl_nil ?_
  refine then_n ?_
  refine cw_cond (t := (eqi p1_0 10)) (by kernel_rfl) (fun hc_1 => ?_) (fun hc_1 => ?_)
  · have hm := ite_t hm hc_1
    refine cw_seq ?_
    refine cw_cut (fun l' w' => ∃ x_1, ∃ u_1 : Nat → Value, l' = [.int .i64 p0_0, .int .i64 p1_0, undef, undef, .string ⟨⟨([] : List UInt8)⟩⟩, undef, undef, undef, undef, undef, .int .i64 p1_0, .bool (eqi p1_0 10), (u_1 0), (u_1 1), (u_1 2), (u_1 3), (u_1 4), .bool x_1, undef, undef, undef, undef, undef, undef, undef, undef, undef, undef, undef, undef, undef, undef, undef, undef, undef, undef, undef, undef, undef, undef, undef, undef, undef, undef, undef, undef, undef, undef, undef, undef, undef, undef, undef, undef] ∧ LOk w0.heap.size [] F w' ∧ Below w0.heap.size w0 w' ∧ m64_J1 fuel p0_0 x_1 = some r) ?_ ?_
    · refine cw_region ?_
      refine wl_val (v := .int .i64 p0_0) (w' := w0) (by kernel_rfl) (run_move (v := .int .i64 p0_0) (by kernel_rfl)) ?_
      refine wl_val (v := .bool (le 0 p0_0)) (w' := w0) (by kernel_rfl) (run_le (k := .i64) (a := 0) (b := p0_0) (by kernel_rfl) (by kernel_rfl)) ?_
      refine wl_val (v := .bool (le 0 p0_0)) (w' := w0) (by kernel_rfl) (run_move (v := .bool (le 0 p0_0)) (by kernel_rfl)) ?_
      rcases Bool.eq_false_or_eq_true (le 0 p0_0) with hc_4 | hc_4
      · have hm := ite_t hm hc_4
        refine wl_val (v := .int .i64 p0_0) (w' := w0) (wg (c := (le 0 p0_0)) (want := true) (by kernel_rfl) hc_4 rfl) (run_move (v := .int .i64 p0_0) (by kernel_rfl)) ?_
        refine wl_val (v := .bool (lt p0_0 100)) (w' := w0) (wg (c := (le 0 p0_0)) (want := true) (by kernel_rfl) hc_4 rfl) (run_lt (k := .i64) (a := p0_0) (b := 100) (by kernel_rfl) (by kernel_rfl)) ?_
        refine wl_val (v := .bool (lt p0_0 100)) (w' := w0) (by kernel_rfl) (run_pick_t (v := .bool (lt p0_0 100)) (tr2 (c := (le 0 p0_0)) (by kernel_rfl) hc_4) (by kernel_rfl)) ?_
        refine wl_nil ?_
        exact then_c ⟨(lt p0_0 100), (fun i => ([.int .i64 p0_0, .bool (le 0 p0_0), .bool (le 0 p0_0), .int .i64 p0_0, .bool (lt p0_0 100)] : List Value).getD i undef), by kernel_rfl, hL, hB, hm⟩
      · have hm := ite_f hm hc_4
        refine wl_not0 (wg (c := (le 0 p0_0)) (want := true) (by kernel_rfl) hc_4 rfl) (by kernel_rfl) ?_
        refine wl_not0 (wg (c := (le 0 p0_0)) (want := true) (by kernel_rfl) hc_4 rfl) (by kernel_rfl) ?_
        refine wl_val (v := .bool false) (w' := w0) (by kernel_rfl) (run_pick_f (v := .bool false) (tr2 (c := (le 0 p0_0)) (by kernel_rfl) hc_4) (by kernel_rfl)) ?_
        refine wl_nil ?_
        exact then_c ⟨false, (fun i => ([.int .i64 p0_0, .bool (le 0 p0_0), .bool (le 0 p0_0), undef, undef] : List Value).getD i undef), by kernel_rfl, hL, hB, hm⟩
    · intro l1 w_1 hI
      obtain ⟨x_1, u_1, rfl, hL, hB, hm⟩ := hI
      unfold m64_J1 at hm
      refine cw_cond (t := x_1) (by kernel_rfl) (fun hc_3 => ?_) (fun hc_3 => ?_)
      · have hm := ite_t hm hc_3
        refine cw_seq ?_
        refine cw_region ?_
        refine wl_val (v := .int .i64 p0_0) (w' := w_1) (by kernel_rfl) (run_move (v := .int .i64 p0_0) (by kernel_rfl)) ?_
        obtain ⟨r_1, h_1, hm⟩ := bind_e hm
        refine wl_op (by kernel_rfl) (ow_enter (run_callf (vs := [.int .i64 p0_0]) Tryd.func75 nm_75 (by kernel_rfl) (by kernel_rfl)) (f75_ok (p0_0 := p0_0) fuel _ w_1 hL.lt  h_1) ?_)
        intro vR w_2 hR
        obtain ⟨rfl, hBe⟩ := hR
        have hS := Stp.call hL (Fz.of_below hBe [])
        replace hB := hS.below hL hB
        replace hL := hS.hL
        refine wl_val (v := .string ⟨⟨r_1⟩⟩) (w' := w_2) (by kernel_rfl) (run_assign (v := .string ⟨⟨r_1⟩⟩) (by kernel_rfl)) ?_
        refine wl_nil ?_
        refine then_n ?_
        refine cw_ret ?_
        refine then_ret ?_
        refine then_ret ?_
        obtain rfl := Option.some.inj hm
        exact ret1 (v := .string ⟨⟨r_1⟩⟩) rfl (resv_tmp (by kernel_rfl)) ⟨_, rfl, by kernel_rfl, hB⟩
      · have hm := ite_f hm hc_3
        refine cw_skip ?_
        refine then_n ?_
        refine cw_seq ?_
        refine cw_region ?_
        cases hm
  · have hm := ite_f hm hc_1
    refine cw_skip ?_
    refine then_n ?_
    refine cw_seq ?_
    refine cw_region ?_
    refine wl_val (v := .int .i64 p0_0) (w' := w0) (by kernel_rfl) (run_move (v := .int .i64 p0_0) (by kernel_rfl)) ?_
    refine wl_val (v := .int .u64 (cvt .u64 p0_0)) (w' := w0) (by kernel_rfl) (run_cvt (k := .i64) (a := p0_0) Tryd.underlying2 Tryd.underlying55 (by kernel_rfl)) ?_
    refine wl_val (v := .int .i64 p1_0) (w' := w0) (by kernel_rfl) (run_move (v := .int .i64 p1_0) (by kernel_rfl)) ?_
    refine wl_val (v := .int .i64 p0_0) (w' := w0) (by kernel_rfl) (run_move (v := .int .i64 p0_0) (by kernel_rfl)) ?_
    refine wl_val (v := .bool (lt p0_0 0)) (w' := w0) (by kernel_rfl) (run_lt (k := .i64) (a := p0_0) (b := 0) (by kernel_rfl) (by kernel_rfl)) ?_
    obtain ⟨r_2, h_3, hm⟩ := bind_e hm
    refine wl_op (by kernel_rfl) (ow_enter (run_callf (vs := [.slice none 0 0, .int .u64 (cvt .u64 p0_0), .int .i64 p1_0, .bool (lt p0_0 0), .bool false]) Tryd.func78 nm_78 (by kernel_rfl) (by kernel_rfl)) (f78_ok (p0_0 := []) (p1_0 := (cvt .u64 p0_0)) (p2_0 := p1_0) (p3_0 := (lt p0_0 0)) (p4_0 := false) fuel _ w0 hL.lt (slice_nil _ _ _ _ _) h_3) ?_)
    intro vR w_4 hR
    obtain ⟨a_1, n_1, c_1, rfl, hBe, h_4, h_5⟩ := hR
    have hS : Stp w0.heap.size _ [blk a_1] F [] w0 w_4 := Stp.row hL (Fz.of_below hBe _) h_5
    replace hB := hS.below hL hB
    replace hL := hS.hL
    refine wl_val (v := .tuple #[.slice a_1 n_1 c_1, .string ⟨⟨r_2.2⟩⟩]) (w' := w_4) (by kernel_rfl) (run_move (v := .tuple #[.slice a_1 n_1 c_1, .string ⟨⟨r_2.2⟩⟩]) (by kernel_rfl)) ?_
    refine wl_val (v := .slice a_1 n_1 c_1) (w' := w_4) (by kernel_rfl) (run_extract (vs := #[.slice a_1 n_1 c_1, .string ⟨⟨r_2.2⟩⟩]) (by kernel_rfl) (by kernel_rfl)) ?_
    refine wl_val (v := .string ⟨⟨r_2.2⟩⟩) (w' := w_4) (by kernel_rfl) (run_extract (vs := #[.slice a_1 n_1 c_1, .string ⟨⟨r_2.2⟩⟩]) (by kernel_rfl) (by kernel_rfl)) ?_
    refine wl_val (v := .slice a_1 n_1 c_1) (w' := w_4) (by kernel_rfl) (run_assign (v := .slice a_1 n_1 c_1) (by kernel_rfl)) ?_
    refine wl_val (v := .string ⟨⟨r_2.2⟩⟩) (w' := w_4) (by kernel_rfl) (run_assign (v := .string ⟨⟨r_2.2⟩⟩) (by kernel_rfl)) ?_
    refine wl_nil ?_
    refine then_n ?_
    refine cw_norm [.int .i64 p0_0, .int .i64 p1_0, undef, undef, .string ⟨⟨([] : List UInt8)⟩⟩, undef, undef, undef, .slice a_1 n_1 c_1, .string ⟨⟨r_2.2⟩⟩, .int .i64 p1_0, .bool (eqi p1_0 10), undef, undef, undef, undef, undef, undef, undef, undef, undef, undef, undef, undef, undef, undef, undef, undef, undef, undef, undef, undef, undef, undef, undef, undef, undef, undef, undef, undef, undef, undef, undef, undef, .tuple #[.slice a_1 n_1 c_1, .string ⟨⟨r_2.2⟩⟩], .int .i64 p0_0, .int .u64 (cvt .u64 p0_0), .int .i64 p1_0, .int .i64 p0_0, .bool (lt p0_0 0), .tuple #[.slice a_1 n_1 c_1, .string ⟨⟨r_2.2⟩⟩], .slice a_1 n_1 c_1, .string ⟨⟨r_2.2⟩⟩, undef] (by kernel_rfl) ?_
    refine cw_seq ?_
    refine cw_region ?_
    refine wl_val (v := .string ⟨⟨r_2.2⟩⟩) (w' := w_4) (by kernel_rfl) (run_move (v := .string ⟨⟨r_2.2⟩⟩) (by kernel_rfl)) ?_
    refine wl_val (v := .string ⟨⟨r_2.2⟩⟩) (w' := w_4) (by kernel_rfl) (run_assign (v := .string ⟨⟨r_2.2⟩⟩) (by kernel_rfl)) ?_
    refine wl_nil ?_
    refine then_n ?_
    refine cw_ret ?_
    have hS : Stp w0.heap.size _ [] F [] w_4 _ := Stp.pick hL [] rfl (by decide)
    replace hB := hS.below hL hB
    replace hL := hS.hL
    obtain rfl := Option.some.inj hm
    exact ret1 (v := .string ⟨⟨r_2.2⟩⟩) rfl (resv_tmp (by kernel_rfl)) ⟨_, rfl, by kernel_rfl, hB⟩
end SxYtihfogahdofdmaaDoor

end

section
/- Written by program (gen.py): the model of strconv.FormatInt, and the proof that its code computes it. -/
namespace SxYtihfogahdofdmaaDoor
open Go Go.RowKit Sx Go.Proofs
set_option linter.unusedVariables false
set_option linter.unusedSimpArgs false
attribute [local irreducible] WL WX CW OW
/-! ### 45: "strconv.FormatInt" -/
def m45 (fuel : Nat) (p0_0 : Int) (p1_0 : Int) : Option (List UInt8) :=
  (m64 fuel p0_0 p1_0).bind fun r_1 => some r_1
@[reducible] def Q45 (F : Lx) (w0 : World) (r : (List UInt8)) (v : Value) (w' : World) : Prop := v = .string ⟨⟨r⟩⟩ ∧ Below w0.heap.size w0 w'
set_option maxRecDepth 100000 in
set_option maxHeartbeats 4000000 in
theorem f45_ok (fuel : Nat) (F : Lx) (w0 : World) (hF : ∀ k, some k ∈ F → k < w0.heap.size) {p0_0 : Int} {p1_0 : Int} {r : (List UInt8)} (hm : m45 fuel p0_0 p1_0 = some r) :
    Calls Tryd.prog 45 #[.int .i64 p0_0, .int .i64 p1_0] w0 (fun e w' => ∃ v, e = .returned v ∧ Q45 F w0 r v w') := by
  have hPF : PF (bodyPost Tryd.prog Tryd.f45 (fun e w' => ∃ v, e = .returned v ∧ Q45 F w0 r v w')) := PF.body (fun c w h => by obtain ⟨v, e, _⟩ := h; cases e)
  have hL := LOk.start hF
  have hB := Below.refl w0.heap.size w0
  unfold m45 at hm
  refine enter (l := [.int .i64 p0_0, .int .i64 p1_0, undef, undef, undef, undef, undef, undef]) Tryd.func45 rfl Tryd.ntmps45 (by kernel_rfl) ?_
  refine cw_seq ?_
  refine cw_region ?_
  refine wl_val (v := .string ⟨⟨([] : List UInt8)⟩⟩) (w' := w0) (by kernel_rfl) (run_assign (v := .string ⟨⟨([] : List UInt8)⟩⟩) (by kernel_rfl)) ?_
  refine wl_nil ?_
  refine then_n ?_
  refine cw_seq ?_
  refine cw_region ?_
  refine wl_val (v := .int .i64 p0_0) (w' := w0) (by kernel_rfl) (run_move (v := .int .i64 p0_0) (by kernel_rfl)) ?_
  refine wl_val (v := .int .i64 p1_0) (w' := w0) (by kernel_rfl) (run_move (v := .int .i64 p1_0) (by kernel_rfl)) ?_
  obtain ⟨r_1, h_1, hm⟩ := bind_e hm
  refine wl_op (by kernel_rfl) (ow_enter (run_callf (vs := [.int .i64 p0_0, .int .i64 p1_0]) Tryd.func64 nm_64 (by kernel_rfl) (by kernel_rfl)) (f64_ok (p0_0 := p0_0) (p1_0 := p1_0) fuel _ w0 hL.lt  h_1) ?_)
  intro vR w_1 hR
  obtain ⟨rfl, hBe⟩ := hR
  have hS := Stp.call hL (Fz.of_below hBe [])
  replace hB := hS.below hL hB
  replace hL := hS.hL
  refine wl_val (v := .string ⟨⟨r_1⟩⟩) (w' := w_1) (by kernel_rfl) (run_assign (v := .string ⟨⟨r_1⟩⟩) (by kernel_rfl)) ?_
  refine wl_nil ?_
  refine then_n ?_
  refine cw_ret ?_
  obtain rfl := Option.some.inj hm
  exact ret1 (v := .string ⟨⟨r_1⟩⟩) rfl (resv_tmp (by kernel_rfl)) ⟨_, rfl, by kernel_rfl, hB⟩
end SxYtihfogahdofdmaaDoor

end

section
/- Written by program (gen.py): the model of saucier/units.Show, and the proof that its code computes it. -/
namespace SxYtihfogahdofdmaaDoor
open Go Go.RowKit Sx Go.Proofs
set_option linter.unusedVariables false
set_option linter.unusedSimpArgs false
attribute [local irreducible] WL WX CW OW
/-! ### 21: "saucier/units.Show" -/
def m21_J1 (fuel : Nat) (p0_0 : TDec) (n_1 : Int) (sign_1 : (List UInt8)) : Option (List UInt8) :=
  (m37 fuel (cvt .i64 p0_0.D)).bind fun r_2 => need (nei r_2 0) ((m45 fuel (quo .i64 n_1 r_2) 10).bind fun r_3 => need (small (sign_1.length + r_3.length)) (if (eqi p0_0.D 0) then (some (sign_1 ++ r_3)) else (need (nei r_2 0) ((m45 fuel (rem n_1 r_2) 10).bind fun r_4 => need (small ((sign_1 ++ r_3).length + ([46] : List UInt8).length)) ((m29 fuel ([48] : List UInt8) (sub .i64 (cvt .i64 p0_0.D) (r_4.length : Int))).bind fun r_5 => need (small (((sign_1 ++ r_3) ++ ([46] : List UInt8)).length + r_5.length)) (need (small ((((sign_1 ++ r_3) ++ ([46] : List UInt8)) ++ r_5).length + r_4.length)) (some ((((sign_1 ++ r_3) ++ ([46] : List UInt8)) ++ r_5) ++ r_4))))))))
def m21 (fuel : Nat) (p0_0 : TDec) : Option (List UInt8) :=
  (m14 fuel p0_0).bind fun r_1 => if r_1 then (if (lt p0_0.N 0) then (m21_J1 fuel p0_0 (neg .i64 p0_0.N) ([45] : List UInt8)) else (m21_J1 fuel p0_0 p0_0.N ([] : List UInt8))) else (some ([] : List UInt8))
@[reducible] def Q21 (F : Lx) (w0 : World) (r : (List UInt8)) (v : Value) (w' : World) : Prop := v = .string ⟨⟨r⟩⟩ ∧ Below w0.heap.size w0 w'
set_option maxRecDepth 100000 in
set_option maxHeartbeats 4000000 in
theorem f21_ok (fuel : Nat) (F : Lx) (w0 : World) (hF : ∀ k, some k ∈ F → k < w0.heap.size) {p0_0 : TDec} {r : (List UInt8)} (hm : m21 fuel p0_0 = some r) :
    Calls Tryd.prog 21 #[.agg #[.int .i64 p0_0.N, .int .u8 p0_0.D]] w0 (fun e w' => ∃ v, e = .returned v ∧ Q21 F w0 r v w') := by
  have hPF : PF (bodyPost Tryd.prog Tryd.f21 (fun e w' => ∃ v, e = .returned v ∧ Q21 F w0 r v w')) := PF.body (fun c w h => by obtain ⟨v, e, _⟩ := h; cases e)
  have hL := LOk.start hF
  have hB := Below.refl w0.heap.size w0
  unfold m21 at hm
  refine enter (l := [.agg #[.int .i64 p0_0.N, .int .u8 p0_0.D], undef, undef, undef, undef, undef, undef, undef, undef, undef, undef, undef, undef, undef, undef, undef, undef, undef, undef, undef, undef, undef, undef, undef, undef, undef, undef, undef, undef, undef, undef, undef, undef, undef, undef, undef, undef, undef, undef, undef, undef, undef, undef, undef, undef, undef, undef]) Tryd.func21 rfl Tryd.ntmps21 (by kernel_rfl) ?_
  refine cw_seq ?_
  refine cw_region ?_
  refine wl_op (by kernel_rfl) (ow_box' (v := .agg #[.int .i64 p0_0.N, .int .u8 p0_0.D]) (vs := [.int .i64 p0_0.N, .int .u8 p0_0.D]) (by kernel_rfl) rfl hL ?_)
  intro g_1 w_1 hS h_1
  replace hB := hS.below hL hB
  replace hL := hS.hL
  refine wl_val (v := .string ⟨⟨([] : List UInt8)⟩⟩) (w' := w_1) (by kernel_rfl) (run_assign (v := .string ⟨⟨([] : List UInt8)⟩⟩) (by kernel_rfl)) ?_
  refine wl_nil ?_
  refine then_n ?_
  refine cw_seq ?_
  refine cw_seq ?_
  refine cw_region ?_
  refine wl_val (v := .agg #[.int .i64 p0_0.N, .int .u8 p0_0.D]) (w' := w_1) (by kernel_rfl) (run_load_boxn (j := 0) (vs := [.int .i64 p0_0.N, .int .u8 p0_0.D]) Tryd.underlying23 rfl sz_23 (by kernel_rfl) h_1 (by kernel_rfl) rfl) ?_
  obtain ⟨r_1, h_2, hm⟩ := bind_e hm
  refine wl_op (by kernel_rfl) (ow_enter (run_callf (vs := [.agg #[.int .i64 p0_0.N, .int .u8 p0_0.D]]) Tryd.func14 nm_14 (by kernel_rfl) (by kernel_rfl)) (f14_ok (p0_0 := p0_0) fuel _ w_1 hL.lt  h_2) ?_)
  intro vR w_2 hR
  obtain ⟨rfl, hBe⟩ := hR
  have hS := Stp.call hL (Fz.of_below hBe [])
  replace h_1 := hS.box h_1 nilN
  replace hB := hS.below hL hB
  replace hL := hS.hL
  refine wl_val (v := .bool (!r_1)) (w' := w_2) (by kernel_rfl) (run_not (b := r_1) (by kernel_rfl)) ?_
  refine wl_nil ?_
  refine then_n ?_
  refine cw_cond (t := (!r_1)) (by kernel_rfl) (fun hc => ?_) (fun hc => ?_)
  · have hc_1 : r_1 = false := by simpa using hc
    have hm := ite_f hm hc_1
    refine cw_seq ?_
    refine cw_region ?_
    refine wl_val (v := .string ⟨⟨([] : List UInt8)⟩⟩) (w' := w_2) (by kernel_rfl) (run_assign (v := .string ⟨⟨([] : List UInt8)⟩⟩) (by kernel_rfl)) ?_
    refine wl_nil ?_
    refine then_n ?_
    refine cw_ret ?_
    refine then_ret ?_
    have hS : Stp w0.heap.size _ [] F [] w_2 _ := Stp.pick hL [] rfl (by decide)
    replace hB := hS.below hL hB
    replace hL := hS.hL
    obtain rfl := Option.some.inj hm
    exact ret1 (v := .string ⟨⟨([] : List UInt8)⟩⟩) rfl (resv_tmp (by kernel_rfl)) ⟨_, rfl, by kernel_rfl, hB⟩
  · have hc_1 : r_1 = true := by simpa using hc
    have hm := ite_t hm hc_1
    refine cw_skip ?_
    refine then_n ?_
    refine cw_seq ?_
    refine cw_region ?_
    refine wl_val (v := .pointer (some ⟨g_1, 0, none⟩)) (w' := w_2) (by kernel_rfl) (run_fieldAddr (b := g_1) (o := 0) fo_23_0 (by kernel_rfl)) ?_
    refine wl_val (v := .int .i64 p0_0.N) (w' := w_2) (by kernel_rfl) (run_load_box1 (j := 0) Tryd.underlying2 rfl (by kernel_rfl) h_1 (by kernel_rfl)) ?_
    refine wl_val (v := .int .i64 p0_0.N) (w' := w_2) (by kernel_rfl) (run_assign (v := .int .i64 p0_0.N) (by kernel_rfl)) ?_
    refine wl_val (v := .string ⟨⟨([] : List UInt8)⟩⟩) (w' := w_2) (by kernel_rfl) (run_assign (v := .string ⟨⟨([] : List UInt8)⟩⟩) (by kernel_rfl)) ?_
    refine wl_nil ?_
    refine then_n ?_
    refine cw_cut (fun l' w' => ∃ n_1 sign_1, ∃ u_1 : Nat → Value, l' = [.agg #[.int .i64 p0_0.N, .int .u8 p0_0.D], .pointer (some ⟨g_1, 0, none⟩), .string ⟨⟨([] : List UInt8)⟩⟩, .int .i64 n_1, .string ⟨⟨sign_1⟩⟩, undef, undef, undef, .agg #[.int .i64 p0_0.N, .int .u8 p0_0.D], .bool r_1, .bool (!r_1), .pointer (some ⟨g_1, 0, none⟩), .int .i64 p0_0.N, (u_1 0), (u_1 1), (u_1 2), (u_1 3), undef, undef, undef, undef, undef, undef, undef, undef, undef, undef, undef, undef, undef, undef, undef, undef, undef, undef, undef, undef, undef, undef, undef, undef, undef, undef, undef, undef, undef, undef] ∧ LOk w0.heap.size [some g_1] F w' ∧ Below w0.heap.size w0 w' ∧ Bx w' g_1 [.int .i64 p0_0.N, .int .u8 p0_0.D] 23 ∧ m21_J1 fuel p0_0 n_1 sign_1 = some r) ?_ ?_
    · refine cw_seq ?_
      refine cw_region ?_
      refine wl_val (v := .int .i64 p0_0.N) (w' := w_2) (by kernel_rfl) (run_move (v := .int .i64 p0_0.N) (by kernel_rfl)) ?_
      refine wl_val (v := .bool (lt p0_0.N 0)) (w' := w_2) (by kernel_rfl) (run_lt (k := .i64) (a := p0_0.N) (b := 0) (by kernel_rfl) (by kernel_rfl)) ?_
      refine wl_nil ?_
      refine then_n ?_
      refine cw_cond (t := (lt p0_0.N 0)) (by kernel_rfl) (fun hc_4 => ?_) (fun hc_4 => ?_)
      · have hm := ite_t hm hc_4
        refine cw_region ?_
        refine wl_val (v := .int .i64 p0_0.N) (w' := w_2) (by kernel_rfl) (run_move (v := .int .i64 p0_0.N) (by kernel_rfl)) ?_
        refine wl_val (v := .int .i64 (neg .i64 p0_0.N)) (w' := w_2) (by kernel_rfl) (run_neg (k := .i64) (a := p0_0.N) (by kernel_rfl)) ?_
        refine wl_val (v := .int .i64 (neg .i64 p0_0.N)) (w' := w_2) (by kernel_rfl) (run_assign (v := .int .i64 (neg .i64 p0_0.N)) (by kernel_rfl)) ?_
        refine wl_val (v := .string ⟨⟨([45] : List UInt8)⟩⟩) (w' := w_2) (by kernel_rfl) (run_assign (v := .string ⟨⟨([45] : List UInt8)⟩⟩) (by kernel_rfl)) ?_
        refine wl_nil ?_
        exact then_c ⟨(neg .i64 p0_0.N), ([45] : List UInt8), (fun i => ([.int .i64 p0_0.N, .bool (lt p0_0.N 0), .int .i64 p0_0.N, .int .i64 (neg .i64 p0_0.N)] : List Value).getD i undef), by kernel_rfl, hL, hB, h_1, hm⟩
      · have hm := ite_f hm hc_4
        refine cw_skip ?_
        exact then_c ⟨p0_0.N, ([] : List UInt8), (fun i => ([.int .i64 p0_0.N, .bool (lt p0_0.N 0), undef, undef] : List Value).getD i undef), by kernel_rfl, hL, hB, h_1, hm⟩
    · intro l1 w_3 hI
      obtain ⟨n_1, sign_1, u_1, rfl, hL, hB, h_1, hm⟩ := hI
      unfold m21_J1 at hm
      refine cw_seq ?_
      refine cw_region ?_
      refine wl_val (v := .pointer (some ⟨g_1, 1, none⟩)) (w' := w_3) (by kernel_rfl) (run_fieldAddr (b := g_1) (o := 0) fo_23_1 (by kernel_rfl)) ?_
      refine wl_val (v := .int .u8 p0_0.D) (w' := w_3) (by kernel_rfl) (run_load_box1 (j := 1) Tryd.underlying5 rfl (by kernel_rfl) h_1 (by kernel_rfl)) ?_
      refine wl_val (v := .int .i64 (cvt .i64 p0_0.D)) (w' := w_3) (by kernel_rfl) (run_cvt (k := .u8) (a := p0_0.D) Tryd.underlying5 Tryd.underlying3 (by kernel_rfl)) ?_
      obtain ⟨r_2, h_3, hm⟩ := bind_e hm
      refine wl_op (by kernel_rfl) (ow_enter (run_callf (vs := [.int .i64 (cvt .i64 p0_0.D)]) Tryd.func37 nm_37 (by kernel_rfl) (by kernel_rfl)) (f37_ok (p0_0 := (cvt .i64 p0_0.D)) fuel _ w_3 hL.lt  h_3) ?_)
      intro vR w_4 hR
      obtain ⟨rfl, hBe⟩ := hR
      have hS := Stp.call hL (Fz.of_below hBe [])
      replace h_1 := hS.box h_1 nilN
      replace hB := hS.below hL hB
      replace hL := hS.hL
      refine wl_val (v := .int .i64 r_2) (w' := w_4) (by kernel_rfl) (run_assign (v := .int .i64 r_2) (by kernel_rfl)) ?_
      refine wl_nil ?_
      refine then_n ?_
      refine cw_seq ?_
      refine cw_region ?_
      refine wl_val (v := .string ⟨⟨sign_1⟩⟩) (w' := w_4) (by kernel_rfl) (run_move (v := .string ⟨⟨sign_1⟩⟩) (by kernel_rfl)) ?_
      refine wl_val (v := .int .i64 n_1) (w' := w_4) (by kernel_rfl) (run_move (v := .int .i64 n_1) (by kernel_rfl)) ?_
      refine wl_val (v := .int .i64 r_2) (w' := w_4) (by kernel_rfl) (run_move (v := .int .i64 r_2) (by kernel_rfl)) ?_
      obtain ⟨h_4, hm⟩ := need_e hm
      refine wl_val (v := .int .i64 (quo .i64 n_1 r_2)) (w' := w_4) (by kernel_rfl) (run_quo (k := .i64) (a := n_1) (b := r_2) (by kernel_rfl) (by kernel_rfl) (by simpa [nei] using h_4)) ?_
      obtain ⟨r_3, h_5, hm⟩ := bind_e hm
      refine wl_op (by kernel_rfl) (ow_enter (run_callf (vs := [.int .i64 (quo .i64 n_1 r_2), .int .i64 10]) Tryd.func45 nm_45 (by kernel_rfl) (by kernel_rfl)) (f45_ok (p0_0 := (quo .i64 n_1 r_2)) (p1_0 := 10) fuel _ w_4 hL.lt  h_5) ?_)
      intro vR w_5 hR
      obtain ⟨rfl, hBe⟩ := hR
      have hS := Stp.call hL (Fz.of_below hBe [])
      replace h_1 := hS.box h_1 nilN
      replace hB := hS.below hL hB
      replace hL := hS.hL
      obtain ⟨h_6, hm⟩ := need_e hm
      refine wl_val (v := .string ⟨⟨(sign_1 ++ r_3)⟩⟩) (w' := w_5) (by kernel_rfl) (run_concat (a := sign_1) (b := r_3) (by kernel_rfl) (by kernel_rfl) h_6) ?_
      refine wl_val (v := .string ⟨⟨(sign_1 ++ r_3)⟩⟩) (w' := w_5) (by kernel_rfl) (run_assign (v := .string ⟨⟨(sign_1 ++ r_3)⟩⟩) (by kernel_rfl)) ?_
      refine wl_nil ?_
      refine then_n ?_
      refine cw_seq ?_
      refine cw_seq ?_
      refine cw_region ?_
      refine wl_val (v := .pointer (some ⟨g_1, 1, none⟩)) (w' := w_5) (by kernel_rfl) (run_fieldAddr (b := g_1) (o := 0) fo_23_1 (by kernel_rfl)) ?_
      refine wl_val (v := .int .u8 p0_0.D) (w' := w_5) (by kernel_rfl) (run_load_box1 (j := 1) Tryd.underlying5 rfl (by kernel_rfl) h_1 (by kernel_rfl)) ?_
      refine wl_val (v := .bool (eqi p0_0.D 0)) (w' := w_5) (by kernel_rfl) (run_eqi (k := .u8) (a := p0_0.D) (b := 0) (by kernel_rfl) (by kernel_rfl)) ?_
      refine wl_nil ?_
      refine then_n ?_
      refine cw_norm [.agg #[.int .i64 p0_0.N, .int .u8 p0_0.D], .pointer (some ⟨g_1, 0, none⟩), .string ⟨⟨([] : List UInt8)⟩⟩, .int .i64 n_1, .string ⟨⟨sign_1⟩⟩, .int .i64 r_2, .string ⟨⟨(sign_1 ++ r_3)⟩⟩, undef, .agg #[.int .i64 p0_0.N, .int .u8 p0_0.D], .bool r_1, .bool (!r_1), .pointer (some ⟨g_1, 0, none⟩), .int .i64 p0_0.N, (u_1 0), (u_1 1), (u_1 2), (u_1 3), .pointer (some ⟨g_1, 1, none⟩), .int .u8 p0_0.D, .int .i64 (cvt .i64 p0_0.D), .int .i64 r_2, .string ⟨⟨sign_1⟩⟩, .int .i64 n_1, .int .i64 r_2, .int .i64 (quo .i64 n_1 r_2), .string ⟨⟨r_3⟩⟩, .string ⟨⟨(sign_1 ++ r_3)⟩⟩, .pointer (some ⟨g_1, 1, none⟩), .int .u8 p0_0.D, .bool (eqi p0_0.D 0), undef, undef, undef, undef, undef, undef, undef, undef, undef, undef, undef, undef, undef, undef, undef, undef, undef] (by kernel_rfl) ?_
      refine cw_cond (t := (eqi p0_0.D 0)) (by kernel_rfl) (fun hc_3 => ?_) (fun hc_3 => ?_)
      · have hm := ite_t hm hc_3
        refine cw_seq ?_
        refine cw_region ?_
        refine wl_val (v := .string ⟨⟨(sign_1 ++ r_3)⟩⟩) (w' := w_5) (by kernel_rfl) (run_move (v := .string ⟨⟨(sign_1 ++ r_3)⟩⟩) (by kernel_rfl)) ?_
        refine wl_val (v := .string ⟨⟨(sign_1 ++ r_3)⟩⟩) (w' := w_5) (by kernel_rfl) (run_assign (v := .string ⟨⟨(sign_1 ++ r_3)⟩⟩) (by kernel_rfl)) ?_
        refine wl_nil ?_
        refine then_n ?_
        refine cw_ret ?_
        refine then_ret ?_
        have hS : Stp w0.heap.size _ [] F [] w_5 _ := Stp.pick hL [] rfl (by decide)
        replace hB := hS.below hL hB
        replace hL := hS.hL
        obtain rfl := Option.some.inj hm
        exact ret1 (v := .string ⟨⟨(sign_1 ++ r_3)⟩⟩) rfl (resv_tmp (by kernel_rfl)) ⟨_, rfl, by kernel_rfl, hB⟩
      · have hm := ite_f hm hc_3
        refine cw_skip ?_
        refine then_n ?_
        refine cw_seq ?_
        refine cw_region ?_
        refine wl_val (v := .int .i64 n_1) (w' := w_5) (by kernel_rfl) (run_move (v := .int .i64 n_1) (by kernel_rfl)) ?_
        refine wl_val (v := .int .i64 r_2) (w' := w_5) (by kernel_rfl) (run_move (v := .int .i64 r_2) (by kernel_rfl)) ?_
        obtain ⟨h_8, hm⟩ := need_e hm
        refine wl_val (v := .int .i64 (rem n_1 r_2)) (w' := w_5) (by kernel_rfl) (run_rem (k := .i64) (a := n_1) (b := r_2) (by kernel_rfl) (by kernel_rfl) (by simpa [nei] using h_8)) ?_
        obtain ⟨r_4, h_9, hm⟩ := bind_e hm
        refine wl_op (by kernel_rfl) (ow_enter (run_callf (vs := [.int .i64 (rem n_1 r_2), .int .i64 10]) Tryd.func45 nm_45 (by kernel_rfl) (by kernel_rfl)) (f45_ok (p0_0 := (rem n_1 r_2)) (p1_0 := 10) fuel _ w_5 hL.lt  h_9) ?_)
        intro vR w_6 hR
        obtain ⟨rfl, hBe⟩ := hR
        have hS := Stp.call hL (Fz.of_below hBe [])
        replace h_1 := hS.box h_1 nilN
        replace hB := hS.below hL hB
        replace hL := hS.hL
        refine wl_val (v := .string ⟨⟨r_4⟩⟩) (w' := w_6) (by kernel_rfl) (run_assign (v := .string ⟨⟨r_4⟩⟩) (by kernel_rfl)) ?_
        refine wl_nil ?_
        refine then_n ?_
        refine cw_seq ?_
        refine cw_region ?_
        refine wl_val (v := .string ⟨⟨(sign_1 ++ r_3)⟩⟩) (w' := w_6) (by kernel_rfl) (run_move (v := .string ⟨⟨(sign_1 ++ r_3)⟩⟩) (by kernel_rfl)) ?_
        obtain ⟨h_10, hm⟩ := need_e hm
        refine wl_val (v := .string ⟨⟨((sign_1 ++ r_3) ++ ([46] : List UInt8))⟩⟩) (w' := w_6) (by kernel_rfl) (run_concat (a := (sign_1 ++ r_3)) (b := ([46] : List UInt8)) (by kernel_rfl) (by kernel_rfl) h_10) ?_
        refine wl_val (v := .pointer (some ⟨g_1, 1, none⟩)) (w' := w_6) (by kernel_rfl) (run_fieldAddr (b := g_1) (o := 0) fo_23_1 (by kernel_rfl)) ?_
        refine wl_val (v := .int .u8 p0_0.D) (w' := w_6) (by kernel_rfl) (run_load_box1 (j := 1) Tryd.underlying5 rfl (by kernel_rfl) h_1 (by kernel_rfl)) ?_
        refine wl_val (v := .int .i64 (cvt .i64 p0_0.D)) (w' := w_6) (by kernel_rfl) (run_cvt (k := .u8) (a := p0_0.D) Tryd.underlying5 Tryd.underlying3 (by kernel_rfl)) ?_
        refine wl_val (v := .string ⟨⟨r_4⟩⟩) (w' := w_6) (by kernel_rfl) (run_move (v := .string ⟨⟨r_4⟩⟩) (by kernel_rfl)) ?_
        refine wl_val (v := .int .i64 (r_4.length : Int)) (w' := w_6) (by kernel_rfl) (run_len_str (s := r_4) Tryd.underlying9 (by kernel_rfl)) ?_
        refine wl_val (v := .int .i64 (sub .i64 (cvt .i64 p0_0.D) (r_4.length : Int))) (w' := w_6) (by kernel_rfl) (run_sub (k := .i64) (a := (cvt .i64 p0_0.D)) (b := (r_4.length : Int)) (by kernel_rfl) (by kernel_rfl)) ?_
        obtain ⟨r_5, h_12, hm⟩ := bind_e hm
        refine wl_op (by kernel_rfl) (ow_enter (run_callf (vs := [.string ⟨⟨([48] : List UInt8)⟩⟩, .int .i64 (sub .i64 (cvt .i64 p0_0.D) (r_4.length : Int))]) Tryd.func29 nm_29 (by kernel_rfl) (by kernel_rfl)) (f29_ok (p0_0 := ([48] : List UInt8)) (p1_0 := (sub .i64 (cvt .i64 p0_0.D) (r_4.length : Int))) fuel _ w_6 hL.lt  h_12) ?_)
        intro vR w_7 hR
        obtain ⟨rfl, hBe⟩ := hR
        have hS := Stp.call hL (Fz.of_below hBe [])
        replace h_1 := hS.box h_1 nilN
        replace hB := hS.below hL hB
        replace hL := hS.hL
        obtain ⟨h_13, hm⟩ := need_e hm
        refine wl_val (v := .string ⟨⟨(((sign_1 ++ r_3) ++ ([46] : List UInt8)) ++ r_5)⟩⟩) (w' := w_7) (by kernel_rfl) (run_concat (a := ((sign_1 ++ r_3) ++ ([46] : List UInt8))) (b := r_5) (by kernel_rfl) (by kernel_rfl) h_13) ?_
        refine wl_val (v := .string ⟨⟨r_4⟩⟩) (w' := w_7) (by kernel_rfl) (run_move (v := .string ⟨⟨r_4⟩⟩) (by kernel_rfl)) ?_
        refine wl_norm [.agg #[.int .i64 p0_0.N, .int .u8 p0_0.D], .pointer (some ⟨g_1, 0, none⟩), .string ⟨⟨([] : List UInt8)⟩⟩, .int .i64 n_1, .string ⟨⟨sign_1⟩⟩, .int .i64 r_2, .string ⟨⟨(sign_1 ++ r_3)⟩⟩, .string ⟨⟨r_4⟩⟩, .agg #[.int .i64 p0_0.N, .int .u8 p0_0.D], .bool r_1, .bool (!r_1), .pointer (some ⟨g_1, 0, none⟩), .int .i64 p0_0.N, (u_1 0), (u_1 1), (u_1 2), (u_1 3), .pointer (some ⟨g_1, 1, none⟩), .int .u8 p0_0.D, .int .i64 (cvt .i64 p0_0.D), .int .i64 r_2, .string ⟨⟨sign_1⟩⟩, .int .i64 n_1, .int .i64 r_2, .int .i64 (quo .i64 n_1 r_2), .string ⟨⟨r_3⟩⟩, .string ⟨⟨(sign_1 ++ r_3)⟩⟩, .pointer (some ⟨g_1, 1, none⟩), .int .u8 p0_0.D, .bool (eqi p0_0.D 0), undef, .int .i64 n_1, .int .i64 r_2, .int .i64 (rem n_1 r_2), .string ⟨⟨r_4⟩⟩, .string ⟨⟨(sign_1 ++ r_3)⟩⟩, .string ⟨⟨((sign_1 ++ r_3) ++ ([46] : List UInt8))⟩⟩, .pointer (some ⟨g_1, 1, none⟩), .int .u8 p0_0.D, .int .i64 (cvt .i64 p0_0.D), .string ⟨⟨r_4⟩⟩, .int .i64 (r_4.length : Int), .int .i64 (sub .i64 (cvt .i64 p0_0.D) (r_4.length : Int)), .string ⟨⟨r_5⟩⟩, .string ⟨⟨(((sign_1 ++ r_3) ++ ([46] : List UInt8)) ++ r_5)⟩⟩, .string ⟨⟨r_4⟩⟩, undef] (by kernel_rfl) ?_
        obtain ⟨h_15, hm⟩ := need_e hm
        refine wl_val (v := .string ⟨⟨((((sign_1 ++ r_3) ++ ([46] : List UInt8)) ++ r_5) ++ r_4)⟩⟩) (w' := w_7) (by kernel_rfl) (run_concat (a := (((sign_1 ++ r_3) ++ ([46] : List UInt8)) ++ r_5)) (b := r_4) (by kernel_rfl) (by kernel_rfl) h_15) ?_
        refine wl_val (v := .string ⟨⟨((((sign_1 ++ r_3) ++ ([46] : List UInt8)) ++ r_5) ++ r_4)⟩⟩) (w' := w_7) (by kernel_rfl) (run_assign (v := .string ⟨⟨((((sign_1 ++ r_3) ++ ([46] : List UInt8)) ++ r_5) ++ r_4)⟩⟩) (by kernel_rfl)) ?_
        refine wl_nil ?_
        refine then_n ?_
        refine cw_ret ?_
        have hS : Stp w0.heap.size _ [] F [] w_7 _ := Stp.pick hL [] rfl (by decide)
        replace hB := hS.below hL hB
        replace hL := hS.hL
        obtain rfl := Option.some.inj hm
        exact ret1 (v := .string ⟨⟨((((sign_1 ++ r_3) ++ ([46] : List UInt8)) ++ r_5) ++ r_4)⟩⟩) rfl (resv_tmp (by kernel_rfl)) ⟨_, rfl, by kernel_rfl, hB⟩
end SxYtihfogahdofdmaaDoor

end

section
/- Written by program (gen.py): the model of saucier/saucierlaw12.said, and the proof that its code computes it. -/
namespace SxYtihfogahdofdmaaDoor
open Go Go.RowKit Sx Go.Proofs
set_option linter.unusedVariables false
set_option linter.unusedSimpArgs false
attribute [local irreducible] WL WX CW OW
/-! ### 34: "saucier/saucierlaw12.said" -/
def m34 (fuel : Nat) (p0_0 : (List UInt8)) : Option TDec :=
  (m18 fuel p0_0).bind fun r_1 => some r_1.1
@[reducible] def Q34 (F : Lx) (w0 : World) (r : TDec) (v : Value) (w' : World) : Prop := v = .agg #[.int .i64 r.N, .int .u8 r.D] ∧ Below w0.heap.size w0 w'
set_option maxRecDepth 100000 in
set_option maxHeartbeats 4000000 in
theorem f34_ok (fuel : Nat) (F : Lx) (w0 : World) (hF : ∀ k, some k ∈ F → k < w0.heap.size) {p0_0 : (List UInt8)} {r : TDec} (hm : m34 fuel p0_0 = some r) :
    Calls Tryd.prog 34 #[.string ⟨⟨p0_0⟩⟩] w0 (fun e w' => ∃ v, e = .returned v ∧ Q34 F w0 r v w') := by
  have hPF : PF (bodyPost Tryd.prog Tryd.f34 (fun e w' => ∃ v, e = .returned v ∧ Q34 F w0 r v w')) := PF.body (fun c w h => by obtain ⟨v, e, _⟩ := h; cases e)
  have hL := LOk.start hF
  have hB := Below.refl w0.heap.size w0
  unfold m34 at hm
  refine enter (l := [.string ⟨⟨p0_0⟩⟩, undef, undef, undef, undef, undef, undef, undef, undef, undef, undef]) Tryd.func34 rfl Tryd.ntmps34 (by kernel_rfl) ?_
  refine cw_seq ?_
  refine cw_region ?_
  refine wl_op (by kernel_rfl) (ow_alloc' (z := .agg #[.int .i64 0, .int .u8 0]) (vs := [.int .i64 0, .int .u8 0]) (by kernel_rfl) rfl hL ?_)
  intro g_1 w_1 hS h_1
  replace hB := hS.below hL hB
  replace hL := hS.hL
  refine wl_nil ?_
  refine then_n ?_
  refine cw_seq ?_
  refine cw_region ?_
  refine wl_val (v := .string ⟨⟨p0_0⟩⟩) (w' := w_1) (by kernel_rfl) (run_move (v := .string ⟨⟨p0_0⟩⟩) (by kernel_rfl)) ?_
  obtain ⟨r_1, h_2, hm⟩ := bind_e hm
  refine wl_op (by kernel_rfl) (ow_enter (run_callf (vs := [.string ⟨⟨p0_0⟩⟩]) Tryd.func18 nm_18 (by kernel_rfl) (by kernel_rfl)) (f18_ok (p0_0 := p0_0) fuel _ w_1 hL.lt  h_2) ?_)
  intro vR w_2 hR
  obtain ⟨rfl, hBe⟩ := hR
  have hS := Stp.call hL (Fz.of_below hBe [])
  replace h_1 := hS.box h_1 nilN
  replace hB := hS.below hL hB
  replace hL := hS.hL
  refine wl_val (v := .tuple #[.agg #[.int .i64 r_1.1.N, .int .u8 r_1.1.D], .bool r_1.2]) (w' := w_2) (by kernel_rfl) (run_move (v := .tuple #[.agg #[.int .i64 r_1.1.N, .int .u8 r_1.1.D], .bool r_1.2]) (by kernel_rfl)) ?_
  refine wl_val (v := .agg #[.int .i64 r_1.1.N, .int .u8 r_1.1.D]) (w' := w_2) (by kernel_rfl) (run_extract (vs := #[.agg #[.int .i64 r_1.1.N, .int .u8 r_1.1.D], .bool r_1.2]) (by kernel_rfl) (by kernel_rfl)) ?_
  refine wl_val (v := .bool r_1.2) (w' := w_2) (by kernel_rfl) (run_extract (vs := #[.agg #[.int .i64 r_1.1.N, .int .u8 r_1.1.D], .bool r_1.2]) (by kernel_rfl) (by kernel_rfl)) ?_
  refine wl_op (by kernel_rfl) (ow_alloc' (z := .agg #[.int .i64 0, .int .u8 0]) (vs := [.int .i64 0, .int .u8 0]) (by kernel_rfl) rfl hL ?_)
  intro g_2 w_3 hS h_3
  replace h_1 := hS.box h_1 nilN
  replace hB := hS.below hL hB
  replace hL := hS.hL
  refine wl_op (by kernel_rfl) (ow_store_box' (g := g_2) (j := 0) (v := .agg #[.int .i64 r_1.1.N, .int .u8 r_1.1.D]) (vs := [.int .i64 r_1.1.N, .int .u8 r_1.1.D]) (cs' := [.int .i64 r_1.1.N, .int .u8 r_1.1.D]) sz_23 (by kernel_rfl) (by kernel_rfl) rfl rfl rfl hL h_3 rfl (by simp) rfl ?_)
  intro w_4 hS h_4
  replace h_1 := hS.box h_1 (hL.apart 1 0 rfl rfl (by decide) _ rfl)
  replace hB := hS.below hL hB
  replace hL := hS.hL
  refine wl_val (v := .bool r_1.2) (w' := w_4) (by kernel_rfl) (run_assign (v := .bool r_1.2) (by kernel_rfl)) ?_
  refine wl_nil ?_
  refine then_n ?_
  refine cw_seq ?_
  refine cw_region ?_
  refine wl_val (v := .agg #[.int .i64 r_1.1.N, .int .u8 r_1.1.D]) (w' := w_4) (by kernel_rfl) (run_load_boxn (j := 0) (vs := [.int .i64 r_1.1.N, .int .u8 r_1.1.D]) Tryd.underlying23 rfl sz_23 (by kernel_rfl) h_4 (by kernel_rfl) rfl) ?_
  refine wl_op (by kernel_rfl) (ow_store_box' (g := g_1) (j := 0) (v := .agg #[.int .i64 r_1.1.N, .int .u8 r_1.1.D]) (vs := [.int .i64 r_1.1.N, .int .u8 r_1.1.D]) (cs' := [.int .i64 r_1.1.N, .int .u8 r_1.1.D]) sz_23 (by kernel_rfl) (by kernel_rfl) rfl rfl rfl hL h_1 rfl (by simp) rfl ?_)
  intro w_5 hS h_5
  replace h_4 := hS.box h_4 (hL.apart 0 1 rfl rfl (by decide) _ rfl)
  replace hB := hS.below hL hB
  replace hL := hS.hL
  refine wl_nil ?_
  refine then_n ?_
  refine cw_ret ?_
  have hl0 := loadVar_boxn (P := Tryd.prog) (j := 0) (vs := [.int .i64 r_1.1.N, .int .u8 r_1.1.D]) Tryd.underlying23 rfl sz_23 h_5 (by kernel_rfl) rfl
  have hS : Stp w0.heap.size _ [] F [] w_5 _ := Stp.pick hL [] rfl (by decide)
  replace hB := hS.below hL hB
  replace hL := hS.hL
  obtain rfl := Option.some.inj hm
  exact ret1 (v := .agg #[.int .i64 r_1.1.N, .int .u8 r_1.1.D]) rfl (resv_cell (ad := ⟨g_1, 0, none⟩) (by kernel_rfl) hl0) ⟨_, rfl, by kernel_rfl, hB⟩
end SxYtihfogahdofdmaaDoor

end

section
/- Written by program (gen.py): the model of saucier/saucierlaw12.none, and the proof that its code computes it. -/
namespace SxYtihfogahdofdmaaDoor
open Go Go.RowKit Sx Go.Proofs
set_option linter.unusedVariables false
set_option linter.unusedSimpArgs false
attribute [local irreducible] WL WX CW OW
/-! ### 35: "saucier/saucierlaw12.none" -/
def m35 (fuel : Nat) (p0_0 : (List UInt8)) : Option Bool :=
  (m18 fuel p0_0).bind fun r_1 => some (!r_1.2)
@[reducible] def Q35 (F : Lx) (w0 : World) (r : Bool) (v : Value) (w' : World) : Prop := v = .bool r ∧ Below w0.heap.size w0 w'
set_option maxRecDepth 100000 in
set_option maxHeartbeats 4000000 in
theorem f35_ok (fuel : Nat) (F : Lx) (w0 : World) (hF : ∀ k, some k ∈ F → k < w0.heap.size) {p0_0 : (List UInt8)} {r : Bool} (hm : m35 fuel p0_0 = some r) :
    Calls Tryd.prog 35 #[.string ⟨⟨p0_0⟩⟩] w0 (fun e w' => ∃ v, e = .returned v ∧ Q35 F w0 r v w') := by
  have hPF : PF (bodyPost Tryd.prog Tryd.f35 (fun e w' => ∃ v, e = .returned v ∧ Q35 F w0 r v w')) := PF.body (fun c w h => by obtain ⟨v, e, _⟩ := h; cases e)
  have hL := LOk.start hF
  have hB := Below.refl w0.heap.size w0
  unfold m35 at hm
  refine enter (l := [.string ⟨⟨p0_0⟩⟩, undef, undef, undef, undef, undef, undef, undef, undef, undef, undef, undef]) Tryd.func35 rfl Tryd.ntmps35 (by kernel_rfl) ?_
  refine cw_seq ?_
  refine cw_region ?_
  refine wl_val (v := .bool false) (w' := w0) (by kernel_rfl) (run_assign (v := .bool false) (by kernel_rfl)) ?_
  refine wl_nil ?_
  refine then_n ?_
  refine cw_seq ?_
  refine cw_region ?_
  refine wl_val (v := .string ⟨⟨p0_0⟩⟩) (w' := w0) (by kernel_rfl) (run_move (v := .string ⟨⟨p0_0⟩⟩) (by kernel_rfl)) ?_
  obtain ⟨r_1, h_1, hm⟩ := bind_e hm
  refine wl_op (by kernel_rfl) (ow_enter (run_callf (vs := [.string ⟨⟨p0_0⟩⟩]) Tryd.func18 nm_18 (by kernel_rfl) (by kernel_rfl)) (f18_ok (p0_0 := p0_0) fuel _ w0 hL.lt  h_1) ?_)
  intro vR w_1 hR
  obtain ⟨rfl, hBe⟩ := hR
  have hS := Stp.call hL (Fz.of_below hBe [])
  replace hB := hS.below hL hB
  replace hL := hS.hL
  refine wl_val (v := .tuple #[.agg #[.int .i64 r_1.1.N, .int .u8 r_1.1.D], .bool r_1.2]) (w' := w_1) (by kernel_rfl) (run_move (v := .tuple #[.agg #[.int .i64 r_1.1.N, .int .u8 r_1.1.D], .bool r_1.2]) (by kernel_rfl)) ?_
  refine wl_val (v := .agg #[.int .i64 r_1.1.N, .int .u8 r_1.1.D]) (w' := w_1) (by kernel_rfl) (run_extract (vs := #[.agg #[.int .i64 r_1.1.N, .int .u8 r_1.1.D], .bool r_1.2]) (by kernel_rfl) (by kernel_rfl)) ?_
  refine wl_val (v := .bool r_1.2) (w' := w_1) (by kernel_rfl) (run_extract (vs := #[.agg #[.int .i64 r_1.1.N, .int .u8 r_1.1.D], .bool r_1.2]) (by kernel_rfl) (by kernel_rfl)) ?_
  refine wl_op (by kernel_rfl) (ow_alloc' (z := .agg #[.int .i64 0, .int .u8 0]) (vs := [.int .i64 0, .int .u8 0]) (by kernel_rfl) rfl hL ?_)
  intro g_1 w_2 hS h_2
  replace hB := hS.below hL hB
  replace hL := hS.hL
  refine wl_op (by kernel_rfl) (ow_store_box' (g := g_1) (j := 0) (v := .agg #[.int .i64 r_1.1.N, .int .u8 r_1.1.D]) (vs := [.int .i64 r_1.1.N, .int .u8 r_1.1.D]) (cs' := [.int .i64 r_1.1.N, .int .u8 r_1.1.D]) sz_23 (by kernel_rfl) (by kernel_rfl) rfl rfl rfl hL h_2 rfl (by simp) rfl ?_)
  intro w_3 hS h_3
  replace hB := hS.below hL hB
  replace hL := hS.hL
  refine wl_val (v := .bool r_1.2) (w' := w_3) (by kernel_rfl) (run_assign (v := .bool r_1.2) (by kernel_rfl)) ?_
  refine wl_nil ?_
  refine then_n ?_
  refine cw_seq ?_
  refine cw_region ?_
  refine wl_val (v := .bool r_1.2) (w' := w_3) (by kernel_rfl) (run_move (v := .bool r_1.2) (by kernel_rfl)) ?_
  refine wl_val (v := .bool (!r_1.2)) (w' := w_3) (by kernel_rfl) (run_not (b := r_1.2) (by kernel_rfl)) ?_
  refine wl_val (v := .bool (!r_1.2)) (w' := w_3) (by kernel_rfl) (run_assign (v := .bool (!r_1.2)) (by kernel_rfl)) ?_
  refine wl_nil ?_
  refine then_n ?_
  refine cw_ret ?_
  have hS : Stp w0.heap.size _ [] F [] w_3 _ := Stp.pick hL [] rfl (by decide)
  replace hB := hS.below hL hB
  replace hL := hS.hL
  obtain rfl := Option.some.inj hm
  exact ret1 (v := .bool (!r_1.2)) rfl (resv_tmp (by kernel_rfl)) ⟨_, rfl, by kernel_rfl, hB⟩
end SxYtihfogahdofdmaaDoor

end
