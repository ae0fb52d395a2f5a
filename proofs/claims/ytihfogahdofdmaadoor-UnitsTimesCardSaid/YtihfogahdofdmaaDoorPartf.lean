/- Proved in the last of these 10 parts (this is part 6): UnitsTimes: for every argument the card's run of the law answers true. Conditions: those of the given statement, and no others. -/
import Derived.Test.YtihfogahdofdmaaDoorPartc
import Derived.Test.YtihfogahdofdmaaDoorParte
import Derived.Test.YtihfogahdofdmaaDoorPartd
set_option linter.unusedVariables false
set_option linter.unusedSimpArgs false
set_option linter.unusedSectionVars false
section
/- Written by program (gen.py): the model of strings.Cut, and the proof that its code computes it. -/
namespace SxYtihfogahdofdmaaDoor
open Go Go.RowKit Sx Go.Proofs
set_option linter.unusedVariables false
set_option linter.unusedSimpArgs false
attribute [local irreducible] WL WX CW OW
/-! ### 42: "strings.Cut" -/
def m42 (fuel : Nat) (p0_0 : (List UInt8)) (p1_0 : (List UInt8)) : Option ((List UInt8) × (List UInt8) × Bool) :=
  (m63 fuel p0_0 p1_0).bind fun r_1 => some (r_1.1, r_1.2.1, r_1.2.2)
@[reducible] def Q42 (F : Lx) (w0 : World) (r : ((List UInt8) × (List UInt8) × Bool)) (v : Value) (w' : World) : Prop := v = .tuple #[.string ⟨⟨r.1⟩⟩, .string ⟨⟨r.2.1⟩⟩, .bool r.2.2] ∧ Below w0.heap.size w0 w'
set_option maxRecDepth 100000 in
set_option maxHeartbeats 4000000 in
theorem f42_ok (fuel : Nat) (F : Lx) (w0 : World) (hF : ∀ k, some k ∈ F → k < w0.heap.size) {p0_0 : (List UInt8)} {p1_0 : (List UInt8)} {r : ((List UInt8) × (List UInt8) × Bool)} (hm : m42 fuel p0_0 p1_0 = some r) :
    Calls Tryd.prog 42 #[.string ⟨⟨p0_0⟩⟩, .string ⟨⟨p1_0⟩⟩] w0 (fun e w' => ∃ v, e = .returned v ∧ Q42 F w0 r v w') := by
  have hPF : PF (bodyPost Tryd.prog Tryd.f42 (fun e w' => ∃ v, e = .returned v ∧ Q42 F w0 r v w')) := PF.body (fun c w h => by obtain ⟨v, e, _⟩ := h; cases e)
  have hL := LOk.start hF
  have hB := Below.refl w0.heap.size w0
  unfold m42 at hm
  refine enter (l := [.string ⟨⟨p0_0⟩⟩, .string ⟨⟨p1_0⟩⟩, undef, undef, undef, undef, undef, undef, undef, undef, undef, undef, undef]) Tryd.func42 rfl Tryd.ntmps42 (by kernel_rfl) ?_
  refine cw_seq ?_
  refine cw_region ?_
  refine wl_val (v := .string ⟨⟨([] : List UInt8)⟩⟩) (w' := w0) (by kernel_rfl) (run_assign (v := .string ⟨⟨([] : List UInt8)⟩⟩) (by kernel_rfl)) ?_
  refine wl_val (v := .string ⟨⟨([] : List UInt8)⟩⟩) (w' := w0) (by kernel_rfl) (run_assign (v := .string ⟨⟨([] : List UInt8)⟩⟩) (by kernel_rfl)) ?_
  refine wl_val (v := .bool false) (w' := w0) (by kernel_rfl) (run_assign (v := .bool false) (by kernel_rfl)) ?_
  refine wl_nil ?_
  refine then_n ?_
  refine cw_seq ?_
  refine cw_region ?_
  refine wl_val (v := .string ⟨⟨p0_0⟩⟩) (w' := w0) (by kernel_rfl) (run_move (v := .string ⟨⟨p0_0⟩⟩) (by kernel_rfl)) ?_
  refine wl_val (v := .string ⟨⟨p1_0⟩⟩) (w' := w0) (by kernel_rfl) (run_move (v := .string ⟨⟨p1_0⟩⟩) (by kernel_rfl)) ?_
  obtain ⟨r_1, h_1, hm⟩ := bind_e hm
  refine wl_op (by kernel_rfl) (ow_enter (run_callf (vs := [.string ⟨⟨p0_0⟩⟩, .string ⟨⟨p1_0⟩⟩]) Tryd.func63 nm_63 (by kernel_rfl) (by kernel_rfl)) (f63_ok (p0_0 := p0_0) (p1_0 := p1_0) fuel _ w0 hL.lt  h_1) ?_)
  intro vR w_1 hR
  obtain ⟨rfl, hBe⟩ := hR
  have hS := Stp.call hL (Fz.of_below hBe [])
  replace hB := hS.below hL hB
  replace hL := hS.hL
  refine wl_val (v := .string ⟨⟨r_1.1⟩⟩) (w' := w_1) (by kernel_rfl) (run_extract (vs := #[.string ⟨⟨r_1.1⟩⟩, .string ⟨⟨r_1.2.1⟩⟩, .bool r_1.2.2]) (by kernel_rfl) (by kernel_rfl)) ?_
  refine wl_val (v := .string ⟨⟨r_1.2.1⟩⟩) (w' := w_1) (by kernel_rfl) (run_extract (vs := #[.string ⟨⟨r_1.1⟩⟩, .string ⟨⟨r_1.2.1⟩⟩, .bool r_1.2.2]) (by kernel_rfl) (by kernel_rfl)) ?_
  refine wl_val (v := .bool r_1.2.2) (w' := w_1) (by kernel_rfl) (run_extract (vs := #[.string ⟨⟨r_1.1⟩⟩, .string ⟨⟨r_1.2.1⟩⟩, .bool r_1.2.2]) (by kernel_rfl) (by kernel_rfl)) ?_
  refine wl_val (v := .string ⟨⟨r_1.1⟩⟩) (w' := w_1) (by kernel_rfl) (run_assign (v := .string ⟨⟨r_1.1⟩⟩) (by kernel_rfl)) ?_
  refine wl_val (v := .string ⟨⟨r_1.2.1⟩⟩) (w' := w_1) (by kernel_rfl) (run_assign (v := .string ⟨⟨r_1.2.1⟩⟩) (by kernel_rfl)) ?_
  refine wl_val (v := .bool r_1.2.2) (w' := w_1) (by kernel_rfl) (run_assign (v := .bool r_1.2.2) (by kernel_rfl)) ?_
  refine wl_nil ?_
  refine then_n ?_
  refine cw_norm [.string ⟨⟨p0_0⟩⟩, .string ⟨⟨p1_0⟩⟩, undef, undef, .string ⟨⟨r_1.1⟩⟩, .string ⟨⟨r_1.2.1⟩⟩, .bool r_1.2.2, .string ⟨⟨p0_0⟩⟩, .string ⟨⟨p1_0⟩⟩, .tuple #[.string ⟨⟨r_1.1⟩⟩, .string ⟨⟨r_1.2.1⟩⟩, .bool r_1.2.2], .string ⟨⟨r_1.1⟩⟩, .string ⟨⟨r_1.2.1⟩⟩, .bool r_1.2.2] (by kernel_rfl) ?_
  refine cw_ret ?_
  obtain rfl := Option.some.inj hm
  exact ret3 (v := .string ⟨⟨r_1.1⟩⟩) (v' := .string ⟨⟨r_1.2.1⟩⟩) (v'' := .bool r_1.2.2) rfl (resv_tmp (by kernel_rfl)) (resv_tmp (by kernel_rfl)) (resv_tmp (by kernel_rfl)) ⟨_, rfl, by kernel_rfl, hB⟩
end SxYtihfogahdofdmaaDoor

end

section
/- Written by program (gen.py): the model of saucier/units.allDigits, and the proof that its code computes it. -/
namespace SxYtihfogahdofdmaaDoor
open Go Go.RowKit Sx Go.Proofs
set_option linter.unusedVariables false
set_option linter.unusedSimpArgs false
attribute [local irreducible] WL WX CW OW
/-! ### 43: "saucier/units.allDigits" -/
def m43_J1 (fuel : Nat) (p0_0 : (List UInt8)) : Option Bool :=
  some (nes p0_0 ([] : List UInt8))
def m43_J3 (fuel : Nat) (x_6 : Int) (self_1 : ((Int) → Option Bool)) (x_8 : Bool) : Option Bool :=
  if x_8 then (some false) else (self_1 (add .i64 x_6 1))
def m43_L2 (fuel : Nat) (p0_0 : (List UInt8)) (self_1 : Int → Option Bool) (x_6 : Int) : Option Bool :=
  if (lt x_6 (p0_0.length : Int)) then ((at? p0_0 x_6).bind fun b_13 => if (lt (b_13.toNat : Int) 48) then (m43_J3 fuel x_6 self_1 true) else ((at? p0_0 x_6).bind fun b_14 => m43_J3 fuel x_6 self_1 (gt (b_14.toNat : Int) 57))) else (m43_J1 fuel p0_0 )
def m43 (fuel : Nat) (p0_0 : (List UInt8)) : Option Bool :=
  loopF (m43_L2 fuel p0_0) fuel 0
@[reducible] def Q43 (F : Lx) (w0 : World) (r : Bool) (v : Value) (w' : World) : Prop := v = .bool r ∧ Below w0.heap.size w0 w'
set_option maxRecDepth 100000 in
set_option maxHeartbeats 4000000 in
theorem f43_ok (fuel : Nat) (F : Lx) (w0 : World) (hF : ∀ k, some k ∈ F → k < w0.heap.size) {p0_0 : (List UInt8)} {r : Bool} (hm : m43 fuel p0_0 = some r) :
    Calls Tryd.prog 43 #[.string ⟨⟨p0_0⟩⟩] w0 (fun e w' => ∃ v, e = .returned v ∧ Q43 F w0 r v w') := by
  have hPF : PF (bodyPost Tryd.prog Tryd.f43 (fun e w' => ∃ v, e = .returned v ∧ Q43 F w0 r v w')) := PF.body (fun c w h => by obtain ⟨v, e, _⟩ := h; cases e)
  have hL := LOk.start hF
  have hB := Below.refl w0.heap.size w0
  unfold m43 at hm
  refine enter (l := [.string ⟨⟨p0_0⟩⟩, undef, undef, undef, undef, undef, undef, undef, undef, undef, undef, undef, undef, undef, undef, undef, undef, undef, undef, undef, undef, undef]) Tryd.func43 rfl Tryd.ntmps43 (by kernel_rfl) ?_
  refine cw_seq ?_
  refine cw_region ?_
  refine wl_val (v := .bool false) (w' := w0) (by kernel_rfl) (run_assign (v := .bool false) (by kernel_rfl)) ?_
  refine wl_nil ?_
  refine then_n ?_
  refine cw_cut (fun l' w' => ∃ u_6 : Nat → Value, l' = [.string ⟨⟨p0_0⟩⟩, undef, (u_6 0), (u_6 1), (u_6 2), (u_6 3), (u_6 4), (u_6 5), (u_6 6), (u_6 7), (u_6 8), (u_6 9), (u_6 10), (u_6 11), (u_6 12), (u_6 13), (u_6 14), (u_6 15), (u_6 16), (u_6 17), undef, undef] ∧ LOk w0.heap.size [] F w' ∧ Below w0.heap.size w0 w' ∧ m43_J1 fuel p0_0  = some r) ?_ ?_
  · refine cw_seq ?_
    refine cw_region ?_
    refine wl_val (v := .string ⟨⟨p0_0⟩⟩) (w' := w0) (by kernel_rfl) (run_move (v := .string ⟨⟨p0_0⟩⟩) (by kernel_rfl)) ?_
    refine wl_val (v := .int .i64 (p0_0.length : Int)) (w' := w0) (by kernel_rfl) (run_len_str (s := p0_0) Tryd.underlying9 (by kernel_rfl)) ?_
    refine wl_val (v := .int .i64 0) (w' := w0) (by kernel_rfl) (run_move (v := .int .i64 0) (by kernel_rfl)) ?_
    refine wl_nil ?_
    refine then_n ?_
    refine cw_block ?_
    refine cw_loop (σ := Int) (m43_L2 fuel p0_0) r (fun s l' w' => ∃ u_9 : Nat → Value, l' = [.string ⟨⟨p0_0⟩⟩, undef, (u_9 0), (u_9 1), .string ⟨⟨p0_0⟩⟩, .int .i64 (p0_0.length : Int), .int .i64 s, (u_9 2), (u_9 3), (u_9 4), (u_9 5), (u_9 6), (u_9 7), (u_9 8), (u_9 9), (u_9 10), (u_9 11), (u_9 12), (u_9 13), (u_9 14), undef, undef] ∧ LOk w0.heap.size [] F w' ∧ Below w0.heap.size w0 w') ?_ (s := 0) (n := fuel) ⟨(fun i => ([.bool false, undef, undef, undef, undef, undef, undef, undef, undef, undef, undef, undef, undef, undef, undef] : List Value).getD i undef), by kernel_rfl, hL, hB⟩ hm
    intro self_1 s l1 w_2 hI hm
    obtain ⟨x_6, rfl⟩ : ∃ z, z = s := ⟨s, rfl⟩
    try dsimp only at hI
    obtain ⟨u_9, rfl, hL, hB⟩ := hI
    unfold m43_L2 at hm
    refine cw_seq ?_
    refine cw_region ?_
    refine wl_val (v := .bool (lt x_6 (p0_0.length : Int))) (w' := w_2) (by kernel_rfl) (run_lt (k := .i64) (a := x_6) (b := (p0_0.length : Int)) (by kernel_rfl) (by kernel_rfl)) ?_
    refine wl_nil ?_
    refine then_n ?_
    refine cw_seq ?_
    refine cw_cond (t := (lt x_6 (p0_0.length : Int))) (by kernel_rfl) (fun hc_16 => ?_) (fun hc_16 => ?_)
    · have hm := ite_t hm hc_16
      refine cw_skip ?_
      refine then_n ?_
      refine cw_seq ?_
      refine cw_block ?_
      refine cw_seq ?_
      refine cw_region ?_
      refine wl_val (v := .int .i64 x_6) (w' := w_2) (by kernel_rfl) (run_move (v := .int .i64 x_6) (by kernel_rfl)) ?_
      refine wl_val (v := .int .i64 x_6) (w' := w_2) (by kernel_rfl) (run_assign (v := .int .i64 x_6) (by kernel_rfl)) ?_
      refine wl_nil ?_
      refine then_n ?_
      refine cw_cut (fun l' w' => ∃ x_8, ∃ u_11 : Nat → Value, l' = [.string ⟨⟨p0_0⟩⟩, undef, (u_9 0), .int .i64 x_6, .string ⟨⟨p0_0⟩⟩, .int .i64 (p0_0.length : Int), .int .i64 x_6, .bool (lt x_6 (p0_0.length : Int)), .int .i64 x_6, (u_11 0), (u_11 1), (u_11 2), (u_11 3), (u_11 4), (u_11 5), (u_11 6), (u_11 7), (u_11 8), .bool x_8, (u_9 14), undef, undef] ∧ LOk w0.heap.size [] F w' ∧ Below w0.heap.size w0 w' ∧ m43_J3 fuel x_6 self_1 x_8 = some r) ?_ ?_
      · refine cw_region ?_
        refine wl_val (v := .string ⟨⟨p0_0⟩⟩) (w' := w_2) (by kernel_rfl) (run_move (v := .string ⟨⟨p0_0⟩⟩) (by kernel_rfl)) ?_
        refine wl_val (v := .int .i64 x_6) (w' := w_2) (by kernel_rfl) (run_move (v := .int .i64 x_6) (by kernel_rfl)) ?_
        obtain ⟨b_13, h_25, hm⟩ := bind_e hm
        obtain ⟨h_260, h_261, _⟩ := at_some h_25
        refine wl_val (v := .int .u8 (b_13.toNat : Int)) (w' := w_2) (by kernel_rfl) (run_index_str (s := p0_0) (k := .i64) (j := x_6) Tryd.underlying9 (by kernel_rfl) (by kernel_rfl) h_260 h_261) ?_
        refine wl_val (v := .bool (lt (b_13.toNat : Int) 48)) (w' := w_2) (by kernel_rfl) (run_lt (k := .u8) (a := (b_13.toNat : Int)) (b := 48) (by kernel_rfl) (by kernel_rfl)) ?_
        refine wl_val (v := .bool (lt (b_13.toNat : Int) 48)) (w' := w_2) (by kernel_rfl) (run_move (v := .bool (lt (b_13.toNat : Int) 48)) (by kernel_rfl)) ?_
        rcases Bool.eq_false_or_eq_true (lt (b_13.toNat : Int) 48) with hc_19 | hc_19
        · have hm := ite_t hm hc_19
          refine wl_not (wg (c := (lt (b_13.toNat : Int) 48)) (want := false) (by kernel_rfl) hc_19 rfl) ?_
          refine wl_norm [.string ⟨⟨p0_0⟩⟩, undef, (u_9 0), .int .i64 x_6, .string ⟨⟨p0_0⟩⟩, .int .i64 (p0_0.length : Int), .int .i64 x_6, .bool (lt x_6 (p0_0.length : Int)), .int .i64 x_6, .string ⟨⟨p0_0⟩⟩, .int .i64 x_6, .int .u8 (b_13.toNat : Int), .bool (lt (b_13.toNat : Int) 48), .bool (lt (b_13.toNat : Int) 48), undef, (u_9 10), (u_9 11), (u_9 12), (u_9 13), (u_9 14), undef, undef] (by kernel_rfl) ?_
          refine wl_not (wg (c := (lt (b_13.toNat : Int) 48)) (want := false) (by kernel_rfl) hc_19 rfl) ?_
          refine wl_not (wg (c := (lt (b_13.toNat : Int) 48)) (want := false) (by kernel_rfl) hc_19 rfl) ?_
          refine wl_not (wg (c := (lt (b_13.toNat : Int) 48)) (want := false) (by kernel_rfl) hc_19 rfl) ?_
          refine wl_val (v := .bool true) (w' := w_2) (by kernel_rfl) (run_pick_t (v := .bool true) (tr2 (c := (lt (b_13.toNat : Int) 48)) (by kernel_rfl) hc_19) (by kernel_rfl)) ?_
          refine wl_nil ?_
          exact then_c ⟨true, (fun i => ([.string ⟨⟨p0_0⟩⟩, .int .i64 x_6, .int .u8 (b_13.toNat : Int), .bool (lt (b_13.toNat : Int) 48), .bool (lt (b_13.toNat : Int) 48), undef, undef, undef, undef] : List Value).getD i undef), by kernel_rfl, hL, hB, hm⟩
        · have hm := ite_f hm hc_19
          refine wl_val (v := .string ⟨⟨p0_0⟩⟩) (w' := w_2) (wg (c := (lt (b_13.toNat : Int) 48)) (want := false) (by kernel_rfl) hc_19 rfl) (run_move (v := .string ⟨⟨p0_0⟩⟩) (by kernel_rfl)) ?_
          refine wl_norm [.string ⟨⟨p0_0⟩⟩, undef, (u_9 0), .int .i64 x_6, .string ⟨⟨p0_0⟩⟩, .int .i64 (p0_0.length : Int), .int .i64 x_6, .bool (lt x_6 (p0_0.length : Int)), .int .i64 x_6, .string ⟨⟨p0_0⟩⟩, .int .i64 x_6, .int .u8 (b_13.toNat : Int), .bool (lt (b_13.toNat : Int) 48), .bool (lt (b_13.toNat : Int) 48), .string ⟨⟨p0_0⟩⟩, (u_9 10), (u_9 11), (u_9 12), (u_9 13), (u_9 14), undef, undef] (by kernel_rfl) ?_
          refine wl_val (v := .int .i64 x_6) (w' := w_2) (wg (c := (lt (b_13.toNat : Int) 48)) (want := false) (by kernel_rfl) hc_19 rfl) (run_move (v := .int .i64 x_6) (by kernel_rfl)) ?_
          obtain ⟨b_14, h_27, hm⟩ := bind_e hm
          obtain ⟨h_280, h_281, _⟩ := at_some h_27
          refine wl_val (v := .int .u8 (b_14.toNat : Int)) (w' := w_2) (wg (c := (lt (b_13.toNat : Int) 48)) (want := false) (by kernel_rfl) hc_19 rfl) (run_index_str (s := p0_0) (k := .i64) (j := x_6) Tryd.underlying9 (by kernel_rfl) (by kernel_rfl) h_280 h_281) ?_
          refine wl_val (v := .bool (gt (b_14.toNat : Int) 57)) (w' := w_2) (wg (c := (lt (b_13.toNat : Int) 48)) (want := false) (by kernel_rfl) hc_19 rfl) (run_gt (k := .u8) (a := (b_14.toNat : Int)) (b := 57) (by kernel_rfl) (by kernel_rfl)) ?_
          refine wl_val (v := .bool (gt (b_14.toNat : Int) 57)) (w' := w_2) (by kernel_rfl) (run_pick_f (v := .bool (gt (b_14.toNat : Int) 57)) (tr2 (c := (lt (b_13.toNat : Int) 48)) (by kernel_rfl) hc_19) (by kernel_rfl)) ?_
          refine wl_nil ?_
          exact then_c ⟨(gt (b_14.toNat : Int) 57), (fun i => ([.string ⟨⟨p0_0⟩⟩, .int .i64 x_6, .int .u8 (b_13.toNat : Int), .bool (lt (b_13.toNat : Int) 48), .bool (lt (b_13.toNat : Int) 48), .string ⟨⟨p0_0⟩⟩, .int .i64 x_6, .int .u8 (b_14.toNat : Int), .bool (gt (b_14.toNat : Int) 57)] : List Value).getD i undef), by kernel_rfl, hL, hB, hm⟩
      · intro l1 w_3 hI
        obtain ⟨x_8, u_11, rfl, hL, hB, hm⟩ := hI
        unfold m43_J3 at hm
        refine cw_cond (t := x_8) (by kernel_rfl) (fun hc_18 => ?_) (fun hc_18 => ?_)
        · have hm := ite_t hm hc_18
          refine cw_seq ?_
          refine cw_region ?_
          refine wl_val (v := .bool false) (w' := w_3) (by kernel_rfl) (run_assign (v := .bool false) (by kernel_rfl)) ?_
          refine wl_nil ?_
          refine then_n ?_
          refine cw_ret ?_
          refine inBlock_ret ?_
          refine then_ret ?_
          refine then_ret ?_
          refine inBlock_ret ?_
          refine then_ret ?_
          obtain rfl := Option.some.inj hm
          exact ret1 (v := .bool false) rfl (resv_tmp (by kernel_rfl)) ⟨_, rfl, by kernel_rfl, hB⟩
        · have hm := ite_f hm hc_18
          refine cw_skip ?_
          refine inBlock_n ?_
          refine then_n ?_
          refine cw_region ?_
          refine wl_val (v := .int .i64 (add .i64 x_6 1)) (w' := w_3) (by kernel_rfl) (run_add (k := .i64) (a := x_6) (b := 1) (by kernel_rfl) (by kernel_rfl)) ?_
          refine wl_val (v := .int .i64 (add .i64 x_6 1)) (w' := w_3) (by kernel_rfl) (run_move (v := .int .i64 (add .i64 x_6 1)) (by kernel_rfl)) ?_
          refine wl_nil ?_
          exact ⟨_, rfl, (add .i64 x_6 1), ⟨(fun i => ([(u_9 0), .int .i64 x_6, .bool (lt x_6 (p0_0.length : Int)), .int .i64 x_6, (u_11 0), (u_11 1), (u_11 2), (u_11 3), (u_11 4), (u_11 5), (u_11 6), (u_11 7), (u_11 8), .bool x_8, .int .i64 (add .i64 x_6 1)] : List Value).getD i undef), by kernel_rfl, hL, hB⟩, hm⟩
    · have hm := ite_f hm hc_16
      refine cw_exit ?_
      refine then_exit ?_
      refine then_exit ?_
      refine inBlock_same ?_
      exact then_c ⟨(fun i => ([(u_9 0), (u_9 1), .string ⟨⟨p0_0⟩⟩, .int .i64 (p0_0.length : Int), .int .i64 x_6, .bool (lt x_6 (p0_0.length : Int)), (u_9 3), (u_9 4), (u_9 5), (u_9 6), (u_9 7), (u_9 8), (u_9 9), (u_9 10), (u_9 11), (u_9 12), (u_9 13), (u_9 14)] : List Value).getD i undef), by kernel_rfl, hL, hB, hm⟩
  · intro l1 w_1 hI
    obtain ⟨u_6, rfl, hL, hB, hm⟩ := hI
    unfold m43_J1 at hm
    refine cw_seq ?_
    refine cw_region ?_
    refine wl_val (v := .string ⟨⟨p0_0⟩⟩) (w' := w_1) (by kernel_rfl) (run_move (v := .string ⟨⟨p0_0⟩⟩) (by kernel_rfl)) ?_
    refine wl_val (v := .bool (nes p0_0 ([] : List UInt8))) (w' := w_1) (by kernel_rfl) (run_nes (a := p0_0) (b := ([] : List UInt8)) (by kernel_rfl) (by kernel_rfl)) ?_
    refine wl_val (v := .bool (nes p0_0 ([] : List UInt8))) (w' := w_1) (by kernel_rfl) (run_assign (v := .bool (nes p0_0 ([] : List UInt8))) (by kernel_rfl)) ?_
    refine wl_nil ?_
    refine then_n ?_
    refine cw_ret ?_
    obtain rfl := Option.some.inj hm
    exact ret1 (v := .bool (nes p0_0 ([] : List UInt8))) rfl (resv_tmp (by kernel_rfl)) ⟨_, rfl, by kernel_rfl, hB⟩
end SxYtihfogahdofdmaaDoor

end

section
/- Written by program (gen.py): the model of saucier/units.Parse, and the proof that its code computes it. -/
namespace SxYtihfogahdofdmaaDoor
open Go Go.RowKit Sx Go.Proofs
set_option linter.unusedVariables false
set_option linter.unusedSimpArgs false
attribute [local irreducible] WL WX CW OW
/-! ### 18: "saucier/units.Parse" -/
def m18_J4 (fuel : Nat) (r_5 : (List UInt8)) (n_9 : Int) : Option (TDec × Bool) :=
  some ((⟨n_9, (cvt .u8 (r_5.length : Int))⟩ : TDec), true)
def m18_J3 (fuel : Nat) (r_1 : ((List UInt8) × Bool)) (r_5 : (List UInt8)) (n_8 : Int) : Option (TDec × Bool) :=
  if r_1.2 then (m18_J4 fuel r_5 (neg .i64 n_8)) else (m18_J4 fuel r_5 n_8)
def m18_J6 (fuel : Nat) (x_20 : Int) (self_1 : ((Int × Int) → Option (TDec × Bool))) (n_16 : Int) : Option (TDec × Bool) :=
  self_1 (n_16, (add .i64 x_20 1))
def m18_L7 (fuel : Nat) (x_20 : Int) (self_1 : ((Int × Int) → Option (TDec × Bool))) (e_7 : (List UInt8)) (self_2 : Int × Int → Option (TDec × Bool)) : Int × Int → Option (TDec × Bool) := fun (n_17, x_30) =>
  if (lt x_30 (e_7.length : Int)) then ((at? e_7 x_30).bind fun b_22 => (some (add .i64 (mul .i64 10 n_17) (cvt .i64 (sub .u8 (b_22.toNat : Int) 48)))).bind fun x_32 => if (gt x_32 1000000000000) then (some ((⟨0, 0⟩ : TDec), false)) else (self_2 (x_32, (add .i64 x_30 1)))) else (m18_J6 fuel x_20 self_1 n_17)
def m18_L5 (fuel : Nat) (r_1 : ((List UInt8) × Bool)) (r_2 : ((List UInt8) × (List UInt8) × Bool)) (r_5 : (List UInt8)) (self_1 : Int × Int → Option (TDec × Bool)) : Int × Int → Option (TDec × Bool) := fun (n_12, x_20) =>
  if (lt x_20 2) then ((at? ([r_2.1, r_5] : List (List UInt8)) x_20).bind fun e_7 => loopF (m18_L7 fuel x_20 self_1 e_7) fuel (n_12, 0)) else (m18_J3 fuel r_1 r_5 n_12)
def m18_J2 (fuel : Nat) (r_1 : ((List UInt8) × Bool)) (r_2 : ((List UInt8) × (List UInt8) × Bool)) (x_2 : Bool) : Option (TDec × Bool) :=
  if x_2 then (some ((⟨0, 0⟩ : TDec), false)) else ((m32 fuel r_2.2.1 ([48] : List UInt8)).bind fun r_5 => loopF (m18_L5 fuel r_1 r_2 r_5) fuel (0, 0))
def m18_J1 (fuel : Nat) (r_1 : ((List UInt8) × Bool)) (r_2 : ((List UInt8) × (List UInt8) × Bool)) (x_1 : Bool) : Option (TDec × Bool) :=
  if x_1 then (some ((⟨0, 0⟩ : TDec), false)) else (if r_2.2.2 then ((m43 fuel r_2.2.1).bind fun r_6 => if r_6 then (m18_J2 fuel r_1 r_2 (gt (r_2.2.1.length : Int) 6)) else (m18_J2 fuel r_1 r_2 true)) else (m18_J2 fuel r_1 r_2 false))
def m18 (fuel : Nat) (p0_0 : (List UInt8)) : Option (TDec × Bool) :=
  (m41 fuel p0_0 ([45] : List UInt8)).bind fun r_1 => (m42 fuel r_1.1 ([46] : List UInt8)).bind fun r_2 => (m43 fuel r_2.1).bind fun r_7 => if r_7 then (if (gt (r_2.1.length : Int) 1) then ((at? r_2.1 0).bind fun b_23 => m18_J1 fuel r_1 r_2 (eqi (b_23.toNat : Int) 48)) else (m18_J1 fuel r_1 r_2 false)) else (m18_J1 fuel r_1 r_2 true)
@[reducible] def Q18 (F : Lx) (w0 : World) (r : (TDec × Bool)) (v : Value) (w' : World) : Prop := v = .tuple #[.agg #[.int .i64 r.1.N, .int .u8 r.1.D], .bool r.2] ∧ Below w0.heap.size w0 w'
set_option maxRecDepth 100000 in
set_option maxHeartbeats 4000000 in
theorem f18_ok (fuel : Nat) (F : Lx) (w0 : World) (hF : ∀ k, some k ∈ F → k < w0.heap.size) {p0_0 : (List UInt8)} {r : (TDec × Bool)} (hm : m18 fuel p0_0 = some r) :
    Calls Tryd.prog 18 #[.string ⟨⟨p0_0⟩⟩] w0 (fun e w' => ∃ v, e = .returned v ∧ Q18 F w0 r v w') := by
  have hPF : PF (bodyPost Tryd.prog Tryd.f18 (fun e w' => ∃ v, e = .returned v ∧ Q18 F w0 r v w')) := PF.body (fun c w h => by obtain ⟨v, e, _⟩ := h; cases e)
  have hL := LOk.start hF
  have hB := Below.refl w0.heap.size w0
  unfold m18 at hm
  refine enter (l := [.string ⟨⟨p0_0⟩⟩, undef, undef, undef, undef, undef, undef, undef, undef, undef, undef, undef, undef, undef, undef, undef, undef, undef, undef, undef, undef, undef, undef, undef, undef, undef, undef, undef, undef, undef, undef, undef, undef, undef, undef, undef, undef, undef, undef, undef, undef, undef, undef, undef, undef, undef, undef, undef, undef, undef, undef, undef, undef, undef, undef, undef, undef, undef, undef, undef, undef, undef, undef, undef, undef, undef, undef, undef, undef, undef, undef, undef, undef, undef, undef, undef, undef, undef, undef, undef, undef, undef, undef, undef]) Tryd.func18 rfl Tryd.ntmps18 (by kernel_rfl) ?_
  refine cw_seq ?_
  refine cw_region ?_
  refine wl_op (by kernel_rfl) (ow_alloc' (z := .agg #[.int .i64 0, .int .u8 0]) (vs := [.int .i64 0, .int .u8 0]) (by kernel_rfl) rfl hL ?_)
  intro g_1 w_1 hS h_1
  replace hB := hS.below hL hB
  replace hL := hS.hL
  refine wl_val (v := .bool false) (w' := w_1) (by kernel_rfl) (run_assign (v := .bool false) (by kernel_rfl)) ?_
  refine wl_nil ?_
  refine then_n ?_
  refine cw_seq ?_
  refine cw_region ?_
  refine wl_val (v := .string ⟨⟨p0_0⟩⟩) (w' := w_1) (by kernel_rfl) (run_move (v := .string ⟨⟨p0_0⟩⟩) (by kernel_rfl)) ?_
  obtain ⟨r_1, h_2, hm⟩ := bind_e hm
  refine wl_op (by kernel_rfl) (ow_enter (run_callf (vs := [.string ⟨⟨p0_0⟩⟩, .string ⟨⟨([45] : List UInt8)⟩⟩]) Tryd.func41 nm_41 (by kernel_rfl) (by kernel_rfl)) (f41_ok (p0_0 := p0_0) (p1_0 := ([45] : List UInt8)) fuel _ w_1 hL.lt  h_2) ?_)
  intro vR w_2 hR
  obtain ⟨rfl, hBe⟩ := hR
  have hS := Stp.call hL (Fz.of_below hBe [])
  replace h_1 := hS.box h_1 nilN
  replace hB := hS.below hL hB
  replace hL := hS.hL
  refine wl_val (v := .tuple #[.string ⟨⟨r_1.1⟩⟩, .bool r_1.2]) (w' := w_2) (by kernel_rfl) (run_move (v := .tuple #[.string ⟨⟨r_1.1⟩⟩, .bool r_1.2]) (by kernel_rfl)) ?_
  refine wl_val (v := .string ⟨⟨r_1.1⟩⟩) (w' := w_2) (by kernel_rfl) (run_extract (vs := #[.string ⟨⟨r_1.1⟩⟩, .bool r_1.2]) (by kernel_rfl) (by kernel_rfl)) ?_
  refine wl_val (v := .bool r_1.2) (w' := w_2) (by kernel_rfl) (run_extract (vs := #[.string ⟨⟨r_1.1⟩⟩, .bool r_1.2]) (by kernel_rfl) (by kernel_rfl)) ?_
  refine wl_val (v := .string ⟨⟨r_1.1⟩⟩) (w' := w_2) (by kernel_rfl) (run_assign (v := .string ⟨⟨r_1.1⟩⟩) (by kernel_rfl)) ?_
  refine wl_val (v := .bool r_1.2) (w' := w_2) (by kernel_rfl) (run_assign (v := .bool r_1.2) (by kernel_rfl)) ?_
  refine wl_nil ?_
  refine then_n ?_
  refine cw_seq ?_
  refine cw_region ?_
  refine wl_val (v := .string ⟨⟨r_1.1⟩⟩) (w' := w_2) (by kernel_rfl) (run_move (v := .string ⟨⟨r_1.1⟩⟩) (by kernel_rfl)) ?_
  obtain ⟨r_2, h_3, hm⟩ := bind_e hm
  refine wl_op (by kernel_rfl) (ow_enter (run_callf (vs := [.string ⟨⟨r_1.1⟩⟩, .string ⟨⟨([46] : List UInt8)⟩⟩]) Tryd.func42 nm_42 (by kernel_rfl) (by kernel_rfl)) (f42_ok (p0_0 := r_1.1) (p1_0 := ([46] : List UInt8)) fuel _ w_2 hL.lt  h_3) ?_)
  intro vR w_3 hR
  obtain ⟨rfl, hBe⟩ := hR
  have hS := Stp.call hL (Fz.of_below hBe [])
  replace h_1 := hS.box h_1 nilN
  replace hB := hS.below hL hB
  replace hL := hS.hL
  refine wl_val (v := .tuple #[.string ⟨⟨r_2.1⟩⟩, .string ⟨⟨r_2.2.1⟩⟩, .bool r_2.2.2]) (w' := w_3) (by kernel_rfl) (run_move (v := .tuple #[.string ⟨⟨r_2.1⟩⟩, .string ⟨⟨r_2.2.1⟩⟩, .bool r_2.2.2]) (by kernel_rfl)) ?_
  refine wl_val (v := .string ⟨⟨r_2.1⟩⟩) (w' := w_3) (by kernel_rfl) (run_extract (vs := #[.string ⟨⟨r_2.1⟩⟩, .string ⟨⟨r_2.2.1⟩⟩, .bool r_2.2.2]) (by kernel_rfl) (by kernel_rfl)) ?_
  refine wl_val (v := .string ⟨⟨r_2.2.1⟩⟩) (w' := w_3) (by kernel_rfl) (run_extract (vs := #[.string ⟨⟨r_2.1⟩⟩, .string ⟨⟨r_2.2.1⟩⟩, .bool r_2.2.2]) (by kernel_rfl) (by kernel_rfl)) ?_
  refine wl_val (v := .bool r_2.2.2) (w' := w_3) (by kernel_rfl) (run_extract (vs := #[.string ⟨⟨r_2.1⟩⟩, .string ⟨⟨r_2.2.1⟩⟩, .bool r_2.2.2]) (by kernel_rfl) (by kernel_rfl)) ?_
  refine wl_val (v := .string ⟨⟨r_2.1⟩⟩) (w' := w_3) (by kernel_rfl) (run_assign (v := .string ⟨⟨r_2.1⟩⟩) (by kernel_rfl)) ?_
  refine wl_val (v := .string ⟨⟨r_2.2.1⟩⟩) (w' := w_3) (by kernel_rfl) (run_assign (v := .string ⟨⟨r_2.2.1⟩⟩) (by kernel_rfl)) ?_
  refine wl_norm [.string ⟨⟨p0_0⟩⟩, undef, .pointer (some ⟨g_1, 0, none⟩), .bool false, .string ⟨⟨r_1.1⟩⟩, .bool r_1.2, .string ⟨⟨r_2.1⟩⟩, .string ⟨⟨r_2.2.1⟩⟩, undef, undef, undef, undef, undef, .tuple #[.string ⟨⟨r_1.1⟩⟩, .bool r_1.2], .string ⟨⟨p0_0⟩⟩, .tuple #[.string ⟨⟨r_1.1⟩⟩, .bool r_1.2], .string ⟨⟨r_1.1⟩⟩, .bool r_1.2, .tuple #[.string ⟨⟨r_2.1⟩⟩, .string ⟨⟨r_2.2.1⟩⟩, .bool r_2.2.2], .string ⟨⟨r_1.1⟩⟩, .tuple #[.string ⟨⟨r_2.1⟩⟩, .string ⟨⟨r_2.2.1⟩⟩, .bool r_2.2.2], .string ⟨⟨r_2.1⟩⟩, .string ⟨⟨r_2.2.1⟩⟩, .bool r_2.2.2, undef, undef, undef, undef, undef, undef, undef, undef, undef, undef, undef, undef, undef, undef, undef, undef, undef, undef, undef, undef, undef, undef, undef, undef, undef, undef, undef, undef, undef, undef, undef, undef, undef, undef, undef, undef, undef, undef, undef, undef, undef, undef, undef, undef, undef, undef, undef, undef, undef, undef, undef, undef, undef, undef, undef, undef, undef, undef, undef, undef] (by kernel_rfl) ?_
  refine wl_val (v := .bool r_2.2.2) (w' := w_3) (by kernel_rfl) (run_assign (v := .bool r_2.2.2) (by kernel_rfl)) ?_
  refine wl_nil ?_
  refine then_n ?_
  refine cw_seq ?_
  refine cw_cut (fun l' w' => ∃ x_1, ∃ u_1 : Nat → Value, l' = [.string ⟨⟨p0_0⟩⟩, undef, .pointer (some ⟨g_1, 0, none⟩), .bool false, .string ⟨⟨r_1.1⟩⟩, .bool r_1.2, .string ⟨⟨r_2.1⟩⟩, .string ⟨⟨r_2.2.1⟩⟩, .bool r_2.2.2, undef, undef, undef, undef, .tuple #[.string ⟨⟨r_1.1⟩⟩, .bool r_1.2], .string ⟨⟨p0_0⟩⟩, .tuple #[.string ⟨⟨r_1.1⟩⟩, .bool r_1.2], .string ⟨⟨r_1.1⟩⟩, .bool r_1.2, .tuple #[.string ⟨⟨r_2.1⟩⟩, .string ⟨⟨r_2.2.1⟩⟩, .bool r_2.2.2], .string ⟨⟨r_1.1⟩⟩, .tuple #[.string ⟨⟨r_2.1⟩⟩, .string ⟨⟨r_2.2.1⟩⟩, .bool r_2.2.2], .string ⟨⟨r_2.1⟩⟩, .string ⟨⟨r_2.2.1⟩⟩, .bool r_2.2.2, (u_1 0), (u_1 1), (u_1 2), (u_1 3), (u_1 4), (u_1 5), (u_1 6), (u_1 7), (u_1 8), (u_1 9), (u_1 10), (u_1 11), .bool x_1, undef, undef, undef, undef, undef, undef, undef, undef, undef, undef, undef, undef, undef, undef, undef, undef, undef, undef, undef, undef, undef, undef, undef, undef, undef, undef, undef, undef, undef, undef, undef, undef, undef, undef, undef, undef, undef, undef, undef, undef, undef, undef, undef, undef, undef, undef, undef] ∧ LOk w0.heap.size [some g_1] F w' ∧ Below w0.heap.size w0 w' ∧ Bx w' g_1 [.int .i64 0, .int .u8 0] 23 ∧ m18_J1 fuel r_1 r_2 x_1 = some r) ?_ ?_
  · refine cw_region ?_
    refine wl_val (v := .string ⟨⟨r_2.1⟩⟩) (w' := w_3) (by kernel_rfl) (run_move (v := .string ⟨⟨r_2.1⟩⟩) (by kernel_rfl)) ?_
    obtain ⟨r_7, h_111, hm⟩ := bind_e hm
    refine wl_op (by kernel_rfl) (ow_enter (run_callf (vs := [.string ⟨⟨r_2.1⟩⟩]) Tryd.func43 nm_43 (by kernel_rfl) (by kernel_rfl)) (f43_ok (p0_0 := r_2.1) fuel _ w_3 hL.lt  h_111) ?_)
    intro vR w_39 hR
    obtain ⟨rfl, hBe⟩ := hR
    have hS := Stp.call hL (Fz.of_below hBe [])
    replace h_1 := hS.box h_1 nilN
    replace hB := hS.below hL hB
    replace hL := hS.hL
    refine wl_val (v := .bool (!r_7)) (w' := w_39) (by kernel_rfl) (run_not (b := r_7) (by kernel_rfl)) ?_
    refine wl_val (v := .bool (!r_7)) (w' := w_39) (by kernel_rfl) (run_move (v := .bool (!r_7)) (by kernel_rfl)) ?_
    rcases Bool.eq_false_or_eq_true r_7 with hc_59 | hc_59
    · have hm := ite_t hm hc_59
      refine wl_val (v := .string ⟨⟨r_2.1⟩⟩) (w' := w_39) (wg (c := (!r_7)) (want := false) (by kernel_rfl) (not_t hc_59) rfl) (run_move (v := .string ⟨⟨r_2.1⟩⟩) (by kernel_rfl)) ?_
      refine wl_val (v := .int .i64 (r_2.1.length : Int)) (w' := w_39) (wg (c := (!r_7)) (want := false) (by kernel_rfl) (not_t hc_59) rfl) (run_len_str (s := r_2.1) Tryd.underlying9 (by kernel_rfl)) ?_
      refine wl_val (v := .bool (gt (r_2.1.length : Int) 1)) (w' := w_39) (wg (c := (!r_7)) (want := false) (by kernel_rfl) (not_t hc_59) rfl) (run_gt (k := .i64) (a := (r_2.1.length : Int)) (b := 1) (by kernel_rfl) (by kernel_rfl)) ?_
      refine wl_val (v := .bool (gt (r_2.1.length : Int) 1)) (w' := w_39) (wg (c := (!r_7)) (want := false) (by kernel_rfl) (not_t hc_59) rfl) (run_move (v := .bool (gt (r_2.1.length : Int) 1)) (by kernel_rfl)) ?_
      rcases Bool.eq_false_or_eq_true (gt (r_2.1.length : Int) 1) with hc_60 | hc_60
      · have hm := ite_t hm hc_60
        refine wl_val (v := .string ⟨⟨r_2.1⟩⟩) (w' := w_39) (wg (c := (gt (r_2.1.length : Int) 1)) (want := true) (by kernel_rfl) hc_60 rfl) (run_move (v := .string ⟨⟨r_2.1⟩⟩) (by kernel_rfl)) ?_
        refine wl_norm [.string ⟨⟨p0_0⟩⟩, undef, .pointer (some ⟨g_1, 0, none⟩), .bool false, .string ⟨⟨r_1.1⟩⟩, .bool r_1.2, .string ⟨⟨r_2.1⟩⟩, .string ⟨⟨r_2.2.1⟩⟩, .bool r_2.2.2, undef, undef, undef, undef, .tuple #[.string ⟨⟨r_1.1⟩⟩, .bool r_1.2], .string ⟨⟨p0_0⟩⟩, .tuple #[.string ⟨⟨r_1.1⟩⟩, .bool r_1.2], .string ⟨⟨r_1.1⟩⟩, .bool r_1.2, .tuple #[.string ⟨⟨r_2.1⟩⟩, .string ⟨⟨r_2.2.1⟩⟩, .bool r_2.2.2], .string ⟨⟨r_1.1⟩⟩, .tuple #[.string ⟨⟨r_2.1⟩⟩, .string ⟨⟨r_2.2.1⟩⟩, .bool r_2.2.2], .string ⟨⟨r_2.1⟩⟩, .string ⟨⟨r_2.2.1⟩⟩, .bool r_2.2.2, .string ⟨⟨r_2.1⟩⟩, .bool r_7, .bool (!r_7), .bool (!r_7), .string ⟨⟨r_2.1⟩⟩, .int .i64 (r_2.1.length : Int), .bool (gt (r_2.1.length : Int) 1), .bool (gt (r_2.1.length : Int) 1), .string ⟨⟨r_2.1⟩⟩, undef, undef, undef, undef, undef, undef, undef, undef, undef, undef, undef, undef, undef, undef, undef, undef, undef, undef, undef, undef, undef, undef, undef, undef, undef, undef, undef, undef, undef, undef, undef, undef, undef, undef, undef, undef, undef, undef, undef, undef, undef, undef, undef, undef, undef, undef, undef, undef, undef, undef, undef] (by kernel_rfl) ?_
        obtain ⟨b_23, h_112, hm⟩ := bind_e hm
        obtain ⟨h_1130, h_1131, _⟩ := at_some h_112
        refine wl_val (v := .int .u8 (b_23.toNat : Int)) (w' := w_39) (wg (c := (gt (r_2.1.length : Int) 1)) (want := true) (by kernel_rfl) hc_60 rfl) (run_index_str (s := r_2.1) (k := .i64) (j := 0) Tryd.underlying9 (by kernel_rfl) (by kernel_rfl) h_1130 h_1131) ?_
        refine wl_val (v := .bool (eqi (b_23.toNat : Int) 48)) (w' := w_39) (wg (c := (gt (r_2.1.length : Int) 1)) (want := true) (by kernel_rfl) hc_60 rfl) (run_eqi (k := .u8) (a := (b_23.toNat : Int)) (b := 48) (by kernel_rfl) (by kernel_rfl)) ?_
        refine wl_val (v := .bool (eqi (b_23.toNat : Int) 48)) (w' := w_39) (wg (c := (!r_7)) (want := false) (by kernel_rfl) (not_t hc_59) rfl) (run_pick_t (v := .bool (eqi (b_23.toNat : Int) 48)) (tr2 (c := (gt (r_2.1.length : Int) 1)) (by kernel_rfl) hc_60) (by kernel_rfl)) ?_
        refine wl_val (v := .bool (eqi (b_23.toNat : Int) 48)) (w' := w_39) (by kernel_rfl) (run_pick_f (v := .bool (eqi (b_23.toNat : Int) 48)) (tr2 (c := (!r_7)) (by kernel_rfl) (not_t hc_59)) (by kernel_rfl)) ?_
        refine wl_nil ?_
        exact then_c ⟨(eqi (b_23.toNat : Int) 48), (fun i => ([.string ⟨⟨r_2.1⟩⟩, .bool r_7, .bool (!r_7), .bool (!r_7), .string ⟨⟨r_2.1⟩⟩, .int .i64 (r_2.1.length : Int), .bool (gt (r_2.1.length : Int) 1), .bool (gt (r_2.1.length : Int) 1), .string ⟨⟨r_2.1⟩⟩, .int .u8 (b_23.toNat : Int), .bool (eqi (b_23.toNat : Int) 48), .bool (eqi (b_23.toNat : Int) 48)] : List Value).getD i undef), by kernel_rfl, hL, hB, h_1, hm⟩
      · have hm := ite_f hm hc_60
        refine wl_not0 (wg (c := (gt (r_2.1.length : Int) 1)) (want := true) (by kernel_rfl) hc_60 rfl) (by kernel_rfl) ?_
        refine wl_not0 (wg (c := (gt (r_2.1.length : Int) 1)) (want := true) (by kernel_rfl) hc_60 rfl) (by kernel_rfl) ?_
        refine wl_not0 (wg (c := (gt (r_2.1.length : Int) 1)) (want := true) (by kernel_rfl) hc_60 rfl) (by kernel_rfl) ?_
        refine wl_val (v := .bool false) (w' := w_39) (wg (c := (!r_7)) (want := false) (by kernel_rfl) (not_t hc_59) rfl) (run_pick_f (v := .bool false) (tr2 (c := (gt (r_2.1.length : Int) 1)) (by kernel_rfl) hc_60) (by kernel_rfl)) ?_
        refine wl_val (v := .bool false) (w' := w_39) (by kernel_rfl) (run_pick_f (v := .bool false) (tr2 (c := (!r_7)) (by kernel_rfl) (not_t hc_59)) (by kernel_rfl)) ?_
        refine wl_nil ?_
        exact then_c ⟨false, (fun i => ([.string ⟨⟨r_2.1⟩⟩, .bool r_7, .bool (!r_7), .bool (!r_7), .string ⟨⟨r_2.1⟩⟩, .int .i64 (r_2.1.length : Int), .bool (gt (r_2.1.length : Int) 1), .bool (gt (r_2.1.length : Int) 1), undef, undef, undef, .bool false] : List Value).getD i undef), by kernel_rfl, hL, hB, h_1, hm⟩
    · have hm := ite_f hm hc_59
      refine wl_not0 (wg (c := (!r_7)) (want := false) (by kernel_rfl) (not_f hc_59) rfl) (by kernel_rfl) ?_
      refine wl_not0 (wg (c := (!r_7)) (want := false) (by kernel_rfl) (not_f hc_59) rfl) (by kernel_rfl) ?_
      refine wl_not0 (wg (c := (!r_7)) (want := false) (by kernel_rfl) (not_f hc_59) rfl) (by kernel_rfl) ?_
      refine wl_not0 (wg (c := (!r_7)) (want := false) (by kernel_rfl) (not_f hc_59) rfl) (by kernel_rfl) ?_
      refine wl_not0 (by kernel_rfl) (by kernel_rfl) ?_
      refine wl_not0 (by kernel_rfl) (by kernel_rfl) ?_
      refine wl_not0 (by kernel_rfl) (by kernel_rfl) ?_
      refine wl_not0 (wg (c := (!r_7)) (want := false) (by kernel_rfl) (not_f hc_59) rfl) (by kernel_rfl) ?_
      refine wl_val (v := .bool true) (w' := w_39) (by kernel_rfl) (run_pick_t (v := .bool true) (tr2 (c := (!r_7)) (by kernel_rfl) (not_f hc_59)) (by kernel_rfl)) ?_
      refine wl_nil ?_
      exact then_c ⟨true, (fun i => ([.string ⟨⟨r_2.1⟩⟩, .bool r_7, .bool (!r_7), .bool (!r_7), undef, undef, undef, undef, undef, undef, undef, undef] : List Value).getD i undef), by kernel_rfl, hL, hB, h_1, hm⟩
  · intro l1 w_5 hI
    obtain ⟨x_1, u_1, rfl, hL, hB, h_1, hm⟩ := hI
    unfold m18_J1 at hm
    refine cw_cond (t := x_1) (by kernel_rfl) (fun hc_3 => ?_) (fun hc_3 => ?_)
    · have hm := ite_t hm hc_3
      refine cw_seq ?_
      refine cw_region ?_
      refine wl_val (v := .agg #[.int .i64 0, .int .u8 0]) (w' := w_5) (by kernel_rfl) (by kernel_rfl) ?_
      refine wl_op (by kernel_rfl) (ow_store_box' (g := g_1) (j := 0) (v := .agg #[.int .i64 0, .int .u8 0]) (vs := [.int .i64 0, .int .u8 0]) (cs' := [.int .i64 0, .int .u8 0]) sz_23 (by kernel_rfl) (by kernel_rfl) rfl rfl rfl hL h_1 rfl (by simp) rfl ?_)
      intro w_6 hS h_7
      replace hB := hS.below hL hB
      replace hL := hS.hL
      refine wl_val (v := .bool false) (w' := w_6) (by kernel_rfl) (run_assign (v := .bool false) (by kernel_rfl)) ?_
      refine wl_nil ?_
      refine then_n ?_
      refine cw_ret ?_
      refine then_ret ?_
      have hl0 := loadVar_boxn (P := Tryd.prog) (j := 0) (vs := [.int .i64 0, .int .u8 0]) Tryd.underlying23 rfl sz_23 h_7 (by kernel_rfl) rfl
      have hS : Stp w0.heap.size _ [] F [] w_6 _ := Stp.pick hL [] rfl (by decide)
      replace hB := hS.below hL hB
      replace hL := hS.hL
      obtain rfl := Option.some.inj hm
      exact ret2 (v := .agg #[.int .i64 0, .int .u8 0]) (v' := .bool false) rfl (resv_cell (ad := ⟨g_1, 0, none⟩) (by kernel_rfl) hl0) (resv_tmp (by kernel_rfl)) ⟨_, rfl, by kernel_rfl, hB⟩
    · have hm := ite_f hm hc_3
      refine cw_skip ?_
      refine then_n ?_
      refine cw_seq ?_
      refine cw_cut (fun l' w' => ∃ x_2, ∃ u_2 : Nat → Value, l' = [.string ⟨⟨p0_0⟩⟩, undef, .pointer (some ⟨g_1, 0, none⟩), .bool false, .string ⟨⟨r_1.1⟩⟩, .bool r_1.2, .string ⟨⟨r_2.1⟩⟩, .string ⟨⟨r_2.2.1⟩⟩, .bool r_2.2.2, undef, undef, undef, undef, .tuple #[.string ⟨⟨r_1.1⟩⟩, .bool r_1.2], .string ⟨⟨p0_0⟩⟩, .tuple #[.string ⟨⟨r_1.1⟩⟩, .bool r_1.2], .string ⟨⟨r_1.1⟩⟩, .bool r_1.2, .tuple #[.string ⟨⟨r_2.1⟩⟩, .string ⟨⟨r_2.2.1⟩⟩, .bool r_2.2.2], .string ⟨⟨r_1.1⟩⟩, .tuple #[.string ⟨⟨r_2.1⟩⟩, .string ⟨⟨r_2.2.1⟩⟩, .bool r_2.2.2], .string ⟨⟨r_2.1⟩⟩, .string ⟨⟨r_2.2.1⟩⟩, .bool r_2.2.2, (u_1 0), (u_1 1), (u_1 2), (u_1 3), (u_1 4), (u_1 5), (u_1 6), (u_1 7), (u_1 8), (u_1 9), (u_1 10), (u_1 11), .bool x_1, undef, (u_2 0), (u_2 1), (u_2 2), (u_2 3), (u_2 4), (u_2 5), (u_2 6), (u_2 7), (u_2 8), (u_2 9), .bool x_2, undef, undef, undef, undef, undef, undef, undef, undef, undef, undef, undef, undef, undef, undef, undef, undef, undef, undef, undef, undef, undef, undef, undef, undef, undef, undef, undef, undef, undef, undef, undef, undef, undef, undef, undef] ∧ LOk w0.heap.size [some g_1] F w' ∧ Below w0.heap.size w0 w' ∧ Bx w' g_1 [.int .i64 0, .int .u8 0] 23 ∧ m18_J2 fuel r_1 r_2 x_2 = some r) ?_ ?_
      · refine cw_region ?_
        refine wl_val (v := .bool r_2.2.2) (w' := w_5) (by kernel_rfl) (run_move (v := .bool r_2.2.2) (by kernel_rfl)) ?_
        refine wl_val (v := .bool r_2.2.2) (w' := w_5) (by kernel_rfl) (run_move (v := .bool r_2.2.2) (by kernel_rfl)) ?_
        rcases Bool.eq_false_or_eq_true r_2.2.2 with hc_57 | hc_57
        · have hm := ite_t hm hc_57
          refine wl_val (v := .string ⟨⟨r_2.2.1⟩⟩) (w' := w_5) (wg (c := r_2.2.2) (want := true) (by kernel_rfl) hc_57 rfl) (run_move (v := .string ⟨⟨r_2.2.1⟩⟩) (by kernel_rfl)) ?_
          obtain ⟨r_6, h_110, hm⟩ := bind_e hm
          refine wl_op (wg (c := r_2.2.2) (want := true) (by kernel_rfl) hc_57 rfl) (ow_enter (run_callf (vs := [.string ⟨⟨r_2.2.1⟩⟩]) Tryd.func43 nm_43 (by kernel_rfl) (by kernel_rfl)) (f43_ok (p0_0 := r_2.2.1) fuel _ w_5 hL.lt  h_110) ?_)
          intro vR w_38 hR
          obtain ⟨rfl, hBe⟩ := hR
          have hS := Stp.call hL (Fz.of_below hBe [])
          replace h_1 := hS.box h_1 nilN
          replace hB := hS.below hL hB
          replace hL := hS.hL
          refine wl_val (v := .bool (!r_6)) (w' := w_38) (wg (c := r_2.2.2) (want := true) (by kernel_rfl) hc_57 rfl) (run_not (b := r_6) (by kernel_rfl)) ?_
          refine wl_val (v := .bool (!r_6)) (w' := w_38) (wg (c := r_2.2.2) (want := true) (by kernel_rfl) hc_57 rfl) (run_move (v := .bool (!r_6)) (by kernel_rfl)) ?_
          rcases Bool.eq_false_or_eq_true r_6 with hc_58 | hc_58
          · have hm := ite_t hm hc_58
            refine wl_val (v := .string ⟨⟨r_2.2.1⟩⟩) (w' := w_38) (wg (c := (!r_6)) (want := false) (by kernel_rfl) (not_t hc_58) rfl) (run_move (v := .string ⟨⟨r_2.2.1⟩⟩) (by kernel_rfl)) ?_
            refine wl_val (v := .int .i64 (r_2.2.1.length : Int)) (w' := w_38) (wg (c := (!r_6)) (want := false) (by kernel_rfl) (not_t hc_58) rfl) (run_len_str (s := r_2.2.1) Tryd.underlying9 (by kernel_rfl)) ?_
            refine wl_val (v := .bool (gt (r_2.2.1.length : Int) 6)) (w' := w_38) (wg (c := (!r_6)) (want := false) (by kernel_rfl) (not_t hc_58) rfl) (run_gt (k := .i64) (a := (r_2.2.1.length : Int)) (b := 6) (by kernel_rfl) (by kernel_rfl)) ?_
            refine wl_val (v := .bool (gt (r_2.2.1.length : Int) 6)) (w' := w_38) (wg (c := r_2.2.2) (want := true) (by kernel_rfl) hc_57 rfl) (run_pick_f (v := .bool (gt (r_2.2.1.length : Int) 6)) (tr2 (c := (!r_6)) (by kernel_rfl) (not_t hc_58)) (by kernel_rfl)) ?_
            refine wl_val (v := .bool (gt (r_2.2.1.length : Int) 6)) (w' := w_38) (by kernel_rfl) (run_pick_t (v := .bool (gt (r_2.2.1.length : Int) 6)) (tr2 (c := r_2.2.2) (by kernel_rfl) hc_57) (by kernel_rfl)) ?_
            refine wl_nil ?_
            exact then_c ⟨(gt (r_2.2.1.length : Int) 6), (fun i => ([.bool r_2.2.2, .bool r_2.2.2, .string ⟨⟨r_2.2.1⟩⟩, .bool r_6, .bool (!r_6), .bool (!r_6), .string ⟨⟨r_2.2.1⟩⟩, .int .i64 (r_2.2.1.length : Int), .bool (gt (r_2.2.1.length : Int) 6), .bool (gt (r_2.2.1.length : Int) 6)] : List Value).getD i undef), by kernel_rfl, hL, hB, h_1, hm⟩
          · have hm := ite_f hm hc_58
            refine wl_not0 (wg (c := (!r_6)) (want := false) (by kernel_rfl) (not_f hc_58) rfl) (by kernel_rfl) ?_
            refine wl_not0 (wg (c := (!r_6)) (want := false) (by kernel_rfl) (not_f hc_58) rfl) (by kernel_rfl) ?_
            refine wl_not0 (wg (c := (!r_6)) (want := false) (by kernel_rfl) (not_f hc_58) rfl) (by kernel_rfl) ?_
            refine wl_val (v := .bool true) (w' := w_38) (wg (c := r_2.2.2) (want := true) (by kernel_rfl) hc_57 rfl) (run_pick_t (v := .bool true) (tr2 (c := (!r_6)) (by kernel_rfl) (not_f hc_58)) (by kernel_rfl)) ?_
            refine wl_val (v := .bool true) (w' := w_38) (by kernel_rfl) (run_pick_t (v := .bool true) (tr2 (c := r_2.2.2) (by kernel_rfl) hc_57) (by kernel_rfl)) ?_
            refine wl_nil ?_
            exact then_c ⟨true, (fun i => ([.bool r_2.2.2, .bool r_2.2.2, .string ⟨⟨r_2.2.1⟩⟩, .bool r_6, .bool (!r_6), .bool (!r_6), undef, undef, undef, .bool true] : List Value).getD i undef), by kernel_rfl, hL, hB, h_1, hm⟩
        · have hm := ite_f hm hc_57
          refine wl_not0 (wg (c := r_2.2.2) (want := true) (by kernel_rfl) hc_57 rfl) (by kernel_rfl) ?_
          refine wl_not0 (wg (c := r_2.2.2) (want := true) (by kernel_rfl) hc_57 rfl) (by kernel_rfl) ?_
          refine wl_not0 (wg (c := r_2.2.2) (want := true) (by kernel_rfl) hc_57 rfl) (by kernel_rfl) ?_
          refine wl_not0 (wg (c := r_2.2.2) (want := true) (by kernel_rfl) hc_57 rfl) (by kernel_rfl) ?_
          refine wl_not0 (by kernel_rfl) (by kernel_rfl) ?_
          refine wl_not0 (by kernel_rfl) (by kernel_rfl) ?_
          refine wl_not0 (by kernel_rfl) (by kernel_rfl) ?_
          refine wl_not0 (wg (c := r_2.2.2) (want := true) (by kernel_rfl) hc_57 rfl) (by kernel_rfl) ?_
          refine wl_val (v := .bool false) (w' := w_5) (by kernel_rfl) (run_pick_f (v := .bool false) (tr2 (c := r_2.2.2) (by kernel_rfl) hc_57) (by kernel_rfl)) ?_
          refine wl_nil ?_
          exact then_c ⟨false, (fun i => ([.bool r_2.2.2, .bool r_2.2.2, undef, undef, undef, undef, undef, undef, undef, undef] : List Value).getD i undef), by kernel_rfl, hL, hB, h_1, hm⟩
      · intro l1 w_8 hI
        obtain ⟨x_2, u_2, rfl, hL, hB, h_1, hm⟩ := hI
        unfold m18_J2 at hm
        refine cw_cond (t := x_2) (by kernel_rfl) (fun hc_6 => ?_) (fun hc_6 => ?_)
        · have hm := ite_t hm hc_6
          refine cw_seq ?_
          refine cw_region ?_
          refine wl_val (v := .agg #[.int .i64 0, .int .u8 0]) (w' := w_8) (by kernel_rfl) (by kernel_rfl) ?_
          refine wl_op (by kernel_rfl) (ow_store_box' (g := g_1) (j := 0) (v := .agg #[.int .i64 0, .int .u8 0]) (vs := [.int .i64 0, .int .u8 0]) (cs' := [.int .i64 0, .int .u8 0]) sz_23 (by kernel_rfl) (by kernel_rfl) rfl rfl rfl hL h_1 rfl (by simp) rfl ?_)
          intro w_9 hS h_9
          replace hB := hS.below hL hB
          replace hL := hS.hL
          refine wl_val (v := .bool false) (w' := w_9) (by kernel_rfl) (run_assign (v := .bool false) (by kernel_rfl)) ?_
          refine wl_nil ?_
          refine then_n ?_
          refine cw_ret ?_
          refine then_ret ?_
          have hl0 := loadVar_boxn (P := Tryd.prog) (j := 0) (vs := [.int .i64 0, .int .u8 0]) Tryd.underlying23 rfl sz_23 h_9 (by kernel_rfl) rfl
          have hS : Stp w0.heap.size _ [] F [] w_9 _ := Stp.pick hL [] rfl (by decide)
          replace hB := hS.below hL hB
          replace hL := hS.hL
          obtain rfl := Option.some.inj hm
          exact ret2 (v := .agg #[.int .i64 0, .int .u8 0]) (v' := .bool false) rfl (resv_cell (ad := ⟨g_1, 0, none⟩) (by kernel_rfl) hl0) (resv_tmp (by kernel_rfl)) ⟨_, rfl, by kernel_rfl, hB⟩
        · have hm := ite_f hm hc_6
          refine cw_skip ?_
          refine then_n ?_
          refine cw_seq ?_
          refine cw_region ?_
          refine wl_val (v := .string ⟨⟨r_2.2.1⟩⟩) (w' := w_8) (by kernel_rfl) (run_move (v := .string ⟨⟨r_2.2.1⟩⟩) (by kernel_rfl)) ?_
          obtain ⟨r_5, h_10, hm⟩ := bind_e hm
          refine wl_op (by kernel_rfl) (ow_enter (run_callf (vs := [.string ⟨⟨r_2.2.1⟩⟩, .string ⟨⟨([48] : List UInt8)⟩⟩]) Tryd.func32 nm_32 (by kernel_rfl) (by kernel_rfl)) (f32_ok (p0_0 := r_2.2.1) (p1_0 := ([48] : List UInt8)) fuel _ w_8 hL.lt  h_10) ?_)
          intro vR w_10 hR
          obtain ⟨rfl, hBe⟩ := hR
          have hS := Stp.call hL (Fz.of_below hBe [])
          replace h_1 := hS.box h_1 nilN
          replace hB := hS.below hL hB
          replace hL := hS.hL
          refine wl_val (v := .string ⟨⟨r_5⟩⟩) (w' := w_10) (by kernel_rfl) (run_assign (v := .string ⟨⟨r_5⟩⟩) (by kernel_rfl)) ?_
          refine wl_nil ?_
          refine then_n ?_
          refine cw_seq ?_
          refine cw_region ?_
          refine wl_val (v := .int .i64 0) (w' := w_10) (by kernel_rfl) (run_assign (v := .int .i64 0) (by kernel_rfl)) ?_
          refine wl_nil ?_
          refine then_n ?_
          refine cw_cut (fun l' w' => ∃ n_8, ∃ u_14 : Nat → Value, l' = [.string ⟨⟨p0_0⟩⟩, undef, .pointer (some ⟨g_1, 0, none⟩), (u_14 0), .string ⟨⟨r_1.1⟩⟩, .bool r_1.2, .string ⟨⟨r_2.1⟩⟩, .string ⟨⟨r_5⟩⟩, .bool r_2.2.2, .int .i64 n_8, undef, (u_14 1), (u_14 2), .tuple #[.string ⟨⟨r_1.1⟩⟩, .bool r_1.2], .string ⟨⟨p0_0⟩⟩, .tuple #[.string ⟨⟨r_1.1⟩⟩, .bool r_1.2], .string ⟨⟨r_1.1⟩⟩, .bool r_1.2, .tuple #[.string ⟨⟨r_2.1⟩⟩, .string ⟨⟨r_2.2.1⟩⟩, .bool r_2.2.2], .string ⟨⟨r_1.1⟩⟩, .tuple #[.string ⟨⟨r_2.1⟩⟩, .string ⟨⟨r_2.2.1⟩⟩, .bool r_2.2.2], .string ⟨⟨r_2.1⟩⟩, .string ⟨⟨r_2.2.1⟩⟩, .bool r_2.2.2, (u_1 0), (u_1 1), (u_1 2), (u_1 3), (u_1 4), (u_1 5), (u_1 6), (u_1 7), (u_1 8), (u_1 9), (u_1 10), (u_1 11), .bool x_1, undef, (u_2 0), (u_2 1), (u_2 2), (u_2 3), (u_2 4), (u_2 5), (u_2 6), (u_2 7), (u_2 8), (u_2 9), .bool x_2, undef, .string ⟨⟨r_2.2.1⟩⟩, .string ⟨⟨r_5⟩⟩, (u_14 3), (u_14 4), (u_14 5), (u_14 6), (u_14 7), (u_14 8), (u_14 9), (u_14 10), (u_14 11), (u_14 12), (u_14 13), (u_14 14), (u_14 15), (u_14 16), (u_14 17), (u_14 18), (u_14 19), (u_14 20), (u_14 21), (u_14 22), (u_14 23), (u_14 24), (u_14 25), (u_14 26), undef, undef, undef, undef, undef, undef, undef, undef] ∧ LOk w0.heap.size [some g_1] F w' ∧ Below w0.heap.size w0 w' ∧ Bx w' g_1 [.int .i64 0, .int .u8 0] 23 ∧ m18_J3 fuel r_1 r_5 n_8 = some r) ?_ ?_
          · refine cw_seq ?_
            refine cw_region ?_
            refine wl_val (v := .string ⟨⟨r_2.1⟩⟩) (w' := w_10) (by kernel_rfl) (run_move (v := .string ⟨⟨r_2.1⟩⟩) (by kernel_rfl)) ?_
            refine wl_val (v := .string ⟨⟨r_5⟩⟩) (w' := w_10) (by kernel_rfl) (run_move (v := .string ⟨⟨r_5⟩⟩) (by kernel_rfl)) ?_
            refine wl_val (v := .agg #[.string ⟨⟨r_2.1⟩⟩, .string ⟨⟨r_5⟩⟩]) (w' := w_10) (by kernel_rfl) (by kernel_rfl) ?_
            refine wl_val (v := .int .i64 0) (w' := w_10) (by kernel_rfl) (run_move (v := .int .i64 0) (by kernel_rfl)) ?_
            refine wl_nil ?_
            refine then_n ?_
            refine cw_block ?_
            refine cw_loop (σ := Int × Int) (m18_L5 fuel r_1 r_2 r_5) r (fun s l' w' => ∃ u_20 : Nat → Value, l' = [.string ⟨⟨p0_0⟩⟩, undef, .pointer (some ⟨g_1, 0, none⟩), (u_20 0), .string ⟨⟨r_1.1⟩⟩, .bool r_1.2, .string ⟨⟨r_2.1⟩⟩, .string ⟨⟨r_5⟩⟩, .bool r_2.2.2, .int .i64 s.1, undef, (u_20 1), (u_20 2), .tuple #[.string ⟨⟨r_1.1⟩⟩, .bool r_1.2], .string ⟨⟨p0_0⟩⟩, .tuple #[.string ⟨⟨r_1.1⟩⟩, .bool r_1.2], .string ⟨⟨r_1.1⟩⟩, .bool r_1.2, .tuple #[.string ⟨⟨r_2.1⟩⟩, .string ⟨⟨r_2.2.1⟩⟩, .bool r_2.2.2], .string ⟨⟨r_1.1⟩⟩, .tuple #[.string ⟨⟨r_2.1⟩⟩, .string ⟨⟨r_2.2.1⟩⟩, .bool r_2.2.2], .string ⟨⟨r_2.1⟩⟩, .string ⟨⟨r_2.2.1⟩⟩, .bool r_2.2.2, (u_1 0), (u_1 1), (u_1 2), (u_1 3), (u_1 4), (u_1 5), (u_1 6), (u_1 7), (u_1 8), (u_1 9), (u_1 10), (u_1 11), .bool x_1, undef, (u_2 0), (u_2 1), (u_2 2), (u_2 3), (u_2 4), (u_2 5), (u_2 6), (u_2 7), (u_2 8), (u_2 9), .bool x_2, undef, .string ⟨⟨r_2.2.1⟩⟩, .string ⟨⟨r_5⟩⟩, .string ⟨⟨r_2.1⟩⟩, .string ⟨⟨r_5⟩⟩, .agg #[.string ⟨⟨r_2.1⟩⟩, .string ⟨⟨r_5⟩⟩], .int .i64 s.2, (u_20 3), (u_20 4), (u_20 5), (u_20 6), (u_20 7), (u_20 8), (u_20 9), (u_20 10), (u_20 11), (u_20 12), (u_20 13), (u_20 14), (u_20 15), (u_20 16), (u_20 17), (u_20 18), (u_20 19), (u_20 20), (u_20 21), (u_20 22), undef, undef, undef, undef, undef, undef, undef, undef] ∧ LOk w0.heap.size [some g_1] F w' ∧ Below w0.heap.size w0 w' ∧ Bx w' g_1 [.int .i64 0, .int .u8 0] 23) ?_ (s := (0, 0)) (n := fuel) ⟨(fun i => ([.bool false, undef, undef, undef, undef, undef, undef, undef, undef, undef, undef, undef, undef, undef, undef, undef, undef, undef, undef, undef, undef, undef, undef] : List Value).getD i undef), by kernel_rfl, hL, hB, h_1⟩ hm
            intro self_1 s l1 w_29 hI hm
            obtain ⟨n_12, x_20⟩ := s
            try dsimp only at hI
            obtain ⟨u_20, rfl, hL, hB, h_1⟩ := hI
            unfold m18_L5 at hm
            refine cw_seq ?_
            refine cw_region ?_
            refine wl_val (v := .bool (lt x_20 2)) (w' := w_29) (by kernel_rfl) (run_lt (k := .i64) (a := x_20) (b := 2) (by kernel_rfl) (by kernel_rfl)) ?_
            refine wl_nil ?_
            refine then_n ?_
            refine cw_seq ?_
            refine cw_cond (t := (lt x_20 2)) (by kernel_rfl) (fun hc_44 => ?_) (fun hc_44 => ?_)
            · have hm := ite_t hm hc_44
              refine cw_skip ?_
              refine then_n ?_
              refine cw_cut (fun l' w' => ∃ n_16, ∃ u_26 : Nat → Value, l' = [.string ⟨⟨p0_0⟩⟩, undef, .pointer (some ⟨g_1, 0, none⟩), (u_26 0), .string ⟨⟨r_1.1⟩⟩, .bool r_1.2, .string ⟨⟨r_2.1⟩⟩, .string ⟨⟨r_5⟩⟩, .bool r_2.2.2, .int .i64 n_16, undef, (u_26 1), (u_26 2), .tuple #[.string ⟨⟨r_1.1⟩⟩, .bool r_1.2], .string ⟨⟨p0_0⟩⟩, .tuple #[.string ⟨⟨r_1.1⟩⟩, .bool r_1.2], .string ⟨⟨r_1.1⟩⟩, .bool r_1.2, .tuple #[.string ⟨⟨r_2.1⟩⟩, .string ⟨⟨r_2.2.1⟩⟩, .bool r_2.2.2], .string ⟨⟨r_1.1⟩⟩, .tuple #[.string ⟨⟨r_2.1⟩⟩, .string ⟨⟨r_2.2.1⟩⟩, .bool r_2.2.2], .string ⟨⟨r_2.1⟩⟩, .string ⟨⟨r_2.2.1⟩⟩, .bool r_2.2.2, (u_1 0), (u_1 1), (u_1 2), (u_1 3), (u_1 4), (u_1 5), (u_1 6), (u_1 7), (u_1 8), (u_1 9), (u_1 10), (u_1 11), .bool x_1, undef, (u_2 0), (u_2 1), (u_2 2), (u_2 3), (u_2 4), (u_2 5), (u_2 6), (u_2 7), (u_2 8), (u_2 9), .bool x_2, undef, .string ⟨⟨r_2.2.1⟩⟩, .string ⟨⟨r_5⟩⟩, .string ⟨⟨r_2.1⟩⟩, .string ⟨⟨r_5⟩⟩, .agg #[.string ⟨⟨r_2.1⟩⟩, .string ⟨⟨r_5⟩⟩], .int .i64 x_20, .bool (lt x_20 2), (u_26 3), (u_26 4), (u_26 5), (u_26 6), (u_26 7), (u_26 8), (u_26 9), (u_26 10), (u_26 11), (u_26 12), (u_26 13), (u_26 14), (u_26 15), (u_26 16), (u_26 17), (u_26 18), (u_26 19), (u_26 20), (u_20 22), undef, undef, undef, undef, undef, undef, undef, undef] ∧ LOk w0.heap.size [some g_1] F w' ∧ Below w0.heap.size w0 w' ∧ Bx w' g_1 [.int .i64 0, .int .u8 0] 23 ∧ m18_J6 fuel x_20 self_1 n_16 = some r) ?_ ?_
              · refine cw_block ?_
                refine cw_seq ?_
                refine cw_region ?_
                obtain ⟨e_7, h_96, hm⟩ := bind_e hm
                obtain ⟨h_970, h_971, _⟩ := at_some h_96
                refine wl_val (v := .string ⟨⟨e_7⟩⟩) (w' := w_29) (by kernel_rfl) (run_index_arr (kv := fun z : List UInt8 => Value.string ⟨⟨z⟩⟩) (xs := [r_2.1, r_5]) (k := .i64) (j := x_20) Tryd.underlying66 rfl Tryd.underlying9 rfl sz_9 (by kernel_rfl) (by kernel_rfl) h_970 h_971) ?_
                refine wl_val (v := .string ⟨⟨e_7⟩⟩) (w' := w_29) (by kernel_rfl) (run_assign (v := .string ⟨⟨e_7⟩⟩) (by kernel_rfl)) ?_
                refine wl_nil ?_
                refine then_n ?_
                refine cw_seq ?_
                refine cw_region ?_
                refine wl_val (v := .string ⟨⟨e_7⟩⟩) (w' := w_29) (by kernel_rfl) (run_move (v := .string ⟨⟨e_7⟩⟩) (by kernel_rfl)) ?_
                refine wl_val (v := .int .i64 (e_7.length : Int)) (w' := w_29) (by kernel_rfl) (run_len_str (s := e_7) Tryd.underlying9 (by kernel_rfl)) ?_
                refine wl_val (v := .int .i64 0) (w' := w_29) (by kernel_rfl) (run_move (v := .int .i64 0) (by kernel_rfl)) ?_
                refine wl_nil ?_
                refine then_n ?_
                refine cw_block ?_
                refine cw_loop (σ := Int × Int) (m18_L7 fuel x_20 self_1 e_7) r (fun s l' w' => ∃ u_28 : Nat → Value, l' = [.string ⟨⟨p0_0⟩⟩, undef, .pointer (some ⟨g_1, 0, none⟩), (u_28 0), .string ⟨⟨r_1.1⟩⟩, .bool r_1.2, .string ⟨⟨r_2.1⟩⟩, .string ⟨⟨r_5⟩⟩, .bool r_2.2.2, .int .i64 s.1, undef, .string ⟨⟨e_7⟩⟩, (u_28 1), .tuple #[.string ⟨⟨r_1.1⟩⟩, .bool r_1.2], .string ⟨⟨p0_0⟩⟩, .tuple #[.string ⟨⟨r_1.1⟩⟩, .bool r_1.2], .string ⟨⟨r_1.1⟩⟩, .bool r_1.2, .tuple #[.string ⟨⟨r_2.1⟩⟩, .string ⟨⟨r_2.2.1⟩⟩, .bool r_2.2.2], .string ⟨⟨r_1.1⟩⟩, .tuple #[.string ⟨⟨r_2.1⟩⟩, .string ⟨⟨r_2.2.1⟩⟩, .bool r_2.2.2], .string ⟨⟨r_2.1⟩⟩, .string ⟨⟨r_2.2.1⟩⟩, .bool r_2.2.2, (u_1 0), (u_1 1), (u_1 2), (u_1 3), (u_1 4), (u_1 5), (u_1 6), (u_1 7), (u_1 8), (u_1 9), (u_1 10), (u_1 11), .bool x_1, undef, (u_2 0), (u_2 1), (u_2 2), (u_2 3), (u_2 4), (u_2 5), (u_2 6), (u_2 7), (u_2 8), (u_2 9), .bool x_2, undef, .string ⟨⟨r_2.2.1⟩⟩, .string ⟨⟨r_5⟩⟩, .string ⟨⟨r_2.1⟩⟩, .string ⟨⟨r_5⟩⟩, .agg #[.string ⟨⟨r_2.1⟩⟩, .string ⟨⟨r_5⟩⟩], .int .i64 x_20, .bool (lt x_20 2), .string ⟨⟨e_7⟩⟩, .string ⟨⟨e_7⟩⟩, .int .i64 (e_7.length : Int), .int .i64 s.2, (u_28 2), (u_28 3), (u_28 4), (u_28 5), (u_28 6), (u_28 7), (u_28 8), (u_28 9), (u_28 10), (u_28 11), (u_28 12), (u_28 13), (u_28 14), (u_28 15), (u_20 22), undef, undef, undef, undef, undef, undef, undef, undef] ∧ LOk w0.heap.size [some g_1] F w' ∧ Below w0.heap.size w0 w' ∧ Bx w' g_1 [.int .i64 0, .int .u8 0] 23) ?_ (s := (n_12, 0)) (n := fuel) ⟨(fun i => ([(u_20 0), (u_20 2), (u_20 8), (u_20 9), (u_20 10), (u_20 11), (u_20 12), (u_20 13), (u_20 14), (u_20 15), (u_20 16), (u_20 17), (u_20 18), (u_20 19), (u_20 20), (u_20 21)] : List Value).getD i undef), by kernel_rfl, hL, hB, h_1⟩ hm
                intro self_2 s l1 w_36 hI hm
                obtain ⟨n_17, x_30⟩ := s
                try dsimp only at hI
                obtain ⟨u_28, rfl, hL, hB, h_1⟩ := hI
                unfold m18_L7 at hm
                refine cw_seq ?_
                refine cw_region ?_
                refine wl_val (v := .bool (lt x_30 (e_7.length : Int))) (w' := w_36) (by kernel_rfl) (run_lt (k := .i64) (a := x_30) (b := (e_7.length : Int)) (by kernel_rfl) (by kernel_rfl)) ?_
                refine wl_nil ?_
                refine then_n ?_
                refine cw_seq ?_
                refine cw_cond (t := (lt x_30 (e_7.length : Int))) (by kernel_rfl) (fun hc_55 => ?_) (fun hc_55 => ?_)
                · have hm := ite_t hm hc_55
                  refine cw_skip ?_
                  refine then_n ?_
                  refine cw_seq ?_
                  refine cw_block ?_
                  refine cw_seq ?_
                  refine cw_region ?_
                  refine wl_val (v := .int .i64 x_30) (w' := w_36) (by kernel_rfl) (run_move (v := .int .i64 x_30) (by kernel_rfl)) ?_
                  refine wl_val (v := .int .i64 x_30) (w' := w_36) (by kernel_rfl) (run_assign (v := .int .i64 x_30) (by kernel_rfl)) ?_
                  refine wl_nil ?_
                  refine then_n ?_
                  refine cw_seq ?_
                  refine cw_region ?_
                  refine wl_val (v := .int .i64 n_17) (w' := w_36) (by kernel_rfl) (run_move (v := .int .i64 n_17) (by kernel_rfl)) ?_
                  refine wl_val (v := .int .i64 (mul .i64 10 n_17)) (w' := w_36) (by kernel_rfl) (run_mul (k := .i64) (a := 10) (b := n_17) (by kernel_rfl) (by kernel_rfl)) ?_
                  refine wl_val (v := .string ⟨⟨e_7⟩⟩) (w' := w_36) (by kernel_rfl) (run_move (v := .string ⟨⟨e_7⟩⟩) (by kernel_rfl)) ?_
                  refine wl_val (v := .int .i64 x_30) (w' := w_36) (by kernel_rfl) (run_move (v := .int .i64 x_30) (by kernel_rfl)) ?_
                  obtain ⟨b_22, h_106, hm⟩ := bind_e hm
                  obtain ⟨h_1070, h_1071, _⟩ := at_some h_106
                  refine wl_val (v := .int .u8 (b_22.toNat : Int)) (w' := w_36) (by kernel_rfl) (run_index_str (s := e_7) (k := .i64) (j := x_30) Tryd.underlying9 (by kernel_rfl) (by kernel_rfl) h_1070 h_1071) ?_
                  refine wl_val (v := .int .u8 (sub .u8 (b_22.toNat : Int) 48)) (w' := w_36) (by kernel_rfl) (run_sub (k := .u8) (a := (b_22.toNat : Int)) (b := 48) (by kernel_rfl) (by kernel_rfl)) ?_
                  refine wl_val (v := .int .i64 (cvt .i64 (sub .u8 (b_22.toNat : Int) 48))) (w' := w_36) (by kernel_rfl) (run_cvt (k := .u8) (a := (sub .u8 (b_22.toNat : Int) 48)) Tryd.underlying5 Tryd.underlying2 (by kernel_rfl)) ?_
                  obtain ⟨x_32, h_108, hm⟩ := bind_e hm
                  refine wl_val (v := .int .i64 x_32) (w' := w_36) (by kernel_rfl) (by rw [← Option.some.inj h_108]; exact run_add (k := .i64) (a := (mul .i64 10 n_17)) (b := (cvt .i64 (sub .u8 (b_22.toNat : Int) 48))) (by kernel_rfl) (by kernel_rfl)) ?_
                  refine wl_val (v := .int .i64 x_32) (w' := w_36) (by kernel_rfl) (run_assign (v := .int .i64 x_32) (by kernel_rfl)) ?_
                  refine wl_nil ?_
                  refine then_n ?_
                  refine cw_norm [.string ⟨⟨p0_0⟩⟩, undef, .pointer (some ⟨g_1, 0, none⟩), (u_28 0), .string ⟨⟨r_1.1⟩⟩, .bool r_1.2, .string ⟨⟨r_2.1⟩⟩, .string ⟨⟨r_5⟩⟩, .bool r_2.2.2, .int .i64 x_32, undef, .string ⟨⟨e_7⟩⟩, .int .i64 x_30, .tuple #[.string ⟨⟨r_1.1⟩⟩, .bool r_1.2], .string ⟨⟨p0_0⟩⟩, .tuple #[.string ⟨⟨r_1.1⟩⟩, .bool r_1.2], .string ⟨⟨r_1.1⟩⟩, .bool r_1.2, .tuple #[.string ⟨⟨r_2.1⟩⟩, .string ⟨⟨r_2.2.1⟩⟩, .bool r_2.2.2], .string ⟨⟨r_1.1⟩⟩, .tuple #[.string ⟨⟨r_2.1⟩⟩, .string ⟨⟨r_2.2.1⟩⟩, .bool r_2.2.2], .string ⟨⟨r_2.1⟩⟩, .string ⟨⟨r_2.2.1⟩⟩, .bool r_2.2.2, (u_1 0), (u_1 1), (u_1 2), (u_1 3), (u_1 4), (u_1 5), (u_1 6), (u_1 7), (u_1 8), (u_1 9), (u_1 10), (u_1 11), .bool x_1, undef, (u_2 0), (u_2 1), (u_2 2), (u_2 3), (u_2 4), (u_2 5), (u_2 6), (u_2 7), (u_2 8), (u_2 9), .bool x_2, undef, .string ⟨⟨r_2.2.1⟩⟩, .string ⟨⟨r_5⟩⟩, .string ⟨⟨r_2.1⟩⟩, .string ⟨⟨r_5⟩⟩, .agg #[.string ⟨⟨r_2.1⟩⟩, .string ⟨⟨r_5⟩⟩], .int .i64 x_20, .bool (lt x_20 2), .string ⟨⟨e_7⟩⟩, .string ⟨⟨e_7⟩⟩, .int .i64 (e_7.length : Int), .int .i64 x_30, .bool (lt x_30 (e_7.length : Int)), .int .i64 x_30, .int .i64 n_17, .int .i64 (mul .i64 10 n_17), .string ⟨⟨e_7⟩⟩, .int .i64 x_30, .int .u8 (b_22.toNat : Int), .int .u8 (sub .u8 (b_22.toNat : Int) 48), .int .i64 (cvt .i64 (sub .u8 (b_22.toNat : Int) 48)), .int .i64 x_32, (u_28 12), (u_28 13), (u_28 14), (u_28 15), (u_20 22), undef, undef, undef, undef, undef, undef, undef, undef] (by kernel_rfl) ?_
                  refine cw_seq ?_
                  refine cw_region ?_
                  refine wl_val (v := .int .i64 x_32) (w' := w_36) (by kernel_rfl) (run_move (v := .int .i64 x_32) (by kernel_rfl)) ?_
                  refine wl_val (v := .bool (gt x_32 1000000000000)) (w' := w_36) (by kernel_rfl) (run_gt (k := .i64) (a := x_32) (b := 1000000000000) (by kernel_rfl) (by kernel_rfl)) ?_
                  refine wl_nil ?_
                  refine then_n ?_
                  refine cw_cond (t := (gt x_32 1000000000000)) (by kernel_rfl) (fun hc_56 => ?_) (fun hc_56 => ?_)
                  · have hm := ite_t hm hc_56
                    refine cw_seq ?_
                    refine cw_region ?_
                    refine wl_val (v := .agg #[.int .i64 0, .int .u8 0]) (w' := w_36) (by kernel_rfl) (by kernel_rfl) ?_
                    refine wl_op (by kernel_rfl) (ow_store_box' (g := g_1) (j := 0) (v := .agg #[.int .i64 0, .int .u8 0]) (vs := [.int .i64 0, .int .u8 0]) (cs' := [.int .i64 0, .int .u8 0]) sz_23 (by kernel_rfl) (by kernel_rfl) rfl rfl rfl hL h_1 rfl (by simp) rfl ?_)
                    intro w_37 hS h_109
                    replace hB := hS.below hL hB
                    replace hL := hS.hL
                    refine wl_val (v := .bool false) (w' := w_37) (by kernel_rfl) (run_assign (v := .bool false) (by kernel_rfl)) ?_
                    refine wl_nil ?_
                    refine then_n ?_
                    refine cw_ret ?_
                    refine inBlock_ret ?_
                    refine then_ret ?_
                    refine then_ret ?_
                    refine inBlock_ret ?_
                    refine inBlock_ret ?_
                    refine then_ret ?_
                    refine then_ret ?_
                    refine inBlock_ret ?_
                    refine then_ret ?_
                    have hl0 := loadVar_boxn (P := Tryd.prog) (j := 0) (vs := [.int .i64 0, .int .u8 0]) Tryd.underlying23 rfl sz_23 h_109 (by kernel_rfl) rfl
                    have hS : Stp w0.heap.size _ [] F [] w_37 _ := Stp.pick hL [] rfl (by decide)
                    replace hB := hS.below hL hB
                    replace hL := hS.hL
                    obtain rfl := Option.some.inj hm
                    exact ret2 (v := .agg #[.int .i64 0, .int .u8 0]) (v' := .bool false) rfl (resv_cell (ad := ⟨g_1, 0, none⟩) (by kernel_rfl) hl0) (resv_tmp (by kernel_rfl)) ⟨_, rfl, by kernel_rfl, hB⟩
                  · have hm := ite_f hm hc_56
                    refine cw_skip ?_
                    refine inBlock_n ?_
                    refine then_n ?_
                    refine cw_region ?_
                    refine wl_val (v := .int .i64 (add .i64 x_30 1)) (w' := w_36) (by kernel_rfl) (run_add (k := .i64) (a := x_30) (b := 1) (by kernel_rfl) (by kernel_rfl)) ?_
                    refine wl_val (v := .int .i64 (add .i64 x_30 1)) (w' := w_36) (by kernel_rfl) (run_move (v := .int .i64 (add .i64 x_30 1)) (by kernel_rfl)) ?_
                    refine wl_nil ?_
                    exact ⟨_, rfl, (x_32, (add .i64 x_30 1)), ⟨(fun i => ([(u_28 0), .int .i64 x_30, .bool (lt x_30 (e_7.length : Int)), .int .i64 x_30, .int .i64 n_17, .int .i64 (mul .i64 10 n_17), .string ⟨⟨e_7⟩⟩, .int .i64 x_30, .int .u8 (b_22.toNat : Int), .int .u8 (sub .u8 (b_22.toNat : Int) 48), .int .i64 (cvt .i64 (sub .u8 (b_22.toNat : Int) 48)), .int .i64 x_32, .int .i64 x_32, .bool (gt x_32 1000000000000), (u_28 14), .int .i64 (add .i64 x_30 1)] : List Value).getD i undef), by kernel_rfl, hL, hB, h_1⟩, hm⟩
                · have hm := ite_f hm hc_55
                  refine cw_exit ?_
                  refine then_exit ?_
                  refine then_exit ?_
                  refine inBlock_same ?_
                  refine inBlock_n ?_
                  exact then_c ⟨n_17, (fun i => ([(u_28 0), .string ⟨⟨e_7⟩⟩, (u_28 1), .string ⟨⟨e_7⟩⟩, .string ⟨⟨e_7⟩⟩, .int .i64 (e_7.length : Int), .int .i64 x_30, .bool (lt x_30 (e_7.length : Int)), (u_28 3), (u_28 4), (u_28 5), (u_28 6), (u_28 7), (u_28 8), (u_28 9), (u_28 10), (u_28 11), (u_28 12), (u_28 13), (u_28 14), (u_28 15)] : List Value).getD i undef), by kernel_rfl, hL, hB, h_1, hm⟩
              · intro l1 w_33 hI
                obtain ⟨n_16, u_26, rfl, hL, hB, h_1, hm⟩ := hI
                unfold m18_J6 at hm
                refine cw_region ?_
                refine wl_val (v := .int .i64 (add .i64 x_20 1)) (w' := w_33) (by kernel_rfl) (run_add (k := .i64) (a := x_20) (b := 1) (by kernel_rfl) (by kernel_rfl)) ?_
                refine wl_val (v := .int .i64 (add .i64 x_20 1)) (w' := w_33) (by kernel_rfl) (run_move (v := .int .i64 (add .i64 x_20 1)) (by kernel_rfl)) ?_
                refine wl_nil ?_
                exact ⟨_, rfl, (n_16, (add .i64 x_20 1)), ⟨(fun i => ([(u_26 0), (u_26 1), (u_26 2), .bool (lt x_20 2), (u_26 3), (u_26 4), (u_26 5), (u_26 6), (u_26 7), (u_26 8), (u_26 9), (u_26 10), (u_26 11), (u_26 12), (u_26 13), (u_26 14), (u_26 15), (u_26 16), (u_26 17), (u_26 18), (u_26 19), (u_26 20), .int .i64 (add .i64 x_20 1)] : List Value).getD i undef), by kernel_rfl, hL, hB, h_1⟩, hm⟩
            · have hm := ite_f hm hc_44
              refine cw_exit ?_
              refine then_exit ?_
              refine then_exit ?_
              refine inBlock_same ?_
              exact then_c ⟨n_12, (fun i => ([(u_20 0), (u_20 1), (u_20 2), .string ⟨⟨r_2.1⟩⟩, .string ⟨⟨r_5⟩⟩, .agg #[.string ⟨⟨r_2.1⟩⟩, .string ⟨⟨r_5⟩⟩], .int .i64 x_20, .bool (lt x_20 2), (u_20 4), (u_20 5), (u_20 6), (u_20 7), (u_20 8), (u_20 9), (u_20 10), (u_20 11), (u_20 12), (u_20 13), (u_20 14), (u_20 15), (u_20 16), (u_20 17), (u_20 18), (u_20 19), (u_20 20), (u_20 21), (u_20 22)] : List Value).getD i undef), by kernel_rfl, hL, hB, h_1, hm⟩
          · intro l1 w_20 hI
            obtain ⟨n_8, u_14, rfl, hL, hB, h_1, hm⟩ := hI
            unfold m18_J3 at hm
            refine cw_cut (fun l' w' => ∃ n_9, ∃ u_15 : Nat → Value, l' = [.string ⟨⟨p0_0⟩⟩, undef, .pointer (some ⟨g_1, 0, none⟩), (u_14 0), .string ⟨⟨r_1.1⟩⟩, .bool r_1.2, .string ⟨⟨r_2.1⟩⟩, .string ⟨⟨r_5⟩⟩, .bool r_2.2.2, .int .i64 n_9, undef, (u_14 1), (u_14 2), .tuple #[.string ⟨⟨r_1.1⟩⟩, .bool r_1.2], .string ⟨⟨p0_0⟩⟩, .tuple #[.string ⟨⟨r_1.1⟩⟩, .bool r_1.2], .string ⟨⟨r_1.1⟩⟩, .bool r_1.2, .tuple #[.string ⟨⟨r_2.1⟩⟩, .string ⟨⟨r_2.2.1⟩⟩, .bool r_2.2.2], .string ⟨⟨r_1.1⟩⟩, .tuple #[.string ⟨⟨r_2.1⟩⟩, .string ⟨⟨r_2.2.1⟩⟩, .bool r_2.2.2], .string ⟨⟨r_2.1⟩⟩, .string ⟨⟨r_2.2.1⟩⟩, .bool r_2.2.2, (u_1 0), (u_1 1), (u_1 2), (u_1 3), (u_1 4), (u_1 5), (u_1 6), (u_1 7), (u_1 8), (u_1 9), (u_1 10), (u_1 11), .bool x_1, undef, (u_2 0), (u_2 1), (u_2 2), (u_2 3), (u_2 4), (u_2 5), (u_2 6), (u_2 7), (u_2 8), (u_2 9), .bool x_2, undef, .string ⟨⟨r_2.2.1⟩⟩, .string ⟨⟨r_5⟩⟩, (u_14 3), (u_14 4), (u_14 5), (u_14 6), (u_14 7), (u_14 8), (u_14 9), (u_14 10), (u_14 11), (u_14 12), (u_14 13), (u_14 14), (u_14 15), (u_14 16), (u_14 17), (u_14 18), (u_14 19), (u_14 20), (u_14 21), (u_14 22), (u_14 23), (u_14 24), (u_14 25), (u_14 26), (u_15 0), (u_15 1), (u_15 2), undef, undef, undef, undef, undef] ∧ LOk w0.heap.size [some g_1] F w' ∧ Below w0.heap.size w0 w' ∧ Bx w' g_1 [.int .i64 0, .int .u8 0] 23 ∧ m18_J4 fuel r_5 n_9 = some r) ?_ ?_
            · refine cw_seq ?_
              refine cw_region ?_
              refine wl_val (v := .bool r_1.2) (w' := w_20) (by kernel_rfl) (run_move (v := .bool r_1.2) (by kernel_rfl)) ?_
              refine wl_nil ?_
              refine then_n ?_
              refine cw_cond (t := r_1.2) (by kernel_rfl) (fun hc_29 => ?_) (fun hc_29 => ?_)
              · have hm := ite_t hm hc_29
                refine cw_region ?_
                refine wl_val (v := .int .i64 n_8) (w' := w_20) (by kernel_rfl) (run_move (v := .int .i64 n_8) (by kernel_rfl)) ?_
                refine wl_val (v := .int .i64 (neg .i64 n_8)) (w' := w_20) (by kernel_rfl) (run_neg (k := .i64) (a := n_8) (by kernel_rfl)) ?_
                refine wl_val (v := .int .i64 (neg .i64 n_8)) (w' := w_20) (by kernel_rfl) (run_assign (v := .int .i64 (neg .i64 n_8)) (by kernel_rfl)) ?_
                refine wl_nil ?_
                exact then_c ⟨(neg .i64 n_8), (fun i => ([.bool r_1.2, .int .i64 n_8, .int .i64 (neg .i64 n_8)] : List Value).getD i undef), by kernel_rfl, hL, hB, h_1, hm⟩
              · have hm := ite_f hm hc_29
                refine cw_skip ?_
                exact then_c ⟨n_8, (fun i => ([.bool r_1.2, undef, undef] : List Value).getD i undef), by kernel_rfl, hL, hB, h_1, hm⟩
            · intro l1 w_21 hI
              obtain ⟨n_9, u_15, rfl, hL, hB, h_1, hm⟩ := hI
              unfold m18_J4 at hm
              refine cw_seq ?_
              refine cw_region ?_
              refine wl_val (v := .int .i64 n_9) (w' := w_21) (by kernel_rfl) (run_move (v := .int .i64 n_9) (by kernel_rfl)) ?_
              refine wl_val (v := .string ⟨⟨r_5⟩⟩) (w' := w_21) (by kernel_rfl) (run_move (v := .string ⟨⟨r_5⟩⟩) (by kernel_rfl)) ?_
              refine wl_val (v := .int .i64 (r_5.length : Int)) (w' := w_21) (by kernel_rfl) (run_len_str (s := r_5) Tryd.underlying9 (by kernel_rfl)) ?_
              refine wl_val (v := .int .u8 (cvt .u8 (r_5.length : Int))) (w' := w_21) (by kernel_rfl) (run_cvt (k := .i64) (a := (r_5.length : Int)) Tryd.underlying3 Tryd.underlying5 (by kernel_rfl)) ?_
              refine wl_val (v := .agg #[.int .i64 n_9, .int .u8 (cvt .u8 (r_5.length : Int))]) (w' := w_21) (by kernel_rfl) (by kernel_rfl) ?_
              refine wl_op (by kernel_rfl) (ow_store_box' (g := g_1) (j := 0) (v := .agg #[.int .i64 n_9, .int .u8 (cvt .u8 (r_5.length : Int))]) (vs := [.int .i64 n_9, .int .u8 (cvt .u8 (r_5.length : Int))]) (cs' := [.int .i64 n_9, .int .u8 (cvt .u8 (r_5.length : Int))]) sz_23 (by kernel_rfl) (by kernel_rfl) rfl rfl rfl hL h_1 rfl (by simp) rfl ?_)
              intro w_22 hS h_53
              replace hB := hS.below hL hB
              replace hL := hS.hL
              refine wl_val (v := .bool true) (w' := w_22) (by kernel_rfl) (run_assign (v := .bool true) (by kernel_rfl)) ?_
              refine wl_nil ?_
              refine then_n ?_
              refine cw_ret ?_
              have hl0 := loadVar_boxn (P := Tryd.prog) (j := 0) (vs := [.int .i64 n_9, .int .u8 (cvt .u8 (r_5.length : Int))]) Tryd.underlying23 rfl sz_23 h_53 (by kernel_rfl) rfl
              have hS : Stp w0.heap.size _ [] F [] w_22 _ := Stp.pick hL [] rfl (by decide)
              replace hB := hS.below hL hB
              replace hL := hS.hL
              obtain rfl := Option.some.inj hm
              exact ret2 (v := .agg #[.int .i64 n_9, .int .u8 (cvt .u8 (r_5.length : Int))]) (v' := .bool true) rfl (resv_cell (ad := ⟨g_1, 0, none⟩) (by kernel_rfl) hl0) (resv_tmp (by kernel_rfl)) ⟨_, rfl, by kernel_rfl, hB⟩
end SxYtihfogahdofdmaaDoor

end

section
/- Written by program (gen.py): the model of math/bits.Mul32, and the proof that its code computes it. -/
namespace SxYtihfogahdofdmaaDoor
open Go Go.RowKit Sx Go.Proofs
set_option linter.unusedVariables false
set_option linter.unusedSimpArgs false
attribute [local irreducible] WL WX CW OW
/-! ### 65: "math/bits.Mul32" -/
def m65 (fuel : Nat) (p0_0 : Int) (p1_0 : Int) : Option (Int × Int) :=
  (some (cvt .u32 (shr .u64 (mul .u64 (cvt .u64 p0_0) (cvt .u64 p1_0)) 32))).bind fun x_1 => some (x_1, (cvt .u32 (mul .u64 (cvt .u64 p0_0) (cvt .u64 p1_0))))
@[reducible] def Q65 (F : Lx) (w0 : World) (r : (Int × Int)) (v : Value) (w' : World) : Prop := v = .tuple #[.int .u32 r.1, .int .u32 r.2] ∧ Below w0.heap.size w0 w'
set_option maxRecDepth 100000 in
set_option maxHeartbeats 4000000 in
theorem f65_ok (fuel : Nat) (F : Lx) (w0 : World) (hF : ∀ k, some k ∈ F → k < w0.heap.size) {p0_0 : Int} {p1_0 : Int} {r : (Int × Int)} (hm : m65 fuel p0_0 p1_0 = some r) :
    Calls Tryd.prog 65 #[.int .u32 p0_0, .int .u32 p1_0] w0 (fun e w' => ∃ v, e = .returned v ∧ Q65 F w0 r v w') := by
  have hPF : PF (bodyPost Tryd.prog Tryd.f65 (fun e w' => ∃ v, e = .returned v ∧ Q65 F w0 r v w')) := PF.body (fun c w h => by obtain ⟨v, e, _⟩ := h; cases e)
  have hL := LOk.start hF
  have hB := Below.refl w0.heap.size w0
  unfold m65 at hm
  refine enter (l := [.int .u32 p0_0, .int .u32 p1_0, undef, undef, undef, undef, undef, undef, undef, undef, undef, undef, undef, undef, undef, undef, undef]) Tryd.func65 rfl Tryd.ntmps65 (by kernel_rfl) ?_
  refine cw_seq ?_
  refine cw_region ?_
  refine wl_val (v := .int .u32 0) (w' := w0) (by kernel_rfl) (run_assign (v := .int .u32 0) (by kernel_rfl)) ?_
  refine wl_val (v := .int .u32 0) (w' := w0) (by kernel_rfl) (run_assign (v := .int .u32 0) (by kernel_rfl)) ?_
  refine wl_nil ?_
  refine then_n ?_
  refine cw_seq ?_
  refine cw_region ?_
  refine wl_val (v := .int .u32 p0_0) (w' := w0) (by kernel_rfl) (run_move (v := .int .u32 p0_0) (by kernel_rfl)) ?_
  refine wl_val (v := .int .u64 (cvt .u64 p0_0)) (w' := w0) (by kernel_rfl) (run_cvt (k := .u32) (a := p0_0) Tryd.underlying96 Tryd.underlying55 (by kernel_rfl)) ?_
  refine wl_val (v := .int .u32 p1_0) (w' := w0) (by kernel_rfl) (run_move (v := .int .u32 p1_0) (by kernel_rfl)) ?_
  refine wl_val (v := .int .u64 (cvt .u64 p1_0)) (w' := w0) (by kernel_rfl) (run_cvt (k := .u32) (a := p1_0) Tryd.underlying96 Tryd.underlying55 (by kernel_rfl)) ?_
  refine wl_val (v := .int .u64 (mul .u64 (cvt .u64 p0_0) (cvt .u64 p1_0))) (w' := w0) (by kernel_rfl) (run_mul (k := .u64) (a := (cvt .u64 p0_0)) (b := (cvt .u64 p1_0)) (by kernel_rfl) (by kernel_rfl)) ?_
  refine wl_val (v := .int .u64 (mul .u64 (cvt .u64 p0_0) (cvt .u64 p1_0))) (w' := w0) (by kernel_rfl) (run_assign (v := .int .u64 (mul .u64 (cvt .u64 p0_0) (cvt .u64 p1_0))) (by kernel_rfl)) ?_
  refine wl_nil ?_
  refine then_n ?_
  refine cw_seq ?_
  refine cw_region ?_
  refine wl_val (v := .int .u64 (mul .u64 (cvt .u64 p0_0) (cvt .u64 p1_0))) (w' := w0) (by kernel_rfl) (run_move (v := .int .u64 (mul .u64 (cvt .u64 p0_0) (cvt .u64 p1_0))) (by kernel_rfl)) ?_
  refine wl_val (v := .int .u64 (shr .u64 (mul .u64 (cvt .u64 p0_0) (cvt .u64 p1_0)) 32)) (w' := w0) (by kernel_rfl) (run_shr (k := .u64) (a := (mul .u64 (cvt .u64 p0_0) (cvt .u64 p1_0))) (k' := .u64) (b := 32) (by kernel_rfl) (by kernel_rfl) rfl) ?_
  obtain ⟨x_1, h_1, hm⟩ := bind_e hm
  refine wl_val (v := .int .u32 x_1) (w' := w0) (by kernel_rfl) (by rw [← Option.some.inj h_1]; exact run_cvt (k := .u64) (a := (shr .u64 (mul .u64 (cvt .u64 p0_0) (cvt .u64 p1_0)) 32)) Tryd.underlying55 Tryd.underlying96 (by kernel_rfl)) ?_
  refine wl_val (v := .int .u64 (mul .u64 (cvt .u64 p0_0) (cvt .u64 p1_0))) (w' := w0) (by kernel_rfl) (run_move (v := .int .u64 (mul .u64 (cvt .u64 p0_0) (cvt .u64 p1_0))) (by kernel_rfl)) ?_
  refine wl_val (v := .int .u32 (cvt .u32 (mul .u64 (cvt .u64 p0_0) (cvt .u64 p1_0)))) (w' := w0) (by kernel_rfl) (run_cvt (k := .u64) (a := (mul .u64 (cvt .u64 p0_0) (cvt .u64 p1_0))) Tryd.underlying55 Tryd.underlying96 (by kernel_rfl)) ?_
  refine wl_val (v := .int .u32 x_1) (w' := w0) (by kernel_rfl) (run_assign (v := .int .u32 x_1) (by kernel_rfl)) ?_
  refine wl_norm [.int .u32 p0_0, .int .u32 p1_0, undef, undef, .int .u32 x_1, .int .u32 0, .int .u64 (mul .u64 (cvt .u64 p0_0) (cvt .u64 p1_0)), .int .u32 p0_0, .int .u64 (cvt .u64 p0_0), .int .u32 p1_0, .int .u64 (cvt .u64 p1_0), .int .u64 (mul .u64 (cvt .u64 p0_0) (cvt .u64 p1_0)), .int .u64 (mul .u64 (cvt .u64 p0_0) (cvt .u64 p1_0)), .int .u64 (shr .u64 (mul .u64 (cvt .u64 p0_0) (cvt .u64 p1_0)) 32), .int .u32 x_1, .int .u64 (mul .u64 (cvt .u64 p0_0) (cvt .u64 p1_0)), .int .u32 (cvt .u32 (mul .u64 (cvt .u64 p0_0) (cvt .u64 p1_0)))] (by kernel_rfl) ?_
  refine wl_val (v := .int .u32 (cvt .u32 (mul .u64 (cvt .u64 p0_0) (cvt .u64 p1_0)))) (w' := w0) (by kernel_rfl) (run_assign (v := .int .u32 (cvt .u32 (mul .u64 (cvt .u64 p0_0) (cvt .u64 p1_0)))) (by kernel_rfl)) ?_
  refine wl_nil ?_
  refine then_n ?_
  refine cw_ret ?_
  obtain rfl := Option.some.inj hm
  exact ret2 (v := .int .u32 x_1) (v' := .int .u32 (cvt .u32 (mul .u64 (cvt .u64 p0_0) (cvt .u64 p1_0)))) rfl (resv_tmp (by kernel_rfl)) (resv_tmp (by kernel_rfl)) ⟨_, rfl, by kernel_rfl, hB⟩
end SxYtihfogahdofdmaaDoor

end

section
/- Written by program (gen.py): the model of math/bits.Mul, and the proof that its code computes it. -/
namespace SxYtihfogahdofdmaaDoor
open Go Go.RowKit Sx Go.Proofs
set_option linter.unusedVariables false
set_option linter.unusedSimpArgs false
attribute [local irreducible] WL WX CW OW
/-! ### 49: "math/bits.Mul" -/
def m49 (fuel : Nat) (p0_0 : Int) (p1_0 : Int) : Option (Int × Int) :=
  (m36 fuel p0_0 p1_0).bind fun r_1 => some (r_1.1, r_1.2)
@[reducible] def Q49 (F : Lx) (w0 : World) (r : (Int × Int)) (v : Value) (w' : World) : Prop := v = .tuple #[.int .u64 r.1, .int .u64 r.2] ∧ Below w0.heap.size w0 w'
set_option maxRecDepth 100000 in
set_option maxHeartbeats 4000000 in
theorem f49_ok (fuel : Nat) (F : Lx) (w0 : World) (hF : ∀ k, some k ∈ F → k < w0.heap.size) {p0_0 : Int} {p1_0 : Int} {r : (Int × Int)} (hm : m49 fuel p0_0 p1_0 = some r) :
    Calls Tryd.prog 49 #[.int .u64 p0_0, .int .u64 p1_0] w0 (fun e w' => ∃ v, e = .returned v ∧ Q49 F w0 r v w') := by
  have hPF : PF (bodyPost Tryd.prog Tryd.f49 (fun e w' => ∃ v, e = .returned v ∧ Q49 F w0 r v w')) := PF.body (fun c w h => by obtain ⟨v, e, _⟩ := h; cases e)
  have hL := LOk.start hF
  have hB := Below.refl w0.heap.size w0
  unfold m49 at hm
  refine enter (l := [.int .u64 p0_0, .int .u64 p1_0, undef, undef, undef, undef, undef, undef, undef, undef, undef, undef, undef, undef, undef, undef, undef, undef, undef, undef, undef, undef, undef, undef, undef, undef, undef, undef, undef, undef]) Tryd.func49 rfl Tryd.ntmps49 (by kernel_rfl) ?_
  refine cw_seq ?_
  refine cw_region ?_
  refine wl_val (v := .int .u64 0) (w' := w0) (by kernel_rfl) (run_assign (v := .int .u64 0) (by kernel_rfl)) ?_
  refine wl_val (v := .int .u64 0) (w' := w0) (by kernel_rfl) (run_assign (v := .int .u64 0) (by kernel_rfl)) ?_
  refine wl_nil ?_
  refine then_n ?_
  refine cw_seq ?_
  refine cw_cond (t := false) (by kernel_rfl) (fun hc => by cases hc) (fun _ => ?_)
  refine cw_skip ?_
  refine then_n ?_
  refine cw_seq ?_
  refine cw_region ?_
  refine wl_val (v := .int .u64 p0_0) (w' := w0) (by kernel_rfl) (run_move (v := .int .u64 p0_0) (by kernel_rfl)) ?_
  refine wl_val (v := .int .u64 p1_0) (w' := w0) (by kernel_rfl) (run_move (v := .int .u64 p1_0) (by kernel_rfl)) ?_
  obtain ⟨r_1, h_1, hm⟩ := bind_e hm
  refine wl_op (by kernel_rfl) (ow_enter (run_callf (vs := [.int .u64 p0_0, .int .u64 p1_0]) Tryd.func36 nm_36 (by kernel_rfl) (by kernel_rfl)) (f36_ok (p0_0 := p0_0) (p1_0 := p1_0) fuel _ w0 hL.lt  h_1) ?_)
  intro vR w_1 hR
  obtain ⟨rfl, hBe⟩ := hR
  have hS := Stp.call hL (Fz.of_below hBe [])
  replace hB := hS.below hL hB
  replace hL := hS.hL
  refine wl_val (v := .tuple #[.int .u64 r_1.1, .int .u64 r_1.2]) (w' := w_1) (by kernel_rfl) (run_move (v := .tuple #[.int .u64 r_1.1, .int .u64 r_1.2]) (by kernel_rfl)) ?_
  refine wl_val (v := .int .u64 r_1.1) (w' := w_1) (by kernel_rfl) (run_extract (vs := #[.int .u64 r_1.1, .int .u64 r_1.2]) (by kernel_rfl) (by kernel_rfl)) ?_
  refine wl_val (v := .int .u64 r_1.2) (w' := w_1) (by kernel_rfl) (run_extract (vs := #[.int .u64 r_1.1, .int .u64 r_1.2]) (by kernel_rfl) (by kernel_rfl)) ?_
  refine wl_val (v := .int .u64 r_1.1) (w' := w_1) (by kernel_rfl) (run_assign (v := .int .u64 r_1.1) (by kernel_rfl)) ?_
  refine wl_val (v := .int .u64 r_1.2) (w' := w_1) (by kernel_rfl) (run_assign (v := .int .u64 r_1.2) (by kernel_rfl)) ?_
  refine wl_nil ?_
  refine then_n ?_
  refine cw_seq ?_
  refine cw_region ?_
  refine wl_val (v := .int .u64 r_1.1) (w' := w_1) (by kernel_rfl) (run_move (v := .int .u64 r_1.1) (by kernel_rfl)) ?_
  refine wl_val (v := .int .u64 r_1.2) (w' := w_1) (by kernel_rfl) (run_move (v := .int .u64 r_1.2) (by kernel_rfl)) ?_
  refine wl_val (v := .int .u64 r_1.1) (w' := w_1) (by kernel_rfl) (run_assign (v := .int .u64 r_1.1) (by kernel_rfl)) ?_
  refine wl_val (v := .int .u64 r_1.2) (w' := w_1) (by kernel_rfl) (run_assign (v := .int .u64 r_1.2) (by kernel_rfl)) ?_
  refine wl_nil ?_
  refine then_n ?_
  refine cw_norm [.int .u64 p0_0, .int .u64 p1_0, undef, undef, .int .u64 r_1.1, .int .u64 r_1.2, undef, undef, .int .u64 r_1.1, .int .u64 r_1.2, undef, undef, undef, undef, undef, undef, undef, undef, undef, undef, undef, undef, .tuple #[.int .u64 r_1.1, .int .u64 r_1.2], .int .u64 p0_0, .int .u64 p1_0, .tuple #[.int .u64 r_1.1, .int .u64 r_1.2], .int .u64 r_1.1, .int .u64 r_1.2, .int .u64 r_1.1, .int .u64 r_1.2] (by kernel_rfl) ?_
  refine cw_ret ?_
  obtain rfl := Option.some.inj hm
  exact ret2 (v := .int .u64 r_1.1) (v' := .int .u64 r_1.2) rfl (resv_tmp (by kernel_rfl)) (resv_tmp (by kernel_rfl)) ⟨_, rfl, by kernel_rfl, hB⟩
end SxYtihfogahdofdmaaDoor

end

section
/- Written by program (gen.py): the model of strings.HasPrefix, and the proof that its code computes it. -/
namespace SxYtihfogahdofdmaaDoor
open Go Go.RowKit Sx Go.Proofs
set_option linter.unusedVariables false
set_option linter.unusedSimpArgs false
attribute [local irreducible] WL WX CW OW
/-! ### 50: "strings.HasPrefix" -/
def m50 (fuel : Nat) (p0_0 : (List UInt8)) (p1_0 : (List UInt8)) : Option Bool :=
  (m66 fuel p0_0 p1_0).bind fun r_1 => some r_1
@[reducible] def Q50 (F : Lx) (w0 : World) (r : Bool) (v : Value) (w' : World) : Prop := v = .bool r ∧ Below w0.heap.size w0 w'
set_option maxRecDepth 100000 in
set_option maxHeartbeats 4000000 in
theorem f50_ok (fuel : Nat) (F : Lx) (w0 : World) (hF : ∀ k, some k ∈ F → k < w0.heap.size) {p0_0 : (List UInt8)} {p1_0 : (List UInt8)} {r : Bool} (hm : m50 fuel p0_0 p1_0 = some r) :
    Calls Tryd.prog 50 #[.string ⟨⟨p0_0⟩⟩, .string ⟨⟨p1_0⟩⟩] w0 (fun e w' => ∃ v, e = .returned v ∧ Q50 F w0 r v w') := by
  have hPF : PF (bodyPost Tryd.prog Tryd.f50 (fun e w' => ∃ v, e = .returned v ∧ Q50 F w0 r v w')) := PF.body (fun c w h => by obtain ⟨v, e, _⟩ := h; cases e)
  have hL := LOk.start hF
  have hB := Below.refl w0.heap.size w0
  unfold m50 at hm
  refine enter (l := [.string ⟨⟨p0_0⟩⟩, .string ⟨⟨p1_0⟩⟩, undef, undef, undef, undef, undef, undef]) Tryd.func50 rfl Tryd.ntmps50 (by kernel_rfl) ?_
  refine cw_seq ?_
  refine cw_region ?_
  refine wl_val (v := .bool false) (w' := w0) (by kernel_rfl) (run_assign (v := .bool false) (by kernel_rfl)) ?_
  refine wl_nil ?_
  refine then_n ?_
  refine cw_seq ?_
  refine cw_region ?_
  refine wl_val (v := .string ⟨⟨p0_0⟩⟩) (w' := w0) (by kernel_rfl) (run_move (v := .string ⟨⟨p0_0⟩⟩) (by kernel_rfl)) ?_
  refine wl_val (v := .string ⟨⟨p1_0⟩⟩) (w' := w0) (by kernel_rfl) (run_move (v := .string ⟨⟨p1_0⟩⟩) (by kernel_rfl)) ?_
  obtain ⟨r_1, h_1, hm⟩ := bind_e hm
  refine wl_op (by kernel_rfl) (ow_enter (run_callf (vs := [.string ⟨⟨p0_0⟩⟩, .string ⟨⟨p1_0⟩⟩]) Tryd.func66 nm_66 (by kernel_rfl) (by kernel_rfl)) (f66_ok (p0_0 := p0_0) (p1_0 := p1_0) fuel _ w0 hL.lt  h_1) ?_)
  intro vR w_1 hR
  obtain ⟨rfl, hBe⟩ := hR
  have hS := Stp.call hL (Fz.of_below hBe [])
  replace hB := hS.below hL hB
  replace hL := hS.hL
  refine wl_val (v := .bool r_1) (w' := w_1) (by kernel_rfl) (run_assign (v := .bool r_1) (by kernel_rfl)) ?_
  refine wl_nil ?_
  refine then_n ?_
  refine cw_ret ?_
  obtain rfl := Option.some.inj hm
  exact ret1 (v := .bool r_1) rfl (resv_tmp (by kernel_rfl)) ⟨_, rfl, by kernel_rfl, hB⟩
end SxYtihfogahdofdmaaDoor

end

section
/- Written by program (gen.py): the model of strings.Repeat, and the proof that its code computes it. -/
namespace SxYtihfogahdofdmaaDoor
open Go Go.RowKit Sx Go.Proofs
set_option linter.unusedVariables false
set_option linter.unusedSimpArgs false
attribute [local irreducible] WL WX CW OW
/-! ### 29: "strings.Repeat" -/
def m29_J4 (fuel : Nat) (chunkMax_1 : Int) : Option (List UInt8) :=
  none
def m29_J3 (fuel : Nat) (p0_0 : (List UInt8)) (r_1 : (Int × Int)) : Option (List UInt8) :=
  if (gt (cvt .i64 r_1.2) 8192) then (need (nei (p0_0.length : Int) 0) ((some (mul .i64 (quo .i64 8192 (p0_0.length : Int)) (p0_0.length : Int))).bind fun x_9 => if (eqi x_9 0) then (m29_J4 fuel  (p0_0.length : Int)) else (m29_J4 fuel  x_9))) else (m29_J4 fuel  (cvt .i64 r_1.2))
def m29_J10 (fuel : Nat) (p0_0 : (List UInt8)) (r_1 : (Int × Int)) (x_15 : Bool) : Option (List UInt8) :=
  if x_15 then ((cut ([9, 9, 9, 9, 9, 9, 9, 9, 9, 9, 9, 9, 9, 9, 9, 9, 9, 9, 9, 9, 9, 9, 9, 9, 9, 9, 9, 9, 9, 9, 9, 9, 9, 9, 9, 9, 9, 9, 9, 9, 9, 9, 9, 9, 9, 9, 9, 9, 9, 9, 9, 9, 9, 9, 9, 9, 9, 9, 9, 9, 9, 9, 9, 9] : List UInt8) 0 (cvt .i64 r_1.2)).bind fun s_10 => some s_10) else (m29_J3 fuel p0_0 r_1 )
def m29_J9 (fuel : Nat) (p0_0 : (List UInt8)) (r_1 : (Int × Int)) (x_14 : Bool) : Option (List UInt8) :=
  if x_14 then ((cut ([61, 61, 61, 61, 61, 61, 61, 61, 61, 61, 61, 61, 61, 61, 61, 61, 61, 61, 61, 61, 61, 61, 61, 61, 61, 61, 61, 61, 61, 61, 61, 61, 61, 61, 61, 61, 61, 61, 61, 61, 61, 61, 61, 61, 61, 61, 61, 61, 61, 61, 61, 61, 61, 61, 61, 61, 61, 61, 61, 61, 61, 61, 61, 61, 61, 61, 61, 61, 61, 61, 61, 61, 61, 61, 61, 61, 61, 61, 61, 61, 61, 61, 61, 61, 61, 61, 61, 61, 61, 61, 61, 61, 61, 61, 61, 61, 61, 61, 61, 61, 61, 61, 61, 61, 61, 61, 61, 61, 61, 61, 61, 61, 61, 61, 61, 61, 61, 61, 61, 61, 61, 61, 61, 61, 61, 61, 61, 61] : List UInt8) 0 (cvt .i64 r_1.2)).bind fun s_9 => some s_9) else (if (le (cvt .i64 r_1.2) 64) then ((m50 fuel ([9, 9, 9, 9, 9, 9, 9, 9, 9, 9, 9, 9, 9, 9, 9, 9, 9, 9, 9, 9, 9, 9, 9, 9, 9, 9, 9, 9, 9, 9, 9, 9, 9, 9, 9, 9, 9, 9, 9, 9, 9, 9, 9, 9, 9, 9, 9, 9, 9, 9, 9, 9, 9, 9, 9, 9, 9, 9, 9, 9, 9, 9, 9, 9] : List UInt8) p0_0).bind fun r_12 => m29_J10 fuel p0_0 r_1 r_12) else (m29_J10 fuel p0_0 r_1 false))
def m29_J8 (fuel : Nat) (p0_0 : (List UInt8)) (r_1 : (Int × Int)) (x_13 : Bool) : Option (List UInt8) :=
  if x_13 then ((cut ([48, 48, 48, 48, 48, 48, 48, 48, 48, 48, 48, 48, 48, 48, 48, 48, 48, 48, 48, 48, 48, 48, 48, 48, 48, 48, 48, 48, 48, 48, 48, 48, 48, 48, 48, 48, 48, 48, 48, 48, 48, 48, 48, 48, 48, 48, 48, 48, 48, 48, 48, 48, 48, 48, 48, 48, 48, 48, 48, 48, 48, 48, 48, 48] : List UInt8) 0 (cvt .i64 r_1.2)).bind fun s_8 => some s_8) else (if (le (cvt .i64 r_1.2) 128) then ((m50 fuel ([61, 61, 61, 61, 61, 61, 61, 61, 61, 61, 61, 61, 61, 61, 61, 61, 61, 61, 61, 61, 61, 61, 61, 61, 61, 61, 61, 61, 61, 61, 61, 61, 61, 61, 61, 61, 61, 61, 61, 61, 61, 61, 61, 61, 61, 61, 61, 61, 61, 61, 61, 61, 61, 61, 61, 61, 61, 61, 61, 61, 61, 61, 61, 61, 61, 61, 61, 61, 61, 61, 61, 61, 61, 61, 61, 61, 61, 61, 61, 61, 61, 61, 61, 61, 61, 61, 61, 61, 61, 61, 61, 61, 61, 61, 61, 61, 61, 61, 61, 61, 61, 61, 61, 61, 61, 61, 61, 61, 61, 61, 61, 61, 61, 61, 61, 61, 61, 61, 61, 61, 61, 61, 61, 61, 61, 61, 61, 61] : List UInt8) p0_0).bind fun r_13 => m29_J9 fuel p0_0 r_1 r_13) else (m29_J9 fuel p0_0 r_1 false))
def m29_J7 (fuel : Nat) (p0_0 : (List UInt8)) (r_1 : (Int × Int)) (x_12 : Bool) : Option (List UInt8) :=
  if x_12 then ((cut ([45, 45, 45, 45, 45, 45, 45, 45, 45, 45, 45, 45, 45, 45, 45, 45, 45, 45, 45, 45, 45, 45, 45, 45, 45, 45, 45, 45, 45, 45, 45, 45, 45, 45, 45, 45, 45, 45, 45, 45, 45, 45, 45, 45, 45, 45, 45, 45, 45, 45, 45, 45, 45, 45, 45, 45, 45, 45, 45, 45, 45, 45, 45, 45, 45, 45, 45, 45, 45, 45, 45, 45, 45, 45, 45, 45, 45, 45, 45, 45, 45, 45, 45, 45, 45, 45, 45, 45, 45, 45, 45, 45, 45, 45, 45, 45, 45, 45, 45, 45, 45, 45, 45, 45, 45, 45, 45, 45, 45, 45, 45, 45, 45, 45, 45, 45, 45, 45, 45, 45, 45, 45, 45, 45, 45, 45, 45, 45] : List UInt8) 0 (cvt .i64 r_1.2)).bind fun s_7 => some s_7) else (if (le (cvt .i64 r_1.2) 64) then ((m50 fuel ([48, 48, 48, 48, 48, 48, 48, 48, 48, 48, 48, 48, 48, 48, 48, 48, 48, 48, 48, 48, 48, 48, 48, 48, 48, 48, 48, 48, 48, 48, 48, 48, 48, 48, 48, 48, 48, 48, 48, 48, 48, 48, 48, 48, 48, 48, 48, 48, 48, 48, 48, 48, 48, 48, 48, 48, 48, 48, 48, 48, 48, 48, 48, 48] : List UInt8) p0_0).bind fun r_14 => m29_J8 fuel p0_0 r_1 r_14) else (m29_J8 fuel p0_0 r_1 false))
def m29_J6 (fuel : Nat) (p0_0 : (List UInt8)) (r_1 : (Int × Int)) (x_11 : Bool) : Option (List UInt8) :=
  if x_11 then ((cut ([32, 32, 32, 32, 32, 32, 32, 32, 32, 32, 32, 32, 32, 32, 32, 32, 32, 32, 32, 32, 32, 32, 32, 32, 32, 32, 32, 32, 32, 32, 32, 32, 32, 32, 32, 32, 32, 32, 32, 32, 32, 32, 32, 32, 32, 32, 32, 32, 32, 32, 32, 32, 32, 32, 32, 32, 32, 32, 32, 32, 32, 32, 32, 32, 32, 32, 32, 32, 32, 32, 32, 32, 32, 32, 32, 32, 32, 32, 32, 32, 32, 32, 32, 32, 32, 32, 32, 32, 32, 32, 32, 32, 32, 32, 32, 32, 32, 32, 32, 32, 32, 32, 32, 32, 32, 32, 32, 32, 32, 32, 32, 32, 32, 32, 32, 32, 32, 32, 32, 32, 32, 32, 32, 32, 32, 32, 32, 32] : List UInt8) 0 (cvt .i64 r_1.2)).bind fun s_6 => some s_6) else (if (le (cvt .i64 r_1.2) 128) then ((m50 fuel ([45, 45, 45, 45, 45, 45, 45, 45, 45, 45, 45, 45, 45, 45, 45, 45, 45, 45, 45, 45, 45, 45, 45, 45, 45, 45, 45, 45, 45, 45, 45, 45, 45, 45, 45, 45, 45, 45, 45, 45, 45, 45, 45, 45, 45, 45, 45, 45, 45, 45, 45, 45, 45, 45, 45, 45, 45, 45, 45, 45, 45, 45, 45, 45, 45, 45, 45, 45, 45, 45, 45, 45, 45, 45, 45, 45, 45, 45, 45, 45, 45, 45, 45, 45, 45, 45, 45, 45, 45, 45, 45, 45, 45, 45, 45, 45, 45, 45, 45, 45, 45, 45, 45, 45, 45, 45, 45, 45, 45, 45, 45, 45, 45, 45, 45, 45, 45, 45, 45, 45, 45, 45, 45, 45, 45, 45, 45, 45] : List UInt8) p0_0).bind fun r_15 => m29_J7 fuel p0_0 r_1 r_15) else (m29_J7 fuel p0_0 r_1 false))
def m29_J5 (fuel : Nat) (p0_0 : (List UInt8)) (r_1 : (Int × Int)) (x_10 : Bool) : Option (List UInt8) :=
  if x_10 then (if (le (cvt .i64 r_1.2) 128) then ((m50 fuel ([32, 32, 32, 32, 32, 32, 32, 32, 32, 32, 32, 32, 32, 32, 32, 32, 32, 32, 32, 32, 32, 32, 32, 32, 32, 32, 32, 32, 32, 32, 32, 32, 32, 32, 32, 32, 32, 32, 32, 32, 32, 32, 32, 32, 32, 32, 32, 32, 32, 32, 32, 32, 32, 32, 32, 32, 32, 32, 32, 32, 32, 32, 32, 32, 32, 32, 32, 32, 32, 32, 32, 32, 32, 32, 32, 32, 32, 32, 32, 32, 32, 32, 32, 32, 32, 32, 32, 32, 32, 32, 32, 32, 32, 32, 32, 32, 32, 32, 32, 32, 32, 32, 32, 32, 32, 32, 32, 32, 32, 32, 32, 32, 32, 32, 32, 32, 32, 32, 32, 32, 32, 32, 32, 32, 32, 32, 32, 32] : List UInt8) p0_0).bind fun r_16 => m29_J6 fuel p0_0 r_1 r_16) else (m29_J6 fuel p0_0 r_1 false)) else (m29_J3 fuel p0_0 r_1 )
def m29_J2 (fuel : Nat) (p0_0 : (List UInt8)) (r_1 : (Int × Int)) : Option (List UInt8) :=
  if (eqi (p0_0.length : Int) 0) then (some ([] : List UInt8)) else ((at? p0_0 0).bind fun b_2 => if (eqi (b_2.toNat : Int) 32) then (m29_J5 fuel p0_0 r_1 (eqi (b_2.toNat : Int) 32)) else (if (eqi (b_2.toNat : Int) 45) then (m29_J5 fuel p0_0 r_1 (eqi (b_2.toNat : Int) 45)) else (if (eqi (b_2.toNat : Int) 48) then (m29_J5 fuel p0_0 r_1 (eqi (b_2.toNat : Int) 48)) else (if (eqi (b_2.toNat : Int) 61) then (m29_J5 fuel p0_0 r_1 (eqi (b_2.toNat : Int) 61)) else (m29_J5 fuel p0_0 r_1 (eqi (b_2.toNat : Int) 9))))))
def m29_J11 (fuel : Nat) (p0_0 : (List UInt8)) (r_1 : (Int × Int)) (x_16 : Bool) : Option (List UInt8) :=
  if x_16 then (none) else (m29_J2 fuel p0_0 r_1 )
def m29_J1 (fuel : Nat) (p0_0 : (List UInt8)) (p1_0 : Int) : Option (List UInt8) :=
  (m49 fuel (cvt .u64 (p0_0.length : Int)) (cvt .u64 p1_0)).bind fun r_1 => if (gt r_1.1 0) then (m29_J11 fuel p0_0 r_1 true) else (m29_J11 fuel p0_0 r_1 (gt r_1.2 9223372036854775807))
def m29 (fuel : Nat) (p0_0 : (List UInt8)) (p1_0 : Int) : Option (List UInt8) :=
  if (eqi p1_0 0) then (some ([] : List UInt8)) else (if (eqi p1_0 1) then (some p0_0) else (if (lt p1_0 0) then (none) else (m29_J1 fuel p0_0 p1_0 )))
@[reducible] def Q29 (F : Lx) (w0 : World) (r : (List UInt8)) (v : Value) (w' : World) : Prop := v = .string ⟨⟨r⟩⟩ ∧ Below w0.heap.size w0 w'
set_option maxRecDepth 100000 in
set_option maxHeartbeats 4000000 in
theorem f29_ok (fuel : Nat) (F : Lx) (w0 : World) (hF : ∀ k, some k ∈ F → k < w0.heap.size) {p0_0 : (List UInt8)} {p1_0 : Int} {r : (List UInt8)} (hm : m29 fuel p0_0 p1_0 = some r) :
    Calls Tryd.prog 29 #[.string ⟨⟨p0_0⟩⟩, .int .i64 p1_0] w0 (fun e w' => ∃ v, e = .returned v ∧ Q29 F w0 r v w') := by
  have hPF : PF (bodyPost Tryd.prog Tryd.f29 (fun e w' => ∃ v, e = .returned v ∧ Q29 F w0 r v w')) := PF.body (fun c w h => by obtain ⟨v, e, _⟩ := h; cases e)
  have hL := LOk.start hF
  have hB := Below.refl w0.heap.size w0
  unfold m29 at hm
  refine enter (l := [.string ⟨⟨p0_0⟩⟩, .int .i64 p1_0, undef, undef, undef, undef, undef, undef, undef, undef, undef, undef, undef, undef, undef, undef, undef, undef, undef, undef, undef, undef, undef, undef, undef, undef, undef, undef, undef, undef, undef, undef, undef, undef, undef, undef, undef, undef, undef, undef, undef, undef, undef, undef, undef, undef, undef, undef, undef, undef, undef, undef, undef, undef, undef, undef, undef, undef, undef, undef, undef, undef, undef, undef, undef, undef, undef, undef, undef, undef, undef, undef, undef, undef, undef, undef, undef, undef, undef, undef, undef, undef, undef, undef, undef, undef, undef, undef, undef, undef, undef, undef, undef, undef, undef, undef, undef, undef, undef, undef, undef, undef, undef, undef, undef, undef, undef, undef, undef, undef, undef, undef, undef, undef, undef, undef, undef, undef, undef, undef, undef, undef, undef, undef, undef]) Tryd.func29 rfl Tryd.ntmps29 (by kernel_rfl) ?_
  refine cw_seq ?_
  refine cw_region ?_
  refine wl_val (v := .string ⟨⟨([] : List UInt8)⟩⟩) (w' := w0) (by kernel_rfl) (run_assign (v := .string ⟨⟨([] : List UInt8)⟩⟩) (by kernel_rfl)) ?_
  refine wl_nil ?_
  refine then_n ?_
  refine cw_seq ?_
  refine cw_seq ?_
  refine cw_region ?_
  refine wl_val (v := .int .i64 p1_0) (w' := w0) (by kernel_rfl) (run_move (v := .int .i64 p1_0) (by kernel_rfl)) ?_
  refine wl_nil ?_
  refine then_n ?_
  refine cw_block ?_
  refine cw_seq ?_
  refine cw_region ?_
  refine wl_val (v := .bool (eqi p1_0 0)) (w' := w0) (by kernel_rfl) (run_eqi (k := .i64) (a := p1_0) (b := 0) (by kernel_rfl) (by kernel_rfl)) ?_
  refine wl_val (v := .bool (eqi p1_0 0)) (w' := w0) (by kernel_rfl) (run_assign (v := .bool (eqi p1_0 0)) (by kernel_rfl)) ?_
  refine wl_nil ?_
  refine then_n ?_
  refine cw_cond (t := (eqi p1_0 0)) (by kernel_rfl) (fun hc_1 => ?_) (fun hc_1 => ?_)
  · have hm := ite_t hm hc_1
    refine cw_seq ?_
    refine cw_region ?_
    refine wl_val (v := .string ⟨⟨([] : List UInt8)⟩⟩) (w' := w0) (by kernel_rfl) (run_assign (v := .string ⟨⟨([] : List UInt8)⟩⟩) (by kernel_rfl)) ?_
    refine wl_nil ?_
    refine then_n ?_
    refine cw_ret ?_
    refine inBlock_ret ?_
    refine then_ret ?_
    obtain rfl := Option.some.inj hm
    exact ret1 (v := .string ⟨⟨([] : List UInt8)⟩⟩) rfl (resv_tmp (by kernel_rfl)) ⟨_, rfl, by kernel_rfl, hB⟩
  · have hm := ite_f hm hc_1
    refine cw_seq ?_
    refine cw_region ?_
    refine wl_val (v := .bool (eqi p1_0 1)) (w' := w0) (by kernel_rfl) (run_eqi (k := .i64) (a := p1_0) (b := 1) (by kernel_rfl) (by kernel_rfl)) ?_
    refine wl_val (v := .bool (eqi p1_0 1)) (w' := w0) (by kernel_rfl) (run_assign (v := .bool (eqi p1_0 1)) (by kernel_rfl)) ?_
    refine wl_nil ?_
    refine then_n ?_
    refine cw_cond (t := (eqi p1_0 1)) (by kernel_rfl) (fun hc_2 => ?_) (fun hc_2 => ?_)
    · have hm := ite_t hm hc_2
      refine cw_seq ?_
      refine cw_region ?_
      refine wl_val (v := .string ⟨⟨p0_0⟩⟩) (w' := w0) (by kernel_rfl) (run_move (v := .string ⟨⟨p0_0⟩⟩) (by kernel_rfl)) ?_
      refine wl_val (v := .string ⟨⟨p0_0⟩⟩) (w' := w0) (by kernel_rfl) (run_assign (v := .string ⟨⟨p0_0⟩⟩) (by kernel_rfl)) ?_
      refine wl_nil ?_
      refine then_n ?_
      refine cw_ret ?_
      refine inBlock_ret ?_
      refine then_ret ?_
      obtain rfl := Option.some.inj hm
      exact ret1 (v := .string ⟨⟨p0_0⟩⟩) rfl (resv_tmp (by kernel_rfl)) ⟨_, rfl, by kernel_rfl, hB⟩
    · have hm := ite_f hm hc_2
      refine cw_skip ?_
      refine inBlock_n ?_
      refine then_n ?_
      refine cw_cut (fun l' w' => ∃ u_1 : Nat → Value, l' = [.string ⟨⟨p0_0⟩⟩, .int .i64 p1_0, undef, undef, .string ⟨⟨([] : List UInt8)⟩⟩, undef, undef, undef, undef, undef, undef, .int .i64 p1_0, .bool (eqi p1_0 0), .bool (eqi p1_0 0), .bool (eqi p1_0 1), .bool (eqi p1_0 1), undef, (u_1 0), (u_1 1), (u_1 2), undef, undef, undef, undef, undef, undef, undef, undef, undef, undef, undef, undef, undef, undef, undef, undef, undef, undef, undef, undef, undef, undef, undef, undef, undef, undef, undef, undef, undef, undef, undef, undef, undef, undef, undef, undef, undef, undef, undef, undef, undef, undef, undef, undef, undef, undef, undef, undef, undef, undef, undef, undef, undef, undef, undef, undef, undef, undef, undef, undef, undef, undef, undef, undef, undef, undef, undef, undef, undef, undef, undef, undef, undef, undef, undef, undef, undef, undef, undef, undef, undef, undef, undef, undef, undef, undef, undef, undef, undef, undef, undef, undef, undef, undef, undef, undef, undef, undef, undef, undef, undef, undef, undef, undef, undef] ∧ LOk w0.heap.size [] F w' ∧ Below w0.heap.size w0 w' ∧ m29_J1 fuel p0_0 p1_0  = some r) ?_ ?_
      · refine cw_seq ?_
        refine cw_region ?_
        refine wl_val (v := .int .i64 p1_0) (w' := w0) (by kernel_rfl) (run_move (v := .int .i64 p1_0) (by kernel_rfl)) ?_
        refine wl_val (v := .bool (lt p1_0 0)) (w' := w0) (by kernel_rfl) (run_lt (k := .i64) (a := p1_0) (b := 0) (by kernel_rfl) (by kernel_rfl)) ?_
        refine wl_nil ?_
        refine then_n ?_
        refine cw_cond (t := (lt p1_0 0)) (by kernel_rfl) (fun hc_53 => ?_) (fun hc_53 => ?_)
        · have hm := ite_t hm hc_53
          refine cw_region ?_
          cases hm
        · have hm := ite_f hm hc_53
          refine cw_skip ?_
          exact then_c ⟨(fun i => ([.int .i64 p1_0, .bool (lt p1_0 0), undef] : List Value).getD i undef), by kernel_rfl, hL, hB, hm⟩
      · intro l1 w_1 hI
        obtain ⟨u_1, rfl, hL, hB, hm⟩ := hI
        unfold m29_J1 at hm
        refine cw_seq ?_
        refine cw_region ?_
        refine wl_val (v := .string ⟨⟨p0_0⟩⟩) (w' := w_1) (by kernel_rfl) (run_move (v := .string ⟨⟨p0_0⟩⟩) (by kernel_rfl)) ?_
        refine wl_val (v := .int .i64 (p0_0.length : Int)) (w' := w_1) (by kernel_rfl) (run_len_str (s := p0_0) Tryd.underlying9 (by kernel_rfl)) ?_
        refine wl_val (v := .int .u64 (cvt .u64 (p0_0.length : Int))) (w' := w_1) (by kernel_rfl) (run_cvt (k := .i64) (a := (p0_0.length : Int)) Tryd.underlying3 Tryd.underlying72 (by kernel_rfl)) ?_
        refine wl_val (v := .int .i64 p1_0) (w' := w_1) (by kernel_rfl) (run_move (v := .int .i64 p1_0) (by kernel_rfl)) ?_
        refine wl_val (v := .int .u64 (cvt .u64 p1_0)) (w' := w_1) (by kernel_rfl) (run_cvt (k := .i64) (a := p1_0) Tryd.underlying3 Tryd.underlying72 (by kernel_rfl)) ?_
        obtain ⟨r_1, h_1, hm⟩ := bind_e hm
        refine wl_op (by kernel_rfl) (ow_enter (run_callf (vs := [.int .u64 (cvt .u64 (p0_0.length : Int)), .int .u64 (cvt .u64 p1_0)]) Tryd.func49 nm_49 (by kernel_rfl) (by kernel_rfl)) (f49_ok (p0_0 := (cvt .u64 (p0_0.length : Int))) (p1_0 := (cvt .u64 p1_0)) fuel _ w_1 hL.lt  h_1) ?_)
        intro vR w_2 hR
        obtain ⟨rfl, hBe⟩ := hR
        have hS := Stp.call hL (Fz.of_below hBe [])
        replace hB := hS.below hL hB
        replace hL := hS.hL
        refine wl_val (v := .tuple #[.int .u64 r_1.1, .int .u64 r_1.2]) (w' := w_2) (by kernel_rfl) (run_move (v := .tuple #[.int .u64 r_1.1, .int .u64 r_1.2]) (by kernel_rfl)) ?_
        refine wl_val (v := .int .u64 r_1.1) (w' := w_2) (by kernel_rfl) (run_extract (vs := #[.int .u64 r_1.1, .int .u64 r_1.2]) (by kernel_rfl) (by kernel_rfl)) ?_
        refine wl_val (v := .int .u64 r_1.2) (w' := w_2) (by kernel_rfl) (run_extract (vs := #[.int .u64 r_1.1, .int .u64 r_1.2]) (by kernel_rfl) (by kernel_rfl)) ?_
        refine wl_val (v := .int .u64 r_1.1) (w' := w_2) (by kernel_rfl) (run_assign (v := .int .u64 r_1.1) (by kernel_rfl)) ?_
        refine wl_val (v := .int .u64 r_1.2) (w' := w_2) (by kernel_rfl) (run_assign (v := .int .u64 r_1.2) (by kernel_rfl)) ?_
        refine wl_nil ?_
        refine then_n ?_
        refine cw_cut (fun l' w' => ∃ u_3 : Nat → Value, l' = [.string ⟨⟨p0_0⟩⟩, .int .i64 p1_0, undef, undef, .string ⟨⟨([] : List UInt8)⟩⟩, .int .u64 r_1.1, .int .u64 r_1.2, undef, undef, undef, undef, .int .i64 p1_0, .bool (eqi p1_0 0), .bool (eqi p1_0 0), .bool (eqi p1_0 1), .bool (eqi p1_0 1), undef, (u_1 0), (u_1 1), (u_1 2), .tuple #[.int .u64 r_1.1, .int .u64 r_1.2], .string ⟨⟨p0_0⟩⟩, .int .i64 (p0_0.length : Int), .int .u64 (cvt .u64 (p0_0.length : Int)), .int .i64 p1_0, .int .u64 (cvt .u64 p1_0), .tuple #[.int .u64 r_1.1, .int .u64 r_1.2], .int .u64 r_1.1, .int .u64 r_1.2, (u_3 0), (u_3 1), (u_3 2), (u_3 3), (u_3 4), (u_3 5), (u_3 6), undef, undef, undef, undef, undef, undef, undef, undef, undef, undef, undef, undef, undef, undef, undef, undef, undef, undef, undef, undef, undef, undef, undef, undef, undef, undef, undef, undef, undef, undef, undef, undef, undef, undef, undef, undef, undef, undef, undef, undef, undef, undef, undef, undef, undef, undef, undef, undef, undef, undef, undef, undef, undef, undef, undef, undef, undef, undef, undef, undef, undef, undef, undef, undef, undef, undef, undef, undef, undef, undef, undef, undef, undef, undef, undef, undef, undef, undef, undef, undef, undef, undef, undef, undef, undef, undef, undef, undef, undef] ∧ LOk w0.heap.size [] F w' ∧ Below w0.heap.size w0 w' ∧ m29_J2 fuel p0_0 r_1  = some r) ?_ ?_
        · refine cw_cut (fun l' w' => ∃ x_16, ∃ u_18 : Nat → Value, l' = [.string ⟨⟨p0_0⟩⟩, .int .i64 p1_0, undef, undef, .string ⟨⟨([] : List UInt8)⟩⟩, .int .u64 r_1.1, .int .u64 r_1.2, undef, undef, undef, undef, .int .i64 p1_0, .bool (eqi p1_0 0), .bool (eqi p1_0 0), .bool (eqi p1_0 1), .bool (eqi p1_0 1), undef, (u_1 0), (u_1 1), (u_1 2), .tuple #[.int .u64 r_1.1, .int .u64 r_1.2], .string ⟨⟨p0_0⟩⟩, .int .i64 (p0_0.length : Int), .int .u64 (cvt .u64 (p0_0.length : Int)), .int .i64 p1_0, .int .u64 (cvt .u64 p1_0), .tuple #[.int .u64 r_1.1, .int .u64 r_1.2], .int .u64 r_1.1, .int .u64 r_1.2, (u_18 0), (u_18 1), (u_18 2), (u_18 3), (u_18 4), .bool x_16, undef, undef, undef, undef, undef, undef, undef, undef, undef, undef, undef, undef, undef, undef, undef, undef, undef, undef, undef, undef, undef, undef, undef, undef, undef, undef, undef, undef, undef, undef, undef, undef, undef, undef, undef, undef, undef, undef, undef, undef, undef, undef, undef, undef, undef, undef, undef, undef, undef, undef, undef, undef, undef, undef, undef, undef, undef, undef, undef, undef, undef, undef, undef, undef, undef, undef, undef, undef, undef, undef, undef, undef, undef, undef, undef, undef, undef, undef, undef, undef, undef, undef, undef, undef, undef, undef, undef, undef, undef, undef] ∧ LOk w0.heap.size [] F w' ∧ Below w0.heap.size w0 w' ∧ m29_J11 fuel p0_0 r_1 x_16 = some r) ?_ ?_
          · refine cw_region ?_
            refine wl_val (v := .int .u64 r_1.1) (w' := w_2) (by kernel_rfl) (run_move (v := .int .u64 r_1.1) (by kernel_rfl)) ?_
            refine wl_val (v := .bool (gt r_1.1 0)) (w' := w_2) (by kernel_rfl) (run_gt (k := .u64) (a := r_1.1) (b := 0) (by kernel_rfl) (by kernel_rfl)) ?_
            refine wl_val (v := .bool (gt r_1.1 0)) (w' := w_2) (by kernel_rfl) (run_move (v := .bool (gt r_1.1 0)) (by kernel_rfl)) ?_
            refine wl_norm [.string ⟨⟨p0_0⟩⟩, .int .i64 p1_0, undef, undef, .string ⟨⟨([] : List UInt8)⟩⟩, .int .u64 r_1.1, .int .u64 r_1.2, undef, undef, undef, undef, .int .i64 p1_0, .bool (eqi p1_0 0), .bool (eqi p1_0 0), .bool (eqi p1_0 1), .bool (eqi p1_0 1), undef, (u_1 0), (u_1 1), (u_1 2), .tuple #[.int .u64 r_1.1, .int .u64 r_1.2], .string ⟨⟨p0_0⟩⟩, .int .i64 (p0_0.length : Int), .int .u64 (cvt .u64 (p0_0.length : Int)), .int .i64 p1_0, .int .u64 (cvt .u64 p1_0), .tuple #[.int .u64 r_1.1, .int .u64 r_1.2], .int .u64 r_1.1, .int .u64 r_1.2, .int .u64 r_1.1, .bool (gt r_1.1 0), .bool (gt r_1.1 0), undef, undef, undef, undef, undef, undef, undef, undef, undef, undef, undef, undef, undef, undef, undef, undef, undef, undef, undef, undef, undef, undef, undef, undef, undef, undef, undef, undef, undef, undef, undef, undef, undef, undef, undef, undef, undef, undef, undef, undef, undef, undef, undef, undef, undef, undef, undef, undef, undef, undef, undef, undef, undef, undef, undef, undef, undef, undef, undef, undef, undef, undef, undef, undef, undef, undef, undef, undef, undef, undef, undef, undef, undef, undef, undef, undef, undef, undef, undef, undef, undef, undef, undef, undef, undef, undef, undef, undef, undef, undef, undef, undef, undef] (by kernel_rfl) ?_
            rcases Bool.eq_false_or_eq_true (gt r_1.1 0) with hc_52 | hc_52
            · have hm := ite_t hm hc_52
              refine wl_not0 (wg (c := (gt r_1.1 0)) (want := false) (by kernel_rfl) hc_52 rfl) (by kernel_rfl) ?_
              refine wl_not0 (wg (c := (gt r_1.1 0)) (want := false) (by kernel_rfl) hc_52 rfl) (by kernel_rfl) ?_
              refine wl_val (v := .bool true) (w' := w_2) (by kernel_rfl) (run_pick_t (v := .bool true) (tr2 (c := (gt r_1.1 0)) (by kernel_rfl) hc_52) (by kernel_rfl)) ?_
              refine wl_nil ?_
              exact then_c ⟨true, (fun i => ([.int .u64 r_1.1, .bool (gt r_1.1 0), .bool (gt r_1.1 0), undef, undef] : List Value).getD i undef), by kernel_rfl, hL, hB, hm⟩
            · have hm := ite_f hm hc_52
              refine wl_val (v := .int .u64 r_1.2) (w' := w_2) (wg (c := (gt r_1.1 0)) (want := false) (by kernel_rfl) hc_52 rfl) (run_move (v := .int .u64 r_1.2) (by kernel_rfl)) ?_
              refine wl_val (v := .bool (gt r_1.2 9223372036854775807)) (w' := w_2) (wg (c := (gt r_1.1 0)) (want := false) (by kernel_rfl) hc_52 rfl) (run_gt (k := .u64) (a := r_1.2) (b := 9223372036854775807) (by kernel_rfl) (by kernel_rfl)) ?_
              refine wl_val (v := .bool (gt r_1.2 9223372036854775807)) (w' := w_2) (by kernel_rfl) (run_pick_f (v := .bool (gt r_1.2 9223372036854775807)) (tr2 (c := (gt r_1.1 0)) (by kernel_rfl) hc_52) (by kernel_rfl)) ?_
              refine wl_nil ?_
              exact then_c ⟨(gt r_1.2 9223372036854775807), (fun i => ([.int .u64 r_1.1, .bool (gt r_1.1 0), .bool (gt r_1.1 0), .int .u64 r_1.2, .bool (gt r_1.2 9223372036854775807)] : List Value).getD i undef), by kernel_rfl, hL, hB, hm⟩
          · intro l1 w_28 hI
            obtain ⟨x_16, u_18, rfl, hL, hB, hm⟩ := hI
            unfold m29_J11 at hm
            refine cw_cond (t := x_16) (by kernel_rfl) (fun hc_51 => ?_) (fun hc_51 => ?_)
            · have hm := ite_t hm hc_51
              refine cw_region ?_
              cases hm
            · have hm := ite_f hm hc_51
              refine cw_skip ?_
              exact then_c ⟨(fun i => ([(u_18 0), (u_18 1), (u_18 2), (u_18 3), (u_18 4), .bool x_16, undef] : List Value).getD i undef), by kernel_rfl, hL, hB, hm⟩
        · intro l1 w_3 hI
          obtain ⟨u_3, rfl, hL, hB, hm⟩ := hI
          unfold m29_J2 at hm
          refine cw_seq ?_
          refine cw_region ?_
          refine wl_val (v := .int .u64 r_1.2) (w' := w_3) (by kernel_rfl) (run_move (v := .int .u64 r_1.2) (by kernel_rfl)) ?_
          refine wl_val (v := .int .i64 (cvt .i64 r_1.2)) (w' := w_3) (by kernel_rfl) (run_cvt (k := .u64) (a := r_1.2) Tryd.underlying72 Tryd.underlying3 (by kernel_rfl)) ?_
          refine wl_val (v := .int .i64 (cvt .i64 r_1.2)) (w' := w_3) (by kernel_rfl) (run_assign (v := .int .i64 (cvt .i64 r_1.2)) (by kernel_rfl)) ?_
          refine wl_nil ?_
          refine then_n ?_
          refine cw_seq ?_
          refine cw_seq ?_
          refine cw_region ?_
          refine wl_val (v := .string ⟨⟨p0_0⟩⟩) (w' := w_3) (by kernel_rfl) (run_move (v := .string ⟨⟨p0_0⟩⟩) (by kernel_rfl)) ?_
          refine wl_val (v := .int .i64 (p0_0.length : Int)) (w' := w_3) (by kernel_rfl) (run_len_str (s := p0_0) Tryd.underlying9 (by kernel_rfl)) ?_
          refine wl_val (v := .bool (eqi (p0_0.length : Int) 0)) (w' := w_3) (by kernel_rfl) (run_eqi (k := .i64) (a := (p0_0.length : Int)) (b := 0) (by kernel_rfl) (by kernel_rfl)) ?_
          refine wl_nil ?_
          refine then_n ?_
          refine cw_cond (t := (eqi (p0_0.length : Int) 0)) (by kernel_rfl) (fun hc_6 => ?_) (fun hc_6 => ?_)
          · have hm := ite_t hm hc_6
            refine cw_seq ?_
            refine cw_region ?_
            refine wl_val (v := .string ⟨⟨([] : List UInt8)⟩⟩) (w' := w_3) (by kernel_rfl) (run_assign (v := .string ⟨⟨([] : List UInt8)⟩⟩) (by kernel_rfl)) ?_
            refine wl_nil ?_
            refine then_n ?_
            refine cw_ret ?_
            refine then_ret ?_
            obtain rfl := Option.some.inj hm
            exact ret1 (v := .string ⟨⟨([] : List UInt8)⟩⟩) rfl (resv_tmp (by kernel_rfl)) ⟨_, rfl, by kernel_rfl, hB⟩
          · have hm := ite_f hm hc_6
            refine cw_skip ?_
            refine then_n ?_
            refine cw_cut (fun l' w' => ∃ u_10 : Nat → Value, l' = [.string ⟨⟨p0_0⟩⟩, .int .i64 p1_0, undef, undef, (u_10 0), .int .u64 r_1.1, .int .u64 r_1.2, .int .i64 (cvt .i64 r_1.2), undef, undef, undef, .int .i64 p1_0, .bool (eqi p1_0 0), .bool (eqi p1_0 0), .bool (eqi p1_0 1), .bool (eqi p1_0 1), undef, (u_1 0), (u_1 1), (u_1 2), .tuple #[.int .u64 r_1.1, .int .u64 r_1.2], .string ⟨⟨p0_0⟩⟩, .int .i64 (p0_0.length : Int), .int .u64 (cvt .u64 (p0_0.length : Int)), .int .i64 p1_0, .int .u64 (cvt .u64 p1_0), .tuple #[.int .u64 r_1.1, .int .u64 r_1.2], .int .u64 r_1.1, .int .u64 r_1.2, (u_3 0), (u_3 1), (u_3 2), (u_3 3), (u_3 4), (u_3 5), (u_3 6), .int .u64 r_1.2, .int .i64 (cvt .i64 r_1.2), .string ⟨⟨p0_0⟩⟩, .int .i64 (p0_0.length : Int), .bool (eqi (p0_0.length : Int) 0), (u_10 1), (u_10 2), (u_10 3), (u_10 4), (u_10 5), (u_10 6), (u_10 7), (u_10 8), (u_10 9), (u_10 10), (u_10 11), (u_10 12), (u_10 13), (u_10 14), (u_10 15), (u_10 16), (u_10 17), (u_10 18), (u_10 19), (u_10 20), (u_10 21), (u_10 22), (u_10 23), (u_10 24), (u_10 25), (u_10 26), (u_10 27), (u_10 28), (u_10 29), (u_10 30), (u_10 31), (u_10 32), (u_10 33), (u_10 34), (u_10 35), (u_10 36), (u_10 37), (u_10 38), (u_10 39), (u_10 40), (u_10 41), (u_10 42), (u_10 43), (u_10 44), (u_10 45), (u_10 46), (u_10 47), (u_10 48), (u_10 49), (u_10 50), (u_10 51), (u_10 52), (u_10 53), undef, undef, undef, undef, undef, undef, undef, undef, undef, undef, undef, undef, undef, undef, undef, undef, undef, undef, undef, undef, undef, undef, undef, undef, undef, undef, undef, undef, undef, undef, undef] ∧ LOk w0.heap.size [] F w' ∧ Below w0.heap.size w0 w' ∧ m29_J3 fuel p0_0 r_1  = some r) ?_ ?_
            · refine cw_seq ?_
              refine cw_region ?_
              refine wl_val (v := .string ⟨⟨p0_0⟩⟩) (w' := w_3) (by kernel_rfl) (run_move (v := .string ⟨⟨p0_0⟩⟩) (by kernel_rfl)) ?_
              obtain ⟨b_2, h_19, hm⟩ := bind_e hm
              obtain ⟨h_200, h_201, _⟩ := at_some h_19
              refine wl_val (v := .int .u8 (b_2.toNat : Int)) (w' := w_3) (by kernel_rfl) (run_index_str (s := p0_0) (k := .i64) (j := 0) Tryd.underlying9 (by kernel_rfl) (by kernel_rfl) h_200 h_201) ?_
              refine wl_nil ?_
              refine then_n ?_
              refine cw_block ?_
              refine cw_cut (fun l' w' => ∃ x_10, ∃ u_12 : Nat → Value, l' = [.string ⟨⟨p0_0⟩⟩, .int .i64 p1_0, undef, undef, .string ⟨⟨([] : List UInt8)⟩⟩, .int .u64 r_1.1, .int .u64 r_1.2, .int .i64 (cvt .i64 r_1.2), undef, undef, undef, .int .i64 p1_0, .bool (eqi p1_0 0), .bool (eqi p1_0 0), .bool (eqi p1_0 1), .bool (eqi p1_0 1), undef, (u_1 0), (u_1 1), (u_1 2), .tuple #[.int .u64 r_1.1, .int .u64 r_1.2], .string ⟨⟨p0_0⟩⟩, .int .i64 (p0_0.length : Int), .int .u64 (cvt .u64 (p0_0.length : Int)), .int .i64 p1_0, .int .u64 (cvt .u64 p1_0), .tuple #[.int .u64 r_1.1, .int .u64 r_1.2], .int .u64 r_1.1, .int .u64 r_1.2, (u_3 0), (u_3 1), (u_3 2), (u_3 3), (u_3 4), (u_3 5), (u_3 6), .int .u64 r_1.2, .int .i64 (cvt .i64 r_1.2), .string ⟨⟨p0_0⟩⟩, .int .i64 (p0_0.length : Int), .bool (eqi (p0_0.length : Int) 0), .string ⟨⟨p0_0⟩⟩, .int .u8 (b_2.toNat : Int), .bool x_10, (u_12 0), (u_12 1), (u_12 2), (u_12 3), (u_12 4), undef, undef, undef, undef, undef, undef, undef, undef, undef, undef, undef, undef, undef, undef, undef, undef, undef, undef, undef, undef, undef, undef, undef, undef, undef, undef, undef, undef, undef, undef, undef, undef, undef, undef, undef, undef, undef, undef, undef, undef, undef, undef, undef, undef, undef, undef, undef, undef, undef, undef, undef, undef, undef, undef, undef, undef, undef, undef, undef, undef, undef, undef, undef, undef, undef, undef, undef, undef, undef, undef, undef, undef, undef, undef, undef, undef] ∧ LOk w0.heap.size [] F w' ∧ Below w0.heap.size w0 w' ∧ m29_J5 fuel p0_0 r_1 x_10 = some r) ?_ ?_
              · refine cw_seq ?_
                refine cw_region ?_
                refine wl_val (v := .bool (eqi (b_2.toNat : Int) 32)) (w' := w_3) (by kernel_rfl) (run_eqi (k := .u8) (a := (b_2.toNat : Int)) (b := 32) (by kernel_rfl) (by kernel_rfl)) ?_
                refine wl_val (v := .bool (eqi (b_2.toNat : Int) 32)) (w' := w_3) (by kernel_rfl) (run_assign (v := .bool (eqi (b_2.toNat : Int) 32)) (by kernel_rfl)) ?_
                refine wl_nil ?_
                refine then_n ?_
                refine cw_cond (t := (eqi (b_2.toNat : Int) 32)) (by kernel_rfl) (fun hc_46 => ?_) (fun hc_46 => ?_)
                · have hm := ite_t hm hc_46
                  refine cw_skip ?_
                  exact then_c ⟨(eqi (b_2.toNat : Int) 32), (fun i => ([.bool (eqi (b_2.toNat : Int) 32), undef, undef, undef, undef] : List Value).getD i undef), by kernel_rfl, hL, hB, hm⟩
                · have hm := ite_f hm hc_46
                  refine cw_seq ?_
                  refine cw_region ?_
                  refine wl_val (v := .bool (eqi (b_2.toNat : Int) 45)) (w' := w_3) (by kernel_rfl) (run_eqi (k := .u8) (a := (b_2.toNat : Int)) (b := 45) (by kernel_rfl) (by kernel_rfl)) ?_
                  refine wl_val (v := .bool (eqi (b_2.toNat : Int) 45)) (w' := w_3) (by kernel_rfl) (run_assign (v := .bool (eqi (b_2.toNat : Int) 45)) (by kernel_rfl)) ?_
                  refine wl_nil ?_
                  refine then_n ?_
                  refine cw_norm [.string ⟨⟨p0_0⟩⟩, .int .i64 p1_0, undef, undef, .string ⟨⟨([] : List UInt8)⟩⟩, .int .u64 r_1.1, .int .u64 r_1.2, .int .i64 (cvt .i64 r_1.2), undef, undef, undef, .int .i64 p1_0, .bool (eqi p1_0 0), .bool (eqi p1_0 0), .bool (eqi p1_0 1), .bool (eqi p1_0 1), undef, (u_1 0), (u_1 1), (u_1 2), .tuple #[.int .u64 r_1.1, .int .u64 r_1.2], .string ⟨⟨p0_0⟩⟩, .int .i64 (p0_0.length : Int), .int .u64 (cvt .u64 (p0_0.length : Int)), .int .i64 p1_0, .int .u64 (cvt .u64 p1_0), .tuple #[.int .u64 r_1.1, .int .u64 r_1.2], .int .u64 r_1.1, .int .u64 r_1.2, (u_3 0), (u_3 1), (u_3 2), (u_3 3), (u_3 4), (u_3 5), (u_3 6), .int .u64 r_1.2, .int .i64 (cvt .i64 r_1.2), .string ⟨⟨p0_0⟩⟩, .int .i64 (p0_0.length : Int), .bool (eqi (p0_0.length : Int) 0), .string ⟨⟨p0_0⟩⟩, .int .u8 (b_2.toNat : Int), .bool (eqi (b_2.toNat : Int) 45), .bool (eqi (b_2.toNat : Int) 32), .bool (eqi (b_2.toNat : Int) 45), undef, undef, undef, undef, undef, undef, undef, undef, undef, undef, undef, undef, undef, undef, undef, undef, undef, undef, undef, undef, undef, undef, undef, undef, undef, undef, undef, undef, undef, undef, undef, undef, undef, undef, undef, undef, undef, undef, undef, undef, undef, undef, undef, undef, undef, undef, undef, undef, undef, undef, undef, undef, undef, undef, undef, undef, undef, undef, undef, undef, undef, undef, undef, undef, undef, undef, undef, undef, undef, undef, undef, undef, undef, undef, undef, undef, undef, undef, undef] (by kernel_rfl) ?_
                  refine cw_cond (t := (eqi (b_2.toNat : Int) 45)) (by kernel_rfl) (fun hc_47 => ?_) (fun hc_47 => ?_)
                  · have hm := ite_t hm hc_47
                    refine cw_skip ?_
                    exact then_c ⟨(eqi (b_2.toNat : Int) 45), (fun i => ([.bool (eqi (b_2.toNat : Int) 32), .bool (eqi (b_2.toNat : Int) 45), undef, undef, undef] : List Value).getD i undef), by kernel_rfl, hL, hB, hm⟩
                  · have hm := ite_f hm hc_47
                    refine cw_seq ?_
                    refine cw_region ?_
                    refine wl_val (v := .bool (eqi (b_2.toNat : Int) 48)) (w' := w_3) (by kernel_rfl) (run_eqi (k := .u8) (a := (b_2.toNat : Int)) (b := 48) (by kernel_rfl) (by kernel_rfl)) ?_
                    refine wl_val (v := .bool (eqi (b_2.toNat : Int) 48)) (w' := w_3) (by kernel_rfl) (run_assign (v := .bool (eqi (b_2.toNat : Int) 48)) (by kernel_rfl)) ?_
                    refine wl_nil ?_
                    refine then_n ?_
                    refine cw_cond (t := (eqi (b_2.toNat : Int) 48)) (by kernel_rfl) (fun hc_48 => ?_) (fun hc_48 => ?_)
                    · have hm := ite_t hm hc_48
                      refine cw_skip ?_
                      exact then_c ⟨(eqi (b_2.toNat : Int) 48), (fun i => ([.bool (eqi (b_2.toNat : Int) 32), .bool (eqi (b_2.toNat : Int) 45), .bool (eqi (b_2.toNat : Int) 48), undef, undef] : List Value).getD i undef), by kernel_rfl, hL, hB, hm⟩
                    · have hm := ite_f hm hc_48
                      refine cw_seq ?_
                      refine cw_region ?_
                      refine wl_val (v := .bool (eqi (b_2.toNat : Int) 61)) (w' := w_3) (by kernel_rfl) (run_eqi (k := .u8) (a := (b_2.toNat : Int)) (b := 61) (by kernel_rfl) (by kernel_rfl)) ?_
                      refine wl_val (v := .bool (eqi (b_2.toNat : Int) 61)) (w' := w_3) (by kernel_rfl) (run_assign (v := .bool (eqi (b_2.toNat : Int) 61)) (by kernel_rfl)) ?_
                      refine wl_nil ?_
                      refine then_n ?_
                      refine cw_cond (t := (eqi (b_2.toNat : Int) 61)) (by kernel_rfl) (fun hc_49 => ?_) (fun hc_49 => ?_)
                      · have hm := ite_t hm hc_49
                        refine cw_skip ?_
                        exact then_c ⟨(eqi (b_2.toNat : Int) 61), (fun i => ([.bool (eqi (b_2.toNat : Int) 32), .bool (eqi (b_2.toNat : Int) 45), .bool (eqi (b_2.toNat : Int) 48), .bool (eqi (b_2.toNat : Int) 61), undef] : List Value).getD i undef), by kernel_rfl, hL, hB, hm⟩
                      · have hm := ite_f hm hc_49
                        refine cw_region ?_
                        refine wl_val (v := .bool (eqi (b_2.toNat : Int) 9)) (w' := w_3) (by kernel_rfl) (run_eqi (k := .u8) (a := (b_2.toNat : Int)) (b := 9) (by kernel_rfl) (by kernel_rfl)) ?_
                        refine wl_val (v := .bool (eqi (b_2.toNat : Int) 9)) (w' := w_3) (by kernel_rfl) (run_assign (v := .bool (eqi (b_2.toNat : Int) 9)) (by kernel_rfl)) ?_
                        refine wl_nil ?_
                        exact then_c ⟨(eqi (b_2.toNat : Int) 9), (fun i => ([.bool (eqi (b_2.toNat : Int) 32), .bool (eqi (b_2.toNat : Int) 45), .bool (eqi (b_2.toNat : Int) 48), .bool (eqi (b_2.toNat : Int) 61), .bool (eqi (b_2.toNat : Int) 9)] : List Value).getD i undef), by kernel_rfl, hL, hB, hm⟩
              · intro l1 w_12 hI
                obtain ⟨x_10, u_12, rfl, hL, hB, hm⟩ := hI
                unfold m29_J5 at hm
                refine cw_cond (t := x_10) (by kernel_rfl) (fun hc_30 => ?_) (fun hc_30 => ?_)
                · have hm := ite_t hm hc_30
                  refine cw_block ?_
                  refine cw_cut (fun l' w' => ∃ x_11, ∃ u_13 : Nat → Value, l' = [.string ⟨⟨p0_0⟩⟩, .int .i64 p1_0, undef, undef, .string ⟨⟨([] : List UInt8)⟩⟩, .int .u64 r_1.1, .int .u64 r_1.2, .int .i64 (cvt .i64 r_1.2), undef, undef, undef, .int .i64 p1_0, .bool (eqi p1_0 0), .bool (eqi p1_0 0), .bool (eqi p1_0 1), .bool (eqi p1_0 1), undef, (u_1 0), (u_1 1), (u_1 2), .tuple #[.int .u64 r_1.1, .int .u64 r_1.2], .string ⟨⟨p0_0⟩⟩, .int .i64 (p0_0.length : Int), .int .u64 (cvt .u64 (p0_0.length : Int)), .int .i64 p1_0, .int .u64 (cvt .u64 p1_0), .tuple #[.int .u64 r_1.1, .int .u64 r_1.2], .int .u64 r_1.1, .int .u64 r_1.2, (u_3 0), (u_3 1), (u_3 2), (u_3 3), (u_3 4), (u_3 5), (u_3 6), .int .u64 r_1.2, .int .i64 (cvt .i64 r_1.2), .string ⟨⟨p0_0⟩⟩, .int .i64 (p0_0.length : Int), .bool (eqi (p0_0.length : Int) 0), .string ⟨⟨p0_0⟩⟩, .int .u8 (b_2.toNat : Int), .bool x_10, (u_12 0), (u_12 1), (u_12 2), (u_12 3), (u_12 4), .bool x_11, (u_13 0), (u_13 1), (u_13 2), (u_13 3), (u_13 4), (u_13 5), undef, undef, undef, undef, undef, undef, undef, undef, undef, undef, undef, undef, undef, undef, undef, undef, undef, undef, undef, undef, undef, undef, undef, undef, undef, undef, undef, undef, undef, undef, undef, undef, undef, undef, undef, undef, undef, undef, undef, undef, undef, undef, undef, undef, undef, undef, undef, undef, undef, undef, undef, undef, undef, undef, undef, undef, undef, undef, undef, undef, undef, undef, undef, undef, undef, undef, undef, undef, undef] ∧ LOk w0.heap.size [] F w' ∧ Below w0.heap.size w0 w' ∧ m29_J6 fuel p0_0 r_1 x_11 = some r) ?_ ?_
                  · refine cw_region ?_
                    refine wl_val (v := .int .i64 (cvt .i64 r_1.2)) (w' := w_12) (by kernel_rfl) (run_move (v := .int .i64 (cvt .i64 r_1.2)) (by kernel_rfl)) ?_
                    refine wl_val (v := .bool (le (cvt .i64 r_1.2) 128)) (w' := w_12) (by kernel_rfl) (run_le (k := .i64) (a := (cvt .i64 r_1.2)) (b := 128) (by kernel_rfl) (by kernel_rfl)) ?_
                    refine wl_val (v := .bool (le (cvt .i64 r_1.2) 128)) (w' := w_12) (by kernel_rfl) (run_move (v := .bool (le (cvt .i64 r_1.2) 128)) (by kernel_rfl)) ?_
                    rcases Bool.eq_false_or_eq_true (le (cvt .i64 r_1.2) 128) with hc_45 | hc_45
                    · have hm := ite_t hm hc_45
                      refine wl_val (v := .string ⟨⟨p0_0⟩⟩) (w' := w_12) (wg (c := (le (cvt .i64 r_1.2) 128)) (want := true) (by kernel_rfl) hc_45 rfl) (run_move (v := .string ⟨⟨p0_0⟩⟩) (by kernel_rfl)) ?_
                      obtain ⟨r_16, h_35, hm⟩ := bind_e hm
                      refine wl_op (wg (c := (le (cvt .i64 r_1.2) 128)) (want := true) (by kernel_rfl) hc_45 rfl) (ow_enter (run_callf (vs := [.string ⟨⟨([32, 32, 32, 32, 32, 32, 32, 32, 32, 32, 32, 32, 32, 32, 32, 32, 32, 32, 32, 32, 32, 32, 32, 32, 32, 32, 32, 32, 32, 32, 32, 32, 32, 32, 32, 32, 32, 32, 32, 32, 32, 32, 32, 32, 32, 32, 32, 32, 32, 32, 32, 32, 32, 32, 32, 32, 32, 32, 32, 32, 32, 32, 32, 32, 32, 32, 32, 32, 32, 32, 32, 32, 32, 32, 32, 32, 32, 32, 32, 32, 32, 32, 32, 32, 32, 32, 32, 32, 32, 32, 32, 32, 32, 32, 32, 32, 32, 32, 32, 32, 32, 32, 32, 32, 32, 32, 32, 32, 32, 32, 32, 32, 32, 32, 32, 32, 32, 32, 32, 32, 32, 32, 32, 32, 32, 32, 32, 32] : List UInt8)⟩⟩, .string ⟨⟨p0_0⟩⟩]) Tryd.func50 nm_50 (by kernel_rfl) (by kernel_rfl)) (f50_ok (p0_0 := ([32, 32, 32, 32, 32, 32, 32, 32, 32, 32, 32, 32, 32, 32, 32, 32, 32, 32, 32, 32, 32, 32, 32, 32, 32, 32, 32, 32, 32, 32, 32, 32, 32, 32, 32, 32, 32, 32, 32, 32, 32, 32, 32, 32, 32, 32, 32, 32, 32, 32, 32, 32, 32, 32, 32, 32, 32, 32, 32, 32, 32, 32, 32, 32, 32, 32, 32, 32, 32, 32, 32, 32, 32, 32, 32, 32, 32, 32, 32, 32, 32, 32, 32, 32, 32, 32, 32, 32, 32, 32, 32, 32, 32, 32, 32, 32, 32, 32, 32, 32, 32, 32, 32, 32, 32, 32, 32, 32, 32, 32, 32, 32, 32, 32, 32, 32, 32, 32, 32, 32, 32, 32, 32, 32, 32, 32, 32, 32] : List UInt8)) (p1_0 := p0_0) fuel _ w_12 hL.lt  h_35) ?_)
                      intro vR w_27 hR
                      obtain ⟨rfl, hBe⟩ := hR
                      have hS := Stp.call hL (Fz.of_below hBe [])
                      replace hB := hS.below hL hB
                      replace hL := hS.hL
                      refine wl_val (v := .bool r_16) (w' := w_27) (by kernel_rfl) (run_pick_t (v := .bool r_16) (tr2 (c := (le (cvt .i64 r_1.2) 128)) (by kernel_rfl) hc_45) (by kernel_rfl)) ?_
                      refine wl_val (v := .bool r_16) (w' := w_27) (by kernel_rfl) (run_assign (v := .bool r_16) (by kernel_rfl)) ?_
                      refine wl_nil ?_
                      exact then_c ⟨r_16, (fun i => ([.int .i64 (cvt .i64 r_1.2), .bool (le (cvt .i64 r_1.2) 128), .bool (le (cvt .i64 r_1.2) 128), .string ⟨⟨p0_0⟩⟩, .bool r_16, .bool r_16] : List Value).getD i undef), by kernel_rfl, hL, hB, hm⟩
                    · have hm := ite_f hm hc_45
                      refine wl_not0 (wg (c := (le (cvt .i64 r_1.2) 128)) (want := true) (by kernel_rfl) hc_45 rfl) (by kernel_rfl) ?_
                      refine wl_not0 (wg (c := (le (cvt .i64 r_1.2) 128)) (want := true) (by kernel_rfl) hc_45 rfl) (by kernel_rfl) ?_
                      refine wl_val (v := .bool false) (w' := w_12) (by kernel_rfl) (run_pick_f (v := .bool false) (tr2 (c := (le (cvt .i64 r_1.2) 128)) (by kernel_rfl) hc_45) (by kernel_rfl)) ?_
                      refine wl_val (v := .bool false) (w' := w_12) (by kernel_rfl) (run_assign (v := .bool false) (by kernel_rfl)) ?_
                      refine wl_nil ?_
                      exact then_c ⟨false, (fun i => ([.int .i64 (cvt .i64 r_1.2), .bool (le (cvt .i64 r_1.2) 128), .bool (le (cvt .i64 r_1.2) 128), undef, undef, .bool false] : List Value).getD i undef), by kernel_rfl, hL, hB, hm⟩
                  · intro l1 w_14 hI
                    obtain ⟨x_11, u_13, rfl, hL, hB, hm⟩ := hI
                    unfold m29_J6 at hm
                    refine cw_cond (t := x_11) (by kernel_rfl) (fun hc_32 => ?_) (fun hc_32 => ?_)
                    · have hm := ite_t hm hc_32
                      refine cw_seq ?_
                      refine cw_region ?_
                      refine wl_val (v := .int .i64 (cvt .i64 r_1.2)) (w' := w_14) (by kernel_rfl) (run_move (v := .int .i64 (cvt .i64 r_1.2)) (by kernel_rfl)) ?_
                      obtain ⟨s_6, h_22, hm⟩ := bind_e hm
                      refine wl_val (v := .string ⟨⟨s_6⟩⟩) (w' := w_14) (by kernel_rfl) (run_slice_str_h (s := ([32, 32, 32, 32, 32, 32, 32, 32, 32, 32, 32, 32, 32, 32, 32, 32, 32, 32, 32, 32, 32, 32, 32, 32, 32, 32, 32, 32, 32, 32, 32, 32, 32, 32, 32, 32, 32, 32, 32, 32, 32, 32, 32, 32, 32, 32, 32, 32, 32, 32, 32, 32, 32, 32, 32, 32, 32, 32, 32, 32, 32, 32, 32, 32, 32, 32, 32, 32, 32, 32, 32, 32, 32, 32, 32, 32, 32, 32, 32, 32, 32, 32, 32, 32, 32, 32, 32, 32, 32, 32, 32, 32, 32, 32, 32, 32, 32, 32, 32, 32, 32, 32, 32, 32, 32, 32, 32, 32, 32, 32, 32, 32, 32, 32, 32, 32, 32, 32, 32, 32, 32, 32, 32, 32, 32, 32, 32, 32] : List UInt8)) (k := .i64) (j := (cvt .i64 r_1.2)) Tryd.underlying9 (by kernel_rfl) (by kernel_rfl) h_22) ?_
                      refine wl_val (v := .string ⟨⟨s_6⟩⟩) (w' := w_14) (by kernel_rfl) (run_assign (v := .string ⟨⟨s_6⟩⟩) (by kernel_rfl)) ?_
                      refine wl_nil ?_
                      refine then_n ?_
                      refine cw_ret ?_
                      refine inBlock_ret ?_
                      refine inBlock_ret ?_
                      refine then_ret ?_
                      obtain rfl := Option.some.inj hm
                      exact ret1 (v := .string ⟨⟨s_6⟩⟩) rfl (resv_tmp (by kernel_rfl)) ⟨_, rfl, by kernel_rfl, hB⟩
                    · have hm := ite_f hm hc_32
                      refine cw_cut (fun l' w' => ∃ x_12, ∃ u_14 : Nat → Value, l' = [.string ⟨⟨p0_0⟩⟩, .int .i64 p1_0, undef, undef, .string ⟨⟨([] : List UInt8)⟩⟩, .int .u64 r_1.1, .int .u64 r_1.2, .int .i64 (cvt .i64 r_1.2), undef, undef, undef, .int .i64 p1_0, .bool (eqi p1_0 0), .bool (eqi p1_0 0), .bool (eqi p1_0 1), .bool (eqi p1_0 1), undef, (u_1 0), (u_1 1), (u_1 2), .tuple #[.int .u64 r_1.1, .int .u64 r_1.2], .string ⟨⟨p0_0⟩⟩, .int .i64 (p0_0.length : Int), .int .u64 (cvt .u64 (p0_0.length : Int)), .int .i64 p1_0, .int .u64 (cvt .u64 p1_0), .tuple #[.int .u64 r_1.1, .int .u64 r_1.2], .int .u64 r_1.1, .int .u64 r_1.2, (u_3 0), (u_3 1), (u_3 2), (u_3 3), (u_3 4), (u_3 5), (u_3 6), .int .u64 r_1.2, .int .i64 (cvt .i64 r_1.2), .string ⟨⟨p0_0⟩⟩, .int .i64 (p0_0.length : Int), .bool (eqi (p0_0.length : Int) 0), .string ⟨⟨p0_0⟩⟩, .int .u8 (b_2.toNat : Int), .bool x_10, (u_12 0), (u_12 1), (u_12 2), (u_12 3), (u_12 4), .bool x_11, (u_13 0), (u_13 1), (u_13 2), (u_13 3), (u_13 4), (u_13 5), undef, undef, .bool x_12, (u_14 0), (u_14 1), (u_14 2), (u_14 3), (u_14 4), (u_14 5), undef, undef, undef, undef, undef, undef, undef, undef, undef, undef, undef, undef, undef, undef, undef, undef, undef, undef, undef, undef, undef, undef, undef, undef, undef, undef, undef, undef, undef, undef, undef, undef, undef, undef, undef, undef, undef, undef, undef, undef, undef, undef, undef, undef, undef, undef, undef, undef, undef, undef, undef, undef, undef, undef, undef, undef, undef, undef, undef, undef] ∧ LOk w0.heap.size [] F w' ∧ Below w0.heap.size w0 w' ∧ m29_J7 fuel p0_0 r_1 x_12 = some r) ?_ ?_
                      · refine cw_region ?_
                        refine wl_val (v := .int .i64 (cvt .i64 r_1.2)) (w' := w_14) (by kernel_rfl) (run_move (v := .int .i64 (cvt .i64 r_1.2)) (by kernel_rfl)) ?_
                        refine wl_val (v := .bool (le (cvt .i64 r_1.2) 128)) (w' := w_14) (by kernel_rfl) (run_le (k := .i64) (a := (cvt .i64 r_1.2)) (b := 128) (by kernel_rfl) (by kernel_rfl)) ?_
                        refine wl_val (v := .bool (le (cvt .i64 r_1.2) 128)) (w' := w_14) (by kernel_rfl) (run_move (v := .bool (le (cvt .i64 r_1.2) 128)) (by kernel_rfl)) ?_
                        rcases Bool.eq_false_or_eq_true (le (cvt .i64 r_1.2) 128) with hc_44 | hc_44
                        · have hm := ite_t hm hc_44
                          refine wl_val (v := .string ⟨⟨p0_0⟩⟩) (w' := w_14) (wg (c := (le (cvt .i64 r_1.2) 128)) (want := true) (by kernel_rfl) hc_44 rfl) (run_move (v := .string ⟨⟨p0_0⟩⟩) (by kernel_rfl)) ?_
                          obtain ⟨r_15, h_34, hm⟩ := bind_e hm
                          refine wl_op (wg (c := (le (cvt .i64 r_1.2) 128)) (want := true) (by kernel_rfl) hc_44 rfl) (ow_enter (run_callf (vs := [.string ⟨⟨([45, 45, 45, 45, 45, 45, 45, 45, 45, 45, 45, 45, 45, 45, 45, 45, 45, 45, 45, 45, 45, 45, 45, 45, 45, 45, 45, 45, 45, 45, 45, 45, 45, 45, 45, 45, 45, 45, 45, 45, 45, 45, 45, 45, 45, 45, 45, 45, 45, 45, 45, 45, 45, 45, 45, 45, 45, 45, 45, 45, 45, 45, 45, 45, 45, 45, 45, 45, 45, 45, 45, 45, 45, 45, 45, 45, 45, 45, 45, 45, 45, 45, 45, 45, 45, 45, 45, 45, 45, 45, 45, 45, 45, 45, 45, 45, 45, 45, 45, 45, 45, 45, 45, 45, 45, 45, 45, 45, 45, 45, 45, 45, 45, 45, 45, 45, 45, 45, 45, 45, 45, 45, 45, 45, 45, 45, 45, 45] : List UInt8)⟩⟩, .string ⟨⟨p0_0⟩⟩]) Tryd.func50 nm_50 (by kernel_rfl) (by kernel_rfl)) (f50_ok (p0_0 := ([45, 45, 45, 45, 45, 45, 45, 45, 45, 45, 45, 45, 45, 45, 45, 45, 45, 45, 45, 45, 45, 45, 45, 45, 45, 45, 45, 45, 45, 45, 45, 45, 45, 45, 45, 45, 45, 45, 45, 45, 45, 45, 45, 45, 45, 45, 45, 45, 45, 45, 45, 45, 45, 45, 45, 45, 45, 45, 45, 45, 45, 45, 45, 45, 45, 45, 45, 45, 45, 45, 45, 45, 45, 45, 45, 45, 45, 45, 45, 45, 45, 45, 45, 45, 45, 45, 45, 45, 45, 45, 45, 45, 45, 45, 45, 45, 45, 45, 45, 45, 45, 45, 45, 45, 45, 45, 45, 45, 45, 45, 45, 45, 45, 45, 45, 45, 45, 45, 45, 45, 45, 45, 45, 45, 45, 45, 45, 45] : List UInt8)) (p1_0 := p0_0) fuel _ w_14 hL.lt  h_34) ?_)
                          intro vR w_26 hR
                          obtain ⟨rfl, hBe⟩ := hR
                          have hS := Stp.call hL (Fz.of_below hBe [])
                          replace hB := hS.below hL hB
                          replace hL := hS.hL
                          refine wl_val (v := .bool r_15) (w' := w_26) (by kernel_rfl) (run_pick_t (v := .bool r_15) (tr2 (c := (le (cvt .i64 r_1.2) 128)) (by kernel_rfl) hc_44) (by kernel_rfl)) ?_
                          refine wl_val (v := .bool r_15) (w' := w_26) (by kernel_rfl) (run_assign (v := .bool r_15) (by kernel_rfl)) ?_
                          refine wl_nil ?_
                          exact then_c ⟨r_15, (fun i => ([.int .i64 (cvt .i64 r_1.2), .bool (le (cvt .i64 r_1.2) 128), .bool (le (cvt .i64 r_1.2) 128), .string ⟨⟨p0_0⟩⟩, .bool r_15, .bool r_15] : List Value).getD i undef), by kernel_rfl, hL, hB, hm⟩
                        · have hm := ite_f hm hc_44
                          refine wl_not0 (wg (c := (le (cvt .i64 r_1.2) 128)) (want := true) (by kernel_rfl) hc_44 rfl) (by kernel_rfl) ?_
                          refine wl_not0 (wg (c := (le (cvt .i64 r_1.2) 128)) (want := true) (by kernel_rfl) hc_44 rfl) (by kernel_rfl) ?_
                          refine wl_val (v := .bool false) (w' := w_14) (by kernel_rfl) (run_pick_f (v := .bool false) (tr2 (c := (le (cvt .i64 r_1.2) 128)) (by kernel_rfl) hc_44) (by kernel_rfl)) ?_
                          refine wl_val (v := .bool false) (w' := w_14) (by kernel_rfl) (run_assign (v := .bool false) (by kernel_rfl)) ?_
                          refine wl_nil ?_
                          exact then_c ⟨false, (fun i => ([.int .i64 (cvt .i64 r_1.2), .bool (le (cvt .i64 r_1.2) 128), .bool (le (cvt .i64 r_1.2) 128), undef, undef, .bool false] : List Value).getD i undef), by kernel_rfl, hL, hB, hm⟩
                      · intro l1 w_16 hI
                        obtain ⟨x_12, u_14, rfl, hL, hB, hm⟩ := hI
                        unfold m29_J7 at hm
                        refine cw_cond (t := x_12) (by kernel_rfl) (fun hc_34 => ?_) (fun hc_34 => ?_)
                        · have hm := ite_t hm hc_34
                          refine cw_seq ?_
                          refine cw_region ?_
                          refine wl_val (v := .int .i64 (cvt .i64 r_1.2)) (w' := w_16) (by kernel_rfl) (run_move (v := .int .i64 (cvt .i64 r_1.2)) (by kernel_rfl)) ?_
                          obtain ⟨s_7, h_24, hm⟩ := bind_e hm
                          refine wl_val (v := .string ⟨⟨s_7⟩⟩) (w' := w_16) (by kernel_rfl) (run_slice_str_h (s := ([45, 45, 45, 45, 45, 45, 45, 45, 45, 45, 45, 45, 45, 45, 45, 45, 45, 45, 45, 45, 45, 45, 45, 45, 45, 45, 45, 45, 45, 45, 45, 45, 45, 45, 45, 45, 45, 45, 45, 45, 45, 45, 45, 45, 45, 45, 45, 45, 45, 45, 45, 45, 45, 45, 45, 45, 45, 45, 45, 45, 45, 45, 45, 45, 45, 45, 45, 45, 45, 45, 45, 45, 45, 45, 45, 45, 45, 45, 45, 45, 45, 45, 45, 45, 45, 45, 45, 45, 45, 45, 45, 45, 45, 45, 45, 45, 45, 45, 45, 45, 45, 45, 45, 45, 45, 45, 45, 45, 45, 45, 45, 45, 45, 45, 45, 45, 45, 45, 45, 45, 45, 45, 45, 45, 45, 45, 45, 45] : List UInt8)) (k := .i64) (j := (cvt .i64 r_1.2)) Tryd.underlying9 (by kernel_rfl) (by kernel_rfl) h_24) ?_
                          refine wl_val (v := .string ⟨⟨s_7⟩⟩) (w' := w_16) (by kernel_rfl) (run_assign (v := .string ⟨⟨s_7⟩⟩) (by kernel_rfl)) ?_
                          refine wl_nil ?_
                          refine then_n ?_
                          refine cw_ret ?_
                          refine inBlock_ret ?_
                          refine inBlock_ret ?_
                          refine then_ret ?_
                          obtain rfl := Option.some.inj hm
                          exact ret1 (v := .string ⟨⟨s_7⟩⟩) rfl (resv_tmp (by kernel_rfl)) ⟨_, rfl, by kernel_rfl, hB⟩
                        · have hm := ite_f hm hc_34
                          refine cw_cut (fun l' w' => ∃ x_13, ∃ u_15 : Nat → Value, l' = [.string ⟨⟨p0_0⟩⟩, .int .i64 p1_0, undef, undef, .string ⟨⟨([] : List UInt8)⟩⟩, .int .u64 r_1.1, .int .u64 r_1.2, .int .i64 (cvt .i64 r_1.2), undef, undef, undef, .int .i64 p1_0, .bool (eqi p1_0 0), .bool (eqi p1_0 0), .bool (eqi p1_0 1), .bool (eqi p1_0 1), undef, (u_1 0), (u_1 1), (u_1 2), .tuple #[.int .u64 r_1.1, .int .u64 r_1.2], .string ⟨⟨p0_0⟩⟩, .int .i64 (p0_0.length : Int), .int .u64 (cvt .u64 (p0_0.length : Int)), .int .i64 p1_0, .int .u64 (cvt .u64 p1_0), .tuple #[.int .u64 r_1.1, .int .u64 r_1.2], .int .u64 r_1.1, .int .u64 r_1.2, (u_3 0), (u_3 1), (u_3 2), (u_3 3), (u_3 4), (u_3 5), (u_3 6), .int .u64 r_1.2, .int .i64 (cvt .i64 r_1.2), .string ⟨⟨p0_0⟩⟩, .int .i64 (p0_0.length : Int), .bool (eqi (p0_0.length : Int) 0), .string ⟨⟨p0_0⟩⟩, .int .u8 (b_2.toNat : Int), .bool x_10, (u_12 0), (u_12 1), (u_12 2), (u_12 3), (u_12 4), .bool x_11, (u_13 0), (u_13 1), (u_13 2), (u_13 3), (u_13 4), (u_13 5), undef, undef, .bool x_12, (u_14 0), (u_14 1), (u_14 2), (u_14 3), (u_14 4), (u_14 5), undef, undef, .bool x_13, (u_15 0), (u_15 1), (u_15 2), (u_15 3), (u_15 4), (u_15 5), undef, undef, undef, undef, undef, undef, undef, undef, undef, undef, undef, undef, undef, undef, undef, undef, undef, undef, undef, undef, undef, undef, undef, undef, undef, undef, undef, undef, undef, undef, undef, undef, undef, undef, undef, undef, undef, undef, undef, undef, undef, undef, undef, undef, undef, undef, undef, undef, undef, undef, undef] ∧ LOk w0.heap.size [] F w' ∧ Below w0.heap.size w0 w' ∧ m29_J8 fuel p0_0 r_1 x_13 = some r) ?_ ?_
                          · refine cw_region ?_
                            refine wl_val (v := .int .i64 (cvt .i64 r_1.2)) (w' := w_16) (by kernel_rfl) (run_move (v := .int .i64 (cvt .i64 r_1.2)) (by kernel_rfl)) ?_
                            refine wl_val (v := .bool (le (cvt .i64 r_1.2) 64)) (w' := w_16) (by kernel_rfl) (run_le (k := .i64) (a := (cvt .i64 r_1.2)) (b := 64) (by kernel_rfl) (by kernel_rfl)) ?_
                            refine wl_val (v := .bool (le (cvt .i64 r_1.2) 64)) (w' := w_16) (by kernel_rfl) (run_move (v := .bool (le (cvt .i64 r_1.2) 64)) (by kernel_rfl)) ?_
                            rcases Bool.eq_false_or_eq_true (le (cvt .i64 r_1.2) 64) with hc_43 | hc_43
                            · have hm := ite_t hm hc_43
                              refine wl_val (v := .string ⟨⟨p0_0⟩⟩) (w' := w_16) (wg (c := (le (cvt .i64 r_1.2) 64)) (want := true) (by kernel_rfl) hc_43 rfl) (run_move (v := .string ⟨⟨p0_0⟩⟩) (by kernel_rfl)) ?_
                              obtain ⟨r_14, h_33, hm⟩ := bind_e hm
                              refine wl_op (wg (c := (le (cvt .i64 r_1.2) 64)) (want := true) (by kernel_rfl) hc_43 rfl) (ow_enter (run_callf (vs := [.string ⟨⟨([48, 48, 48, 48, 48, 48, 48, 48, 48, 48, 48, 48, 48, 48, 48, 48, 48, 48, 48, 48, 48, 48, 48, 48, 48, 48, 48, 48, 48, 48, 48, 48, 48, 48, 48, 48, 48, 48, 48, 48, 48, 48, 48, 48, 48, 48, 48, 48, 48, 48, 48, 48, 48, 48, 48, 48, 48, 48, 48, 48, 48, 48, 48, 48] : List UInt8)⟩⟩, .string ⟨⟨p0_0⟩⟩]) Tryd.func50 nm_50 (by kernel_rfl) (by kernel_rfl)) (f50_ok (p0_0 := ([48, 48, 48, 48, 48, 48, 48, 48, 48, 48, 48, 48, 48, 48, 48, 48, 48, 48, 48, 48, 48, 48, 48, 48, 48, 48, 48, 48, 48, 48, 48, 48, 48, 48, 48, 48, 48, 48, 48, 48, 48, 48, 48, 48, 48, 48, 48, 48, 48, 48, 48, 48, 48, 48, 48, 48, 48, 48, 48, 48, 48, 48, 48, 48] : List UInt8)) (p1_0 := p0_0) fuel _ w_16 hL.lt  h_33) ?_)
                              intro vR w_25 hR
                              obtain ⟨rfl, hBe⟩ := hR
                              have hS := Stp.call hL (Fz.of_below hBe [])
                              replace hB := hS.below hL hB
                              replace hL := hS.hL
                              refine wl_val (v := .bool r_14) (w' := w_25) (by kernel_rfl) (run_pick_t (v := .bool r_14) (tr2 (c := (le (cvt .i64 r_1.2) 64)) (by kernel_rfl) hc_43) (by kernel_rfl)) ?_
                              refine wl_val (v := .bool r_14) (w' := w_25) (by kernel_rfl) (run_assign (v := .bool r_14) (by kernel_rfl)) ?_
                              refine wl_nil ?_
                              exact then_c ⟨r_14, (fun i => ([.int .i64 (cvt .i64 r_1.2), .bool (le (cvt .i64 r_1.2) 64), .bool (le (cvt .i64 r_1.2) 64), .string ⟨⟨p0_0⟩⟩, .bool r_14, .bool r_14] : List Value).getD i undef), by kernel_rfl, hL, hB, hm⟩
                            · have hm := ite_f hm hc_43
                              refine wl_not0 (wg (c := (le (cvt .i64 r_1.2) 64)) (want := true) (by kernel_rfl) hc_43 rfl) (by kernel_rfl) ?_
                              refine wl_not0 (wg (c := (le (cvt .i64 r_1.2) 64)) (want := true) (by kernel_rfl) hc_43 rfl) (by kernel_rfl) ?_
                              refine wl_val (v := .bool false) (w' := w_16) (by kernel_rfl) (run_pick_f (v := .bool false) (tr2 (c := (le (cvt .i64 r_1.2) 64)) (by kernel_rfl) hc_43) (by kernel_rfl)) ?_
                              refine wl_val (v := .bool false) (w' := w_16) (by kernel_rfl) (run_assign (v := .bool false) (by kernel_rfl)) ?_
                              refine wl_nil ?_
                              exact then_c ⟨false, (fun i => ([.int .i64 (cvt .i64 r_1.2), .bool (le (cvt .i64 r_1.2) 64), .bool (le (cvt .i64 r_1.2) 64), undef, undef, .bool false] : List Value).getD i undef), by kernel_rfl, hL, hB, hm⟩
                          · intro l1 w_18 hI
                            obtain ⟨x_13, u_15, rfl, hL, hB, hm⟩ := hI
                            unfold m29_J8 at hm
                            refine cw_cond (t := x_13) (by kernel_rfl) (fun hc_36 => ?_) (fun hc_36 => ?_)
                            · have hm := ite_t hm hc_36
                              refine cw_seq ?_
                              refine cw_region ?_
                              refine wl_val (v := .int .i64 (cvt .i64 r_1.2)) (w' := w_18) (by kernel_rfl) (run_move (v := .int .i64 (cvt .i64 r_1.2)) (by kernel_rfl)) ?_
                              obtain ⟨s_8, h_26, hm⟩ := bind_e hm
                              refine wl_val (v := .string ⟨⟨s_8⟩⟩) (w' := w_18) (by kernel_rfl) (run_slice_str_h (s := ([48, 48, 48, 48, 48, 48, 48, 48, 48, 48, 48, 48, 48, 48, 48, 48, 48, 48, 48, 48, 48, 48, 48, 48, 48, 48, 48, 48, 48, 48, 48, 48, 48, 48, 48, 48, 48, 48, 48, 48, 48, 48, 48, 48, 48, 48, 48, 48, 48, 48, 48, 48, 48, 48, 48, 48, 48, 48, 48, 48, 48, 48, 48, 48] : List UInt8)) (k := .i64) (j := (cvt .i64 r_1.2)) Tryd.underlying9 (by kernel_rfl) (by kernel_rfl) h_26) ?_
                              refine wl_val (v := .string ⟨⟨s_8⟩⟩) (w' := w_18) (by kernel_rfl) (run_assign (v := .string ⟨⟨s_8⟩⟩) (by kernel_rfl)) ?_
                              refine wl_nil ?_
                              refine then_n ?_
                              refine cw_ret ?_
                              refine inBlock_ret ?_
                              refine inBlock_ret ?_
                              refine then_ret ?_
                              obtain rfl := Option.some.inj hm
                              exact ret1 (v := .string ⟨⟨s_8⟩⟩) rfl (resv_tmp (by kernel_rfl)) ⟨_, rfl, by kernel_rfl, hB⟩
                            · have hm := ite_f hm hc_36
                              refine cw_cut (fun l' w' => ∃ x_14, ∃ u_16 : Nat → Value, l' = [.string ⟨⟨p0_0⟩⟩, .int .i64 p1_0, undef, undef, .string ⟨⟨([] : List UInt8)⟩⟩, .int .u64 r_1.1, .int .u64 r_1.2, .int .i64 (cvt .i64 r_1.2), undef, undef, undef, .int .i64 p1_0, .bool (eqi p1_0 0), .bool (eqi p1_0 0), .bool (eqi p1_0 1), .bool (eqi p1_0 1), undef, (u_1 0), (u_1 1), (u_1 2), .tuple #[.int .u64 r_1.1, .int .u64 r_1.2], .string ⟨⟨p0_0⟩⟩, .int .i64 (p0_0.length : Int), .int .u64 (cvt .u64 (p0_0.length : Int)), .int .i64 p1_0, .int .u64 (cvt .u64 p1_0), .tuple #[.int .u64 r_1.1, .int .u64 r_1.2], .int .u64 r_1.1, .int .u64 r_1.2, (u_3 0), (u_3 1), (u_3 2), (u_3 3), (u_3 4), (u_3 5), (u_3 6), .int .u64 r_1.2, .int .i64 (cvt .i64 r_1.2), .string ⟨⟨p0_0⟩⟩, .int .i64 (p0_0.length : Int), .bool (eqi (p0_0.length : Int) 0), .string ⟨⟨p0_0⟩⟩, .int .u8 (b_2.toNat : Int), .bool x_10, (u_12 0), (u_12 1), (u_12 2), (u_12 3), (u_12 4), .bool x_11, (u_13 0), (u_13 1), (u_13 2), (u_13 3), (u_13 4), (u_13 5), undef, undef, .bool x_12, (u_14 0), (u_14 1), (u_14 2), (u_14 3), (u_14 4), (u_14 5), undef, undef, .bool x_13, (u_15 0), (u_15 1), (u_15 2), (u_15 3), (u_15 4), (u_15 5), undef, undef, .bool x_14, (u_16 0), (u_16 1), (u_16 2), (u_16 3), (u_16 4), (u_16 5), undef, undef, undef, undef, undef, undef, undef, undef, undef, undef, undef, undef, undef, undef, undef, undef, undef, undef, undef, undef, undef, undef, undef, undef, undef, undef, undef, undef, undef, undef, undef, undef, undef, undef, undef, undef, undef, undef, undef, undef, undef, undef] ∧ LOk w0.heap.size [] F w' ∧ Below w0.heap.size w0 w' ∧ m29_J9 fuel p0_0 r_1 x_14 = some r) ?_ ?_
                              · refine cw_region ?_
                                refine wl_val (v := .int .i64 (cvt .i64 r_1.2)) (w' := w_18) (by kernel_rfl) (run_move (v := .int .i64 (cvt .i64 r_1.2)) (by kernel_rfl)) ?_
                                refine wl_val (v := .bool (le (cvt .i64 r_1.2) 128)) (w' := w_18) (by kernel_rfl) (run_le (k := .i64) (a := (cvt .i64 r_1.2)) (b := 128) (by kernel_rfl) (by kernel_rfl)) ?_
                                refine wl_val (v := .bool (le (cvt .i64 r_1.2) 128)) (w' := w_18) (by kernel_rfl) (run_move (v := .bool (le (cvt .i64 r_1.2) 128)) (by kernel_rfl)) ?_
                                rcases Bool.eq_false_or_eq_true (le (cvt .i64 r_1.2) 128) with hc_42 | hc_42
                                · have hm := ite_t hm hc_42
                                  refine wl_val (v := .string ⟨⟨p0_0⟩⟩) (w' := w_18) (wg (c := (le (cvt .i64 r_1.2) 128)) (want := true) (by kernel_rfl) hc_42 rfl) (run_move (v := .string ⟨⟨p0_0⟩⟩) (by kernel_rfl)) ?_
                                  obtain ⟨r_13, h_32, hm⟩ := bind_e hm
                                  refine wl_op (wg (c := (le (cvt .i64 r_1.2) 128)) (want := true) (by kernel_rfl) hc_42 rfl) (ow_enter (run_callf (vs := [.string ⟨⟨([61, 61, 61, 61, 61, 61, 61, 61, 61, 61, 61, 61, 61, 61, 61, 61, 61, 61, 61, 61, 61, 61, 61, 61, 61, 61, 61, 61, 61, 61, 61, 61, 61, 61, 61, 61, 61, 61, 61, 61, 61, 61, 61, 61, 61, 61, 61, 61, 61, 61, 61, 61, 61, 61, 61, 61, 61, 61, 61, 61, 61, 61, 61, 61, 61, 61, 61, 61, 61, 61, 61, 61, 61, 61, 61, 61, 61, 61, 61, 61, 61, 61, 61, 61, 61, 61, 61, 61, 61, 61, 61, 61, 61, 61, 61, 61, 61, 61, 61, 61, 61, 61, 61, 61, 61, 61, 61, 61, 61, 61, 61, 61, 61, 61, 61, 61, 61, 61, 61, 61, 61, 61, 61, 61, 61, 61, 61, 61] : List UInt8)⟩⟩, .string ⟨⟨p0_0⟩⟩]) Tryd.func50 nm_50 (by kernel_rfl) (by kernel_rfl)) (f50_ok (p0_0 := ([61, 61, 61, 61, 61, 61, 61, 61, 61, 61, 61, 61, 61, 61, 61, 61, 61, 61, 61, 61, 61, 61, 61, 61, 61, 61, 61, 61, 61, 61, 61, 61, 61, 61, 61, 61, 61, 61, 61, 61, 61, 61, 61, 61, 61, 61, 61, 61, 61, 61, 61, 61, 61, 61, 61, 61, 61, 61, 61, 61, 61, 61, 61, 61, 61, 61, 61, 61, 61, 61, 61, 61, 61, 61, 61, 61, 61, 61, 61, 61, 61, 61, 61, 61, 61, 61, 61, 61, 61, 61, 61, 61, 61, 61, 61, 61, 61, 61, 61, 61, 61, 61, 61, 61, 61, 61, 61, 61, 61, 61, 61, 61, 61, 61, 61, 61, 61, 61, 61, 61, 61, 61, 61, 61, 61, 61, 61, 61] : List UInt8)) (p1_0 := p0_0) fuel _ w_18 hL.lt  h_32) ?_)
                                  intro vR w_24 hR
                                  obtain ⟨rfl, hBe⟩ := hR
                                  have hS := Stp.call hL (Fz.of_below hBe [])
                                  replace hB := hS.below hL hB
                                  replace hL := hS.hL
                                  refine wl_val (v := .bool r_13) (w' := w_24) (by kernel_rfl) (run_pick_t (v := .bool r_13) (tr2 (c := (le (cvt .i64 r_1.2) 128)) (by kernel_rfl) hc_42) (by kernel_rfl)) ?_
                                  refine wl_val (v := .bool r_13) (w' := w_24) (by kernel_rfl) (run_assign (v := .bool r_13) (by kernel_rfl)) ?_
                                  refine wl_nil ?_
                                  exact then_c ⟨r_13, (fun i => ([.int .i64 (cvt .i64 r_1.2), .bool (le (cvt .i64 r_1.2) 128), .bool (le (cvt .i64 r_1.2) 128), .string ⟨⟨p0_0⟩⟩, .bool r_13, .bool r_13] : List Value).getD i undef), by kernel_rfl, hL, hB, hm⟩
                                · have hm := ite_f hm hc_42
                                  refine wl_not0 (wg (c := (le (cvt .i64 r_1.2) 128)) (want := true) (by kernel_rfl) hc_42 rfl) (by kernel_rfl) ?_
                                  refine wl_not0 (wg (c := (le (cvt .i64 r_1.2) 128)) (want := true) (by kernel_rfl) hc_42 rfl) (by kernel_rfl) ?_
                                  refine wl_val (v := .bool false) (w' := w_18) (by kernel_rfl) (run_pick_f (v := .bool false) (tr2 (c := (le (cvt .i64 r_1.2) 128)) (by kernel_rfl) hc_42) (by kernel_rfl)) ?_
                                  refine wl_val (v := .bool false) (w' := w_18) (by kernel_rfl) (run_assign (v := .bool false) (by kernel_rfl)) ?_
                                  refine wl_nil ?_
                                  exact then_c ⟨false, (fun i => ([.int .i64 (cvt .i64 r_1.2), .bool (le (cvt .i64 r_1.2) 128), .bool (le (cvt .i64 r_1.2) 128), undef, undef, .bool false] : List Value).getD i undef), by kernel_rfl, hL, hB, hm⟩
                              · intro l1 w_20 hI
                                obtain ⟨x_14, u_16, rfl, hL, hB, hm⟩ := hI
                                unfold m29_J9 at hm
                                refine cw_cond (t := x_14) (by kernel_rfl) (fun hc_38 => ?_) (fun hc_38 => ?_)
                                · have hm := ite_t hm hc_38
                                  refine cw_seq ?_
                                  refine cw_region ?_
                                  refine wl_val (v := .int .i64 (cvt .i64 r_1.2)) (w' := w_20) (by kernel_rfl) (run_move (v := .int .i64 (cvt .i64 r_1.2)) (by kernel_rfl)) ?_
                                  obtain ⟨s_9, h_28, hm⟩ := bind_e hm
                                  refine wl_val (v := .string ⟨⟨s_9⟩⟩) (w' := w_20) (by kernel_rfl) (run_slice_str_h (s := ([61, 61, 61, 61, 61, 61, 61, 61, 61, 61, 61, 61, 61, 61, 61, 61, 61, 61, 61, 61, 61, 61, 61, 61, 61, 61, 61, 61, 61, 61, 61, 61, 61, 61, 61, 61, 61, 61, 61, 61, 61, 61, 61, 61, 61, 61, 61, 61, 61, 61, 61, 61, 61, 61, 61, 61, 61, 61, 61, 61, 61, 61, 61, 61, 61, 61, 61, 61, 61, 61, 61, 61, 61, 61, 61, 61, 61, 61, 61, 61, 61, 61, 61, 61, 61, 61, 61, 61, 61, 61, 61, 61, 61, 61, 61, 61, 61, 61, 61, 61, 61, 61, 61, 61, 61, 61, 61, 61, 61, 61, 61, 61, 61, 61, 61, 61, 61, 61, 61, 61, 61, 61, 61, 61, 61, 61, 61, 61] : List UInt8)) (k := .i64) (j := (cvt .i64 r_1.2)) Tryd.underlying9 (by kernel_rfl) (by kernel_rfl) h_28) ?_
                                  refine wl_val (v := .string ⟨⟨s_9⟩⟩) (w' := w_20) (by kernel_rfl) (run_assign (v := .string ⟨⟨s_9⟩⟩) (by kernel_rfl)) ?_
                                  refine wl_nil ?_
                                  refine then_n ?_
                                  refine cw_ret ?_
                                  refine inBlock_ret ?_
                                  refine inBlock_ret ?_
                                  refine then_ret ?_
                                  obtain rfl := Option.some.inj hm
                                  exact ret1 (v := .string ⟨⟨s_9⟩⟩) rfl (resv_tmp (by kernel_rfl)) ⟨_, rfl, by kernel_rfl, hB⟩
                                · have hm := ite_f hm hc_38
                                  refine cw_cut (fun l' w' => ∃ x_15, ∃ u_17 : Nat → Value, l' = [.string ⟨⟨p0_0⟩⟩, .int .i64 p1_0, undef, undef, .string ⟨⟨([] : List UInt8)⟩⟩, .int .u64 r_1.1, .int .u64 r_1.2, .int .i64 (cvt .i64 r_1.2), undef, undef, undef, .int .i64 p1_0, .bool (eqi p1_0 0), .bool (eqi p1_0 0), .bool (eqi p1_0 1), .bool (eqi p1_0 1), undef, (u_1 0), (u_1 1), (u_1 2), .tuple #[.int .u64 r_1.1, .int .u64 r_1.2], .string ⟨⟨p0_0⟩⟩, .int .i64 (p0_0.length : Int), .int .u64 (cvt .u64 (p0_0.length : Int)), .int .i64 p1_0, .int .u64 (cvt .u64 p1_0), .tuple #[.int .u64 r_1.1, .int .u64 r_1.2], .int .u64 r_1.1, .int .u64 r_1.2, (u_3 0), (u_3 1), (u_3 2), (u_3 3), (u_3 4), (u_3 5), (u_3 6), .int .u64 r_1.2, .int .i64 (cvt .i64 r_1.2), .string ⟨⟨p0_0⟩⟩, .int .i64 (p0_0.length : Int), .bool (eqi (p0_0.length : Int) 0), .string ⟨⟨p0_0⟩⟩, .int .u8 (b_2.toNat : Int), .bool x_10, (u_12 0), (u_12 1), (u_12 2), (u_12 3), (u_12 4), .bool x_11, (u_13 0), (u_13 1), (u_13 2), (u_13 3), (u_13 4), (u_13 5), undef, undef, .bool x_12, (u_14 0), (u_14 1), (u_14 2), (u_14 3), (u_14 4), (u_14 5), undef, undef, .bool x_13, (u_15 0), (u_15 1), (u_15 2), (u_15 3), (u_15 4), (u_15 5), undef, undef, .bool x_14, (u_16 0), (u_16 1), (u_16 2), (u_16 3), (u_16 4), (u_16 5), undef, undef, .bool x_15, (u_17 0), (u_17 1), (u_17 2), (u_17 3), (u_17 4), (u_17 5), undef, undef, undef, undef, undef, undef, undef, undef, undef, undef, undef, undef, undef, undef, undef, undef, undef, undef, undef, undef, undef, undef, undef, undef, undef, undef, undef, undef, undef, undef, undef, undef, undef] ∧ LOk w0.heap.size [] F w' ∧ Below w0.heap.size w0 w' ∧ m29_J10 fuel p0_0 r_1 x_15 = some r) ?_ ?_
                                  · refine cw_region ?_
                                    refine wl_val (v := .int .i64 (cvt .i64 r_1.2)) (w' := w_20) (by kernel_rfl) (run_move (v := .int .i64 (cvt .i64 r_1.2)) (by kernel_rfl)) ?_
                                    refine wl_val (v := .bool (le (cvt .i64 r_1.2) 64)) (w' := w_20) (by kernel_rfl) (run_le (k := .i64) (a := (cvt .i64 r_1.2)) (b := 64) (by kernel_rfl) (by kernel_rfl)) ?_
                                    refine wl_val (v := .bool (le (cvt .i64 r_1.2) 64)) (w' := w_20) (by kernel_rfl) (run_move (v := .bool (le (cvt .i64 r_1.2) 64)) (by kernel_rfl)) ?_
                                    rcases Bool.eq_false_or_eq_true (le (cvt .i64 r_1.2) 64) with hc_41 | hc_41
                                    · have hm := ite_t hm hc_41
                                      refine wl_val (v := .string ⟨⟨p0_0⟩⟩) (w' := w_20) (wg (c := (le (cvt .i64 r_1.2) 64)) (want := true) (by kernel_rfl) hc_41 rfl) (run_move (v := .string ⟨⟨p0_0⟩⟩) (by kernel_rfl)) ?_
                                      obtain ⟨r_12, h_31, hm⟩ := bind_e hm
                                      refine wl_op (wg (c := (le (cvt .i64 r_1.2) 64)) (want := true) (by kernel_rfl) hc_41 rfl) (ow_enter (run_callf (vs := [.string ⟨⟨([9, 9, 9, 9, 9, 9, 9, 9, 9, 9, 9, 9, 9, 9, 9, 9, 9, 9, 9, 9, 9, 9, 9, 9, 9, 9, 9, 9, 9, 9, 9, 9, 9, 9, 9, 9, 9, 9, 9, 9, 9, 9, 9, 9, 9, 9, 9, 9, 9, 9, 9, 9, 9, 9, 9, 9, 9, 9, 9, 9, 9, 9, 9, 9] : List UInt8)⟩⟩, .string ⟨⟨p0_0⟩⟩]) Tryd.func50 nm_50 (by kernel_rfl) (by kernel_rfl)) (f50_ok (p0_0 := ([9, 9, 9, 9, 9, 9, 9, 9, 9, 9, 9, 9, 9, 9, 9, 9, 9, 9, 9, 9, 9, 9, 9, 9, 9, 9, 9, 9, 9, 9, 9, 9, 9, 9, 9, 9, 9, 9, 9, 9, 9, 9, 9, 9, 9, 9, 9, 9, 9, 9, 9, 9, 9, 9, 9, 9, 9, 9, 9, 9, 9, 9, 9, 9] : List UInt8)) (p1_0 := p0_0) fuel _ w_20 hL.lt  h_31) ?_)
                                      intro vR w_23 hR
                                      obtain ⟨rfl, hBe⟩ := hR
                                      have hS := Stp.call hL (Fz.of_below hBe [])
                                      replace hB := hS.below hL hB
                                      replace hL := hS.hL
                                      refine wl_val (v := .bool r_12) (w' := w_23) (by kernel_rfl) (run_pick_t (v := .bool r_12) (tr2 (c := (le (cvt .i64 r_1.2) 64)) (by kernel_rfl) hc_41) (by kernel_rfl)) ?_
                                      refine wl_val (v := .bool r_12) (w' := w_23) (by kernel_rfl) (run_assign (v := .bool r_12) (by kernel_rfl)) ?_
                                      refine wl_nil ?_
                                      exact then_c ⟨r_12, (fun i => ([.int .i64 (cvt .i64 r_1.2), .bool (le (cvt .i64 r_1.2) 64), .bool (le (cvt .i64 r_1.2) 64), .string ⟨⟨p0_0⟩⟩, .bool r_12, .bool r_12] : List Value).getD i undef), by kernel_rfl, hL, hB, hm⟩
                                    · have hm := ite_f hm hc_41
                                      refine wl_not0 (wg (c := (le (cvt .i64 r_1.2) 64)) (want := true) (by kernel_rfl) hc_41 rfl) (by kernel_rfl) ?_
                                      refine wl_not0 (wg (c := (le (cvt .i64 r_1.2) 64)) (want := true) (by kernel_rfl) hc_41 rfl) (by kernel_rfl) ?_
                                      refine wl_val (v := .bool false) (w' := w_20) (by kernel_rfl) (run_pick_f (v := .bool false) (tr2 (c := (le (cvt .i64 r_1.2) 64)) (by kernel_rfl) hc_41) (by kernel_rfl)) ?_
                                      refine wl_val (v := .bool false) (w' := w_20) (by kernel_rfl) (run_assign (v := .bool false) (by kernel_rfl)) ?_
                                      refine wl_nil ?_
                                      exact then_c ⟨false, (fun i => ([.int .i64 (cvt .i64 r_1.2), .bool (le (cvt .i64 r_1.2) 64), .bool (le (cvt .i64 r_1.2) 64), undef, undef, .bool false] : List Value).getD i undef), by kernel_rfl, hL, hB, hm⟩
                                  · intro l1 w_22 hI
                                    obtain ⟨x_15, u_17, rfl, hL, hB, hm⟩ := hI
                                    unfold m29_J10 at hm
                                    refine cw_cond (t := x_15) (by kernel_rfl) (fun hc_40 => ?_) (fun hc_40 => ?_)
                                    · have hm := ite_t hm hc_40
                                      refine cw_seq ?_
                                      refine cw_region ?_
                                      refine wl_val (v := .int .i64 (cvt .i64 r_1.2)) (w' := w_22) (by kernel_rfl) (run_move (v := .int .i64 (cvt .i64 r_1.2)) (by kernel_rfl)) ?_
                                      obtain ⟨s_10, h_30, hm⟩ := bind_e hm
                                      refine wl_val (v := .string ⟨⟨s_10⟩⟩) (w' := w_22) (by kernel_rfl) (run_slice_str_h (s := ([9, 9, 9, 9, 9, 9, 9, 9, 9, 9, 9, 9, 9, 9, 9, 9, 9, 9, 9, 9, 9, 9, 9, 9, 9, 9, 9, 9, 9, 9, 9, 9, 9, 9, 9, 9, 9, 9, 9, 9, 9, 9, 9, 9, 9, 9, 9, 9, 9, 9, 9, 9, 9, 9, 9, 9, 9, 9, 9, 9, 9, 9, 9, 9] : List UInt8)) (k := .i64) (j := (cvt .i64 r_1.2)) Tryd.underlying9 (by kernel_rfl) (by kernel_rfl) h_30) ?_
                                      refine wl_val (v := .string ⟨⟨s_10⟩⟩) (w' := w_22) (by kernel_rfl) (run_assign (v := .string ⟨⟨s_10⟩⟩) (by kernel_rfl)) ?_
                                      refine wl_nil ?_
                                      refine then_n ?_
                                      refine cw_ret ?_
                                      refine inBlock_ret ?_
                                      refine inBlock_ret ?_
                                      refine then_ret ?_
                                      obtain rfl := Option.some.inj hm
                                      exact ret1 (v := .string ⟨⟨s_10⟩⟩) rfl (resv_tmp (by kernel_rfl)) ⟨_, rfl, by kernel_rfl, hB⟩
                                    · have hm := ite_f hm hc_40
                                      refine cw_skip ?_
                                      refine inBlock_n ?_
                                      refine inBlock_n ?_
                                      exact then_c ⟨(fun i => ([.string ⟨⟨([] : List UInt8)⟩⟩, .string ⟨⟨p0_0⟩⟩, .int .u8 (b_2.toNat : Int), .bool x_10, (u_12 0), (u_12 1), (u_12 2), (u_12 3), (u_12 4), .bool x_11, (u_13 0), (u_13 1), (u_13 2), (u_13 3), (u_13 4), (u_13 5), undef, undef, .bool x_12, (u_14 0), (u_14 1), (u_14 2), (u_14 3), (u_14 4), (u_14 5), undef, undef, .bool x_13, (u_15 0), (u_15 1), (u_15 2), (u_15 3), (u_15 4), (u_15 5), undef, undef, .bool x_14, (u_16 0), (u_16 1), (u_16 2), (u_16 3), (u_16 4), (u_16 5), undef, undef, .bool x_15, (u_17 0), (u_17 1), (u_17 2), (u_17 3), (u_17 4), (u_17 5), undef, undef] : List Value).getD i undef), by kernel_rfl, hL, hB, hm⟩
                · have hm := ite_f hm hc_30
                  refine cw_skip ?_
                  refine inBlock_n ?_
                  exact then_c ⟨(fun i => ([.string ⟨⟨([] : List UInt8)⟩⟩, .string ⟨⟨p0_0⟩⟩, .int .u8 (b_2.toNat : Int), .bool x_10, (u_12 0), (u_12 1), (u_12 2), (u_12 3), (u_12 4), undef, undef, undef, undef, undef, undef, undef, undef, undef, undef, undef, undef, undef, undef, undef, undef, undef, undef, undef, undef, undef, undef, undef, undef, undef, undef, undef, undef, undef, undef, undef, undef, undef, undef, undef, undef, undef, undef, undef, undef, undef, undef, undef, undef, undef] : List Value).getD i undef), by kernel_rfl, hL, hB, hm⟩
            · intro l1 w_9 hI
              obtain ⟨u_10, rfl, hL, hB, hm⟩ := hI
              unfold m29_J3 at hm
              refine cw_seq ?_
              refine cw_region ?_
              refine wl_val (v := .int .i64 (cvt .i64 r_1.2)) (w' := w_9) (by kernel_rfl) (run_move (v := .int .i64 (cvt .i64 r_1.2)) (by kernel_rfl)) ?_
              refine wl_val (v := .int .i64 (cvt .i64 r_1.2)) (w' := w_9) (by kernel_rfl) (run_assign (v := .int .i64 (cvt .i64 r_1.2)) (by kernel_rfl)) ?_
              refine wl_nil ?_
              refine then_n ?_
              refine cw_cut (fun l' w' => ∃ chunkMax_1, ∃ u_11 : Nat → Value, l' = [.string ⟨⟨p0_0⟩⟩, .int .i64 p1_0, undef, undef, (u_10 0), .int .u64 r_1.1, .int .u64 r_1.2, .int .i64 (cvt .i64 r_1.2), .int .i64 chunkMax_1, undef, undef, .int .i64 p1_0, .bool (eqi p1_0 0), .bool (eqi p1_0 0), .bool (eqi p1_0 1), .bool (eqi p1_0 1), undef, (u_1 0), (u_1 1), (u_1 2), .tuple #[.int .u64 r_1.1, .int .u64 r_1.2], .string ⟨⟨p0_0⟩⟩, .int .i64 (p0_0.length : Int), .int .u64 (cvt .u64 (p0_0.length : Int)), .int .i64 p1_0, .int .u64 (cvt .u64 p1_0), .tuple #[.int .u64 r_1.1, .int .u64 r_1.2], .int .u64 r_1.1, .int .u64 r_1.2, (u_3 0), (u_3 1), (u_3 2), (u_3 3), (u_3 4), (u_3 5), (u_3 6), .int .u64 r_1.2, .int .i64 (cvt .i64 r_1.2), .string ⟨⟨p0_0⟩⟩, .int .i64 (p0_0.length : Int), .bool (eqi (p0_0.length : Int) 0), (u_10 1), (u_10 2), (u_10 3), (u_10 4), (u_10 5), (u_10 6), (u_10 7), (u_10 8), (u_10 9), (u_10 10), (u_10 11), (u_10 12), (u_10 13), (u_10 14), (u_10 15), (u_10 16), (u_10 17), (u_10 18), (u_10 19), (u_10 20), (u_10 21), (u_10 22), (u_10 23), (u_10 24), (u_10 25), (u_10 26), (u_10 27), (u_10 28), (u_10 29), (u_10 30), (u_10 31), (u_10 32), (u_10 33), (u_10 34), (u_10 35), (u_10 36), (u_10 37), (u_10 38), (u_10 39), (u_10 40), (u_10 41), (u_10 42), (u_10 43), (u_10 44), (u_10 45), (u_10 46), (u_10 47), (u_10 48), (u_10 49), (u_10 50), (u_10 51), (u_10 52), (u_10 53), .int .i64 (cvt .i64 r_1.2), (u_11 0), (u_11 1), (u_11 2), (u_11 3), (u_11 4), (u_11 5), (u_11 6), (u_11 7), (u_11 8), (u_11 9), (u_11 10), (u_11 11), undef, undef, undef, undef, undef, undef, undef, undef, undef, undef, undef, undef, undef, undef, undef, undef, undef, undef] ∧ LOk w0.heap.size [] F w' ∧ Below w0.heap.size w0 w' ∧ m29_J4 fuel chunkMax_1 = some r) ?_ ?_
              · refine cw_seq ?_
                refine cw_region ?_
                refine wl_val (v := .int .i64 (cvt .i64 r_1.2)) (w' := w_9) (by kernel_rfl) (run_move (v := .int .i64 (cvt .i64 r_1.2)) (by kernel_rfl)) ?_
                refine wl_val (v := .bool (gt (cvt .i64 r_1.2) 8192)) (w' := w_9) (by kernel_rfl) (run_gt (k := .i64) (a := (cvt .i64 r_1.2)) (b := 8192) (by kernel_rfl) (by kernel_rfl)) ?_
                refine wl_nil ?_
                refine then_n ?_
                refine cw_cond (t := (gt (cvt .i64 r_1.2) 8192)) (by kernel_rfl) (fun hc_24 => ?_) (fun hc_24 => ?_)
                · have hm := ite_t hm hc_24
                  refine cw_seq ?_
                  refine cw_region ?_
                  refine wl_val (v := .string ⟨⟨p0_0⟩⟩) (w' := w_9) (by kernel_rfl) (run_move (v := .string ⟨⟨p0_0⟩⟩) (by kernel_rfl)) ?_
                  refine wl_val (v := .int .i64 (p0_0.length : Int)) (w' := w_9) (by kernel_rfl) (run_len_str (s := p0_0) Tryd.underlying9 (by kernel_rfl)) ?_
                  obtain ⟨h_17, hm⟩ := need_e hm
                  refine wl_val (v := .int .i64 (quo .i64 8192 (p0_0.length : Int))) (w' := w_9) (by kernel_rfl) (run_quo (k := .i64) (a := 8192) (b := (p0_0.length : Int)) (by kernel_rfl) (by kernel_rfl) (by simpa [nei] using h_17)) ?_
                  refine wl_val (v := .string ⟨⟨p0_0⟩⟩) (w' := w_9) (by kernel_rfl) (run_move (v := .string ⟨⟨p0_0⟩⟩) (by kernel_rfl)) ?_
                  refine wl_val (v := .int .i64 (p0_0.length : Int)) (w' := w_9) (by kernel_rfl) (run_len_str (s := p0_0) Tryd.underlying9 (by kernel_rfl)) ?_
                  obtain ⟨x_9, h_18, hm⟩ := bind_e hm
                  refine wl_val (v := .int .i64 x_9) (w' := w_9) (by kernel_rfl) (by rw [← Option.some.inj h_18]; exact run_mul (k := .i64) (a := (quo .i64 8192 (p0_0.length : Int))) (b := (p0_0.length : Int)) (by kernel_rfl) (by kernel_rfl)) ?_
                  refine wl_val (v := .int .i64 x_9) (w' := w_9) (by kernel_rfl) (run_assign (v := .int .i64 x_9) (by kernel_rfl)) ?_
                  refine wl_nil ?_
                  refine then_n ?_
                  refine cw_norm [.string ⟨⟨p0_0⟩⟩, .int .i64 p1_0, undef, undef, (u_10 0), .int .u64 r_1.1, .int .u64 r_1.2, .int .i64 (cvt .i64 r_1.2), .int .i64 x_9, undef, undef, .int .i64 p1_0, .bool (eqi p1_0 0), .bool (eqi p1_0 0), .bool (eqi p1_0 1), .bool (eqi p1_0 1), undef, (u_1 0), (u_1 1), (u_1 2), .tuple #[.int .u64 r_1.1, .int .u64 r_1.2], .string ⟨⟨p0_0⟩⟩, .int .i64 (p0_0.length : Int), .int .u64 (cvt .u64 (p0_0.length : Int)), .int .i64 p1_0, .int .u64 (cvt .u64 p1_0), .tuple #[.int .u64 r_1.1, .int .u64 r_1.2], .int .u64 r_1.1, .int .u64 r_1.2, (u_3 0), (u_3 1), (u_3 2), (u_3 3), (u_3 4), (u_3 5), (u_3 6), .int .u64 r_1.2, .int .i64 (cvt .i64 r_1.2), .string ⟨⟨p0_0⟩⟩, .int .i64 (p0_0.length : Int), .bool (eqi (p0_0.length : Int) 0), (u_10 1), (u_10 2), (u_10 3), (u_10 4), (u_10 5), (u_10 6), (u_10 7), (u_10 8), (u_10 9), (u_10 10), (u_10 11), (u_10 12), (u_10 13), (u_10 14), (u_10 15), (u_10 16), (u_10 17), (u_10 18), (u_10 19), (u_10 20), (u_10 21), (u_10 22), (u_10 23), (u_10 24), (u_10 25), (u_10 26), (u_10 27), (u_10 28), (u_10 29), (u_10 30), (u_10 31), (u_10 32), (u_10 33), (u_10 34), (u_10 35), (u_10 36), (u_10 37), (u_10 38), (u_10 39), (u_10 40), (u_10 41), (u_10 42), (u_10 43), (u_10 44), (u_10 45), (u_10 46), (u_10 47), (u_10 48), (u_10 49), (u_10 50), (u_10 51), (u_10 52), (u_10 53), .int .i64 (cvt .i64 r_1.2), .int .i64 (cvt .i64 r_1.2), .bool (gt (cvt .i64 r_1.2) 8192), .string ⟨⟨p0_0⟩⟩, .int .i64 (p0_0.length : Int), .int .i64 (quo .i64 8192 (p0_0.length : Int)), .string ⟨⟨p0_0⟩⟩, .int .i64 (p0_0.length : Int), .int .i64 x_9, undef, undef, undef, undef, undef, undef, undef, undef, undef, undef, undef, undef, undef, undef, undef, undef, undef, undef, undef, undef, undef, undef] (by kernel_rfl) ?_
                  refine cw_seq ?_
                  refine cw_region ?_
                  refine wl_val (v := .int .i64 x_9) (w' := w_9) (by kernel_rfl) (run_move (v := .int .i64 x_9) (by kernel_rfl)) ?_
                  refine wl_val (v := .bool (eqi x_9 0)) (w' := w_9) (by kernel_rfl) (run_eqi (k := .i64) (a := x_9) (b := 0) (by kernel_rfl) (by kernel_rfl)) ?_
                  refine wl_nil ?_
                  refine then_n ?_
                  refine cw_cond (t := (eqi x_9 0)) (by kernel_rfl) (fun hc_25 => ?_) (fun hc_25 => ?_)
                  · have hm := ite_t hm hc_25
                    refine cw_region ?_
                    refine wl_val (v := .string ⟨⟨p0_0⟩⟩) (w' := w_9) (by kernel_rfl) (run_move (v := .string ⟨⟨p0_0⟩⟩) (by kernel_rfl)) ?_
                    refine wl_val (v := .int .i64 (p0_0.length : Int)) (w' := w_9) (by kernel_rfl) (run_len_str (s := p0_0) Tryd.underlying9 (by kernel_rfl)) ?_
                    refine wl_val (v := .int .i64 (p0_0.length : Int)) (w' := w_9) (by kernel_rfl) (run_assign (v := .int .i64 (p0_0.length : Int)) (by kernel_rfl)) ?_
                    refine wl_nil ?_
                    exact then_c ⟨(p0_0.length : Int), (fun i => ([.int .i64 (cvt .i64 r_1.2), .bool (gt (cvt .i64 r_1.2) 8192), .string ⟨⟨p0_0⟩⟩, .int .i64 (p0_0.length : Int), .int .i64 (quo .i64 8192 (p0_0.length : Int)), .string ⟨⟨p0_0⟩⟩, .int .i64 (p0_0.length : Int), .int .i64 x_9, .int .i64 x_9, .bool (eqi x_9 0), .string ⟨⟨p0_0⟩⟩, .int .i64 (p0_0.length : Int)] : List Value).getD i undef), by kernel_rfl, hL, hB, hm⟩
                  · have hm := ite_f hm hc_25
                    refine cw_skip ?_
                    exact then_c ⟨x_9, (fun i => ([.int .i64 (cvt .i64 r_1.2), .bool (gt (cvt .i64 r_1.2) 8192), .string ⟨⟨p0_0⟩⟩, .int .i64 (p0_0.length : Int), .int .i64 (quo .i64 8192 (p0_0.length : Int)), .string ⟨⟨p0_0⟩⟩, .int .i64 (p0_0.length : Int), .int .i64 x_9, .int .i64 x_9, .bool (eqi x_9 0), undef, undef] : List Value).getD i undef), by kernel_rfl, hL, hB, hm⟩
                · have hm := ite_f hm hc_24
                  refine cw_skip ?_
                  exact then_c ⟨(cvt .i64 r_1.2), (fun i => ([.int .i64 (cvt .i64 r_1.2), .bool (gt (cvt .i64 r_1.2) 8192), undef, undef, undef, undef, undef, undef, undef, undef, undef, undef] : List Value).getD i undef), by kernel_rfl, hL, hB, hm⟩
              · intro l1 w_10 hI
                obtain ⟨chunkMax_1, u_11, rfl, hL, hB, hm⟩ := hI
                unfold m29_J4 at hm
                refine cw_seq ?_
                refine cw_region ?_
                cases hm
end SxYtihfogahdofdmaaDoor

end

section
/- Written by program (gen.py): the model of internal/strconv.small, and the proof that its code computes it. -/
namespace SxYtihfogahdofdmaaDoor
open Go Go.RowKit Sx Go.Proofs
set_option linter.unusedVariables false
set_option linter.unusedSimpArgs false
attribute [local irreducible] WL WX CW OW
/-! ### 75: "internal/strconv.small" -/
def m75 (fuel : Nat) (p0_0 : Int) : Option (List UInt8) :=
  if (lt p0_0 10) then ((cut ([48, 49, 50, 51, 52, 53, 54, 55, 56, 57, 97, 98, 99, 100, 101, 102, 103, 104, 105, 106, 107, 108, 109, 110, 111, 112, 113, 114, 115, 116, 117, 118, 119, 120, 121, 122] : List UInt8) p0_0 (add .i64 p0_0 1)).bind fun s_1 => some s_1) else ((cut ([48, 48, 48, 49, 48, 50, 48, 51, 48, 52, 48, 53, 48, 54, 48, 55, 48, 56, 48, 57, 49, 48, 49, 49, 49, 50, 49, 51, 49, 52, 49, 53, 49, 54, 49, 55, 49, 56, 49, 57, 50, 48, 50, 49, 50, 50, 50, 51, 50, 52, 50, 53, 50, 54, 50, 55, 50, 56, 50, 57, 51, 48, 51, 49, 51, 50, 51, 51, 51, 52, 51, 53, 51, 54, 51, 55, 51, 56, 51, 57, 52, 48, 52, 49, 52, 50, 52, 51, 52, 52, 52, 53, 52, 54, 52, 55, 52, 56, 52, 57, 53, 48, 53, 49, 53, 50, 53, 51, 53, 52, 53, 53, 53, 54, 53, 55, 53, 56, 53, 57, 54, 48, 54, 49, 54, 50, 54, 51, 54, 52, 54, 53, 54, 54, 54, 55, 54, 56, 54, 57, 55, 48, 55, 49, 55, 50, 55, 51, 55, 52, 55, 53, 55, 54, 55, 55, 55, 56, 55, 57, 56, 48, 56, 49, 56, 50, 56, 51, 56, 52, 56, 53, 56, 54, 56, 55, 56, 56, 56, 57, 57, 48, 57, 49, 57, 50, 57, 51, 57, 52, 57, 53, 57, 54, 57, 55, 57, 56, 57, 57] : List UInt8) (mul .i64 p0_0 2) (add .i64 (mul .i64 p0_0 2) 2)).bind fun s_2 => some s_2)
@[reducible] def Q75 (F : Lx) (w0 : World) (r : (List UInt8)) (v : Value) (w' : World) : Prop := v = .string ⟨⟨r⟩⟩ ∧ Below w0.heap.size w0 w'
set_option maxRecDepth 100000 in
set_option maxHeartbeats 4000000 in
theorem f75_ok (fuel : Nat) (F : Lx) (w0 : World) (hF : ∀ k, some k ∈ F → k < w0.heap.size) {p0_0 : Int} {r : (List UInt8)} (hm : m75 fuel p0_0 = some r) :
    Calls Tryd.prog 75 #[.int .i64 p0_0] w0 (fun e w' => ∃ v, e = .returned v ∧ Q75 F w0 r v w') := by
  have hPF : PF (bodyPost Tryd.prog Tryd.f75 (fun e w' => ∃ v, e = .returned v ∧ Q75 F w0 r v w')) := PF.body (fun c w h => by obtain ⟨v, e, _⟩ := h; cases e)
  have hL := LOk.start hF
  have hB := Below.refl w0.heap.size w0
  unfold m75 at hm
  refine enter (l := [.int .i64 p0_0, undef, undef, undef, undef, undef, undef, undef, undef, undef, undef, undef, undef, undef, undef]) Tryd.func75 rfl Tryd.ntmps75 (by kernel_rfl) ?_
  refine cw_seq ?_
  refine cw_region ?_
  refine wl_val (v := .string ⟨⟨([] : List UInt8)⟩⟩) (w' := w0) (by kernel_rfl) (run_assign (v := .string ⟨⟨([] : List UInt8)⟩⟩) (by kernel_rfl)) ?_
  refine wl_nil ?_
  refine then_n ?_
  refine cw_seq ?_
  refine cw_seq ?_
  refine cw_region ?_
  refine wl_val (v := .int .i64 p0_0) (w' := w0) (by kernel_rfl) (run_move (v := .int .i64 p0_0) (by kernel_rfl)) ?_
  refine wl_val (v := .bool (lt p0_0 10)) (w' := w0) (by kernel_rfl) (run_lt (k := .i64) (a := p0_0) (b := 10) (by kernel_rfl) (by kernel_rfl)) ?_
  refine wl_nil ?_
  refine then_n ?_
  refine cw_cond (t := (lt p0_0 10)) (by kernel_rfl) (fun hc_1 => ?_) (fun hc_1 => ?_)
  · have hm := ite_t hm hc_1
    refine cw_seq ?_
    refine cw_region ?_
    refine wl_val (v := .int .i64 p0_0) (w' := w0) (by kernel_rfl) (run_move (v := .int .i64 p0_0) (by kernel_rfl)) ?_
    refine wl_val (v := .int .i64 p0_0) (w' := w0) (by kernel_rfl) (run_move (v := .int .i64 p0_0) (by kernel_rfl)) ?_
    refine wl_val (v := .int .i64 (add .i64 p0_0 1)) (w' := w0) (by kernel_rfl) (run_add (k := .i64) (a := p0_0) (b := 1) (by kernel_rfl) (by kernel_rfl)) ?_
    obtain ⟨s_1, h_1, hm⟩ := bind_e hm
    refine wl_val (v := .string ⟨⟨s_1⟩⟩) (w' := w0) (by kernel_rfl) (run_slice_str_lh (s := ([48, 49, 50, 51, 52, 53, 54, 55, 56, 57, 97, 98, 99, 100, 101, 102, 103, 104, 105, 106, 107, 108, 109, 110, 111, 112, 113, 114, 115, 116, 117, 118, 119, 120, 121, 122] : List UInt8)) (k := .i64) (i := p0_0) (k' := .i64) (j := (add .i64 p0_0 1)) Tryd.underlying9 (by kernel_rfl) (by kernel_rfl) (by kernel_rfl) h_1) ?_
    refine wl_val (v := .string ⟨⟨s_1⟩⟩) (w' := w0) (by kernel_rfl) (run_assign (v := .string ⟨⟨s_1⟩⟩) (by kernel_rfl)) ?_
    refine wl_nil ?_
    refine then_n ?_
    refine cw_ret ?_
    refine then_ret ?_
    obtain rfl := Option.some.inj hm
    exact ret1 (v := .string ⟨⟨s_1⟩⟩) rfl (resv_tmp (by kernel_rfl)) ⟨_, rfl, by kernel_rfl, hB⟩
  · have hm := ite_f hm hc_1
    refine cw_skip ?_
    refine then_n ?_
    refine cw_seq ?_
    refine cw_region ?_
    refine wl_val (v := .int .i64 p0_0) (w' := w0) (by kernel_rfl) (run_move (v := .int .i64 p0_0) (by kernel_rfl)) ?_
    refine wl_val (v := .int .i64 (mul .i64 p0_0 2)) (w' := w0) (by kernel_rfl) (run_mul (k := .i64) (a := p0_0) (b := 2) (by kernel_rfl) (by kernel_rfl)) ?_
    refine wl_val (v := .int .i64 p0_0) (w' := w0) (by kernel_rfl) (run_move (v := .int .i64 p0_0) (by kernel_rfl)) ?_
    refine wl_val (v := .int .i64 (mul .i64 p0_0 2)) (w' := w0) (by kernel_rfl) (run_mul (k := .i64) (a := p0_0) (b := 2) (by kernel_rfl) (by kernel_rfl)) ?_
    refine wl_val (v := .int .i64 (add .i64 (mul .i64 p0_0 2) 2)) (w' := w0) (by kernel_rfl) (run_add (k := .i64) (a := (mul .i64 p0_0 2)) (b := 2) (by kernel_rfl) (by kernel_rfl)) ?_
    obtain ⟨s_2, h_2, hm⟩ := bind_e hm
    refine wl_val (v := .string ⟨⟨s_2⟩⟩) (w' := w0) (by kernel_rfl) (run_slice_str_lh (s := ([48, 48, 48, 49, 48, 50, 48, 51, 48, 52, 48, 53, 48, 54, 48, 55, 48, 56, 48, 57, 49, 48, 49, 49, 49, 50, 49, 51, 49, 52, 49, 53, 49, 54, 49, 55, 49, 56, 49, 57, 50, 48, 50, 49, 50, 50, 50, 51, 50, 52, 50, 53, 50, 54, 50, 55, 50, 56, 50, 57, 51, 48, 51, 49, 51, 50, 51, 51, 51, 52, 51, 53, 51, 54, 51, 55, 51, 56, 51, 57, 52, 48, 52, 49, 52, 50, 52, 51, 52, 52, 52, 53, 52, 54, 52, 55, 52, 56, 52, 57, 53, 48, 53, 49, 53, 50, 53, 51, 53, 52, 53, 53, 53, 54, 53, 55, 53, 56, 53, 57, 54, 48, 54, 49, 54, 50, 54, 51, 54, 52, 54, 53, 54, 54, 54, 55, 54, 56, 54, 57, 55, 48, 55, 49, 55, 50, 55, 51, 55, 52, 55, 53, 55, 54, 55, 55, 55, 56, 55, 57, 56, 48, 56, 49, 56, 50, 56, 51, 56, 52, 56, 53, 56, 54, 56, 55, 56, 56, 56, 57, 57, 48, 57, 49, 57, 50, 57, 51, 57, 52, 57, 53, 57, 54, 57, 55, 57, 56, 57, 57] : List UInt8)) (k := .i64) (i := (mul .i64 p0_0 2)) (k' := .i64) (j := (add .i64 (mul .i64 p0_0 2) 2)) Tryd.underlying9 (by kernel_rfl) (by kernel_rfl) (by kernel_rfl) h_2) ?_
    refine wl_val (v := .string ⟨⟨s_2⟩⟩) (w' := w0) (by kernel_rfl) (run_assign (v := .string ⟨⟨s_2⟩⟩) (by kernel_rfl)) ?_
    refine wl_nil ?_
    refine then_n ?_
    refine cw_ret ?_
    obtain rfl := Option.some.inj hm
    exact ret1 (v := .string ⟨⟨s_2⟩⟩) rfl (resv_tmp (by kernel_rfl)) ⟨_, rfl, by kernel_rfl, hB⟩
end SxYtihfogahdofdmaaDoor

end

section
/- Written by program (gen.py): the model of internal/strconv.log10Pow2, and the proof that its code computes it. -/
namespace SxYtihfogahdofdmaaDoor
open Go Go.RowKit Sx Go.Proofs
set_option linter.unusedVariables false
set_option linter.unusedSimpArgs false
attribute [local irreducible] WL WX CW OW
/-! ### 88: "internal/strconv.log10Pow2" -/
def m88 (fuel : Nat) (p0_0 : Int) : Option Int :=
  some (shr .i64 (mul .i64 p0_0 78913) 18)
@[reducible] def Q88 (F : Lx) (w0 : World) (r : Int) (v : Value) (w' : World) : Prop := v = .int .i64 r ∧ Below w0.heap.size w0 w'
set_option maxRecDepth 100000 in
set_option maxHeartbeats 4000000 in
theorem f88_ok (fuel : Nat) (F : Lx) (w0 : World) (hF : ∀ k, some k ∈ F → k < w0.heap.size) {p0_0 : Int} {r : Int} (hm : m88 fuel p0_0 = some r) :
    Calls Tryd.prog 88 #[.int .i64 p0_0] w0 (fun e w' => ∃ v, e = .returned v ∧ Q88 F w0 r v w') := by
  have hPF : PF (bodyPost Tryd.prog Tryd.f88 (fun e w' => ∃ v, e = .returned v ∧ Q88 F w0 r v w')) := PF.body (fun c w h => by obtain ⟨v, e, _⟩ := h; cases e)
  have hL := LOk.start hF
  have hB := Below.refl w0.heap.size w0
  unfold m88 at hm
  refine enter (l := [.int .i64 p0_0, undef, undef, undef, undef, undef]) Tryd.func88 rfl Tryd.ntmps88 (by kernel_rfl) ?_
  refine cw_seq ?_
  refine cw_region ?_
  refine wl_val (v := .int .i64 0) (w' := w0) (by kernel_rfl) (run_assign (v := .int .i64 0) (by kernel_rfl)) ?_
  refine wl_nil ?_
  refine then_n ?_
  refine cw_seq ?_
  refine cw_region ?_
  refine wl_val (v := .int .i64 p0_0) (w' := w0) (by kernel_rfl) (run_move (v := .int .i64 p0_0) (by kernel_rfl)) ?_
  refine wl_val (v := .int .i64 (mul .i64 p0_0 78913)) (w' := w0) (by kernel_rfl) (run_mul (k := .i64) (a := p0_0) (b := 78913) (by kernel_rfl) (by kernel_rfl)) ?_
  refine wl_val (v := .int .i64 (shr .i64 (mul .i64 p0_0 78913) 18)) (w' := w0) (by kernel_rfl) (run_shr (k := .i64) (a := (mul .i64 p0_0 78913)) (k' := .u64) (b := 18) (by kernel_rfl) (by kernel_rfl) rfl) ?_
  refine wl_val (v := .int .i64 (shr .i64 (mul .i64 p0_0 78913) 18)) (w' := w0) (by kernel_rfl) (run_assign (v := .int .i64 (shr .i64 (mul .i64 p0_0 78913) 18)) (by kernel_rfl)) ?_
  refine wl_nil ?_
  refine then_n ?_
  refine cw_ret ?_
  obtain rfl := Option.some.inj hm
  exact ret1 (v := .int .i64 (shr .i64 (mul .i64 p0_0 78913) 18)) rfl (resv_tmp (by kernel_rfl)) ⟨_, rfl, by kernel_rfl, hB⟩
end SxYtihfogahdofdmaaDoor

end
