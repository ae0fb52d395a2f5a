/- Proved in the last of these 10 parts (this is part 5): UnitsWays answers true at every decimal, at every three units, and at every name. Conditions: those of the given statement, and no others. -/
import Derived.Test.YtihfogahdofdmaaDoorParta
import Derived.Test.YtihfogahdofdmaaDoorPartd
import Derived.Test.YtihfogahdofdmaaDoorPartb
set_option linter.unusedVariables false
set_option linter.unusedSimpArgs false
set_option linter.unusedSectionVars false
/- Written by program (gen.py): the model of internal/bytealg.IndexRabinKarp[string], and the proof that its code computes it. -/
namespace SxYtihfogahdofdmaaDoor
open Go Go.RowKit Sx Go.Proofs
set_option linter.unusedVariables false
set_option linter.unusedSimpArgs false
attribute [local irreducible] WL WX CW OW
/-! ### 84: "internal/bytealg.IndexRabinKarp[string]" -/
def m84_J3 (fuel : Nat) : Option Int :=
  some (-1)
def m84_J5 (fuel : Nat) (p1_0 : (List UInt8)) (i_3 : Int) (self_1 : ((Int × Int) → Option Int)) (x_23 : Int) (x_24 : Bool) : Option Int :=
  if x_24 then (some (sub .i64 (add .i64 i_3 1) (p1_0.length : Int))) else (self_1 (x_23, (add .i64 i_3 1)))
def m84_L4 (fuel : Nat) (p0_0 : (List UInt8)) (p1_0 : (List UInt8)) (r_1 : (Int × Int)) (self_1 : Int × Int → Option Int) : Int × Int → Option Int := fun (h_45, i_3) =>
  if (lt i_3 (p0_0.length : Int)) then ((at? p0_0 i_3).bind fun b_14 => (some (add .u32 (mul .u32 h_45 16777619) (cvt .u32 (b_14.toNat : Int)))).bind fun x_22 => (at? p0_0 (sub .i64 i_3 (p1_0.length : Int))).bind fun b_15 => (some (sub .u32 x_22 (mul .u32 r_1.2 (cvt .u32 (b_15.toNat : Int))))).bind fun x_23 => if (eqi x_23 r_1.1) then ((cut p0_0 (sub .i64 (add .i64 i_3 1) (p1_0.length : Int)) (add .i64 i_3 1)).bind fun s_8 => m84_J5 fuel p1_0 i_3 self_1 x_23 (eqs s_8 p1_0)) else (m84_J5 fuel p1_0 i_3 self_1 x_23 false)) else (m84_J3 fuel  )
def m84_J2 (fuel : Nat) (p0_0 : (List UInt8)) (p1_0 : (List UInt8)) (r_1 : (Int × Int)) (h_12 : Int) (x_4 : Bool) : Option Int :=
  if x_4 then (some 0) else (loopF (m84_L4 fuel p0_0 p1_0 r_1) fuel (h_12, (p1_0.length : Int)))
def m84_J1 (fuel : Nat) (p0_0 : (List UInt8)) (p1_0 : (List UInt8)) (r_1 : (Int × Int)) (h_12 : Int) : Option Int :=
  if (eqi h_12 r_1.1) then ((cut p0_0 0 (p1_0.length : Int)).bind fun s_9 => m84_J2 fuel p0_0 p1_0 r_1 h_12 (eqs s_9 p1_0)) else (m84_J2 fuel p0_0 p1_0 r_1 h_12 false)
def m84_L6 (fuel : Nat) (p0_0 : (List UInt8)) (p1_0 : (List UInt8)) (r_1 : (Int × Int)) (self_2 : Int × Int → Option Int) : Int × Int → Option Int := fun (h_65, i_4) =>
  if (lt i_4 (p1_0.length : Int)) then ((at? p0_0 i_4).bind fun b_18 => (some (add .u32 (mul .u32 h_65 16777619) (cvt .u32 (b_18.toNat : Int)))).bind fun x_27 => self_2 (x_27, (add .i64 i_4 1))) else (m84_J1 fuel p0_0 p1_0 r_1 h_65)
def m84 (fuel : Nat) (p0_0 : (List UInt8)) (p1_0 : (List UInt8)) : Option Int :=
  (m93 fuel p1_0).bind fun r_1 => loopF (m84_L6 fuel p0_0 p1_0 r_1) fuel (0, 0)
@[reducible] def Q84 (F : Lx) (w0 : World) (r : Int) (v : Value) (w' : World) : Prop := v = .int .i64 r ∧ Below w0.heap.size w0 w'
set_option maxRecDepth 100000 in
set_option maxHeartbeats 4000000 in
theorem f84_ok (fuel : Nat) (F : Lx) (w0 : World) (hF : ∀ k, some k ∈ F → k < w0.heap.size) {p0_0 : (List UInt8)} {p1_0 : (List UInt8)} {r : Int} (hm : m84 fuel p0_0 p1_0 = some r) :
    Calls Tryd.prog 84 #[.string ⟨⟨p0_0⟩⟩, .string ⟨⟨p1_0⟩⟩] w0 (fun e w' => ∃ v, e = .returned v ∧ Q84 F w0 r v w') := by
  have hPF : PF (bodyPost Tryd.prog Tryd.f84 (fun e w' => ∃ v, e = .returned v ∧ Q84 F w0 r v w')) := PF.body (fun c w h => by obtain ⟨v, e, _⟩ := h; cases e)
  have hL := LOk.start hF
  have hB := Below.refl w0.heap.size w0
  unfold m84 at hm
  refine enter (l := [.string ⟨⟨p0_0⟩⟩, .string ⟨⟨p1_0⟩⟩, undef, undef, undef, undef, undef, undef, undef, undef, undef, undef, undef, undef, undef, undef, undef, undef, undef, undef, undef, undef, undef, undef, undef, undef, undef, undef, undef, undef, undef, undef, undef, undef, undef, undef, undef, undef, undef, undef, undef, undef, undef, undef, undef, undef, undef, undef, undef, undef, undef, undef, undef, undef, undef, undef, undef, undef, undef, undef, undef, undef, undef, undef, undef, undef, undef, undef, undef, undef, undef, undef, undef, undef, undef, undef, undef, undef, undef, undef, undef]) Tryd.func84 rfl Tryd.ntmps84 (by kernel_rfl) ?_
  refine cw_seq ?_
  refine cw_region ?_
  refine wl_val (v := .int .i64 0) (w' := w0) (by kernel_rfl) (run_assign (v := .int .i64 0) (by kernel_rfl)) ?_
  refine wl_nil ?_
  refine then_n ?_
  refine cw_seq ?_
  refine cw_region ?_
  refine wl_val (v := .string ⟨⟨p1_0⟩⟩) (w' := w0) (by kernel_rfl) (run_move (v := .string ⟨⟨p1_0⟩⟩) (by kernel_rfl)) ?_
  obtain ⟨r_1, h_1, hm⟩ := bind_e hm
  refine wl_op (by kernel_rfl) (ow_enter (run_callf (vs := [.string ⟨⟨p1_0⟩⟩]) Tryd.func93 nm_93 (by kernel_rfl) (by kernel_rfl)) (f93_ok (p0_0 := p1_0) fuel _ w0 hL.lt  h_1) ?_)
  intro vR w_1 hR
  obtain ⟨rfl, hBe⟩ := hR
  have hS := Stp.call hL (Fz.of_below hBe [])
  replace hB := hS.below hL hB
  replace hL := hS.hL
  refine wl_val (v := .tuple #[.int .u32 r_1.1, .int .u32 r_1.2]) (w' := w_1) (by kernel_rfl) (run_move (v := .tuple #[.int .u32 r_1.1, .int .u32 r_1.2]) (by kernel_rfl)) ?_
  refine wl_val (v := .int .u32 r_1.1) (w' := w_1) (by kernel_rfl) (run_extract (vs := #[.int .u32 r_1.1, .int .u32 r_1.2]) (by kernel_rfl) (by kernel_rfl)) ?_
  refine wl_val (v := .int .u32 r_1.2) (w' := w_1) (by kernel_rfl) (run_extract (vs := #[.int .u32 r_1.1, .int .u32 r_1.2]) (by kernel_rfl) (by kernel_rfl)) ?_
  refine wl_val (v := .int .u32 r_1.1) (w' := w_1) (by kernel_rfl) (run_assign (v := .int .u32 r_1.1) (by kernel_rfl)) ?_
  refine wl_val (v := .int .u32 r_1.2) (w' := w_1) (by kernel_rfl) (run_assign (v := .int .u32 r_1.2) (by kernel_rfl)) ?_
  refine wl_nil ?_
  refine then_n ?_
  refine cw_seq ?_
  refine cw_region ?_
  refine wl_val (v := .string ⟨⟨p1_0⟩⟩) (w' := w_1) (by kernel_rfl) (run_move (v := .string ⟨⟨p1_0⟩⟩) (by kernel_rfl)) ?_
  refine wl_val (v := .int .i64 (p1_0.length : Int)) (w' := w_1) (by kernel_rfl) (run_len_str (s := p1_0) Tryd.underlying9 (by kernel_rfl)) ?_
  refine wl_val (v := .int .i64 (p1_0.length : Int)) (w' := w_1) (by kernel_rfl) (run_assign (v := .int .i64 (p1_0.length : Int)) (by kernel_rfl)) ?_
  refine wl_nil ?_
  refine then_n ?_
  refine cw_seq ?_
  refine cw_region ?_
  refine wl_val (v := .int .u32 0) (w' := w_1) (by kernel_rfl) (run_assign (v := .int .u32 0) (by kernel_rfl)) ?_
  refine wl_nil ?_
  refine then_n ?_
  refine cw_norm [.string ⟨⟨p0_0⟩⟩, .string ⟨⟨p1_0⟩⟩, undef, undef, .int .i64 0, .int .u32 r_1.1, .int .u32 r_1.2, .int .i64 (p1_0.length : Int), .int .u32 0, undef, undef, .tuple #[.int .u32 r_1.1, .int .u32 r_1.2], .string ⟨⟨p1_0⟩⟩, .tuple #[.int .u32 r_1.1, .int .u32 r_1.2], .int .u32 r_1.1, .int .u32 r_1.2, .string ⟨⟨p1_0⟩⟩, .int .i64 (p1_0.length : Int), undef, undef, undef, undef, undef, undef, undef, undef, undef, undef, undef, undef, undef, undef, undef, undef, undef, undef, undef, undef, undef, undef, undef, undef, undef, undef, undef, undef, undef, undef, undef, undef, undef, undef, undef, undef, undef, undef, undef, undef, undef, undef, undef, undef, undef, undef, undef, undef, undef, undef, undef, undef, undef, undef, undef, undef, undef, undef, undef, undef, undef, undef, undef] (by kernel_rfl) ?_
  refine cw_cut (fun l' w' => ∃ h_12, ∃ u_3 : Nat → Value, l' = [.string ⟨⟨p0_0⟩⟩, .string ⟨⟨p1_0⟩⟩, undef, undef, .int .i64 0, .int .u32 r_1.1, .int .u32 r_1.2, .int .i64 (p1_0.length : Int), .int .u32 h_12, (u_3 0), undef, .tuple #[.int .u32 r_1.1, .int .u32 r_1.2], .string ⟨⟨p1_0⟩⟩, .tuple #[.int .u32 r_1.1, .int .u32 r_1.2], .int .u32 r_1.1, .int .u32 r_1.2, .string ⟨⟨p1_0⟩⟩, .int .i64 (p1_0.length : Int), (u_3 1), (u_3 2), (u_3 3), (u_3 4), (u_3 5), (u_3 6), (u_3 7), (u_3 8), (u_3 9), (u_3 10), (u_3 11), (u_3 12), undef, undef, undef, undef, undef, undef, undef, undef, undef, undef, undef, undef, undef, undef, undef, undef, undef, undef, undef, undef, undef, undef, undef, undef, undef, undef, undef, undef, undef, undef, undef, undef, undef, undef, undef, undef, undef, undef, undef, undef, undef, undef, undef, undef, undef, undef, undef, undef, undef, undef, undef] ∧ LOk w0.heap.size [] F w' ∧ Below w0.heap.size w0 w' ∧ m84_J1 fuel p0_0 p1_0 r_1 h_12 = some r) ?_ ?_
  · refine cw_seq ?_
    refine cw_region ?_
    refine wl_val (v := .int .i64 0) (w' := w_1) (by kernel_rfl) (run_assign (v := .int .i64 0) (by kernel_rfl)) ?_
    refine wl_nil ?_
    refine then_n ?_
    refine cw_block ?_
    refine cw_loop (σ := Int × Int) (m84_L6 fuel p0_0 p1_0 r_1) r (fun s l' w' => ∃ u_17 : Nat → Value, l' = [.string ⟨⟨p0_0⟩⟩, .string ⟨⟨p1_0⟩⟩, undef, undef, .int .i64 0, .int .u32 r_1.1, .int .u32 r_1.2, .int .i64 (p1_0.length : Int), .int .u32 s.1, .int .i64 s.2, undef, .tuple #[.int .u32 r_1.1, .int .u32 r_1.2], .string ⟨⟨p1_0⟩⟩, .tuple #[.int .u32 r_1.1, .int .u32 r_1.2], .int .u32 r_1.1, .int .u32 r_1.2, .string ⟨⟨p1_0⟩⟩, .int .i64 (p1_0.length : Int), (u_17 0), (u_17 1), (u_17 2), (u_17 3), (u_17 4), (u_17 5), (u_17 6), (u_17 7), (u_17 8), (u_17 9), (u_17 10), (u_17 11), undef, undef, undef, undef, undef, undef, undef, undef, undef, undef, undef, undef, undef, undef, undef, undef, undef, undef, undef, undef, undef, undef, undef, undef, undef, undef, undef, undef, undef, undef, undef, undef, undef, undef, undef, undef, undef, undef, undef, undef, undef, undef, undef, undef, undef, undef, undef, undef, undef, undef, undef] ∧ LOk w0.heap.size [] F w' ∧ Below w0.heap.size w0 w') ?_ (s := (0, 0)) (n := fuel) ⟨(fun i => ([undef, undef, undef, undef, undef, undef, undef, undef, undef, undef, undef, undef] : List Value).getD i undef), by kernel_rfl, hL, hB⟩ hm
    intro self_2 s l1 w_7 hI hm
    obtain ⟨h_65, i_4⟩ := s
    try dsimp only at hI
    obtain ⟨u_17, rfl, hL, hB⟩ := hI
    unfold m84_L6 at hm
    refine cw_seq ?_
    refine cw_seq ?_
    refine cw_region ?_
    refine wl_val (v := .int .i64 i_4) (w' := w_7) (by kernel_rfl) (run_move (v := .int .i64 i_4) (by kernel_rfl)) ?_
    refine wl_val (v := .int .i64 (p1_0.length : Int)) (w' := w_7) (by kernel_rfl) (run_move (v := .int .i64 (p1_0.length : Int)) (by kernel_rfl)) ?_
    refine wl_val (v := .bool (lt i_4 (p1_0.length : Int))) (w' := w_7) (by kernel_rfl) (run_lt (k := .i64) (a := i_4) (b := (p1_0.length : Int)) (by kernel_rfl) (by kernel_rfl)) ?_
    refine wl_nil ?_
    refine then_n ?_
    refine cw_cond (t := (lt i_4 (p1_0.length : Int))) (by kernel_rfl) (fun hc_28 => ?_) (fun hc_28 => ?_)
    · have hm := ite_t hm hc_28
      refine cw_skip ?_
      refine then_n ?_
      refine cw_seq ?_
      refine cw_block ?_
      refine cw_region ?_
      refine wl_val (v := .int .u32 h_65) (w' := w_7) (by kernel_rfl) (run_move (v := .int .u32 h_65) (by kernel_rfl)) ?_
      refine wl_val (v := .int .u32 (mul .u32 h_65 16777619)) (w' := w_7) (by kernel_rfl) (run_mul (k := .u32) (a := h_65) (b := 16777619) (by kernel_rfl) (by kernel_rfl)) ?_
      refine wl_val (v := .string ⟨⟨p0_0⟩⟩) (w' := w_7) (by kernel_rfl) (run_move (v := .string ⟨⟨p0_0⟩⟩) (by kernel_rfl)) ?_
      refine wl_val (v := .int .i64 i_4) (w' := w_7) (by kernel_rfl) (run_move (v := .int .i64 i_4) (by kernel_rfl)) ?_
      obtain ⟨b_18, h_69, hm⟩ := bind_e hm
      obtain ⟨h_700, h_701, _⟩ := at_some h_69
      refine wl_val (v := .int .u8 (b_18.toNat : Int)) (w' := w_7) (by kernel_rfl) (run_index_str (s := p0_0) (k := .i64) (j := i_4) Tryd.underlying9 (by kernel_rfl) (by kernel_rfl) h_700 h_701) ?_
      refine wl_val (v := .int .u32 (cvt .u32 (b_18.toNat : Int))) (w' := w_7) (by kernel_rfl) (run_cvt (k := .u8) (a := (b_18.toNat : Int)) Tryd.underlying5 Tryd.underlying96 (by kernel_rfl)) ?_
      obtain ⟨x_27, h_71, hm⟩ := bind_e hm
      refine wl_val (v := .int .u32 x_27) (w' := w_7) (by kernel_rfl) (by rw [← Option.some.inj h_71]; exact run_add (k := .u32) (a := (mul .u32 h_65 16777619)) (b := (cvt .u32 (b_18.toNat : Int))) (by kernel_rfl) (by kernel_rfl)) ?_
      refine wl_val (v := .int .u32 x_27) (w' := w_7) (by kernel_rfl) (run_assign (v := .int .u32 x_27) (by kernel_rfl)) ?_
      refine wl_nil ?_
      refine inBlock_n ?_
      refine then_n ?_
      refine cw_norm [.string ⟨⟨p0_0⟩⟩, .string ⟨⟨p1_0⟩⟩, undef, undef, .int .i64 0, .int .u32 r_1.1, .int .u32 r_1.2, .int .i64 (p1_0.length : Int), .int .u32 x_27, .int .i64 i_4, undef, .tuple #[.int .u32 r_1.1, .int .u32 r_1.2], .string ⟨⟨p1_0⟩⟩, .tuple #[.int .u32 r_1.1, .int .u32 r_1.2], .int .u32 r_1.1, .int .u32 r_1.2, .string ⟨⟨p1_0⟩⟩, .int .i64 (p1_0.length : Int), .int .i64 i_4, .int .i64 (p1_0.length : Int), .bool (lt i_4 (p1_0.length : Int)), (u_17 3), (u_17 4), .int .u32 h_65, .int .u32 (mul .u32 h_65 16777619), .string ⟨⟨p0_0⟩⟩, .int .i64 i_4, .int .u8 (b_18.toNat : Int), .int .u32 (cvt .u32 (b_18.toNat : Int)), .int .u32 x_27, undef, undef, undef, undef, undef, undef, undef, undef, undef, undef, undef, undef, undef, undef, undef, undef, undef, undef, undef, undef, undef, undef, undef, undef, undef, undef, undef, undef, undef, undef, undef, undef, undef, undef, undef, undef, undef, undef, undef, undef, undef, undef, undef, undef, undef, undef, undef, undef, undef, undef, undef] (by kernel_rfl) ?_
      refine cw_region ?_
      refine wl_val (v := .int .i64 i_4) (w' := w_7) (by kernel_rfl) (run_move (v := .int .i64 i_4) (by kernel_rfl)) ?_
      refine wl_val (v := .int .i64 (add .i64 i_4 1)) (w' := w_7) (by kernel_rfl) (run_add (k := .i64) (a := i_4) (b := 1) (by kernel_rfl) (by kernel_rfl)) ?_
      refine wl_val (v := .int .i64 (add .i64 i_4 1)) (w' := w_7) (by kernel_rfl) (run_assign (v := .int .i64 (add .i64 i_4 1)) (by kernel_rfl)) ?_
      refine wl_nil ?_
      exact ⟨_, rfl, (x_27, (add .i64 i_4 1)), ⟨(fun i => ([.int .i64 i_4, .int .i64 (p1_0.length : Int), .bool (lt i_4 (p1_0.length : Int)), .int .i64 i_4, .int .i64 (add .i64 i_4 1), .int .u32 h_65, .int .u32 (mul .u32 h_65 16777619), .string ⟨⟨p0_0⟩⟩, .int .i64 i_4, .int .u8 (b_18.toNat : Int), .int .u32 (cvt .u32 (b_18.toNat : Int)), .int .u32 x_27] : List Value).getD i undef), by kernel_rfl, hL, hB⟩, hm⟩
    · have hm := ite_f hm hc_28
      refine cw_exit ?_
      refine then_exit ?_
      refine then_exit ?_
      refine inBlock_same ?_
      exact then_c ⟨h_65, (fun i => ([.int .i64 i_4, .int .i64 i_4, .int .i64 (p1_0.length : Int), .bool (lt i_4 (p1_0.length : Int)), (u_17 3), (u_17 4), (u_17 5), (u_17 6), (u_17 7), (u_17 8), (u_17 9), (u_17 10), (u_17 11)] : List Value).getD i undef), by kernel_rfl, hL, hB, hm⟩
  · intro l1 w_2 hI
    obtain ⟨h_12, u_3, rfl, hL, hB, hm⟩ := hI
    unfold m84_J1 at hm
    refine cw_seq ?_
    refine cw_cut (fun l' w' => ∃ x_4, ∃ u_4 : Nat → Value, l' = [.string ⟨⟨p0_0⟩⟩, .string ⟨⟨p1_0⟩⟩, undef, undef, .int .i64 0, .int .u32 r_1.1, .int .u32 r_1.2, .int .i64 (p1_0.length : Int), .int .u32 h_12, (u_3 0), undef, .tuple #[.int .u32 r_1.1, .int .u32 r_1.2], .string ⟨⟨p1_0⟩⟩, .tuple #[.int .u32 r_1.1, .int .u32 r_1.2], .int .u32 r_1.1, .int .u32 r_1.2, .string ⟨⟨p1_0⟩⟩, .int .i64 (p1_0.length : Int), (u_3 1), (u_3 2), (u_3 3), (u_3 4), (u_3 5), (u_3 6), (u_3 7), (u_3 8), (u_3 9), (u_3 10), (u_3 11), (u_3 12), (u_4 0), (u_4 1), (u_4 2), (u_4 3), (u_4 4), (u_4 5), (u_4 6), (u_4 7), (u_4 8), .bool x_4, undef, undef, undef, undef, undef, undef, undef, undef, undef, undef, undef, undef, undef, undef, undef, undef, undef, undef, undef, undef, undef, undef, undef, undef, undef, undef, undef, undef, undef, undef, undef, undef, undef, undef, undef, undef, undef, undef, undef, undef, undef] ∧ LOk w0.heap.size [] F w' ∧ Below w0.heap.size w0 w' ∧ m84_J2 fuel p0_0 p1_0 r_1 h_12 x_4 = some r) ?_ ?_
    · refine cw_region ?_
      refine wl_val (v := .int .u32 h_12) (w' := w_2) (by kernel_rfl) (run_move (v := .int .u32 h_12) (by kernel_rfl)) ?_
      refine wl_val (v := .int .u32 r_1.1) (w' := w_2) (by kernel_rfl) (run_move (v := .int .u32 r_1.1) (by kernel_rfl)) ?_
      refine wl_val (v := .bool (eqi h_12 r_1.1)) (w' := w_2) (by kernel_rfl) (run_eqi (k := .u32) (a := h_12) (b := r_1.1) (by kernel_rfl) (by kernel_rfl)) ?_
      refine wl_val (v := .bool (eqi h_12 r_1.1)) (w' := w_2) (by kernel_rfl) (run_move (v := .bool (eqi h_12 r_1.1)) (by kernel_rfl)) ?_
      rcases Bool.eq_false_or_eq_true (eqi h_12 r_1.1) with hc_25 | hc_25
      · have hm := ite_t hm hc_25
        refine wl_val (v := .string ⟨⟨p0_0⟩⟩) (w' := w_2) (wg (c := (eqi h_12 r_1.1)) (want := true) (by kernel_rfl) hc_25 rfl) (run_move (v := .string ⟨⟨p0_0⟩⟩) (by kernel_rfl)) ?_
        refine wl_val (v := .int .i64 (p1_0.length : Int)) (w' := w_2) (wg (c := (eqi h_12 r_1.1)) (want := true) (by kernel_rfl) hc_25 rfl) (run_move (v := .int .i64 (p1_0.length : Int)) (by kernel_rfl)) ?_
        obtain ⟨s_9, h_61, hm⟩ := bind_e hm
        refine wl_val (v := .string ⟨⟨s_9⟩⟩) (w' := w_2) (wg (c := (eqi h_12 r_1.1)) (want := true) (by kernel_rfl) hc_25 rfl) (run_slice_str_h (s := p0_0) (k := .i64) (j := (p1_0.length : Int)) Tryd.underlying9 (by kernel_rfl) (by kernel_rfl) h_61) ?_
        refine wl_val (v := .string ⟨⟨p1_0⟩⟩) (w' := w_2) (wg (c := (eqi h_12 r_1.1)) (want := true) (by kernel_rfl) hc_25 rfl) (run_move (v := .string ⟨⟨p1_0⟩⟩) (by kernel_rfl)) ?_
        refine wl_val (v := .bool (eqs s_9 p1_0)) (w' := w_2) (wg (c := (eqi h_12 r_1.1)) (want := true) (by kernel_rfl) hc_25 rfl) (run_eqs (a := s_9) (b := p1_0) (by kernel_rfl) (by kernel_rfl)) ?_
        refine wl_val (v := .bool (eqs s_9 p1_0)) (w' := w_2) (by kernel_rfl) (run_pick_t (v := .bool (eqs s_9 p1_0)) (tr2 (c := (eqi h_12 r_1.1)) (by kernel_rfl) hc_25) (by kernel_rfl)) ?_
        refine wl_nil ?_
        exact then_c ⟨(eqs s_9 p1_0), (fun i => ([.int .u32 h_12, .int .u32 r_1.1, .bool (eqi h_12 r_1.1), .bool (eqi h_12 r_1.1), .string ⟨⟨p0_0⟩⟩, .int .i64 (p1_0.length : Int), .string ⟨⟨s_9⟩⟩, .string ⟨⟨p1_0⟩⟩, .bool (eqs s_9 p1_0)] : List Value).getD i undef), by kernel_rfl, hL, hB, hm⟩
      · have hm := ite_f hm hc_25
        refine wl_not0 (wg (c := (eqi h_12 r_1.1)) (want := true) (by kernel_rfl) hc_25 rfl) (by kernel_rfl) ?_
        refine wl_not0 (wg (c := (eqi h_12 r_1.1)) (want := true) (by kernel_rfl) hc_25 rfl) (by kernel_rfl) ?_
        refine wl_not0 (wg (c := (eqi h_12 r_1.1)) (want := true) (by kernel_rfl) hc_25 rfl) (by kernel_rfl) ?_
        refine wl_not0 (wg (c := (eqi h_12 r_1.1)) (want := true) (by kernel_rfl) hc_25 rfl) (by kernel_rfl) ?_
        refine wl_not0 (wg (c := (eqi h_12 r_1.1)) (want := true) (by kernel_rfl) hc_25 rfl) (by kernel_rfl) ?_
        refine wl_val (v := .bool false) (w' := w_2) (by kernel_rfl) (run_pick_f (v := .bool false) (tr2 (c := (eqi h_12 r_1.1)) (by kernel_rfl) hc_25) (by kernel_rfl)) ?_
        refine wl_nil ?_
        exact then_c ⟨false, (fun i => ([.int .u32 h_12, .int .u32 r_1.1, .bool (eqi h_12 r_1.1), .bool (eqi h_12 r_1.1), undef, undef, undef, undef, undef] : List Value).getD i undef), by kernel_rfl, hL, hB, hm⟩
    · intro l1 w_3 hI
      obtain ⟨x_4, u_4, rfl, hL, hB, hm⟩ := hI
      unfold m84_J2 at hm
      refine cw_cond (t := x_4) (by kernel_rfl) (fun hc_5 => ?_) (fun hc_5 => ?_)
      · have hm := ite_t hm hc_5
        refine cw_seq ?_
        refine cw_region ?_
        refine wl_val (v := .int .i64 0) (w' := w_3) (by kernel_rfl) (run_assign (v := .int .i64 0) (by kernel_rfl)) ?_
        refine wl_nil ?_
        refine then_n ?_
        refine cw_ret ?_
        refine then_ret ?_
        obtain rfl := Option.some.inj hm
        exact ret1 (v := .int .i64 0) rfl (resv_tmp (by kernel_rfl)) ⟨_, rfl, by kernel_rfl, hB⟩
      · have hm := ite_f hm hc_5
        refine cw_skip ?_
        refine then_n ?_
        refine cw_cut (fun l' w' => ∃ u_10 : Nat → Value, l' = [.string ⟨⟨p0_0⟩⟩, .string ⟨⟨p1_0⟩⟩, undef, undef, (u_10 0), .int .u32 r_1.1, .int .u32 r_1.2, .int .i64 (p1_0.length : Int), (u_10 1), (u_3 0), (u_10 2), .tuple #[.int .u32 r_1.1, .int .u32 r_1.2], .string ⟨⟨p1_0⟩⟩, .tuple #[.int .u32 r_1.1, .int .u32 r_1.2], .int .u32 r_1.1, .int .u32 r_1.2, .string ⟨⟨p1_0⟩⟩, .int .i64 (p1_0.length : Int), (u_3 1), (u_3 2), (u_3 3), (u_3 4), (u_3 5), (u_3 6), (u_3 7), (u_3 8), (u_3 9), (u_3 10), (u_3 11), (u_3 12), (u_4 0), (u_4 1), (u_4 2), (u_4 3), (u_4 4), (u_4 5), (u_4 6), (u_4 7), (u_4 8), .bool x_4, (u_10 3), (u_10 4), (u_10 5), (u_10 6), (u_10 7), (u_10 8), (u_10 9), (u_10 10), (u_10 11), (u_10 12), (u_10 13), (u_10 14), (u_10 15), (u_10 16), (u_10 17), (u_10 18), (u_10 19), (u_10 20), (u_10 21), (u_10 22), (u_10 23), (u_10 24), (u_10 25), (u_10 26), (u_10 27), (u_10 28), (u_10 29), (u_10 30), (u_10 31), (u_10 32), (u_10 33), (u_10 34), (u_10 35), (u_10 36), (u_10 37), (u_10 38), (u_10 39), (u_10 40), (u_10 41), (u_10 42), (u_10 43)] ∧ LOk w0.heap.size [] F w' ∧ Below w0.heap.size w0 w' ∧ m84_J3 fuel  = some r) ?_ ?_
        · refine cw_seq ?_
          refine cw_region ?_
          refine wl_val (v := .int .i64 (p1_0.length : Int)) (w' := w_3) (by kernel_rfl) (run_move (v := .int .i64 (p1_0.length : Int)) (by kernel_rfl)) ?_
          refine wl_val (v := .int .i64 (p1_0.length : Int)) (w' := w_3) (by kernel_rfl) (run_assign (v := .int .i64 (p1_0.length : Int)) (by kernel_rfl)) ?_
          refine wl_nil ?_
          refine then_n ?_
          refine cw_block ?_
          refine cw_loop (σ := Int × Int) (m84_L4 fuel p0_0 p1_0 r_1) r (fun s l' w' => ∃ u_13 : Nat → Value, l' = [.string ⟨⟨p0_0⟩⟩, .string ⟨⟨p1_0⟩⟩, undef, undef, (u_13 0), .int .u32 r_1.1, .int .u32 r_1.2, .int .i64 (p1_0.length : Int), .int .u32 s.1, (u_3 0), .int .i64 s.2, .tuple #[.int .u32 r_1.1, .int .u32 r_1.2], .string ⟨⟨p1_0⟩⟩, .tuple #[.int .u32 r_1.1, .int .u32 r_1.2], .int .u32 r_1.1, .int .u32 r_1.2, .string ⟨⟨p1_0⟩⟩, .int .i64 (p1_0.length : Int), (u_3 1), (u_3 2), (u_3 3), (u_3 4), (u_3 5), (u_3 6), (u_3 7), (u_3 8), (u_3 9), (u_3 10), (u_3 11), (u_3 12), (u_4 0), (u_4 1), (u_4 2), (u_4 3), (u_4 4), (u_4 5), (u_4 6), (u_4 7), (u_4 8), .bool x_4, .int .i64 (p1_0.length : Int), (u_13 1), (u_13 2), (u_13 3), (u_13 4), (u_13 5), (u_13 6), (u_13 7), (u_13 8), (u_13 9), (u_13 10), (u_13 11), (u_13 12), (u_13 13), (u_13 14), (u_13 15), (u_13 16), (u_13 17), (u_13 18), (u_13 19), (u_13 20), (u_13 21), (u_13 22), (u_13 23), (u_13 24), (u_13 25), (u_13 26), (u_13 27), (u_13 28), (u_13 29), (u_13 30), (u_13 31), (u_13 32), (u_13 33), (u_13 34), (u_13 35), (u_13 36), (u_13 37), (u_13 38), (u_13 39), (u_13 40)] ∧ LOk w0.heap.size [] F w' ∧ Below w0.heap.size w0 w') ?_ (s := (h_12, (p1_0.length : Int))) (n := fuel) ⟨(fun i => ([.int .i64 0, undef, undef, undef, undef, undef, undef, undef, undef, undef, undef, undef, undef, undef, undef, undef, undef, undef, undef, undef, undef, undef, undef, undef, undef, undef, undef, undef, undef, undef, undef, undef, undef, undef, undef, undef, undef, undef, undef, undef, undef] : List Value).getD i undef), by kernel_rfl, hL, hB⟩ hm
          intro self_1 s l1 w_5 hI hm
          obtain ⟨h_45, i_3⟩ := s
          try dsimp only at hI
          obtain ⟨u_13, rfl, hL, hB⟩ := hI
          unfold m84_L4 at hm
          refine cw_seq ?_
          refine cw_seq ?_
          refine cw_region ?_
          refine wl_val (v := .int .i64 i_3) (w' := w_5) (by kernel_rfl) (run_move (v := .int .i64 i_3) (by kernel_rfl)) ?_
          refine wl_val (v := .string ⟨⟨p0_0⟩⟩) (w' := w_5) (by kernel_rfl) (run_move (v := .string ⟨⟨p0_0⟩⟩) (by kernel_rfl)) ?_
          refine wl_val (v := .int .i64 (p0_0.length : Int)) (w' := w_5) (by kernel_rfl) (run_len_str (s := p0_0) Tryd.underlying9 (by kernel_rfl)) ?_
          refine wl_val (v := .bool (lt i_3 (p0_0.length : Int))) (w' := w_5) (by kernel_rfl) (run_lt (k := .i64) (a := i_3) (b := (p0_0.length : Int)) (by kernel_rfl) (by kernel_rfl)) ?_
          refine wl_nil ?_
          refine then_n ?_
          refine cw_cond (t := (lt i_3 (p0_0.length : Int))) (by kernel_rfl) (fun hc_21 => ?_) (fun hc_21 => ?_)
          · have hm := ite_t hm hc_21
            refine cw_skip ?_
            refine then_n ?_
            refine cw_block ?_
            refine cw_seq ?_
            refine cw_region ?_
            refine wl_val (v := .int .u32 h_45) (w' := w_5) (by kernel_rfl) (run_move (v := .int .u32 h_45) (by kernel_rfl)) ?_
            refine wl_val (v := .int .u32 (mul .u32 h_45 16777619)) (w' := w_5) (by kernel_rfl) (run_mul (k := .u32) (a := h_45) (b := 16777619) (by kernel_rfl) (by kernel_rfl)) ?_
            refine wl_val (v := .int .u32 (mul .u32 h_45 16777619)) (w' := w_5) (by kernel_rfl) (run_assign (v := .int .u32 (mul .u32 h_45 16777619)) (by kernel_rfl)) ?_
            refine wl_nil ?_
            refine then_n ?_
            refine cw_seq ?_
            refine cw_region ?_
            refine wl_val (v := .int .u32 (mul .u32 h_45 16777619)) (w' := w_5) (by kernel_rfl) (run_move (v := .int .u32 (mul .u32 h_45 16777619)) (by kernel_rfl)) ?_
            refine wl_val (v := .string ⟨⟨p0_0⟩⟩) (w' := w_5) (by kernel_rfl) (run_move (v := .string ⟨⟨p0_0⟩⟩) (by kernel_rfl)) ?_
            refine wl_val (v := .int .i64 i_3) (w' := w_5) (by kernel_rfl) (run_move (v := .int .i64 i_3) (by kernel_rfl)) ?_
            obtain ⟨b_14, h_53, hm⟩ := bind_e hm
            obtain ⟨h_540, h_541, _⟩ := at_some h_53
            refine wl_val (v := .int .u8 (b_14.toNat : Int)) (w' := w_5) (by kernel_rfl) (run_index_str (s := p0_0) (k := .i64) (j := i_3) Tryd.underlying9 (by kernel_rfl) (by kernel_rfl) h_540 h_541) ?_
            refine wl_val (v := .int .u32 (cvt .u32 (b_14.toNat : Int))) (w' := w_5) (by kernel_rfl) (run_cvt (k := .u8) (a := (b_14.toNat : Int)) Tryd.underlying5 Tryd.underlying96 (by kernel_rfl)) ?_
            obtain ⟨x_22, h_55, hm⟩ := bind_e hm
            refine wl_val (v := .int .u32 x_22) (w' := w_5) (by kernel_rfl) (by rw [← Option.some.inj h_55]; exact run_add (k := .u32) (a := (mul .u32 h_45 16777619)) (b := (cvt .u32 (b_14.toNat : Int))) (by kernel_rfl) (by kernel_rfl)) ?_
            refine wl_val (v := .int .u32 x_22) (w' := w_5) (by kernel_rfl) (run_assign (v := .int .u32 x_22) (by kernel_rfl)) ?_
            refine wl_nil ?_
            refine then_n ?_
            refine cw_norm [.string ⟨⟨p0_0⟩⟩, .string ⟨⟨p1_0⟩⟩, undef, undef, (u_13 0), .int .u32 r_1.1, .int .u32 r_1.2, .int .i64 (p1_0.length : Int), .int .u32 x_22, (u_3 0), .int .i64 i_3, .tuple #[.int .u32 r_1.1, .int .u32 r_1.2], .string ⟨⟨p1_0⟩⟩, .tuple #[.int .u32 r_1.1, .int .u32 r_1.2], .int .u32 r_1.1, .int .u32 r_1.2, .string ⟨⟨p1_0⟩⟩, .int .i64 (p1_0.length : Int), (u_3 1), (u_3 2), (u_3 3), (u_3 4), (u_3 5), (u_3 6), (u_3 7), (u_3 8), (u_3 9), (u_3 10), (u_3 11), (u_3 12), (u_4 0), (u_4 1), (u_4 2), (u_4 3), (u_4 4), (u_4 5), (u_4 6), (u_4 7), (u_4 8), .bool x_4, .int .i64 (p1_0.length : Int), .int .i64 i_3, .string ⟨⟨p0_0⟩⟩, .int .i64 (p0_0.length : Int), .bool (lt i_3 (p0_0.length : Int)), .int .u32 h_45, .int .u32 (mul .u32 h_45 16777619), .int .u32 (mul .u32 h_45 16777619), .string ⟨⟨p0_0⟩⟩, .int .i64 i_3, .int .u8 (b_14.toNat : Int), .int .u32 (cvt .u32 (b_14.toNat : Int)), .int .u32 x_22, (u_13 13), (u_13 14), (u_13 15), (u_13 16), (u_13 17), (u_13 18), (u_13 19), (u_13 20), (u_13 21), (u_13 22), (u_13 23), (u_13 24), (u_13 25), (u_13 26), (u_13 27), (u_13 28), (u_13 29), (u_13 30), (u_13 31), (u_13 32), (u_13 33), (u_13 34), (u_13 35), (u_13 36), (u_13 37), (u_13 38), (u_13 39), (u_13 40)] (by kernel_rfl) ?_
            refine cw_seq ?_
            refine cw_region ?_
            refine wl_val (v := .int .u32 x_22) (w' := w_5) (by kernel_rfl) (run_move (v := .int .u32 x_22) (by kernel_rfl)) ?_
            refine wl_val (v := .int .u32 r_1.2) (w' := w_5) (by kernel_rfl) (run_move (v := .int .u32 r_1.2) (by kernel_rfl)) ?_
            refine wl_val (v := .string ⟨⟨p0_0⟩⟩) (w' := w_5) (by kernel_rfl) (run_move (v := .string ⟨⟨p0_0⟩⟩) (by kernel_rfl)) ?_
            refine wl_val (v := .int .i64 i_3) (w' := w_5) (by kernel_rfl) (run_move (v := .int .i64 i_3) (by kernel_rfl)) ?_
            refine wl_val (v := .int .i64 (p1_0.length : Int)) (w' := w_5) (by kernel_rfl) (run_move (v := .int .i64 (p1_0.length : Int)) (by kernel_rfl)) ?_
            refine wl_val (v := .int .i64 (sub .i64 i_3 (p1_0.length : Int))) (w' := w_5) (by kernel_rfl) (run_sub (k := .i64) (a := i_3) (b := (p1_0.length : Int)) (by kernel_rfl) (by kernel_rfl)) ?_
            obtain ⟨b_15, h_56, hm⟩ := bind_e hm
            obtain ⟨h_570, h_571, _⟩ := at_some h_56
            refine wl_val (v := .int .u8 (b_15.toNat : Int)) (w' := w_5) (by kernel_rfl) (run_index_str (s := p0_0) (k := .i64) (j := (sub .i64 i_3 (p1_0.length : Int))) Tryd.underlying9 (by kernel_rfl) (by kernel_rfl) h_570 h_571) ?_
            refine wl_val (v := .int .u32 (cvt .u32 (b_15.toNat : Int))) (w' := w_5) (by kernel_rfl) (run_cvt (k := .u8) (a := (b_15.toNat : Int)) Tryd.underlying5 Tryd.underlying96 (by kernel_rfl)) ?_
            refine wl_val (v := .int .u32 (mul .u32 r_1.2 (cvt .u32 (b_15.toNat : Int)))) (w' := w_5) (by kernel_rfl) (run_mul (k := .u32) (a := r_1.2) (b := (cvt .u32 (b_15.toNat : Int))) (by kernel_rfl) (by kernel_rfl)) ?_
            obtain ⟨x_23, h_58, hm⟩ := bind_e hm
            refine wl_val (v := .int .u32 x_23) (w' := w_5) (by kernel_rfl) (by rw [← Option.some.inj h_58]; exact run_sub (k := .u32) (a := x_22) (b := (mul .u32 r_1.2 (cvt .u32 (b_15.toNat : Int)))) (by kernel_rfl) (by kernel_rfl)) ?_
            refine wl_val (v := .int .u32 x_23) (w' := w_5) (by kernel_rfl) (run_assign (v := .int .u32 x_23) (by kernel_rfl)) ?_
            refine wl_nil ?_
            refine then_n ?_
            refine cw_norm [.string ⟨⟨p0_0⟩⟩, .string ⟨⟨p1_0⟩⟩, undef, undef, (u_13 0), .int .u32 r_1.1, .int .u32 r_1.2, .int .i64 (p1_0.length : Int), .int .u32 x_23, (u_3 0), .int .i64 i_3, .tuple #[.int .u32 r_1.1, .int .u32 r_1.2], .string ⟨⟨p1_0⟩⟩, .tuple #[.int .u32 r_1.1, .int .u32 r_1.2], .int .u32 r_1.1, .int .u32 r_1.2, .string ⟨⟨p1_0⟩⟩, .int .i64 (p1_0.length : Int), (u_3 1), (u_3 2), (u_3 3), (u_3 4), (u_3 5), (u_3 6), (u_3 7), (u_3 8), (u_3 9), (u_3 10), (u_3 11), (u_3 12), (u_4 0), (u_4 1), (u_4 2), (u_4 3), (u_4 4), (u_4 5), (u_4 6), (u_4 7), (u_4 8), .bool x_4, .int .i64 (p1_0.length : Int), .int .i64 i_3, .string ⟨⟨p0_0⟩⟩, .int .i64 (p0_0.length : Int), .bool (lt i_3 (p0_0.length : Int)), .int .u32 h_45, .int .u32 (mul .u32 h_45 16777619), .int .u32 (mul .u32 h_45 16777619), .string ⟨⟨p0_0⟩⟩, .int .i64 i_3, .int .u8 (b_14.toNat : Int), .int .u32 (cvt .u32 (b_14.toNat : Int)), .int .u32 x_22, .int .u32 x_22, .int .u32 r_1.2, .string ⟨⟨p0_0⟩⟩, .int .i64 i_3, .int .i64 (p1_0.length : Int), .int .i64 (sub .i64 i_3 (p1_0.length : Int)), .int .u8 (b_15.toNat : Int), .int .u32 (cvt .u32 (b_15.toNat : Int)), .int .u32 (mul .u32 r_1.2 (cvt .u32 (b_15.toNat : Int))), .int .u32 x_23, (u_13 23), (u_13 24), (u_13 25), (u_13 26), (u_13 27), (u_13 28), (u_13 29), (u_13 30), (u_13 31), (u_13 32), (u_13 33), (u_13 34), (u_13 35), (u_13 36), (u_13 37), (u_13 38), (u_13 39), (u_13 40)] (by kernel_rfl) ?_
            refine cw_seq ?_
            refine cw_region ?_
            refine wl_val (v := .int .i64 i_3) (w' := w_5) (by kernel_rfl) (run_move (v := .int .i64 i_3) (by kernel_rfl)) ?_
            refine wl_val (v := .int .i64 (add .i64 i_3 1)) (w' := w_5) (by kernel_rfl) (run_add (k := .i64) (a := i_3) (b := 1) (by kernel_rfl) (by kernel_rfl)) ?_
            refine wl_val (v := .int .i64 (add .i64 i_3 1)) (w' := w_5) (by kernel_rfl) (run_assign (v := .int .i64 (add .i64 i_3 1)) (by kernel_rfl)) ?_
            refine wl_nil ?_
            refine then_n ?_
            refine cw_cut (fun l' w' => ∃ x_24, ∃ u_15 : Nat → Value, l' = [.string ⟨⟨p0_0⟩⟩, .string ⟨⟨p1_0⟩⟩, undef, undef, (u_13 0), .int .u32 r_1.1, .int .u32 r_1.2, .int .i64 (p1_0.length : Int), .int .u32 x_23, (u_3 0), .int .i64 (add .i64 i_3 1), .tuple #[.int .u32 r_1.1, .int .u32 r_1.2], .string ⟨⟨p1_0⟩⟩, .tuple #[.int .u32 r_1.1, .int .u32 r_1.2], .int .u32 r_1.1, .int .u32 r_1.2, .string ⟨⟨p1_0⟩⟩, .int .i64 (p1_0.length : Int), (u_3 1), (u_3 2), (u_3 3), (u_3 4), (u_3 5), (u_3 6), (u_3 7), (u_3 8), (u_3 9), (u_3 10), (u_3 11), (u_3 12), (u_4 0), (u_4 1), (u_4 2), (u_4 3), (u_4 4), (u_4 5), (u_4 6), (u_4 7), (u_4 8), .bool x_4, .int .i64 (p1_0.length : Int), .int .i64 i_3, .string ⟨⟨p0_0⟩⟩, .int .i64 (p0_0.length : Int), .bool (lt i_3 (p0_0.length : Int)), .int .u32 h_45, .int .u32 (mul .u32 h_45 16777619), .int .u32 (mul .u32 h_45 16777619), .string ⟨⟨p0_0⟩⟩, .int .i64 i_3, .int .u8 (b_14.toNat : Int), .int .u32 (cvt .u32 (b_14.toNat : Int)), .int .u32 x_22, .int .u32 x_22, .int .u32 r_1.2, .string ⟨⟨p0_0⟩⟩, .int .i64 i_3, .int .i64 (p1_0.length : Int), .int .i64 (sub .i64 i_3 (p1_0.length : Int)), .int .u8 (b_15.toNat : Int), .int .u32 (cvt .u32 (b_15.toNat : Int)), .int .u32 (mul .u32 r_1.2 (cvt .u32 (b_15.toNat : Int))), .int .u32 x_23, .int .i64 i_3, .int .i64 (add .i64 i_3 1), (u_15 0), (u_15 1), (u_15 2), (u_15 3), (u_15 4), (u_15 5), (u_15 6), (u_15 7), (u_15 8), (u_15 9), (u_15 10), (u_15 11), .bool x_24, (u_13 38), (u_13 39), (u_13 40)] ∧ LOk w0.heap.size [] F w' ∧ Below w0.heap.size w0 w' ∧ m84_J5 fuel p1_0 i_3 self_1 x_23 x_24 = some r) ?_ ?_
            · refine cw_region ?_
              refine wl_val (v := .int .u32 x_23) (w' := w_5) (by kernel_rfl) (run_move (v := .int .u32 x_23) (by kernel_rfl)) ?_
              refine wl_val (v := .int .u32 r_1.1) (w' := w_5) (by kernel_rfl) (run_move (v := .int .u32 r_1.1) (by kernel_rfl)) ?_
              refine wl_val (v := .bool (eqi x_23 r_1.1)) (w' := w_5) (by kernel_rfl) (run_eqi (k := .u32) (a := x_23) (b := r_1.1) (by kernel_rfl) (by kernel_rfl)) ?_
              refine wl_val (v := .bool (eqi x_23 r_1.1)) (w' := w_5) (by kernel_rfl) (run_move (v := .bool (eqi x_23 r_1.1)) (by kernel_rfl)) ?_
              rcases Bool.eq_false_or_eq_true (eqi x_23 r_1.1) with hc_24 | hc_24
              · have hm := ite_t hm hc_24
                refine wl_val (v := .string ⟨⟨p0_0⟩⟩) (w' := w_5) (wg (c := (eqi x_23 r_1.1)) (want := true) (by kernel_rfl) hc_24 rfl) (run_move (v := .string ⟨⟨p0_0⟩⟩) (by kernel_rfl)) ?_
                refine wl_val (v := .int .i64 (add .i64 i_3 1)) (w' := w_5) (wg (c := (eqi x_23 r_1.1)) (want := true) (by kernel_rfl) hc_24 rfl) (run_move (v := .int .i64 (add .i64 i_3 1)) (by kernel_rfl)) ?_
                refine wl_norm [.string ⟨⟨p0_0⟩⟩, .string ⟨⟨p1_0⟩⟩, undef, undef, (u_13 0), .int .u32 r_1.1, .int .u32 r_1.2, .int .i64 (p1_0.length : Int), .int .u32 x_23, (u_3 0), .int .i64 (add .i64 i_3 1), .tuple #[.int .u32 r_1.1, .int .u32 r_1.2], .string ⟨⟨p1_0⟩⟩, .tuple #[.int .u32 r_1.1, .int .u32 r_1.2], .int .u32 r_1.1, .int .u32 r_1.2, .string ⟨⟨p1_0⟩⟩, .int .i64 (p1_0.length : Int), (u_3 1), (u_3 2), (u_3 3), (u_3 4), (u_3 5), (u_3 6), (u_3 7), (u_3 8), (u_3 9), (u_3 10), (u_3 11), (u_3 12), (u_4 0), (u_4 1), (u_4 2), (u_4 3), (u_4 4), (u_4 5), (u_4 6), (u_4 7), (u_4 8), .bool x_4, .int .i64 (p1_0.length : Int), .int .i64 i_3, .string ⟨⟨p0_0⟩⟩, .int .i64 (p0_0.length : Int), .bool (lt i_3 (p0_0.length : Int)), .int .u32 h_45, .int .u32 (mul .u32 h_45 16777619), .int .u32 (mul .u32 h_45 16777619), .string ⟨⟨p0_0⟩⟩, .int .i64 i_3, .int .u8 (b_14.toNat : Int), .int .u32 (cvt .u32 (b_14.toNat : Int)), .int .u32 x_22, .int .u32 x_22, .int .u32 r_1.2, .string ⟨⟨p0_0⟩⟩, .int .i64 i_3, .int .i64 (p1_0.length : Int), .int .i64 (sub .i64 i_3 (p1_0.length : Int)), .int .u8 (b_15.toNat : Int), .int .u32 (cvt .u32 (b_15.toNat : Int)), .int .u32 (mul .u32 r_1.2 (cvt .u32 (b_15.toNat : Int))), .int .u32 x_23, .int .i64 i_3, .int .i64 (add .i64 i_3 1), .int .u32 x_23, .int .u32 r_1.1, .bool (eqi x_23 r_1.1), .bool (eqi x_23 r_1.1), .string ⟨⟨p0_0⟩⟩, .int .i64 (add .i64 i_3 1), (u_13 31), (u_13 32), (u_13 33), (u_13 34), (u_13 35), (u_13 36), (u_13 37), (u_13 38), (u_13 39), (u_13 40)] (by kernel_rfl) ?_
                refine wl_val (v := .int .i64 (p1_0.length : Int)) (w' := w_5) (wg (c := (eqi x_23 r_1.1)) (want := true) (by kernel_rfl) hc_24 rfl) (run_move (v := .int .i64 (p1_0.length : Int)) (by kernel_rfl)) ?_
                refine wl_val (v := .int .i64 (sub .i64 (add .i64 i_3 1) (p1_0.length : Int))) (w' := w_5) (wg (c := (eqi x_23 r_1.1)) (want := true) (by kernel_rfl) hc_24 rfl) (run_sub (k := .i64) (a := (add .i64 i_3 1)) (b := (p1_0.length : Int)) (by kernel_rfl) (by kernel_rfl)) ?_
                refine wl_val (v := .int .i64 (add .i64 i_3 1)) (w' := w_5) (wg (c := (eqi x_23 r_1.1)) (want := true) (by kernel_rfl) hc_24 rfl) (run_move (v := .int .i64 (add .i64 i_3 1)) (by kernel_rfl)) ?_
                obtain ⟨s_8, h_60, hm⟩ := bind_e hm
                refine wl_val (v := .string ⟨⟨s_8⟩⟩) (w' := w_5) (wg (c := (eqi x_23 r_1.1)) (want := true) (by kernel_rfl) hc_24 rfl) (run_slice_str_lh (s := p0_0) (k := .i64) (i := (sub .i64 (add .i64 i_3 1) (p1_0.length : Int))) (k' := .i64) (j := (add .i64 i_3 1)) Tryd.underlying9 (by kernel_rfl) (by kernel_rfl) (by kernel_rfl) h_60) ?_
                refine wl_val (v := .string ⟨⟨p1_0⟩⟩) (w' := w_5) (wg (c := (eqi x_23 r_1.1)) (want := true) (by kernel_rfl) hc_24 rfl) (run_move (v := .string ⟨⟨p1_0⟩⟩) (by kernel_rfl)) ?_
                refine wl_val (v := .bool (eqs s_8 p1_0)) (w' := w_5) (wg (c := (eqi x_23 r_1.1)) (want := true) (by kernel_rfl) hc_24 rfl) (run_eqs (a := s_8) (b := p1_0) (by kernel_rfl) (by kernel_rfl)) ?_
                refine wl_val (v := .bool (eqs s_8 p1_0)) (w' := w_5) (by kernel_rfl) (run_pick_t (v := .bool (eqs s_8 p1_0)) (tr2 (c := (eqi x_23 r_1.1)) (by kernel_rfl) hc_24) (by kernel_rfl)) ?_
                refine wl_nil ?_
                exact then_c ⟨(eqs s_8 p1_0), (fun i => ([.int .u32 x_23, .int .u32 r_1.1, .bool (eqi x_23 r_1.1), .bool (eqi x_23 r_1.1), .string ⟨⟨p0_0⟩⟩, .int .i64 (add .i64 i_3 1), .int .i64 (p1_0.length : Int), .int .i64 (sub .i64 (add .i64 i_3 1) (p1_0.length : Int)), .int .i64 (add .i64 i_3 1), .string ⟨⟨s_8⟩⟩, .string ⟨⟨p1_0⟩⟩, .bool (eqs s_8 p1_0)] : List Value).getD i undef), by kernel_rfl, hL, hB, hm⟩
              · have hm := ite_f hm hc_24
                refine wl_not (wg (c := (eqi x_23 r_1.1)) (want := true) (by kernel_rfl) hc_24 rfl) ?_
                refine wl_not (wg (c := (eqi x_23 r_1.1)) (want := true) (by kernel_rfl) hc_24 rfl) ?_
                refine wl_norm [.string ⟨⟨p0_0⟩⟩, .string ⟨⟨p1_0⟩⟩, undef, undef, (u_13 0), .int .u32 r_1.1, .int .u32 r_1.2, .int .i64 (p1_0.length : Int), .int .u32 x_23, (u_3 0), .int .i64 (add .i64 i_3 1), .tuple #[.int .u32 r_1.1, .int .u32 r_1.2], .string ⟨⟨p1_0⟩⟩, .tuple #[.int .u32 r_1.1, .int .u32 r_1.2], .int .u32 r_1.1, .int .u32 r_1.2, .string ⟨⟨p1_0⟩⟩, .int .i64 (p1_0.length : Int), (u_3 1), (u_3 2), (u_3 3), (u_3 4), (u_3 5), (u_3 6), (u_3 7), (u_3 8), (u_3 9), (u_3 10), (u_3 11), (u_3 12), (u_4 0), (u_4 1), (u_4 2), (u_4 3), (u_4 4), (u_4 5), (u_4 6), (u_4 7), (u_4 8), .bool x_4, .int .i64 (p1_0.length : Int), .int .i64 i_3, .string ⟨⟨p0_0⟩⟩, .int .i64 (p0_0.length : Int), .bool (lt i_3 (p0_0.length : Int)), .int .u32 h_45, .int .u32 (mul .u32 h_45 16777619), .int .u32 (mul .u32 h_45 16777619), .string ⟨⟨p0_0⟩⟩, .int .i64 i_3, .int .u8 (b_14.toNat : Int), .int .u32 (cvt .u32 (b_14.toNat : Int)), .int .u32 x_22, .int .u32 x_22, .int .u32 r_1.2, .string ⟨⟨p0_0⟩⟩, .int .i64 i_3, .int .i64 (p1_0.length : Int), .int .i64 (sub .i64 i_3 (p1_0.length : Int)), .int .u8 (b_15.toNat : Int), .int .u32 (cvt .u32 (b_15.toNat : Int)), .int .u32 (mul .u32 r_1.2 (cvt .u32 (b_15.toNat : Int))), .int .u32 x_23, .int .i64 i_3, .int .i64 (add .i64 i_3 1), .int .u32 x_23, .int .u32 r_1.1, .bool (eqi x_23 r_1.1), .bool (eqi x_23 r_1.1), undef, undef, (u_13 31), (u_13 32), (u_13 33), (u_13 34), (u_13 35), (u_13 36), (u_13 37), (u_13 38), (u_13 39), (u_13 40)] (by kernel_rfl) ?_
                refine wl_not (wg (c := (eqi x_23 r_1.1)) (want := true) (by kernel_rfl) hc_24 rfl) ?_
                refine wl_not (wg (c := (eqi x_23 r_1.1)) (want := true) (by kernel_rfl) hc_24 rfl) ?_
                refine wl_not (wg (c := (eqi x_23 r_1.1)) (want := true) (by kernel_rfl) hc_24 rfl) ?_
                refine wl_not (wg (c := (eqi x_23 r_1.1)) (want := true) (by kernel_rfl) hc_24 rfl) ?_
                refine wl_not (wg (c := (eqi x_23 r_1.1)) (want := true) (by kernel_rfl) hc_24 rfl) ?_
                refine wl_not (wg (c := (eqi x_23 r_1.1)) (want := true) (by kernel_rfl) hc_24 rfl) ?_
                refine wl_val (v := .bool false) (w' := w_5) (by kernel_rfl) (run_pick_f (v := .bool false) (tr2 (c := (eqi x_23 r_1.1)) (by kernel_rfl) hc_24) (by kernel_rfl)) ?_
                refine wl_nil ?_
                exact then_c ⟨false, (fun i => ([.int .u32 x_23, .int .u32 r_1.1, .bool (eqi x_23 r_1.1), .bool (eqi x_23 r_1.1), undef, undef, undef, undef, undef, undef, undef, undef] : List Value).getD i undef), by kernel_rfl, hL, hB, hm⟩
            · intro l1 w_6 hI
              obtain ⟨x_24, u_15, rfl, hL, hB, hm⟩ := hI
              unfold m84_J5 at hm
              refine cw_cond (t := x_24) (by kernel_rfl) (fun hc_23 => ?_) (fun hc_23 => ?_)
              · have hm := ite_t hm hc_23
                refine cw_seq ?_
                refine cw_region ?_
                refine wl_val (v := .int .i64 (add .i64 i_3 1)) (w' := w_6) (by kernel_rfl) (run_move (v := .int .i64 (add .i64 i_3 1)) (by kernel_rfl)) ?_
                refine wl_val (v := .int .i64 (p1_0.length : Int)) (w' := w_6) (by kernel_rfl) (run_move (v := .int .i64 (p1_0.length : Int)) (by kernel_rfl)) ?_
                refine wl_val (v := .int .i64 (sub .i64 (add .i64 i_3 1) (p1_0.length : Int))) (w' := w_6) (by kernel_rfl) (run_sub (k := .i64) (a := (add .i64 i_3 1)) (b := (p1_0.length : Int)) (by kernel_rfl) (by kernel_rfl)) ?_
                refine wl_val (v := .int .i64 (sub .i64 (add .i64 i_3 1) (p1_0.length : Int))) (w' := w_6) (by kernel_rfl) (run_assign (v := .int .i64 (sub .i64 (add .i64 i_3 1) (p1_0.length : Int))) (by kernel_rfl)) ?_
                refine wl_nil ?_
                refine then_n ?_
                refine cw_ret ?_
                refine inBlock_ret ?_
                refine then_ret ?_
                refine inBlock_ret ?_
                refine then_ret ?_
                obtain rfl := Option.some.inj hm
                exact ret1 (v := .int .i64 (sub .i64 (add .i64 i_3 1) (p1_0.length : Int))) rfl (resv_tmp (by kernel_rfl)) ⟨_, rfl, by kernel_rfl, hB⟩
              · have hm := ite_f hm hc_23
                refine cw_skip ?_
                refine inBlock_n ?_
                exact ⟨_, rfl, (x_23, (add .i64 i_3 1)), ⟨(fun i => ([(u_13 0), .int .i64 i_3, .string ⟨⟨p0_0⟩⟩, .int .i64 (p0_0.length : Int), .bool (lt i_3 (p0_0.length : Int)), .int .u32 h_45, .int .u32 (mul .u32 h_45 16777619), .int .u32 (mul .u32 h_45 16777619), .string ⟨⟨p0_0⟩⟩, .int .i64 i_3, .int .u8 (b_14.toNat : Int), .int .u32 (cvt .u32 (b_14.toNat : Int)), .int .u32 x_22, .int .u32 x_22, .int .u32 r_1.2, .string ⟨⟨p0_0⟩⟩, .int .i64 i_3, .int .i64 (p1_0.length : Int), .int .i64 (sub .i64 i_3 (p1_0.length : Int)), .int .u8 (b_15.toNat : Int), .int .u32 (cvt .u32 (b_15.toNat : Int)), .int .u32 (mul .u32 r_1.2 (cvt .u32 (b_15.toNat : Int))), .int .u32 x_23, .int .i64 i_3, .int .i64 (add .i64 i_3 1), (u_15 0), (u_15 1), (u_15 2), (u_15 3), (u_15 4), (u_15 5), (u_15 6), (u_15 7), (u_15 8), (u_15 9), (u_15 10), (u_15 11), .bool x_24, (u_13 38), (u_13 39), (u_13 40)] : List Value).getD i undef), by kernel_rfl, hL, hB⟩, hm⟩
          · have hm := ite_f hm hc_21
            refine cw_exit ?_
            refine then_exit ?_
            refine then_exit ?_
            refine inBlock_same ?_
            exact then_c ⟨(fun i => ([(u_13 0), .int .u32 h_45, .int .i64 i_3, .int .i64 (p1_0.length : Int), .int .i64 i_3, .string ⟨⟨p0_0⟩⟩, .int .i64 (p0_0.length : Int), .bool (lt i_3 (p0_0.length : Int)), (u_13 5), (u_13 6), (u_13 7), (u_13 8), (u_13 9), (u_13 10), (u_13 11), (u_13 12), (u_13 13), (u_13 14), (u_13 15), (u_13 16), (u_13 17), (u_13 18), (u_13 19), (u_13 20), (u_13 21), (u_13 22), (u_13 23), (u_13 24), (u_13 25), (u_13 26), (u_13 27), (u_13 28), (u_13 29), (u_13 30), (u_13 31), (u_13 32), (u_13 33), (u_13 34), (u_13 35), (u_13 36), (u_13 37), (u_13 38), (u_13 39), (u_13 40)] : List Value).getD i undef), by kernel_rfl, hL, hB, hm⟩
        · intro l1 w_4 hI
          obtain ⟨u_10, rfl, hL, hB, hm⟩ := hI
          unfold m84_J3 at hm
          refine cw_seq ?_
          refine cw_region ?_
          refine wl_val (v := .int .i64 (-1)) (w' := w_4) (by kernel_rfl) (run_assign (v := .int .i64 (-1)) (by kernel_rfl)) ?_
          refine wl_nil ?_
          refine then_n ?_
          refine cw_ret ?_
          obtain rfl := Option.some.inj hm
          exact ret1 (v := .int .i64 (-1)) rfl (resv_tmp (by kernel_rfl)) ⟨_, rfl, by kernel_rfl, hB⟩
end SxYtihfogahdofdmaaDoor

/- Written by program (gen.py): the model of internal/stringslite.Index, and the proof that its code computes it. -/
namespace SxYtihfogahdofdmaaDoor
open Go Go.RowKit Sx Go.Proofs
set_option linter.unusedVariables false
set_option linter.unusedSimpArgs false
attribute [local irreducible] WL WX CW OW
/-! ### 69: "internal/stringslite.Index" -/
def m69_J1 (fuel : Nat) (p0_0 : (List UInt8)) (p1_0 : (List UInt8)) (x_1 : Bool) : Option Int :=
  if x_1 then (some 0) else (if (eqi (p1_0.length : Int) 1) then ((at? p1_0 0).bind fun b_1 => (m81 fuel p0_0 (b_1.toNat : Int)).bind fun r_1 => some r_1) else (if (ge (p1_0.length : Int) (p0_0.length : Int)) then (some (-1)) else (none)))
def m69 (fuel : Nat) (p0_0 : (List UInt8)) (p1_0 : (List UInt8)) : Option Int :=
  if (eqi (p1_0.length : Int) 0) then (m69_J1 fuel p0_0 p1_0 true) else (m69_J1 fuel p0_0 p1_0 (eqs p1_0 p0_0))
@[reducible] def Q69 (F : Lx) (w0 : World) (r : Int) (v : Value) (w' : World) : Prop := v = .int .i64 r ∧ Below w0.heap.size w0 w'
set_option maxRecDepth 100000 in
set_option maxHeartbeats 4000000 in
theorem f69_ok (fuel : Nat) (F : Lx) (w0 : World) (hF : ∀ k, some k ∈ F → k < w0.heap.size) {p0_0 : (List UInt8)} {p1_0 : (List UInt8)} {r : Int} (hm : m69 fuel p0_0 p1_0 = some r) :
    Calls Tryd.prog 69 #[.string ⟨⟨p0_0⟩⟩, .string ⟨⟨p1_0⟩⟩] w0 (fun e w' => ∃ v, e = .returned v ∧ Q69 F w0 r v w') := by
  have hPF : PF (bodyPost Tryd.prog Tryd.f69 (fun e w' => ∃ v, e = .returned v ∧ Q69 F w0 r v w')) := PF.body (fun c w h => by obtain ⟨v, e, _⟩ := h; cases e)
  have hL := LOk.start hF
  have hB := Below.refl w0.heap.size w0
  unfold m69 at hm
  refine enter (l := [.string ⟨⟨p0_0⟩⟩, .string ⟨⟨p1_0⟩⟩, undef, undef, undef, undef, undef, undef, undef, undef, undef, undef, undef, undef, undef, undef, undef, undef, undef, undef, undef, undef, undef, undef, undef, undef, undef, undef, undef, undef, undef, undef, undef, undef, undef, undef, undef, undef, undef, undef, undef, undef, undef, undef, undef, undef, undef, undef, undef, undef, undef, undef, undef, undef, undef, undef, undef, undef, undef, undef, undef, undef, undef, undef, undef, undef, undef, undef, undef, undef, undef, undef, undef, undef, undef, undef, undef, undef, undef, undef, undef, undef, undef, undef, undef, undef, undef, undef, undef, undef, undef, undef, undef, undef, undef, undef, undef, undef, undef, undef, undef, undef, undef, undef, undef, undef, undef, undef, undef, undef, undef, undef, undef, undef, undef, undef, undef, undef, undef, undef, undef, undef, undef, undef, undef, undef, undef, undef, undef, undef, undef, undef, undef, undef, undef, undef, undef, undef, undef, undef, undef, undef, undef]) Tryd.func69 rfl Tryd.ntmps69 (by kernel_rfl) ?_
  refine cw_seq ?_
  refine cw_region ?_
  refine wl_val (v := .int .i64 0) (w' := w0) (by kernel_rfl) (run_assign (v := .int .i64 0) (by kernel_rfl)) ?_
  refine wl_nil ?_
  refine then_n ?_
  refine cw_seq ?_
  refine cw_region ?_
  refine wl_val (v := .string ⟨⟨p1_0⟩⟩) (w' := w0) (by kernel_rfl) (run_move (v := .string ⟨⟨p1_0⟩⟩) (by kernel_rfl)) ?_
  refine wl_val (v := .int .i64 (p1_0.length : Int)) (w' := w0) (by kernel_rfl) (run_len_str (s := p1_0) Tryd.underlying9 (by kernel_rfl)) ?_
  refine wl_val (v := .int .i64 (p1_0.length : Int)) (w' := w0) (by kernel_rfl) (run_assign (v := .int .i64 (p1_0.length : Int)) (by kernel_rfl)) ?_
  refine wl_nil ?_
  refine then_n ?_
  refine cw_seq ?_
  refine cw_block ?_
  refine cw_cut (fun l' w' => ∃ x_1, ∃ u_1 : Nat → Value, l' = [.string ⟨⟨p0_0⟩⟩, .string ⟨⟨p1_0⟩⟩, undef, undef, .int .i64 0, .int .i64 (p1_0.length : Int), undef, undef, undef, undef, undef, undef, undef, undef, .string ⟨⟨p1_0⟩⟩, .int .i64 (p1_0.length : Int), .bool x_1, (u_1 0), (u_1 1), (u_1 2), (u_1 3), (u_1 4), (u_1 5), (u_1 6), undef, undef, undef, undef, undef, undef, undef, undef, undef, undef, undef, undef, undef, undef, undef, undef, undef, undef, undef, undef, undef, undef, undef, undef, undef, undef, undef, undef, undef, undef, undef, undef, undef, undef, undef, undef, undef, undef, undef, undef, undef, undef, undef, undef, undef, undef, undef, undef, undef, undef, undef, undef, undef, undef, undef, undef, undef, undef, undef, undef, undef, undef, undef, undef, undef, undef, undef, undef, undef, undef, undef, undef, undef, undef, undef, undef, undef, undef, undef, undef, undef, undef, undef, undef, undef, undef, undef, undef, undef, undef, undef, undef, undef, undef, undef, undef, undef, undef, undef, undef, undef, undef, undef, undef, undef, undef, undef, undef, undef, undef, undef, undef, undef, undef, undef, undef, undef, undef, undef] ∧ LOk w0.heap.size [] F w' ∧ Below w0.heap.size w0 w' ∧ m69_J1 fuel p0_0 p1_0 x_1 = some r) ?_ ?_
  · refine cw_region ?_
    refine wl_val (v := .int .i64 (p1_0.length : Int)) (w' := w0) (by kernel_rfl) (run_move (v := .int .i64 (p1_0.length : Int)) (by kernel_rfl)) ?_
    refine wl_val (v := .bool (eqi (p1_0.length : Int) 0)) (w' := w0) (by kernel_rfl) (run_eqi (k := .i64) (a := (p1_0.length : Int)) (b := 0) (by kernel_rfl) (by kernel_rfl)) ?_
    refine wl_val (v := .bool (eqi (p1_0.length : Int) 0)) (w' := w0) (by kernel_rfl) (run_move (v := .bool (eqi (p1_0.length : Int) 0)) (by kernel_rfl)) ?_
    rcases Bool.eq_false_or_eq_true (eqi (p1_0.length : Int) 0) with hc_5 | hc_5
    · have hm := ite_t hm hc_5
      refine wl_not0 (wg (c := (eqi (p1_0.length : Int) 0)) (want := false) (by kernel_rfl) hc_5 rfl) (by kernel_rfl) ?_
      refine wl_not0 (wg (c := (eqi (p1_0.length : Int) 0)) (want := false) (by kernel_rfl) hc_5 rfl) (by kernel_rfl) ?_
      refine wl_not0 (wg (c := (eqi (p1_0.length : Int) 0)) (want := false) (by kernel_rfl) hc_5 rfl) (by kernel_rfl) ?_
      refine wl_val (v := .bool true) (w' := w0) (by kernel_rfl) (run_pick_t (v := .bool true) (tr2 (c := (eqi (p1_0.length : Int) 0)) (by kernel_rfl) hc_5) (by kernel_rfl)) ?_
      refine wl_val (v := .bool true) (w' := w0) (by kernel_rfl) (run_assign (v := .bool true) (by kernel_rfl)) ?_
      refine wl_nil ?_
      exact then_c ⟨true, (fun i => ([.int .i64 (p1_0.length : Int), .bool (eqi (p1_0.length : Int) 0), .bool (eqi (p1_0.length : Int) 0), undef, undef, undef, .bool true] : List Value).getD i undef), by kernel_rfl, hL, hB, hm⟩
    · have hm := ite_f hm hc_5
      refine wl_val (v := .string ⟨⟨p1_0⟩⟩) (w' := w0) (wg (c := (eqi (p1_0.length : Int) 0)) (want := false) (by kernel_rfl) hc_5 rfl) (run_move (v := .string ⟨⟨p1_0⟩⟩) (by kernel_rfl)) ?_
      refine wl_val (v := .string ⟨⟨p0_0⟩⟩) (w' := w0) (wg (c := (eqi (p1_0.length : Int) 0)) (want := false) (by kernel_rfl) hc_5 rfl) (run_move (v := .string ⟨⟨p0_0⟩⟩) (by kernel_rfl)) ?_
      refine wl_norm [.string ⟨⟨p0_0⟩⟩, .string ⟨⟨p1_0⟩⟩, undef, undef, .int .i64 0, .int .i64 (p1_0.length : Int), undef, undef, undef, undef, undef, undef, undef, undef, .string ⟨⟨p1_0⟩⟩, .int .i64 (p1_0.length : Int), undef, .int .i64 (p1_0.length : Int), .bool (eqi (p1_0.length : Int) 0), .bool (eqi (p1_0.length : Int) 0), .string ⟨⟨p1_0⟩⟩, .string ⟨⟨p0_0⟩⟩, undef, undef, undef, undef, undef, undef, undef, undef, undef, undef, undef, undef, undef, undef, undef, undef, undef, undef, undef, undef, undef, undef, undef, undef, undef, undef, undef, undef, undef, undef, undef, undef, undef, undef, undef, undef, undef, undef, undef, undef, undef, undef, undef, undef, undef, undef, undef, undef, undef, undef, undef, undef, undef, undef, undef, undef, undef, undef, undef, undef, undef, undef, undef, undef, undef, undef, undef, undef, undef, undef, undef, undef, undef, undef, undef, undef, undef, undef, undef, undef, undef, undef, undef, undef, undef, undef, undef, undef, undef, undef, undef, undef, undef, undef, undef, undef, undef, undef, undef, undef, undef, undef, undef, undef, undef, undef, undef, undef, undef, undef, undef, undef, undef, undef, undef, undef, undef, undef, undef, undef, undef] (by kernel_rfl) ?_
      refine wl_val (v := .bool (eqs p1_0 p0_0)) (w' := w0) (wg (c := (eqi (p1_0.length : Int) 0)) (want := false) (by kernel_rfl) hc_5 rfl) (run_eqs (a := p1_0) (b := p0_0) (by kernel_rfl) (by kernel_rfl)) ?_
      refine wl_val (v := .bool (eqs p1_0 p0_0)) (w' := w0) (by kernel_rfl) (run_pick_f (v := .bool (eqs p1_0 p0_0)) (tr2 (c := (eqi (p1_0.length : Int) 0)) (by kernel_rfl) hc_5) (by kernel_rfl)) ?_
      refine wl_val (v := .bool (eqs p1_0 p0_0)) (w' := w0) (by kernel_rfl) (run_assign (v := .bool (eqs p1_0 p0_0)) (by kernel_rfl)) ?_
      refine wl_nil ?_
      exact then_c ⟨(eqs p1_0 p0_0), (fun i => ([.int .i64 (p1_0.length : Int), .bool (eqi (p1_0.length : Int) 0), .bool (eqi (p1_0.length : Int) 0), .string ⟨⟨p1_0⟩⟩, .string ⟨⟨p0_0⟩⟩, .bool (eqs p1_0 p0_0), .bool (eqs p1_0 p0_0)] : List Value).getD i undef), by kernel_rfl, hL, hB, hm⟩
  · intro l1 w_1 hI
    obtain ⟨x_1, u_1, rfl, hL, hB, hm⟩ := hI
    unfold m69_J1 at hm
    refine cw_cond (t := x_1) (by kernel_rfl) (fun hc_2 => ?_) (fun hc_2 => ?_)
    · have hm := ite_t hm hc_2
      refine cw_seq ?_
      refine cw_region ?_
      refine wl_val (v := .int .i64 0) (w' := w_1) (by kernel_rfl) (run_assign (v := .int .i64 0) (by kernel_rfl)) ?_
      refine wl_nil ?_
      refine then_n ?_
      refine cw_ret ?_
      refine inBlock_ret ?_
      refine then_ret ?_
      obtain rfl := Option.some.inj hm
      exact ret1 (v := .int .i64 0) rfl (resv_tmp (by kernel_rfl)) ⟨_, rfl, by kernel_rfl, hB⟩
    · have hm := ite_f hm hc_2
      refine cw_seq ?_
      refine cw_region ?_
      refine wl_val (v := .int .i64 (p1_0.length : Int)) (w' := w_1) (by kernel_rfl) (run_move (v := .int .i64 (p1_0.length : Int)) (by kernel_rfl)) ?_
      refine wl_val (v := .bool (eqi (p1_0.length : Int) 1)) (w' := w_1) (by kernel_rfl) (run_eqi (k := .i64) (a := (p1_0.length : Int)) (b := 1) (by kernel_rfl) (by kernel_rfl)) ?_
      refine wl_val (v := .bool (eqi (p1_0.length : Int) 1)) (w' := w_1) (by kernel_rfl) (run_assign (v := .bool (eqi (p1_0.length : Int) 1)) (by kernel_rfl)) ?_
      refine wl_nil ?_
      refine then_n ?_
      refine cw_cond (t := (eqi (p1_0.length : Int) 1)) (by kernel_rfl) (fun hc_3 => ?_) (fun hc_3 => ?_)
      · have hm := ite_t hm hc_3
        refine cw_seq ?_
        refine cw_region ?_
        refine wl_val (v := .string ⟨⟨p0_0⟩⟩) (w' := w_1) (by kernel_rfl) (run_move (v := .string ⟨⟨p0_0⟩⟩) (by kernel_rfl)) ?_
        refine wl_val (v := .string ⟨⟨p1_0⟩⟩) (w' := w_1) (by kernel_rfl) (run_move (v := .string ⟨⟨p1_0⟩⟩) (by kernel_rfl)) ?_
        obtain ⟨b_1, h_1, hm⟩ := bind_e hm
        obtain ⟨h_20, h_21, _⟩ := at_some h_1
        refine wl_val (v := .int .u8 (b_1.toNat : Int)) (w' := w_1) (by kernel_rfl) (run_index_str (s := p1_0) (k := .i64) (j := 0) Tryd.underlying9 (by kernel_rfl) (by kernel_rfl) h_20 h_21) ?_
        obtain ⟨r_1, h_3, hm⟩ := bind_e hm
        refine wl_op (by kernel_rfl) (ow_enter (run_callf (vs := [.string ⟨⟨p0_0⟩⟩, .int .u8 (b_1.toNat : Int)]) Tryd.func81 nm_81 (by kernel_rfl) (by kernel_rfl)) (f81_ok (p0_0 := p0_0) (p1_0 := (b_1.toNat : Int)) fuel _ w_1 hL.lt  h_3) ?_)
        intro vR w_2 hR
        obtain ⟨rfl, hBe⟩ := hR
        have hS := Stp.call hL (Fz.of_below hBe [])
        replace hB := hS.below hL hB
        replace hL := hS.hL
        refine wl_val (v := .int .i64 r_1) (w' := w_2) (by kernel_rfl) (run_assign (v := .int .i64 r_1) (by kernel_rfl)) ?_
        refine wl_nil ?_
        refine then_n ?_
        refine cw_ret ?_
        refine inBlock_ret ?_
        refine then_ret ?_
        obtain rfl := Option.some.inj hm
        exact ret1 (v := .int .i64 r_1) rfl (resv_tmp (by kernel_rfl)) ⟨_, rfl, by kernel_rfl, hB⟩
      · have hm := ite_f hm hc_3
        refine cw_seq ?_
        refine cw_region ?_
        refine wl_val (v := .int .i64 (p1_0.length : Int)) (w' := w_1) (by kernel_rfl) (run_move (v := .int .i64 (p1_0.length : Int)) (by kernel_rfl)) ?_
        refine wl_val (v := .string ⟨⟨p0_0⟩⟩) (w' := w_1) (by kernel_rfl) (run_move (v := .string ⟨⟨p0_0⟩⟩) (by kernel_rfl)) ?_
        refine wl_val (v := .int .i64 (p0_0.length : Int)) (w' := w_1) (by kernel_rfl) (run_len_str (s := p0_0) Tryd.underlying9 (by kernel_rfl)) ?_
        refine wl_val (v := .bool (ge (p1_0.length : Int) (p0_0.length : Int))) (w' := w_1) (by kernel_rfl) (run_ge (k := .i64) (a := (p1_0.length : Int)) (b := (p0_0.length : Int)) (by kernel_rfl) (by kernel_rfl)) ?_
        refine wl_val (v := .bool (ge (p1_0.length : Int) (p0_0.length : Int))) (w' := w_1) (by kernel_rfl) (run_assign (v := .bool (ge (p1_0.length : Int) (p0_0.length : Int))) (by kernel_rfl)) ?_
        refine wl_nil ?_
        refine then_n ?_
        refine cw_cond (t := (ge (p1_0.length : Int) (p0_0.length : Int))) (by kernel_rfl) (fun hc_4 => ?_) (fun hc_4 => ?_)
        · have hm := ite_t hm hc_4
          refine cw_seq ?_
          refine cw_region ?_
          refine wl_val (v := .int .i64 (-1)) (w' := w_1) (by kernel_rfl) (run_assign (v := .int .i64 (-1)) (by kernel_rfl)) ?_
          refine wl_nil ?_
          refine then_n ?_
          refine cw_ret ?_
          refine inBlock_ret ?_
          refine then_ret ?_
          obtain rfl := Option.some.inj hm
          exact ret1 (v := .int .i64 (-1)) rfl (resv_tmp (by kernel_rfl)) ⟨_, rfl, by kernel_rfl, hB⟩
        · have hm := ite_f hm hc_4
          refine cw_seq ?_
          refine cw_region ?_
          refine wl_val (v := .int .i64 (p1_0.length : Int)) (w' := w_1) (by kernel_rfl) (run_move (v := .int .i64 (p1_0.length : Int)) (by kernel_rfl)) ?_
          cases hm
end SxYtihfogahdofdmaaDoor

/- Written by program (gen.py): the model of internal/stringslite.Cut, and the proof that its code computes it. -/
namespace SxYtihfogahdofdmaaDoor
open Go Go.RowKit Sx Go.Proofs
set_option linter.unusedVariables false
set_option linter.unusedSimpArgs false
attribute [local irreducible] WL WX CW OW
/-! ### 63: "internal/stringslite.Cut" -/
def m63 (fuel : Nat) (p0_0 : (List UInt8)) (p1_0 : (List UInt8)) : Option ((List UInt8) × (List UInt8) × Bool) :=
  (m69 fuel p0_0 p1_0).bind fun r_1 => if (ge r_1 0) then ((cut p0_0 0 r_1).bind fun s_3 => (cut p0_0 (add .i64 r_1 (p1_0.length : Int)) (p0_0.length : Int)).bind fun s_4 => some (s_3, s_4, true)) else (some (p0_0, ([] : List UInt8), false))
@[reducible] def Q63 (F : Lx) (w0 : World) (r : ((List UInt8) × (List UInt8) × Bool)) (v : Value) (w' : World) : Prop := v = .tuple #[.string ⟨⟨r.1⟩⟩, .string ⟨⟨r.2.1⟩⟩, .bool r.2.2] ∧ Below w0.heap.size w0 w'
set_option maxRecDepth 100000 in
set_option maxHeartbeats 4000000 in
theorem f63_ok (fuel : Nat) (F : Lx) (w0 : World) (hF : ∀ k, some k ∈ F → k < w0.heap.size) {p0_0 : (List UInt8)} {p1_0 : (List UInt8)} {r : ((List UInt8) × (List UInt8) × Bool)} (hm : m63 fuel p0_0 p1_0 = some r) :
    Calls Tryd.prog 63 #[.string ⟨⟨p0_0⟩⟩, .string ⟨⟨p1_0⟩⟩] w0 (fun e w' => ∃ v, e = .returned v ∧ Q63 F w0 r v w') := by
  have hPF : PF (bodyPost Tryd.prog Tryd.f63 (fun e w' => ∃ v, e = .returned v ∧ Q63 F w0 r v w')) := PF.body (fun c w h => by obtain ⟨v, e, _⟩ := h; cases e)
  have hL := LOk.start hF
  have hB := Below.refl w0.heap.size w0
  unfold m63 at hm
  refine enter (l := [.string ⟨⟨p0_0⟩⟩, .string ⟨⟨p1_0⟩⟩, undef, undef, undef, undef, undef, undef, undef, undef, undef, undef, undef, undef, undef, undef, undef, undef, undef, undef, undef, undef, undef]) Tryd.func63 rfl Tryd.ntmps63 (by kernel_rfl) ?_
  refine cw_seq ?_
  refine cw_region ?_
  refine wl_val (v := .string ⟨⟨([] : List UInt8)⟩⟩) (w' := w0) (by kernel_rfl) (run_assign (v := .string ⟨⟨([] : List UInt8)⟩⟩) (by kernel_rfl)) ?_
  refine wl_val (v := .string ⟨⟨([] : List UInt8)⟩⟩) (w' := w0) (by kernel_rfl) (run_assign (v := .string ⟨⟨([] : List UInt8)⟩⟩) (by kernel_rfl)) ?_
  refine wl_val (v := .bool false) (w' := w0) (by kernel_rfl) (run_assign (v := .bool false) (by kernel_rfl)) ?_
  refine wl_nil ?_
  refine then_n ?_
  refine cw_seq ?_
  refine cw_seq ?_
  refine cw_region ?_
  refine wl_val (v := .string ⟨⟨p0_0⟩⟩) (w' := w0) (by kernel_rfl) (run_move (v := .string ⟨⟨p0_0⟩⟩) (by kernel_rfl)) ?_
  refine wl_val (v := .string ⟨⟨p1_0⟩⟩) (w' := w0) (by kernel_rfl) (run_move (v := .string ⟨⟨p1_0⟩⟩) (by kernel_rfl)) ?_
  obtain ⟨r_1, h_1, hm⟩ := bind_e hm
  refine wl_op (by kernel_rfl) (ow_enter (run_callf (vs := [.string ⟨⟨p0_0⟩⟩, .string ⟨⟨p1_0⟩⟩]) Tryd.func69 nm_69 (by kernel_rfl) (by kernel_rfl)) (f69_ok (p0_0 := p0_0) (p1_0 := p1_0) fuel _ w0 hL.lt  h_1) ?_)
  intro vR w_1 hR
  obtain ⟨rfl, hBe⟩ := hR
  have hS := Stp.call hL (Fz.of_below hBe [])
  replace hB := hS.below hL hB
  replace hL := hS.hL
  refine wl_val (v := .int .i64 r_1) (w' := w_1) (by kernel_rfl) (run_assign (v := .int .i64 r_1) (by kernel_rfl)) ?_
  refine wl_nil ?_
  refine then_n ?_
  refine cw_seq ?_
  refine cw_region ?_
  refine wl_val (v := .int .i64 r_1) (w' := w_1) (by kernel_rfl) (run_move (v := .int .i64 r_1) (by kernel_rfl)) ?_
  refine wl_val (v := .bool (ge r_1 0)) (w' := w_1) (by kernel_rfl) (run_ge (k := .i64) (a := r_1) (b := 0) (by kernel_rfl) (by kernel_rfl)) ?_
  refine wl_nil ?_
  refine then_n ?_
  refine cw_cond (t := (ge r_1 0)) (by kernel_rfl) (fun hc_1 => ?_) (fun hc_1 => ?_)
  · have hm := ite_t hm hc_1
    refine cw_seq ?_
    refine cw_region_draw [(0, true), (1, true), (2, true), (3, true), (4, true), (5, true), (6, true), (7, true), (8, true), (9, true), (10, true), (11, true)] (fun x => Fz [] w_1 x) rfl (by kernel_rfl) (PF.then (PF.then hPF)) (Fz.drew _ _) ?_
    have hZ : Fz [] w_1 w_1.drew := Fz.drew _ _
    have hS0 : Stp w0.heap.size [] [] F [] w_1 w_1.drew := Stp.call hL (Fz.drew _ _)
    generalize w_1.drew = w_2 at hS0 hZ ⊢
    refine wx_take (v := .string ⟨⟨p0_0⟩⟩) (by kernel_rfl) (fun w' hS => run_move (v := .string ⟨⟨p0_0⟩⟩) (by kernel_rfl)) ?_
    refine wx_take (v := .int .i64 r_1) (by kernel_rfl) (fun w' hS => run_move (v := .int .i64 r_1) (by kernel_rfl)) ?_
    obtain ⟨s_3, h_4, hm⟩ := bind_e hm
    refine wx_take (v := .string ⟨⟨s_3⟩⟩) (by kernel_rfl) (fun w' hS => run_slice_str_h (s := p0_0) (k := .i64) (j := r_1) Tryd.underlying9 (by kernel_rfl) (by kernel_rfl) h_4) ?_
    refine wx_take (v := .string ⟨⟨p0_0⟩⟩) (by kernel_rfl) (fun w' hS => run_move (v := .string ⟨⟨p0_0⟩⟩) (by kernel_rfl)) ?_
    refine wx_take (v := .int .i64 r_1) (by kernel_rfl) (fun w' hS => run_move (v := .int .i64 r_1) (by kernel_rfl)) ?_
    refine wx_take (v := .string ⟨⟨p1_0⟩⟩) (by kernel_rfl) (fun w' hS => run_move (v := .string ⟨⟨p1_0⟩⟩) (by kernel_rfl)) ?_
    refine wx_norm [.string ⟨⟨p0_0⟩⟩, .string ⟨⟨p1_0⟩⟩, undef, undef, .string ⟨⟨([] : List UInt8)⟩⟩, .string ⟨⟨([] : List UInt8)⟩⟩, .bool false, .int .i64 r_1, .string ⟨⟨p0_0⟩⟩, .string ⟨⟨p1_0⟩⟩, .int .i64 r_1, .int .i64 r_1, .bool (ge r_1 0), .string ⟨⟨p0_0⟩⟩, .int .i64 r_1, .string ⟨⟨s_3⟩⟩, .string ⟨⟨p0_0⟩⟩, .int .i64 r_1, .string ⟨⟨p1_0⟩⟩, undef, undef, undef, undef] (by kernel_rfl) ?_
    refine wx_take (v := .int .i64 (p1_0.length : Int)) (by kernel_rfl) (fun w' hS => run_len_str (s := p1_0) Tryd.underlying9 (by kernel_rfl)) ?_
    refine wx_take (v := .int .i64 (add .i64 r_1 (p1_0.length : Int))) (by kernel_rfl) (fun w' hS => run_add (k := .i64) (a := r_1) (b := (p1_0.length : Int)) (by kernel_rfl) (by kernel_rfl)) ?_
    obtain ⟨s_4, h_5, hm⟩ := bind_e hm
    refine wx_take (v := .string ⟨⟨s_4⟩⟩) (by kernel_rfl) (fun w' hS => run_slice_str_l (s := p0_0) (k := .i64) (i := (add .i64 r_1 (p1_0.length : Int))) Tryd.underlying9 (by kernel_rfl) (by kernel_rfl) h_5) ?_
    refine wx_take (v := .string ⟨⟨s_3⟩⟩) (by kernel_rfl) (fun w' hS => run_assign (v := .string ⟨⟨s_3⟩⟩) (by kernel_rfl)) ?_
    refine wx_take (v := .string ⟨⟨s_4⟩⟩) (by kernel_rfl) (fun w' hS => run_assign (v := .string ⟨⟨s_4⟩⟩) (by kernel_rfl)) ?_
    refine wx_take (v := .bool true) (by kernel_rfl) (fun w' hS => run_assign (v := .bool true) (by kernel_rfl)) ?_
    refine wx_nil ?_
    replace hB := hS0.below hL hB
    replace hL := hS0.hL
    refine then_n ?_
    refine cw_ret ?_
    refine then_ret ?_
    obtain rfl := Option.some.inj hm
    exact ret3 (v := .string ⟨⟨s_3⟩⟩) (v' := .string ⟨⟨s_4⟩⟩) (v'' := .bool true) rfl (resv_tmp (by kernel_rfl)) (resv_tmp (by kernel_rfl)) (resv_tmp (by kernel_rfl)) ⟨_, rfl, by kernel_rfl, hB⟩
  · have hm := ite_f hm hc_1
    refine cw_skip ?_
    refine then_n ?_
    refine cw_seq ?_
    refine cw_region ?_
    refine wl_val (v := .string ⟨⟨p0_0⟩⟩) (w' := w_1) (by kernel_rfl) (run_move (v := .string ⟨⟨p0_0⟩⟩) (by kernel_rfl)) ?_
    refine wl_val (v := .string ⟨⟨p0_0⟩⟩) (w' := w_1) (by kernel_rfl) (run_assign (v := .string ⟨⟨p0_0⟩⟩) (by kernel_rfl)) ?_
    refine wl_val (v := .string ⟨⟨([] : List UInt8)⟩⟩) (w' := w_1) (by kernel_rfl) (run_assign (v := .string ⟨⟨([] : List UInt8)⟩⟩) (by kernel_rfl)) ?_
    refine wl_val (v := .bool false) (w' := w_1) (by kernel_rfl) (run_assign (v := .bool false) (by kernel_rfl)) ?_
    refine wl_nil ?_
    refine then_n ?_
    refine cw_norm [.string ⟨⟨p0_0⟩⟩, .string ⟨⟨p1_0⟩⟩, undef, undef, .string ⟨⟨p0_0⟩⟩, .string ⟨⟨([] : List UInt8)⟩⟩, .bool false, .int .i64 r_1, .string ⟨⟨p0_0⟩⟩, .string ⟨⟨p1_0⟩⟩, .int .i64 r_1, .int .i64 r_1, .bool (ge r_1 0), undef, undef, undef, undef, undef, undef, undef, undef, undef, .string ⟨⟨p0_0⟩⟩] (by kernel_rfl) ?_
    refine cw_ret ?_
    obtain rfl := Option.some.inj hm
    exact ret3 (v := .string ⟨⟨p0_0⟩⟩) (v' := .string ⟨⟨([] : List UInt8)⟩⟩) (v'' := .bool false) rfl (resv_tmp (by kernel_rfl)) (resv_tmp (by kernel_rfl)) (resv_tmp (by kernel_rfl)) ⟨_, rfl, by kernel_rfl, hB⟩
end SxYtihfogahdofdmaaDoor

/- Written by program (gen.py): the model of strings.Cut, and the proof that its code computes it. -/
namespace SxYtihfogahdofdmaaDoor
open Go Go.RowKit Sx Go.Proofs
set_option linter.unusedVariables false
set_option linter.unusedSimpArgs false
attribute [local irreducible] WL WX CW OW
/-! ### 42: "strings.Cut" -/
def m42 (fuel : Nat) (p0_0 : (List UInt8)) (p1_0 : (List UInt8)) : Option ((List UInt8) × (List UInt8) × Bool) :=
  (m63 fuel p0_0 p1_0).bind fun r_1 => some (r_1.1, r_1.2.1, r_1.2.2)
@[reducible] def Q42 (F : Lx) (w0 : World) (r : ((List UInt8) × (List UInt8) × Bool)) (v : Value) (w' : World) : Prop := v = .tuple #[.string ⟨⟨r.1⟩⟩, .string ⟨⟨r.2.1⟩⟩, .bool r.2.2] ∧ Below w0.heap.size w0 w'
set_option maxRecDepth 100000 in
set_option maxHeartbeats 4000000 in
theorem f42_ok (fuel : Nat) (F : Lx) (w0 : World) (hF : ∀ k, some k ∈ F → k < w0.heap.size) {p0_0 : (List UInt8)} {p1_0 : (List UInt8)} {r : ((List UInt8) × (List UInt8) × Bool)} (hm : m42 fuel p0_0 p1_0 = some r) :
    Calls Tryd.prog 42 #[.string ⟨⟨p0_0⟩⟩, .string ⟨⟨p1_0⟩⟩] w0 (fun e w' => ∃ v, e = .returned v ∧ Q42 F w0 r v w') := by
  have hPF : PF (bodyPost Tryd.prog Tryd.f42 (fun e w' => ∃ v, e = .returned v ∧ Q42 F w0 r v w')) := PF.body (fun c w h => by obtain ⟨v, e, _⟩ := h; cases e)
  have hL := LOk.start hF
  have hB := Below.refl w0.heap.size w0
  unfold m42 at hm
  refine enter (l := [.string ⟨⟨p0_0⟩⟩, .string ⟨⟨p1_0⟩⟩, undef, undef, undef, undef, undef, undef, undef, undef, undef, undef, undef]) Tryd.func42 rfl Tryd.ntmps42 (by kernel_rfl) ?_
  refine cw_seq ?_
  refine cw_region ?_
  refine wl_val (v := .string ⟨⟨([] : List UInt8)⟩⟩) (w' := w0) (by kernel_rfl) (run_assign (v := .string ⟨⟨([] : List UInt8)⟩⟩) (by kernel_rfl)) ?_
  refine wl_val (v := .string ⟨⟨([] : List UInt8)⟩⟩) (w' := w0) (by kernel_rfl) (run_assign (v := .string ⟨⟨([] : List UInt8)⟩⟩) (by kernel_rfl)) ?_
  refine wl_val (v := .bool false) (w' := w0) (by kernel_rfl) (run_assign (v := .bool false) (by kernel_rfl)) ?_
  refine wl_nil ?_
  refine then_n ?_
  refine cw_seq ?_
  refine cw_region ?_
  refine wl_val (v := .string ⟨⟨p0_0⟩⟩) (w' := w0) (by kernel_rfl) (run_move (v := .string ⟨⟨p0_0⟩⟩) (by kernel_rfl)) ?_
  refine wl_val (v := .string ⟨⟨p1_0⟩⟩) (w' := w0) (by kernel_rfl) (run_move (v := .string ⟨⟨p1_0⟩⟩) (by kernel_rfl)) ?_
  obtain ⟨r_1, h_1, hm⟩ := bind_e hm
  refine wl_op (by kernel_rfl) (ow_enter (run_callf (vs := [.string ⟨⟨p0_0⟩⟩, .string ⟨⟨p1_0⟩⟩]) Tryd.func63 nm_63 (by kernel_rfl) (by kernel_rfl)) (f63_ok (p0_0 := p0_0) (p1_0 := p1_0) fuel _ w0 hL.lt  h_1) ?_)
  intro vR w_1 hR
  obtain ⟨rfl, hBe⟩ := hR
  have hS := Stp.call hL (Fz.of_below hBe [])
  replace hB := hS.below hL hB
  replace hL := hS.hL
  refine wl_val (v := .string ⟨⟨r_1.1⟩⟩) (w' := w_1) (by kernel_rfl) (run_extract (vs := #[.string ⟨⟨r_1.1⟩⟩, .string ⟨⟨r_1.2.1⟩⟩, .bool r_1.2.2]) (by kernel_rfl) (by kernel_rfl)) ?_
  refine wl_val (v := .string ⟨⟨r_1.2.1⟩⟩) (w' := w_1) (by kernel_rfl) (run_extract (vs := #[.string ⟨⟨r_1.1⟩⟩, .string ⟨⟨r_1.2.1⟩⟩, .bool r_1.2.2]) (by kernel_rfl) (by kernel_rfl)) ?_
  refine wl_val (v := .bool r_1.2.2) (w' := w_1) (by kernel_rfl) (run_extract (vs := #[.string ⟨⟨r_1.1⟩⟩, .string ⟨⟨r_1.2.1⟩⟩, .bool r_1.2.2]) (by kernel_rfl) (by kernel_rfl)) ?_
  refine wl_val (v := .string ⟨⟨r_1.1⟩⟩) (w' := w_1) (by kernel_rfl) (run_assign (v := .string ⟨⟨r_1.1⟩⟩) (by kernel_rfl)) ?_
  refine wl_val (v := .string ⟨⟨r_1.2.1⟩⟩) (w' := w_1) (by kernel_rfl) (run_assign (v := .string ⟨⟨r_1.2.1⟩⟩) (by kernel_rfl)) ?_
  refine wl_val (v := .bool r_1.2.2) (w' := w_1) (by kernel_rfl) (run_assign (v := .bool r_1.2.2) (by kernel_rfl)) ?_
  refine wl_nil ?_
  refine then_n ?_
  refine cw_norm [.string ⟨⟨p0_0⟩⟩, .string ⟨⟨p1_0⟩⟩, undef, undef, .string ⟨⟨r_1.1⟩⟩, .string ⟨⟨r_1.2.1⟩⟩, .bool r_1.2.2, .string ⟨⟨p0_0⟩⟩, .string ⟨⟨p1_0⟩⟩, .tuple #[.string ⟨⟨r_1.1⟩⟩, .string ⟨⟨r_1.2.1⟩⟩, .bool r_1.2.2], .string ⟨⟨r_1.1⟩⟩, .string ⟨⟨r_1.2.1⟩⟩, .bool r_1.2.2] (by kernel_rfl) ?_
  refine cw_ret ?_
  obtain rfl := Option.some.inj hm
  exact ret3 (v := .string ⟨⟨r_1.1⟩⟩) (v' := .string ⟨⟨r_1.2.1⟩⟩) (v'' := .bool r_1.2.2) rfl (resv_tmp (by kernel_rfl)) (resv_tmp (by kernel_rfl)) (resv_tmp (by kernel_rfl)) ⟨_, rfl, by kernel_rfl, hB⟩
end SxYtihfogahdofdmaaDoor

/- Written by program (gen.py): the model of saucier/units.allDigits, and the proof that its code computes it. -/
namespace SxYtihfogahdofdmaaDoor
open Go Go.RowKit Sx Go.Proofs
set_option linter.unusedVariables false
set_option linter.unusedSimpArgs false
attribute [local irreducible] WL WX CW OW
/-! ### 43: "saucier/units.allDigits" -/
def m43_J1 (fuel : Nat) (p0_0 : (List UInt8)) : Option Bool :=
  some (nes p0_0 ([] : List UInt8))
def m43_J3 (fuel : Nat) (x_6 : Int) (self_1 : ((Int) → Option Bool)) (x_8 : Bool) : Option Bool :=
  if x_8 then (some false) else (self_1 (add .i64 x_6 1))
def m43_L2 (fuel : Nat) (p0_0 : (List UInt8)) (self_1 : Int → Option Bool) (x_6 : Int) : Option Bool :=
  if (lt x_6 (p0_0.length : Int)) then ((at? p0_0 x_6).bind fun b_13 => if (lt (b_13.toNat : Int) 48) then (m43_J3 fuel x_6 self_1 true) else ((at? p0_0 x_6).bind fun b_14 => m43_J3 fuel x_6 self_1 (gt (b_14.toNat : Int) 57))) else (m43_J1 fuel p0_0 )
def m43 (fuel : Nat) (p0_0 : (List UInt8)) : Option Bool :=
  loopF (m43_L2 fuel p0_0) fuel 0
@[reducible] def Q43 (F : Lx) (w0 : World) (r : Bool) (v : Value) (w' : World) : Prop := v = .bool r ∧ Below w0.heap.size w0 w'
set_option maxRecDepth 100000 in
set_option maxHeartbeats 4000000 in
theorem f43_ok (fuel : Nat) (F : Lx) (w0 : World) (hF : ∀ k, some k ∈ F → k < w0.heap.size) {p0_0 : (List UInt8)} {r : Bool} (hm : m43 fuel p0_0 = some r) :
    Calls Tryd.prog 43 #[.string ⟨⟨p0_0⟩⟩] w0 (fun e w' => ∃ v, e = .returned v ∧ Q43 F w0 r v w') := by
  have hPF : PF (bodyPost Tryd.prog Tryd.f43 (fun e w' => ∃ v, e = .returned v ∧ Q43 F w0 r v w')) := PF.body (fun c w h => by obtain ⟨v, e, _⟩ := h; cases e)
  have hL := LOk.start hF
  have hB := Below.refl w0.heap.size w0
  unfold m43 at hm
  refine enter (l := [.string ⟨⟨p0_0⟩⟩, undef, undef, undef, undef, undef, undef, undef, undef, undef, undef, undef, undef, undef, undef, undef, undef, undef, undef, undef, undef, undef]) Tryd.func43 rfl Tryd.ntmps43 (by kernel_rfl) ?_
  refine cw_seq ?_
  refine cw_region ?_
  refine wl_val (v := .bool false) (w' := w0) (by kernel_rfl) (run_assign (v := .bool false) (by kernel_rfl)) ?_
  refine wl_nil ?_
  refine then_n ?_
  refine cw_cut (fun l' w' => ∃ u_6 : Nat → Value, l' = [.string ⟨⟨p0_0⟩⟩, undef, (u_6 0), (u_6 1), (u_6 2), (u_6 3), (u_6 4), (u_6 5), (u_6 6), (u_6 7), (u_6 8), (u_6 9), (u_6 10), (u_6 11), (u_6 12), (u_6 13), (u_6 14), (u_6 15), (u_6 16), (u_6 17), undef, undef] ∧ LOk w0.heap.size [] F w' ∧ Below w0.heap.size w0 w' ∧ m43_J1 fuel p0_0  = some r) ?_ ?_
  · refine cw_seq ?_
    refine cw_region ?_
    refine wl_val (v := .string ⟨⟨p0_0⟩⟩) (w' := w0) (by kernel_rfl) (run_move (v := .string ⟨⟨p0_0⟩⟩) (by kernel_rfl)) ?_
    refine wl_val (v := .int .i64 (p0_0.length : Int)) (w' := w0) (by kernel_rfl) (run_len_str (s := p0_0) Tryd.underlying9 (by kernel_rfl)) ?_
    refine wl_val (v := .int .i64 0) (w' := w0) (by kernel_rfl) (run_move (v := .int .i64 0) (by kernel_rfl)) ?_
    refine wl_nil ?_
    refine then_n ?_
    refine cw_block ?_
    refine cw_loop (σ := Int) (m43_L2 fuel p0_0) r (fun s l' w' => ∃ u_9 : Nat → Value, l' = [.string ⟨⟨p0_0⟩⟩, undef, (u_9 0), (u_9 1), .string ⟨⟨p0_0⟩⟩, .int .i64 (p0_0.length : Int), .int .i64 s, (u_9 2), (u_9 3), (u_9 4), (u_9 5), (u_9 6), (u_9 7), (u_9 8), (u_9 9), (u_9 10), (u_9 11), (u_9 12), (u_9 13), (u_9 14), undef, undef] ∧ LOk w0.heap.size [] F w' ∧ Below w0.heap.size w0 w') ?_ (s := 0) (n := fuel) ⟨(fun i => ([.bool false, undef, undef, undef, undef, undef, undef, undef, undef, undef, undef, undef, undef, undef, undef] : List Value).getD i undef), by kernel_rfl, hL, hB⟩ hm
    intro self_1 s l1 w_2 hI hm
    obtain ⟨x_6, rfl⟩ : ∃ z, z = s := ⟨s, rfl⟩
    try dsimp only at hI
    obtain ⟨u_9, rfl, hL, hB⟩ := hI
    unfold m43_L2 at hm
    refine cw_seq ?_
    refine cw_region ?_
    refine wl_val (v := .bool (lt x_6 (p0_0.length : Int))) (w' := w_2) (by kernel_rfl) (run_lt (k := .i64) (a := x_6) (b := (p0_0.length : Int)) (by kernel_rfl) (by kernel_rfl)) ?_
    refine wl_nil ?_
    refine then_n ?_
    refine cw_seq ?_
    refine cw_cond (t := (lt x_6 (p0_0.length : Int))) (by kernel_rfl) (fun hc_16 => ?_) (fun hc_16 => ?_)
    · have hm := ite_t hm hc_16
      refine cw_skip ?_
      refine then_n ?_
      refine cw_seq ?_
      refine cw_block ?_
      refine cw_seq ?_
      refine cw_region ?_
      refine wl_val (v := .int .i64 x_6) (w' := w_2) (by kernel_rfl) (run_move (v := .int .i64 x_6) (by kernel_rfl)) ?_
      refine wl_val (v := .int .i64 x_6) (w' := w_2) (by kernel_rfl) (run_assign (v := .int .i64 x_6) (by kernel_rfl)) ?_
      refine wl_nil ?_
      refine then_n ?_
      refine cw_cut (fun l' w' => ∃ x_8, ∃ u_11 : Nat → Value, l' = [.string ⟨⟨p0_0⟩⟩, undef, (u_9 0), .int .i64 x_6, .string ⟨⟨p0_0⟩⟩, .int .i64 (p0_0.length : Int), .int .i64 x_6, .bool (lt x_6 (p0_0.length : Int)), .int .i64 x_6, (u_11 0), (u_11 1), (u_11 2), (u_11 3), (u_11 4), (u_11 5), (u_11 6), (u_11 7), (u_11 8), .bool x_8, (u_9 14), undef, undef] ∧ LOk w0.heap.size [] F w' ∧ Below w0.heap.size w0 w' ∧ m43_J3 fuel x_6 self_1 x_8 = some r) ?_ ?_
      · refine cw_region ?_
        refine wl_val (v := .string ⟨⟨p0_0⟩⟩) (w' := w_2) (by kernel_rfl) (run_move (v := .string ⟨⟨p0_0⟩⟩) (by kernel_rfl)) ?_
        refine wl_val (v := .int .i64 x_6) (w' := w_2) (by kernel_rfl) (run_move (v := .int .i64 x_6) (by kernel_rfl)) ?_
        obtain ⟨b_13, h_25, hm⟩ := bind_e hm
        obtain ⟨h_260, h_261, _⟩ := at_some h_25
        refine wl_val (v := .int .u8 (b_13.toNat : Int)) (w' := w_2) (by kernel_rfl) (run_index_str (s := p0_0) (k := .i64) (j := x_6) Tryd.underlying9 (by kernel_rfl) (by kernel_rfl) h_260 h_261) ?_
        refine wl_val (v := .bool (lt (b_13.toNat : Int) 48)) (w' := w_2) (by kernel_rfl) (run_lt (k := .u8) (a := (b_13.toNat : Int)) (b := 48) (by kernel_rfl) (by kernel_rfl)) ?_
        refine wl_val (v := .bool (lt (b_13.toNat : Int) 48)) (w' := w_2) (by kernel_rfl) (run_move (v := .bool (lt (b_13.toNat : Int) 48)) (by kernel_rfl)) ?_
        rcases Bool.eq_false_or_eq_true (lt (b_13.toNat : Int) 48) with hc_19 | hc_19
        · have hm := ite_t hm hc_19
          refine wl_not (wg (c := (lt (b_13.toNat : Int) 48)) (want := false) (by kernel_rfl) hc_19 rfl) ?_
          refine wl_norm [.string ⟨⟨p0_0⟩⟩, undef, (u_9 0), .int .i64 x_6, .string ⟨⟨p0_0⟩⟩, .int .i64 (p0_0.length : Int), .int .i64 x_6, .bool (lt x_6 (p0_0.length : Int)), .int .i64 x_6, .string ⟨⟨p0_0⟩⟩, .int .i64 x_6, .int .u8 (b_13.toNat : Int), .bool (lt (b_13.toNat : Int) 48), .bool (lt (b_13.toNat : Int) 48), undef, (u_9 10), (u_9 11), (u_9 12), (u_9 13), (u_9 14), undef, undef] (by kernel_rfl) ?_
          refine wl_not (wg (c := (lt (b_13.toNat : Int) 48)) (want := false) (by kernel_rfl) hc_19 rfl) ?_
          refine wl_not (wg (c := (lt (b_13.toNat : Int) 48)) (want := false) (by kernel_rfl) hc_19 rfl) ?_
          refine wl_not (wg (c := (lt (b_13.toNat : Int) 48)) (want := false) (by kernel_rfl) hc_19 rfl) ?_
          refine wl_val (v := .bool true) (w' := w_2) (by kernel_rfl) (run_pick_t (v := .bool true) (tr2 (c := (lt (b_13.toNat : Int) 48)) (by kernel_rfl) hc_19) (by kernel_rfl)) ?_
          refine wl_nil ?_
          exact then_c ⟨true, (fun i => ([.string ⟨⟨p0_0⟩⟩, .int .i64 x_6, .int .u8 (b_13.toNat : Int), .bool (lt (b_13.toNat : Int) 48), .bool (lt (b_13.toNat : Int) 48), undef, undef, undef, undef] : List Value).getD i undef), by kernel_rfl, hL, hB, hm⟩
        · have hm := ite_f hm hc_19
          refine wl_val (v := .string ⟨⟨p0_0⟩⟩) (w' := w_2) (wg (c := (lt (b_13.toNat : Int) 48)) (want := false) (by kernel_rfl) hc_19 rfl) (run_move (v := .string ⟨⟨p0_0⟩⟩) (by kernel_rfl)) ?_
          refine wl_norm [.string ⟨⟨p0_0⟩⟩, undef, (u_9 0), .int .i64 x_6, .string ⟨⟨p0_0⟩⟩, .int .i64 (p0_0.length : Int), .int .i64 x_6, .bool (lt x_6 (p0_0.length : Int)), .int .i64 x_6, .string ⟨⟨p0_0⟩⟩, .int .i64 x_6, .int .u8 (b_13.toNat : Int), .bool (lt (b_13.toNat : Int) 48), .bool (lt (b_13.toNat : Int) 48), .string ⟨⟨p0_0⟩⟩, (u_9 10), (u_9 11), (u_9 12), (u_9 13), (u_9 14), undef, undef] (by kernel_rfl) ?_
          refine wl_val (v := .int .i64 x_6) (w' := w_2) (wg (c := (lt (b_13.toNat : Int) 48)) (want := false) (by kernel_rfl) hc_19 rfl) (run_move (v := .int .i64 x_6) (by kernel_rfl)) ?_
          obtain ⟨b_14, h_27, hm⟩ := bind_e hm
          obtain ⟨h_280, h_281, _⟩ := at_some h_27
          refine wl_val (v := .int .u8 (b_14.toNat : Int)) (w' := w_2) (wg (c := (lt (b_13.toNat : Int) 48)) (want := false) (by kernel_rfl) hc_19 rfl) (run_index_str (s := p0_0) (k := .i64) (j := x_6) Tryd.underlying9 (by kernel_rfl) (by kernel_rfl) h_280 h_281) ?_
          refine wl_val (v := .bool (gt (b_14.toNat : Int) 57)) (w' := w_2) (wg (c := (lt (b_13.toNat : Int) 48)) (want := false) (by kernel_rfl) hc_19 rfl) (run_gt (k := .u8) (a := (b_14.toNat : Int)) (b := 57) (by kernel_rfl) (by kernel_rfl)) ?_
          refine wl_val (v := .bool (gt (b_14.toNat : Int) 57)) (w' := w_2) (by kernel_rfl) (run_pick_f (v := .bool (gt (b_14.toNat : Int) 57)) (tr2 (c := (lt (b_13.toNat : Int) 48)) (by kernel_rfl) hc_19) (by kernel_rfl)) ?_
          refine wl_nil ?_
          exact then_c ⟨(gt (b_14.toNat : Int) 57), (fun i => ([.string ⟨⟨p0_0⟩⟩, .int .i64 x_6, .int .u8 (b_13.toNat : Int), .bool (lt (b_13.toNat : Int) 48), .bool (lt (b_13.toNat : Int) 48), .string ⟨⟨p0_0⟩⟩, .int .i64 x_6, .int .u8 (b_14.toNat : Int), .bool (gt (b_14.toNat : Int) 57)] : List Value).getD i undef), by kernel_rfl, hL, hB, hm⟩
      · intro l1 w_3 hI
        obtain ⟨x_8, u_11, rfl, hL, hB, hm⟩ := hI
        unfold m43_J3 at hm
        refine cw_cond (t := x_8) (by kernel_rfl) (fun hc_18 => ?_) (fun hc_18 => ?_)
        · have hm := ite_t hm hc_18
          refine cw_seq ?_
          refine cw_region ?_
          refine wl_val (v := .bool false) (w' := w_3) (by kernel_rfl) (run_assign (v := .bool false) (by kernel_rfl)) ?_
          refine wl_nil ?_
          refine then_n ?_
          refine cw_ret ?_
          refine inBlock_ret ?_
          refine then_ret ?_
          refine then_ret ?_
          refine inBlock_ret ?_
          refine then_ret ?_
          obtain rfl := Option.some.inj hm
          exact ret1 (v := .bool false) rfl (resv_tmp (by kernel_rfl)) ⟨_, rfl, by kernel_rfl, hB⟩
        · have hm := ite_f hm hc_18
          refine cw_skip ?_
          refine inBlock_n ?_
          refine then_n ?_
          refine cw_region ?_
          refine wl_val (v := .int .i64 (add .i64 x_6 1)) (w' := w_3) (by kernel_rfl) (run_add (k := .i64) (a := x_6) (b := 1) (by kernel_rfl) (by kernel_rfl)) ?_
          refine wl_val (v := .int .i64 (add .i64 x_6 1)) (w' := w_3) (by kernel_rfl) (run_move (v := .int .i64 (add .i64 x_6 1)) (by kernel_rfl)) ?_
          refine wl_nil ?_
          exact ⟨_, rfl, (add .i64 x_6 1), ⟨(fun i => ([(u_9 0), .int .i64 x_6, .bool (lt x_6 (p0_0.length : Int)), .int .i64 x_6, (u_11 0), (u_11 1), (u_11 2), (u_11 3), (u_11 4), (u_11 5), (u_11 6), (u_11 7), (u_11 8), .bool x_8, .int .i64 (add .i64 x_6 1)] : List Value).getD i undef), by kernel_rfl, hL, hB⟩, hm⟩
    · have hm := ite_f hm hc_16
      refine cw_exit ?_
      refine then_exit ?_
      refine then_exit ?_
      refine inBlock_same ?_
      exact then_c ⟨(fun i => ([(u_9 0), (u_9 1), .string ⟨⟨p0_0⟩⟩, .int .i64 (p0_0.length : Int), .int .i64 x_6, .bool (lt x_6 (p0_0.length : Int)), (u_9 3), (u_9 4), (u_9 5), (u_9 6), (u_9 7), (u_9 8), (u_9 9), (u_9 10), (u_9 11), (u_9 12), (u_9 13), (u_9 14)] : List Value).getD i undef), by kernel_rfl, hL, hB, hm⟩
  · intro l1 w_1 hI
    obtain ⟨u_6, rfl, hL, hB, hm⟩ := hI
    unfold m43_J1 at hm
    refine cw_seq ?_
    refine cw_region ?_
    refine wl_val (v := .string ⟨⟨p0_0⟩⟩) (w' := w_1) (by kernel_rfl) (run_move (v := .string ⟨⟨p0_0⟩⟩) (by kernel_rfl)) ?_
    refine wl_val (v := .bool (nes p0_0 ([] : List UInt8))) (w' := w_1) (by kernel_rfl) (run_nes (a := p0_0) (b := ([] : List UInt8)) (by kernel_rfl) (by kernel_rfl)) ?_
    refine wl_val (v := .bool (nes p0_0 ([] : List UInt8))) (w' := w_1) (by kernel_rfl) (run_assign (v := .bool (nes p0_0 ([] : List UInt8))) (by kernel_rfl)) ?_
    refine wl_nil ?_
    refine then_n ?_
    refine cw_ret ?_
    obtain rfl := Option.some.inj hm
    exact ret1 (v := .bool (nes p0_0 ([] : List UInt8))) rfl (resv_tmp (by kernel_rfl)) ⟨_, rfl, by kernel_rfl, hB⟩
end SxYtihfogahdofdmaaDoor

/- Written by program (gen.py): the model of saucier/units.Parse, and the proof that its code computes it. -/
namespace SxYtihfogahdofdmaaDoor
open Go Go.RowKit Sx Go.Proofs
set_option linter.unusedVariables false
set_option linter.unusedSimpArgs false
attribute [local irreducible] WL WX CW OW
/-! ### 18: "saucier/units.Parse" -/
def m18_J4 (fuel : Nat) (r_5 : (List UInt8)) (n_9 : Int) : Option (TDec × Bool) :=
  some ((⟨n_9, (cvt .u8 (r_5.length : Int))⟩ : TDec), true)
def m18_J3 (fuel : Nat) (r_1 : ((List UInt8) × Bool)) (r_5 : (List UInt8)) (n_8 : Int) : Option (TDec × Bool) :=
  if r_1.2 then (m18_J4 fuel r_5 (neg .i64 n_8)) else (m18_J4 fuel r_5 n_8)
def m18_J6 (fuel : Nat) (x_20 : Int) (self_1 : ((Int × Int) → Option (TDec × Bool))) (n_16 : Int) : Option (TDec × Bool) :=
  self_1 (n_16, (add .i64 x_20 1))
def m18_L7 (fuel : Nat) (x_20 : Int) (self_1 : ((Int × Int) → Option (TDec × Bool))) (e_7 : (List UInt8)) (self_2 : Int × Int → Option (TDec × Bool)) : Int × Int → Option (TDec × Bool) := fun (n_17, x_30) =>
  if (lt x_30 (e_7.length : Int)) then ((at? e_7 x_30).bind fun b_22 => (some (add .i64 (mul .i64 10 n_17) (cvt .i64 (sub .u8 (b_22.toNat : Int) 48)))).bind fun x_32 => if (gt x_32 1000000000000) then (some ((⟨0, 0⟩ : TDec), false)) else (self_2 (x_32, (add .i64 x_30 1)))) else (m18_J6 fuel x_20 self_1 n_17)
def m18_L5 (fuel : Nat) (r_1 : ((List UInt8) × Bool)) (r_2 : ((List UInt8) × (List UInt8) × Bool)) (r_5 : (List UInt8)) (self_1 : Int × Int → Option (TDec × Bool)) : Int × Int → Option (TDec × Bool) := fun (n_12, x_20) =>
  if (lt x_20 2) then ((at? ([r_2.1, r_5] : List (List UInt8)) x_20).bind fun e_7 => loopF (m18_L7 fuel x_20 self_1 e_7) fuel (n_12, 0)) else (m18_J3 fuel r_1 r_5 n_12)
def m18_J2 (fuel : Nat) (r_1 : ((List UInt8) × Bool)) (r_2 : ((List UInt8) × (List UInt8) × Bool)) (x_2 : Bool) : Option (TDec × Bool) :=
  if x_2 then (some ((⟨0, 0⟩ : TDec), false)) else ((m32 fuel r_2.2.1 ([48] : List UInt8)).bind fun r_5 => loopF (m18_L5 fuel r_1 r_2 r_5) fuel (0, 0))
def m18_J1 (fuel : Nat) (r_1 : ((List UInt8) × Bool)) (r_2 : ((List UInt8) × (List UInt8) × Bool)) (x_1 : Bool) : Option (TDec × Bool) :=
  if x_1 then (some ((⟨0, 0⟩ : TDec), false)) else (if r_2.2.2 then ((m43 fuel r_2.2.1).bind fun r_6 => if r_6 then (m18_J2 fuel r_1 r_2 (gt (r_2.2.1.length : Int) 6)) else (m18_J2 fuel r_1 r_2 true)) else (m18_J2 fuel r_1 r_2 false))
def m18 (fuel : Nat) (p0_0 : (List UInt8)) : Option (TDec × Bool) :=
  (m41 fuel p0_0 ([45] : List UInt8)).bind fun r_1 => (m42 fuel r_1.1 ([46] : List UInt8)).bind fun r_2 => (m43 fuel r_2.1).bind fun r_7 => if r_7 then (if (gt (r_2.1.length : Int) 1) then ((at? r_2.1 0).bind fun b_23 => m18_J1 fuel r_1 r_2 (eqi (b_23.toNat : Int) 48)) else (m18_J1 fuel r_1 r_2 false)) else (m18_J1 fuel r_1 r_2 true)
@[reducible] def Q18 (F : Lx) (w0 : World) (r : (TDec × Bool)) (v : Value) (w' : World) : Prop := v = .tuple #[.agg #[.int .i64 r.1.N, .int .u8 r.1.D], .bool r.2] ∧ Below w0.heap.size w0 w'
set_option maxRecDepth 100000 in
set_option maxHeartbeats 4000000 in
theorem f18_ok (fuel : Nat) (F : Lx) (w0 : World) (hF : ∀ k, some k ∈ F → k < w0.heap.size) {p0_0 : (List UInt8)} {r : (TDec × Bool)} (hm : m18 fuel p0_0 = some r) :
    Calls Tryd.prog 18 #[.string ⟨⟨p0_0⟩⟩] w0 (fun e w' => ∃ v, e = .returned v ∧ Q18 F w0 r v w') := by
  have hPF : PF (bodyPost Tryd.prog Tryd.f18 (fun e w' => ∃ v, e = .returned v ∧ Q18 F w0 r v w')) := PF.body (fun c w h => by obtain ⟨v, e, _⟩ := h; cases e)
  have hL := LOk.start hF
  have hB := Below.refl w0.heap.size w0
  unfold m18 at hm
  refine enter (l := [.string ⟨⟨p0_0⟩⟩, undef, undef, undef, undef, undef, undef, undef, undef, undef, undef, undef, undef, undef, undef, undef, undef, undef, undef, undef, undef, undef, undef, undef, undef, undef, undef, undef, undef, undef, undef, undef, undef, undef, undef, undef, undef, undef, undef, undef, undef, undef, undef, undef, undef, undef, undef, undef, undef, undef, undef, undef, undef, undef, undef, undef, undef, undef, undef, undef, undef, undef, undef, undef, undef, undef, undef, undef, undef, undef, undef, undef, undef, undef, undef, undef, undef, undef, undef, undef, undef, undef, undef, undef]) Tryd.func18 rfl Tryd.ntmps18 (by kernel_rfl) ?_
  refine cw_seq ?_
  refine cw_region ?_
  refine wl_op (by kernel_rfl) (ow_alloc' (z := .agg #[.int .i64 0, .int .u8 0]) (vs := [.int .i64 0, .int .u8 0]) (by kernel_rfl) rfl hL ?_)
  intro g_1 w_1 hS h_1
  replace hB := hS.below hL hB
  replace hL := hS.hL
  refine wl_val (v := .bool false) (w' := w_1) (by kernel_rfl) (run_assign (v := .bool false) (by kernel_rfl)) ?_
  refine wl_nil ?_
  refine then_n ?_
  refine cw_seq ?_
  refine cw_region ?_
  refine wl_val (v := .string ⟨⟨p0_0⟩⟩) (w' := w_1) (by kernel_rfl) (run_move (v := .string ⟨⟨p0_0⟩⟩) (by kernel_rfl)) ?_
  obtain ⟨r_1, h_2, hm⟩ := bind_e hm
  refine wl_op (by kernel_rfl) (ow_enter (run_callf (vs := [.string ⟨⟨p0_0⟩⟩, .string ⟨⟨([45] : List UInt8)⟩⟩]) Tryd.func41 nm_41 (by kernel_rfl) (by kernel_rfl)) (f41_ok (p0_0 := p0_0) (p1_0 := ([45] : List UInt8)) fuel _ w_1 hL.lt  h_2) ?_)
  intro vR w_2 hR
  obtain ⟨rfl, hBe⟩ := hR
  have hS := Stp.call hL (Fz.of_below hBe [])
  replace h_1 := hS.box h_1 nilN
  replace hB := hS.below hL hB
  replace hL := hS.hL
  refine wl_val (v := .tuple #[.string ⟨⟨r_1.1⟩⟩, .bool r_1.2]) (w' := w_2) (by kernel_rfl) (run_move (v := .tuple #[.string ⟨⟨r_1.1⟩⟩, .bool r_1.2]) (by kernel_rfl)) ?_
  refine wl_val (v := .string ⟨⟨r_1.1⟩⟩) (w' := w_2) (by kernel_rfl) (run_extract (vs := #[.string ⟨⟨r_1.1⟩⟩, .bool r_1.2]) (by kernel_rfl) (by kernel_rfl)) ?_
  refine wl_val (v := .bool r_1.2) (w' := w_2) (by kernel_rfl) (run_extract (vs := #[.string ⟨⟨r_1.1⟩⟩, .bool r_1.2]) (by kernel_rfl) (by kernel_rfl)) ?_
  refine wl_val (v := .string ⟨⟨r_1.1⟩⟩) (w' := w_2) (by kernel_rfl) (run_assign (v := .string ⟨⟨r_1.1⟩⟩) (by kernel_rfl)) ?_
  refine wl_val (v := .bool r_1.2) (w' := w_2) (by kernel_rfl) (run_assign (v := .bool r_1.2) (by kernel_rfl)) ?_
  refine wl_nil ?_
  refine then_n ?_
  refine cw_seq ?_
  refine cw_region ?_
  refine wl_val (v := .string ⟨⟨r_1.1⟩⟩) (w' := w_2) (by kernel_rfl) (run_move (v := .string ⟨⟨r_1.1⟩⟩) (by kernel_rfl)) ?_
  obtain ⟨r_2, h_3, hm⟩ := bind_e hm
  refine wl_op (by kernel_rfl) (ow_enter (run_callf (vs := [.string ⟨⟨r_1.1⟩⟩, .string ⟨⟨([46] : List UInt8)⟩⟩]) Tryd.func42 nm_42 (by kernel_rfl) (by kernel_rfl)) (f42_ok (p0_0 := r_1.1) (p1_0 := ([46] : List UInt8)) fuel _ w_2 hL.lt  h_3) ?_)
  intro vR w_3 hR
  obtain ⟨rfl, hBe⟩ := hR
  have hS := Stp.call hL (Fz.of_below hBe [])
  replace h_1 := hS.box h_1 nilN
  replace hB := hS.below hL hB
  replace hL := hS.hL
  refine wl_val (v := .tuple #[.string ⟨⟨r_2.1⟩⟩, .string ⟨⟨r_2.2.1⟩⟩, .bool r_2.2.2]) (w' := w_3) (by kernel_rfl) (run_move (v := .tuple #[.string ⟨⟨r_2.1⟩⟩, .string ⟨⟨r_2.2.1⟩⟩, .bool r_2.2.2]) (by kernel_rfl)) ?_
  refine wl_val (v := .string ⟨⟨r_2.1⟩⟩) (w' := w_3) (by kernel_rfl) (run_extract (vs := #[.string ⟨⟨r_2.1⟩⟩, .string ⟨⟨r_2.2.1⟩⟩, .bool r_2.2.2]) (by kernel_rfl) (by kernel_rfl)) ?_
  refine wl_val (v := .string ⟨⟨r_2.2.1⟩⟩) (w' := w_3) (by kernel_rfl) (run_extract (vs := #[.string ⟨⟨r_2.1⟩⟩, .string ⟨⟨r_2.2.1⟩⟩, .bool r_2.2.2]) (by kernel_rfl) (by kernel_rfl)) ?_
  refine wl_val (v := .bool r_2.2.2) (w' := w_3) (by kernel_rfl) (run_extract (vs := #[.string ⟨⟨r_2.1⟩⟩, .string ⟨⟨r_2.2.1⟩⟩, .bool r_2.2.2]) (by kernel_rfl) (by kernel_rfl)) ?_
  refine wl_val (v := .string ⟨⟨r_2.1⟩⟩) (w' := w_3) (by kernel_rfl) (run_assign (v := .string ⟨⟨r_2.1⟩⟩) (by kernel_rfl)) ?_
  refine wl_val (v := .string ⟨⟨r_2.2.1⟩⟩) (w' := w_3) (by kernel_rfl) (run_assign (v := .string ⟨⟨r_2.2.1⟩⟩) (by kernel_rfl)) ?_
  refine wl_norm [.string ⟨⟨p0_0⟩⟩, undef, .pointer (some ⟨g_1, 0, none⟩), .bool false, .string ⟨⟨r_1.1⟩⟩, .bool r_1.2, .string ⟨⟨r_2.1⟩⟩, .string ⟨⟨r_2.2.1⟩⟩, undef, undef, undef, undef, undef, .tuple #[.string ⟨⟨r_1.1⟩⟩, .bool r_1.2], .string ⟨⟨p0_0⟩⟩, .tuple #[.string ⟨⟨r_1.1⟩⟩, .bool r_1.2], .string ⟨⟨r_1.1⟩⟩, .bool r_1.2, .tuple #[.string ⟨⟨r_2.1⟩⟩, .string ⟨⟨r_2.2.1⟩⟩, .bool r_2.2.2], .string ⟨⟨r_1.1⟩⟩, .tuple #[.string ⟨⟨r_2.1⟩⟩, .string ⟨⟨r_2.2.1⟩⟩, .bool r_2.2.2], .string ⟨⟨r_2.1⟩⟩, .string ⟨⟨r_2.2.1⟩⟩, .bool r_2.2.2, undef, undef, undef, undef, undef, undef, undef, undef, undef, undef, undef, undef, undef, undef, undef, undef, undef, undef, undef, undef, undef, undef, undef, undef, undef, undef, undef, undef, undef, undef, undef, undef, undef, undef, undef, undef, undef, undef, undef, undef, undef, undef, undef, undef, undef, undef, undef, undef, undef, undef, undef, undef, undef, undef, undef, undef, undef, undef, undef, undef] (by kernel_rfl) ?_
  refine wl_val (v := .bool r_2.2.2) (w' := w_3) (by kernel_rfl) (run_assign (v := .bool r_2.2.2) (by kernel_rfl)) ?_
  refine wl_nil ?_
  refine then_n ?_
  refine cw_seq ?_
  refine cw_cut (fun l' w' => ∃ x_1, ∃ u_1 : Nat → Value, l' = [.string ⟨⟨p0_0⟩⟩, undef, .pointer (some ⟨g_1, 0, none⟩), .bool false, .string ⟨⟨r_1.1⟩⟩, .bool r_1.2, .string ⟨⟨r_2.1⟩⟩, .string ⟨⟨r_2.2.1⟩⟩, .bool r_2.2.2, undef, undef, undef, undef, .tuple #[.string ⟨⟨r_1.1⟩⟩, .bool r_1.2], .string ⟨⟨p0_0⟩⟩, .tuple #[.string ⟨⟨r_1.1⟩⟩, .bool r_1.2], .string ⟨⟨r_1.1⟩⟩, .bool r_1.2, .tuple #[.string ⟨⟨r_2.1⟩⟩, .string ⟨⟨r_2.2.1⟩⟩, .bool r_2.2.2], .string ⟨⟨r_1.1⟩⟩, .tuple #[.string ⟨⟨r_2.1⟩⟩, .string ⟨⟨r_2.2.1⟩⟩, .bool r_2.2.2], .string ⟨⟨r_2.1⟩⟩, .string ⟨⟨r_2.2.1⟩⟩, .bool r_2.2.2, (u_1 0), (u_1 1), (u_1 2), (u_1 3), (u_1 4), (u_1 5), (u_1 6), (u_1 7), (u_1 8), (u_1 9), (u_1 10), (u_1 11), .bool x_1, undef, undef, undef, undef, undef, undef, undef, undef, undef, undef, undef, undef, undef, undef, undef, undef, undef, undef, undef, undef, undef, undef, undef, undef, undef, undef, undef, undef, undef, undef, undef, undef, undef, undef, undef, undef, undef, undef, undef, undef, undef, undef, undef, undef, undef, undef, undef] ∧ LOk w0.heap.size [some g_1] F w' ∧ Below w0.heap.size w0 w' ∧ Bx w' g_1 [.int .i64 0, .int .u8 0] 23 ∧ m18_J1 fuel r_1 r_2 x_1 = some r) ?_ ?_
  · refine cw_region ?_
    refine wl_val (v := .string ⟨⟨r_2.1⟩⟩) (w' := w_3) (by kernel_rfl) (run_move (v := .string ⟨⟨r_2.1⟩⟩) (by kernel_rfl)) ?_
    obtain ⟨r_7, h_111, hm⟩ := bind_e hm
    refine wl_op (by kernel_rfl) (ow_enter (run_callf (vs := [.string ⟨⟨r_2.1⟩⟩]) Tryd.func43 nm_43 (by kernel_rfl) (by kernel_rfl)) (f43_ok (p0_0 := r_2.1) fuel _ w_3 hL.lt  h_111) ?_)
    intro vR w_39 hR
    obtain ⟨rfl, hBe⟩ := hR
    have hS := Stp.call hL (Fz.of_below hBe [])
    replace h_1 := hS.box h_1 nilN
    replace hB := hS.below hL hB
    replace hL := hS.hL
    refine wl_val (v := .bool (!r_7)) (w' := w_39) (by kernel_rfl) (run_not (b := r_7) (by kernel_rfl)) ?_
    refine wl_val (v := .bool (!r_7)) (w' := w_39) (by kernel_rfl) (run_move (v := .bool (!r_7)) (by kernel_rfl)) ?_
    rcases Bool.eq_false_or_eq_true r_7 with hc_59 | hc_59
    · have hm := ite_t hm hc_59
      refine wl_val (v := .string ⟨⟨r_2.1⟩⟩) (w' := w_39) (wg (c := (!r_7)) (want := false) (by kernel_rfl) (not_t hc_59) rfl) (run_move (v := .string ⟨⟨r_2.1⟩⟩) (by kernel_rfl)) ?_
      refine wl_val (v := .int .i64 (r_2.1.length : Int)) (w' := w_39) (wg (c := (!r_7)) (want := false) (by kernel_rfl) (not_t hc_59) rfl) (run_len_str (s := r_2.1) Tryd.underlying9 (by kernel_rfl)) ?_
      refine wl_val (v := .bool (gt (r_2.1.length : Int) 1)) (w' := w_39) (wg (c := (!r_7)) (want := false) (by kernel_rfl) (not_t hc_59) rfl) (run_gt (k := .i64) (a := (r_2.1.length : Int)) (b := 1) (by kernel_rfl) (by kernel_rfl)) ?_
      refine wl_val (v := .bool (gt (r_2.1.length : Int) 1)) (w' := w_39) (wg (c := (!r_7)) (want := false) (by kernel_rfl) (not_t hc_59) rfl) (run_move (v := .bool (gt (r_2.1.length : Int) 1)) (by kernel_rfl)) ?_
      rcases Bool.eq_false_or_eq_true (gt (r_2.1.length : Int) 1) with hc_60 | hc_60
      · have hm := ite_t hm hc_60
        refine wl_val (v := .string ⟨⟨r_2.1⟩⟩) (w' := w_39) (wg (c := (gt (r_2.1.length : Int) 1)) (want := true) (by kernel_rfl) hc_60 rfl) (run_move (v := .string ⟨⟨r_2.1⟩⟩) (by kernel_rfl)) ?_
        refine wl_norm [.string ⟨⟨p0_0⟩⟩, undef, .pointer (some ⟨g_1, 0, none⟩), .bool false, .string ⟨⟨r_1.1⟩⟩, .bool r_1.2, .string ⟨⟨r_2.1⟩⟩, .string ⟨⟨r_2.2.1⟩⟩, .bool r_2.2.2, undef, undef, undef, undef, .tuple #[.string ⟨⟨r_1.1⟩⟩, .bool r_1.2], .string ⟨⟨p0_0⟩⟩, .tuple #[.string ⟨⟨r_1.1⟩⟩, .bool r_1.2], .string ⟨⟨r_1.1⟩⟩, .bool r_1.2, .tuple #[.string ⟨⟨r_2.1⟩⟩, .string ⟨⟨r_2.2.1⟩⟩, .bool r_2.2.2], .string ⟨⟨r_1.1⟩⟩, .tuple #[.string ⟨⟨r_2.1⟩⟩, .string ⟨⟨r_2.2.1⟩⟩, .bool r_2.2.2], .string ⟨⟨r_2.1⟩⟩, .string ⟨⟨r_2.2.1⟩⟩, .bool r_2.2.2, .string ⟨⟨r_2.1⟩⟩, .bool r_7, .bool (!r_7), .bool (!r_7), .string ⟨⟨r_2.1⟩⟩, .int .i64 (r_2.1.length : Int), .bool (gt (r_2.1.length : Int) 1), .bool (gt (r_2.1.length : Int) 1), .string ⟨⟨r_2.1⟩⟩, undef, undef, undef, undef, undef, undef, undef, undef, undef, undef, undef, undef, undef, undef, undef, undef, undef, undef, undef, undef, undef, undef, undef, undef, undef, undef, undef, undef, undef, undef, undef, undef, undef, undef, undef, undef, undef, undef, undef, undef, undef, undef, undef, undef, undef, undef, undef, undef, undef, undef, undef] (by kernel_rfl) ?_
        obtain ⟨b_23, h_112, hm⟩ := bind_e hm
        obtain ⟨h_1130, h_1131, _⟩ := at_some h_112
        refine wl_val (v := .int .u8 (b_23.toNat : Int)) (w' := w_39) (wg (c := (gt (r_2.1.length : Int) 1)) (want := true) (by kernel_rfl) hc_60 rfl) (run_index_str (s := r_2.1) (k := .i64) (j := 0) Tryd.underlying9 (by kernel_rfl) (by kernel_rfl) h_1130 h_1131) ?_
        refine wl_val (v := .bool (eqi (b_23.toNat : Int) 48)) (w' := w_39) (wg (c := (gt (r_2.1.length : Int) 1)) (want := true) (by kernel_rfl) hc_60 rfl) (run_eqi (k := .u8) (a := (b_23.toNat : Int)) (b := 48) (by kernel_rfl) (by kernel_rfl)) ?_
        refine wl_val (v := .bool (eqi (b_23.toNat : Int) 48)) (w' := w_39) (wg (c := (!r_7)) (want := false) (by kernel_rfl) (not_t hc_59) rfl) (run_pick_t (v := .bool (eqi (b_23.toNat : Int) 48)) (tr2 (c := (gt (r_2.1.length : Int) 1)) (by kernel_rfl) hc_60) (by kernel_rfl)) ?_
        refine wl_val (v := .bool (eqi (b_23.toNat : Int) 48)) (w' := w_39) (by kernel_rfl) (run_pick_f (v := .bool (eqi (b_23.toNat : Int) 48)) (tr2 (c := (!r_7)) (by kernel_rfl) (not_t hc_59)) (by kernel_rfl)) ?_
        refine wl_nil ?_
        exact then_c ⟨(eqi (b_23.toNat : Int) 48), (fun i => ([.string ⟨⟨r_2.1⟩⟩, .bool r_7, .bool (!r_7), .bool (!r_7), .string ⟨⟨r_2.1⟩⟩, .int .i64 (r_2.1.length : Int), .bool (gt (r_2.1.length : Int) 1), .bool (gt (r_2.1.length : Int) 1), .string ⟨⟨r_2.1⟩⟩, .int .u8 (b_23.toNat : Int), .bool (eqi (b_23.toNat : Int) 48), .bool (eqi (b_23.toNat : Int) 48)] : List Value).getD i undef), by kernel_rfl, hL, hB, h_1, hm⟩
      · have hm := ite_f hm hc_60
        refine wl_not0 (wg (c := (gt (r_2.1.length : Int) 1)) (want := true) (by kernel_rfl) hc_60 rfl) (by kernel_rfl) ?_
        refine wl_not0 (wg (c := (gt (r_2.1.length : Int) 1)) (want := true) (by kernel_rfl) hc_60 rfl) (by kernel_rfl) ?_
        refine wl_not0 (wg (c := (gt (r_2.1.length : Int) 1)) (want := true) (by kernel_rfl) hc_60 rfl) (by kernel_rfl) ?_
        refine wl_val (v := .bool false) (w' := w_39) (wg (c := (!r_7)) (want := false) (by kernel_rfl) (not_t hc_59) rfl) (run_pick_f (v := .bool false) (tr2 (c := (gt (r_2.1.length : Int) 1)) (by kernel_rfl) hc_60) (by kernel_rfl)) ?_
        refine wl_val (v := .bool false) (w' := w_39) (by kernel_rfl) (run_pick_f (v := .bool false) (tr2 (c := (!r_7)) (by kernel_rfl) (not_t hc_59)) (by kernel_rfl)) ?_
        refine wl_nil ?_
        exact then_c ⟨false, (fun i => ([.string ⟨⟨r_2.1⟩⟩, .bool r_7, .bool (!r_7), .bool (!r_7), .string ⟨⟨r_2.1⟩⟩, .int .i64 (r_2.1.length : Int), .bool (gt (r_2.1.length : Int) 1), .bool (gt (r_2.1.length : Int) 1), undef, undef, undef, .bool false] : List Value).getD i undef), by kernel_rfl, hL, hB, h_1, hm⟩
    · have hm := ite_f hm hc_59
      refine wl_not0 (wg (c := (!r_7)) (want := false) (by kernel_rfl) (not_f hc_59) rfl) (by kernel_rfl) ?_
      refine wl_not0 (wg (c := (!r_7)) (want := false) (by kernel_rfl) (not_f hc_59) rfl) (by kernel_rfl) ?_
      refine wl_not0 (wg (c := (!r_7)) (want := false) (by kernel_rfl) (not_f hc_59) rfl) (by kernel_rfl) ?_
      refine wl_not0 (wg (c := (!r_7)) (want := false) (by kernel_rfl) (not_f hc_59) rfl) (by kernel_rfl) ?_
      refine wl_not0 (by kernel_rfl) (by kernel_rfl) ?_
      refine wl_not0 (by kernel_rfl) (by kernel_rfl) ?_
      refine wl_not0 (by kernel_rfl) (by kernel_rfl) ?_
      refine wl_not0 (wg (c := (!r_7)) (want := false) (by kernel_rfl) (not_f hc_59) rfl) (by kernel_rfl) ?_
      refine wl_val (v := .bool true) (w' := w_39) (by kernel_rfl) (run_pick_t (v := .bool true) (tr2 (c := (!r_7)) (by kernel_rfl) (not_f hc_59)) (by kernel_rfl)) ?_
      refine wl_nil ?_
      exact then_c ⟨true, (fun i => ([.string ⟨⟨r_2.1⟩⟩, .bool r_7, .bool (!r_7), .bool (!r_7), undef, undef, undef, undef, undef, undef, undef, undef] : List Value).getD i undef), by kernel_rfl, hL, hB, h_1, hm⟩
  · intro l1 w_5 hI
    obtain ⟨x_1, u_1, rfl, hL, hB, h_1, hm⟩ := hI
    unfold m18_J1 at hm
    refine cw_cond (t := x_1) (by kernel_rfl) (fun hc_3 => ?_) (fun hc_3 => ?_)
    · have hm := ite_t hm hc_3
      refine cw_seq ?_
      refine cw_region ?_
      refine wl_val (v := .agg #[.int .i64 0, .int .u8 0]) (w' := w_5) (by kernel_rfl) (by kernel_rfl) ?_
      refine wl_op (by kernel_rfl) (ow_store_box' (g := g_1) (j := 0) (v := .agg #[.int .i64 0, .int .u8 0]) (vs := [.int .i64 0, .int .u8 0]) (cs' := [.int .i64 0, .int .u8 0]) sz_23 (by kernel_rfl) (by kernel_rfl) rfl rfl rfl hL h_1 rfl (by simp) rfl ?_)
      intro w_6 hS h_7
      replace hB := hS.below hL hB
      replace hL := hS.hL
      refine wl_val (v := .bool false) (w' := w_6) (by kernel_rfl) (run_assign (v := .bool false) (by kernel_rfl)) ?_
      refine wl_nil ?_
      refine then_n ?_
      refine cw_ret ?_
      refine then_ret ?_
      have hl0 := loadVar_boxn (P := Tryd.prog) (j := 0) (vs := [.int .i64 0, .int .u8 0]) Tryd.underlying23 rfl sz_23 h_7 (by kernel_rfl) rfl
      have hS : Stp w0.heap.size _ [] F [] w_6 _ := Stp.pick hL [] rfl (by decide)
      replace hB := hS.below hL hB
      replace hL := hS.hL
      obtain rfl := Option.some.inj hm
      exact ret2 (v := .agg #[.int .i64 0, .int .u8 0]) (v' := .bool false) rfl (resv_cell (ad := ⟨g_1, 0, none⟩) (by kernel_rfl) hl0) (resv_tmp (by kernel_rfl)) ⟨_, rfl, by kernel_rfl, hB⟩
    · have hm := ite_f hm hc_3
      refine cw_skip ?_
      refine then_n ?_
      refine cw_seq ?_
      refine cw_cut (fun l' w' => ∃ x_2, ∃ u_2 : Nat → Value, l' = [.string ⟨⟨p0_0⟩⟩, undef, .pointer (some ⟨g_1, 0, none⟩), .bool false, .string ⟨⟨r_1.1⟩⟩, .bool r_1.2, .string ⟨⟨r_2.1⟩⟩, .string ⟨⟨r_2.2.1⟩⟩, .bool r_2.2.2, undef, undef, undef, undef, .tuple #[.string ⟨⟨r_1.1⟩⟩, .bool r_1.2], .string ⟨⟨p0_0⟩⟩, .tuple #[.string ⟨⟨r_1.1⟩⟩, .bool r_1.2], .string ⟨⟨r_1.1⟩⟩, .bool r_1.2, .tuple #[.string ⟨⟨r_2.1⟩⟩, .string ⟨⟨r_2.2.1⟩⟩, .bool r_2.2.2], .string ⟨⟨r_1.1⟩⟩, .tuple #[.string ⟨⟨r_2.1⟩⟩, .string ⟨⟨r_2.2.1⟩⟩, .bool r_2.2.2], .string ⟨⟨r_2.1⟩⟩, .string ⟨⟨r_2.2.1⟩⟩, .bool r_2.2.2, (u_1 0), (u_1 1), (u_1 2), (u_1 3), (u_1 4), (u_1 5), (u_1 6), (u_1 7), (u_1 8), (u_1 9), (u_1 10), (u_1 11), .bool x_1, undef, (u_2 0), (u_2 1), (u_2 2), (u_2 3), (u_2 4), (u_2 5), (u_2 6), (u_2 7), (u_2 8), (u_2 9), .bool x_2, undef, undef, undef, undef, undef, undef, undef, undef, undef, undef, undef, undef, undef, undef, undef, undef, undef, undef, undef, undef, undef, undef, undef, undef, undef, undef, undef, undef, undef, undef, undef, undef, undef, undef, undef] ∧ LOk w0.heap.size [some g_1] F w' ∧ Below w0.heap.size w0 w' ∧ Bx w' g_1 [.int .i64 0, .int .u8 0] 23 ∧ m18_J2 fuel r_1 r_2 x_2 = some r) ?_ ?_
      · refine cw_region ?_
        refine wl_val (v := .bool r_2.2.2) (w' := w_5) (by kernel_rfl) (run_move (v := .bool r_2.2.2) (by kernel_rfl)) ?_
        refine wl_val (v := .bool r_2.2.2) (w' := w_5) (by kernel_rfl) (run_move (v := .bool r_2.2.2) (by kernel_rfl)) ?_
        rcases Bool.eq_false_or_eq_true r_2.2.2 with hc_57 | hc_57
        · have hm := ite_t hm hc_57
          refine wl_val (v := .string ⟨⟨r_2.2.1⟩⟩) (w' := w_5) (wg (c := r_2.2.2) (want := true) (by kernel_rfl) hc_57 rfl) (run_move (v := .string ⟨⟨r_2.2.1⟩⟩) (by kernel_rfl)) ?_
          obtain ⟨r_6, h_110, hm⟩ := bind_e hm
          refine wl_op (wg (c := r_2.2.2) (want := true) (by kernel_rfl) hc_57 rfl) (ow_enter (run_callf (vs := [.string ⟨⟨r_2.2.1⟩⟩]) Tryd.func43 nm_43 (by kernel_rfl) (by kernel_rfl)) (f43_ok (p0_0 := r_2.2.1) fuel _ w_5 hL.lt  h_110) ?_)
          intro vR w_38 hR
          obtain ⟨rfl, hBe⟩ := hR
          have hS := Stp.call hL (Fz.of_below hBe [])
          replace h_1 := hS.box h_1 nilN
          replace hB := hS.below hL hB
          replace hL := hS.hL
          refine wl_val (v := .bool (!r_6)) (w' := w_38) (wg (c := r_2.2.2) (want := true) (by kernel_rfl) hc_57 rfl) (run_not (b := r_6) (by kernel_rfl)) ?_
          refine wl_val (v := .bool (!r_6)) (w' := w_38) (wg (c := r_2.2.2) (want := true) (by kernel_rfl) hc_57 rfl) (run_move (v := .bool (!r_6)) (by kernel_rfl)) ?_
          rcases Bool.eq_false_or_eq_true r_6 with hc_58 | hc_58
          · have hm := ite_t hm hc_58
            refine wl_val (v := .string ⟨⟨r_2.2.1⟩⟩) (w' := w_38) (wg (c := (!r_6)) (want := false) (by kernel_rfl) (not_t hc_58) rfl) (run_move (v := .string ⟨⟨r_2.2.1⟩⟩) (by kernel_rfl)) ?_
            refine wl_val (v := .int .i64 (r_2.2.1.length : Int)) (w' := w_38) (wg (c := (!r_6)) (want := false) (by kernel_rfl) (not_t hc_58) rfl) (run_len_str (s := r_2.2.1) Tryd.underlying9 (by kernel_rfl)) ?_
            refine wl_val (v := .bool (gt (r_2.2.1.length : Int) 6)) (w' := w_38) (wg (c := (!r_6)) (want := false) (by kernel_rfl) (not_t hc_58) rfl) (run_gt (k := .i64) (a := (r_2.2.1.length : Int)) (b := 6) (by kernel_rfl) (by kernel_rfl)) ?_
            refine wl_val (v := .bool (gt (r_2.2.1.length : Int) 6)) (w' := w_38) (wg (c := r_2.2.2) (want := true) (by kernel_rfl) hc_57 rfl) (run_pick_f (v := .bool (gt (r_2.2.1.length : Int) 6)) (tr2 (c := (!r_6)) (by kernel_rfl) (not_t hc_58)) (by kernel_rfl)) ?_
            refine wl_val (v := .bool (gt (r_2.2.1.length : Int) 6)) (w' := w_38) (by kernel_rfl) (run_pick_t (v := .bool (gt (r_2.2.1.length : Int) 6)) (tr2 (c := r_2.2.2) (by kernel_rfl) hc_57) (by kernel_rfl)) ?_
            refine wl_nil ?_
            exact then_c ⟨(gt (r_2.2.1.length : Int) 6), (fun i => ([.bool r_2.2.2, .bool r_2.2.2, .string ⟨⟨r_2.2.1⟩⟩, .bool r_6, .bool (!r_6), .bool (!r_6), .string ⟨⟨r_2.2.1⟩⟩, .int .i64 (r_2.2.1.length : Int), .bool (gt (r_2.2.1.length : Int) 6), .bool (gt (r_2.2.1.length : Int) 6)] : List Value).getD i undef), by kernel_rfl, hL, hB, h_1, hm⟩
          · have hm := ite_f hm hc_58
            refine wl_not0 (wg (c := (!r_6)) (want := false) (by kernel_rfl) (not_f hc_58) rfl) (by kernel_rfl) ?_
            refine wl_not0 (wg (c := (!r_6)) (want := false) (by kernel_rfl) (not_f hc_58) rfl) (by kernel_rfl) ?_
            refine wl_not0 (wg (c := (!r_6)) (want := false) (by kernel_rfl) (not_f hc_58) rfl) (by kernel_rfl) ?_
            refine wl_val (v := .bool true) (w' := w_38) (wg (c := r_2.2.2) (want := true) (by kernel_rfl) hc_57 rfl) (run_pick_t (v := .bool true) (tr2 (c := (!r_6)) (by kernel_rfl) (not_f hc_58)) (by kernel_rfl)) ?_
            refine wl_val (v := .bool true) (w' := w_38) (by kernel_rfl) (run_pick_t (v := .bool true) (tr2 (c := r_2.2.2) (by kernel_rfl) hc_57) (by kernel_rfl)) ?_
            refine wl_nil ?_
            exact then_c ⟨true, (fun i => ([.bool r_2.2.2, .bool r_2.2.2, .string ⟨⟨r_2.2.1⟩⟩, .bool r_6, .bool (!r_6), .bool (!r_6), undef, undef, undef, .bool true] : List Value).getD i undef), by kernel_rfl, hL, hB, h_1, hm⟩
        · have hm := ite_f hm hc_57
          refine wl_not0 (wg (c := r_2.2.2) (want := true) (by kernel_rfl) hc_57 rfl) (by kernel_rfl) ?_
          refine wl_not0 (wg (c := r_2.2.2) (want := true) (by kernel_rfl) hc_57 rfl) (by kernel_rfl) ?_
          refine wl_not0 (wg (c := r_2.2.2) (want := true) (by kernel_rfl) hc_57 rfl) (by kernel_rfl) ?_
          refine wl_not0 (wg (c := r_2.2.2) (want := true) (by kernel_rfl) hc_57 rfl) (by kernel_rfl) ?_
          refine wl_not0 (by kernel_rfl) (by kernel_rfl) ?_
          refine wl_not0 (by kernel_rfl) (by kernel_rfl) ?_
          refine wl_not0 (by kernel_rfl) (by kernel_rfl) ?_
          refine wl_not0 (wg (c := r_2.2.2) (want := true) (by kernel_rfl) hc_57 rfl) (by kernel_rfl) ?_
          refine wl_val (v := .bool false) (w' := w_5) (by kernel_rfl) (run_pick_f (v := .bool false) (tr2 (c := r_2.2.2) (by kernel_rfl) hc_57) (by kernel_rfl)) ?_
          refine wl_nil ?_
          exact then_c ⟨false, (fun i => ([.bool r_2.2.2, .bool r_2.2.2, undef, undef, undef, undef, undef, undef, undef, undef] : List Value).getD i undef), by kernel_rfl, hL, hB, h_1, hm⟩
      · intro l1 w_8 hI
        obtain ⟨x_2, u_2, rfl, hL, hB, h_1, hm⟩ := hI
        unfold m18_J2 at hm
        refine cw_cond (t := x_2) (by kernel_rfl) (fun hc_6 => ?_) (fun hc_6 => ?_)
        · have hm := ite_t hm hc_6
          refine cw_seq ?_
          refine cw_region ?_
          refine wl_val (v := .agg #[.int .i64 0, .int .u8 0]) (w' := w_8) (by kernel_rfl) (by kernel_rfl) ?_
          refine wl_op (by kernel_rfl) (ow_store_box' (g := g_1) (j := 0) (v := .agg #[.int .i64 0, .int .u8 0]) (vs := [.int .i64 0, .int .u8 0]) (cs' := [.int .i64 0, .int .u8 0]) sz_23 (by kernel_rfl) (by kernel_rfl) rfl rfl rfl hL h_1 rfl (by simp) rfl ?_)
          intro w_9 hS h_9
          replace hB := hS.below hL hB
          replace hL := hS.hL
          refine wl_val (v := .bool false) (w' := w_9) (by kernel_rfl) (run_assign (v := .bool false) (by kernel_rfl)) ?_
          refine wl_nil ?_
          refine then_n ?_
          refine cw_ret ?_
          refine then_ret ?_
          have hl0 := loadVar_boxn (P := Tryd.prog) (j := 0) (vs := [.int .i64 0, .int .u8 0]) Tryd.underlying23 rfl sz_23 h_9 (by kernel_rfl) rfl
          have hS : Stp w0.heap.size _ [] F [] w_9 _ := Stp.pick hL [] rfl (by decide)
          replace hB := hS.below hL hB
          replace hL := hS.hL
          obtain rfl := Option.some.inj hm
          exact ret2 (v := .agg #[.int .i64 0, .int .u8 0]) (v' := .bool false) rfl (resv_cell (ad := ⟨g_1, 0, none⟩) (by kernel_rfl) hl0) (resv_tmp (by kernel_rfl)) ⟨_, rfl, by kernel_rfl, hB⟩
        · have hm := ite_f hm hc_6
          refine cw_skip ?_
          refine then_n ?_
          refine cw_seq ?_
          refine cw_region ?_
          refine wl_val (v := .string ⟨⟨r_2.2.1⟩⟩) (w' := w_8) (by kernel_rfl) (run_move (v := .string ⟨⟨r_2.2.1⟩⟩) (by kernel_rfl)) ?_
          obtain ⟨r_5, h_10, hm⟩ := bind_e hm
          refine wl_op (by kernel_rfl) (ow_enter (run_callf (vs := [.string ⟨⟨r_2.2.1⟩⟩, .string ⟨⟨([48] : List UInt8)⟩⟩]) Tryd.func32 nm_32 (by kernel_rfl) (by kernel_rfl)) (f32_ok (p0_0 := r_2.2.1) (p1_0 := ([48] : List UInt8)) fuel _ w_8 hL.lt  h_10) ?_)
          intro vR w_10 hR
          obtain ⟨rfl, hBe⟩ := hR
          have hS := Stp.call hL (Fz.of_below hBe [])
          replace h_1 := hS.box h_1 nilN
          replace hB := hS.below hL hB
          replace hL := hS.hL
          refine wl_val (v := .string ⟨⟨r_5⟩⟩) (w' := w_10) (by kernel_rfl) (run_assign (v := .string ⟨⟨r_5⟩⟩) (by kernel_rfl)) ?_
          refine wl_nil ?_
          refine then_n ?_
          refine cw_seq ?_
          refine cw_region ?_
          refine wl_val (v := .int .i64 0) (w' := w_10) (by kernel_rfl) (run_assign (v := .int .i64 0) (by kernel_rfl)) ?_
          refine wl_nil ?_
          refine then_n ?_
          refine cw_cut (fun l' w' => ∃ n_8, ∃ u_14 : Nat → Value, l' = [.string ⟨⟨p0_0⟩⟩, undef, .pointer (some ⟨g_1, 0, none⟩), (u_14 0), .string ⟨⟨r_1.1⟩⟩, .bool r_1.2, .string ⟨⟨r_2.1⟩⟩, .string ⟨⟨r_5⟩⟩, .bool r_2.2.2, .int .i64 n_8, undef, (u_14 1), (u_14 2), .tuple #[.string ⟨⟨r_1.1⟩⟩, .bool r_1.2], .string ⟨⟨p0_0⟩⟩, .tuple #[.string ⟨⟨r_1.1⟩⟩, .bool r_1.2], .string ⟨⟨r_1.1⟩⟩, .bool r_1.2, .tuple #[.string ⟨⟨r_2.1⟩⟩, .string ⟨⟨r_2.2.1⟩⟩, .bool r_2.2.2], .string ⟨⟨r_1.1⟩⟩, .tuple #[.string ⟨⟨r_2.1⟩⟩, .string ⟨⟨r_2.2.1⟩⟩, .bool r_2.2.2], .string ⟨⟨r_2.1⟩⟩, .string ⟨⟨r_2.2.1⟩⟩, .bool r_2.2.2, (u_1 0), (u_1 1), (u_1 2), (u_1 3), (u_1 4), (u_1 5), (u_1 6), (u_1 7), (u_1 8), (u_1 9), (u_1 10), (u_1 11), .bool x_1, undef, (u_2 0), (u_2 1), (u_2 2), (u_2 3), (u_2 4), (u_2 5), (u_2 6), (u_2 7), (u_2 8), (u_2 9), .bool x_2, undef, .string ⟨⟨r_2.2.1⟩⟩, .string ⟨⟨r_5⟩⟩, (u_14 3), (u_14 4), (u_14 5), (u_14 6), (u_14 7), (u_14 8), (u_14 9), (u_14 10), (u_14 11), (u_14 12), (u_14 13), (u_14 14), (u_14 15), (u_14 16), (u_14 17), (u_14 18), (u_14 19), (u_14 20), (u_14 21), (u_14 22), (u_14 23), (u_14 24), (u_14 25), (u_14 26), undef, undef, undef, undef, undef, undef, undef, undef] ∧ LOk w0.heap.size [some g_1] F w' ∧ Below w0.heap.size w0 w' ∧ Bx w' g_1 [.int .i64 0, .int .u8 0] 23 ∧ m18_J3 fuel r_1 r_5 n_8 = some r) ?_ ?_
          · refine cw_seq ?_
            refine cw_region ?_
            refine wl_val (v := .string ⟨⟨r_2.1⟩⟩) (w' := w_10) (by kernel_rfl) (run_move (v := .string ⟨⟨r_2.1⟩⟩) (by kernel_rfl)) ?_
            refine wl_val (v := .string ⟨⟨r_5⟩⟩) (w' := w_10) (by kernel_rfl) (run_move (v := .string ⟨⟨r_5⟩⟩) (by kernel_rfl)) ?_
            refine wl_val (v := .agg #[.string ⟨⟨r_2.1⟩⟩, .string ⟨⟨r_5⟩⟩]) (w' := w_10) (by kernel_rfl) (by kernel_rfl) ?_
            refine wl_val (v := .int .i64 0) (w' := w_10) (by kernel_rfl) (run_move (v := .int .i64 0) (by kernel_rfl)) ?_
            refine wl_nil ?_
            refine then_n ?_
            refine cw_block ?_
            refine cw_loop (σ := Int × Int) (m18_L5 fuel r_1 r_2 r_5) r (fun s l' w' => ∃ u_20 : Nat → Value, l' = [.string ⟨⟨p0_0⟩⟩, undef, .pointer (some ⟨g_1, 0, none⟩), (u_20 0), .string ⟨⟨r_1.1⟩⟩, .bool r_1.2, .string ⟨⟨r_2.1⟩⟩, .string ⟨⟨r_5⟩⟩, .bool r_2.2.2, .int .i64 s.1, undef, (u_20 1), (u_20 2), .tuple #[.string ⟨⟨r_1.1⟩⟩, .bool r_1.2], .string ⟨⟨p0_0⟩⟩, .tuple #[.string ⟨⟨r_1.1⟩⟩, .bool r_1.2], .string ⟨⟨r_1.1⟩⟩, .bool r_1.2, .tuple #[.string ⟨⟨r_2.1⟩⟩, .string ⟨⟨r_2.2.1⟩⟩, .bool r_2.2.2], .string ⟨⟨r_1.1⟩⟩, .tuple #[.string ⟨⟨r_2.1⟩⟩, .string ⟨⟨r_2.2.1⟩⟩, .bool r_2.2.2], .string ⟨⟨r_2.1⟩⟩, .string ⟨⟨r_2.2.1⟩⟩, .bool r_2.2.2, (u_1 0), (u_1 1), (u_1 2), (u_1 3), (u_1 4), (u_1 5), (u_1 6), (u_1 7), (u_1 8), (u_1 9), (u_1 10), (u_1 11), .bool x_1, undef, (u_2 0), (u_2 1), (u_2 2), (u_2 3), (u_2 4), (u_2 5), (u_2 6), (u_2 7), (u_2 8), (u_2 9), .bool x_2, undef, .string ⟨⟨r_2.2.1⟩⟩, .string ⟨⟨r_5⟩⟩, .string ⟨⟨r_2.1⟩⟩, .string ⟨⟨r_5⟩⟩, .agg #[.string ⟨⟨r_2.1⟩⟩, .string ⟨⟨r_5⟩⟩], .int .i64 s.2, (u_20 3), (u_20 4), (u_20 5), (u_20 6), (u_20 7), (u_20 8), (u_20 9), (u_20 10), (u_20 11), (u_20 12), (u_20 13), (u_20 14), (u_20 15), (u_20 16), (u_20 17), (u_20 18), (u_20 19), (u_20 20), (u_20 21), (u_20 22), undef, undef, undef, undef, undef, undef, undef, undef] ∧ LOk w0.heap.size [some g_1] F w' ∧ Below w0.heap.size w0 w' ∧ Bx w' g_1 [.int .i64 0, .int .u8 0] 23) ?_ (s := (0, 0)) (n := fuel) ⟨(fun i => ([.bool false, undef, undef, undef, undef, undef, undef, undef, undef, undef, undef, undef, undef, undef, undef, undef, undef, undef, undef, undef, undef, undef, undef] : List Value).getD i undef), by kernel_rfl, hL, hB, h_1⟩ hm
            intro self_1 s l1 w_29 hI hm
            obtain ⟨n_12, x_20⟩ := s
            try dsimp only at hI
            obtain ⟨u_20, rfl, hL, hB, h_1⟩ := hI
            unfold m18_L5 at hm
            refine cw_seq ?_
            refine cw_region ?_
            refine wl_val (v := .bool (lt x_20 2)) (w' := w_29) (by kernel_rfl) (run_lt (k := .i64) (a := x_20) (b := 2) (by kernel_rfl) (by kernel_rfl)) ?_
            refine wl_nil ?_
            refine then_n ?_
            refine cw_seq ?_
            refine cw_cond (t := (lt x_20 2)) (by kernel_rfl) (fun hc_44 => ?_) (fun hc_44 => ?_)
            · have hm := ite_t hm hc_44
              refine cw_skip ?_
              refine then_n ?_
              refine cw_cut (fun l' w' => ∃ n_16, ∃ u_26 : Nat → Value, l' = [.string ⟨⟨p0_0⟩⟩, undef, .pointer (some ⟨g_1, 0, none⟩), (u_26 0), .string ⟨⟨r_1.1⟩⟩, .bool r_1.2, .string ⟨⟨r_2.1⟩⟩, .string ⟨⟨r_5⟩⟩, .bool r_2.2.2, .int .i64 n_16, undef, (u_26 1), (u_26 2), .tuple #[.string ⟨⟨r_1.1⟩⟩, .bool r_1.2], .string ⟨⟨p0_0⟩⟩, .tuple #[.string ⟨⟨r_1.1⟩⟩, .bool r_1.2], .string ⟨⟨r_1.1⟩⟩, .bool r_1.2, .tuple #[.string ⟨⟨r_2.1⟩⟩, .string ⟨⟨r_2.2.1⟩⟩, .bool r_2.2.2], .string ⟨⟨r_1.1⟩⟩, .tuple #[.string ⟨⟨r_2.1⟩⟩, .string ⟨⟨r_2.2.1⟩⟩, .bool r_2.2.2], .string ⟨⟨r_2.1⟩⟩, .string ⟨⟨r_2.2.1⟩⟩, .bool r_2.2.2, (u_1 0), (u_1 1), (u_1 2), (u_1 3), (u_1 4), (u_1 5), (u_1 6), (u_1 7), (u_1 8), (u_1 9), (u_1 10), (u_1 11), .bool x_1, undef, (u_2 0), (u_2 1), (u_2 2), (u_2 3), (u_2 4), (u_2 5), (u_2 6), (u_2 7), (u_2 8), (u_2 9), .bool x_2, undef, .string ⟨⟨r_2.2.1⟩⟩, .string ⟨⟨r_5⟩⟩, .string ⟨⟨r_2.1⟩⟩, .string ⟨⟨r_5⟩⟩, .agg #[.string ⟨⟨r_2.1⟩⟩, .string ⟨⟨r_5⟩⟩], .int .i64 x_20, .bool (lt x_20 2), (u_26 3), (u_26 4), (u_26 5), (u_26 6), (u_26 7), (u_26 8), (u_26 9), (u_26 10), (u_26 11), (u_26 12), (u_26 13), (u_26 14), (u_26 15), (u_26 16), (u_26 17), (u_26 18), (u_26 19), (u_26 20), (u_20 22), undef, undef, undef, undef, undef, undef, undef, undef] ∧ LOk w0.heap.size [some g_1] F w' ∧ Below w0.heap.size w0 w' ∧ Bx w' g_1 [.int .i64 0, .int .u8 0] 23 ∧ m18_J6 fuel x_20 self_1 n_16 = some r) ?_ ?_
              · refine cw_block ?_
                refine cw_seq ?_
                refine cw_region ?_
                obtain ⟨e_7, h_96, hm⟩ := bind_e hm
                obtain ⟨h_970, h_971, _⟩ := at_some h_96
                refine wl_val (v := .string ⟨⟨e_7⟩⟩) (w' := w_29) (by kernel_rfl) (run_index_arr (kv := fun z : List UInt8 => Value.string ⟨⟨z⟩⟩) (xs := [r_2.1, r_5]) (k := .i64) (j := x_20) Tryd.underlying66 rfl Tryd.underlying9 rfl sz_9 (by kernel_rfl) (by kernel_rfl) h_970 h_971) ?_
                refine wl_val (v := .string ⟨⟨e_7⟩⟩) (w' := w_29) (by kernel_rfl) (run_assign (v := .string ⟨⟨e_7⟩⟩) (by kernel_rfl)) ?_
                refine wl_nil ?_
                refine then_n ?_
                refine cw_seq ?_
                refine cw_region ?_
                refine wl_val (v := .string ⟨⟨e_7⟩⟩) (w' := w_29) (by kernel_rfl) (run_move (v := .string ⟨⟨e_7⟩⟩) (by kernel_rfl)) ?_
                refine wl_val (v := .int .i64 (e_7.length : Int)) (w' := w_29) (by kernel_rfl) (run_len_str (s := e_7) Tryd.underlying9 (by kernel_rfl)) ?_
                refine wl_val (v := .int .i64 0) (w' := w_29) (by kernel_rfl) (run_move (v := .int .i64 0) (by kernel_rfl)) ?_
                refine wl_nil ?_
                refine then_n ?_
                refine cw_block ?_
                refine cw_loop (σ := Int × Int) (m18_L7 fuel x_20 self_1 e_7) r (fun s l' w' => ∃ u_28 : Nat → Value, l' = [.string ⟨⟨p0_0⟩⟩, undef, .pointer (some ⟨g_1, 0, none⟩), (u_28 0), .string ⟨⟨r_1.1⟩⟩, .bool r_1.2, .string ⟨⟨r_2.1⟩⟩, .string ⟨⟨r_5⟩⟩, .bool r_2.2.2, .int .i64 s.1, undef, .string ⟨⟨e_7⟩⟩, (u_28 1), .tuple #[.string ⟨⟨r_1.1⟩⟩, .bool r_1.2], .string ⟨⟨p0_0⟩⟩, .tuple #[.string ⟨⟨r_1.1⟩⟩, .bool r_1.2], .string ⟨⟨r_1.1⟩⟩, .bool r_1.2, .tuple #[.string ⟨⟨r_2.1⟩⟩, .string ⟨⟨r_2.2.1⟩⟩, .bool r_2.2.2], .string ⟨⟨r_1.1⟩⟩, .tuple #[.string ⟨⟨r_2.1⟩⟩, .string ⟨⟨r_2.2.1⟩⟩, .bool r_2.2.2], .string ⟨⟨r_2.1⟩⟩, .string ⟨⟨r_2.2.1⟩⟩, .bool r_2.2.2, (u_1 0), (u_1 1), (u_1 2), (u_1 3), (u_1 4), (u_1 5), (u_1 6), (u_1 7), (u_1 8), (u_1 9), (u_1 10), (u_1 11), .bool x_1, undef, (u_2 0), (u_2 1), (u_2 2), (u_2 3), (u_2 4), (u_2 5), (u_2 6), (u_2 7), (u_2 8), (u_2 9), .bool x_2, undef, .string ⟨⟨r_2.2.1⟩⟩, .string ⟨⟨r_5⟩⟩, .string ⟨⟨r_2.1⟩⟩, .string ⟨⟨r_5⟩⟩, .agg #[.string ⟨⟨r_2.1⟩⟩, .string ⟨⟨r_5⟩⟩], .int .i64 x_20, .bool (lt x_20 2), .string ⟨⟨e_7⟩⟩, .string ⟨⟨e_7⟩⟩, .int .i64 (e_7.length : Int), .int .i64 s.2, (u_28 2), (u_28 3), (u_28 4), (u_28 5), (u_28 6), (u_28 7), (u_28 8), (u_28 9), (u_28 10), (u_28 11), (u_28 12), (u_28 13), (u_28 14), (u_28 15), (u_20 22), undef, undef, undef, undef, undef, undef, undef, undef] ∧ LOk w0.heap.size [some g_1] F w' ∧ Below w0.heap.size w0 w' ∧ Bx w' g_1 [.int .i64 0, .int .u8 0] 23) ?_ (s := (n_12, 0)) (n := fuel) ⟨(fun i => ([(u_20 0), (u_20 2), (u_20 8), (u_20 9), (u_20 10), (u_20 11), (u_20 12), (u_20 13), (u_20 14), (u_20 15), (u_20 16), (u_20 17), (u_20 18), (u_20 19), (u_20 20), (u_20 21)] : List Value).getD i undef), by kernel_rfl, hL, hB, h_1⟩ hm
                intro self_2 s l1 w_36 hI hm
                obtain ⟨n_17, x_30⟩ := s
                try dsimp only at hI
                obtain ⟨u_28, rfl, hL, hB, h_1⟩ := hI
                unfold m18_L7 at hm
                refine cw_seq ?_
                refine cw_region ?_
                refine wl_val (v := .bool (lt x_30 (e_7.length : Int))) (w' := w_36) (by kernel_rfl) (run_lt (k := .i64) (a := x_30) (b := (e_7.length : Int)) (by kernel_rfl) (by kernel_rfl)) ?_
                refine wl_nil ?_
                refine then_n ?_
                refine cw_seq ?_
                refine cw_cond (t := (lt x_30 (e_7.length : Int))) (by kernel_rfl) (fun hc_55 => ?_) (fun hc_55 => ?_)
                · have hm := ite_t hm hc_55
                  refine cw_skip ?_
                  refine then_n ?_
                  refine cw_seq ?_
                  refine cw_block ?_
                  refine cw_seq ?_
                  refine cw_region ?_
                  refine wl_val (v := .int .i64 x_30) (w' := w_36) (by kernel_rfl) (run_move (v := .int .i64 x_30) (by kernel_rfl)) ?_
                  refine wl_val (v := .int .i64 x_30) (w' := w_36) (by kernel_rfl) (run_assign (v := .int .i64 x_30) (by kernel_rfl)) ?_
                  refine wl_nil ?_
                  refine then_n ?_
                  refine cw_seq ?_
                  refine cw_region ?_
                  refine wl_val (v := .int .i64 n_17) (w' := w_36) (by kernel_rfl) (run_move (v := .int .i64 n_17) (by kernel_rfl)) ?_
                  refine wl_val (v := .int .i64 (mul .i64 10 n_17)) (w' := w_36) (by kernel_rfl) (run_mul (k := .i64) (a := 10) (b := n_17) (by kernel_rfl) (by kernel_rfl)) ?_
                  refine wl_val (v := .string ⟨⟨e_7⟩⟩) (w' := w_36) (by kernel_rfl) (run_move (v := .string ⟨⟨e_7⟩⟩) (by kernel_rfl)) ?_
                  refine wl_val (v := .int .i64 x_30) (w' := w_36) (by kernel_rfl) (run_move (v := .int .i64 x_30) (by kernel_rfl)) ?_
                  obtain ⟨b_22, h_106, hm⟩ := bind_e hm
                  obtain ⟨h_1070, h_1071, _⟩ := at_some h_106
                  refine wl_val (v := .int .u8 (b_22.toNat : Int)) (w' := w_36) (by kernel_rfl) (run_index_str (s := e_7) (k := .i64) (j := x_30) Tryd.underlying9 (by kernel_rfl) (by kernel_rfl) h_1070 h_1071) ?_
                  refine wl_val (v := .int .u8 (sub .u8 (b_22.toNat : Int) 48)) (w' := w_36) (by kernel_rfl) (run_sub (k := .u8) (a := (b_22.toNat : Int)) (b := 48) (by kernel_rfl) (by kernel_rfl)) ?_
                  refine wl_val (v := .int .i64 (cvt .i64 (sub .u8 (b_22.toNat : Int) 48))) (w' := w_36) (by kernel_rfl) (run_cvt (k := .u8) (a := (sub .u8 (b_22.toNat : Int) 48)) Tryd.underlying5 Tryd.underlying2 (by kernel_rfl)) ?_
                  obtain ⟨x_32, h_108, hm⟩ := bind_e hm
                  refine wl_val (v := .int .i64 x_32) (w' := w_36) (by kernel_rfl) (by rw [← Option.some.inj h_108]; exact run_add (k := .i64) (a := (mul .i64 10 n_17)) (b := (cvt .i64 (sub .u8 (b_22.toNat : Int) 48))) (by kernel_rfl) (by kernel_rfl)) ?_
                  refine wl_val (v := .int .i64 x_32) (w' := w_36) (by kernel_rfl) (run_assign (v := .int .i64 x_32) (by kernel_rfl)) ?_
                  refine wl_nil ?_
                  refine then_n ?_
                  refine cw_norm [.string ⟨⟨p0_0⟩⟩, undef, .pointer (some ⟨g_1, 0, none⟩), (u_28 0), .string ⟨⟨r_1.1⟩⟩, .bool r_1.2, .string ⟨⟨r_2.1⟩⟩, .string ⟨⟨r_5⟩⟩, .bool r_2.2.2, .int .i64 x_32, undef, .string ⟨⟨e_7⟩⟩, .int .i64 x_30, .tuple #[.string ⟨⟨r_1.1⟩⟩, .bool r_1.2], .string ⟨⟨p0_0⟩⟩, .tuple #[.string ⟨⟨r_1.1⟩⟩, .bool r_1.2], .string ⟨⟨r_1.1⟩⟩, .bool r_1.2, .tuple #[.string ⟨⟨r_2.1⟩⟩, .string ⟨⟨r_2.2.1⟩⟩, .bool r_2.2.2], .string ⟨⟨r_1.1⟩⟩, .tuple #[.string ⟨⟨r_2.1⟩⟩, .string ⟨⟨r_2.2.1⟩⟩, .bool r_2.2.2], .string ⟨⟨r_2.1⟩⟩, .string ⟨⟨r_2.2.1⟩⟩, .bool r_2.2.2, (u_1 0), (u_1 1), (u_1 2), (u_1 3), (u_1 4), (u_1 5), (u_1 6), (u_1 7), (u_1 8), (u_1 9), (u_1 10), (u_1 11), .bool x_1, undef, (u_2 0), (u_2 1), (u_2 2), (u_2 3), (u_2 4), (u_2 5), (u_2 6), (u_2 7), (u_2 8), (u_2 9), .bool x_2, undef, .string ⟨⟨r_2.2.1⟩⟩, .string ⟨⟨r_5⟩⟩, .string ⟨⟨r_2.1⟩⟩, .string ⟨⟨r_5⟩⟩, .agg #[.string ⟨⟨r_2.1⟩⟩, .string ⟨⟨r_5⟩⟩], .int .i64 x_20, .bool (lt x_20 2), .string ⟨⟨e_7⟩⟩, .string ⟨⟨e_7⟩⟩, .int .i64 (e_7.length : Int), .int .i64 x_30, .bool (lt x_30 (e_7.length : Int)), .int .i64 x_30, .int .i64 n_17, .int .i64 (mul .i64 10 n_17), .string ⟨⟨e_7⟩⟩, .int .i64 x_30, .int .u8 (b_22.toNat : Int), .int .u8 (sub .u8 (b_22.toNat : Int) 48), .int .i64 (cvt .i64 (sub .u8 (b_22.toNat : Int) 48)), .int .i64 x_32, (u_28 12), (u_28 13), (u_28 14), (u_28 15), (u_20 22), undef, undef, undef, undef, undef, undef, undef, undef] (by kernel_rfl) ?_
                  refine cw_seq ?_
                  refine cw_region ?_
                  refine wl_val (v := .int .i64 x_32) (w' := w_36) (by kernel_rfl) (run_move (v := .int .i64 x_32) (by kernel_rfl)) ?_
                  refine wl_val (v := .bool (gt x_32 1000000000000)) (w' := w_36) (by kernel_rfl) (run_gt (k := .i64) (a := x_32) (b := 1000000000000) (by kernel_rfl) (by kernel_rfl)) ?_
                  refine wl_nil ?_
                  refine then_n ?_
                  refine cw_cond (t := (gt x_32 1000000000000)) (by kernel_rfl) (fun hc_56 => ?_) (fun hc_56 => ?_)
                  · have hm := ite_t hm hc_56
                    refine cw_seq ?_
                    refine cw_region ?_
                    refine wl_val (v := .agg #[.int .i64 0, .int .u8 0]) (w' := w_36) (by kernel_rfl) (by kernel_rfl) ?_
                    refine wl_op (by kernel_rfl) (ow_store_box' (g := g_1) (j := 0) (v := .agg #[.int .i64 0, .int .u8 0]) (vs := [.int .i64 0, .int .u8 0]) (cs' := [.int .i64 0, .int .u8 0]) sz_23 (by kernel_rfl) (by kernel_rfl) rfl rfl rfl hL h_1 rfl (by simp) rfl ?_)
                    intro w_37 hS h_109
                    replace hB := hS.below hL hB
                    replace hL := hS.hL
                    refine wl_val (v := .bool false) (w' := w_37) (by kernel_rfl) (run_assign (v := .bool false) (by kernel_rfl)) ?_
                    refine wl_nil ?_
                    refine then_n ?_
                    refine cw_ret ?_
                    refine inBlock_ret ?_
                    refine then_ret ?_
                    refine then_ret ?_
                    refine inBlock_ret ?_
                    refine inBlock_ret ?_
                    refine then_ret ?_
                    refine then_ret ?_
                    refine inBlock_ret ?_
                    refine then_ret ?_
                    have hl0 := loadVar_boxn (P := Tryd.prog) (j := 0) (vs := [.int .i64 0, .int .u8 0]) Tryd.underlying23 rfl sz_23 h_109 (by kernel_rfl) rfl
                    have hS : Stp w0.heap.size _ [] F [] w_37 _ := Stp.pick hL [] rfl (by decide)
                    replace hB := hS.below hL hB
                    replace hL := hS.hL
                    obtain rfl := Option.some.inj hm
                    exact ret2 (v := .agg #[.int .i64 0, .int .u8 0]) (v' := .bool false) rfl (resv_cell (ad := ⟨g_1, 0, none⟩) (by kernel_rfl) hl0) (resv_tmp (by kernel_rfl)) ⟨_, rfl, by kernel_rfl, hB⟩
                  · have hm := ite_f hm hc_56
                    refine cw_skip ?_
                    refine inBlock_n ?_
                    refine then_n ?_
                    refine cw_region ?_
                    refine wl_val (v := .int .i64 (add .i64 x_30 1)) (w' := w_36) (by kernel_rfl) (run_add (k := .i64) (a := x_30) (b := 1) (by kernel_rfl) (by kernel_rfl)) ?_
                    refine wl_val (v := .int .i64 (add .i64 x_30 1)) (w' := w_36) (by kernel_rfl) (run_move (v := .int .i64 (add .i64 x_30 1)) (by kernel_rfl)) ?_
                    refine wl_nil ?_
                    exact ⟨_, rfl, (x_32, (add .i64 x_30 1)), ⟨(fun i => ([(u_28 0), .int .i64 x_30, .bool (lt x_30 (e_7.length : Int)), .int .i64 x_30, .int .i64 n_17, .int .i64 (mul .i64 10 n_17), .string ⟨⟨e_7⟩⟩, .int .i64 x_30, .int .u8 (b_22.toNat : Int), .int .u8 (sub .u8 (b_22.toNat : Int) 48), .int .i64 (cvt .i64 (sub .u8 (b_22.toNat : Int) 48)), .int .i64 x_32, .int .i64 x_32, .bool (gt x_32 1000000000000), (u_28 14), .int .i64 (add .i64 x_30 1)] : List Value).getD i undef), by kernel_rfl, hL, hB, h_1⟩, hm⟩
                · have hm := ite_f hm hc_55
                  refine cw_exit ?_
                  refine then_exit ?_
                  refine then_exit ?_
                  refine inBlock_same ?_
                  refine inBlock_n ?_
                  exact then_c ⟨n_17, (fun i => ([(u_28 0), .string ⟨⟨e_7⟩⟩, (u_28 1), .string ⟨⟨e_7⟩⟩, .string ⟨⟨e_7⟩⟩, .int .i64 (e_7.length : Int), .int .i64 x_30, .bool (lt x_30 (e_7.length : Int)), (u_28 3), (u_28 4), (u_28 5), (u_28 6), (u_28 7), (u_28 8), (u_28 9), (u_28 10), (u_28 11), (u_28 12), (u_28 13), (u_28 14), (u_28 15)] : List Value).getD i undef), by kernel_rfl, hL, hB, h_1, hm⟩
              · intro l1 w_33 hI
                obtain ⟨n_16, u_26, rfl, hL, hB, h_1, hm⟩ := hI
                unfold m18_J6 at hm
                refine cw_region ?_
                refine wl_val (v := .int .i64 (add .i64 x_20 1)) (w' := w_33) (by kernel_rfl) (run_add (k := .i64) (a := x_20) (b := 1) (by kernel_rfl) (by kernel_rfl)) ?_
                refine wl_val (v := .int .i64 (add .i64 x_20 1)) (w' := w_33) (by kernel_rfl) (run_move (v := .int .i64 (add .i64 x_20 1)) (by kernel_rfl)) ?_
                refine wl_nil ?_
                exact ⟨_, rfl, (n_16, (add .i64 x_20 1)), ⟨(fun i => ([(u_26 0), (u_26 1), (u_26 2), .bool (lt x_20 2), (u_26 3), (u_26 4), (u_26 5), (u_26 6), (u_26 7), (u_26 8), (u_26 9), (u_26 10), (u_26 11), (u_26 12), (u_26 13), (u_26 14), (u_26 15), (u_26 16), (u_26 17), (u_26 18), (u_26 19), (u_26 20), .int .i64 (add .i64 x_20 1)] : List Value).getD i undef), by kernel_rfl, hL, hB, h_1⟩, hm⟩
            · have hm := ite_f hm hc_44
              refine cw_exit ?_
              refine then_exit ?_
              refine then_exit ?_
              refine inBlock_same ?_
              exact then_c ⟨n_12, (fun i => ([(u_20 0), (u_20 1), (u_20 2), .string ⟨⟨r_2.1⟩⟩, .string ⟨⟨r_5⟩⟩, .agg #[.string ⟨⟨r_2.1⟩⟩, .string ⟨⟨r_5⟩⟩], .int .i64 x_20, .bool (lt x_20 2), (u_20 4), (u_20 5), (u_20 6), (u_20 7), (u_20 8), (u_20 9), (u_20 10), (u_20 11), (u_20 12), (u_20 13), (u_20 14), (u_20 15), (u_20 16), (u_20 17), (u_20 18), (u_20 19), (u_20 20), (u_20 21), (u_20 22)] : List Value).getD i undef), by kernel_rfl, hL, hB, h_1, hm⟩
          · intro l1 w_20 hI
            obtain ⟨n_8, u_14, rfl, hL, hB, h_1, hm⟩ := hI
            unfold m18_J3 at hm
            refine cw_cut (fun l' w' => ∃ n_9, ∃ u_15 : Nat → Value, l' = [.string ⟨⟨p0_0⟩⟩, undef, .pointer (some ⟨g_1, 0, none⟩), (u_14 0), .string ⟨⟨r_1.1⟩⟩, .bool r_1.2, .string ⟨⟨r_2.1⟩⟩, .string ⟨⟨r_5⟩⟩, .bool r_2.2.2, .int .i64 n_9, undef, (u_14 1), (u_14 2), .tuple #[.string ⟨⟨r_1.1⟩⟩, .bool r_1.2], .string ⟨⟨p0_0⟩⟩, .tuple #[.string ⟨⟨r_1.1⟩⟩, .bool r_1.2], .string ⟨⟨r_1.1⟩⟩, .bool r_1.2, .tuple #[.string ⟨⟨r_2.1⟩⟩, .string ⟨⟨r_2.2.1⟩⟩, .bool r_2.2.2], .string ⟨⟨r_1.1⟩⟩, .tuple #[.string ⟨⟨r_2.1⟩⟩, .string ⟨⟨r_2.2.1⟩⟩, .bool r_2.2.2], .string ⟨⟨r_2.1⟩⟩, .string ⟨⟨r_2.2.1⟩⟩, .bool r_2.2.2, (u_1 0), (u_1 1), (u_1 2), (u_1 3), (u_1 4), (u_1 5), (u_1 6), (u_1 7), (u_1 8), (u_1 9), (u_1 10), (u_1 11), .bool x_1, undef, (u_2 0), (u_2 1), (u_2 2), (u_2 3), (u_2 4), (u_2 5), (u_2 6), (u_2 7), (u_2 8), (u_2 9), .bool x_2, undef, .string ⟨⟨r_2.2.1⟩⟩, .string ⟨⟨r_5⟩⟩, (u_14 3), (u_14 4), (u_14 5), (u_14 6), (u_14 7), (u_14 8), (u_14 9), (u_14 10), (u_14 11), (u_14 12), (u_14 13), (u_14 14), (u_14 15), (u_14 16), (u_14 17), (u_14 18), (u_14 19), (u_14 20), (u_14 21), (u_14 22), (u_14 23), (u_14 24), (u_14 25), (u_14 26), (u_15 0), (u_15 1), (u_15 2), undef, undef, undef, undef, undef] ∧ LOk w0.heap.size [some g_1] F w' ∧ Below w0.heap.size w0 w' ∧ Bx w' g_1 [.int .i64 0, .int .u8 0] 23 ∧ m18_J4 fuel r_5 n_9 = some r) ?_ ?_
            · refine cw_seq ?_
              refine cw_region ?_
              refine wl_val (v := .bool r_1.2) (w' := w_20) (by kernel_rfl) (run_move (v := .bool r_1.2) (by kernel_rfl)) ?_
              refine wl_nil ?_
              refine then_n ?_
              refine cw_cond (t := r_1.2) (by kernel_rfl) (fun hc_29 => ?_) (fun hc_29 => ?_)
              · have hm := ite_t hm hc_29
                refine cw_region ?_
                refine wl_val (v := .int .i64 n_8) (w' := w_20) (by kernel_rfl) (run_move (v := .int .i64 n_8) (by kernel_rfl)) ?_
                refine wl_val (v := .int .i64 (neg .i64 n_8)) (w' := w_20) (by kernel_rfl) (run_neg (k := .i64) (a := n_8) (by kernel_rfl)) ?_
                refine wl_val (v := .int .i64 (neg .i64 n_8)) (w' := w_20) (by kernel_rfl) (run_assign (v := .int .i64 (neg .i64 n_8)) (by kernel_rfl)) ?_
                refine wl_nil ?_
                exact then_c ⟨(neg .i64 n_8), (fun i => ([.bool r_1.2, .int .i64 n_8, .int .i64 (neg .i64 n_8)] : List Value).getD i undef), by kernel_rfl, hL, hB, h_1, hm⟩
              · have hm := ite_f hm hc_29
                refine cw_skip ?_
                exact then_c ⟨n_8, (fun i => ([.bool r_1.2, undef, undef] : List Value).getD i undef), by kernel_rfl, hL, hB, h_1, hm⟩
            · intro l1 w_21 hI
              obtain ⟨n_9, u_15, rfl, hL, hB, h_1, hm⟩ := hI
              unfold m18_J4 at hm
              refine cw_seq ?_
              refine cw_region ?_
              refine wl_val (v := .int .i64 n_9) (w' := w_21) (by kernel_rfl) (run_move (v := .int .i64 n_9) (by kernel_rfl)) ?_
              refine wl_val (v := .string ⟨⟨r_5⟩⟩) (w' := w_21) (by kernel_rfl) (run_move (v := .string ⟨⟨r_5⟩⟩) (by kernel_rfl)) ?_
              refine wl_val (v := .int .i64 (r_5.length : Int)) (w' := w_21) (by kernel_rfl) (run_len_str (s := r_5) Tryd.underlying9 (by kernel_rfl)) ?_
              refine wl_val (v := .int .u8 (cvt .u8 (r_5.length : Int))) (w' := w_21) (by kernel_rfl) (run_cvt (k := .i64) (a := (r_5.length : Int)) Tryd.underlying3 Tryd.underlying5 (by kernel_rfl)) ?_
              refine wl_val (v := .agg #[.int .i64 n_9, .int .u8 (cvt .u8 (r_5.length : Int))]) (w' := w_21) (by kernel_rfl) (by kernel_rfl) ?_
              refine wl_op (by kernel_rfl) (ow_store_box' (g := g_1) (j := 0) (v := .agg #[.int .i64 n_9, .int .u8 (cvt .u8 (r_5.length : Int))]) (vs := [.int .i64 n_9, .int .u8 (cvt .u8 (r_5.length : Int))]) (cs' := [.int .i64 n_9, .int .u8 (cvt .u8 (r_5.length : Int))]) sz_23 (by kernel_rfl) (by kernel_rfl) rfl rfl rfl hL h_1 rfl (by simp) rfl ?_)
              intro w_22 hS h_53
              replace hB := hS.below hL hB
              replace hL := hS.hL
              refine wl_val (v := .bool true) (w' := w_22) (by kernel_rfl) (run_assign (v := .bool true) (by kernel_rfl)) ?_
              refine wl_nil ?_
              refine then_n ?_
              refine cw_ret ?_
              have hl0 := loadVar_boxn (P := Tryd.prog) (j := 0) (vs := [.int .i64 n_9, .int .u8 (cvt .u8 (r_5.length : Int))]) Tryd.underlying23 rfl sz_23 h_53 (by kernel_rfl) rfl
              have hS : Stp w0.heap.size _ [] F [] w_22 _ := Stp.pick hL [] rfl (by decide)
              replace hB := hS.below hL hB
              replace hL := hS.hL
              obtain rfl := Option.some.inj hm
              exact ret2 (v := .agg #[.int .i64 n_9, .int .u8 (cvt .u8 (r_5.length : Int))]) (v' := .bool true) rfl (resv_cell (ad := ⟨g_1, 0, none⟩) (by kernel_rfl) hl0) (resv_tmp (by kernel_rfl)) ⟨_, rfl, by kernel_rfl, hB⟩
end SxYtihfogahdofdmaaDoor

/- Written by program (gen.py): the model of math/bits.Mul32, and the proof that its code computes it. -/
namespace SxYtihfogahdofdmaaDoor
open Go Go.RowKit Sx Go.Proofs
set_option linter.unusedVariables false
set_option linter.unusedSimpArgs false
attribute [local irreducible] WL WX CW OW
/-! ### 65: "math/bits.Mul32" -/
def m65 (fuel : Nat) (p0_0 : Int) (p1_0 : Int) : Option (Int × Int) :=
  (some (cvt .u32 (shr .u64 (mul .u64 (cvt .u64 p0_0) (cvt .u64 p1_0)) 32))).bind fun x_1 => some (x_1, (cvt .u32 (mul .u64 (cvt .u64 p0_0) (cvt .u64 p1_0))))
@[reducible] def Q65 (F : Lx) (w0 : World) (r : (Int × Int)) (v : Value) (w' : World) : Prop := v = .tuple #[.int .u32 r.1, .int .u32 r.2] ∧ Below w0.heap.size w0 w'
set_option maxRecDepth 100000 in
set_option maxHeartbeats 4000000 in
theorem f65_ok (fuel : Nat) (F : Lx) (w0 : World) (hF : ∀ k, some k ∈ F → k < w0.heap.size) {p0_0 : Int} {p1_0 : Int} {r : (Int × Int)} (hm : m65 fuel p0_0 p1_0 = some r) :
    Calls Tryd.prog 65 #[.int .u32 p0_0, .int .u32 p1_0] w0 (fun e w' => ∃ v, e = .returned v ∧ Q65 F w0 r v w') := by
  have hPF : PF (bodyPost Tryd.prog Tryd.f65 (fun e w' => ∃ v, e = .returned v ∧ Q65 F w0 r v w')) := PF.body (fun c w h => by obtain ⟨v, e, _⟩ := h; cases e)
  have hL := LOk.start hF
  have hB := Below.refl w0.heap.size w0
  unfold m65 at hm
  refine enter (l := [.int .u32 p0_0, .int .u32 p1_0, undef, undef, undef, undef, undef, undef, undef, undef, undef, undef, undef, undef, undef, undef, undef]) Tryd.func65 rfl Tryd.ntmps65 (by kernel_rfl) ?_
  refine cw_seq ?_
  refine cw_region ?_
  refine wl_val (v := .int .u32 0) (w' := w0) (by kernel_rfl) (run_assign (v := .int .u32 0) (by kernel_rfl)) ?_
  refine wl_val (v := .int .u32 0) (w' := w0) (by kernel_rfl) (run_assign (v := .int .u32 0) (by kernel_rfl)) ?_
  refine wl_nil ?_
  refine then_n ?_
  refine cw_seq ?_
  refine cw_region ?_
  refine wl_val (v := .int .u32 p0_0) (w' := w0) (by kernel_rfl) (run_move (v := .int .u32 p0_0) (by kernel_rfl)) ?_
  refine wl_val (v := .int .u64 (cvt .u64 p0_0)) (w' := w0) (by kernel_rfl) (run_cvt (k := .u32) (a := p0_0) Tryd.underlying96 Tryd.underlying55 (by kernel_rfl)) ?_
  refine wl_val (v := .int .u32 p1_0) (w' := w0) (by kernel_rfl) (run_move (v := .int .u32 p1_0) (by kernel_rfl)) ?_
  refine wl_val (v := .int .u64 (cvt .u64 p1_0)) (w' := w0) (by kernel_rfl) (run_cvt (k := .u32) (a := p1_0) Tryd.underlying96 Tryd.underlying55 (by kernel_rfl)) ?_
  refine wl_val (v := .int .u64 (mul .u64 (cvt .u64 p0_0) (cvt .u64 p1_0))) (w' := w0) (by kernel_rfl) (run_mul (k := .u64) (a := (cvt .u64 p0_0)) (b := (cvt .u64 p1_0)) (by kernel_rfl) (by kernel_rfl)) ?_
  refine wl_val (v := .int .u64 (mul .u64 (cvt .u64 p0_0) (cvt .u64 p1_0))) (w' := w0) (by kernel_rfl) (run_assign (v := .int .u64 (mul .u64 (cvt .u64 p0_0) (cvt .u64 p1_0))) (by kernel_rfl)) ?_
  refine wl_nil ?_
  refine then_n ?_
  refine cw_seq ?_
  refine cw_region ?_
  refine wl_val (v := .int .u64 (mul .u64 (cvt .u64 p0_0) (cvt .u64 p1_0))) (w' := w0) (by kernel_rfl) (run_move (v := .int .u64 (mul .u64 (cvt .u64 p0_0) (cvt .u64 p1_0))) (by kernel_rfl)) ?_
  refine wl_val (v := .int .u64 (shr .u64 (mul .u64 (cvt .u64 p0_0) (cvt .u64 p1_0)) 32)) (w' := w0) (by kernel_rfl) (run_shr (k := .u64) (a := (mul .u64 (cvt .u64 p0_0) (cvt .u64 p1_0))) (k' := .u64) (b := 32) (by kernel_rfl) (by kernel_rfl) rfl) ?_
  obtain ⟨x_1, h_1, hm⟩ := bind_e hm
  refine wl_val (v := .int .u32 x_1) (w' := w0) (by kernel_rfl) (by rw [← Option.some.inj h_1]; exact run_cvt (k := .u64) (a := (shr .u64 (mul .u64 (cvt .u64 p0_0) (cvt .u64 p1_0)) 32)) Tryd.underlying55 Tryd.underlying96 (by kernel_rfl)) ?_
  refine wl_val (v := .int .u64 (mul .u64 (cvt .u64 p0_0) (cvt .u64 p1_0))) (w' := w0) (by kernel_rfl) (run_move (v := .int .u64 (mul .u64 (cvt .u64 p0_0) (cvt .u64 p1_0))) (by kernel_rfl)) ?_
  refine wl_val (v := .int .u32 (cvt .u32 (mul .u64 (cvt .u64 p0_0) (cvt .u64 p1_0)))) (w' := w0) (by kernel_rfl) (run_cvt (k := .u64) (a := (mul .u64 (cvt .u64 p0_0) (cvt .u64 p1_0))) Tryd.underlying55 Tryd.underlying96 (by kernel_rfl)) ?_
  refine wl_val (v := .int .u32 x_1) (w' := w0) (by kernel_rfl) (run_assign (v := .int .u32 x_1) (by kernel_rfl)) ?_
  refine wl_norm [.int .u32 p0_0, .int .u32 p1_0, undef, undef, .int .u32 x_1, .int .u32 0, .int .u64 (mul .u64 (cvt .u64 p0_0) (cvt .u64 p1_0)), .int .u32 p0_0, .int .u64 (cvt .u64 p0_0), .int .u32 p1_0, .int .u64 (cvt .u64 p1_0), .int .u64 (mul .u64 (cvt .u64 p0_0) (cvt .u64 p1_0)), .int .u64 (mul .u64 (cvt .u64 p0_0) (cvt .u64 p1_0)), .int .u64 (shr .u64 (mul .u64 (cvt .u64 p0_0) (cvt .u64 p1_0)) 32), .int .u32 x_1, .int .u64 (mul .u64 (cvt .u64 p0_0) (cvt .u64 p1_0)), .int .u32 (cvt .u32 (mul .u64 (cvt .u64 p0_0) (cvt .u64 p1_0)))] (by kernel_rfl) ?_
  refine wl_val (v := .int .u32 (cvt .u32 (mul .u64 (cvt .u64 p0_0) (cvt .u64 p1_0)))) (w' := w0) (by kernel_rfl) (run_assign (v := .int .u32 (cvt .u32 (mul .u64 (cvt .u64 p0_0) (cvt .u64 p1_0)))) (by kernel_rfl)) ?_
  refine wl_nil ?_
  refine then_n ?_
  refine cw_ret ?_
  obtain rfl := Option.some.inj hm
  exact ret2 (v := .int .u32 x_1) (v' := .int .u32 (cvt .u32 (mul .u64 (cvt .u64 p0_0) (cvt .u64 p1_0)))) rfl (resv_tmp (by kernel_rfl)) (resv_tmp (by kernel_rfl)) ⟨_, rfl, by kernel_rfl, hB⟩
end SxYtihfogahdofdmaaDoor

/- Written by program (gen.py): the model of math/bits.Mul, and the proof that its code computes it. -/
namespace SxYtihfogahdofdmaaDoor
open Go Go.RowKit Sx Go.Proofs
set_option linter.unusedVariables false
set_option linter.unusedSimpArgs false
attribute [local irreducible] WL WX CW OW
/-! ### 49: "math/bits.Mul" -/
def m49 (fuel : Nat) (p0_0 : Int) (p1_0 : Int) : Option (Int × Int) :=
  (m36 fuel p0_0 p1_0).bind fun r_1 => some (r_1.1, r_1.2)
@[reducible] def Q49 (F : Lx) (w0 : World) (r : (Int × Int)) (v : Value) (w' : World) : Prop := v = .tuple #[.int .u64 r.1, .int .u64 r.2] ∧ Below w0.heap.size w0 w'
set_option maxRecDepth 100000 in
set_option maxHeartbeats 4000000 in
theorem f49_ok (fuel : Nat) (F : Lx) (w0 : World) (hF : ∀ k, some k ∈ F → k < w0.heap.size) {p0_0 : Int} {p1_0 : Int} {r : (Int × Int)} (hm : m49 fuel p0_0 p1_0 = some r) :
    Calls Tryd.prog 49 #[.int .u64 p0_0, .int .u64 p1_0] w0 (fun e w' => ∃ v, e = .returned v ∧ Q49 F w0 r v w') := by
  have hPF : PF (bodyPost Tryd.prog Tryd.f49 (fun e w' => ∃ v, e = .returned v ∧ Q49 F w0 r v w')) := PF.body (fun c w h => by obtain ⟨v, e, _⟩ := h; cases e)
  have hL := LOk.start hF
  have hB := Below.refl w0.heap.size w0
  unfold m49 at hm
  refine enter (l := [.int .u64 p0_0, .int .u64 p1_0, undef, undef, undef, undef, undef, undef, undef, undef, undef, undef, undef, undef, undef, undef, undef, undef, undef, undef, undef, undef, undef, undef, undef, undef, undef, undef, undef, undef]) Tryd.func49 rfl Tryd.ntmps49 (by kernel_rfl) ?_
  refine cw_seq ?_
  refine cw_region ?_
  refine wl_val (v := .int .u64 0) (w' := w0) (by kernel_rfl) (run_assign (v := .int .u64 0) (by kernel_rfl)) ?_
  refine wl_val (v := .int .u64 0) (w' := w0) (by kernel_rfl) (run_assign (v := .int .u64 0) (by kernel_rfl)) ?_
  refine wl_nil ?_
  refine then_n ?_
  refine cw_seq ?_
  refine cw_cond (t := false) (by kernel_rfl) (fun hc => by cases hc) (fun _ => ?_)
  refine cw_skip ?_
  refine then_n ?_
  refine cw_seq ?_
  refine cw_region ?_
  refine wl_val (v := .int .u64 p0_0) (w' := w0) (by kernel_rfl) (run_move (v := .int .u64 p0_0) (by kernel_rfl)) ?_
  refine wl_val (v := .int .u64 p1_0) (w' := w0) (by kernel_rfl) (run_move (v := .int .u64 p1_0) (by kernel_rfl)) ?_
  obtain ⟨r_1, h_1, hm⟩ := bind_e hm
  refine wl_op (by kernel_rfl) (ow_enter (run_callf (vs := [.int .u64 p0_0, .int .u64 p1_0]) Tryd.func36 nm_36 (by kernel_rfl) (by kernel_rfl)) (f36_ok (p0_0 := p0_0) (p1_0 := p1_0) fuel _ w0 hL.lt  h_1) ?_)
  intro vR w_1 hR
  obtain ⟨rfl, hBe⟩ := hR
  have hS := Stp.call hL (Fz.of_below hBe [])
  replace hB := hS.below hL hB
  replace hL := hS.hL
  refine wl_val (v := .tuple #[.int .u64 r_1.1, .int .u64 r_1.2]) (w' := w_1) (by kernel_rfl) (run_move (v := .tuple #[.int .u64 r_1.1, .int .u64 r_1.2]) (by kernel_rfl)) ?_
  refine wl_val (v := .int .u64 r_1.1) (w' := w_1) (by kernel_rfl) (run_extract (vs := #[.int .u64 r_1.1, .int .u64 r_1.2]) (by kernel_rfl) (by kernel_rfl)) ?_
  refine wl_val (v := .int .u64 r_1.2) (w' := w_1) (by kernel_rfl) (run_extract (vs := #[.int .u64 r_1.1, .int .u64 r_1.2]) (by kernel_rfl) (by kernel_rfl)) ?_
  refine wl_val (v := .int .u64 r_1.1) (w' := w_1) (by kernel_rfl) (run_assign (v := .int .u64 r_1.1) (by kernel_rfl)) ?_
  refine wl_val (v := .int .u64 r_1.2) (w' := w_1) (by kernel_rfl) (run_assign (v := .int .u64 r_1.2) (by kernel_rfl)) ?_
  refine wl_nil ?_
  refine then_n ?_
  refine cw_seq ?_
  refine cw_region ?_
  refine wl_val (v := .int .u64 r_1.1) (w' := w_1) (by kernel_rfl) (run_move (v := .int .u64 r_1.1) (by kernel_rfl)) ?_
  refine wl_val (v := .int .u64 r_1.2) (w' := w_1) (by kernel_rfl) (run_move (v := .int .u64 r_1.2) (by kernel_rfl)) ?_
  refine wl_val (v := .int .u64 r_1.1) (w' := w_1) (by kernel_rfl) (run_assign (v := .int .u64 r_1.1) (by kernel_rfl)) ?_
  refine wl_val (v := .int .u64 r_1.2) (w' := w_1) (by kernel_rfl) (run_assign (v := .int .u64 r_1.2) (by kernel_rfl)) ?_
  refine wl_nil ?_
  refine then_n ?_
  refine cw_norm [.int .u64 p0_0, .int .u64 p1_0, undef, undef, .int .u64 r_1.1, .int .u64 r_1.2, undef, undef, .int .u64 r_1.1, .int .u64 r_1.2, undef, undef, undef, undef, undef, undef, undef, undef, undef, undef, undef, undef, .tuple #[.int .u64 r_1.1, .int .u64 r_1.2], .int .u64 p0_0, .int .u64 p1_0, .tuple #[.int .u64 r_1.1, .int .u64 r_1.2], .int .u64 r_1.1, .int .u64 r_1.2, .int .u64 r_1.1, .int .u64 r_1.2] (by kernel_rfl) ?_
  refine cw_ret ?_
  obtain rfl := Option.some.inj hm
  exact ret2 (v := .int .u64 r_1.1) (v' := .int .u64 r_1.2) rfl (resv_tmp (by kernel_rfl)) (resv_tmp (by kernel_rfl)) ⟨_, rfl, by kernel_rfl, hB⟩
end SxYtihfogahdofdmaaDoor

/- Written by program (gen.py): the model of strings.HasPrefix, and the proof that its code computes it. -/
namespace SxYtihfogahdofdmaaDoor
open Go Go.RowKit Sx Go.Proofs
set_option linter.unusedVariables false
set_option linter.unusedSimpArgs false
attribute [local irreducible] WL WX CW OW
/-! ### 50: "strings.HasPrefix" -/
def m50 (fuel : Nat) (p0_0 : (List UInt8)) (p1_0 : (List UInt8)) : Option Bool :=
  (m66 fuel p0_0 p1_0).bind fun r_1 => some r_1
@[reducible] def Q50 (F : Lx) (w0 : World) (r : Bool) (v : Value) (w' : World) : Prop := v = .bool r ∧ Below w0.heap.size w0 w'
set_option maxRecDepth 100000 in
set_option maxHeartbeats 4000000 in
theorem f50_ok (fuel : Nat) (F : Lx) (w0 : World) (hF : ∀ k, some k ∈ F → k < w0.heap.size) {p0_0 : (List UInt8)} {p1_0 : (List UInt8)} {r : Bool} (hm : m50 fuel p0_0 p1_0 = some r) :
    Calls Tryd.prog 50 #[.string ⟨⟨p0_0⟩⟩, .string ⟨⟨p1_0⟩⟩] w0 (fun e w' => ∃ v, e = .returned v ∧ Q50 F w0 r v w') := by
  have hPF : PF (bodyPost Tryd.prog Tryd.f50 (fun e w' => ∃ v, e = .returned v ∧ Q50 F w0 r v w')) := PF.body (fun c w h => by obtain ⟨v, e, _⟩ := h; cases e)
  have hL := LOk.start hF
  have hB := Below.refl w0.heap.size w0
  unfold m50 at hm
  refine enter (l := [.string ⟨⟨p0_0⟩⟩, .string ⟨⟨p1_0⟩⟩, undef, undef, undef, undef, undef, undef]) Tryd.func50 rfl Tryd.ntmps50 (by kernel_rfl) ?_
  refine cw_seq ?_
  refine cw_region ?_
  refine wl_val (v := .bool false) (w' := w0) (by kernel_rfl) (run_assign (v := .bool false) (by kernel_rfl)) ?_
  refine wl_nil ?_
  refine then_n ?_
  refine cw_seq ?_
  refine cw_region ?_
  refine wl_val (v := .string ⟨⟨p0_0⟩⟩) (w' := w0) (by kernel_rfl) (run_move (v := .string ⟨⟨p0_0⟩⟩) (by kernel_rfl)) ?_
  refine wl_val (v := .string ⟨⟨p1_0⟩⟩) (w' := w0) (by kernel_rfl) (run_move (v := .string ⟨⟨p1_0⟩⟩) (by kernel_rfl)) ?_
  obtain ⟨r_1, h_1, hm⟩ := bind_e hm
  refine wl_op (by kernel_rfl) (ow_enter (run_callf (vs := [.string ⟨⟨p0_0⟩⟩, .string ⟨⟨p1_0⟩⟩]) Tryd.func66 nm_66 (by kernel_rfl) (by kernel_rfl)) (f66_ok (p0_0 := p0_0) (p1_0 := p1_0) fuel _ w0 hL.lt  h_1) ?_)
  intro vR w_1 hR
  obtain ⟨rfl, hBe⟩ := hR
  have hS := Stp.call hL (Fz.of_below hBe [])
  replace hB := hS.below hL hB
  replace hL := hS.hL
  refine wl_val (v := .bool r_1) (w' := w_1) (by kernel_rfl) (run_assign (v := .bool r_1) (by kernel_rfl)) ?_
  refine wl_nil ?_
  refine then_n ?_
  refine cw_ret ?_
  obtain rfl := Option.some.inj hm
  exact ret1 (v := .bool r_1) rfl (resv_tmp (by kernel_rfl)) ⟨_, rfl, by kernel_rfl, hB⟩
end SxYtihfogahdofdmaaDoor
