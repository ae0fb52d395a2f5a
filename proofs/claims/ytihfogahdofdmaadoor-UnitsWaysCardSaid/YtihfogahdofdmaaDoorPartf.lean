/- Proved in the last of these 10 parts (this is part 6): UnitsWays answers true at every decimal, at every three units, and at every name. Conditions: those of the given statement, and no others. -/
import Derived.Test.YtihfogahdofdmaaDoorParta
import Derived.Test.YtihfogahdofdmaaDoorParte
import Derived.Test.YtihfogahdofdmaaDoorPartb
set_option linter.unusedVariables false
set_option linter.unusedSimpArgs false
set_option linter.unusedSectionVars false
/- Written by program (gen.py): the model of strings.Repeat, and the proof that its code computes it. -/
namespace SxYtihfogahdofdmaaDoor
open Go Go.RowKit Sx Go.Proofs
set_option linter.unusedVariables false
set_option linter.unusedSimpArgs false
attribute [local irreducible] WL WX CW OW
/-! ### 29: "strings.Repeat" -/
def m29_J4 (fuel : Nat) (chunkMax_1 : Int) : Option (List UInt8) :=
  none
def m29_J3 (fuel : Nat) (p0_0 : (List UInt8)) (r_1 : (Int × Int)) : Option (List UInt8) :=
  if (gt (cvt .i64 r_1.2) 8192) then (need (nei (p0_0.length : Int) 0) ((some (mul .i64 (quo .i64 8192 (p0_0.length : Int)) (p0_0.length : Int))).bind fun x_9 => if (eqi x_9 0) then (m29_J4 fuel  (p0_0.length : Int)) else (m29_J4 fuel  x_9))) else (m29_J4 fuel  (cvt .i64 r_1.2))
def m29_J10 (fuel : Nat) (p0_0 : (List UInt8)) (r_1 : (Int × Int)) (x_15 : Bool) : Option (List UInt8) :=
  if x_15 then ((cut ([9, 9, 9, 9, 9, 9, 9, 9, 9, 9, 9, 9, 9, 9, 9, 9, 9, 9, 9, 9, 9, 9, 9, 9, 9, 9, 9, 9, 9, 9, 9, 9, 9, 9, 9, 9, 9, 9, 9, 9, 9, 9, 9, 9, 9, 9, 9, 9, 9, 9, 9, 9, 9, 9, 9, 9, 9, 9, 9, 9, 9, 9, 9, 9] : List UInt8) 0 (cvt .i64 r_1.2)).bind fun s_10 => some s_10) else (m29_J3 fuel p0_0 r_1 )
def m29_J9 (fuel : Nat) (p0_0 : (List UInt8)) (r_1 : (Int × Int)) (x_14 : Bool) : Option (List UInt8) :=
  if x_14 then ((cut ([61, 61, 61, 61, 61, 61, 61, 61, 61, 61, 61, 61, 61, 61, 61, 61, 61, 61, 61, 61, 61, 61, 61, 61, 61, 61, 61, 61, 61, 61, 61, 61, 61, 61, 61, 61, 61, 61, 61, 61, 61, 61, 61, 61, 61, 61, 61, 61, 61, 61, 61, 61, 61, 61, 61, 61, 61, 61, 61, 61, 61, 61, 61, 61, 61, 61, 61, 61, 61, 61, 61, 61, 61, 61, 61, 61, 61, 61, 61, 61, 61, 61, 61, 61, 61, 61, 61, 61, 61, 61, 61, 61, 61, 61, 61, 61, 61, 61, 61, 61, 61, 61, 61, 61, 61, 61, 61, 61, 61, 61, 61, 61, 61, 61, 61, 61, 61, 61, 61, 61, 61, 61, 61, 61, 61, 61, 61, 61] : List UInt8) 0 (cvt .i64 r_1.2)).bind fun s_9 => some s_9) else (if (le (cvt .i64 r_1.2) 64) then ((m50 fuel ([9, 9, 9, 9, 9, 9, 9, 9, 9, 9, 9, 9, 9, 9, 9, 9, 9, 9, 9, 9, 9, 9, 9, 9, 9, 9, 9, 9, 9, 9, 9, 9, 9, 9, 9, 9, 9, 9, 9, 9, 9, 9, 9, 9, 9, 9, 9, 9, 9, 9, 9, 9, 9, 9, 9, 9, 9, 9, 9, 9, 9, 9, 9, 9] : List UInt8) p0_0).bind fun r_12 => m29_J10 fuel p0_0 r_1 r_12) else (m29_J10 fuel p0_0 r_1 false))
def m29_J8 (fuel : Nat) (p0_0 : (List UInt8)) (r_1 : (Int × Int)) (x_13 : Bool) : Option (List UInt8) :=
  if x_13 then ((cut ([48, 48, 48, 48, 48, 48, 48, 48, 48, 48, 48, 48, 48, 48, 48, 48, 48, 48, 48, 48, 48, 48, 48, 48, 48, 48, 48, 48, 48, 48, 48, 48, 48, 48, 48, 48, 48, 48, 48, 48, 48, 48, 48, 48, 48, 48, 48, 48, 48, 48, 48, 48, 48, 48, 48, 48, 48, 48, 48, 48, 48, 48, 48, 48] : List UInt8) 0 (cvt .i64 r_1.2)).bind fun s_8 => some s_8) else (if (le (cvt .i64 r_1.2) 128) then ((m50 fuel ([61, 61, 61, 61, 61, 61, 61, 61, 61, 61, 61, 61, 61, 61, 61, 61, 61, 61, 61, 61, 61, 61, 61, 61, 61, 61, 61, 61, 61, 61, 61, 61, 61, 61, 61, 61, 61, 61, 61, 61, 61, 61, 61, 61, 61, 61, 61, 61, 61, 61, 61, 61, 61, 61, 61, 61, 61, 61, 61, 61, 61, 61, 61, 61, 61, 61, 61, 61, 61, 61, 61, 61, 61, 61, 61, 61, 61, 61, 61, 61, 61, 61, 61, 61, 61, 61, 61, 61, 61, 61, 61, 61, 61, 61, 61, 61, 61, 61, 61, 61, 61, 61, 61, 61, 61, 61, 61, 61, 61, 61, 61, 61, 61, 61, 61, 61, 61, 61, 61, 61, 61, 61, 61, 61, 61, 61, 61, 61] : List UInt8) p0_0).bind fun r_13 => m29_J9 fuel p0_0 r_1 r_13) else (m29_J9 fuel p0_0 r_1 false))
def m29_J7 (fuel : Nat) (p0_0 : (List UInt8)) (r_1 : (Int × Int)) (x_12 : Bool) : Option (List UInt8) :=
  if x_12 then ((cut ([45, 45, 45, 45, 45, 45, 45, 45, 45, 45, 45, 45, 45, 45, 45, 45, 45, 45, 45, 45, 45, 45, 45, 45, 45, 45, 45, 45, 45, 45, 45, 45, 45, 45, 45, 45, 45, 45, 45, 45, 45, 45, 45, 45, 45, 45, 45, 45, 45, 45, 45, 45, 45, 45, 45, 45, 45, 45, 45, 45, 45, 45, 45, 45, 45, 45, 45, 45, 45, 45, 45, 45, 45, 45, 45, 45, 45, 45, 45, 45, 45, 45, 45, 45, 45, 45, 45, 45, 45, 45, 45, 45, 45, 45, 45, 45, 45, 45, 45, 45, 45, 45, 45, 45, 45, 45, 45, 45, 45, 45, 45, 45, 45, 45, 45, 45, 45, 45, 45, 45, 45, 45, 45, 45, 45, 45, 45, 45] : List UInt8) 0 (cvt .i64 r_1.2)).bind fun s_7 => some s_7) else (if (le (cvt .i64 r_1.2) 64) then ((m50 fuel ([48, 48, 48, 48, 48, 48, 48, 48, 48, 48, 48, 48, 48, 48, 48, 48, 48, 48, 48, 48, 48, 48, 48, 48, 48, 48, 48, 48, 48, 48, 48, 48, 48, 48, 48, 48, 48, 48, 48, 48, 48, 48, 48, 48, 48, 48, 48, 48, 48, 48, 48, 48, 48, 48, 48, 48, 48, 48, 48, 48, 48, 48, 48, 48] : List UInt8) p0_0).bind fun r_14 => m29_J8 fuel p0_0 r_1 r_14) else (m29_J8 fuel p0_0 r_1 false))
def m29_J6 (fuel : Nat) (p0_0 : (List UInt8)) (r_1 : (Int × Int)) (x_11 : Bool) : Option (List UInt8) :=
  if x_11 then ((cut ([32, 32, 32, 32, 32, 32, 32, 32, 32, 32, 32, 32, 32, 32, 32, 32, 32, 32, 32, 32, 32, 32, 32, 32, 32, 32, 32, 32, 32, 32, 32, 32, 32, 32, 32, 32, 32, 32, 32, 32, 32, 32, 32, 32, 32, 32, 32, 32, 32, 32, 32, 32, 32, 32, 32, 32, 32, 32, 32, 32, 32, 32, 32, 32, 32, 32, 32, 32, 32, 32, 32, 32, 32, 32, 32, 32, 32, 32, 32, 32, 32, 32, 32, 32, 32, 32, 32, 32, 32, 32, 32, 32, 32, 32, 32, 32, 32, 32, 32, 32, 32, 32, 32, 32, 32, 32, 32, 32, 32, 32, 32, 32, 32, 32, 32, 32, 32, 32, 32, 32, 32, 32, 32, 32, 32, 32, 32, 32] : List UInt8) 0 (cvt .i64 r_1.2)).bind fun s_6 => some s_6) else (if (le (cvt .i64 r_1.2) 128) then ((m50 fuel ([45, 45, 45, 45, 45, 45, 45, 45, 45, 45, 45, 45, 45, 45, 45, 45, 45, 45, 45, 45, 45, 45, 45, 45, 45, 45, 45, 45, 45, 45, 45, 45, 45, 45, 45, 45, 45, 45, 45, 45, 45, 45, 45, 45, 45, 45, 45, 45, 45, 45, 45, 45, 45, 45, 45, 45, 45, 45, 45, 45, 45, 45, 45, 45, 45, 45, 45, 45, 45, 45, 45, 45, 45, 45, 45, 45, 45, 45, 45, 45, 45, 45, 45, 45, 45, 45, 45, 45, 45, 45, 45, 45, 45, 45, 45, 45, 45, 45, 45, 45, 45, 45, 45, 45, 45, 45, 45, 45, 45, 45, 45, 45, 45, 45, 45, 45, 45, 45, 45, 45, 45, 45, 45, 45, 45, 45, 45, 45] : List UInt8) p0_0).bind fun r_15 => m29_J7 fuel p0_0 r_1 r_15) else (m29_J7 fuel p0_0 r_1 false))
def m29_J5 (fuel : Nat) (p0_0 : (List UInt8)) (r_1 : (Int × Int)) (x_10 : Bool) : Option (List UInt8) :=
  if x_10 then (if (le (cvt .i64 r_1.2) 128) then ((m50 fuel ([32, 32, 32, 32, 32, 32, 32, 32, 32, 32, 32, 32, 32, 32, 32, 32, 32, 32, 32, 32, 32, 32, 32, 32, 32, 32, 32, 32, 32, 32, 32, 32, 32, 32, 32, 32, 32, 32, 32, 32, 32, 32, 32, 32, 32, 32, 32, 32, 32, 32, 32, 32, 32, 32, 32, 32, 32, 32, 32, 32, 32, 32, 32, 32, 32, 32, 32, 32, 32, 32, 32, 32, 32, 32, 32, 32, 32, 32, 32, 32, 32, 32, 32, 32, 32, 32, 32, 32, 32, 32, 32, 32, 32, 32, 32, 32, 32, 32, 32, 32, 32, 32, 32, 32, 32, 32, 32, 32, 32, 32, 32, 32, 32, 32, 32, 32, 32, 32, 32, 32, 32, 32, 32, 32, 32, 32, 32, 32] : List UInt8) p0_0).bind fun r_16 => m29_J6 fuel p0_0 r_1 r_16) else (m29_J6 fuel p0_0 r_1 false)) else (m29_J3 fuel p0_0 r_1 )
def m29_J2 (fuel : Nat) (p0_0 : (List UInt8)) (r_1 : (Int × Int)) : Option (List UInt8) :=
  if (eqi (p0_0.length : Int) 0) then (some ([] : List UInt8)) else ((at? p0_0 0).bind fun b_2 => if (eqi (b_2.toNat : Int) 32) then (m29_J5 fuel p0_0 r_1 (eqi (b_2.toNat : Int) 32)) else (if (eqi (b_2.toNat : Int) 45) then (m29_J5 fuel p0_0 r_1 (eqi (b_2.toNat : Int) 45)) else (if (eqi (b_2.toNat : Int) 48) then (m29_J5 fuel p0_0 r_1 (eqi (b_2.toNat : Int) 48)) else (if (eqi (b_2.toNat : Int) 61) then (m29_J5 fuel p0_0 r_1 (eqi (b_2.toNat : Int) 61)) else (m29_J5 fuel p0_0 r_1 (eqi (b_2.toNat : Int) 9))))))
def m29_J11 (fuel : Nat) (p0_0 : (List UInt8)) (r_1 : (Int × Int)) (x_16 : Bool) : Option (List UInt8) :=
  if x_16 then (none) else (m29_J2 fuel p0_0 r_1 )
def m29_J1 (fuel : Nat) (p0_0 : (List UInt8)) (p1_0 : Int) : Option (List UInt8) :=
  (m49 fuel (cvt .u64 (p0_0.length : Int)) (cvt .u64 p1_0)).bind fun r_1 => if (gt r_1.1 0) then (m29_J11 fuel p0_0 r_1 true) else (m29_J11 fuel p0_0 r_1 (gt r_1.2 9223372036854775807))
def m29 (fuel : Nat) (p0_0 : (List UInt8)) (p1_0 : Int) : Option (List UInt8) :=
  if (eqi p1_0 0) then (some ([] : List UInt8)) else (if (eqi p1_0 1) then (some p0_0) else (if (lt p1_0 0) then (none) else (m29_J1 fuel p0_0 p1_0 )))
@[reducible] def Q29 (F : Lx) (w0 : World) (r : (List UInt8)) (v : Value) (w' : World) : Prop := v = .string ⟨⟨r⟩⟩ ∧ Below w0.heap.size w0 w'
set_option maxRecDepth 100000 in
set_option maxHeartbeats 4000000 in
theorem f29_ok (fuel : Nat) (F : Lx) (w0 : World) (hF : ∀ k, some k ∈ F → k < w0.heap.size) {p0_0 : (List UInt8)} {p1_0 : Int} {r : (List UInt8)} (hm : m29 fuel p0_0 p1_0 = some r) :
    Calls Tryd.prog 29 #[.string ⟨⟨p0_0⟩⟩, .int .i64 p1_0] w0 (fun e w' => ∃ v, e = .returned v ∧ Q29 F w0 r v w') := by
  have hPF : PF (bodyPost Tryd.prog Tryd.f29 (fun e w' => ∃ v, e = .returned v ∧ Q29 F w0 r v w')) := PF.body (fun c w h => by obtain ⟨v, e, _⟩ := h; cases e)
  have hL := LOk.start hF
  have hB := Below.refl w0.heap.size w0
  unfold m29 at hm
  refine enter (l := [.string ⟨⟨p0_0⟩⟩, .int .i64 p1_0, undef, undef, undef, undef, undef, undef, undef, undef, undef, undef, undef, undef, undef, undef, undef, undef, undef, undef, undef, undef, undef, undef, undef, undef, undef, undef, undef, undef, undef, undef, undef, undef, undef, undef, undef, undef, undef, undef, undef, undef, undef, undef, undef, undef, undef, undef, undef, undef, undef, undef, undef, undef, undef, undef, undef, undef, undef, undef, undef, undef, undef, undef, undef, undef, undef, undef, undef, undef, undef, undef, undef, undef, undef, undef, undef, undef, undef, undef, undef, undef, undef, undef, undef, undef, undef, undef, undef, undef, undef, undef, undef, undef, undef, undef, undef, undef, undef, undef, undef, undef, undef, undef, undef, undef, undef, undef, undef, undef, undef, undef, undef, undef, undef, undef, undef, undef, undef, undef, undef, undef, undef, undef, undef]) Tryd.func29 rfl Tryd.ntmps29 (by kernel_rfl) ?_
  refine cw_seq ?_
  refine cw_region ?_
  refine wl_val (v := .string ⟨⟨([] : List UInt8)⟩⟩) (w' := w0) (by kernel_rfl) (run_assign (v := .string ⟨⟨([] : List UInt8)⟩⟩) (by kernel_rfl)) ?_
  refine wl_nil ?_
  refine then_n ?_
  refine cw_seq ?_
  refine cw_seq ?_
  refine cw_region ?_
  refine wl_val (v := .int .i64 p1_0) (w' := w0) (by kernel_rfl) (run_move (v := .int .i64 p1_0) (by kernel_rfl)) ?_
  refine wl_nil ?_
  refine then_n ?_
  refine cw_block ?_
  refine cw_seq ?_
  refine cw_region ?_
  refine wl_val (v := .bool (eqi p1_0 0)) (w' := w0) (by kernel_rfl) (run_eqi (k := .i64) (a := p1_0) (b := 0) (by kernel_rfl) (by kernel_rfl)) ?_
  refine wl_val (v := .bool (eqi p1_0 0)) (w' := w0) (by kernel_rfl) (run_assign (v := .bool (eqi p1_0 0)) (by kernel_rfl)) ?_
  refine wl_nil ?_
  refine then_n ?_
  refine cw_cond (t := (eqi p1_0 0)) (by kernel_rfl) (fun hc_1 => ?_) (fun hc_1 => ?_)
  · have hm := ite_t hm hc_1
    refine cw_seq ?_
    refine cw_region ?_
    refine wl_val (v := .string ⟨⟨([] : List UInt8)⟩⟩) (w' := w0) (by kernel_rfl) (run_assign (v := .string ⟨⟨([] : List UInt8)⟩⟩) (by kernel_rfl)) ?_
    refine wl_nil ?_
    refine then_n ?_
    refine cw_ret ?_
    refine inBlock_ret ?_
    refine then_ret ?_
    obtain rfl := Option.some.inj hm
    exact ret1 (v := .string ⟨⟨([] : List UInt8)⟩⟩) rfl (resv_tmp (by kernel_rfl)) ⟨_, rfl, by kernel_rfl, hB⟩
  · have hm := ite_f hm hc_1
    refine cw_seq ?_
    refine cw_region ?_
    refine wl_val (v := .bool (eqi p1_0 1)) (w' := w0) (by kernel_rfl) (run_eqi (k := .i64) (a := p1_0) (b := 1) (by kernel_rfl) (by kernel_rfl)) ?_
    refine wl_val (v := .bool (eqi p1_0 1)) (w' := w0) (by kernel_rfl) (run_assign (v := .bool (eqi p1_0 1)) (by kernel_rfl)) ?_
    refine wl_nil ?_
    refine then_n ?_
    refine cw_cond (t := (eqi p1_0 1)) (by kernel_rfl) (fun hc_2 => ?_) (fun hc_2 => ?_)
    · have hm := ite_t hm hc_2
      refine cw_seq ?_
      refine cw_region ?_
      refine wl_val (v := .string ⟨⟨p0_0⟩⟩) (w' := w0) (by kernel_rfl) (run_move (v := .string ⟨⟨p0_0⟩⟩) (by kernel_rfl)) ?_
      refine wl_val (v := .string ⟨⟨p0_0⟩⟩) (w' := w0) (by kernel_rfl) (run_assign (v := .string ⟨⟨p0_0⟩⟩) (by kernel_rfl)) ?_
      refine wl_nil ?_
      refine then_n ?_
      refine cw_ret ?_
      refine inBlock_ret ?_
      refine then_ret ?_
      obtain rfl := Option.some.inj hm
      exact ret1 (v := .string ⟨⟨p0_0⟩⟩) rfl (resv_tmp (by kernel_rfl)) ⟨_, rfl, by kernel_rfl, hB⟩
    · have hm := ite_f hm hc_2
      refine cw_skip ?_
      refine inBlock_n ?_
      refine then_n ?_
      refine cw_cut (fun l' w' => ∃ u_1 : Nat → Value, l' = [.string ⟨⟨p0_0⟩⟩, .int .i64 p1_0, undef, undef, .string ⟨⟨([] : List UInt8)⟩⟩, undef, undef, undef, undef, undef, undef, .int .i64 p1_0, .bool (eqi p1_0 0), .bool (eqi p1_0 0), .bool (eqi p1_0 1), .bool (eqi p1_0 1), undef, (u_1 0), (u_1 1), (u_1 2), undef, undef, undef, undef, undef, undef, undef, undef, undef, undef, undef, undef, undef, undef, undef, undef, undef, undef, undef, undef, undef, undef, undef, undef, undef, undef, undef, undef, undef, undef, undef, undef, undef, undef, undef, undef, undef, undef, undef, undef, undef, undef, undef, undef, undef, undef, undef, undef, undef, undef, undef, undef, undef, undef, undef, undef, undef, undef, undef, undef, undef, undef, undef, undef, undef, undef, undef, undef, undef, undef, undef, undef, undef, undef, undef, undef, undef, undef, undef, undef, undef, undef, undef, undef, undef, undef, undef, undef, undef, undef, undef, undef, undef, undef, undef, undef, undef, undef, undef, undef, undef, undef, undef, undef, undef] ∧ LOk w0.heap.size [] F w' ∧ Below w0.heap.size w0 w' ∧ m29_J1 fuel p0_0 p1_0  = some r) ?_ ?_
      · refine cw_seq ?_
        refine cw_region ?_
        refine wl_val (v := .int .i64 p1_0) (w' := w0) (by kernel_rfl) (run_move (v := .int .i64 p1_0) (by kernel_rfl)) ?_
        refine wl_val (v := .bool (lt p1_0 0)) (w' := w0) (by kernel_rfl) (run_lt (k := .i64) (a := p1_0) (b := 0) (by kernel_rfl) (by kernel_rfl)) ?_
        refine wl_nil ?_
        refine then_n ?_
        refine cw_cond (t := (lt p1_0 0)) (by kernel_rfl) (fun hc_53 => ?_) (fun hc_53 => ?_)
        · have hm := ite_t hm hc_53
          refine cw_region ?_
          cases hm
        · have hm := ite_f hm hc_53
          refine cw_skip ?_
          exact then_c ⟨(fun i => ([.int .i64 p1_0, .bool (lt p1_0 0), undef] : List Value).getD i undef), by kernel_rfl, hL, hB, hm⟩
      · intro l1 w_1 hI
        obtain ⟨u_1, rfl, hL, hB, hm⟩ := hI
        unfold m29_J1 at hm
        refine cw_seq ?_
        refine cw_region ?_
        refine wl_val (v := .string ⟨⟨p0_0⟩⟩) (w' := w_1) (by kernel_rfl) (run_move (v := .string ⟨⟨p0_0⟩⟩) (by kernel_rfl)) ?_
        refine wl_val (v := .int .i64 (p0_0.length : Int)) (w' := w_1) (by kernel_rfl) (run_len_str (s := p0_0) Tryd.underlying9 (by kernel_rfl)) ?_
        refine wl_val (v := .int .u64 (cvt .u64 (p0_0.length : Int))) (w' := w_1) (by kernel_rfl) (run_cvt (k := .i64) (a := (p0_0.length : Int)) Tryd.underlying3 Tryd.underlying72 (by kernel_rfl)) ?_
        refine wl_val (v := .int .i64 p1_0) (w' := w_1) (by kernel_rfl) (run_move (v := .int .i64 p1_0) (by kernel_rfl)) ?_
        refine wl_val (v := .int .u64 (cvt .u64 p1_0)) (w' := w_1) (by kernel_rfl) (run_cvt (k := .i64) (a := p1_0) Tryd.underlying3 Tryd.underlying72 (by kernel_rfl)) ?_
        obtain ⟨r_1, h_1, hm⟩ := bind_e hm
        refine wl_op (by kernel_rfl) (ow_enter (run_callf (vs := [.int .u64 (cvt .u64 (p0_0.length : Int)), .int .u64 (cvt .u64 p1_0)]) Tryd.func49 nm_49 (by kernel_rfl) (by kernel_rfl)) (f49_ok (p0_0 := (cvt .u64 (p0_0.length : Int))) (p1_0 := (cvt .u64 p1_0)) fuel _ w_1 hL.lt  h_1) ?_)
        intro vR w_2 hR
        obtain ⟨rfl, hBe⟩ := hR
        have hS := Stp.call hL (Fz.of_below hBe [])
        replace hB := hS.below hL hB
        replace hL := hS.hL
        refine wl_val (v := .tuple #[.int .u64 r_1.1, .int .u64 r_1.2]) (w' := w_2) (by kernel_rfl) (run_move (v := .tuple #[.int .u64 r_1.1, .int .u64 r_1.2]) (by kernel_rfl)) ?_
        refine wl_val (v := .int .u64 r_1.1) (w' := w_2) (by kernel_rfl) (run_extract (vs := #[.int .u64 r_1.1, .int .u64 r_1.2]) (by kernel_rfl) (by kernel_rfl)) ?_
        refine wl_val (v := .int .u64 r_1.2) (w' := w_2) (by kernel_rfl) (run_extract (vs := #[.int .u64 r_1.1, .int .u64 r_1.2]) (by kernel_rfl) (by kernel_rfl)) ?_
        refine wl_val (v := .int .u64 r_1.1) (w' := w_2) (by kernel_rfl) (run_assign (v := .int .u64 r_1.1) (by kernel_rfl)) ?_
        refine wl_val (v := .int .u64 r_1.2) (w' := w_2) (by kernel_rfl) (run_assign (v := .int .u64 r_1.2) (by kernel_rfl)) ?_
        refine wl_nil ?_
        refine then_n ?_
        refine cw_cut (fun l' w' => ∃ u_3 : Nat → Value, l' = [.string ⟨⟨p0_0⟩⟩, .int .i64 p1_0, undef, undef, .string ⟨⟨([] : List UInt8)⟩⟩, .int .u64 r_1.1, .int .u64 r_1.2, undef, undef, undef, undef, .int .i64 p1_0, .bool (eqi p1_0 0), .bool (eqi p1_0 0), .bool (eqi p1_0 1), .bool (eqi p1_0 1), undef, (u_1 0), (u_1 1), (u_1 2), .tuple #[.int .u64 r_1.1, .int .u64 r_1.2], .string ⟨⟨p0_0⟩⟩, .int .i64 (p0_0.length : Int), .int .u64 (cvt .u64 (p0_0.length : Int)), .int .i64 p1_0, .int .u64 (cvt .u64 p1_0), .tuple #[.int .u64 r_1.1, .int .u64 r_1.2], .int .u64 r_1.1, .int .u64 r_1.2, (u_3 0), (u_3 1), (u_3 2), (u_3 3), (u_3 4), (u_3 5), (u_3 6), undef, undef, undef, undef, undef, undef, undef, undef, undef, undef, undef, undef, undef, undef, undef, undef, undef, undef, undef, undef, undef, undef, undef, undef, undef, undef, undef, undef, undef, undef, undef, undef, undef, undef, undef, undef, undef, undef, undef, undef, undef, undef, undef, undef, undef, undef, undef, undef, undef, undef, undef, undef, undef, undef, undef, undef, undef, undef, undef, undef, undef, undef, undef, undef, undef, undef, undef, undef, undef, undef, undef, undef, undef, undef, undef, undef, undef, undef, undef, undef, undef, undef, undef, undef, undef, undef, undef, undef, undef] ∧ LOk w0.heap.size [] F w' ∧ Below w0.heap.size w0 w' ∧ m29_J2 fuel p0_0 r_1  = some r) ?_ ?_
        · refine cw_cut (fun l' w' => ∃ x_16, ∃ u_18 : Nat → Value, l' = [.string ⟨⟨p0_0⟩⟩, .int .i64 p1_0, undef, undef, .string ⟨⟨([] : List UInt8)⟩⟩, .int .u64 r_1.1, .int .u64 r_1.2, undef, undef, undef, undef, .int .i64 p1_0, .bool (eqi p1_0 0), .bool (eqi p1_0 0), .bool (eqi p1_0 1), .bool (eqi p1_0 1), undef, (u_1 0), (u_1 1), (u_1 2), .tuple #[.int .u64 r_1.1, .int .u64 r_1.2], .string ⟨⟨p0_0⟩⟩, .int .i64 (p0_0.length : Int), .int .u64 (cvt .u64 (p0_0.length : Int)), .int .i64 p1_0, .int .u64 (cvt .u64 p1_0), .tuple #[.int .u64 r_1.1, .int .u64 r_1.2], .int .u64 r_1.1, .int .u64 r_1.2, (u_18 0), (u_18 1), (u_18 2), (u_18 3), (u_18 4), .bool x_16, undef, undef, undef, undef, undef, undef, undef, undef, undef, undef, undef, undef, undef, undef, undef, undef, undef, undef, undef, undef, undef, undef, undef, undef, undef, undef, undef, undef, undef, undef, undef, undef, undef, undef, undef, undef, undef, undef, undef, undef, undef, undef, undef, undef, undef, undef, undef, undef, undef, undef, undef, undef, undef, undef, undef, undef, undef, undef, undef, undef, undef, undef, undef, undef, undef, undef, undef, undef, undef, undef, undef, undef, undef, undef, undef, undef, undef, undef, undef, undef, undef, undef, undef, undef, undef, undef, undef, undef, undef, undef] ∧ LOk w0.heap.size [] F w' ∧ Below w0.heap.size w0 w' ∧ m29_J11 fuel p0_0 r_1 x_16 = some r) ?_ ?_
          · refine cw_region ?_
            refine wl_val (v := .int .u64 r_1.1) (w' := w_2) (by kernel_rfl) (run_move (v := .int .u64 r_1.1) (by kernel_rfl)) ?_
            refine wl_val (v := .bool (gt r_1.1 0)) (w' := w_2) (by kernel_rfl) (run_gt (k := .u64) (a := r_1.1) (b := 0) (by kernel_rfl) (by kernel_rfl)) ?_
            refine wl_val (v := .bool (gt r_1.1 0)) (w' := w_2) (by kernel_rfl) (run_move (v := .bool (gt r_1.1 0)) (by kernel_rfl)) ?_
            refine wl_norm [.string ⟨⟨p0_0⟩⟩, .int .i64 p1_0, undef, undef, .string ⟨⟨([] : List UInt8)⟩⟩, .int .u64 r_1.1, .int .u64 r_1.2, undef, undef, undef, undef, .int .i64 p1_0, .bool (eqi p1_0 0), .bool (eqi p1_0 0), .bool (eqi p1_0 1), .bool (eqi p1_0 1), undef, (u_1 0), (u_1 1), (u_1 2), .tuple #[.int .u64 r_1.1, .int .u64 r_1.2], .string ⟨⟨p0_0⟩⟩, .int .i64 (p0_0.length : Int), .int .u64 (cvt .u64 (p0_0.length : Int)), .int .i64 p1_0, .int .u64 (cvt .u64 p1_0), .tuple #[.int .u64 r_1.1, .int .u64 r_1.2], .int .u64 r_1.1, .int .u64 r_1.2, .int .u64 r_1.1, .bool (gt r_1.1 0), .bool (gt r_1.1 0), undef, undef, undef, undef, undef, undef, undef, undef, undef, undef, undef, undef, undef, undef, undef, undef, undef, undef, undef, undef, undef, undef, undef, undef, undef, undef, undef, undef, undef, undef, undef, undef, undef, undef, undef, undef, undef, undef, undef, undef, undef, undef, undef, undef, undef, undef, undef, undef, undef, undef, undef, undef, undef, undef, undef, undef, undef, undef, undef, undef, undef, undef, undef, undef, undef, undef, undef, undef, undef, undef, undef, undef, undef, undef, undef, undef, undef, undef, undef, undef, undef, undef, undef, undef, undef, undef, undef, undef, undef, undef, undef, undef, undef] (by kernel_rfl) ?_
            rcases Bool.eq_false_or_eq_true (gt r_1.1 0) with hc_52 | hc_52
            · have hm := ite_t hm hc_52
              refine wl_not0 (wg (c := (gt r_1.1 0)) (want := false) (by kernel_rfl) hc_52 rfl) (by kernel_rfl) ?_
              refine wl_not0 (wg (c := (gt r_1.1 0)) (want := false) (by kernel_rfl) hc_52 rfl) (by kernel_rfl) ?_
              refine wl_val (v := .bool true) (w' := w_2) (by kernel_rfl) (run_pick_t (v := .bool true) (tr2 (c := (gt r_1.1 0)) (by kernel_rfl) hc_52) (by kernel_rfl)) ?_
              refine wl_nil ?_
              exact then_c ⟨true, (fun i => ([.int .u64 r_1.1, .bool (gt r_1.1 0), .bool (gt r_1.1 0), undef, undef] : List Value).getD i undef), by kernel_rfl, hL, hB, hm⟩
            · have hm := ite_f hm hc_52
              refine wl_val (v := .int .u64 r_1.2) (w' := w_2) (wg (c := (gt r_1.1 0)) (want := false) (by kernel_rfl) hc_52 rfl) (run_move (v := .int .u64 r_1.2) (by kernel_rfl)) ?_
              refine wl_val (v := .bool (gt r_1.2 9223372036854775807)) (w' := w_2) (wg (c := (gt r_1.1 0)) (want := false) (by kernel_rfl) hc_52 rfl) (run_gt (k := .u64) (a := r_1.2) (b := 9223372036854775807) (by kernel_rfl) (by kernel_rfl)) ?_
              refine wl_val (v := .bool (gt r_1.2 9223372036854775807)) (w' := w_2) (by kernel_rfl) (run_pick_f (v := .bool (gt r_1.2 9223372036854775807)) (tr2 (c := (gt r_1.1 0)) (by kernel_rfl) hc_52) (by kernel_rfl)) ?_
              refine wl_nil ?_
              exact then_c ⟨(gt r_1.2 9223372036854775807), (fun i => ([.int .u64 r_1.1, .bool (gt r_1.1 0), .bool (gt r_1.1 0), .int .u64 r_1.2, .bool (gt r_1.2 9223372036854775807)] : List Value).getD i undef), by kernel_rfl, hL, hB, hm⟩
          · intro l1 w_28 hI
            obtain ⟨x_16, u_18, rfl, hL, hB, hm⟩ := hI
            unfold m29_J11 at hm
            refine cw_cond (t := x_16) (by kernel_rfl) (fun hc_51 => ?_) (fun hc_51 => ?_)
            · have hm := ite_t hm hc_51
              refine cw_region ?_
              cases hm
            · have hm := ite_f hm hc_51
              refine cw_skip ?_
              exact then_c ⟨(fun i => ([(u_18 0), (u_18 1), (u_18 2), (u_18 3), (u_18 4), .bool x_16, undef] : List Value).getD i undef), by kernel_rfl, hL, hB, hm⟩
        · intro l1 w_3 hI
          obtain ⟨u_3, rfl, hL, hB, hm⟩ := hI
          unfold m29_J2 at hm
          refine cw_seq ?_
          refine cw_region ?_
          refine wl_val (v := .int .u64 r_1.2) (w' := w_3) (by kernel_rfl) (run_move (v := .int .u64 r_1.2) (by kernel_rfl)) ?_
          refine wl_val (v := .int .i64 (cvt .i64 r_1.2)) (w' := w_3) (by kernel_rfl) (run_cvt (k := .u64) (a := r_1.2) Tryd.underlying72 Tryd.underlying3 (by kernel_rfl)) ?_
          refine wl_val (v := .int .i64 (cvt .i64 r_1.2)) (w' := w_3) (by kernel_rfl) (run_assign (v := .int .i64 (cvt .i64 r_1.2)) (by kernel_rfl)) ?_
          refine wl_nil ?_
          refine then_n ?_
          refine cw_seq ?_
          refine cw_seq ?_
          refine cw_region ?_
          refine wl_val (v := .string ⟨⟨p0_0⟩⟩) (w' := w_3) (by kernel_rfl) (run_move (v := .string ⟨⟨p0_0⟩⟩) (by kernel_rfl)) ?_
          refine wl_val (v := .int .i64 (p0_0.length : Int)) (w' := w_3) (by kernel_rfl) (run_len_str (s := p0_0) Tryd.underlying9 (by kernel_rfl)) ?_
          refine wl_val (v := .bool (eqi (p0_0.length : Int) 0)) (w' := w_3) (by kernel_rfl) (run_eqi (k := .i64) (a := (p0_0.length : Int)) (b := 0) (by kernel_rfl) (by kernel_rfl)) ?_
          refine wl_nil ?_
          refine then_n ?_
          refine cw_cond (t := (eqi (p0_0.length : Int) 0)) (by kernel_rfl) (fun hc_6 => ?_) (fun hc_6 => ?_)
          · have hm := ite_t hm hc_6
            refine cw_seq ?_
            refine cw_region ?_
            refine wl_val (v := .string ⟨⟨([] : List UInt8)⟩⟩) (w' := w_3) (by kernel_rfl) (run_assign (v := .string ⟨⟨([] : List UInt8)⟩⟩) (by kernel_rfl)) ?_
            refine wl_nil ?_
            refine then_n ?_
            refine cw_ret ?_
            refine then_ret ?_
            obtain rfl := Option.some.inj hm
            exact ret1 (v := .string ⟨⟨([] : List UInt8)⟩⟩) rfl (resv_tmp (by kernel_rfl)) ⟨_, rfl, by kernel_rfl, hB⟩
          · have hm := ite_f hm hc_6
            refine cw_skip ?_
            refine then_n ?_
            refine cw_cut (fun l' w' => ∃ u_10 : Nat → Value, l' = [.string ⟨⟨p0_0⟩⟩, .int .i64 p1_0, undef, undef, (u_10 0), .int .u64 r_1.1, .int .u64 r_1.2, .int .i64 (cvt .i64 r_1.2), undef, undef, undef, .int .i64 p1_0, .bool (eqi p1_0 0), .bool (eqi p1_0 0), .bool (eqi p1_0 1), .bool (eqi p1_0 1), undef, (u_1 0), (u_1 1), (u_1 2), .tuple #[.int .u64 r_1.1, .int .u64 r_1.2], .string ⟨⟨p0_0⟩⟩, .int .i64 (p0_0.length : Int), .int .u64 (cvt .u64 (p0_0.length : Int)), .int .i64 p1_0, .int .u64 (cvt .u64 p1_0), .tuple #[.int .u64 r_1.1, .int .u64 r_1.2], .int .u64 r_1.1, .int .u64 r_1.2, (u_3 0), (u_3 1), (u_3 2), (u_3 3), (u_3 4), (u_3 5), (u_3 6), .int .u64 r_1.2, .int .i64 (cvt .i64 r_1.2), .string ⟨⟨p0_0⟩⟩, .int .i64 (p0_0.length : Int), .bool (eqi (p0_0.length : Int) 0), (u_10 1), (u_10 2), (u_10 3), (u_10 4), (u_10 5), (u_10 6), (u_10 7), (u_10 8), (u_10 9), (u_10 10), (u_10 11), (u_10 12), (u_10 13), (u_10 14), (u_10 15), (u_10 16), (u_10 17), (u_10 18), (u_10 19), (u_10 20), (u_10 21), (u_10 22), (u_10 23), (u_10 24), (u_10 25), (u_10 26), (u_10 27), (u_10 28), (u_10 29), (u_10 30), (u_10 31), (u_10 32), (u_10 33), (u_10 34), (u_10 35), (u_10 36), (u_10 37), (u_10 38), (u_10 39), (u_10 40), (u_10 41), (u_10 42), (u_10 43), (u_10 44), (u_10 45), (u_10 46), (u_10 47), (u_10 48), (u_10 49), (u_10 50), (u_10 51), (u_10 52), (u_10 53), undef, undef, undef, undef, undef, undef, undef, undef, undef, undef, undef, undef, undef, undef, undef, undef, undef, undef, undef, undef, undef, undef, undef, undef, undef, undef, undef, undef, undef, undef, undef] ∧ LOk w0.heap.size [] F w' ∧ Below w0.heap.size w0 w' ∧ m29_J3 fuel p0_0 r_1  = some r) ?_ ?_
            · refine cw_seq ?_
              refine cw_region ?_
              refine wl_val (v := .string ⟨⟨p0_0⟩⟩) (w' := w_3) (by kernel_rfl) (run_move (v := .string ⟨⟨p0_0⟩⟩) (by kernel_rfl)) ?_
              obtain ⟨b_2, h_19, hm⟩ := bind_e hm
              obtain ⟨h_200, h_201, _⟩ := at_some h_19
              refine wl_val (v := .int .u8 (b_2.toNat : Int)) (w' := w_3) (by kernel_rfl) (run_index_str (s := p0_0) (k := .i64) (j := 0) Tryd.underlying9 (by kernel_rfl) (by kernel_rfl) h_200 h_201) ?_
              refine wl_nil ?_
              refine then_n ?_
              refine cw_block ?_
              refine cw_cut (fun l' w' => ∃ x_10, ∃ u_12 : Nat → Value, l' = [.string ⟨⟨p0_0⟩⟩, .int .i64 p1_0, undef, undef, .string ⟨⟨([] : List UInt8)⟩⟩, .int .u64 r_1.1, .int .u64 r_1.2, .int .i64 (cvt .i64 r_1.2), undef, undef, undef, .int .i64 p1_0, .bool (eqi p1_0 0), .bool (eqi p1_0 0), .bool (eqi p1_0 1), .bool (eqi p1_0 1), undef, (u_1 0), (u_1 1), (u_1 2), .tuple #[.int .u64 r_1.1, .int .u64 r_1.2], .string ⟨⟨p0_0⟩⟩, .int .i64 (p0_0.length : Int), .int .u64 (cvt .u64 (p0_0.length : Int)), .int .i64 p1_0, .int .u64 (cvt .u64 p1_0), .tuple #[.int .u64 r_1.1, .int .u64 r_1.2], .int .u64 r_1.1, .int .u64 r_1.2, (u_3 0), (u_3 1), (u_3 2), (u_3 3), (u_3 4), (u_3 5), (u_3 6), .int .u64 r_1.2, .int .i64 (cvt .i64 r_1.2), .string ⟨⟨p0_0⟩⟩, .int .i64 (p0_0.length : Int), .bool (eqi (p0_0.length : Int) 0), .string ⟨⟨p0_0⟩⟩, .int .u8 (b_2.toNat : Int), .bool x_10, (u_12 0), (u_12 1), (u_12 2), (u_12 3), (u_12 4), undef, undef, undef, undef, undef, undef, undef, undef, undef, undef, undef, undef, undef, undef, undef, undef, undef, undef, undef, undef, undef, undef, undef, undef, undef, undef, undef, undef, undef, undef, undef, undef, undef, undef, undef, undef, undef, undef, undef, undef, undef, undef, undef, undef, undef, undef, undef, undef, undef, undef, undef, undef, undef, undef, undef, undef, undef, undef, undef, undef, undef, undef, undef, undef, undef, undef, undef, undef, undef, undef, undef, undef, undef, undef, undef, undef] ∧ LOk w0.heap.size [] F w' ∧ Below w0.heap.size w0 w' ∧ m29_J5 fuel p0_0 r_1 x_10 = some r) ?_ ?_
              · refine cw_seq ?_
                refine cw_region ?_
                refine wl_val (v := .bool (eqi (b_2.toNat : Int) 32)) (w' := w_3) (by kernel_rfl) (run_eqi (k := .u8) (a := (b_2.toNat : Int)) (b := 32) (by kernel_rfl) (by kernel_rfl)) ?_
                refine wl_val (v := .bool (eqi (b_2.toNat : Int) 32)) (w' := w_3) (by kernel_rfl) (run_assign (v := .bool (eqi (b_2.toNat : Int) 32)) (by kernel_rfl)) ?_
                refine wl_nil ?_
                refine then_n ?_
                refine cw_cond (t := (eqi (b_2.toNat : Int) 32)) (by kernel_rfl) (fun hc_46 => ?_) (fun hc_46 => ?_)
                · have hm := ite_t hm hc_46
                  refine cw_skip ?_
                  exact then_c ⟨(eqi (b_2.toNat : Int) 32), (fun i => ([.bool (eqi (b_2.toNat : Int) 32), undef, undef, undef, undef] : List Value).getD i undef), by kernel_rfl, hL, hB, hm⟩
                · have hm := ite_f hm hc_46
                  refine cw_seq ?_
                  refine cw_region ?_
                  refine wl_val (v := .bool (eqi (b_2.toNat : Int) 45)) (w' := w_3) (by kernel_rfl) (run_eqi (k := .u8) (a := (b_2.toNat : Int)) (b := 45) (by kernel_rfl) (by kernel_rfl)) ?_
                  refine wl_val (v := .bool (eqi (b_2.toNat : Int) 45)) (w' := w_3) (by kernel_rfl) (run_assign (v := .bool (eqi (b_2.toNat : Int) 45)) (by kernel_rfl)) ?_
                  refine wl_nil ?_
                  refine then_n ?_
                  refine cw_norm [.string ⟨⟨p0_0⟩⟩, .int .i64 p1_0, undef, undef, .string ⟨⟨([] : List UInt8)⟩⟩, .int .u64 r_1.1, .int .u64 r_1.2, .int .i64 (cvt .i64 r_1.2), undef, undef, undef, .int .i64 p1_0, .bool (eqi p1_0 0), .bool (eqi p1_0 0), .bool (eqi p1_0 1), .bool (eqi p1_0 1), undef, (u_1 0), (u_1 1), (u_1 2), .tuple #[.int .u64 r_1.1, .int .u64 r_1.2], .string ⟨⟨p0_0⟩⟩, .int .i64 (p0_0.length : Int), .int .u64 (cvt .u64 (p0_0.length : Int)), .int .i64 p1_0, .int .u64 (cvt .u64 p1_0), .tuple #[.int .u64 r_1.1, .int .u64 r_1.2], .int .u64 r_1.1, .int .u64 r_1.2, (u_3 0), (u_3 1), (u_3 2), (u_3 3), (u_3 4), (u_3 5), (u_3 6), .int .u64 r_1.2, .int .i64 (cvt .i64 r_1.2), .string ⟨⟨p0_0⟩⟩, .int .i64 (p0_0.length : Int), .bool (eqi (p0_0.length : Int) 0), .string ⟨⟨p0_0⟩⟩, .int .u8 (b_2.toNat : Int), .bool (eqi (b_2.toNat : Int) 45), .bool (eqi (b_2.toNat : Int) 32), .bool (eqi (b_2.toNat : Int) 45), undef, undef, undef, undef, undef, undef, undef, undef, undef, undef, undef, undef, undef, undef, undef, undef, undef, undef, undef, undef, undef, undef, undef, undef, undef, undef, undef, undef, undef, undef, undef, undef, undef, undef, undef, undef, undef, undef, undef, undef, undef, undef, undef, undef, undef, undef, undef, undef, undef, undef, undef, undef, undef, undef, undef, undef, undef, undef, undef, undef, undef, undef, undef, undef, undef, undef, undef, undef, undef, undef, undef, undef, undef, undef, undef, undef, undef, undef, undef] (by kernel_rfl) ?_
                  refine cw_cond (t := (eqi (b_2.toNat : Int) 45)) (by kernel_rfl) (fun hc_47 => ?_) (fun hc_47 => ?_)
                  · have hm := ite_t hm hc_47
                    refine cw_skip ?_
                    exact then_c ⟨(eqi (b_2.toNat : Int) 45), (fun i => ([.bool (eqi (b_2.toNat : Int) 32), .bool (eqi (b_2.toNat : Int) 45), undef, undef, undef] : List Value).getD i undef), by kernel_rfl, hL, hB, hm⟩
                  · have hm := ite_f hm hc_47
                    refine cw_seq ?_
                    refine cw_region ?_
                    refine wl_val (v := .bool (eqi (b_2.toNat : Int) 48)) (w' := w_3) (by kernel_rfl) (run_eqi (k := .u8) (a := (b_2.toNat : Int)) (b := 48) (by kernel_rfl) (by kernel_rfl)) ?_
                    refine wl_val (v := .bool (eqi (b_2.toNat : Int) 48)) (w' := w_3) (by kernel_rfl) (run_assign (v := .bool (eqi (b_2.toNat : Int) 48)) (by kernel_rfl)) ?_
                    refine wl_nil ?_
                    refine then_n ?_
                    refine cw_cond (t := (eqi (b_2.toNat : Int) 48)) (by kernel_rfl) (fun hc_48 => ?_) (fun hc_48 => ?_)
                    · have hm := ite_t hm hc_48
                      refine cw_skip ?_
                      exact then_c ⟨(eqi (b_2.toNat : Int) 48), (fun i => ([.bool (eqi (b_2.toNat : Int) 32), .bool (eqi (b_2.toNat : Int) 45), .bool (eqi (b_2.toNat : Int) 48), undef, undef] : List Value).getD i undef), by kernel_rfl, hL, hB, hm⟩
                    · have hm := ite_f hm hc_48
                      refine cw_seq ?_
                      refine cw_region ?_
                      refine wl_val (v := .bool (eqi (b_2.toNat : Int) 61)) (w' := w_3) (by kernel_rfl) (run_eqi (k := .u8) (a := (b_2.toNat : Int)) (b := 61) (by kernel_rfl) (by kernel_rfl)) ?_
                      refine wl_val (v := .bool (eqi (b_2.toNat : Int) 61)) (w' := w_3) (by kernel_rfl) (run_assign (v := .bool (eqi (b_2.toNat : Int) 61)) (by kernel_rfl)) ?_
                      refine wl_nil ?_
                      refine then_n ?_
                      refine cw_cond (t := (eqi (b_2.toNat : Int) 61)) (by kernel_rfl) (fun hc_49 => ?_) (fun hc_49 => ?_)
                      · have hm := ite_t hm hc_49
                        refine cw_skip ?_
                        exact then_c ⟨(eqi (b_2.toNat : Int) 61), (fun i => ([.bool (eqi (b_2.toNat : Int) 32), .bool (eqi (b_2.toNat : Int) 45), .bool (eqi (b_2.toNat : Int) 48), .bool (eqi (b_2.toNat : Int) 61), undef] : List Value).getD i undef), by kernel_rfl, hL, hB, hm⟩
                      · have hm := ite_f hm hc_49
                        refine cw_region ?_
                        refine wl_val (v := .bool (eqi (b_2.toNat : Int) 9)) (w' := w_3) (by kernel_rfl) (run_eqi (k := .u8) (a := (b_2.toNat : Int)) (b := 9) (by kernel_rfl) (by kernel_rfl)) ?_
                        refine wl_val (v := .bool (eqi (b_2.toNat : Int) 9)) (w' := w_3) (by kernel_rfl) (run_assign (v := .bool (eqi (b_2.toNat : Int) 9)) (by kernel_rfl)) ?_
                        refine wl_nil ?_
                        exact then_c ⟨(eqi (b_2.toNat : Int) 9), (fun i => ([.bool (eqi (b_2.toNat : Int) 32), .bool (eqi (b_2.toNat : Int) 45), .bool (eqi (b_2.toNat : Int) 48), .bool (eqi (b_2.toNat : Int) 61), .bool (eqi (b_2.toNat : Int) 9)] : List Value).getD i undef), by kernel_rfl, hL, hB, hm⟩
              · intro l1 w_12 hI
                obtain ⟨x_10, u_12, rfl, hL, hB, hm⟩ := hI
                unfold m29_J5 at hm
                refine cw_cond (t := x_10) (by kernel_rfl) (fun hc_30 => ?_) (fun hc_30 => ?_)
                · have hm := ite_t hm hc_30
                  refine cw_block ?_
                  refine cw_cut (fun l' w' => ∃ x_11, ∃ u_13 : Nat → Value, l' = [.string ⟨⟨p0_0⟩⟩, .int .i64 p1_0, undef, undef, .string ⟨⟨([] : List UInt8)⟩⟩, .int .u64 r_1.1, .int .u64 r_1.2, .int .i64 (cvt .i64 r_1.2), undef, undef, undef, .int .i64 p1_0, .bool (eqi p1_0 0), .bool (eqi p1_0 0), .bool (eqi p1_0 1), .bool (eqi p1_0 1), undef, (u_1 0), (u_1 1), (u_1 2), .tuple #[.int .u64 r_1.1, .int .u64 r_1.2], .string ⟨⟨p0_0⟩⟩, .int .i64 (p0_0.length : Int), .int .u64 (cvt .u64 (p0_0.length : Int)), .int .i64 p1_0, .int .u64 (cvt .u64 p1_0), .tuple #[.int .u64 r_1.1, .int .u64 r_1.2], .int .u64 r_1.1, .int .u64 r_1.2, (u_3 0), (u_3 1), (u_3 2), (u_3 3), (u_3 4), (u_3 5), (u_3 6), .int .u64 r_1.2, .int .i64 (cvt .i64 r_1.2), .string ⟨⟨p0_0⟩⟩, .int .i64 (p0_0.length : Int), .bool (eqi (p0_0.length : Int) 0), .string ⟨⟨p0_0⟩⟩, .int .u8 (b_2.toNat : Int), .bool x_10, (u_12 0), (u_12 1), (u_12 2), (u_12 3), (u_12 4), .bool x_11, (u_13 0), (u_13 1), (u_13 2), (u_13 3), (u_13 4), (u_13 5), undef, undef, undef, undef, undef, undef, undef, undef, undef, undef, undef, undef, undef, undef, undef, undef, undef, undef, undef, undef, undef, undef, undef, undef, undef, undef, undef, undef, undef, undef, undef, undef, undef, undef, undef, undef, undef, undef, undef, undef, undef, undef, undef, undef, undef, undef, undef, undef, undef, undef, undef, undef, undef, undef, undef, undef, undef, undef, undef, undef, undef, undef, undef, undef, undef, undef, undef, undef, undef] ∧ LOk w0.heap.size [] F w' ∧ Below w0.heap.size w0 w' ∧ m29_J6 fuel p0_0 r_1 x_11 = some r) ?_ ?_
                  · refine cw_region ?_
                    refine wl_val (v := .int .i64 (cvt .i64 r_1.2)) (w' := w_12) (by kernel_rfl) (run_move (v := .int .i64 (cvt .i64 r_1.2)) (by kernel_rfl)) ?_
                    refine wl_val (v := .bool (le (cvt .i64 r_1.2) 128)) (w' := w_12) (by kernel_rfl) (run_le (k := .i64) (a := (cvt .i64 r_1.2)) (b := 128) (by kernel_rfl) (by kernel_rfl)) ?_
                    refine wl_val (v := .bool (le (cvt .i64 r_1.2) 128)) (w' := w_12) (by kernel_rfl) (run_move (v := .bool (le (cvt .i64 r_1.2) 128)) (by kernel_rfl)) ?_
                    rcases Bool.eq_false_or_eq_true (le (cvt .i64 r_1.2) 128) with hc_45 | hc_45
                    · have hm := ite_t hm hc_45
                      refine wl_val (v := .string ⟨⟨p0_0⟩⟩) (w' := w_12) (wg (c := (le (cvt .i64 r_1.2) 128)) (want := true) (by kernel_rfl) hc_45 rfl) (run_move (v := .string ⟨⟨p0_0⟩⟩) (by kernel_rfl)) ?_
                      obtain ⟨r_16, h_35, hm⟩ := bind_e hm
                      refine wl_op (wg (c := (le (cvt .i64 r_1.2) 128)) (want := true) (by kernel_rfl) hc_45 rfl) (ow_enter (run_callf (vs := [.string ⟨⟨([32, 32, 32, 32, 32, 32, 32, 32, 32, 32, 32, 32, 32, 32, 32, 32, 32, 32, 32, 32, 32, 32, 32, 32, 32, 32, 32, 32, 32, 32, 32, 32, 32, 32, 32, 32, 32, 32, 32, 32, 32, 32, 32, 32, 32, 32, 32, 32, 32, 32, 32, 32, 32, 32, 32, 32, 32, 32, 32, 32, 32, 32, 32, 32, 32, 32, 32, 32, 32, 32, 32, 32, 32, 32, 32, 32, 32, 32, 32, 32, 32, 32, 32, 32, 32, 32, 32, 32, 32, 32, 32, 32, 32, 32, 32, 32, 32, 32, 32, 32, 32, 32, 32, 32, 32, 32, 32, 32, 32, 32, 32, 32, 32, 32, 32, 32, 32, 32, 32, 32, 32, 32, 32, 32, 32, 32, 32, 32] : List UInt8)⟩⟩, .string ⟨⟨p0_0⟩⟩]) Tryd.func50 nm_50 (by kernel_rfl) (by kernel_rfl)) (f50_ok (p0_0 := ([32, 32, 32, 32, 32, 32, 32, 32, 32, 32, 32, 32, 32, 32, 32, 32, 32, 32, 32, 32, 32, 32, 32, 32, 32, 32, 32, 32, 32, 32, 32, 32, 32, 32, 32, 32, 32, 32, 32, 32, 32, 32, 32, 32, 32, 32, 32, 32, 32, 32, 32, 32, 32, 32, 32, 32, 32, 32, 32, 32, 32, 32, 32, 32, 32, 32, 32, 32, 32, 32, 32, 32, 32, 32, 32, 32, 32, 32, 32, 32, 32, 32, 32, 32, 32, 32, 32, 32, 32, 32, 32, 32, 32, 32, 32, 32, 32, 32, 32, 32, 32, 32, 32, 32, 32, 32, 32, 32, 32, 32, 32, 32, 32, 32, 32, 32, 32, 32, 32, 32, 32, 32, 32, 32, 32, 32, 32, 32] : List UInt8)) (p1_0 := p0_0) fuel _ w_12 hL.lt  h_35) ?_)
                      intro vR w_27 hR
                      obtain ⟨rfl, hBe⟩ := hR
                      have hS := Stp.call hL (Fz.of_below hBe [])
                      replace hB := hS.below hL hB
                      replace hL := hS.hL
                      refine wl_val (v := .bool r_16) (w' := w_27) (by kernel_rfl) (run_pick_t (v := .bool r_16) (tr2 (c := (le (cvt .i64 r_1.2) 128)) (by kernel_rfl) hc_45) (by kernel_rfl)) ?_
                      refine wl_val (v := .bool r_16) (w' := w_27) (by kernel_rfl) (run_assign (v := .bool r_16) (by kernel_rfl)) ?_
                      refine wl_nil ?_
                      exact then_c ⟨r_16, (fun i => ([.int .i64 (cvt .i64 r_1.2), .bool (le (cvt .i64 r_1.2) 128), .bool (le (cvt .i64 r_1.2) 128), .string ⟨⟨p0_0⟩⟩, .bool r_16, .bool r_16] : List Value).getD i undef), by kernel_rfl, hL, hB, hm⟩
                    · have hm := ite_f hm hc_45
                      refine wl_not0 (wg (c := (le (cvt .i64 r_1.2) 128)) (want := true) (by kernel_rfl) hc_45 rfl) (by kernel_rfl) ?_
                      refine wl_not0 (wg (c := (le (cvt .i64 r_1.2) 128)) (want := true) (by kernel_rfl) hc_45 rfl) (by kernel_rfl) ?_
                      refine wl_val (v := .bool false) (w' := w_12) (by kernel_rfl) (run_pick_f (v := .bool false) (tr2 (c := (le (cvt .i64 r_1.2) 128)) (by kernel_rfl) hc_45) (by kernel_rfl)) ?_
                      refine wl_val (v := .bool false) (w' := w_12) (by kernel_rfl) (run_assign (v := .bool false) (by kernel_rfl)) ?_
                      refine wl_nil ?_
                      exact then_c ⟨false, (fun i => ([.int .i64 (cvt .i64 r_1.2), .bool (le (cvt .i64 r_1.2) 128), .bool (le (cvt .i64 r_1.2) 128), undef, undef, .bool false] : List Value).getD i undef), by kernel_rfl, hL, hB, hm⟩
                  · intro l1 w_14 hI
                    obtain ⟨x_11, u_13, rfl, hL, hB, hm⟩ := hI
                    unfold m29_J6 at hm
                    refine cw_cond (t := x_11) (by kernel_rfl) (fun hc_32 => ?_) (fun hc_32 => ?_)
                    · have hm := ite_t hm hc_32
                      refine cw_seq ?_
                      refine cw_region ?_
                      refine wl_val (v := .int .i64 (cvt .i64 r_1.2)) (w' := w_14) (by kernel_rfl) (run_move (v := .int .i64 (cvt .i64 r_1.2)) (by kernel_rfl)) ?_
                      obtain ⟨s_6, h_22, hm⟩ := bind_e hm
                      refine wl_val (v := .string ⟨⟨s_6⟩⟩) (w' := w_14) (by kernel_rfl) (run_slice_str_h (s := ([32, 32, 32, 32, 32, 32, 32, 32, 32, 32, 32, 32, 32, 32, 32, 32, 32, 32, 32, 32, 32, 32, 32, 32, 32, 32, 32, 32, 32, 32, 32, 32, 32, 32, 32, 32, 32, 32, 32, 32, 32, 32, 32, 32, 32, 32, 32, 32, 32, 32, 32, 32, 32, 32, 32, 32, 32, 32, 32, 32, 32, 32, 32, 32, 32, 32, 32, 32, 32, 32, 32, 32, 32, 32, 32, 32, 32, 32, 32, 32, 32, 32, 32, 32, 32, 32, 32, 32, 32, 32, 32, 32, 32, 32, 32, 32, 32, 32, 32, 32, 32, 32, 32, 32, 32, 32, 32, 32, 32, 32, 32, 32, 32, 32, 32, 32, 32, 32, 32, 32, 32, 32, 32, 32, 32, 32, 32, 32] : List UInt8)) (k := .i64) (j := (cvt .i64 r_1.2)) Tryd.underlying9 (by kernel_rfl) (by kernel_rfl) h_22) ?_
                      refine wl_val (v := .string ⟨⟨s_6⟩⟩) (w' := w_14) (by kernel_rfl) (run_assign (v := .string ⟨⟨s_6⟩⟩) (by kernel_rfl)) ?_
                      refine wl_nil ?_
                      refine then_n ?_
                      refine cw_ret ?_
                      refine inBlock_ret ?_
                      refine inBlock_ret ?_
                      refine then_ret ?_
                      obtain rfl := Option.some.inj hm
                      exact ret1 (v := .string ⟨⟨s_6⟩⟩) rfl (resv_tmp (by kernel_rfl)) ⟨_, rfl, by kernel_rfl, hB⟩
                    · have hm := ite_f hm hc_32
                      refine cw_cut (fun l' w' => ∃ x_12, ∃ u_14 : Nat → Value, l' = [.string ⟨⟨p0_0⟩⟩, .int .i64 p1_0, undef, undef, .string ⟨⟨([] : List UInt8)⟩⟩, .int .u64 r_1.1, .int .u64 r_1.2, .int .i64 (cvt .i64 r_1.2), undef, undef, undef, .int .i64 p1_0, .bool (eqi p1_0 0), .bool (eqi p1_0 0), .bool (eqi p1_0 1), .bool (eqi p1_0 1), undef, (u_1 0), (u_1 1), (u_1 2), .tuple #[.int .u64 r_1.1, .int .u64 r_1.2], .string ⟨⟨p0_0⟩⟩, .int .i64 (p0_0.length : Int), .int .u64 (cvt .u64 (p0_0.length : Int)), .int .i64 p1_0, .int .u64 (cvt .u64 p1_0), .tuple #[.int .u64 r_1.1, .int .u64 r_1.2], .int .u64 r_1.1, .int .u64 r_1.2, (u_3 0), (u_3 1), (u_3 2), (u_3 3), (u_3 4), (u_3 5), (u_3 6), .int .u64 r_1.2, .int .i64 (cvt .i64 r_1.2), .string ⟨⟨p0_0⟩⟩, .int .i64 (p0_0.length : Int), .bool (eqi (p0_0.length : Int) 0), .string ⟨⟨p0_0⟩⟩, .int .u8 (b_2.toNat : Int), .bool x_10, (u_12 0), (u_12 1), (u_12 2), (u_12 3), (u_12 4), .bool x_11, (u_13 0), (u_13 1), (u_13 2), (u_13 3), (u_13 4), (u_13 5), undef, undef, .bool x_12, (u_14 0), (u_14 1), (u_14 2), (u_14 3), (u_14 4), (u_14 5), undef, undef, undef, undef, undef, undef, undef, undef, undef, undef, undef, undef, undef, undef, undef, undef, undef, undef, undef, undef, undef, undef, undef, undef, undef, undef, undef, undef, undef, undef, undef, undef, undef, undef, undef, undef, undef, undef, undef, undef, undef, undef, undef, undef, undef, undef, undef, undef, undef, undef, undef, undef, undef, undef, undef, undef, undef, undef, undef, undef] ∧ LOk w0.heap.size [] F w' ∧ Below w0.heap.size w0 w' ∧ m29_J7 fuel p0_0 r_1 x_12 = some r) ?_ ?_
                      · refine cw_region ?_
                        refine wl_val (v := .int .i64 (cvt .i64 r_1.2)) (w' := w_14) (by kernel_rfl) (run_move (v := .int .i64 (cvt .i64 r_1.2)) (by kernel_rfl)) ?_
                        refine wl_val (v := .bool (le (cvt .i64 r_1.2) 128)) (w' := w_14) (by kernel_rfl) (run_le (k := .i64) (a := (cvt .i64 r_1.2)) (b := 128) (by kernel_rfl) (by kernel_rfl)) ?_
                        refine wl_val (v := .bool (le (cvt .i64 r_1.2) 128)) (w' := w_14) (by kernel_rfl) (run_move (v := .bool (le (cvt .i64 r_1.2) 128)) (by kernel_rfl)) ?_
                        rcases Bool.eq_false_or_eq_true (le (cvt .i64 r_1.2) 128) with hc_44 | hc_44
                        · have hm := ite_t hm hc_44
                          refine wl_val (v := .string ⟨⟨p0_0⟩⟩) (w' := w_14) (wg (c := (le (cvt .i64 r_1.2) 128)) (want := true) (by kernel_rfl) hc_44 rfl) (run_move (v := .string ⟨⟨p0_0⟩⟩) (by kernel_rfl)) ?_
                          obtain ⟨r_15, h_34, hm⟩ := bind_e hm
                          refine wl_op (wg (c := (le (cvt .i64 r_1.2) 128)) (want := true) (by kernel_rfl) hc_44 rfl) (ow_enter (run_callf (vs := [.string ⟨⟨([45, 45, 45, 45, 45, 45, 45, 45, 45, 45, 45, 45, 45, 45, 45, 45, 45, 45, 45, 45, 45, 45, 45, 45, 45, 45, 45, 45, 45, 45, 45, 45, 45, 45, 45, 45, 45, 45, 45, 45, 45, 45, 45, 45, 45, 45, 45, 45, 45, 45, 45, 45, 45, 45, 45, 45, 45, 45, 45, 45, 45, 45, 45, 45, 45, 45, 45, 45, 45, 45, 45, 45, 45, 45, 45, 45, 45, 45, 45, 45, 45, 45, 45, 45, 45, 45, 45, 45, 45, 45, 45, 45, 45, 45, 45, 45, 45, 45, 45, 45, 45, 45, 45, 45, 45, 45, 45, 45, 45, 45, 45, 45, 45, 45, 45, 45, 45, 45, 45, 45, 45, 45, 45, 45, 45, 45, 45, 45] : List UInt8)⟩⟩, .string ⟨⟨p0_0⟩⟩]) Tryd.func50 nm_50 (by kernel_rfl) (by kernel_rfl)) (f50_ok (p0_0 := ([45, 45, 45, 45, 45, 45, 45, 45, 45, 45, 45, 45, 45, 45, 45, 45, 45, 45, 45, 45, 45, 45, 45, 45, 45, 45, 45, 45, 45, 45, 45, 45, 45, 45, 45, 45, 45, 45, 45, 45, 45, 45, 45, 45, 45, 45, 45, 45, 45, 45, 45, 45, 45, 45, 45, 45, 45, 45, 45, 45, 45, 45, 45, 45, 45, 45, 45, 45, 45, 45, 45, 45, 45, 45, 45, 45, 45, 45, 45, 45, 45, 45, 45, 45, 45, 45, 45, 45, 45, 45, 45, 45, 45, 45, 45, 45, 45, 45, 45, 45, 45, 45, 45, 45, 45, 45, 45, 45, 45, 45, 45, 45, 45, 45, 45, 45, 45, 45, 45, 45, 45, 45, 45, 45, 45, 45, 45, 45] : List UInt8)) (p1_0 := p0_0) fuel _ w_14 hL.lt  h_34) ?_)
                          intro vR w_26 hR
                          obtain ⟨rfl, hBe⟩ := hR
                          have hS := Stp.call hL (Fz.of_below hBe [])
                          replace hB := hS.below hL hB
                          replace hL := hS.hL
                          refine wl_val (v := .bool r_15) (w' := w_26) (by kernel_rfl) (run_pick_t (v := .bool r_15) (tr2 (c := (le (cvt .i64 r_1.2) 128)) (by kernel_rfl) hc_44) (by kernel_rfl)) ?_
                          refine wl_val (v := .bool r_15) (w' := w_26) (by kernel_rfl) (run_assign (v := .bool r_15) (by kernel_rfl)) ?_
                          refine wl_nil ?_
                          exact then_c ⟨r_15, (fun i => ([.int .i64 (cvt .i64 r_1.2), .bool (le (cvt .i64 r_1.2) 128), .bool (le (cvt .i64 r_1.2) 128), .string ⟨⟨p0_0⟩⟩, .bool r_15, .bool r_15] : List Value).getD i undef), by kernel_rfl, hL, hB, hm⟩
                        · have hm := ite_f hm hc_44
                          refine wl_not0 (wg (c := (le (cvt .i64 r_1.2) 128)) (want := true) (by kernel_rfl) hc_44 rfl) (by kernel_rfl) ?_
                          refine wl_not0 (wg (c := (le (cvt .i64 r_1.2) 128)) (want := true) (by kernel_rfl) hc_44 rfl) (by kernel_rfl) ?_
                          refine wl_val (v := .bool false) (w' := w_14) (by kernel_rfl) (run_pick_f (v := .bool false) (tr2 (c := (le (cvt .i64 r_1.2) 128)) (by kernel_rfl) hc_44) (by kernel_rfl)) ?_
                          refine wl_val (v := .bool false) (w' := w_14) (by kernel_rfl) (run_assign (v := .bool false) (by kernel_rfl)) ?_
                          refine wl_nil ?_
                          exact then_c ⟨false, (fun i => ([.int .i64 (cvt .i64 r_1.2), .bool (le (cvt .i64 r_1.2) 128), .bool (le (cvt .i64 r_1.2) 128), undef, undef, .bool false] : List Value).getD i undef), by kernel_rfl, hL, hB, hm⟩
                      · intro l1 w_16 hI
                        obtain ⟨x_12, u_14, rfl, hL, hB, hm⟩ := hI
                        unfold m29_J7 at hm
                        refine cw_cond (t := x_12) (by kernel_rfl) (fun hc_34 => ?_) (fun hc_34 => ?_)
                        · have hm := ite_t hm hc_34
                          refine cw_seq ?_
                          refine cw_region ?_
                          refine wl_val (v := .int .i64 (cvt .i64 r_1.2)) (w' := w_16) (by kernel_rfl) (run_move (v := .int .i64 (cvt .i64 r_1.2)) (by kernel_rfl)) ?_
                          obtain ⟨s_7, h_24, hm⟩ := bind_e hm
                          refine wl_val (v := .string ⟨⟨s_7⟩⟩) (w' := w_16) (by kernel_rfl) (run_slice_str_h (s := ([45, 45, 45, 45, 45, 45, 45, 45, 45, 45, 45, 45, 45, 45, 45, 45, 45, 45, 45, 45, 45, 45, 45, 45, 45, 45, 45, 45, 45, 45, 45, 45, 45, 45, 45, 45, 45, 45, 45, 45, 45, 45, 45, 45, 45, 45, 45, 45, 45, 45, 45, 45, 45, 45, 45, 45, 45, 45, 45, 45, 45, 45, 45, 45, 45, 45, 45, 45, 45, 45, 45, 45, 45, 45, 45, 45, 45, 45, 45, 45, 45, 45, 45, 45, 45, 45, 45, 45, 45, 45, 45, 45, 45, 45, 45, 45, 45, 45, 45, 45, 45, 45, 45, 45, 45, 45, 45, 45, 45, 45, 45, 45, 45, 45, 45, 45, 45, 45, 45, 45, 45, 45, 45, 45, 45, 45, 45, 45] : List UInt8)) (k := .i64) (j := (cvt .i64 r_1.2)) Tryd.underlying9 (by kernel_rfl) (by kernel_rfl) h_24) ?_
                          refine wl_val (v := .string ⟨⟨s_7⟩⟩) (w' := w_16) (by kernel_rfl) (run_assign (v := .string ⟨⟨s_7⟩⟩) (by kernel_rfl)) ?_
                          refine wl_nil ?_
                          refine then_n ?_
                          refine cw_ret ?_
                          refine inBlock_ret ?_
                          refine inBlock_ret ?_
                          refine then_ret ?_
                          obtain rfl := Option.some.inj hm
                          exact ret1 (v := .string ⟨⟨s_7⟩⟩) rfl (resv_tmp (by kernel_rfl)) ⟨_, rfl, by kernel_rfl, hB⟩
                        · have hm := ite_f hm hc_34
                          refine cw_cut (fun l' w' => ∃ x_13, ∃ u_15 : Nat → Value, l' = [.string ⟨⟨p0_0⟩⟩, .int .i64 p1_0, undef, undef, .string ⟨⟨([] : List UInt8)⟩⟩, .int .u64 r_1.1, .int .u64 r_1.2, .int .i64 (cvt .i64 r_1.2), undef, undef, undef, .int .i64 p1_0, .bool (eqi p1_0 0), .bool (eqi p1_0 0), .bool (eqi p1_0 1), .bool (eqi p1_0 1), undef, (u_1 0), (u_1 1), (u_1 2), .tuple #[.int .u64 r_1.1, .int .u64 r_1.2], .string ⟨⟨p0_0⟩⟩, .int .i64 (p0_0.length : Int), .int .u64 (cvt .u64 (p0_0.length : Int)), .int .i64 p1_0, .int .u64 (cvt .u64 p1_0), .tuple #[.int .u64 r_1.1, .int .u64 r_1.2], .int .u64 r_1.1, .int .u64 r_1.2, (u_3 0), (u_3 1), (u_3 2), (u_3 3), (u_3 4), (u_3 5), (u_3 6), .int .u64 r_1.2, .int .i64 (cvt .i64 r_1.2), .string ⟨⟨p0_0⟩⟩, .int .i64 (p0_0.length : Int), .bool (eqi (p0_0.length : Int) 0), .string ⟨⟨p0_0⟩⟩, .int .u8 (b_2.toNat : Int), .bool x_10, (u_12 0), (u_12 1), (u_12 2), (u_12 3), (u_12 4), .bool x_11, (u_13 0), (u_13 1), (u_13 2), (u_13 3), (u_13 4), (u_13 5), undef, undef, .bool x_12, (u_14 0), (u_14 1), (u_14 2), (u_14 3), (u_14 4), (u_14 5), undef, undef, .bool x_13, (u_15 0), (u_15 1), (u_15 2), (u_15 3), (u_15 4), (u_15 5), undef, undef, undef, undef, undef, undef, undef, undef, undef, undef, undef, undef, undef, undef, undef, undef, undef, undef, undef, undef, undef, undef, undef, undef, undef, undef, undef, undef, undef, undef, undef, undef, undef, undef, undef, undef, undef, undef, undef, undef, undef, undef, undef, undef, undef, undef, undef, undef, undef, undef, undef] ∧ LOk w0.heap.size [] F w' ∧ Below w0.heap.size w0 w' ∧ m29_J8 fuel p0_0 r_1 x_13 = some r) ?_ ?_
                          · refine cw_region ?_
                            refine wl_val (v := .int .i64 (cvt .i64 r_1.2)) (w' := w_16) (by kernel_rfl) (run_move (v := .int .i64 (cvt .i64 r_1.2)) (by kernel_rfl)) ?_
                            refine wl_val (v := .bool (le (cvt .i64 r_1.2) 64)) (w' := w_16) (by kernel_rfl) (run_le (k := .i64) (a := (cvt .i64 r_1.2)) (b := 64) (by kernel_rfl) (by kernel_rfl)) ?_
                            refine wl_val (v := .bool (le (cvt .i64 r_1.2) 64)) (w' := w_16) (by kernel_rfl) (run_move (v := .bool (le (cvt .i64 r_1.2) 64)) (by kernel_rfl)) ?_
                            rcases Bool.eq_false_or_eq_true (le (cvt .i64 r_1.2) 64) with hc_43 | hc_43
                            · have hm := ite_t hm hc_43
                              refine wl_val (v := .string ⟨⟨p0_0⟩⟩) (w' := w_16) (wg (c := (le (cvt .i64 r_1.2) 64)) (want := true) (by kernel_rfl) hc_43 rfl) (run_move (v := .string ⟨⟨p0_0⟩⟩) (by kernel_rfl)) ?_
                              obtain ⟨r_14, h_33, hm⟩ := bind_e hm
                              refine wl_op (wg (c := (le (cvt .i64 r_1.2) 64)) (want := true) (by kernel_rfl) hc_43 rfl) (ow_enter (run_callf (vs := [.string ⟨⟨([48, 48, 48, 48, 48, 48, 48, 48, 48, 48, 48, 48, 48, 48, 48, 48, 48, 48, 48, 48, 48, 48, 48, 48, 48, 48, 48, 48, 48, 48, 48, 48, 48, 48, 48, 48, 48, 48, 48, 48, 48, 48, 48, 48, 48, 48, 48, 48, 48, 48, 48, 48, 48, 48, 48, 48, 48, 48, 48, 48, 48, 48, 48, 48] : List UInt8)⟩⟩, .string ⟨⟨p0_0⟩⟩]) Tryd.func50 nm_50 (by kernel_rfl) (by kernel_rfl)) (f50_ok (p0_0 := ([48, 48, 48, 48, 48, 48, 48, 48, 48, 48, 48, 48, 48, 48, 48, 48, 48, 48, 48, 48, 48, 48, 48, 48, 48, 48, 48, 48, 48, 48, 48, 48, 48, 48, 48, 48, 48, 48, 48, 48, 48, 48, 48, 48, 48, 48, 48, 48, 48, 48, 48, 48, 48, 48, 48, 48, 48, 48, 48, 48, 48, 48, 48, 48] : List UInt8)) (p1_0 := p0_0) fuel _ w_16 hL.lt  h_33) ?_)
                              intro vR w_25 hR
                              obtain ⟨rfl, hBe⟩ := hR
                              have hS := Stp.call hL (Fz.of_below hBe [])
                              replace hB := hS.below hL hB
                              replace hL := hS.hL
                              refine wl_val (v := .bool r_14) (w' := w_25) (by kernel_rfl) (run_pick_t (v := .bool r_14) (tr2 (c := (le (cvt .i64 r_1.2) 64)) (by kernel_rfl) hc_43) (by kernel_rfl)) ?_
                              refine wl_val (v := .bool r_14) (w' := w_25) (by kernel_rfl) (run_assign (v := .bool r_14) (by kernel_rfl)) ?_
                              refine wl_nil ?_
                              exact then_c ⟨r_14, (fun i => ([.int .i64 (cvt .i64 r_1.2), .bool (le (cvt .i64 r_1.2) 64), .bool (le (cvt .i64 r_1.2) 64), .string ⟨⟨p0_0⟩⟩, .bool r_14, .bool r_14] : List Value).getD i undef), by kernel_rfl, hL, hB, hm⟩
                            · have hm := ite_f hm hc_43
                              refine wl_not0 (wg (c := (le (cvt .i64 r_1.2) 64)) (want := true) (by kernel_rfl) hc_43 rfl) (by kernel_rfl) ?_
                              refine wl_not0 (wg (c := (le (cvt .i64 r_1.2) 64)) (want := true) (by kernel_rfl) hc_43 rfl) (by kernel_rfl) ?_
                              refine wl_val (v := .bool false) (w' := w_16) (by kernel_rfl) (run_pick_f (v := .bool false) (tr2 (c := (le (cvt .i64 r_1.2) 64)) (by kernel_rfl) hc_43) (by kernel_rfl)) ?_
                              refine wl_val (v := .bool false) (w' := w_16) (by kernel_rfl) (run_assign (v := .bool false) (by kernel_rfl)) ?_
                              refine wl_nil ?_
                              exact then_c ⟨false, (fun i => ([.int .i64 (cvt .i64 r_1.2), .bool (le (cvt .i64 r_1.2) 64), .bool (le (cvt .i64 r_1.2) 64), undef, undef, .bool false] : List Value).getD i undef), by kernel_rfl, hL, hB, hm⟩
                          · intro l1 w_18 hI
                            obtain ⟨x_13, u_15, rfl, hL, hB, hm⟩ := hI
                            unfold m29_J8 at hm
                            refine cw_cond (t := x_13) (by kernel_rfl) (fun hc_36 => ?_) (fun hc_36 => ?_)
                            · have hm := ite_t hm hc_36
                              refine cw_seq ?_
                              refine cw_region ?_
                              refine wl_val (v := .int .i64 (cvt .i64 r_1.2)) (w' := w_18) (by kernel_rfl) (run_move (v := .int .i64 (cvt .i64 r_1.2)) (by kernel_rfl)) ?_
                              obtain ⟨s_8, h_26, hm⟩ := bind_e hm
                              refine wl_val (v := .string ⟨⟨s_8⟩⟩) (w' := w_18) (by kernel_rfl) (run_slice_str_h (s := ([48, 48, 48, 48, 48, 48, 48, 48, 48, 48, 48, 48, 48, 48, 48, 48, 48, 48, 48, 48, 48, 48, 48, 48, 48, 48, 48, 48, 48, 48, 48, 48, 48, 48, 48, 48, 48, 48, 48, 48, 48, 48, 48, 48, 48, 48, 48, 48, 48, 48, 48, 48, 48, 48, 48, 48, 48, 48, 48, 48, 48, 48, 48, 48] : List UInt8)) (k := .i64) (j := (cvt .i64 r_1.2)) Tryd.underlying9 (by kernel_rfl) (by kernel_rfl) h_26) ?_
                              refine wl_val (v := .string ⟨⟨s_8⟩⟩) (w' := w_18) (by kernel_rfl) (run_assign (v := .string ⟨⟨s_8⟩⟩) (by kernel_rfl)) ?_
                              refine wl_nil ?_
                              refine then_n ?_
                              refine cw_ret ?_
                              refine inBlock_ret ?_
                              refine inBlock_ret ?_
                              refine then_ret ?_
                              obtain rfl := Option.some.inj hm
                              exact ret1 (v := .string ⟨⟨s_8⟩⟩) rfl (resv_tmp (by kernel_rfl)) ⟨_, rfl, by kernel_rfl, hB⟩
                            · have hm := ite_f hm hc_36
                              refine cw_cut (fun l' w' => ∃ x_14, ∃ u_16 : Nat → Value, l' = [.string ⟨⟨p0_0⟩⟩, .int .i64 p1_0, undef, undef, .string ⟨⟨([] : List UInt8)⟩⟩, .int .u64 r_1.1, .int .u64 r_1.2, .int .i64 (cvt .i64 r_1.2), undef, undef, undef, .int .i64 p1_0, .bool (eqi p1_0 0), .bool (eqi p1_0 0), .bool (eqi p1_0 1), .bool (eqi p1_0 1), undef, (u_1 0), (u_1 1), (u_1 2), .tuple #[.int .u64 r_1.1, .int .u64 r_1.2], .string ⟨⟨p0_0⟩⟩, .int .i64 (p0_0.length : Int), .int .u64 (cvt .u64 (p0_0.length : Int)), .int .i64 p1_0, .int .u64 (cvt .u64 p1_0), .tuple #[.int .u64 r_1.1, .int .u64 r_1.2], .int .u64 r_1.1, .int .u64 r_1.2, (u_3 0), (u_3 1), (u_3 2), (u_3 3), (u_3 4), (u_3 5), (u_3 6), .int .u64 r_1.2, .int .i64 (cvt .i64 r_1.2), .string ⟨⟨p0_0⟩⟩, .int .i64 (p0_0.length : Int), .bool (eqi (p0_0.length : Int) 0), .string ⟨⟨p0_0⟩⟩, .int .u8 (b_2.toNat : Int), .bool x_10, (u_12 0), (u_12 1), (u_12 2), (u_12 3), (u_12 4), .bool x_11, (u_13 0), (u_13 1), (u_13 2), (u_13 3), (u_13 4), (u_13 5), undef, undef, .bool x_12, (u_14 0), (u_14 1), (u_14 2), (u_14 3), (u_14 4), (u_14 5), undef, undef, .bool x_13, (u_15 0), (u_15 1), (u_15 2), (u_15 3), (u_15 4), (u_15 5), undef, undef, .bool x_14, (u_16 0), (u_16 1), (u_16 2), (u_16 3), (u_16 4), (u_16 5), undef, undef, undef, undef, undef, undef, undef, undef, undef, undef, undef, undef, undef, undef, undef, undef, undef, undef, undef, undef, undef, undef, undef, undef, undef, undef, undef, undef, undef, undef, undef, undef, undef, undef, undef, undef, undef, undef, undef, undef, undef, undef] ∧ LOk w0.heap.size [] F w' ∧ Below w0.heap.size w0 w' ∧ m29_J9 fuel p0_0 r_1 x_14 = some r) ?_ ?_
                              · refine cw_region ?_
                                refine wl_val (v := .int .i64 (cvt .i64 r_1.2)) (w' := w_18) (by kernel_rfl) (run_move (v := .int .i64 (cvt .i64 r_1.2)) (by kernel_rfl)) ?_
                                refine wl_val (v := .bool (le (cvt .i64 r_1.2) 128)) (w' := w_18) (by kernel_rfl) (run_le (k := .i64) (a := (cvt .i64 r_1.2)) (b := 128) (by kernel_rfl) (by kernel_rfl)) ?_
                                refine wl_val (v := .bool (le (cvt .i64 r_1.2) 128)) (w' := w_18) (by kernel_rfl) (run_move (v := .bool (le (cvt .i64 r_1.2) 128)) (by kernel_rfl)) ?_
                                rcases Bool.eq_false_or_eq_true (le (cvt .i64 r_1.2) 128) with hc_42 | hc_42
                                · have hm := ite_t hm hc_42
                                  refine wl_val (v := .string ⟨⟨p0_0⟩⟩) (w' := w_18) (wg (c := (le (cvt .i64 r_1.2) 128)) (want := true) (by kernel_rfl) hc_42 rfl) (run_move (v := .string ⟨⟨p0_0⟩⟩) (by kernel_rfl)) ?_
                                  obtain ⟨r_13, h_32, hm⟩ := bind_e hm
                                  refine wl_op (wg (c := (le (cvt .i64 r_1.2) 128)) (want := true) (by kernel_rfl) hc_42 rfl) (ow_enter (run_callf (vs := [.string ⟨⟨([61, 61, 61, 61, 61, 61, 61, 61, 61, 61, 61, 61, 61, 61, 61, 61, 61, 61, 61, 61, 61, 61, 61, 61, 61, 61, 61, 61, 61, 61, 61, 61, 61, 61, 61, 61, 61, 61, 61, 61, 61, 61, 61, 61, 61, 61, 61, 61, 61, 61, 61, 61, 61, 61, 61, 61, 61, 61, 61, 61, 61, 61, 61, 61, 61, 61, 61, 61, 61, 61, 61, 61, 61, 61, 61, 61, 61, 61, 61, 61, 61, 61, 61, 61, 61, 61, 61, 61, 61, 61, 61, 61, 61, 61, 61, 61, 61, 61, 61, 61, 61, 61, 61, 61, 61, 61, 61, 61, 61, 61, 61, 61, 61, 61, 61, 61, 61, 61, 61, 61, 61, 61, 61, 61, 61, 61, 61, 61] : List UInt8)⟩⟩, .string ⟨⟨p0_0⟩⟩]) Tryd.func50 nm_50 (by kernel_rfl) (by kernel_rfl)) (f50_ok (p0_0 := ([61, 61, 61, 61, 61, 61, 61, 61, 61, 61, 61, 61, 61, 61, 61, 61, 61, 61, 61, 61, 61, 61, 61, 61, 61, 61, 61, 61, 61, 61, 61, 61, 61, 61, 61, 61, 61, 61, 61, 61, 61, 61, 61, 61, 61, 61, 61, 61, 61, 61, 61, 61, 61, 61, 61, 61, 61, 61, 61, 61, 61, 61, 61, 61, 61, 61, 61, 61, 61, 61, 61, 61, 61, 61, 61, 61, 61, 61, 61, 61, 61, 61, 61, 61, 61, 61, 61, 61, 61, 61, 61, 61, 61, 61, 61, 61, 61, 61, 61, 61, 61, 61, 61, 61, 61, 61, 61, 61, 61, 61, 61, 61, 61, 61, 61, 61, 61, 61, 61, 61, 61, 61, 61, 61, 61, 61, 61, 61] : List UInt8)) (p1_0 := p0_0) fuel _ w_18 hL.lt  h_32) ?_)
                                  intro vR w_24 hR
                                  obtain ⟨rfl, hBe⟩ := hR
                                  have hS := Stp.call hL (Fz.of_below hBe [])
                                  replace hB := hS.below hL hB
                                  replace hL := hS.hL
                                  refine wl_val (v := .bool r_13) (w' := w_24) (by kernel_rfl) (run_pick_t (v := .bool r_13) (tr2 (c := (le (cvt .i64 r_1.2) 128)) (by kernel_rfl) hc_42) (by kernel_rfl)) ?_
                                  refine wl_val (v := .bool r_13) (w' := w_24) (by kernel_rfl) (run_assign (v := .bool r_13) (by kernel_rfl)) ?_
                                  refine wl_nil ?_
                                  exact then_c ⟨r_13, (fun i => ([.int .i64 (cvt .i64 r_1.2), .bool (le (cvt .i64 r_1.2) 128), .bool (le (cvt .i64 r_1.2) 128), .string ⟨⟨p0_0⟩⟩, .bool r_13, .bool r_13] : List Value).getD i undef), by kernel_rfl, hL, hB, hm⟩
                                · have hm := ite_f hm hc_42
                                  refine wl_not0 (wg (c := (le (cvt .i64 r_1.2) 128)) (want := true) (by kernel_rfl) hc_42 rfl) (by kernel_rfl) ?_
                                  refine wl_not0 (wg (c := (le (cvt .i64 r_1.2) 128)) (want := true) (by kernel_rfl) hc_42 rfl) (by kernel_rfl) ?_
                                  refine wl_val (v := .bool false) (w' := w_18) (by kernel_rfl) (run_pick_f (v := .bool false) (tr2 (c := (le (cvt .i64 r_1.2) 128)) (by kernel_rfl) hc_42) (by kernel_rfl)) ?_
                                  refine wl_val (v := .bool false) (w' := w_18) (by kernel_rfl) (run_assign (v := .bool false) (by kernel_rfl)) ?_
                                  refine wl_nil ?_
                                  exact then_c ⟨false, (fun i => ([.int .i64 (cvt .i64 r_1.2), .bool (le (cvt .i64 r_1.2) 128), .bool (le (cvt .i64 r_1.2) 128), undef, undef, .bool false] : List Value).getD i undef), by kernel_rfl, hL, hB, hm⟩
                              · intro l1 w_20 hI
                                obtain ⟨x_14, u_16, rfl, hL, hB, hm⟩ := hI
                                unfold m29_J9 at hm
                                refine cw_cond (t := x_14) (by kernel_rfl) (fun hc_38 => ?_) (fun hc_38 => ?_)
                                · have hm := ite_t hm hc_38
                                  refine cw_seq ?_
                                  refine cw_region ?_
                                  refine wl_val (v := .int .i64 (cvt .i64 r_1.2)) (w' := w_20) (by kernel_rfl) (run_move (v := .int .i64 (cvt .i64 r_1.2)) (by kernel_rfl)) ?_
                                  obtain ⟨s_9, h_28, hm⟩ := bind_e hm
                                  refine wl_val (v := .string ⟨⟨s_9⟩⟩) (w' := w_20) (by kernel_rfl) (run_slice_str_h (s := ([61, 61, 61, 61, 61, 61, 61, 61, 61, 61, 61, 61, 61, 61, 61, 61, 61, 61, 61, 61, 61, 61, 61, 61, 61, 61, 61, 61, 61, 61, 61, 61, 61, 61, 61, 61, 61, 61, 61, 61, 61, 61, 61, 61, 61, 61, 61, 61, 61, 61, 61, 61, 61, 61, 61, 61, 61, 61, 61, 61, 61, 61, 61, 61, 61, 61, 61, 61, 61, 61, 61, 61, 61, 61, 61, 61, 61, 61, 61, 61, 61, 61, 61, 61, 61, 61, 61, 61, 61, 61, 61, 61, 61, 61, 61, 61, 61, 61, 61, 61, 61, 61, 61, 61, 61, 61, 61, 61, 61, 61, 61, 61, 61, 61, 61, 61, 61, 61, 61, 61, 61, 61, 61, 61, 61, 61, 61, 61] : List UInt8)) (k := .i64) (j := (cvt .i64 r_1.2)) Tryd.underlying9 (by kernel_rfl) (by kernel_rfl) h_28) ?_
                                  refine wl_val (v := .string ⟨⟨s_9⟩⟩) (w' := w_20) (by kernel_rfl) (run_assign (v := .string ⟨⟨s_9⟩⟩) (by kernel_rfl)) ?_
                                  refine wl_nil ?_
                                  refine then_n ?_
                                  refine cw_ret ?_
                                  refine inBlock_ret ?_
                                  refine inBlock_ret ?_
                                  refine then_ret ?_
                                  obtain rfl := Option.some.inj hm
                                  exact ret1 (v := .string ⟨⟨s_9⟩⟩) rfl (resv_tmp (by kernel_rfl)) ⟨_, rfl, by kernel_rfl, hB⟩
                                · have hm := ite_f hm hc_38
                                  refine cw_cut (fun l' w' => ∃ x_15, ∃ u_17 : Nat → Value, l' = [.string ⟨⟨p0_0⟩⟩, .int .i64 p1_0, undef, undef, .string ⟨⟨([] : List UInt8)⟩⟩, .int .u64 r_1.1, .int .u64 r_1.2, .int .i64 (cvt .i64 r_1.2), undef, undef, undef, .int .i64 p1_0, .bool (eqi p1_0 0), .bool (eqi p1_0 0), .bool (eqi p1_0 1), .bool (eqi p1_0 1), undef, (u_1 0), (u_1 1), (u_1 2), .tuple #[.int .u64 r_1.1, .int .u64 r_1.2], .string ⟨⟨p0_0⟩⟩, .int .i64 (p0_0.length : Int), .int .u64 (cvt .u64 (p0_0.length : Int)), .int .i64 p1_0, .int .u64 (cvt .u64 p1_0), .tuple #[.int .u64 r_1.1, .int .u64 r_1.2], .int .u64 r_1.1, .int .u64 r_1.2, (u_3 0), (u_3 1), (u_3 2), (u_3 3), (u_3 4), (u_3 5), (u_3 6), .int .u64 r_1.2, .int .i64 (cvt .i64 r_1.2), .string ⟨⟨p0_0⟩⟩, .int .i64 (p0_0.length : Int), .bool (eqi (p0_0.length : Int) 0), .string ⟨⟨p0_0⟩⟩, .int .u8 (b_2.toNat : Int), .bool x_10, (u_12 0), (u_12 1), (u_12 2), (u_12 3), (u_12 4), .bool x_11, (u_13 0), (u_13 1), (u_13 2), (u_13 3), (u_13 4), (u_13 5), undef, undef, .bool x_12, (u_14 0), (u_14 1), (u_14 2), (u_14 3), (u_14 4), (u_14 5), undef, undef, .bool x_13, (u_15 0), (u_15 1), (u_15 2), (u_15 3), (u_15 4), (u_15 5), undef, undef, .bool x_14, (u_16 0), (u_16 1), (u_16 2), (u_16 3), (u_16 4), (u_16 5), undef, undef, .bool x_15, (u_17 0), (u_17 1), (u_17 2), (u_17 3), (u_17 4), (u_17 5), undef, undef, undef, undef, undef, undef, undef, undef, undef, undef, undef, undef, undef, undef, undef, undef, undef, undef, undef, undef, undef, undef, undef, undef, undef, undef, undef, undef, undef, undef, undef, undef, undef] ∧ LOk w0.heap.size [] F w' ∧ Below w0.heap.size w0 w' ∧ m29_J10 fuel p0_0 r_1 x_15 = some r) ?_ ?_
                                  · refine cw_region ?_
                                    refine wl_val (v := .int .i64 (cvt .i64 r_1.2)) (w' := w_20) (by kernel_rfl) (run_move (v := .int .i64 (cvt .i64 r_1.2)) (by kernel_rfl)) ?_
                                    refine wl_val (v := .bool (le (cvt .i64 r_1.2) 64)) (w' := w_20) (by kernel_rfl) (run_le (k := .i64) (a := (cvt .i64 r_1.2)) (b := 64) (by kernel_rfl) (by kernel_rfl)) ?_
                                    refine wl_val (v := .bool (le (cvt .i64 r_1.2) 64)) (w' := w_20) (by kernel_rfl) (run_move (v := .bool (le (cvt .i64 r_1.2) 64)) (by kernel_rfl)) ?_
                                    rcases Bool.eq_false_or_eq_true (le (cvt .i64 r_1.2) 64) with hc_41 | hc_41
                                    · have hm := ite_t hm hc_41
                                      refine wl_val (v := .string ⟨⟨p0_0⟩⟩) (w' := w_20) (wg (c := (le (cvt .i64 r_1.2) 64)) (want := true) (by kernel_rfl) hc_41 rfl) (run_move (v := .string ⟨⟨p0_0⟩⟩) (by kernel_rfl)) ?_
                                      obtain ⟨r_12, h_31, hm⟩ := bind_e hm
                                      refine wl_op (wg (c := (le (cvt .i64 r_1.2) 64)) (want := true) (by kernel_rfl) hc_41 rfl) (ow_enter (run_callf (vs := [.string ⟨⟨([9, 9, 9, 9, 9, 9, 9, 9, 9, 9, 9, 9, 9, 9, 9, 9, 9, 9, 9, 9, 9, 9, 9, 9, 9, 9, 9, 9, 9, 9, 9, 9, 9, 9, 9, 9, 9, 9, 9, 9, 9, 9, 9, 9, 9, 9, 9, 9, 9, 9, 9, 9, 9, 9, 9, 9, 9, 9, 9, 9, 9, 9, 9, 9] : List UInt8)⟩⟩, .string ⟨⟨p0_0⟩⟩]) Tryd.func50 nm_50 (by kernel_rfl) (by kernel_rfl)) (f50_ok (p0_0 := ([9, 9, 9, 9, 9, 9, 9, 9, 9, 9, 9, 9, 9, 9, 9, 9, 9, 9, 9, 9, 9, 9, 9, 9, 9, 9, 9, 9, 9, 9, 9, 9, 9, 9, 9, 9, 9, 9, 9, 9, 9, 9, 9, 9, 9, 9, 9, 9, 9, 9, 9, 9, 9, 9, 9, 9, 9, 9, 9, 9, 9, 9, 9, 9] : List UInt8)) (p1_0 := p0_0) fuel _ w_20 hL.lt  h_31) ?_)
                                      intro vR w_23 hR
                                      obtain ⟨rfl, hBe⟩ := hR
                                      have hS := Stp.call hL (Fz.of_below hBe [])
                                      replace hB := hS.below hL hB
                                      replace hL := hS.hL
                                      refine wl_val (v := .bool r_12) (w' := w_23) (by kernel_rfl) (run_pick_t (v := .bool r_12) (tr2 (c := (le (cvt .i64 r_1.2) 64)) (by kernel_rfl) hc_41) (by kernel_rfl)) ?_
                                      refine wl_val (v := .bool r_12) (w' := w_23) (by kernel_rfl) (run_assign (v := .bool r_12) (by kernel_rfl)) ?_
                                      refine wl_nil ?_
                                      exact then_c ⟨r_12, (fun i => ([.int .i64 (cvt .i64 r_1.2), .bool (le (cvt .i64 r_1.2) 64), .bool (le (cvt .i64 r_1.2) 64), .string ⟨⟨p0_0⟩⟩, .bool r_12, .bool r_12] : List Value).getD i undef), by kernel_rfl, hL, hB, hm⟩
                                    · have hm := ite_f hm hc_41
                                      refine wl_not0 (wg (c := (le (cvt .i64 r_1.2) 64)) (want := true) (by kernel_rfl) hc_41 rfl) (by kernel_rfl) ?_
                                      refine wl_not0 (wg (c := (le (cvt .i64 r_1.2) 64)) (want := true) (by kernel_rfl) hc_41 rfl) (by kernel_rfl) ?_
                                      refine wl_val (v := .bool false) (w' := w_20) (by kernel_rfl) (run_pick_f (v := .bool false) (tr2 (c := (le (cvt .i64 r_1.2) 64)) (by kernel_rfl) hc_41) (by kernel_rfl)) ?_
                                      refine wl_val (v := .bool false) (w' := w_20) (by kernel_rfl) (run_assign (v := .bool false) (by kernel_rfl)) ?_
                                      refine wl_nil ?_
                                      exact then_c ⟨false, (fun i => ([.int .i64 (cvt .i64 r_1.2), .bool (le (cvt .i64 r_1.2) 64), .bool (le (cvt .i64 r_1.2) 64), undef, undef, .bool false] : List Value).getD i undef), by kernel_rfl, hL, hB, hm⟩
                                  · intro l1 w_22 hI
                                    obtain ⟨x_15, u_17, rfl, hL, hB, hm⟩ := hI
                                    unfold m29_J10 at hm
                                    refine cw_cond (t := x_15) (by kernel_rfl) (fun hc_40 => ?_) (fun hc_40 => ?_)
                                    · have hm := ite_t hm hc_40
                                      refine cw_seq ?_
                                      refine cw_region ?_
                                      refine wl_val (v := .int .i64 (cvt .i64 r_1.2)) (w' := w_22) (by kernel_rfl) (run_move (v := .int .i64 (cvt .i64 r_1.2)) (by kernel_rfl)) ?_
                                      obtain ⟨s_10, h_30, hm⟩ := bind_e hm
                                      refine wl_val (v := .string ⟨⟨s_10⟩⟩) (w' := w_22) (by kernel_rfl) (run_slice_str_h (s := ([9, 9, 9, 9, 9, 9, 9, 9, 9, 9, 9, 9, 9, 9, 9, 9, 9, 9, 9, 9, 9, 9, 9, 9, 9, 9, 9, 9, 9, 9, 9, 9, 9, 9, 9, 9, 9, 9, 9, 9, 9, 9, 9, 9, 9, 9, 9, 9, 9, 9, 9, 9, 9, 9, 9, 9, 9, 9, 9, 9, 9, 9, 9, 9] : List UInt8)) (k := .i64) (j := (cvt .i64 r_1.2)) Tryd.underlying9 (by kernel_rfl) (by kernel_rfl) h_30) ?_
                                      refine wl_val (v := .string ⟨⟨s_10⟩⟩) (w' := w_22) (by kernel_rfl) (run_assign (v := .string ⟨⟨s_10⟩⟩) (by kernel_rfl)) ?_
                                      refine wl_nil ?_
                                      refine then_n ?_
                                      refine cw_ret ?_
                                      refine inBlock_ret ?_
                                      refine inBlock_ret ?_
                                      refine then_ret ?_
                                      obtain rfl := Option.some.inj hm
                                      exact ret1 (v := .string ⟨⟨s_10⟩⟩) rfl (resv_tmp (by kernel_rfl)) ⟨_, rfl, by kernel_rfl, hB⟩
                                    · have hm := ite_f hm hc_40
                                      refine cw_skip ?_
                                      refine inBlock_n ?_
                                      refine inBlock_n ?_
                                      exact then_c ⟨(fun i => ([.string ⟨⟨([] : List UInt8)⟩⟩, .string ⟨⟨p0_0⟩⟩, .int .u8 (b_2.toNat : Int), .bool x_10, (u_12 0), (u_12 1), (u_12 2), (u_12 3), (u_12 4), .bool x_11, (u_13 0), (u_13 1), (u_13 2), (u_13 3), (u_13 4), (u_13 5), undef, undef, .bool x_12, (u_14 0), (u_14 1), (u_14 2), (u_14 3), (u_14 4), (u_14 5), undef, undef, .bool x_13, (u_15 0), (u_15 1), (u_15 2), (u_15 3), (u_15 4), (u_15 5), undef, undef, .bool x_14, (u_16 0), (u_16 1), (u_16 2), (u_16 3), (u_16 4), (u_16 5), undef, undef, .bool x_15, (u_17 0), (u_17 1), (u_17 2), (u_17 3), (u_17 4), (u_17 5), undef, undef] : List Value).getD i undef), by kernel_rfl, hL, hB, hm⟩
                · have hm := ite_f hm hc_30
                  refine cw_skip ?_
                  refine inBlock_n ?_
                  exact then_c ⟨(fun i => ([.string ⟨⟨([] : List UInt8)⟩⟩, .string ⟨⟨p0_0⟩⟩, .int .u8 (b_2.toNat : Int), .bool x_10, (u_12 0), (u_12 1), (u_12 2), (u_12 3), (u_12 4), undef, undef, undef, undef, undef, undef, undef, undef, undef, undef, undef, undef, undef, undef, undef, undef, undef, undef, undef, undef, undef, undef, undef, undef, undef, undef, undef, undef, undef, undef, undef, undef, undef, undef, undef, undef, undef, undef, undef, undef, undef, undef, undef, undef, undef] : List Value).getD i undef), by kernel_rfl, hL, hB, hm⟩
            · intro l1 w_9 hI
              obtain ⟨u_10, rfl, hL, hB, hm⟩ := hI
              unfold m29_J3 at hm
              refine cw_seq ?_
              refine cw_region ?_
              refine wl_val (v := .int .i64 (cvt .i64 r_1.2)) (w' := w_9) (by kernel_rfl) (run_move (v := .int .i64 (cvt .i64 r_1.2)) (by kernel_rfl)) ?_
              refine wl_val (v := .int .i64 (cvt .i64 r_1.2)) (w' := w_9) (by kernel_rfl) (run_assign (v := .int .i64 (cvt .i64 r_1.2)) (by kernel_rfl)) ?_
              refine wl_nil ?_
              refine then_n ?_
              refine cw_cut (fun l' w' => ∃ chunkMax_1, ∃ u_11 : Nat → Value, l' = [.string ⟨⟨p0_0⟩⟩, .int .i64 p1_0, undef, undef, (u_10 0), .int .u64 r_1.1, .int .u64 r_1.2, .int .i64 (cvt .i64 r_1.2), .int .i64 chunkMax_1, undef, undef, .int .i64 p1_0, .bool (eqi p1_0 0), .bool (eqi p1_0 0), .bool (eqi p1_0 1), .bool (eqi p1_0 1), undef, (u_1 0), (u_1 1), (u_1 2), .tuple #[.int .u64 r_1.1, .int .u64 r_1.2], .string ⟨⟨p0_0⟩⟩, .int .i64 (p0_0.length : Int), .int .u64 (cvt .u64 (p0_0.length : Int)), .int .i64 p1_0, .int .u64 (cvt .u64 p1_0), .tuple #[.int .u64 r_1.1, .int .u64 r_1.2], .int .u64 r_1.1, .int .u64 r_1.2, (u_3 0), (u_3 1), (u_3 2), (u_3 3), (u_3 4), (u_3 5), (u_3 6), .int .u64 r_1.2, .int .i64 (cvt .i64 r_1.2), .string ⟨⟨p0_0⟩⟩, .int .i64 (p0_0.length : Int), .bool (eqi (p0_0.length : Int) 0), (u_10 1), (u_10 2), (u_10 3), (u_10 4), (u_10 5), (u_10 6), (u_10 7), (u_10 8), (u_10 9), (u_10 10), (u_10 11), (u_10 12), (u_10 13), (u_10 14), (u_10 15), (u_10 16), (u_10 17), (u_10 18), (u_10 19), (u_10 20), (u_10 21), (u_10 22), (u_10 23), (u_10 24), (u_10 25), (u_10 26), (u_10 27), (u_10 28), (u_10 29), (u_10 30), (u_10 31), (u_10 32), (u_10 33), (u_10 34), (u_10 35), (u_10 36), (u_10 37), (u_10 38), (u_10 39), (u_10 40), (u_10 41), (u_10 42), (u_10 43), (u_10 44), (u_10 45), (u_10 46), (u_10 47), (u_10 48), (u_10 49), (u_10 50), (u_10 51), (u_10 52), (u_10 53), .int .i64 (cvt .i64 r_1.2), (u_11 0), (u_11 1), (u_11 2), (u_11 3), (u_11 4), (u_11 5), (u_11 6), (u_11 7), (u_11 8), (u_11 9), (u_11 10), (u_11 11), undef, undef, undef, undef, undef, undef, undef, undef, undef, undef, undef, undef, undef, undef, undef, undef, undef, undef] ∧ LOk w0.heap.size [] F w' ∧ Below w0.heap.size w0 w' ∧ m29_J4 fuel chunkMax_1 = some r) ?_ ?_
              · refine cw_seq ?_
                refine cw_region ?_
                refine wl_val (v := .int .i64 (cvt .i64 r_1.2)) (w' := w_9) (by kernel_rfl) (run_move (v := .int .i64 (cvt .i64 r_1.2)) (by kernel_rfl)) ?_
                refine wl_val (v := .bool (gt (cvt .i64 r_1.2) 8192)) (w' := w_9) (by kernel_rfl) (run_gt (k := .i64) (a := (cvt .i64 r_1.2)) (b := 8192) (by kernel_rfl) (by kernel_rfl)) ?_
                refine wl_nil ?_
                refine then_n ?_
                refine cw_cond (t := (gt (cvt .i64 r_1.2) 8192)) (by kernel_rfl) (fun hc_24 => ?_) (fun hc_24 => ?_)
                · have hm := ite_t hm hc_24
                  refine cw_seq ?_
                  refine cw_region ?_
                  refine wl_val (v := .string ⟨⟨p0_0⟩⟩) (w' := w_9) (by kernel_rfl) (run_move (v := .string ⟨⟨p0_0⟩⟩) (by kernel_rfl)) ?_
                  refine wl_val (v := .int .i64 (p0_0.length : Int)) (w' := w_9) (by kernel_rfl) (run_len_str (s := p0_0) Tryd.underlying9 (by kernel_rfl)) ?_
                  obtain ⟨h_17, hm⟩ := need_e hm
                  refine wl_val (v := .int .i64 (quo .i64 8192 (p0_0.length : Int))) (w' := w_9) (by kernel_rfl) (run_quo (k := .i64) (a := 8192) (b := (p0_0.length : Int)) (by kernel_rfl) (by kernel_rfl) (by simpa [nei] using h_17)) ?_
                  refine wl_val (v := .string ⟨⟨p0_0⟩⟩) (w' := w_9) (by kernel_rfl) (run_move (v := .string ⟨⟨p0_0⟩⟩) (by kernel_rfl)) ?_
                  refine wl_val (v := .int .i64 (p0_0.length : Int)) (w' := w_9) (by kernel_rfl) (run_len_str (s := p0_0) Tryd.underlying9 (by kernel_rfl)) ?_
                  obtain ⟨x_9, h_18, hm⟩ := bind_e hm
                  refine wl_val (v := .int .i64 x_9) (w' := w_9) (by kernel_rfl) (by rw [← Option.some.inj h_18]; exact run_mul (k := .i64) (a := (quo .i64 8192 (p0_0.length : Int))) (b := (p0_0.length : Int)) (by kernel_rfl) (by kernel_rfl)) ?_
                  refine wl_val (v := .int .i64 x_9) (w' := w_9) (by kernel_rfl) (run_assign (v := .int .i64 x_9) (by kernel_rfl)) ?_
                  refine wl_nil ?_
                  refine then_n ?_
                  refine cw_norm [.string ⟨⟨p0_0⟩⟩, .int .i64 p1_0, undef, undef, (u_10 0), .int .u64 r_1.1, .int .u64 r_1.2, .int .i64 (cvt .i64 r_1.2), .int .i64 x_9, undef, undef, .int .i64 p1_0, .bool (eqi p1_0 0), .bool (eqi p1_0 0), .bool (eqi p1_0 1), .bool (eqi p1_0 1), undef, (u_1 0), (u_1 1), (u_1 2), .tuple #[.int .u64 r_1.1, .int .u64 r_1.2], .string ⟨⟨p0_0⟩⟩, .int .i64 (p0_0.length : Int), .int .u64 (cvt .u64 (p0_0.length : Int)), .int .i64 p1_0, .int .u64 (cvt .u64 p1_0), .tuple #[.int .u64 r_1.1, .int .u64 r_1.2], .int .u64 r_1.1, .int .u64 r_1.2, (u_3 0), (u_3 1), (u_3 2), (u_3 3), (u_3 4), (u_3 5), (u_3 6), .int .u64 r_1.2, .int .i64 (cvt .i64 r_1.2), .string ⟨⟨p0_0⟩⟩, .int .i64 (p0_0.length : Int), .bool (eqi (p0_0.length : Int) 0), (u_10 1), (u_10 2), (u_10 3), (u_10 4), (u_10 5), (u_10 6), (u_10 7), (u_10 8), (u_10 9), (u_10 10), (u_10 11), (u_10 12), (u_10 13), (u_10 14), (u_10 15), (u_10 16), (u_10 17), (u_10 18), (u_10 19), (u_10 20), (u_10 21), (u_10 22), (u_10 23), (u_10 24), (u_10 25), (u_10 26), (u_10 27), (u_10 28), (u_10 29), (u_10 30), (u_10 31), (u_10 32), (u_10 33), (u_10 34), (u_10 35), (u_10 36), (u_10 37), (u_10 38), (u_10 39), (u_10 40), (u_10 41), (u_10 42), (u_10 43), (u_10 44), (u_10 45), (u_10 46), (u_10 47), (u_10 48), (u_10 49), (u_10 50), (u_10 51), (u_10 52), (u_10 53), .int .i64 (cvt .i64 r_1.2), .int .i64 (cvt .i64 r_1.2), .bool (gt (cvt .i64 r_1.2) 8192), .string ⟨⟨p0_0⟩⟩, .int .i64 (p0_0.length : Int), .int .i64 (quo .i64 8192 (p0_0.length : Int)), .string ⟨⟨p0_0⟩⟩, .int .i64 (p0_0.length : Int), .int .i64 x_9, undef, undef, undef, undef, undef, undef, undef, undef, undef, undef, undef, undef, undef, undef, undef, undef, undef, undef, undef, undef, undef, undef] (by kernel_rfl) ?_
                  refine cw_seq ?_
                  refine cw_region ?_
                  refine wl_val (v := .int .i64 x_9) (w' := w_9) (by kernel_rfl) (run_move (v := .int .i64 x_9) (by kernel_rfl)) ?_
                  refine wl_val (v := .bool (eqi x_9 0)) (w' := w_9) (by kernel_rfl) (run_eqi (k := .i64) (a := x_9) (b := 0) (by kernel_rfl) (by kernel_rfl)) ?_
                  refine wl_nil ?_
                  refine then_n ?_
                  refine cw_cond (t := (eqi x_9 0)) (by kernel_rfl) (fun hc_25 => ?_) (fun hc_25 => ?_)
                  · have hm := ite_t hm hc_25
                    refine cw_region ?_
                    refine wl_val (v := .string ⟨⟨p0_0⟩⟩) (w' := w_9) (by kernel_rfl) (run_move (v := .string ⟨⟨p0_0⟩⟩) (by kernel_rfl)) ?_
                    refine wl_val (v := .int .i64 (p0_0.length : Int)) (w' := w_9) (by kernel_rfl) (run_len_str (s := p0_0) Tryd.underlying9 (by kernel_rfl)) ?_
                    refine wl_val (v := .int .i64 (p0_0.length : Int)) (w' := w_9) (by kernel_rfl) (run_assign (v := .int .i64 (p0_0.length : Int)) (by kernel_rfl)) ?_
                    refine wl_nil ?_
                    exact then_c ⟨(p0_0.length : Int), (fun i => ([.int .i64 (cvt .i64 r_1.2), .bool (gt (cvt .i64 r_1.2) 8192), .string ⟨⟨p0_0⟩⟩, .int .i64 (p0_0.length : Int), .int .i64 (quo .i64 8192 (p0_0.length : Int)), .string ⟨⟨p0_0⟩⟩, .int .i64 (p0_0.length : Int), .int .i64 x_9, .int .i64 x_9, .bool (eqi x_9 0), .string ⟨⟨p0_0⟩⟩, .int .i64 (p0_0.length : Int)] : List Value).getD i undef), by kernel_rfl, hL, hB, hm⟩
                  · have hm := ite_f hm hc_25
                    refine cw_skip ?_
                    exact then_c ⟨x_9, (fun i => ([.int .i64 (cvt .i64 r_1.2), .bool (gt (cvt .i64 r_1.2) 8192), .string ⟨⟨p0_0⟩⟩, .int .i64 (p0_0.length : Int), .int .i64 (quo .i64 8192 (p0_0.length : Int)), .string ⟨⟨p0_0⟩⟩, .int .i64 (p0_0.length : Int), .int .i64 x_9, .int .i64 x_9, .bool (eqi x_9 0), undef, undef] : List Value).getD i undef), by kernel_rfl, hL, hB, hm⟩
                · have hm := ite_f hm hc_24
                  refine cw_skip ?_
                  exact then_c ⟨(cvt .i64 r_1.2), (fun i => ([.int .i64 (cvt .i64 r_1.2), .bool (gt (cvt .i64 r_1.2) 8192), undef, undef, undef, undef, undef, undef, undef, undef, undef, undef] : List Value).getD i undef), by kernel_rfl, hL, hB, hm⟩
              · intro l1 w_10 hI
                obtain ⟨chunkMax_1, u_11, rfl, hL, hB, hm⟩ := hI
                unfold m29_J4 at hm
                refine cw_seq ?_
                refine cw_region ?_
                cases hm
end SxYtihfogahdofdmaaDoor

/- Written by program (gen.py): the model of internal/strconv.small, and the proof that its code computes it. -/
namespace SxYtihfogahdofdmaaDoor
open Go Go.RowKit Sx Go.Proofs
set_option linter.unusedVariables false
set_option linter.unusedSimpArgs false
attribute [local irreducible] WL WX CW OW
/-! ### 75: "internal/strconv.small" -/
def m75 (fuel : Nat) (p0_0 : Int) : Option (List UInt8) :=
  if (lt p0_0 10) then ((cut ([48, 49, 50, 51, 52, 53, 54, 55, 56, 57, 97, 98, 99, 100, 101, 102, 103, 104, 105, 106, 107, 108, 109, 110, 111, 112, 113, 114, 115, 116, 117, 118, 119, 120, 121, 122] : List UInt8) p0_0 (add .i64 p0_0 1)).bind fun s_1 => some s_1) else ((cut ([48, 48, 48, 49, 48, 50, 48, 51, 48, 52, 48, 53, 48, 54, 48, 55, 48, 56, 48, 57, 49, 48, 49, 49, 49, 50, 49, 51, 49, 52, 49, 53, 49, 54, 49, 55, 49, 56, 49, 57, 50, 48, 50, 49, 50, 50, 50, 51, 50, 52, 50, 53, 50, 54, 50, 55, 50, 56, 50, 57, 51, 48, 51, 49, 51, 50, 51, 51, 51, 52, 51, 53, 51, 54, 51, 55, 51, 56, 51, 57, 52, 48, 52, 49, 52, 50, 52, 51, 52, 52, 52, 53, 52, 54, 52, 55, 52, 56, 52, 57, 53, 48, 53, 49, 53, 50, 53, 51, 53, 52, 53, 53, 53, 54, 53, 55, 53, 56, 53, 57, 54, 48, 54, 49, 54, 50, 54, 51, 54, 52, 54, 53, 54, 54, 54, 55, 54, 56, 54, 57, 55, 48, 55, 49, 55, 50, 55, 51, 55, 52, 55, 53, 55, 54, 55, 55, 55, 56, 55, 57, 56, 48, 56, 49, 56, 50, 56, 51, 56, 52, 56, 53, 56, 54, 56, 55, 56, 56, 56, 57, 57, 48, 57, 49, 57, 50, 57, 51, 57, 52, 57, 53, 57, 54, 57, 55, 57, 56, 57, 57] : List UInt8) (mul .i64 p0_0 2) (add .i64 (mul .i64 p0_0 2) 2)).bind fun s_2 => some s_2)
@[reducible] def Q75 (F : Lx) (w0 : World) (r : (List UInt8)) (v : Value) (w' : World) : Prop := v = .string ⟨⟨r⟩⟩ ∧ Below w0.heap.size w0 w'
set_option maxRecDepth 100000 in
set_option maxHeartbeats 4000000 in
theorem f75_ok (fuel : Nat) (F : Lx) (w0 : World) (hF : ∀ k, some k ∈ F → k < w0.heap.size) {p0_0 : Int} {r : (List UInt8)} (hm : m75 fuel p0_0 = some r) :
    Calls Tryd.prog 75 #[.int .i64 p0_0] w0 (fun e w' => ∃ v, e = .returned v ∧ Q75 F w0 r v w') := by
  have hPF : PF (bodyPost Tryd.prog Tryd.f75 (fun e w' => ∃ v, e = .returned v ∧ Q75 F w0 r v w')) := PF.body (fun c w h => by obtain ⟨v, e, _⟩ := h; cases e)
  have hL := LOk.start hF
  have hB := Below.refl w0.heap.size w0
  unfold m75 at hm
  refine enter (l := [.int .i64 p0_0, undef, undef, undef, undef, undef, undef, undef, undef, undef, undef, undef, undef, undef, undef]) Tryd.func75 rfl Tryd.ntmps75 (by kernel_rfl) ?_
  refine cw_seq ?_
  refine cw_region ?_
  refine wl_val (v := .string ⟨⟨([] : List UInt8)⟩⟩) (w' := w0) (by kernel_rfl) (run_assign (v := .string ⟨⟨([] : List UInt8)⟩⟩) (by kernel_rfl)) ?_
  refine wl_nil ?_
  refine then_n ?_
  refine cw_seq ?_
  refine cw_seq ?_
  refine cw_region ?_
  refine wl_val (v := .int .i64 p0_0) (w' := w0) (by kernel_rfl) (run_move (v := .int .i64 p0_0) (by kernel_rfl)) ?_
  refine wl_val (v := .bool (lt p0_0 10)) (w' := w0) (by kernel_rfl) (run_lt (k := .i64) (a := p0_0) (b := 10) (by kernel_rfl) (by kernel_rfl)) ?_
  refine wl_nil ?_
  refine then_n ?_
  refine cw_cond (t := (lt p0_0 10)) (by kernel_rfl) (fun hc_1 => ?_) (fun hc_1 => ?_)
  · have hm := ite_t hm hc_1
    refine cw_seq ?_
    refine cw_region ?_
    refine wl_val (v := .int .i64 p0_0) (w' := w0) (by kernel_rfl) (run_move (v := .int .i64 p0_0) (by kernel_rfl)) ?_
    refine wl_val (v := .int .i64 p0_0) (w' := w0) (by kernel_rfl) (run_move (v := .int .i64 p0_0) (by kernel_rfl)) ?_
    refine wl_val (v := .int .i64 (add .i64 p0_0 1)) (w' := w0) (by kernel_rfl) (run_add (k := .i64) (a := p0_0) (b := 1) (by kernel_rfl) (by kernel_rfl)) ?_
    obtain ⟨s_1, h_1, hm⟩ := bind_e hm
    refine wl_val (v := .string ⟨⟨s_1⟩⟩) (w' := w0) (by kernel_rfl) (run_slice_str_lh (s := ([48, 49, 50, 51, 52, 53, 54, 55, 56, 57, 97, 98, 99, 100, 101, 102, 103, 104, 105, 106, 107, 108, 109, 110, 111, 112, 113, 114, 115, 116, 117, 118, 119, 120, 121, 122] : List UInt8)) (k := .i64) (i := p0_0) (k' := .i64) (j := (add .i64 p0_0 1)) Tryd.underlying9 (by kernel_rfl) (by kernel_rfl) (by kernel_rfl) h_1) ?_
    refine wl_val (v := .string ⟨⟨s_1⟩⟩) (w' := w0) (by kernel_rfl) (run_assign (v := .string ⟨⟨s_1⟩⟩) (by kernel_rfl)) ?_
    refine wl_nil ?_
    refine then_n ?_
    refine cw_ret ?_
    refine then_ret ?_
    obtain rfl := Option.some.inj hm
    exact ret1 (v := .string ⟨⟨s_1⟩⟩) rfl (resv_tmp (by kernel_rfl)) ⟨_, rfl, by kernel_rfl, hB⟩
  · have hm := ite_f hm hc_1
    refine cw_skip ?_
    refine then_n ?_
    refine cw_seq ?_
    refine cw_region ?_
    refine wl_val (v := .int .i64 p0_0) (w' := w0) (by kernel_rfl) (run_move (v := .int .i64 p0_0) (by kernel_rfl)) ?_
    refine wl_val (v := .int .i64 (mul .i64 p0_0 2)) (w' := w0) (by kernel_rfl) (run_mul (k := .i64) (a := p0_0) (b := 2) (by kernel_rfl) (by kernel_rfl)) ?_
    refine wl_val (v := .int .i64 p0_0) (w' := w0) (by kernel_rfl) (run_move (v := .int .i64 p0_0) (by kernel_rfl)) ?_
    refine wl_val (v := .int .i64 (mul .i64 p0_0 2)) (w' := w0) (by kernel_rfl) (run_mul (k := .i64) (a := p0_0) (b := 2) (by kernel_rfl) (by kernel_rfl)) ?_
    refine wl_val (v := .int .i64 (add .i64 (mul .i64 p0_0 2) 2)) (w' := w0) (by kernel_rfl) (run_add (k := .i64) (a := (mul .i64 p0_0 2)) (b := 2) (by kernel_rfl) (by kernel_rfl)) ?_
    obtain ⟨s_2, h_2, hm⟩ := bind_e hm
    refine wl_val (v := .string ⟨⟨s_2⟩⟩) (w' := w0) (by kernel_rfl) (run_slice_str_lh (s := ([48, 48, 48, 49, 48, 50, 48, 51, 48, 52, 48, 53, 48, 54, 48, 55, 48, 56, 48, 57, 49, 48, 49, 49, 49, 50, 49, 51, 49, 52, 49, 53, 49, 54, 49, 55, 49, 56, 49, 57, 50, 48, 50, 49, 50, 50, 50, 51, 50, 52, 50, 53, 50, 54, 50, 55, 50, 56, 50, 57, 51, 48, 51, 49, 51, 50, 51, 51, 51, 52, 51, 53, 51, 54, 51, 55, 51, 56, 51, 57, 52, 48, 52, 49, 52, 50, 52, 51, 52, 52, 52, 53, 52, 54, 52, 55, 52, 56, 52, 57, 53, 48, 53, 49, 53, 50, 53, 51, 53, 52, 53, 53, 53, 54, 53, 55, 53, 56, 53, 57, 54, 48, 54, 49, 54, 50, 54, 51, 54, 52, 54, 53, 54, 54, 54, 55, 54, 56, 54, 57, 55, 48, 55, 49, 55, 50, 55, 51, 55, 52, 55, 53, 55, 54, 55, 55, 55, 56, 55, 57, 56, 48, 56, 49, 56, 50, 56, 51, 56, 52, 56, 53, 56, 54, 56, 55, 56, 56, 56, 57, 57, 48, 57, 49, 57, 50, 57, 51, 57, 52, 57, 53, 57, 54, 57, 55, 57, 56, 57, 57] : List UInt8)) (k := .i64) (i := (mul .i64 p0_0 2)) (k' := .i64) (j := (add .i64 (mul .i64 p0_0 2) 2)) Tryd.underlying9 (by kernel_rfl) (by kernel_rfl) (by kernel_rfl) h_2) ?_
    refine wl_val (v := .string ⟨⟨s_2⟩⟩) (w' := w0) (by kernel_rfl) (run_assign (v := .string ⟨⟨s_2⟩⟩) (by kernel_rfl)) ?_
    refine wl_nil ?_
    refine then_n ?_
    refine cw_ret ?_
    obtain rfl := Option.some.inj hm
    exact ret1 (v := .string ⟨⟨s_2⟩⟩) rfl (resv_tmp (by kernel_rfl)) ⟨_, rfl, by kernel_rfl, hB⟩
end SxYtihfogahdofdmaaDoor

/- Written by program (gen.py): the model of internal/strconv.log10Pow2, and the proof that its code computes it. -/
namespace SxYtihfogahdofdmaaDoor
open Go Go.RowKit Sx Go.Proofs
set_option linter.unusedVariables false
set_option linter.unusedSimpArgs false
attribute [local irreducible] WL WX CW OW
/-! ### 88: "internal/strconv.log10Pow2" -/
def m88 (fuel : Nat) (p0_0 : Int) : Option Int :=
  some (shr .i64 (mul .i64 p0_0 78913) 18)
@[reducible] def Q88 (F : Lx) (w0 : World) (r : Int) (v : Value) (w' : World) : Prop := v = .int .i64 r ∧ Below w0.heap.size w0 w'
set_option maxRecDepth 100000 in
set_option maxHeartbeats 4000000 in
theorem f88_ok (fuel : Nat) (F : Lx) (w0 : World) (hF : ∀ k, some k ∈ F → k < w0.heap.size) {p0_0 : Int} {r : Int} (hm : m88 fuel p0_0 = some r) :
    Calls Tryd.prog 88 #[.int .i64 p0_0] w0 (fun e w' => ∃ v, e = .returned v ∧ Q88 F w0 r v w') := by
  have hPF : PF (bodyPost Tryd.prog Tryd.f88 (fun e w' => ∃ v, e = .returned v ∧ Q88 F w0 r v w')) := PF.body (fun c w h => by obtain ⟨v, e, _⟩ := h; cases e)
  have hL := LOk.start hF
  have hB := Below.refl w0.heap.size w0
  unfold m88 at hm
  refine enter (l := [.int .i64 p0_0, undef, undef, undef, undef, undef]) Tryd.func88 rfl Tryd.ntmps88 (by kernel_rfl) ?_
  refine cw_seq ?_
  refine cw_region ?_
  refine wl_val (v := .int .i64 0) (w' := w0) (by kernel_rfl) (run_assign (v := .int .i64 0) (by kernel_rfl)) ?_
  refine wl_nil ?_
  refine then_n ?_
  refine cw_seq ?_
  refine cw_region ?_
  refine wl_val (v := .int .i64 p0_0) (w' := w0) (by kernel_rfl) (run_move (v := .int .i64 p0_0) (by kernel_rfl)) ?_
  refine wl_val (v := .int .i64 (mul .i64 p0_0 78913)) (w' := w0) (by kernel_rfl) (run_mul (k := .i64) (a := p0_0) (b := 78913) (by kernel_rfl) (by kernel_rfl)) ?_
  refine wl_val (v := .int .i64 (shr .i64 (mul .i64 p0_0 78913) 18)) (w' := w0) (by kernel_rfl) (run_shr (k := .i64) (a := (mul .i64 p0_0 78913)) (k' := .u64) (b := 18) (by kernel_rfl) (by kernel_rfl) rfl) ?_
  refine wl_val (v := .int .i64 (shr .i64 (mul .i64 p0_0 78913) 18)) (w' := w0) (by kernel_rfl) (run_assign (v := .int .i64 (shr .i64 (mul .i64 p0_0 78913) 18)) (by kernel_rfl)) ?_
  refine wl_nil ?_
  refine then_n ?_
  refine cw_ret ?_
  obtain rfl := Option.some.inj hm
  exact ret1 (v := .int .i64 (shr .i64 (mul .i64 p0_0 78913) 18)) rfl (resv_tmp (by kernel_rfl)) ⟨_, rfl, by kernel_rfl, hB⟩
end SxYtihfogahdofdmaaDoor

/- Written by program (gen.py): the model of internal/strconv.bool2[int], and the proof that its code computes it. -/
namespace SxYtihfogahdofdmaaDoor
open Go Go.RowKit Sx Go.Proofs
set_option linter.unusedVariables false
set_option linter.unusedSimpArgs false
attribute [local irreducible] WL WX CW OW
/-! ### 89: "internal/strconv.bool2[int]" -/
def m89 (fuel : Nat) (p0_0 : Bool) : Option Int :=
  if p0_0 then (some 1) else (some 0)
@[reducible] def Q89 (F : Lx) (w0 : World) (r : Int) (v : Value) (w' : World) : Prop := v = .int .i64 r ∧ Below w0.heap.size w0 w'
set_option maxRecDepth 100000 in
set_option maxHeartbeats 4000000 in
theorem f89_ok (fuel : Nat) (F : Lx) (w0 : World) (hF : ∀ k, some k ∈ F → k < w0.heap.size) {p0_0 : Bool} {r : Int} (hm : m89 fuel p0_0 = some r) :
    Calls Tryd.prog 89 #[.bool p0_0] w0 (fun e w' => ∃ v, e = .returned v ∧ Q89 F w0 r v w') := by
  have hPF : PF (bodyPost Tryd.prog Tryd.f89 (fun e w' => ∃ v, e = .returned v ∧ Q89 F w0 r v w')) := PF.body (fun c w h => by obtain ⟨v, e, _⟩ := h; cases e)
  have hL := LOk.start hF
  have hB := Below.refl w0.heap.size w0
  unfold m89 at hm
  refine enter (l := [.bool p0_0, undef, undef, undef]) Tryd.func89 rfl Tryd.ntmps89 (by kernel_rfl) ?_
  refine cw_seq ?_
  refine cw_region ?_
  refine wl_val (v := .int .i64 0) (w' := w0) (by kernel_rfl) (run_assign (v := .int .i64 0) (by kernel_rfl)) ?_
  refine wl_nil ?_
  refine then_n ?_
  refine cw_seq ?_
  refine cw_seq ?_
  refine cw_region ?_
  refine wl_val (v := .bool p0_0) (w' := w0) (by kernel_rfl) (run_move (v := .bool p0_0) (by kernel_rfl)) ?_
  refine wl_nil ?_
  refine then_n ?_
  refine cw_cond (t := p0_0) (by kernel_rfl) (fun hc_1 => ?_) (fun hc_1 => ?_)
  · have hm := ite_t hm hc_1
    refine cw_seq ?_
    refine cw_region ?_
    refine wl_val (v := .int .i64 1) (w' := w0) (by kernel_rfl) (run_assign (v := .int .i64 1) (by kernel_rfl)) ?_
    refine wl_nil ?_
    refine then_n ?_
    refine cw_ret ?_
    refine then_ret ?_
    obtain rfl := Option.some.inj hm
    exact ret1 (v := .int .i64 1) rfl (resv_tmp (by kernel_rfl)) ⟨_, rfl, by kernel_rfl, hB⟩
  · have hm := ite_f hm hc_1
    refine cw_skip ?_
    refine then_n ?_
    refine cw_seq ?_
    refine cw_region ?_
    refine wl_val (v := .int .i64 0) (w' := w0) (by kernel_rfl) (run_assign (v := .int .i64 0) (by kernel_rfl)) ?_
    refine wl_nil ?_
    refine then_n ?_
    refine cw_ret ?_
    obtain rfl := Option.some.inj hm
    exact ret1 (v := .int .i64 0) rfl (resv_tmp (by kernel_rfl)) ⟨_, rfl, by kernel_rfl, hB⟩
end SxYtihfogahdofdmaaDoor

/- Written by program (gen.py): the model of internal/strconv.numDigits, and the proof that its code computes it. -/
namespace SxYtihfogahdofdmaaDoor
open Go Go.RowKit Sx Go.Proofs
set_option linter.unusedVariables false
set_option linter.unusedSimpArgs false
attribute [local irreducible] WL WX CW OW
/-! ### 76: "internal/strconv.numDigits" -/
def m76 (fuel : Nat) (p0_0 : Int) : Option Int :=
  (m74 fuel p0_0).bind fun r_1 => (m88 fuel r_1).bind fun r_2 => none
@[reducible] def Q76 (F : Lx) (w0 : World) (r : Int) (v : Value) (w' : World) : Prop := v = .int .i64 r ∧ Below w0.heap.size w0 w'
set_option maxRecDepth 100000 in
set_option maxHeartbeats 4000000 in
theorem f76_ok (fuel : Nat) (F : Lx) (w0 : World) (hF : ∀ k, some k ∈ F → k < w0.heap.size) {p0_0 : Int} {r : Int} (hm : m76 fuel p0_0 = some r) :
    Calls Tryd.prog 76 #[.int .u64 p0_0] w0 (fun e w' => ∃ v, e = .returned v ∧ Q76 F w0 r v w') := by
  have hPF : PF (bodyPost Tryd.prog Tryd.f76 (fun e w' => ∃ v, e = .returned v ∧ Q76 F w0 r v w')) := PF.body (fun c w h => by obtain ⟨v, e, _⟩ := h; cases e)
  have hL := LOk.start hF
  have hB := Below.refl w0.heap.size w0
  unfold m76 at hm
  refine enter (l := [.int .u64 p0_0, undef, undef, undef, undef, undef, undef, undef, undef, undef, undef, undef, undef, undef, undef]) Tryd.func76 rfl Tryd.ntmps76 (by kernel_rfl) ?_
  refine cw_seq ?_
  refine cw_region ?_
  refine wl_val (v := .int .i64 0) (w' := w0) (by kernel_rfl) (run_assign (v := .int .i64 0) (by kernel_rfl)) ?_
  refine wl_nil ?_
  refine then_n ?_
  refine cw_seq ?_
  refine cw_region ?_
  refine wl_val (v := .int .u64 p0_0) (w' := w0) (by kernel_rfl) (run_move (v := .int .u64 p0_0) (by kernel_rfl)) ?_
  obtain ⟨r_1, h_1, hm⟩ := bind_e hm
  refine wl_op (by kernel_rfl) (ow_enter (run_callf (vs := [.int .u64 p0_0]) Tryd.func74 nm_74 (by kernel_rfl) (by kernel_rfl)) (f74_ok (p0_0 := p0_0) fuel _ w0 hL.lt  h_1) ?_)
  intro vR w_1 hR
  obtain ⟨rfl, hBe⟩ := hR
  have hS := Stp.call hL (Fz.of_below hBe [])
  replace hB := hS.below hL hB
  replace hL := hS.hL
  obtain ⟨r_2, h_2, hm⟩ := bind_e hm
  refine wl_op (by kernel_rfl) (ow_enter (run_callf (vs := [.int .i64 r_1]) Tryd.func88 nm_88 (by kernel_rfl) (by kernel_rfl)) (f88_ok (p0_0 := r_1) fuel _ w_1 hL.lt  h_2) ?_)
  intro vR w_2 hR
  obtain ⟨rfl, hBe⟩ := hR
  have hS := Stp.call hL (Fz.of_below hBe [])
  replace hB := hS.below hL hB
  replace hL := hS.hL
  refine wl_val (v := .int .i64 r_2) (w' := w_2) (by kernel_rfl) (run_assign (v := .int .i64 r_2) (by kernel_rfl)) ?_
  refine wl_nil ?_
  refine then_n ?_
  refine cw_seq ?_
  refine cw_region ?_
  refine wl_val (v := .int .i64 r_2) (w' := w_2) (by kernel_rfl) (run_move (v := .int .i64 r_2) (by kernel_rfl)) ?_
  refine wl_val (v := .int .u64 p0_0) (w' := w_2) (by kernel_rfl) (run_move (v := .int .u64 p0_0) (by kernel_rfl)) ?_
  refine wl_val (v := .int .i64 r_2) (w' := w_2) (by kernel_rfl) (run_move (v := .int .i64 r_2) (by kernel_rfl)) ?_
  cases hm
end SxYtihfogahdofdmaaDoor

/- Written by program (gen.py): the model of internal/strconv.isPowerOfTwo, and the proof that its code computes it. -/
namespace SxYtihfogahdofdmaaDoor
open Go Go.RowKit Sx Go.Proofs
set_option linter.unusedVariables false
set_option linter.unusedSimpArgs false
attribute [local irreducible] WL WX CW OW
/-! ### 90: "internal/strconv.isPowerOfTwo" -/
def m90 (fuel : Nat) (p0_0 : Int) : Option Bool :=
  some (eqi (band .i64 p0_0 (sub .i64 p0_0 1)) 0)
@[reducible] def Q90 (F : Lx) (w0 : World) (r : Bool) (v : Value) (w' : World) : Prop := v = .bool r ∧ Below w0.heap.size w0 w'
set_option maxRecDepth 100000 in
set_option maxHeartbeats 4000000 in
theorem f90_ok (fuel : Nat) (F : Lx) (w0 : World) (hF : ∀ k, some k ∈ F → k < w0.heap.size) {p0_0 : Int} {r : Bool} (hm : m90 fuel p0_0 = some r) :
    Calls Tryd.prog 90 #[.int .i64 p0_0] w0 (fun e w' => ∃ v, e = .returned v ∧ Q90 F w0 r v w') := by
  have hPF : PF (bodyPost Tryd.prog Tryd.f90 (fun e w' => ∃ v, e = .returned v ∧ Q90 F w0 r v w')) := PF.body (fun c w h => by obtain ⟨v, e, _⟩ := h; cases e)
  have hL := LOk.start hF
  have hB := Below.refl w0.heap.size w0
  unfold m90 at hm
  refine enter (l := [.int .i64 p0_0, undef, undef, undef, undef, undef, undef, undef]) Tryd.func90 rfl Tryd.ntmps90 (by kernel_rfl) ?_
  refine cw_seq ?_
  refine cw_region ?_
  refine wl_val (v := .bool false) (w' := w0) (by kernel_rfl) (run_assign (v := .bool false) (by kernel_rfl)) ?_
  refine wl_nil ?_
  refine then_n ?_
  refine cw_seq ?_
  refine cw_region ?_
  refine wl_val (v := .int .i64 p0_0) (w' := w0) (by kernel_rfl) (run_move (v := .int .i64 p0_0) (by kernel_rfl)) ?_
  refine wl_val (v := .int .i64 p0_0) (w' := w0) (by kernel_rfl) (run_move (v := .int .i64 p0_0) (by kernel_rfl)) ?_
  refine wl_val (v := .int .i64 (sub .i64 p0_0 1)) (w' := w0) (by kernel_rfl) (run_sub (k := .i64) (a := p0_0) (b := 1) (by kernel_rfl) (by kernel_rfl)) ?_
  refine wl_val (v := .int .i64 (band .i64 p0_0 (sub .i64 p0_0 1))) (w' := w0) (by kernel_rfl) (run_band (k := .i64) (a := p0_0) (b := (sub .i64 p0_0 1)) (by kernel_rfl) (by kernel_rfl)) ?_
  refine wl_val (v := .bool (eqi (band .i64 p0_0 (sub .i64 p0_0 1)) 0)) (w' := w0) (by kernel_rfl) (run_eqi (k := .i64) (a := (band .i64 p0_0 (sub .i64 p0_0 1))) (b := 0) (by kernel_rfl) (by kernel_rfl)) ?_
  refine wl_val (v := .bool (eqi (band .i64 p0_0 (sub .i64 p0_0 1)) 0)) (w' := w0) (by kernel_rfl) (run_assign (v := .bool (eqi (band .i64 p0_0 (sub .i64 p0_0 1)) 0)) (by kernel_rfl)) ?_
  refine wl_nil ?_
  refine then_n ?_
  refine cw_ret ?_
  obtain rfl := Option.some.inj hm
  exact ret1 (v := .bool (eqi (band .i64 p0_0 (sub .i64 p0_0 1)) 0)) rfl (resv_tmp (by kernel_rfl)) ⟨_, rfl, by kernel_rfl, hB⟩
end SxYtihfogahdofdmaaDoor

/- Written by program (gen.py): the model of math/bits.TrailingZeros32, and the proof that its code computes it. -/
namespace SxYtihfogahdofdmaaDoor
open Go Go.RowKit Sx Go.Proofs
set_option linter.unusedVariables false
set_option linter.unusedSimpArgs false
attribute [local irreducible] WL WX CW OW
/-! ### 97: "math/bits.TrailingZeros32" -/
def m97 (fuel : Nat) (p0_0 : Int) : Option Int :=
  if (eqi p0_0 0) then (some 32) else ((some (shr .u32 (mul .u32 (band .u32 p0_0 (neg .u32 p0_0)) 125613361) 27)).bind fun x_1 => none)
@[reducible] def Q97 (F : Lx) (w0 : World) (r : Int) (v : Value) (w' : World) : Prop := v = .int .i64 r ∧ Below w0.heap.size w0 w'
set_option maxRecDepth 100000 in
set_option maxHeartbeats 4000000 in
theorem f97_ok (fuel : Nat) (F : Lx) (w0 : World) (hF : ∀ k, some k ∈ F → k < w0.heap.size) {p0_0 : Int} {r : Int} (hm : m97 fuel p0_0 = some r) :
    Calls Tryd.prog 97 #[.int .u32 p0_0] w0 (fun e w' => ∃ v, e = .returned v ∧ Q97 F w0 r v w') := by
  have hPF : PF (bodyPost Tryd.prog Tryd.f97 (fun e w' => ∃ v, e = .returned v ∧ Q97 F w0 r v w')) := PF.body (fun c w h => by obtain ⟨v, e, _⟩ := h; cases e)
  have hL := LOk.start hF
  have hB := Below.refl w0.heap.size w0
  unfold m97 at hm
  refine enter (l := [.int .u32 p0_0, undef, undef, undef, undef, undef, undef, undef, undef, undef, undef, undef, undef, undef]) Tryd.func97 rfl Tryd.ntmps97 (by kernel_rfl) ?_
  refine cw_seq ?_
  refine cw_region ?_
  refine wl_val (v := .int .i64 0) (w' := w0) (by kernel_rfl) (run_assign (v := .int .i64 0) (by kernel_rfl)) ?_
  refine wl_nil ?_
  refine then_n ?_
  refine cw_seq ?_
  refine cw_seq ?_
  refine cw_region ?_
  refine wl_val (v := .int .u32 p0_0) (w' := w0) (by kernel_rfl) (run_move (v := .int .u32 p0_0) (by kernel_rfl)) ?_
  refine wl_val (v := .bool (eqi p0_0 0)) (w' := w0) (by kernel_rfl) (run_eqi (k := .u32) (a := p0_0) (b := 0) (by kernel_rfl) (by kernel_rfl)) ?_
  refine wl_nil ?_
  refine then_n ?_
  refine cw_cond (t := (eqi p0_0 0)) (by kernel_rfl) (fun hc_1 => ?_) (fun hc_1 => ?_)
  · have hm := ite_t hm hc_1
    refine cw_seq ?_
    refine cw_region ?_
    refine wl_val (v := .int .i64 32) (w' := w0) (by kernel_rfl) (run_assign (v := .int .i64 32) (by kernel_rfl)) ?_
    refine wl_nil ?_
    refine then_n ?_
    refine cw_ret ?_
    refine then_ret ?_
    obtain rfl := Option.some.inj hm
    exact ret1 (v := .int .i64 32) rfl (resv_tmp (by kernel_rfl)) ⟨_, rfl, by kernel_rfl, hB⟩
  · have hm := ite_f hm hc_1
    refine cw_skip ?_
    refine then_n ?_
    refine cw_seq ?_
    refine cw_region ?_
    refine wl_val (v := .int .u32 p0_0) (w' := w0) (by kernel_rfl) (run_move (v := .int .u32 p0_0) (by kernel_rfl)) ?_
    refine wl_val (v := .int .u32 p0_0) (w' := w0) (by kernel_rfl) (run_move (v := .int .u32 p0_0) (by kernel_rfl)) ?_
    refine wl_val (v := .int .u32 (neg .u32 p0_0)) (w' := w0) (by kernel_rfl) (run_neg (k := .u32) (a := p0_0) (by kernel_rfl)) ?_
    refine wl_val (v := .int .u32 (band .u32 p0_0 (neg .u32 p0_0))) (w' := w0) (by kernel_rfl) (run_band (k := .u32) (a := p0_0) (b := (neg .u32 p0_0)) (by kernel_rfl) (by kernel_rfl)) ?_
    refine wl_val (v := .int .u32 (mul .u32 (band .u32 p0_0 (neg .u32 p0_0)) 125613361)) (w' := w0) (by kernel_rfl) (run_mul (k := .u32) (a := (band .u32 p0_0 (neg .u32 p0_0))) (b := 125613361) (by kernel_rfl) (by kernel_rfl)) ?_
    obtain ⟨x_1, h_1, hm⟩ := bind_e hm
    refine wl_val (v := .int .u32 x_1) (w' := w0) (by kernel_rfl) (by rw [← Option.some.inj h_1]; exact run_shr (k := .u32) (a := (mul .u32 (band .u32 p0_0 (neg .u32 p0_0)) 125613361)) (k' := .u64) (b := 27) (by kernel_rfl) (by kernel_rfl) rfl) ?_
    cases hm
end SxYtihfogahdofdmaaDoor

/- Written by program (gen.py): the model of math/bits.TrailingZeros64, and the proof that its code computes it. -/
namespace SxYtihfogahdofdmaaDoor
open Go Go.RowKit Sx Go.Proofs
set_option linter.unusedVariables false
set_option linter.unusedSimpArgs false
attribute [local irreducible] WL WX CW OW
/-! ### 98: "math/bits.TrailingZeros64" -/
def m98 (fuel : Nat) (p0_0 : Int) : Option Int :=
  if (eqi p0_0 0) then (some 64) else ((some (mul .u64 (band .u64 p0_0 (neg .u64 p0_0)) 285870213051353865)).bind fun x_1 => none)
@[reducible] def Q98 (F : Lx) (w0 : World) (r : Int) (v : Value) (w' : World) : Prop := v = .int .i64 r ∧ Below w0.heap.size w0 w'
set_option maxRecDepth 100000 in
set_option maxHeartbeats 4000000 in
theorem f98_ok (fuel : Nat) (F : Lx) (w0 : World) (hF : ∀ k, some k ∈ F → k < w0.heap.size) {p0_0 : Int} {r : Int} (hm : m98 fuel p0_0 = some r) :
    Calls Tryd.prog 98 #[.int .u64 p0_0] w0 (fun e w' => ∃ v, e = .returned v ∧ Q98 F w0 r v w') := by
  have hPF : PF (bodyPost Tryd.prog Tryd.f98 (fun e w' => ∃ v, e = .returned v ∧ Q98 F w0 r v w')) := PF.body (fun c w h => by obtain ⟨v, e, _⟩ := h; cases e)
  have hL := LOk.start hF
  have hB := Below.refl w0.heap.size w0
  unfold m98 at hm
  refine enter (l := [.int .u64 p0_0, undef, undef, undef, undef, undef, undef, undef, undef, undef, undef, undef, undef, undef]) Tryd.func98 rfl Tryd.ntmps98 (by kernel_rfl) ?_
  refine cw_seq ?_
  refine cw_region ?_
  refine wl_val (v := .int .i64 0) (w' := w0) (by kernel_rfl) (run_assign (v := .int .i64 0) (by kernel_rfl)) ?_
  refine wl_nil ?_
  refine then_n ?_
  refine cw_seq ?_
  refine cw_seq ?_
  refine cw_region ?_
  refine wl_val (v := .int .u64 p0_0) (w' := w0) (by kernel_rfl) (run_move (v := .int .u64 p0_0) (by kernel_rfl)) ?_
  refine wl_val (v := .bool (eqi p0_0 0)) (w' := w0) (by kernel_rfl) (run_eqi (k := .u64) (a := p0_0) (b := 0) (by kernel_rfl) (by kernel_rfl)) ?_
  refine wl_nil ?_
  refine then_n ?_
  refine cw_cond (t := (eqi p0_0 0)) (by kernel_rfl) (fun hc_1 => ?_) (fun hc_1 => ?_)
  · have hm := ite_t hm hc_1
    refine cw_seq ?_
    refine cw_region ?_
    refine wl_val (v := .int .i64 64) (w' := w0) (by kernel_rfl) (run_assign (v := .int .i64 64) (by kernel_rfl)) ?_
    refine wl_nil ?_
    refine then_n ?_
    refine cw_ret ?_
    refine then_ret ?_
    obtain rfl := Option.some.inj hm
    exact ret1 (v := .int .i64 64) rfl (resv_tmp (by kernel_rfl)) ⟨_, rfl, by kernel_rfl, hB⟩
  · have hm := ite_f hm hc_1
    refine cw_skip ?_
    refine then_n ?_
    refine cw_seq ?_
    refine cw_region ?_
    refine wl_val (v := .int .u64 p0_0) (w' := w0) (by kernel_rfl) (run_move (v := .int .u64 p0_0) (by kernel_rfl)) ?_
    refine wl_val (v := .int .u64 p0_0) (w' := w0) (by kernel_rfl) (run_move (v := .int .u64 p0_0) (by kernel_rfl)) ?_
    refine wl_val (v := .int .u64 (neg .u64 p0_0)) (w' := w0) (by kernel_rfl) (run_neg (k := .u64) (a := p0_0) (by kernel_rfl)) ?_
    refine wl_val (v := .int .u64 (band .u64 p0_0 (neg .u64 p0_0))) (w' := w0) (by kernel_rfl) (run_band (k := .u64) (a := p0_0) (b := (neg .u64 p0_0)) (by kernel_rfl) (by kernel_rfl)) ?_
    obtain ⟨x_1, h_1, hm⟩ := bind_e hm
    refine wl_val (v := .int .u64 x_1) (w' := w0) (by kernel_rfl) (by rw [← Option.some.inj h_1]; exact run_mul (k := .u64) (a := (band .u64 p0_0 (neg .u64 p0_0))) (b := 285870213051353865) (by kernel_rfl) (by kernel_rfl)) ?_
    refine wl_val (v := .int .u64 (shr .u64 x_1 58)) (w' := w0) (by kernel_rfl) (run_shr (k := .u64) (a := x_1) (k' := .u64) (b := 58) (by kernel_rfl) (by kernel_rfl) rfl) ?_
    cases hm
end SxYtihfogahdofdmaaDoor

/- Written by program (gen.py): the model of math/bits.TrailingZeros, and the proof that its code computes it. -/
namespace SxYtihfogahdofdmaaDoor
open Go Go.RowKit Sx Go.Proofs
set_option linter.unusedVariables false
set_option linter.unusedSimpArgs false
attribute [local irreducible] WL WX CW OW
/-! ### 91: "math/bits.TrailingZeros" -/
def m91 (fuel : Nat) (p0_0 : Int) : Option Int :=
  (m98 fuel p0_0).bind fun r_1 => some r_1
@[reducible] def Q91 (F : Lx) (w0 : World) (r : Int) (v : Value) (w' : World) : Prop := v = .int .i64 r ∧ Below w0.heap.size w0 w'
set_option maxRecDepth 100000 in
set_option maxHeartbeats 4000000 in
theorem f91_ok (fuel : Nat) (F : Lx) (w0 : World) (hF : ∀ k, some k ∈ F → k < w0.heap.size) {p0_0 : Int} {r : Int} (hm : m91 fuel p0_0 = some r) :
    Calls Tryd.prog 91 #[.int .u64 p0_0] w0 (fun e w' => ∃ v, e = .returned v ∧ Q91 F w0 r v w') := by
  have hPF : PF (bodyPost Tryd.prog Tryd.f91 (fun e w' => ∃ v, e = .returned v ∧ Q91 F w0 r v w')) := PF.body (fun c w h => by obtain ⟨v, e, _⟩ := h; cases e)
  have hL := LOk.start hF
  have hB := Below.refl w0.heap.size w0
  unfold m91 at hm
  refine enter (l := [.int .u64 p0_0, undef, undef, undef, undef, undef, undef, undef]) Tryd.func91 rfl Tryd.ntmps91 (by kernel_rfl) ?_
  refine cw_seq ?_
  refine cw_region ?_
  refine wl_val (v := .int .i64 0) (w' := w0) (by kernel_rfl) (run_assign (v := .int .i64 0) (by kernel_rfl)) ?_
  refine wl_nil ?_
  refine then_n ?_
  refine cw_seq ?_
  refine cw_cond (t := false) (by kernel_rfl) (fun hc => by cases hc) (fun _ => ?_)
  refine cw_skip ?_
  refine then_n ?_
  refine cw_seq ?_
  refine cw_region ?_
  refine wl_val (v := .int .u64 p0_0) (w' := w0) (by kernel_rfl) (run_move (v := .int .u64 p0_0) (by kernel_rfl)) ?_
  obtain ⟨r_1, h_1, hm⟩ := bind_e hm
  refine wl_op (by kernel_rfl) (ow_enter (run_callf (vs := [.int .u64 p0_0]) Tryd.func98 nm_98 (by kernel_rfl) (by kernel_rfl)) (f98_ok (p0_0 := p0_0) fuel _ w0 hL.lt  h_1) ?_)
  intro vR w_1 hR
  obtain ⟨rfl, hBe⟩ := hR
  have hS := Stp.call hL (Fz.of_below hBe [])
  replace hB := hS.below hL hB
  replace hL := hS.hL
  refine wl_val (v := .int .i64 r_1) (w' := w_1) (by kernel_rfl) (run_assign (v := .int .i64 r_1) (by kernel_rfl)) ?_
  refine wl_nil ?_
  refine then_n ?_
  refine cw_ret ?_
  obtain rfl := Option.some.inj hm
  exact ret1 (v := .int .i64 r_1) rfl (resv_tmp (by kernel_rfl)) ⟨_, rfl, by kernel_rfl, hB⟩
end SxYtihfogahdofdmaaDoor

/- Written by program (gen.py): the model of internal/strconv.formatBits, and the proof that its code computes it. -/
namespace SxYtihfogahdofdmaaDoor
open Go Go.RowKit Sx Go.Proofs
set_option linter.unusedVariables false
set_option linter.unusedSimpArgs false
attribute [local irreducible] WL WX CW OW
/-! ### 78: "internal/strconv.formatBits" -/
def m78_J1 (fuel : Nat) : Option ((List Int) × (List UInt8)) :=
  none
def m78_J2 (fuel : Nat) (x_2 : Bool) : Option ((List Int) × (List UInt8)) :=
  if x_2 then (none) else (m78_J1 fuel  )
def m78 (fuel : Nat) (p0_0 : (List Int)) (p1_0 : Int) (p2_0 : Int) (p3_0 : Bool) (p4_0 : Bool) : Option ((List Int) × (List UInt8)) :=
  if (lt p2_0 2) then (m78_J2 fuel  true) else (if (eqi p2_0 10) then (m78_J2 fuel  true) else (m78_J2 fuel  (gt p2_0 36)))
@[reducible] def Q78 (F : Lx) (w0 : World) (r : ((List Int) × (List UInt8))) (v : Value) (w' : World) : Prop := ∃ a0 n0 c0, v = .tuple #[.slice a0 n0 c0, .string ⟨⟨r.2⟩⟩] ∧ Below w0.heap.size w0 w' ∧ Ow (Rp.int .u8) 5 ([blk a0] ++ F) w' a0 n0 c0 r.1 ∧ (∀ k, blk a0 = some k → w0.heap.size ≤ k ∧ k < w'.heap.size)
set_option maxRecDepth 100000 in
set_option maxHeartbeats 4000000 in
theorem f78_ok (fuel : Nat) (F : Lx) (w0 : World) (hF : ∀ k, some k ∈ F → k < w0.heap.size) {p0_0 : (List Int)} {p1_0 : Int} {p2_0 : Int} {p3_0 : Bool} {p4_0 : Bool} {a_1 : Option Addr} {n_1 c_1 : Nat} (h_1 : (Rp.slice (Rp.int .u8)).rel F w0 [.slice a_1 n_1 c_1] p0_0) {r : ((List Int) × (List UInt8))} (hm : m78 fuel p0_0 p1_0 p2_0 p3_0 p4_0 = some r) :
    Calls Tryd.prog 78 #[.slice a_1 n_1 c_1, .int .u64 p1_0, .int .i64 p2_0, .bool p3_0, .bool p4_0] w0 (fun e w' => ∃ v, e = .returned v ∧ Q78 F w0 r v w') := by
  have hPF : PF (bodyPost Tryd.prog Tryd.f78 (fun e w' => ∃ v, e = .returned v ∧ Q78 F w0 r v w')) := PF.body (fun c w h => by obtain ⟨v, e, _⟩ := h; cases e)
  have hL := LOk.start hF
  have hB := Below.refl w0.heap.size w0
  obtain rfl := slice_len h_1
  have h_1 : (Rp.slice (Rp.int .u8)).rel ([] ++ F) w0 _ _ := h_1
  unfold m78 at hm
  refine enter (l := [.slice a_1 p0_0.length c_1, .int .u64 p1_0, .int .i64 p2_0, .bool p3_0, .bool p4_0, undef, undef, undef, undef, undef, undef, undef, undef, undef, undef, undef, undef, undef, undef, undef, undef, undef, undef, undef, undef, undef, undef, undef, undef, undef, undef, undef, undef, undef, undef, undef, undef, undef, undef, undef, undef, undef, undef, undef, undef, undef, undef, undef, undef, undef, undef, undef, undef, undef, undef, undef, undef, undef, undef, undef, undef, undef, undef, undef, undef, undef, undef, undef, undef, undef, undef, undef, undef, undef, undef, undef, undef, undef, undef, undef, undef, undef, undef, undef, undef, undef, undef, undef, undef, undef, undef, undef, undef, undef, undef, undef, undef, undef, undef, undef, undef, undef]) Tryd.func78 rfl Tryd.ntmps78 (by kernel_rfl) ?_
  refine cw_seq ?_
  refine cw_region ?_
  refine wl_val (v := .slice none 0 0) (w' := w0) (by kernel_rfl) (run_assign (v := .slice none 0 0) (by kernel_rfl)) ?_
  refine wl_val (v := .string ⟨⟨([] : List UInt8)⟩⟩) (w' := w0) (by kernel_rfl) (run_assign (v := .string ⟨⟨([] : List UInt8)⟩⟩) (by kernel_rfl)) ?_
  refine wl_nil ?_
  refine then_n ?_
  refine cw_cut (fun l' w' => ∃ u_2 : Nat → Value, l' = [.slice a_1 p0_0.length c_1, .int .u64 p1_0, .int .i64 p2_0, .bool p3_0, .bool p4_0, undef, undef, undef, undef, undef, .slice none 0 0, .string ⟨⟨([] : List UInt8)⟩⟩, undef, undef, undef, undef, undef, undef, undef, (u_2 0), (u_2 1), (u_2 2), (u_2 3), (u_2 4), (u_2 5), (u_2 6), (u_2 7), (u_2 8), (u_2 9), (u_2 10), undef, undef, undef, undef, undef, undef, undef, undef, undef, undef, undef, undef, undef, undef, undef, undef, undef, undef, undef, undef, undef, undef, undef, undef, undef, undef, undef, undef, undef, undef, undef, undef, undef, undef, undef, undef, undef, undef, undef, undef, undef, undef, undef, undef, undef, undef, undef, undef, undef, undef, undef, undef, undef, undef, undef, undef, undef, undef, undef, undef, undef, undef, undef, undef, undef, undef, undef, undef, undef, undef, undef, undef] ∧ LOk w0.heap.size [] F w' ∧ Below w0.heap.size w0 w' ∧ (Rp.slice (Rp.int .u8)).rel ([] ++ F) w' [.slice a_1 p0_0.length c_1] p0_0 ∧ m78_J1 fuel  = some r) ?_ ?_
  · refine cw_cut (fun l' w' => ∃ x_2, ∃ u_3 : Nat → Value, l' = [.slice a_1 p0_0.length c_1, .int .u64 p1_0, .int .i64 p2_0, .bool p3_0, .bool p4_0, undef, undef, undef, undef, undef, .slice none 0 0, .string ⟨⟨([] : List UInt8)⟩⟩, undef, undef, undef, undef, undef, undef, undef, (u_3 0), (u_3 1), (u_3 2), (u_3 3), (u_3 4), (u_3 5), (u_3 6), (u_3 7), (u_3 8), .bool x_2, undef, undef, undef, undef, undef, undef, undef, undef, undef, undef, undef, undef, undef, undef, undef, undef, undef, undef, undef, undef, undef, undef, undef, undef, undef, undef, undef, undef, undef, undef, undef, undef, undef, undef, undef, undef, undef, undef, undef, undef, undef, undef, undef, undef, undef, undef, undef, undef, undef, undef, undef, undef, undef, undef, undef, undef, undef, undef, undef, undef, undef, undef, undef, undef, undef, undef, undef, undef, undef, undef, undef, undef, undef] ∧ LOk w0.heap.size [] F w' ∧ Below w0.heap.size w0 w' ∧ (Rp.slice (Rp.int .u8)).rel ([] ++ F) w' [.slice a_1 p0_0.length c_1] p0_0 ∧ m78_J2 fuel x_2 = some r) ?_ ?_
    · refine cw_region ?_
      refine wl_val (v := .int .i64 p2_0) (w' := w0) (by kernel_rfl) (run_move (v := .int .i64 p2_0) (by kernel_rfl)) ?_
      refine wl_val (v := .bool (lt p2_0 2)) (w' := w0) (by kernel_rfl) (run_lt (k := .i64) (a := p2_0) (b := 2) (by kernel_rfl) (by kernel_rfl)) ?_
      refine wl_val (v := .bool (lt p2_0 2)) (w' := w0) (by kernel_rfl) (run_move (v := .bool (lt p2_0 2)) (by kernel_rfl)) ?_
      rcases Bool.eq_false_or_eq_true (lt p2_0 2) with hc_7 | hc_7
      · have hm := ite_t hm hc_7
        refine wl_not0 (wg (c := (lt p2_0 2)) (want := false) (by kernel_rfl) hc_7 rfl) (by kernel_rfl) ?_
        refine wl_not0 (wg (c := (lt p2_0 2)) (want := false) (by kernel_rfl) hc_7 rfl) (by kernel_rfl) ?_
        refine wl_val (v := .bool true) (w' := w0) (by kernel_rfl) (run_pick_t (v := .bool true) (tr2 (c := (lt p2_0 2)) (by kernel_rfl) hc_7) (by kernel_rfl)) ?_
        refine wl_val (v := .bool true) (w' := w0) (by kernel_rfl) (run_move (v := .bool true) (by kernel_rfl)) ?_
        refine wl_not0 (by kernel_rfl) (by kernel_rfl) ?_
        refine wl_not0 (by kernel_rfl) (by kernel_rfl) ?_
        refine wl_val (v := .bool true) (w' := w0) (by kernel_rfl) (run_pick_t (v := .bool true) (by kernel_rfl) (by kernel_rfl)) ?_
        refine wl_nil ?_
        exact then_c ⟨true, (fun i => ([.int .i64 p2_0, .bool (lt p2_0 2), .bool (lt p2_0 2), undef, undef, .bool true, .bool true, undef, undef] : List Value).getD i undef), by kernel_rfl, hL, hB, h_1, hm⟩
      · have hm := ite_f hm hc_7
        refine wl_val (v := .int .i64 p2_0) (w' := w0) (wg (c := (lt p2_0 2)) (want := false) (by kernel_rfl) hc_7 rfl) (run_move (v := .int .i64 p2_0) (by kernel_rfl)) ?_
        refine wl_val (v := .bool (eqi p2_0 10)) (w' := w0) (wg (c := (lt p2_0 2)) (want := false) (by kernel_rfl) hc_7 rfl) (run_eqi (k := .i64) (a := p2_0) (b := 10) (by kernel_rfl) (by kernel_rfl)) ?_
        refine wl_val (v := .bool (eqi p2_0 10)) (w' := w0) (by kernel_rfl) (run_pick_f (v := .bool (eqi p2_0 10)) (tr2 (c := (lt p2_0 2)) (by kernel_rfl) hc_7) (by kernel_rfl)) ?_
        refine wl_val (v := .bool (eqi p2_0 10)) (w' := w0) (by kernel_rfl) (run_move (v := .bool (eqi p2_0 10)) (by kernel_rfl)) ?_
        refine wl_norm [.slice a_1 p0_0.length c_1, .int .u64 p1_0, .int .i64 p2_0, .bool p3_0, .bool p4_0, undef, undef, undef, undef, undef, .slice none 0 0, .string ⟨⟨([] : List UInt8)⟩⟩, undef, undef, undef, undef, undef, undef, undef, .int .i64 p2_0, .bool (lt p2_0 2), .bool (lt p2_0 2), .int .i64 p2_0, .bool (eqi p2_0 10), .bool (eqi p2_0 10), .bool (eqi p2_0 10), undef, undef, undef, undef, undef, undef, undef, undef, undef, undef, undef, undef, undef, undef, undef, undef, undef, undef, undef, undef, undef, undef, undef, undef, undef, undef, undef, undef, undef, undef, undef, undef, undef, undef, undef, undef, undef, undef, undef, undef, undef, undef, undef, undef, undef, undef, undef, undef, undef, undef, undef, undef, undef, undef, undef, undef, undef, undef, undef, undef, undef, undef, undef, undef, undef, undef, undef, undef, undef, undef, undef, undef, undef, undef, undef, undef] (by kernel_rfl) ?_
        rcases Bool.eq_false_or_eq_true (eqi p2_0 10) with hc_8 | hc_8
        · have hm := ite_t hm hc_8
          refine wl_not0 (wg (c := (eqi p2_0 10)) (want := false) (by kernel_rfl) hc_8 rfl) (by kernel_rfl) ?_
          refine wl_not0 (wg (c := (eqi p2_0 10)) (want := false) (by kernel_rfl) hc_8 rfl) (by kernel_rfl) ?_
          refine wl_val (v := .bool true) (w' := w0) (by kernel_rfl) (run_pick_t (v := .bool true) (tr2 (c := (eqi p2_0 10)) (by kernel_rfl) hc_8) (by kernel_rfl)) ?_
          refine wl_nil ?_
          exact then_c ⟨true, (fun i => ([.int .i64 p2_0, .bool (lt p2_0 2), .bool (lt p2_0 2), .int .i64 p2_0, .bool (eqi p2_0 10), .bool (eqi p2_0 10), .bool (eqi p2_0 10), undef, undef] : List Value).getD i undef), by kernel_rfl, hL, hB, h_1, hm⟩
        · have hm := ite_f hm hc_8
          refine wl_val (v := .int .i64 p2_0) (w' := w0) (wg (c := (eqi p2_0 10)) (want := false) (by kernel_rfl) hc_8 rfl) (run_move (v := .int .i64 p2_0) (by kernel_rfl)) ?_
          refine wl_val (v := .bool (gt p2_0 36)) (w' := w0) (wg (c := (eqi p2_0 10)) (want := false) (by kernel_rfl) hc_8 rfl) (run_gt (k := .i64) (a := p2_0) (b := 36) (by kernel_rfl) (by kernel_rfl)) ?_
          refine wl_val (v := .bool (gt p2_0 36)) (w' := w0) (by kernel_rfl) (run_pick_f (v := .bool (gt p2_0 36)) (tr2 (c := (eqi p2_0 10)) (by kernel_rfl) hc_8) (by kernel_rfl)) ?_
          refine wl_nil ?_
          exact then_c ⟨(gt p2_0 36), (fun i => ([.int .i64 p2_0, .bool (lt p2_0 2), .bool (lt p2_0 2), .int .i64 p2_0, .bool (eqi p2_0 10), .bool (eqi p2_0 10), .bool (eqi p2_0 10), .int .i64 p2_0, .bool (gt p2_0 36)] : List Value).getD i undef), by kernel_rfl, hL, hB, h_1, hm⟩
    · intro l1 w_3 hI
      obtain ⟨x_2, u_3, rfl, hL, hB, h_1, hm⟩ := hI
      unfold m78_J2 at hm
      refine cw_cond (t := x_2) (by kernel_rfl) (fun hc_6 => ?_) (fun hc_6 => ?_)
      · have hm := ite_t hm hc_6
        refine cw_region ?_
        cases hm
      · have hm := ite_f hm hc_6
        refine cw_skip ?_
        exact then_c ⟨(fun i => ([(u_3 0), (u_3 1), (u_3 2), (u_3 3), (u_3 4), (u_3 5), (u_3 6), (u_3 7), (u_3 8), .bool x_2, undef] : List Value).getD i undef), by kernel_rfl, hL, hB, h_1, hm⟩
  · intro l1 w_1 hI
    obtain ⟨u_2, rfl, hL, hB, h_1, hm⟩ := hI
    unfold m78_J1 at hm
    refine cw_seq ?_
    refine cw_region ?_
    cases hm
end SxYtihfogahdofdmaaDoor

/- Written by program (gen.py): the model of internal/strconv.FormatInt, and the proof that its code computes it. -/
namespace SxYtihfogahdofdmaaDoor
open Go Go.RowKit Sx Go.Proofs
set_option linter.unusedVariables false
set_option linter.unusedSimpArgs false
attribute [local irreducible] WL WX CW OW
/-! ### 64: "internal/strconv.FormatInt" -/
def m64_J1 (fuel : Nat) (p0_0 : Int) (x_1 : Bool) : Option (List UInt8) :=
  if x_1 then ((m75 fuel p0_0).bind fun r_1 => some r_1) else (none)
def m64 (fuel : Nat) (p0_0 : Int) (p1_0 : Int) : Option (List UInt8) :=
  if (eqi p1_0 10) then (if (le 0 p0_0) then (m64_J1 fuel p0_0 (lt p0_0 100)) else (m64_J1 fuel p0_0 false)) else ((m78 fuel [] (cvt .u64 p0_0) p1_0 (lt p0_0 0) false).bind fun r_2 => some r_2.2)
@[reducible] def Q64 (F : Lx) (w0 : World) (r : (List UInt8)) (v : Value) (w' : World) : Prop := v = .string ⟨⟨r⟩⟩ ∧ Below w0.heap.size w0 w'
set_option maxRecDepth 100000 in
set_option maxHeartbeats 4000000 in
theorem f64_ok (fuel : Nat) (F : Lx) (w0 : World) (hF : ∀ k, some k ∈ F → k < w0.heap.size) {p0_0 : Int} {p1_0 : Int} {r : (List UInt8)} (hm : m64 fuel p0_0 p1_0 = some r) :
    Calls Tryd.prog 64 #[.int .i64 p0_0, .int .i64 p1_0] w0 (fun e w' => ∃ v, e = .returned v ∧ Q64 F w0 r v w') := by
  have hPF : PF (bodyPost Tryd.prog Tryd.f64 (fun e w' => ∃ v, e = .returned v ∧ Q64 F w0 r v w')) := PF.body (fun c w h => by obtain ⟨v, e, _⟩ := h; cases e)
  have hL := LOk.start hF
  have hB := Below.refl w0.heap.size w0
  unfold m64 at hm
  refine enter (l := [.int .i64 p0_0, .int .i64 p1_0, undef, undef, undef, undef, undef, undef, undef, undef, undef, undef, undef, undef, undef, undef, undef, undef, undef, undef, undef, undef, undef, undef, undef, undef, undef, undef, undef, undef, undef, undef, undef, undef, undef, undef, undef, undef, undef, undef, undef, undef, undef, undef, undef, undef, undef, undef, undef, undef, undef, undef, undef, undef]) Tryd.func64 rfl Tryd.ntmps64 (by kernel_rfl) ?_
  refine cw_seq ?_
  refine cw_region ?_
  refine wl_val (v := .string ⟨⟨([] : List UInt8)⟩⟩) (w' := w0) (by kernel_rfl) (run_assign (v := .string ⟨⟨([] : List UInt8)⟩⟩) (by kernel_rfl)) ?_
  refine wl_nil ?_
  refine then_n ?_
  refine cw_seq ?_
  refine cw_seq ?_
  refine cw_region ?_
  refine wl_val (v := .int .i64 p1_0) (w' := w0) (by kernel_rfl) (run_move (v := .int .i64 p1_0) (by kernel_rfl)) ?_
  refine wl_val (v := .bool (eqi p1_0 10)) (w' := w0) (by kernel_rfl) (run_eqi (k := .i64) (a := p1_0) (b := 10) (by kernel_rfl) (by kernel_rfl)) ?_
  refine wl_nil ?_
  refine then_n ?_
  refine cw_cond (t := (eqi p1_0 10)) (by kernel_rfl) (fun hc_1 => ?_) (fun hc_1 => ?_)
  · have hm := ite_t hm hc_1
    refine cw_seq ?_
    refine cw_cut (fun l' w' => ∃ x_1, ∃ u_1 : Nat → Value, l' = [.int .i64 p0_0, .int .i64 p1_0, undef, undef, .string ⟨⟨([] : List UInt8)⟩⟩, undef, undef, undef, undef, undef, .int .i64 p1_0, .bool (eqi p1_0 10), (u_1 0), (u_1 1), (u_1 2), (u_1 3), (u_1 4), .bool x_1, undef, undef, undef, undef, undef, undef, undef, undef, undef, undef, undef, undef, undef, undef, undef, undef, undef, undef, undef, undef, undef, undef, undef, undef, undef, undef, undef, undef, undef, undef, undef, undef, undef, undef, undef, undef] ∧ LOk w0.heap.size [] F w' ∧ Below w0.heap.size w0 w' ∧ m64_J1 fuel p0_0 x_1 = some r) ?_ ?_
    · refine cw_region ?_
      refine wl_val (v := .int .i64 p0_0) (w' := w0) (by kernel_rfl) (run_move (v := .int .i64 p0_0) (by kernel_rfl)) ?_
      refine wl_val (v := .bool (le 0 p0_0)) (w' := w0) (by kernel_rfl) (run_le (k := .i64) (a := 0) (b := p0_0) (by kernel_rfl) (by kernel_rfl)) ?_
      refine wl_val (v := .bool (le 0 p0_0)) (w' := w0) (by kernel_rfl) (run_move (v := .bool (le 0 p0_0)) (by kernel_rfl)) ?_
      rcases Bool.eq_false_or_eq_true (le 0 p0_0) with hc_4 | hc_4
      · have hm := ite_t hm hc_4
        refine wl_val (v := .int .i64 p0_0) (w' := w0) (wg (c := (le 0 p0_0)) (want := true) (by kernel_rfl) hc_4 rfl) (run_move (v := .int .i64 p0_0) (by kernel_rfl)) ?_
        refine wl_val (v := .bool (lt p0_0 100)) (w' := w0) (wg (c := (le 0 p0_0)) (want := true) (by kernel_rfl) hc_4 rfl) (run_lt (k := .i64) (a := p0_0) (b := 100) (by kernel_rfl) (by kernel_rfl)) ?_
        refine wl_val (v := .bool (lt p0_0 100)) (w' := w0) (by kernel_rfl) (run_pick_t (v := .bool (lt p0_0 100)) (tr2 (c := (le 0 p0_0)) (by kernel_rfl) hc_4) (by kernel_rfl)) ?_
        refine wl_nil ?_
        exact then_c ⟨(lt p0_0 100), (fun i => ([.int .i64 p0_0, .bool (le 0 p0_0), .bool (le 0 p0_0), .int .i64 p0_0, .bool (lt p0_0 100)] : List Value).getD i undef), by kernel_rfl, hL, hB, hm⟩
      · have hm := ite_f hm hc_4
        refine wl_not0 (wg (c := (le 0 p0_0)) (want := true) (by kernel_rfl) hc_4 rfl) (by kernel_rfl) ?_
        refine wl_not0 (wg (c := (le 0 p0_0)) (want := true) (by kernel_rfl) hc_4 rfl) (by kernel_rfl) ?_
        refine wl_val (v := .bool false) (w' := w0) (by kernel_rfl) (run_pick_f (v := .bool false) (tr2 (c := (le 0 p0_0)) (by kernel_rfl) hc_4) (by kernel_rfl)) ?_
        refine wl_nil ?_
        exact then_c ⟨false, (fun i => ([.int .i64 p0_0, .bool (le 0 p0_0), .bool (le 0 p0_0), undef, undef] : List Value).getD i undef), by kernel_rfl, hL, hB, hm⟩
    · intro l1 w_1 hI
      obtain ⟨x_1, u_1, rfl, hL, hB, hm⟩ := hI
      unfold m64_J1 at hm
      refine cw_cond (t := x_1) (by kernel_rfl) (fun hc_3 => ?_) (fun hc_3 => ?_)
      · have hm := ite_t hm hc_3
        refine cw_seq ?_
        refine cw_region ?_
        refine wl_val (v := .int .i64 p0_0) (w' := w_1) (by kernel_rfl) (run_move (v := .int .i64 p0_0) (by kernel_rfl)) ?_
        obtain ⟨r_1, h_1, hm⟩ := bind_e hm
        refine wl_op (by kernel_rfl) (ow_enter (run_callf (vs := [.int .i64 p0_0]) Tryd.func75 nm_75 (by kernel_rfl) (by kernel_rfl)) (f75_ok (p0_0 := p0_0) fuel _ w_1 hL.lt  h_1) ?_)
        intro vR w_2 hR
        obtain ⟨rfl, hBe⟩ := hR
        have hS := Stp.call hL (Fz.of_below hBe [])
        replace hB := hS.below hL hB
        replace hL := hS.hL
        refine wl_val (v := .string ⟨⟨r_1⟩⟩) (w' := w_2) (by kernel_rfl) (run_assign (v := .string ⟨⟨r_1⟩⟩) (by kernel_rfl)) ?_
        refine wl_nil ?_
        refine then_n ?_
        refine cw_ret ?_
        refine then_ret ?_
        refine then_ret ?_
        obtain rfl := Option.some.inj hm
        exact ret1 (v := .string ⟨⟨r_1⟩⟩) rfl (resv_tmp (by kernel_rfl)) ⟨_, rfl, by kernel_rfl, hB⟩
      · have hm := ite_f hm hc_3
        refine cw_skip ?_
        refine then_n ?_
        refine cw_seq ?_
        refine cw_region ?_
        cases hm
  · have hm := ite_f hm hc_1
    refine cw_skip ?_
    refine then_n ?_
    refine cw_seq ?_
    refine cw_region ?_
    refine wl_val (v := .int .i64 p0_0) (w' := w0) (by kernel_rfl) (run_move (v := .int .i64 p0_0) (by kernel_rfl)) ?_
    refine wl_val (v := .int .u64 (cvt .u64 p0_0)) (w' := w0) (by kernel_rfl) (run_cvt (k := .i64) (a := p0_0) Tryd.underlying2 Tryd.underlying55 (by kernel_rfl)) ?_
    refine wl_val (v := .int .i64 p1_0) (w' := w0) (by kernel_rfl) (run_move (v := .int .i64 p1_0) (by kernel_rfl)) ?_
    refine wl_val (v := .int .i64 p0_0) (w' := w0) (by kernel_rfl) (run_move (v := .int .i64 p0_0) (by kernel_rfl)) ?_
    refine wl_val (v := .bool (lt p0_0 0)) (w' := w0) (by kernel_rfl) (run_lt (k := .i64) (a := p0_0) (b := 0) (by kernel_rfl) (by kernel_rfl)) ?_
    obtain ⟨r_2, h_3, hm⟩ := bind_e hm
    refine wl_op (by kernel_rfl) (ow_enter (run_callf (vs := [.slice none 0 0, .int .u64 (cvt .u64 p0_0), .int .i64 p1_0, .bool (lt p0_0 0), .bool false]) Tryd.func78 nm_78 (by kernel_rfl) (by kernel_rfl)) (f78_ok (p0_0 := []) (p1_0 := (cvt .u64 p0_0)) (p2_0 := p1_0) (p3_0 := (lt p0_0 0)) (p4_0 := false) fuel _ w0 hL.lt (slice_nil _ _ _ _ _) h_3) ?_)
    intro vR w_4 hR
    obtain ⟨a_1, n_1, c_1, rfl, hBe, h_4, h_5⟩ := hR
    have hS : Stp w0.heap.size _ [blk a_1] F [] w0 w_4 := Stp.row hL (Fz.of_below hBe _) h_5
    replace hB := hS.below hL hB
    replace hL := hS.hL
    refine wl_val (v := .tuple #[.slice a_1 n_1 c_1, .string ⟨⟨r_2.2⟩⟩]) (w' := w_4) (by kernel_rfl) (run_move (v := .tuple #[.slice a_1 n_1 c_1, .string ⟨⟨r_2.2⟩⟩]) (by kernel_rfl)) ?_
    refine wl_val (v := .slice a_1 n_1 c_1) (w' := w_4) (by kernel_rfl) (run_extract (vs := #[.slice a_1 n_1 c_1, .string ⟨⟨r_2.2⟩⟩]) (by kernel_rfl) (by kernel_rfl)) ?_
    refine wl_val (v := .string ⟨⟨r_2.2⟩⟩) (w' := w_4) (by kernel_rfl) (run_extract (vs := #[.slice a_1 n_1 c_1, .string ⟨⟨r_2.2⟩⟩]) (by kernel_rfl) (by kernel_rfl)) ?_
    refine wl_val (v := .slice a_1 n_1 c_1) (w' := w_4) (by kernel_rfl) (run_assign (v := .slice a_1 n_1 c_1) (by kernel_rfl)) ?_
    refine wl_val (v := .string ⟨⟨r_2.2⟩⟩) (w' := w_4) (by kernel_rfl) (run_assign (v := .string ⟨⟨r_2.2⟩⟩) (by kernel_rfl)) ?_
    refine wl_nil ?_
    refine then_n ?_
    refine cw_norm [.int .i64 p0_0, .int .i64 p1_0, undef, undef, .string ⟨⟨([] : List UInt8)⟩⟩, undef, undef, undef, .slice a_1 n_1 c_1, .string ⟨⟨r_2.2⟩⟩, .int .i64 p1_0, .bool (eqi p1_0 10), undef, undef, undef, undef, undef, undef, undef, undef, undef, undef, undef, undef, undef, undef, undef, undef, undef, undef, undef, undef, undef, undef, undef, undef, undef, undef, undef, undef, undef, undef, undef, undef, .tuple #[.slice a_1 n_1 c_1, .string ⟨⟨r_2.2⟩⟩], .int .i64 p0_0, .int .u64 (cvt .u64 p0_0), .int .i64 p1_0, .int .i64 p0_0, .bool (lt p0_0 0), .tuple #[.slice a_1 n_1 c_1, .string ⟨⟨r_2.2⟩⟩], .slice a_1 n_1 c_1, .string ⟨⟨r_2.2⟩⟩, undef] (by kernel_rfl) ?_
    refine cw_seq ?_
    refine cw_region ?_
    refine wl_val (v := .string ⟨⟨r_2.2⟩⟩) (w' := w_4) (by kernel_rfl) (run_move (v := .string ⟨⟨r_2.2⟩⟩) (by kernel_rfl)) ?_
    refine wl_val (v := .string ⟨⟨r_2.2⟩⟩) (w' := w_4) (by kernel_rfl) (run_assign (v := .string ⟨⟨r_2.2⟩⟩) (by kernel_rfl)) ?_
    refine wl_nil ?_
    refine then_n ?_
    refine cw_ret ?_
    have hS : Stp w0.heap.size _ [] F [] w_4 _ := Stp.pick hL [] rfl (by decide)
    replace hB := hS.below hL hB
    replace hL := hS.hL
    obtain rfl := Option.some.inj hm
    exact ret1 (v := .string ⟨⟨r_2.2⟩⟩) rfl (resv_tmp (by kernel_rfl)) ⟨_, rfl, by kernel_rfl, hB⟩
end SxYtihfogahdofdmaaDoor

/- Written by program (gen.py): the model of strconv.FormatInt, and the proof that its code computes it. -/
namespace SxYtihfogahdofdmaaDoor
open Go Go.RowKit Sx Go.Proofs
set_option linter.unusedVariables false
set_option linter.unusedSimpArgs false
attribute [local irreducible] WL WX CW OW
/-! ### 45: "strconv.FormatInt" -/
def m45 (fuel : Nat) (p0_0 : Int) (p1_0 : Int) : Option (List UInt8) :=
  (m64 fuel p0_0 p1_0).bind fun r_1 => some r_1
@[reducible] def Q45 (F : Lx) (w0 : World) (r : (List UInt8)) (v : Value) (w' : World) : Prop := v = .string ⟨⟨r⟩⟩ ∧ Below w0.heap.size w0 w'
set_option maxRecDepth 100000 in
set_option maxHeartbeats 4000000 in
theorem f45_ok (fuel : Nat) (F : Lx) (w0 : World) (hF : ∀ k, some k ∈ F → k < w0.heap.size) {p0_0 : Int} {p1_0 : Int} {r : (List UInt8)} (hm : m45 fuel p0_0 p1_0 = some r) :
    Calls Tryd.prog 45 #[.int .i64 p0_0, .int .i64 p1_0] w0 (fun e w' => ∃ v, e = .returned v ∧ Q45 F w0 r v w') := by
  have hPF : PF (bodyPost Tryd.prog Tryd.f45 (fun e w' => ∃ v, e = .returned v ∧ Q45 F w0 r v w')) := PF.body (fun c w h => by obtain ⟨v, e, _⟩ := h; cases e)
  have hL := LOk.start hF
  have hB := Below.refl w0.heap.size w0
  unfold m45 at hm
  refine enter (l := [.int .i64 p0_0, .int .i64 p1_0, undef, undef, undef, undef, undef, undef]) Tryd.func45 rfl Tryd.ntmps45 (by kernel_rfl) ?_
  refine cw_seq ?_
  refine cw_region ?_
  refine wl_val (v := .string ⟨⟨([] : List UInt8)⟩⟩) (w' := w0) (by kernel_rfl) (run_assign (v := .string ⟨⟨([] : List UInt8)⟩⟩) (by kernel_rfl)) ?_
  refine wl_nil ?_
  refine then_n ?_
  refine cw_seq ?_
  refine cw_region ?_
  refine wl_val (v := .int .i64 p0_0) (w' := w0) (by kernel_rfl) (run_move (v := .int .i64 p0_0) (by kernel_rfl)) ?_
  refine wl_val (v := .int .i64 p1_0) (w' := w0) (by kernel_rfl) (run_move (v := .int .i64 p1_0) (by kernel_rfl)) ?_
  obtain ⟨r_1, h_1, hm⟩ := bind_e hm
  refine wl_op (by kernel_rfl) (ow_enter (run_callf (vs := [.int .i64 p0_0, .int .i64 p1_0]) Tryd.func64 nm_64 (by kernel_rfl) (by kernel_rfl)) (f64_ok (p0_0 := p0_0) (p1_0 := p1_0) fuel _ w0 hL.lt  h_1) ?_)
  intro vR w_1 hR
  obtain ⟨rfl, hBe⟩ := hR
  have hS := Stp.call hL (Fz.of_below hBe [])
  replace hB := hS.below hL hB
  replace hL := hS.hL
  refine wl_val (v := .string ⟨⟨r_1⟩⟩) (w' := w_1) (by kernel_rfl) (run_assign (v := .string ⟨⟨r_1⟩⟩) (by kernel_rfl)) ?_
  refine wl_nil ?_
  refine then_n ?_
  refine cw_ret ?_
  obtain rfl := Option.some.inj hm
  exact ret1 (v := .string ⟨⟨r_1⟩⟩) rfl (resv_tmp (by kernel_rfl)) ⟨_, rfl, by kernel_rfl, hB⟩
end SxYtihfogahdofdmaaDoor

/- Written by program (gen.py): the model of saucier/units.Show, and the proof that its code computes it. -/
namespace SxYtihfogahdofdmaaDoor
open Go Go.RowKit Sx Go.Proofs
set_option linter.unusedVariables false
set_option linter.unusedSimpArgs false
attribute [local irreducible] WL WX CW OW
/-! ### 21: "saucier/units.Show" -/
def m21_J1 (fuel : Nat) (p0_0 : TDec) (n_1 : Int) (sign_1 : (List UInt8)) : Option (List UInt8) :=
  (m37 fuel (cvt .i64 p0_0.D)).bind fun r_2 => need (nei r_2 0) ((m45 fuel (quo .i64 n_1 r_2) 10).bind fun r_3 => need (small (sign_1.length + r_3.length)) (if (eqi p0_0.D 0) then (some (sign_1 ++ r_3)) else (need (nei r_2 0) ((m45 fuel (rem n_1 r_2) 10).bind fun r_4 => need (small ((sign_1 ++ r_3).length + ([46] : List UInt8).length)) ((m29 fuel ([48] : List UInt8) (sub .i64 (cvt .i64 p0_0.D) (r_4.length : Int))).bind fun r_5 => need (small (((sign_1 ++ r_3) ++ ([46] : List UInt8)).length + r_5.length)) (need (small ((((sign_1 ++ r_3) ++ ([46] : List UInt8)) ++ r_5).length + r_4.length)) (some ((((sign_1 ++ r_3) ++ ([46] : List UInt8)) ++ r_5) ++ r_4))))))))
def m21 (fuel : Nat) (p0_0 : TDec) : Option (List UInt8) :=
  (m14 fuel p0_0).bind fun r_1 => if r_1 then (if (lt p0_0.N 0) then (m21_J1 fuel p0_0 (neg .i64 p0_0.N) ([45] : List UInt8)) else (m21_J1 fuel p0_0 p0_0.N ([] : List UInt8))) else (some ([] : List UInt8))
@[reducible] def Q21 (F : Lx) (w0 : World) (r : (List UInt8)) (v : Value) (w' : World) : Prop := v = .string ⟨⟨r⟩⟩ ∧ Below w0.heap.size w0 w'
set_option maxRecDepth 100000 in
set_option maxHeartbeats 4000000 in
theorem f21_ok (fuel : Nat) (F : Lx) (w0 : World) (hF : ∀ k, some k ∈ F → k < w0.heap.size) {p0_0 : TDec} {r : (List UInt8)} (hm : m21 fuel p0_0 = some r) :
    Calls Tryd.prog 21 #[.agg #[.int .i64 p0_0.N, .int .u8 p0_0.D]] w0 (fun e w' => ∃ v, e = .returned v ∧ Q21 F w0 r v w') := by
  have hPF : PF (bodyPost Tryd.prog Tryd.f21 (fun e w' => ∃ v, e = .returned v ∧ Q21 F w0 r v w')) := PF.body (fun c w h => by obtain ⟨v, e, _⟩ := h; cases e)
  have hL := LOk.start hF
  have hB := Below.refl w0.heap.size w0
  unfold m21 at hm
  refine enter (l := [.agg #[.int .i64 p0_0.N, .int .u8 p0_0.D], undef, undef, undef, undef, undef, undef, undef, undef, undef, undef, undef, undef, undef, undef, undef, undef, undef, undef, undef, undef, undef, undef, undef, undef, undef, undef, undef, undef, undef, undef, undef, undef, undef, undef, undef, undef, undef, undef, undef, undef, undef, undef, undef, undef, undef, undef]) Tryd.func21 rfl Tryd.ntmps21 (by kernel_rfl) ?_
  refine cw_seq ?_
  refine cw_region ?_
  refine wl_op (by kernel_rfl) (ow_box' (v := .agg #[.int .i64 p0_0.N, .int .u8 p0_0.D]) (vs := [.int .i64 p0_0.N, .int .u8 p0_0.D]) (by kernel_rfl) rfl hL ?_)
  intro g_1 w_1 hS h_1
  replace hB := hS.below hL hB
  replace hL := hS.hL
  refine wl_val (v := .string ⟨⟨([] : List UInt8)⟩⟩) (w' := w_1) (by kernel_rfl) (run_assign (v := .string ⟨⟨([] : List UInt8)⟩⟩) (by kernel_rfl)) ?_
  refine wl_nil ?_
  refine then_n ?_
  refine cw_seq ?_
  refine cw_seq ?_
  refine cw_region ?_
  refine wl_val (v := .agg #[.int .i64 p0_0.N, .int .u8 p0_0.D]) (w' := w_1) (by kernel_rfl) (run_load_boxn (j := 0) (vs := [.int .i64 p0_0.N, .int .u8 p0_0.D]) Tryd.underlying23 rfl sz_23 (by kernel_rfl) h_1 (by kernel_rfl) rfl) ?_
  obtain ⟨r_1, h_2, hm⟩ := bind_e hm
  refine wl_op (by kernel_rfl) (ow_enter (run_callf (vs := [.agg #[.int .i64 p0_0.N, .int .u8 p0_0.D]]) Tryd.func14 nm_14 (by kernel_rfl) (by kernel_rfl)) (f14_ok (p0_0 := p0_0) fuel _ w_1 hL.lt  h_2) ?_)
  intro vR w_2 hR
  obtain ⟨rfl, hBe⟩ := hR
  have hS := Stp.call hL (Fz.of_below hBe [])
  replace h_1 := hS.box h_1 nilN
  replace hB := hS.below hL hB
  replace hL := hS.hL
  refine wl_val (v := .bool (!r_1)) (w' := w_2) (by kernel_rfl) (run_not (b := r_1) (by kernel_rfl)) ?_
  refine wl_nil ?_
  refine then_n ?_
  refine cw_cond (t := (!r_1)) (by kernel_rfl) (fun hc => ?_) (fun hc => ?_)
  · have hc_1 : r_1 = false := by simpa using hc
    have hm := ite_f hm hc_1
    refine cw_seq ?_
    refine cw_region ?_
    refine wl_val (v := .string ⟨⟨([] : List UInt8)⟩⟩) (w' := w_2) (by kernel_rfl) (run_assign (v := .string ⟨⟨([] : List UInt8)⟩⟩) (by kernel_rfl)) ?_
    refine wl_nil ?_
    refine then_n ?_
    refine cw_ret ?_
    refine then_ret ?_
    have hS : Stp w0.heap.size _ [] F [] w_2 _ := Stp.pick hL [] rfl (by decide)
    replace hB := hS.below hL hB
    replace hL := hS.hL
    obtain rfl := Option.some.inj hm
    exact ret1 (v := .string ⟨⟨([] : List UInt8)⟩⟩) rfl (resv_tmp (by kernel_rfl)) ⟨_, rfl, by kernel_rfl, hB⟩
  · have hc_1 : r_1 = true := by simpa using hc
    have hm := ite_t hm hc_1
    refine cw_skip ?_
    refine then_n ?_
    refine cw_seq ?_
    refine cw_region ?_
    refine wl_val (v := .pointer (some ⟨g_1, 0, none⟩)) (w' := w_2) (by kernel_rfl) (run_fieldAddr (b := g_1) (o := 0) fo_23_0 (by kernel_rfl)) ?_
    refine wl_val (v := .int .i64 p0_0.N) (w' := w_2) (by kernel_rfl) (run_load_box1 (j := 0) Tryd.underlying2 rfl (by kernel_rfl) h_1 (by kernel_rfl)) ?_
    refine wl_val (v := .int .i64 p0_0.N) (w' := w_2) (by kernel_rfl) (run_assign (v := .int .i64 p0_0.N) (by kernel_rfl)) ?_
    refine wl_val (v := .string ⟨⟨([] : List UInt8)⟩⟩) (w' := w_2) (by kernel_rfl) (run_assign (v := .string ⟨⟨([] : List UInt8)⟩⟩) (by kernel_rfl)) ?_
    refine wl_nil ?_
    refine then_n ?_
    refine cw_cut (fun l' w' => ∃ n_1 sign_1, ∃ u_1 : Nat → Value, l' = [.agg #[.int .i64 p0_0.N, .int .u8 p0_0.D], .pointer (some ⟨g_1, 0, none⟩), .string ⟨⟨([] : List UInt8)⟩⟩, .int .i64 n_1, .string ⟨⟨sign_1⟩⟩, undef, undef, undef, .agg #[.int .i64 p0_0.N, .int .u8 p0_0.D], .bool r_1, .bool (!r_1), .pointer (some ⟨g_1, 0, none⟩), .int .i64 p0_0.N, (u_1 0), (u_1 1), (u_1 2), (u_1 3), undef, undef, undef, undef, undef, undef, undef, undef, undef, undef, undef, undef, undef, undef, undef, undef, undef, undef, undef, undef, undef, undef, undef, undef, undef, undef, undef, undef, undef, undef] ∧ LOk w0.heap.size [some g_1] F w' ∧ Below w0.heap.size w0 w' ∧ Bx w' g_1 [.int .i64 p0_0.N, .int .u8 p0_0.D] 23 ∧ m21_J1 fuel p0_0 n_1 sign_1 = some r) ?_ ?_
    · refine cw_seq ?_
      refine cw_region ?_
      refine wl_val (v := .int .i64 p0_0.N) (w' := w_2) (by kernel_rfl) (run_move (v := .int .i64 p0_0.N) (by kernel_rfl)) ?_
      refine wl_val (v := .bool (lt p0_0.N 0)) (w' := w_2) (by kernel_rfl) (run_lt (k := .i64) (a := p0_0.N) (b := 0) (by kernel_rfl) (by kernel_rfl)) ?_
      refine wl_nil ?_
      refine then_n ?_
      refine cw_cond (t := (lt p0_0.N 0)) (by kernel_rfl) (fun hc_4 => ?_) (fun hc_4 => ?_)
      · have hm := ite_t hm hc_4
        refine cw_region ?_
        refine wl_val (v := .int .i64 p0_0.N) (w' := w_2) (by kernel_rfl) (run_move (v := .int .i64 p0_0.N) (by kernel_rfl)) ?_
        refine wl_val (v := .int .i64 (neg .i64 p0_0.N)) (w' := w_2) (by kernel_rfl) (run_neg (k := .i64) (a := p0_0.N) (by kernel_rfl)) ?_
        refine wl_val (v := .int .i64 (neg .i64 p0_0.N)) (w' := w_2) (by kernel_rfl) (run_assign (v := .int .i64 (neg .i64 p0_0.N)) (by kernel_rfl)) ?_
        refine wl_val (v := .string ⟨⟨([45] : List UInt8)⟩⟩) (w' := w_2) (by kernel_rfl) (run_assign (v := .string ⟨⟨([45] : List UInt8)⟩⟩) (by kernel_rfl)) ?_
        refine wl_nil ?_
        exact then_c ⟨(neg .i64 p0_0.N), ([45] : List UInt8), (fun i => ([.int .i64 p0_0.N, .bool (lt p0_0.N 0), .int .i64 p0_0.N, .int .i64 (neg .i64 p0_0.N)] : List Value).getD i undef), by kernel_rfl, hL, hB, h_1, hm⟩
      · have hm := ite_f hm hc_4
        refine cw_skip ?_
        exact then_c ⟨p0_0.N, ([] : List UInt8), (fun i => ([.int .i64 p0_0.N, .bool (lt p0_0.N 0), undef, undef] : List Value).getD i undef), by kernel_rfl, hL, hB, h_1, hm⟩
    · intro l1 w_3 hI
      obtain ⟨n_1, sign_1, u_1, rfl, hL, hB, h_1, hm⟩ := hI
      unfold m21_J1 at hm
      refine cw_seq ?_
      refine cw_region ?_
      refine wl_val (v := .pointer (some ⟨g_1, 1, none⟩)) (w' := w_3) (by kernel_rfl) (run_fieldAddr (b := g_1) (o := 0) fo_23_1 (by kernel_rfl)) ?_
      refine wl_val (v := .int .u8 p0_0.D) (w' := w_3) (by kernel_rfl) (run_load_box1 (j := 1) Tryd.underlying5 rfl (by kernel_rfl) h_1 (by kernel_rfl)) ?_
      refine wl_val (v := .int .i64 (cvt .i64 p0_0.D)) (w' := w_3) (by kernel_rfl) (run_cvt (k := .u8) (a := p0_0.D) Tryd.underlying5 Tryd.underlying3 (by kernel_rfl)) ?_
      obtain ⟨r_2, h_3, hm⟩ := bind_e hm
      refine wl_op (by kernel_rfl) (ow_enter (run_callf (vs := [.int .i64 (cvt .i64 p0_0.D)]) Tryd.func37 nm_37 (by kernel_rfl) (by kernel_rfl)) (f37_ok (p0_0 := (cvt .i64 p0_0.D)) fuel _ w_3 hL.lt  h_3) ?_)
      intro vR w_4 hR
      obtain ⟨rfl, hBe⟩ := hR
      have hS := Stp.call hL (Fz.of_below hBe [])
      replace h_1 := hS.box h_1 nilN
      replace hB := hS.below hL hB
      replace hL := hS.hL
      refine wl_val (v := .int .i64 r_2) (w' := w_4) (by kernel_rfl) (run_assign (v := .int .i64 r_2) (by kernel_rfl)) ?_
      refine wl_nil ?_
      refine then_n ?_
      refine cw_seq ?_
      refine cw_region ?_
      refine wl_val (v := .string ⟨⟨sign_1⟩⟩) (w' := w_4) (by kernel_rfl) (run_move (v := .string ⟨⟨sign_1⟩⟩) (by kernel_rfl)) ?_
      refine wl_val (v := .int .i64 n_1) (w' := w_4) (by kernel_rfl) (run_move (v := .int .i64 n_1) (by kernel_rfl)) ?_
      refine wl_val (v := .int .i64 r_2) (w' := w_4) (by kernel_rfl) (run_move (v := .int .i64 r_2) (by kernel_rfl)) ?_
      obtain ⟨h_4, hm⟩ := need_e hm
      refine wl_val (v := .int .i64 (quo .i64 n_1 r_2)) (w' := w_4) (by kernel_rfl) (run_quo (k := .i64) (a := n_1) (b := r_2) (by kernel_rfl) (by kernel_rfl) (by simpa [nei] using h_4)) ?_
      obtain ⟨r_3, h_5, hm⟩ := bind_e hm
      refine wl_op (by kernel_rfl) (ow_enter (run_callf (vs := [.int .i64 (quo .i64 n_1 r_2), .int .i64 10]) Tryd.func45 nm_45 (by kernel_rfl) (by kernel_rfl)) (f45_ok (p0_0 := (quo .i64 n_1 r_2)) (p1_0 := 10) fuel _ w_4 hL.lt  h_5) ?_)
      intro vR w_5 hR
      obtain ⟨rfl, hBe⟩ := hR
      have hS := Stp.call hL (Fz.of_below hBe [])
      replace h_1 := hS.box h_1 nilN
      replace hB := hS.below hL hB
      replace hL := hS.hL
      obtain ⟨h_6, hm⟩ := need_e hm
      refine wl_val (v := .string ⟨⟨(sign_1 ++ r_3)⟩⟩) (w' := w_5) (by kernel_rfl) (run_concat (a := sign_1) (b := r_3) (by kernel_rfl) (by kernel_rfl) h_6) ?_
      refine wl_val (v := .string ⟨⟨(sign_1 ++ r_3)⟩⟩) (w' := w_5) (by kernel_rfl) (run_assign (v := .string ⟨⟨(sign_1 ++ r_3)⟩⟩) (by kernel_rfl)) ?_
      refine wl_nil ?_
      refine then_n ?_
      refine cw_seq ?_
      refine cw_seq ?_
      refine cw_region ?_
      refine wl_val (v := .pointer (some ⟨g_1, 1, none⟩)) (w' := w_5) (by kernel_rfl) (run_fieldAddr (b := g_1) (o := 0) fo_23_1 (by kernel_rfl)) ?_
      refine wl_val (v := .int .u8 p0_0.D) (w' := w_5) (by kernel_rfl) (run_load_box1 (j := 1) Tryd.underlying5 rfl (by kernel_rfl) h_1 (by kernel_rfl)) ?_
      refine wl_val (v := .bool (eqi p0_0.D 0)) (w' := w_5) (by kernel_rfl) (run_eqi (k := .u8) (a := p0_0.D) (b := 0) (by kernel_rfl) (by kernel_rfl)) ?_
      refine wl_nil ?_
      refine then_n ?_
      refine cw_norm [.agg #[.int .i64 p0_0.N, .int .u8 p0_0.D], .pointer (some ⟨g_1, 0, none⟩), .string ⟨⟨([] : List UInt8)⟩⟩, .int .i64 n_1, .string ⟨⟨sign_1⟩⟩, .int .i64 r_2, .string ⟨⟨(sign_1 ++ r_3)⟩⟩, undef, .agg #[.int .i64 p0_0.N, .int .u8 p0_0.D], .bool r_1, .bool (!r_1), .pointer (some ⟨g_1, 0, none⟩), .int .i64 p0_0.N, (u_1 0), (u_1 1), (u_1 2), (u_1 3), .pointer (some ⟨g_1, 1, none⟩), .int .u8 p0_0.D, .int .i64 (cvt .i64 p0_0.D), .int .i64 r_2, .string ⟨⟨sign_1⟩⟩, .int .i64 n_1, .int .i64 r_2, .int .i64 (quo .i64 n_1 r_2), .string ⟨⟨r_3⟩⟩, .string ⟨⟨(sign_1 ++ r_3)⟩⟩, .pointer (some ⟨g_1, 1, none⟩), .int .u8 p0_0.D, .bool (eqi p0_0.D 0), undef, undef, undef, undef, undef, undef, undef, undef, undef, undef, undef, undef, undef, undef, undef, undef, undef] (by kernel_rfl) ?_
      refine cw_cond (t := (eqi p0_0.D 0)) (by kernel_rfl) (fun hc_3 => ?_) (fun hc_3 => ?_)
      · have hm := ite_t hm hc_3
        refine cw_seq ?_
        refine cw_region ?_
        refine wl_val (v := .string ⟨⟨(sign_1 ++ r_3)⟩⟩) (w' := w_5) (by kernel_rfl) (run_move (v := .string ⟨⟨(sign_1 ++ r_3)⟩⟩) (by kernel_rfl)) ?_
        refine wl_val (v := .string ⟨⟨(sign_1 ++ r_3)⟩⟩) (w' := w_5) (by kernel_rfl) (run_assign (v := .string ⟨⟨(sign_1 ++ r_3)⟩⟩) (by kernel_rfl)) ?_
        refine wl_nil ?_
        refine then_n ?_
        refine cw_ret ?_
        refine then_ret ?_
        have hS : Stp w0.heap.size _ [] F [] w_5 _ := Stp.pick hL [] rfl (by decide)
        replace hB := hS.below hL hB
        replace hL := hS.hL
        obtain rfl := Option.some.inj hm
        exact ret1 (v := .string ⟨⟨(sign_1 ++ r_3)⟩⟩) rfl (resv_tmp (by kernel_rfl)) ⟨_, rfl, by kernel_rfl, hB⟩
      · have hm := ite_f hm hc_3
        refine cw_skip ?_
        refine then_n ?_
        refine cw_seq ?_
        refine cw_region ?_
        refine wl_val (v := .int .i64 n_1) (w' := w_5) (by kernel_rfl) (run_move (v := .int .i64 n_1) (by kernel_rfl)) ?_
        refine wl_val (v := .int .i64 r_2) (w' := w_5) (by kernel_rfl) (run_move (v := .int .i64 r_2) (by kernel_rfl)) ?_
        obtain ⟨h_8, hm⟩ := need_e hm
        refine wl_val (v := .int .i64 (rem n_1 r_2)) (w' := w_5) (by kernel_rfl) (run_rem (k := .i64) (a := n_1) (b := r_2) (by kernel_rfl) (by kernel_rfl) (by simpa [nei] using h_8)) ?_
        obtain ⟨r_4, h_9, hm⟩ := bind_e hm
        refine wl_op (by kernel_rfl) (ow_enter (run_callf (vs := [.int .i64 (rem n_1 r_2), .int .i64 10]) Tryd.func45 nm_45 (by kernel_rfl) (by kernel_rfl)) (f45_ok (p0_0 := (rem n_1 r_2)) (p1_0 := 10) fuel _ w_5 hL.lt  h_9) ?_)
        intro vR w_6 hR
        obtain ⟨rfl, hBe⟩ := hR
        have hS := Stp.call hL (Fz.of_below hBe [])
        replace h_1 := hS.box h_1 nilN
        replace hB := hS.below hL hB
        replace hL := hS.hL
        refine wl_val (v := .string ⟨⟨r_4⟩⟩) (w' := w_6) (by kernel_rfl) (run_assign (v := .string ⟨⟨r_4⟩⟩) (by kernel_rfl)) ?_
        refine wl_nil ?_
        refine then_n ?_
        refine cw_seq ?_
        refine cw_region ?_
        refine wl_val (v := .string ⟨⟨(sign_1 ++ r_3)⟩⟩) (w' := w_6) (by kernel_rfl) (run_move (v := .string ⟨⟨(sign_1 ++ r_3)⟩⟩) (by kernel_rfl)) ?_
        obtain ⟨h_10, hm⟩ := need_e hm
        refine wl_val (v := .string ⟨⟨((sign_1 ++ r_3) ++ ([46] : List UInt8))⟩⟩) (w' := w_6) (by kernel_rfl) (run_concat (a := (sign_1 ++ r_3)) (b := ([46] : List UInt8)) (by kernel_rfl) (by kernel_rfl) h_10) ?_
        refine wl_val (v := .pointer (some ⟨g_1, 1, none⟩)) (w' := w_6) (by kernel_rfl) (run_fieldAddr (b := g_1) (o := 0) fo_23_1 (by kernel_rfl)) ?_
        refine wl_val (v := .int .u8 p0_0.D) (w' := w_6) (by kernel_rfl) (run_load_box1 (j := 1) Tryd.underlying5 rfl (by kernel_rfl) h_1 (by kernel_rfl)) ?_
        refine wl_val (v := .int .i64 (cvt .i64 p0_0.D)) (w' := w_6) (by kernel_rfl) (run_cvt (k := .u8) (a := p0_0.D) Tryd.underlying5 Tryd.underlying3 (by kernel_rfl)) ?_
        refine wl_val (v := .string ⟨⟨r_4⟩⟩) (w' := w_6) (by kernel_rfl) (run_move (v := .string ⟨⟨r_4⟩⟩) (by kernel_rfl)) ?_
        refine wl_val (v := .int .i64 (r_4.length : Int)) (w' := w_6) (by kernel_rfl) (run_len_str (s := r_4) Tryd.underlying9 (by kernel_rfl)) ?_
        refine wl_val (v := .int .i64 (sub .i64 (cvt .i64 p0_0.D) (r_4.length : Int))) (w' := w_6) (by kernel_rfl) (run_sub (k := .i64) (a := (cvt .i64 p0_0.D)) (b := (r_4.length : Int)) (by kernel_rfl) (by kernel_rfl)) ?_
        obtain ⟨r_5, h_12, hm⟩ := bind_e hm
        refine wl_op (by kernel_rfl) (ow_enter (run_callf (vs := [.string ⟨⟨([48] : List UInt8)⟩⟩, .int .i64 (sub .i64 (cvt .i64 p0_0.D) (r_4.length : Int))]) Tryd.func29 nm_29 (by kernel_rfl) (by kernel_rfl)) (f29_ok (p0_0 := ([48] : List UInt8)) (p1_0 := (sub .i64 (cvt .i64 p0_0.D) (r_4.length : Int))) fuel _ w_6 hL.lt  h_12) ?_)
        intro vR w_7 hR
        obtain ⟨rfl, hBe⟩ := hR
        have hS := Stp.call hL (Fz.of_below hBe [])
        replace h_1 := hS.box h_1 nilN
        replace hB := hS.below hL hB
        replace hL := hS.hL
        obtain ⟨h_13, hm⟩ := need_e hm
        refine wl_val (v := .string ⟨⟨(((sign_1 ++ r_3) ++ ([46] : List UInt8)) ++ r_5)⟩⟩) (w' := w_7) (by kernel_rfl) (run_concat (a := ((sign_1 ++ r_3) ++ ([46] : List UInt8))) (b := r_5) (by kernel_rfl) (by kernel_rfl) h_13) ?_
        refine wl_val (v := .string ⟨⟨r_4⟩⟩) (w' := w_7) (by kernel_rfl) (run_move (v := .string ⟨⟨r_4⟩⟩) (by kernel_rfl)) ?_
        refine wl_norm [.agg #[.int .i64 p0_0.N, .int .u8 p0_0.D], .pointer (some ⟨g_1, 0, none⟩), .string ⟨⟨([] : List UInt8)⟩⟩, .int .i64 n_1, .string ⟨⟨sign_1⟩⟩, .int .i64 r_2, .string ⟨⟨(sign_1 ++ r_3)⟩⟩, .string ⟨⟨r_4⟩⟩, .agg #[.int .i64 p0_0.N, .int .u8 p0_0.D], .bool r_1, .bool (!r_1), .pointer (some ⟨g_1, 0, none⟩), .int .i64 p0_0.N, (u_1 0), (u_1 1), (u_1 2), (u_1 3), .pointer (some ⟨g_1, 1, none⟩), .int .u8 p0_0.D, .int .i64 (cvt .i64 p0_0.D), .int .i64 r_2, .string ⟨⟨sign_1⟩⟩, .int .i64 n_1, .int .i64 r_2, .int .i64 (quo .i64 n_1 r_2), .string ⟨⟨r_3⟩⟩, .string ⟨⟨(sign_1 ++ r_3)⟩⟩, .pointer (some ⟨g_1, 1, none⟩), .int .u8 p0_0.D, .bool (eqi p0_0.D 0), undef, .int .i64 n_1, .int .i64 r_2, .int .i64 (rem n_1 r_2), .string ⟨⟨r_4⟩⟩, .string ⟨⟨(sign_1 ++ r_3)⟩⟩, .string ⟨⟨((sign_1 ++ r_3) ++ ([46] : List UInt8))⟩⟩, .pointer (some ⟨g_1, 1, none⟩), .int .u8 p0_0.D, .int .i64 (cvt .i64 p0_0.D), .string ⟨⟨r_4⟩⟩, .int .i64 (r_4.length : Int), .int .i64 (sub .i64 (cvt .i64 p0_0.D) (r_4.length : Int)), .string ⟨⟨r_5⟩⟩, .string ⟨⟨(((sign_1 ++ r_3) ++ ([46] : List UInt8)) ++ r_5)⟩⟩, .string ⟨⟨r_4⟩⟩, undef] (by kernel_rfl) ?_
        obtain ⟨h_15, hm⟩ := need_e hm
        refine wl_val (v := .string ⟨⟨((((sign_1 ++ r_3) ++ ([46] : List UInt8)) ++ r_5) ++ r_4)⟩⟩) (w' := w_7) (by kernel_rfl) (run_concat (a := (((sign_1 ++ r_3) ++ ([46] : List UInt8)) ++ r_5)) (b := r_4) (by kernel_rfl) (by kernel_rfl) h_15) ?_
        refine wl_val (v := .string ⟨⟨((((sign_1 ++ r_3) ++ ([46] : List UInt8)) ++ r_5) ++ r_4)⟩⟩) (w' := w_7) (by kernel_rfl) (run_assign (v := .string ⟨⟨((((sign_1 ++ r_3) ++ ([46] : List UInt8)) ++ r_5) ++ r_4)⟩⟩) (by kernel_rfl)) ?_
        refine wl_nil ?_
        refine then_n ?_
        refine cw_ret ?_
        have hS : Stp w0.heap.size _ [] F [] w_7 _ := Stp.pick hL [] rfl (by decide)
        replace hB := hS.below hL hB
        replace hL := hS.hL
        obtain rfl := Option.some.inj hm
        exact ret1 (v := .string ⟨⟨((((sign_1 ++ r_3) ++ ([46] : List UInt8)) ++ r_5) ++ r_4)⟩⟩) rfl (resv_tmp (by kernel_rfl)) ⟨_, rfl, by kernel_rfl, hB⟩
end SxYtihfogahdofdmaaDoor

/- Written by program (gen.py): the model of saucier/saucierlaw12.said, and the proof that its code computes it. -/
namespace SxYtihfogahdofdmaaDoor
open Go Go.RowKit Sx Go.Proofs
set_option linter.unusedVariables false
set_option linter.unusedSimpArgs false
attribute [local irreducible] WL WX CW OW
/-! ### 34: "saucier/saucierlaw12.said" -/
def m34 (fuel : Nat) (p0_0 : (List UInt8)) : Option TDec :=
  (m18 fuel p0_0).bind fun r_1 => some r_1.1
@[reducible] def Q34 (F : Lx) (w0 : World) (r : TDec) (v : Value) (w' : World) : Prop := v = .agg #[.int .i64 r.N, .int .u8 r.D] ∧ Below w0.heap.size w0 w'
set_option maxRecDepth 100000 in
set_option maxHeartbeats 4000000 in
theorem f34_ok (fuel : Nat) (F : Lx) (w0 : World) (hF : ∀ k, some k ∈ F → k < w0.heap.size) {p0_0 : (List UInt8)} {r : TDec} (hm : m34 fuel p0_0 = some r) :
    Calls Tryd.prog 34 #[.string ⟨⟨p0_0⟩⟩] w0 (fun e w' => ∃ v, e = .returned v ∧ Q34 F w0 r v w') := by
  have hPF : PF (bodyPost Tryd.prog Tryd.f34 (fun e w' => ∃ v, e = .returned v ∧ Q34 F w0 r v w')) := PF.body (fun c w h => by obtain ⟨v, e, _⟩ := h; cases e)
  have hL := LOk.start hF
  have hB := Below.refl w0.heap.size w0
  unfold m34 at hm
  refine enter (l := [.string ⟨⟨p0_0⟩⟩, undef, undef, undef, undef, undef, undef, undef, undef, undef, undef]) Tryd.func34 rfl Tryd.ntmps34 (by kernel_rfl) ?_
  refine cw_seq ?_
  refine cw_region ?_
  refine wl_op (by kernel_rfl) (ow_alloc' (z := .agg #[.int .i64 0, .int .u8 0]) (vs := [.int .i64 0, .int .u8 0]) (by kernel_rfl) rfl hL ?_)
  intro g_1 w_1 hS h_1
  replace hB := hS.below hL hB
  replace hL := hS.hL
  refine wl_nil ?_
  refine then_n ?_
  refine cw_seq ?_
  refine cw_region ?_
  refine wl_val (v := .string ⟨⟨p0_0⟩⟩) (w' := w_1) (by kernel_rfl) (run_move (v := .string ⟨⟨p0_0⟩⟩) (by kernel_rfl)) ?_
  obtain ⟨r_1, h_2, hm⟩ := bind_e hm
  refine wl_op (by kernel_rfl) (ow_enter (run_callf (vs := [.string ⟨⟨p0_0⟩⟩]) Tryd.func18 nm_18 (by kernel_rfl) (by kernel_rfl)) (f18_ok (p0_0 := p0_0) fuel _ w_1 hL.lt  h_2) ?_)
  intro vR w_2 hR
  obtain ⟨rfl, hBe⟩ := hR
  have hS := Stp.call hL (Fz.of_below hBe [])
  replace h_1 := hS.box h_1 nilN
  replace hB := hS.below hL hB
  replace hL := hS.hL
  refine wl_val (v := .tuple #[.agg #[.int .i64 r_1.1.N, .int .u8 r_1.1.D], .bool r_1.2]) (w' := w_2) (by kernel_rfl) (run_move (v := .tuple #[.agg #[.int .i64 r_1.1.N, .int .u8 r_1.1.D], .bool r_1.2]) (by kernel_rfl)) ?_
  refine wl_val (v := .agg #[.int .i64 r_1.1.N, .int .u8 r_1.1.D]) (w' := w_2) (by kernel_rfl) (run_extract (vs := #[.agg #[.int .i64 r_1.1.N, .int .u8 r_1.1.D], .bool r_1.2]) (by kernel_rfl) (by kernel_rfl)) ?_
  refine wl_val (v := .bool r_1.2) (w' := w_2) (by kernel_rfl) (run_extract (vs := #[.agg #[.int .i64 r_1.1.N, .int .u8 r_1.1.D], .bool r_1.2]) (by kernel_rfl) (by kernel_rfl)) ?_
  refine wl_op (by kernel_rfl) (ow_alloc' (z := .agg #[.int .i64 0, .int .u8 0]) (vs := [.int .i64 0, .int .u8 0]) (by kernel_rfl) rfl hL ?_)
  intro g_2 w_3 hS h_3
  replace h_1 := hS.box h_1 nilN
  replace hB := hS.below hL hB
  replace hL := hS.hL
  refine wl_op (by kernel_rfl) (ow_store_box' (g := g_2) (j := 0) (v := .agg #[.int .i64 r_1.1.N, .int .u8 r_1.1.D]) (vs := [.int .i64 r_1.1.N, .int .u8 r_1.1.D]) (cs' := [.int .i64 r_1.1.N, .int .u8 r_1.1.D]) sz_23 (by kernel_rfl) (by kernel_rfl) rfl rfl rfl hL h_3 rfl (by simp) rfl ?_)
  intro w_4 hS h_4
  replace h_1 := hS.box h_1 (hL.apart 1 0 rfl rfl (by decide) _ rfl)
  replace hB := hS.below hL hB
  replace hL := hS.hL
  refine wl_val (v := .bool r_1.2) (w' := w_4) (by kernel_rfl) (run_assign (v := .bool r_1.2) (by kernel_rfl)) ?_
  refine wl_nil ?_
  refine then_n ?_
  refine cw_seq ?_
  refine cw_region ?_
  refine wl_val (v := .agg #[.int .i64 r_1.1.N, .int .u8 r_1.1.D]) (w' := w_4) (by kernel_rfl) (run_load_boxn (j := 0) (vs := [.int .i64 r_1.1.N, .int .u8 r_1.1.D]) Tryd.underlying23 rfl sz_23 (by kernel_rfl) h_4 (by kernel_rfl) rfl) ?_
  refine wl_op (by kernel_rfl) (ow_store_box' (g := g_1) (j := 0) (v := .agg #[.int .i64 r_1.1.N, .int .u8 r_1.1.D]) (vs := [.int .i64 r_1.1.N, .int .u8 r_1.1.D]) (cs' := [.int .i64 r_1.1.N, .int .u8 r_1.1.D]) sz_23 (by kernel_rfl) (by kernel_rfl) rfl rfl rfl hL h_1 rfl (by simp) rfl ?_)
  intro w_5 hS h_5
  replace h_4 := hS.box h_4 (hL.apart 0 1 rfl rfl (by decide) _ rfl)
  replace hB := hS.below hL hB
  replace hL := hS.hL
  refine wl_nil ?_
  refine then_n ?_
  refine cw_ret ?_
  have hl0 := loadVar_boxn (P := Tryd.prog) (j := 0) (vs := [.int .i64 r_1.1.N, .int .u8 r_1.1.D]) Tryd.underlying23 rfl sz_23 h_5 (by kernel_rfl) rfl
  have hS : Stp w0.heap.size _ [] F [] w_5 _ := Stp.pick hL [] rfl (by decide)
  replace hB := hS.below hL hB
  replace hL := hS.hL
  obtain rfl := Option.some.inj hm
  exact ret1 (v := .agg #[.int .i64 r_1.1.N, .int .u8 r_1.1.D]) rfl (resv_cell (ad := ⟨g_1, 0, none⟩) (by kernel_rfl) hl0) ⟨_, rfl, by kernel_rfl, hB⟩
end SxYtihfogahdofdmaaDoor

/- Written by program (gen.py): the model of saucier/saucierlaw12.none, and the proof that its code computes it. -/
namespace SxYtihfogahdofdmaaDoor
open Go Go.RowKit Sx Go.Proofs
set_option linter.unusedVariables false
set_option linter.unusedSimpArgs false
attribute [local irreducible] WL WX CW OW
/-! ### 35: "saucier/saucierlaw12.none" -/
def m35 (fuel : Nat) (p0_0 : (List UInt8)) : Option Bool :=
  (m18 fuel p0_0).bind fun r_1 => some (!r_1.2)
@[reducible] def Q35 (F : Lx) (w0 : World) (r : Bool) (v : Value) (w' : World) : Prop := v = .bool r ∧ Below w0.heap.size w0 w'
set_option maxRecDepth 100000 in
set_option maxHeartbeats 4000000 in
theorem f35_ok (fuel : Nat) (F : Lx) (w0 : World) (hF : ∀ k, some k ∈ F → k < w0.heap.size) {p0_0 : (List UInt8)} {r : Bool} (hm : m35 fuel p0_0 = some r) :
    Calls Tryd.prog 35 #[.string ⟨⟨p0_0⟩⟩] w0 (fun e w' => ∃ v, e = .returned v ∧ Q35 F w0 r v w') := by
  have hPF : PF (bodyPost Tryd.prog Tryd.f35 (fun e w' => ∃ v, e = .returned v ∧ Q35 F w0 r v w')) := PF.body (fun c w h => by obtain ⟨v, e, _⟩ := h; cases e)
  have hL := LOk.start hF
  have hB := Below.refl w0.heap.size w0
  unfold m35 at hm
  refine enter (l := [.string ⟨⟨p0_0⟩⟩, undef, undef, undef, undef, undef, undef, undef, undef, undef, undef, undef]) Tryd.func35 rfl Tryd.ntmps35 (by kernel_rfl) ?_
  refine cw_seq ?_
  refine cw_region ?_
  refine wl_val (v := .bool false) (w' := w0) (by kernel_rfl) (run_assign (v := .bool false) (by kernel_rfl)) ?_
  refine wl_nil ?_
  refine then_n ?_
  refine cw_seq ?_
  refine cw_region ?_
  refine wl_val (v := .string ⟨⟨p0_0⟩⟩) (w' := w0) (by kernel_rfl) (run_move (v := .string ⟨⟨p0_0⟩⟩) (by kernel_rfl)) ?_
  obtain ⟨r_1, h_1, hm⟩ := bind_e hm
  refine wl_op (by kernel_rfl) (ow_enter (run_callf (vs := [.string ⟨⟨p0_0⟩⟩]) Tryd.func18 nm_18 (by kernel_rfl) (by kernel_rfl)) (f18_ok (p0_0 := p0_0) fuel _ w0 hL.lt  h_1) ?_)
  intro vR w_1 hR
  obtain ⟨rfl, hBe⟩ := hR
  have hS := Stp.call hL (Fz.of_below hBe [])
  replace hB := hS.below hL hB
  replace hL := hS.hL
  refine wl_val (v := .tuple #[.agg #[.int .i64 r_1.1.N, .int .u8 r_1.1.D], .bool r_1.2]) (w' := w_1) (by kernel_rfl) (run_move (v := .tuple #[.agg #[.int .i64 r_1.1.N, .int .u8 r_1.1.D], .bool r_1.2]) (by kernel_rfl)) ?_
  refine wl_val (v := .agg #[.int .i64 r_1.1.N, .int .u8 r_1.1.D]) (w' := w_1) (by kernel_rfl) (run_extract (vs := #[.agg #[.int .i64 r_1.1.N, .int .u8 r_1.1.D], .bool r_1.2]) (by kernel_rfl) (by kernel_rfl)) ?_
  refine wl_val (v := .bool r_1.2) (w' := w_1) (by kernel_rfl) (run_extract (vs := #[.agg #[.int .i64 r_1.1.N, .int .u8 r_1.1.D], .bool r_1.2]) (by kernel_rfl) (by kernel_rfl)) ?_
  refine wl_op (by kernel_rfl) (ow_alloc' (z := .agg #[.int .i64 0, .int .u8 0]) (vs := [.int .i64 0, .int .u8 0]) (by kernel_rfl) rfl hL ?_)
  intro g_1 w_2 hS h_2
  replace hB := hS.below hL hB
  replace hL := hS.hL
  refine wl_op (by kernel_rfl) (ow_store_box' (g := g_1) (j := 0) (v := .agg #[.int .i64 r_1.1.N, .int .u8 r_1.1.D]) (vs := [.int .i64 r_1.1.N, .int .u8 r_1.1.D]) (cs' := [.int .i64 r_1.1.N, .int .u8 r_1.1.D]) sz_23 (by kernel_rfl) (by kernel_rfl) rfl rfl rfl hL h_2 rfl (by simp) rfl ?_)
  intro w_3 hS h_3
  replace hB := hS.below hL hB
  replace hL := hS.hL
  refine wl_val (v := .bool r_1.2) (w' := w_3) (by kernel_rfl) (run_assign (v := .bool r_1.2) (by kernel_rfl)) ?_
  refine wl_nil ?_
  refine then_n ?_
  refine cw_seq ?_
  refine cw_region ?_
  refine wl_val (v := .bool r_1.2) (w' := w_3) (by kernel_rfl) (run_move (v := .bool r_1.2) (by kernel_rfl)) ?_
  refine wl_val (v := .bool (!r_1.2)) (w' := w_3) (by kernel_rfl) (run_not (b := r_1.2) (by kernel_rfl)) ?_
  refine wl_val (v := .bool (!r_1.2)) (w' := w_3) (by kernel_rfl) (run_assign (v := .bool (!r_1.2)) (by kernel_rfl)) ?_
  refine wl_nil ?_
  refine then_n ?_
  refine cw_ret ?_
  have hS : Stp w0.heap.size _ [] F [] w_3 _ := Stp.pick hL [] rfl (by decide)
  replace hB := hS.below hL hB
  replace hL := hS.hL
  obtain rfl := Option.some.inj hm
  exact ret1 (v := .bool (!r_1.2)) rfl (resv_tmp (by kernel_rfl)) ⟨_, rfl, by kernel_rfl, hB⟩
end SxYtihfogahdofdmaaDoor
