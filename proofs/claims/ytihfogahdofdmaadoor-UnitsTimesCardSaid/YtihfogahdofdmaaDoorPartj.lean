/- Proved in the last of these 10 parts (this is part 10): UnitsTimes: for every argument the card's run of the law answers true. Conditions: those of the given statement, and no others. -/
import Derived.Test.YtihfogahdofdmaaDoorCards
import Derived.Test.YtihfogahdofdmaaDoorTie
import Derived.Test.YtihfogahdofdmaaDoorParta
import Derived.Test.YtihfogahdofdmaaDoorParti
import Derived.Lib.LaidTab
import Derived.SevenTiedAt
set_option linter.unusedVariables false
set_option linter.unusedSimpArgs false
set_option linter.unusedSectionVars false
section
/- UnitsTimes: the row and the card. -/
namespace Go.Proofs.YtihfogahdofdmaaDoor.times
open Go.ChangeShapes Go.WideShapes Go.ChangeAt Go.RowKit Sx SxYtihfogahdofdmaaDoor

theorem own : ownKnob Tryd.prog.godebug = none := by kernel_rfl
theorem lo : laidOutB Tryd.prog = true := by kernel_rfl
theorem readable : ∀ t ∈ Tryd.f4.params.toList, Tryd.prog.readableRec t = true ∧ t < Tryd.prog.types.size := by
  rw [Tryd.params4]
  intro t ht
  simp at ht
  rcases ht with rfl | rfl | rfl | rfl | rfl | rfl <;> exact ⟨by kernel_rfl, of_decide_eq_true (by kernel_rfl)⟩
set_option maxRecDepth 100000 in
theorem contract (H : Type) (enc : TypeId × Value → H) (W : World) (base : Nat) (args : Array Value) (ds gs : List (DataW H)) (before : List MemPlace)
    (hval : ∀ (j : Nat) t v, Tryd.f4.params[j]? = some t → args[j]? = some v → Value.okWide Tryd.prog W .any base t v)
    (hW : DataW.Whole enc Tryd.prog Tryd.f4.params.toList Rows.unitsTimesSpec.vars false W args.toList ds gs before) :
    Calls Tryd.prog 4 args W fun e W' => ∃ v, e = .returned v ∧ Rows.unitsTimesSpec.post enc Tryd.prog Tryd.f4 false true false false W args v W' := by
  have hW' := hW
  obtain ⟨p, q, hA0, hV, rfl, hfz, hnd⟩ := hW
  have hA : DataW.TrodAll enc Tryd.prog W 0 (fun _ => true) true Tryd.f4.params.toList args.toList ds p := hA0
  rw [Tryd.params4] at hA hval
  obtain ⟨v0, vs0, d0, ds0, p0, q0, hargs, rfl, rfl, h0, r0⟩ := trodAll_cons hA
  obtain ⟨v1, vs1, d1, ds1, p1, q1, rfl, rfl, rfl, h1, r1⟩ := trodAll_cons r0
  obtain ⟨v2, vs2, d2, ds2, p2, q2, rfl, rfl, rfl, h2, r2⟩ := trodAll_cons r1
  obtain ⟨v3, vs3, d3, ds3, p3, q3, rfl, rfl, rfl, h3, r3⟩ := trodAll_cons r2
  obtain ⟨v4, vs4, d4, ds4, p4, q4, rfl, rfl, rfl, h4, r4⟩ := trodAll_cons r3
  obtain ⟨v5, vs5, d5, ds5, p5, q5, rfl, rfl, rfl, h5, r5⟩ := trodAll_cons r4
  obtain ⟨rfl, rfl, rfl⟩ := trodAll_nil r5
  obtain rfl : args = #[v0, v1, v2, v3, v4, v5] := by cases args; simp_all
  obtain ⟨cs0, rfl, hsz0⟩ := okWide_struct Tryd.underlying23 (hval 0 23 v0 rfl rfl)
  obtain ⟨fuel0, hd0⟩ := h0
  obtain ⟨y0, y1, m0, hx0, hl0, t0, t1⟩ := trod_struct2 Tryd.underlying23 hd0
  obtain ⟨aN, e0, _, wN0⟩ := DataW.trod_int Tryd.underlying2 t0
  obtain ⟨aD, e1, _, wD0⟩ := DataW.trod_int Tryd.underlying5 t1
  have baD := Go.bounds_u8 wD0
  have hcs0 : cs0 = #[.int .i64 aN, .int .u8 aD] := by
    have c2 : Tryd.prog.cellsOf 2 = 1 := by kernel_rfl
    have c5 : Tryd.prog.cellsOf 5 = 1 := by kernel_rfl
    have hl' : cs0.size = 2 := by rw [hsz0]; kernel_rfl
    obtain ⟨l⟩ := cs0
    simp only [Value.cells, c2, c5] at e0 e1
    match l, hl' with
    | [a, b], _ => simp at e0 e1; simp [e0, e1]
  subst hcs0
  obtain ⟨cs1, rfl, hsz1⟩ := okWide_struct Tryd.underlying23 (hval 1 23 v1 rfl rfl)
  obtain ⟨fuel1, hd1⟩ := h1
  obtain ⟨y0, y1, m1, hx1, hl1, t0, t1⟩ := trod_struct2 Tryd.underlying23 hd1
  obtain ⟨bN, e0, _, wN1⟩ := DataW.trod_int Tryd.underlying2 t0
  obtain ⟨bD, e1, _, wD1⟩ := DataW.trod_int Tryd.underlying5 t1
  have bbD := Go.bounds_u8 wD1
  have hcs1 : cs1 = #[.int .i64 bN, .int .u8 bD] := by
    have c2 : Tryd.prog.cellsOf 2 = 1 := by kernel_rfl
    have c5 : Tryd.prog.cellsOf 5 = 1 := by kernel_rfl
    have hl' : cs1.size = 2 := by rw [hsz1]; kernel_rfl
    obtain ⟨l⟩ := cs1
    simp only [Value.cells, c2, c5] at e0 e1
    match l, hl' with
    | [a, b], _ => simp at e0 e1; simp [e0, e1]
  subst hcs1
  go_open 2 p
  go_open 3 q
  go_open 4 r
  go_open 5 s
  refine (SxYtihfogahdofdmaaDoor.Te.f4_true (a := ⟨aN, aD⟩) (b := ⟨bN, bD⟩) baD.1 bbD.1 bd_p bd_q bd_r bd_s W).mono fun e W' hv => ?_
  obtain ⟨v, rfl, hQ⟩ := hv
  obtain ⟨rfl, hB⟩ := hQ
  exact ⟨_, rfl, law_post (tb := 4) lo readable rfl (by kernel_rfl) Tryd.underlying4 hW' ⟨rfl, rfl, rfl⟩ hB⟩

def lits (l : List (DataW Unit)) : List Value := l.flatMap fun
  | .lit (.int k n) => [.int k n]
  | .agg m => m.flatMap fun
    | .lit (.int k n) => [.int k n]
    | _ => []
  | _ => []
def cellsIn : DataW Unit → Array Value
  | .agg l => (lits l).toArray
  | _ => #[]
def layAt (g : Nat) (d : DataW Unit) (h : Array Obj) : Array Obj := h.modify g fun
  | .cells _ t frozen => .cells (cellsIn d) t frozen
  | o => o
/-- a world for the witness: the tables hold what the text lays -/
noncomputable def laidWorld (os : Os) : World :=
  { World.holding Tryd.prog os ⟨#[], #[], []⟩ with heap := layAt 4 Rows.laid_unicode_utf8_first (layAt 5 Rows.laid_unicode_utf8_acceptRanges (layAt 3 Rows.laid_internal_strconv_uint64pow10 (layAt 7 Rows.laid_math_bits_deBruijn64tab (layAt 6 Rows.laid_math_bits_deBruijn32tab (World.holding Tryd.prog os ⟨#[], #[], []⟩).heap)))) }
def wargs : Array Value := #[.agg #[.int .i64 0, .int .u8 0], .agg #[.int .i64 0, .int .u8 0], .int .u16 0, .int .u16 0, .int .u16 0, .int .u16 0]
theorem laid_met (os : Os) : laidMet Tryd.prog Rows.unitsTimesRow.laid ((laidWorld os).forCall (fun _ _ => 0) ⟨#[], wargs, []⟩).memory :=
  laidMet_of_run' 8 (by kernel_rfl) (by kernel_rfl)
theorem reads (os : Os) {H : Type} (enc : TypeId × Value → H) : ∃ places, DataW.whole enc Tryd.prog ((laidWorld os).forCall (fun _ _ => 0) ⟨#[], wargs, []⟩).memory Tryd.f4.params.toList Rows.unitsTimesSpec.vars false wargs.toList 8 =
    some ([.agg [.lit (.int .i64 0), .lit (.int .u8 0)], .agg [.lit (.int .i64 0), .lit (.int .u8 0)], .lit (.int .u16 0), .lit (.int .u16 0), .lit (.int .u16 0), .lit (.int .u16 0)], [], places) :=
  ⟨[], by kernel_rfl⟩
set_option maxRecDepth 100000 in
theorem lifted (os : Os) (started : os.Started) (H : Type) (enc : TypeId × Value → H) (F : Stop.Interp) :
    ReturnsInHanded {} Tryd.checked os 4 .any ((OpenSpec.ofChange Rows.unitsTimesSpec).preRow enc Tryd.prog Tryd.f4 Rows.unitsTimesRow.domain false Rows.unitsTimesRow.laid) (((OpenSpec.ofChange Rows.unitsTimesSpec).at F).post enc Tryd.prog Tryd.f4 false true false false) := by
  obtain ⟨places, hx⟩ := reads os enc
  refine returnsInHanded_of_row (C := Tryd.checked) (s := OpenSpec.ofChange Rows.unitsTimesSpec) own started (by kernel_rfl) Tryd.func4
    (witness_row_at (enc := enc) (C := Tryd.checked) false (laidWorld os) wargs rfl (by kernel_rfl) (by kernel_rfl) (by kernel_rfl)
      (OpenSpec.preRow_of_cond 8 hx (by kernel_rfl) (fun k hk => by cases hk) (by kernel_rfl) (laid_met os))) ?_
  intro W base args ds gs before hval hW _ _ _ hL _ _
  exact contract H enc W base args ds gs before hval hW
theorem said : Rows.UnitsTimesSaid :=
  OpenClaim.holds_of_cond 4 Tryd.f4 rfl rfl rfl rfl rfl rfl rfl ⟨rfl, rfl, rfl, rfl, rfl⟩ rfl rfl rfl rfl rfl (by kernel_rfl) Tryd.func4 (by kernel_rfl)
    (of_decide_eq_true (by kernel_rfl)) (by unfold Func.isWrapper; first | (rw [if_pos (by decide +kernel)]; kernel_rfl) | (rw [if_neg (by decide +kernel)]; exact ⟨rfl, rfl⟩))
    (fun os started H enc _ F => by rw [OpenClaim.pre_eq_preRow]; exact lifted os started H enc F)
theorem plain (f : FuncId) (fn : Func) (hf : Tryd.pinned.checked.prog.funcNamed Tryd.f4.name = some f) (hfn : Tryd.pinned.checked.prog.funcs[f]? = some fn) :
    false = Tryd.pinned.checked.prog.looks [] ∧ ∀ (j : Nat) t, fn.params[j]? = some t → Tryd.pinned.checked.prog.wantsStandIn t = false := by
  obtain rfl : f = 4 := Option.some.inj ((show Tryd.prog.funcNamed Tryd.f4.name = some 4 by kernel_rfl).symm.trans hf) |>.symm
  obtain rfl : fn = Tryd.f4 := (Option.some.inj (Tryd.func4.symm.trans hfn)).symm
  refine ⟨by kernel_rfl, fun j t ht => ?_⟩
  rw [Tryd.params4] at ht
  have hm := Array.mem_of_getElem? ht
  simp at hm
  rcases hm with rfl | rfl
  · exact (show Tryd.prog.wantsStandIn 23 = false by kernel_rfl)
  · exact (show Tryd.prog.wantsStandIn 35 = false by kernel_rfl)
/-- the card -/
theorem card : Rows.UnitsTimesCardSaid :=
  Claim7.holds_tied_plain_at .later [] _ _ _ _ said (fun _ h => by cases h) (by kernel_rfl) (fun _ h => by cases h) unitsTimes_row_tie rfl ⟨rfl, rfl⟩ (by kernel_rfl) rfl plain (by kernel_rfl)
end Go.Proofs.YtihfogahdofdmaaDoor.times

end
