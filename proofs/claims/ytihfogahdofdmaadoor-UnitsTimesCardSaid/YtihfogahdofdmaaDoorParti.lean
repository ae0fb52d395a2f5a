/- Proved in the last of these 10 parts (this is part 9): UnitsTimes: for every argument the card's run of the law answers true. Conditions: those of the given statement, and no others. -/
import Derived.Test.YtihfogahdofdmaaDoorPartc
import Derived.Test.YtihfogahdofdmaaDoorParte
import Derived.Test.YtihfogahdofdmaaDoorParth
import Derived.KernelRfl
set_option linter.unusedVariables false
set_option linter.unusedSimpArgs false
set_option linter.unusedSectionVars false
section
/- Contracts of the generated texts, as the evaluator takes them. -/
namespace SxYtihfogahdofdmaaDoor.Te
open Go Go.RowKit Sx Ev Go.Proofs SxYtihfogahdofdmaaDoor
/-! ### of fractions -/
theorem times_same {d : TDec} (hd : RightD d) {n m : Int} (hn : 1 ≤ n) (h : m = n) : timesD d n m = (d, true) := by
  subst h
  unfold timesD
  rw [Int.mul_ediv_cancel _ (by omega : m ≠ 0), if_pos ⟨Int.mul_emod_left _ _, fits_six hd⟩, deca_six hd]
theorem times_yes {d : TDec} {n m : Int} (h : (timesD d n m).2 = true) : RightD (timesD d n m).1 ∧ six (timesD d n m).1 * m = six d * n := by
  unfold timesD at h ⊢
  by_cases q : six d * n % m = 0 ∧ fits (six d * n / m) = true
  · rw [if_pos q]
    exact ⟨right_deca q.2, by rw [six_deca]; exact Int.ediv_mul_cancel (Int.dvd_of_emod_eq_zero q.1)⟩
  · rw [if_neg q] at h
    cases h
theorem times_of {d e : TDec} {n m : Int} (he : RightD e) (hm : 1 ≤ m) (h : six e * m = six d * n) : timesD d n m = (e, true) := by
  unfold timesD
  rw [← h, Int.mul_ediv_cancel _ (by omega : m ≠ 0), if_pos ⟨Int.mul_emod_left _ _, fits_six he⟩, deca_six he]
abbrev tD : Ty := .pr (.int .i64) (.int .u8)
def f9 (x : As [.pr (.int .i64) (.int .u8)]) : Option (Rs [.d (.pr (.int .i64) (.int .u8))]) := (m9 64 ⟨x.1.1, x.1.2⟩).map fun r => ((r.N, r.D), ())
@[irreducible] def n12 : Option Bool := m12 64
theorem n12_eq : n12 = m12 64 := by unfold n12; rfl
def f12 (_ : As []) : Option (Rs [.d (.bool)]) := n12.map fun r => (r, ())
def f13 (x : As [.pr (.int .i64) (.int .u8), .int .i64, .int .i64]) : Option (Rs [.d (.pr (.int .i64) (.int .u8)), .d (.bool)]) := (m13 64 ⟨x.1.1, x.1.2⟩ x.2.1 x.2.2.1).map fun r => ((r.1.N, r.1.D), r.2, ())
def f14 (x : As [.pr (.int .i64) (.int .u8)]) : Option (Rs [.d (.bool)]) := (m14 64 ⟨x.1.1, x.1.2⟩).map fun r => (r, ())
def f15 (x : As [.pr (.int .i64) (.int .u8), .pr (.int .i64) (.int .u8)]) : Option (Rs [.d (.int .i64)]) := (m15 64 ⟨x.1.1, x.1.2⟩ ⟨x.2.1.1, x.2.1.2⟩).map fun r => (r, ())
theorem relD {L : Lx} {w : World} {cs : List Value} {x : Int × Int} (h : (rp tD).rel L w cs x) : (rp tD).val cs = .agg #[.int .i64 x.1, .int .u8 x.2] := by
  obtain ⟨d0, e0, rfl, h0, h1⟩ := h
  cases h0
  cases h1
  rfl
theorem relI {L : Lx} {w : World} {k : IntKind} {cs : List Value} {x : Int} (h : (rp (.int k)).rel L w cs x) : (rp (.int k)).val cs = .int k x := by
  cases h
  rfl
theorem f9_ok : CtOk Tryd.prog 9 ⟨[.pr (.int .i64) (.int .u8)], [.d (.pr (.int .i64) (.int .u8))], f9⟩ := by
  intro F w0 hF x y vs hx ha
  obtain ⟨r, hr, rfl⟩ := Option.map_eq_some_iff.1 (show (m9 64 ⟨x.1.1, x.1.2⟩).map _ = some y from hx)
  obtain ⟨c1, q, rfl, h1, rfl⟩ := ha
  rw [relD h1]
  refine (SxYtihfogahdofdmaaDoor.f9_ok 64 F w0 hF hr).mono fun e w' he => ?_
  obtain ⟨v, rfl, rfl, hB⟩ := he
  exact ⟨[_], [], rfl, hB, (LOk.start hF).step hB.size, [.int .i64 r.N, .int .u8 r.D], [], rfl, ⟨[_], [_], rfl, rfl, rfl⟩, rfl, rfl⟩
theorem f14_ok : CtOk Tryd.prog 14 ⟨[.pr (.int .i64) (.int .u8)], [.d (.bool)], f14⟩ := by
  intro F w0 hF x y vs hx ha
  obtain ⟨r, hr, rfl⟩ := Option.map_eq_some_iff.1 (show (m14 64 ⟨x.1.1, x.1.2⟩).map _ = some y from hx)
  obtain ⟨c1, q, rfl, h1, rfl⟩ := ha
  rw [relD h1]
  refine (SxYtihfogahdofdmaaDoor.f14_ok 64 F w0 hF hr).mono fun e w' he => ?_
  obtain ⟨v, rfl, rfl, hB⟩ := he
  exact ⟨[_], [], rfl, hB, (LOk.start hF).step hB.size, [.bool r], [], rfl, rfl, rfl, rfl⟩
theorem f12_ok : CtOk Tryd.prog 12 ⟨[], [.d (.bool)], f12⟩ := by
  intro F w0 hF x y vs hx ha
  obtain ⟨r, hr, rfl⟩ := Option.map_eq_some_iff.1 (show n12.map _ = some y from hx)
  rw [n12_eq] at hr
  cases ha
  refine (SxYtihfogahdofdmaaDoor.f12_ok 64 F w0 hF hr).mono fun e w' he => ?_
  obtain ⟨v, rfl, rfl, hB⟩ := he
  exact ⟨[_], [], rfl, hB, (LOk.start hF).step hB.size, [.bool r], [], rfl, rfl, rfl, rfl⟩
theorem f13_ok : CtOk Tryd.prog 13 ⟨[.pr (.int .i64) (.int .u8), .int .i64, .int .i64], [.d (.pr (.int .i64) (.int .u8)), .d (.bool)], f13⟩ := by
  intro F w0 hF x y vs hx ha
  obtain ⟨r, hr, rfl⟩ := Option.map_eq_some_iff.1 (show (m13 64 ⟨x.1.1, x.1.2⟩ x.2.1 x.2.2.1).map _ = some y from hx)
  obtain ⟨c1, q, rfl, h1, c2, q2, rfl, h2, c3, q3, rfl, h3, rfl⟩ := ha
  rw [relD h1, relI h2, relI h3]
  refine (SxYtihfogahdofdmaaDoor.f13_ok 64 F w0 hF hr).mono fun e w' he => ?_
  obtain ⟨v, rfl, rfl, hB⟩ := he
  exact ⟨[_, _], [], rfl, hB, (LOk.start hF).step hB.size, [.int .i64 r.1.N, .int .u8 r.1.D], [_], rfl, ⟨[_], [_], rfl, rfl, rfl⟩, [.bool r.2], [], rfl, rfl, rfl, rfl⟩
theorem f15_ok : CtOk Tryd.prog 15 ⟨[.pr (.int .i64) (.int .u8), .pr (.int .i64) (.int .u8)], [.d (.int .i64)], f15⟩ := by
  intro F w0 hF x y vs hx ha
  obtain ⟨r, hr, rfl⟩ := Option.map_eq_some_iff.1 (show (m15 64 ⟨x.1.1, x.1.2⟩ ⟨x.2.1.1, x.2.1.2⟩).map _ = some y from hx)
  obtain ⟨c1, q, rfl, h1, c2, q2, rfl, h2, rfl⟩ := ha
  rw [relD h1, relD h2]
  refine (SxYtihfogahdofdmaaDoor.f15_ok 64 F w0 hF hr).mono fun e w' he => ?_
  obtain ⟨v, rfl, rfl, hB⟩ := he
  exact ⟨[_], [], rfl, hB, (LOk.start hF).step hB.size, [.int .i64 r], [], rfl, rfl, rfl, rfl⟩
end SxYtihfogahdofdmaaDoor.Te

end

section
/- UnitsTimes, by the evaluator: written by program (EvX, EvY). -/
namespace SxYtihfogahdofdmaaDoor.Te
open Go Go.Proofs Ev
set_option maxRecDepth 100000
/-! function 4 -/
def f4_h : List (Nat × Ev.Hint) := [(255, ⟨[], [6, 7, 13, 14, 17, 124, 125, 126, 127, 128, 129, 130, 145, 146, 149, 150, 151, 152, 153, 154, 155, 156, 159]⟩), (2045, ⟨[], [6, 7, 131, 145, 146, 149, 150, 151, 152, 153, 154, 155, 156, 159]⟩), (8173, ⟨[], [6, 7, 13, 14, 17, 114, 124, 125, 126, 127, 128, 129, 130, 145, 146, 149, 150, 151, 152, 153, 154, 155, 156, 159]⟩), (254, ⟨[], [6, 7, 13, 14, 15, 16, 17, 88, 111, 112, 113, 124, 125, 126, 127, 128, 129, 130, 145, 146, 149, 150, 151, 152, 153, 154, 155, 156, 159]⟩)]
def f4_k1 (w : Int) (x : Int) (y : Int) (z : Int) (t88 : Bool) (a : Int) (a_2 : Int) (b : Int) (b_2 : Int) (c : Int) (c_2 : Int) : Ev.St := { fr := [(6, Ev.SV.pb 0 0), (7, Ev.SV.pb 1 0), (13, Ev.SV.d (Ev.Ty.int Go.IntKind.i64) w), (14, Ev.SV.d (Ev.Ty.int Go.IntKind.i64) x), (15, Ev.SV.d (Ev.Ty.int Go.IntKind.i64) y), (16, Ev.SV.d (Ev.Ty.int Go.IntKind.i64) z), (17, Ev.SV.pb 2 0), (88, Ev.SV.d Ev.Ty.bool t88)], nt := 161, up := [], own := [(0, Ev.Ent.box 23 [Ev.SV.d (Ev.Ty.int Go.IntKind.i64) a, Ev.SV.d (Ev.Ty.int Go.IntKind.u8) a_2]), (1, Ev.Ent.box 23 [Ev.SV.d (Ev.Ty.int Go.IntKind.i64) b, Ev.SV.d (Ev.Ty.int Go.IntKind.u8) b_2]), (2, Ev.Ent.box 23 [Ev.SV.d (Ev.Ty.int Go.IntKind.i64) c, Ev.SV.d (Ev.Ty.int Go.IntKind.u8) c_2])], nx := 3, log := [] }
def f4_k2 (w : Int) (x : Int) (t114 : Bool) (a : Int) (a_2 : Int) (b : Int) (b_2 : Int) (c : Int) (c_2 : Int) : Ev.St := { fr := [(6, Ev.SV.pb 0 0), (7, Ev.SV.pb 1 0), (13, Ev.SV.d (Ev.Ty.int Go.IntKind.i64) w), (14, Ev.SV.d (Ev.Ty.int Go.IntKind.i64) x), (17, Ev.SV.pb 2 0), (114, Ev.SV.d Ev.Ty.bool t114)], nt := 161, up := [], own := [(0, Ev.Ent.box 23 [Ev.SV.d (Ev.Ty.int Go.IntKind.i64) a, Ev.SV.d (Ev.Ty.int Go.IntKind.u8) a_2]), (1, Ev.Ent.box 23 [Ev.SV.d (Ev.Ty.int Go.IntKind.i64) b, Ev.SV.d (Ev.Ty.int Go.IntKind.u8) b_2]), (2, Ev.Ent.box 23 [Ev.SV.d (Ev.Ty.int Go.IntKind.i64) c, Ev.SV.d (Ev.Ty.int Go.IntKind.u8) c_2])], nx := 3, log := [] }
def f4_k3 (w : Int) (x : Int) (a : Int) (a_2 : Int) (b : Int) (b_2 : Int) (c : Int) (c_2 : Int) : Ev.St := { fr := [(6, Ev.SV.pb 0 0), (7, Ev.SV.pb 1 0), (13, Ev.SV.d (Ev.Ty.int Go.IntKind.i64) w), (14, Ev.SV.d (Ev.Ty.int Go.IntKind.i64) x), (17, Ev.SV.pb 2 0)], nt := 161, up := [], own := [(0, Ev.Ent.box 23 [Ev.SV.d (Ev.Ty.int Go.IntKind.i64) a, Ev.SV.d (Ev.Ty.int Go.IntKind.u8) a_2]), (1, Ev.Ent.box 23 [Ev.SV.d (Ev.Ty.int Go.IntKind.i64) b, Ev.SV.d (Ev.Ty.int Go.IntKind.u8) b_2]), (2, Ev.Ent.box 23 [Ev.SV.d (Ev.Ty.int Go.IntKind.i64) c, Ev.SV.d (Ev.Ty.int Go.IntKind.u8) c_2])], nx := 3, log := [] }
def f4_k4 (t131 : Bool) (a : Int) (a_2 : Int) (b : Int) (b_2 : Int) : Ev.St := { fr := [(6, Ev.SV.pb 0 0), (7, Ev.SV.pb 1 0), (131, Ev.SV.d Ev.Ty.bool t131)], nt := 161, up := [], own := [(0, Ev.Ent.box 23 [Ev.SV.d (Ev.Ty.int Go.IntKind.i64) a, Ev.SV.d (Ev.Ty.int Go.IntKind.u8) a_2]), (1, Ev.Ent.box 23 [Ev.SV.d (Ev.Ty.int Go.IntKind.i64) b, Ev.SV.d (Ev.Ty.int Go.IntKind.u8) b_2])], nx := 2, log := [] }
def f4_m1 (j2 : Int → Int → Bool → Int → Int → Int → Int → Int → Int → Option (Ev.Rs [Ev.Rt.d Ev.Ty.bool])) (j3 : Int → Int → Int → Int → Int → Int → Int → Int → Option (Ev.Rs [Ev.Rt.d Ev.Ty.bool])) (w : Int) (x : Int) (y : Int) (z : Int) (t88 : Bool) (a : Int) (a_2 : Int) (b : Int) (b_2 : Int) (c : Int) (c_2 : Int) : Option (Ev.Rs [Ev.Rt.d Ev.Ty.bool]) :=
  if t88 = Bool.true then Option.some (Bool.false, PUnit.unit) else Option.bind (f13 ((c, c_2), y, z, PUnit.unit)) fun (r : (Int × Int) × Bool × Unit) => if r.snd.fst = Bool.true then Option.bind (f13 ((a, a_2), Sx.mul Go.IntKind.i64 w y, Sx.mul Go.IntKind.i64 x z, PUnit.unit)) fun (r_1 : (Int × Int) × Bool × Unit) => if (!r_1.snd.fst) = Bool.true then j2 w x Bool.true a a_2 b b_2 c c_2 else j2 w x (!(Sx.eqi r_1.fst.fst r.fst.fst && (Sx.eqi r_1.fst.snd r.fst.snd && Bool.true))) a a_2 b b_2 c c_2 else j3 w x a a_2 b b_2 c c_2
def f4_m2 (j3 : Int → Int → Int → Int → Int → Int → Int → Int → Option (Ev.Rs [Ev.Rt.d Ev.Ty.bool])) (w : Int) (x : Int) (t114 : Bool) (a : Int) (a_2 : Int) (b : Int) (b_2 : Int) (c : Int) (c_2 : Int) : Option (Ev.Rs [Ev.Rt.d Ev.Ty.bool]) :=
  if t114 = Bool.true then Option.some (Bool.false, PUnit.unit) else j3 w x a a_2 b b_2 c c_2
def f4_m3 (j4 : Bool → Int → Int → Int → Int → Option (Ev.Rs [Ev.Rt.d Ev.Ty.bool])) (w : Int) (x : Int) (a : Int) (a_2 : Int) (b : Int) (b_2 : Int) (c : Int) (c_2 : Int) : Option (Ev.Rs [Ev.Rt.d Ev.Ty.bool]) :=
  Option.bind (f13 ((b, b_2), w, x, PUnit.unit)) fun (r : (Int × Int) × Bool × Unit) => if r.snd.fst = Bool.true then Option.bind (f15 ((a, a_2), (b, b_2), PUnit.unit)) fun (r_1 : Int × Unit) => Option.bind (f15 ((c, c_2), (r.fst.fst, r.fst.snd), PUnit.unit)) fun (r : Int × Unit) => j4 (Sx.nei r_1.fst r.fst) a a_2 b b_2 else j4 Bool.false a a_2 b b_2
def f4_m4 (t131 : Bool) (a : Int) (a_2 : Int) (b : Int) (b_2 : Int) : Option (Ev.Rs [Ev.Rt.d Ev.Ty.bool]) :=
  if t131 = Bool.true then Option.some (Bool.false, PUnit.unit) else Option.bind (f13 ((a, a_2), 0, 1, PUnit.unit)) fun (r : (Int × Int) × Bool × Unit) => Option.bind (f13 ((a, a_2), 1, 1000000001, PUnit.unit)) fun (r_1 : (Int × Int) × Bool × Unit) => if (!r.snd.fst) = Bool.true then if (!r_1.snd.fst) = Bool.true then Option.bind (f15 ((a, a_2), (b, b_2), PUnit.unit)) fun (r : Int × Unit) => Option.bind (f15 ((b, b_2), (a, a_2), PUnit.unit)) fun (r_2 : Int × Unit) => if Sx.eqi r.fst (Sx.neg Go.IntKind.i64 r_2.fst) = Bool.true then Option.bind (f12 PUnit.unit) fun (r : Bool × Unit) => Option.some (r.fst, PUnit.unit) else Option.some (Bool.false, PUnit.unit) else Option.some (Bool.false, PUnit.unit) else Option.some (Bool.false, PUnit.unit)
def f4_m0 (j1 : Int → Int → Int → Int → Bool → Int → Int → Int → Int → Int → Int → Option (Ev.Rs [Ev.Rt.d Ev.Ty.bool])) (a : Int × Int) (b : Int × Int) (p : Int) (q : Int) (r : Int) (s : Int) : Option (Ev.Rs [Ev.Rt.d Ev.Ty.bool]) :=
  Option.bind (f9 ((a.fst, a.snd), PUnit.unit)) fun (r_1 : (Int × Int) × Unit) => Option.bind (f9 ((b.fst, b.snd), PUnit.unit)) fun (r_2 : (Int × Int) × Unit) => Option.bind (f13 ((r_1.fst.fst, r_1.fst.snd), Sx.add Go.IntKind.i64 1 (Sx.cvt Go.IntKind.i64 (Sx.rem p 10000)), Sx.add Go.IntKind.i64 1 (Sx.cvt Go.IntKind.i64 (Sx.rem q 10000)), PUnit.unit)) fun (r_3 : (Int × Int) × Bool × Unit) => if (!r_3.snd.fst) = Bool.true then Option.bind (f12 PUnit.unit) fun (r : Bool × Unit) => Option.some (r.fst, PUnit.unit) else Option.bind (f13 ((r_3.fst.fst, r_3.fst.snd), Sx.add Go.IntKind.i64 1 (Sx.cvt Go.IntKind.i64 (Sx.rem q 10000)), Sx.add Go.IntKind.i64 1 (Sx.cvt Go.IntKind.i64 (Sx.rem p 10000)), PUnit.unit)) fun (r_4 : (Int × Int) × Bool × Unit) => if (!r_4.snd.fst) = Bool.true then j1 (Sx.add Go.IntKind.i64 1 (Sx.cvt Go.IntKind.i64 (Sx.rem p 10000))) (Sx.add Go.IntKind.i64 1 (Sx.cvt Go.IntKind.i64 (Sx.rem q 10000))) (Sx.add Go.IntKind.i64 1 (Sx.cvt Go.IntKind.i64 (Sx.rem r 10000))) (Sx.add Go.IntKind.i64 1 (Sx.cvt Go.IntKind.i64 (Sx.rem s 10000))) Bool.true r_1.fst.fst r_1.fst.snd r_2.fst.fst r_2.fst.snd r_3.fst.fst r_3.fst.snd else if (!(Sx.eqi r_4.fst.fst r_1.fst.fst && (Sx.eqi r_4.fst.snd r_1.fst.snd && Bool.true))) = Bool.true then j1 (Sx.add Go.IntKind.i64 1 (Sx.cvt Go.IntKind.i64 (Sx.rem p 10000))) (Sx.add Go.IntKind.i64 1 (Sx.cvt Go.IntKind.i64 (Sx.rem q 10000))) (Sx.add Go.IntKind.i64 1 (Sx.cvt Go.IntKind.i64 (Sx.rem r 10000))) (Sx.add Go.IntKind.i64 1 (Sx.cvt Go.IntKind.i64 (Sx.rem s 10000))) Bool.true r_1.fst.fst r_1.fst.snd r_2.fst.fst r_2.fst.snd r_3.fst.fst r_3.fst.snd else if Sx.neb (Sx.eqi r_3.fst.fst 0) (Sx.eqi r_1.fst.fst 0) = Bool.true then j1 (Sx.add Go.IntKind.i64 1 (Sx.cvt Go.IntKind.i64 (Sx.rem p 10000))) (Sx.add Go.IntKind.i64 1 (Sx.cvt Go.IntKind.i64 (Sx.rem q 10000))) (Sx.add Go.IntKind.i64 1 (Sx.cvt Go.IntKind.i64 (Sx.rem r 10000))) (Sx.add Go.IntKind.i64 1 (Sx.cvt Go.IntKind.i64 (Sx.rem s 10000))) Bool.true r_1.fst.fst r_1.fst.snd r_2.fst.fst r_2.fst.snd r_3.fst.fst r_3.fst.snd else Option.bind (f14 ((r_3.fst.fst, r_3.fst.snd), PUnit.unit)) fun (r_5 : Bool × Unit) => j1 (Sx.add Go.IntKind.i64 1 (Sx.cvt Go.IntKind.i64 (Sx.rem p 10000))) (Sx.add Go.IntKind.i64 1 (Sx.cvt Go.IntKind.i64 (Sx.rem q 10000))) (Sx.add Go.IntKind.i64 1 (Sx.cvt Go.IntKind.i64 (Sx.rem r 10000))) (Sx.add Go.IntKind.i64 1 (Sx.cvt Go.IntKind.i64 (Sx.rem s 10000))) (!r_5.fst) r_1.fst.fst r_1.fst.snd r_2.fst.fst r_2.fst.snd r_3.fst.fst r_3.fst.snd
def f4_K4 (t131 : Bool) (a : Int) (a_2 : Int) (b : Int) (b_2 : Int) : Option (Ev.Rs [Ev.Rt.d Ev.Ty.bool]) := f4_m4 t131 a a_2 b b_2
def f4_K3 (w : Int) (x : Int) (a : Int) (a_2 : Int) (b : Int) (b_2 : Int) (c : Int) (c_2 : Int) : Option (Ev.Rs [Ev.Rt.d Ev.Ty.bool]) := f4_m3 (f4_K4) w x a a_2 b b_2 c c_2
def f4_K2 (w : Int) (x : Int) (t114 : Bool) (a : Int) (a_2 : Int) (b : Int) (b_2 : Int) (c : Int) (c_2 : Int) : Option (Ev.Rs [Ev.Rt.d Ev.Ty.bool]) := f4_m2 (f4_K3) w x t114 a a_2 b b_2 c c_2
def f4_K1 (w : Int) (x : Int) (y : Int) (z : Int) (t88 : Bool) (a : Int) (a_2 : Int) (b : Int) (b_2 : Int) (c : Int) (c_2 : Int) : Option (Ev.Rs [Ev.Rt.d Ev.Ty.bool]) := f4_m1 (f4_K2) (f4_K3) w x y z t88 a a_2 b b_2 c c_2
def f4 (x : Ev.As [.pr (.int .i64) (.int .u8), .pr (.int .i64) (.int .u8), .int .u16, .int .u16, .int .u16, .int .u16]) : Option (Ev.Rs [.d (.bool)]) := f4_m0 f4_K1 x.1 x.2.1 x.2.2.1 x.2.2.2.1 x.2.2.2.2.1 x.2.2.2.2.2.1
theorem f4_c4 (J : Ev.Orc (Ev.Rs [.d (.bool)])) (t131 : Bool) (a : Int) (a_2 : Int) (b : Int) (b_2 : Int) : Ev.pfn Tryd.prog (Ev.get [(9, (⟨[.pr (.int .i64) (.int .u8)], [.d (.pr (.int .i64) (.int .u8))], f9⟩ : Ev.Ct)), (12, (⟨[], [.d (.bool)], f12⟩ : Ev.Ct)), (13, (⟨[.pr (.int .i64) (.int .u8), .int .i64, .int .i64], [.d (.pr (.int .i64) (.int .u8)), .d (.bool)], f13⟩ : Ev.Ct)), (14, (⟨[.pr (.int .i64) (.int .u8)], [.d (.bool)], f14⟩ : Ev.Ct)), (15, (⟨[.pr (.int .i64) (.int .u8), .pr (.int .i64) (.int .u8)], [.d (.int .i64)], f15⟩ : Ev.Ct))]) 4 18446744073709551616 (Ev.get f4_h) 4 [.d (.bool)] J 2045 [] (f4_k4 t131 a a_2 b b_2) = f4_m4 t131 a a_2 b b_2 := by kernel_rfl
theorem f4_c3 (J : Ev.Orc (Ev.Rs [.d (.bool)])) (w : Int) (x : Int) (a : Int) (a_2 : Int) (b : Int) (b_2 : Int) (c : Int) (c_2 : Int) : Ev.pfn Tryd.prog (Ev.get [(9, (⟨[.pr (.int .i64) (.int .u8)], [.d (.pr (.int .i64) (.int .u8))], f9⟩ : Ev.Ct)), (12, (⟨[], [.d (.bool)], f12⟩ : Ev.Ct)), (13, (⟨[.pr (.int .i64) (.int .u8), .int .i64, .int .i64], [.d (.pr (.int .i64) (.int .u8)), .d (.bool)], f13⟩ : Ev.Ct)), (14, (⟨[.pr (.int .i64) (.int .u8)], [.d (.bool)], f14⟩ : Ev.Ct)), (15, (⟨[.pr (.int .i64) (.int .u8), .pr (.int .i64) (.int .u8)], [.d (.int .i64)], f15⟩ : Ev.Ct))]) 4 18446744073709551616 (Ev.get f4_h) 4 [.d (.bool)] J 255 [] (f4_k3 w x a a_2 b b_2 c c_2) = f4_m3 (fun t131 a a_2 b b_2 => J 2045 [] (f4_k4 t131 a a_2 b b_2)) w x a a_2 b b_2 c c_2 := by kernel_rfl
theorem f4_c2 (J : Ev.Orc (Ev.Rs [.d (.bool)])) (w : Int) (x : Int) (t114 : Bool) (a : Int) (a_2 : Int) (b : Int) (b_2 : Int) (c : Int) (c_2 : Int) : Ev.pfn Tryd.prog (Ev.get [(9, (⟨[.pr (.int .i64) (.int .u8)], [.d (.pr (.int .i64) (.int .u8))], f9⟩ : Ev.Ct)), (12, (⟨[], [.d (.bool)], f12⟩ : Ev.Ct)), (13, (⟨[.pr (.int .i64) (.int .u8), .int .i64, .int .i64], [.d (.pr (.int .i64) (.int .u8)), .d (.bool)], f13⟩ : Ev.Ct)), (14, (⟨[.pr (.int .i64) (.int .u8)], [.d (.bool)], f14⟩ : Ev.Ct)), (15, (⟨[.pr (.int .i64) (.int .u8), .pr (.int .i64) (.int .u8)], [.d (.int .i64)], f15⟩ : Ev.Ct))]) 4 18446744073709551616 (Ev.get f4_h) 4 [.d (.bool)] J 8173 [] (f4_k2 w x t114 a a_2 b b_2 c c_2) = f4_m2 (fun w x a a_2 b b_2 c c_2 => J 255 [] (f4_k3 w x a a_2 b b_2 c c_2)) w x t114 a a_2 b b_2 c c_2 := by kernel_rfl
theorem f4_c1 (J : Ev.Orc (Ev.Rs [.d (.bool)])) (w : Int) (x : Int) (y : Int) (z : Int) (t88 : Bool) (a : Int) (a_2 : Int) (b : Int) (b_2 : Int) (c : Int) (c_2 : Int) : Ev.pfn Tryd.prog (Ev.get [(9, (⟨[.pr (.int .i64) (.int .u8)], [.d (.pr (.int .i64) (.int .u8))], f9⟩ : Ev.Ct)), (12, (⟨[], [.d (.bool)], f12⟩ : Ev.Ct)), (13, (⟨[.pr (.int .i64) (.int .u8), .int .i64, .int .i64], [.d (.pr (.int .i64) (.int .u8)), .d (.bool)], f13⟩ : Ev.Ct)), (14, (⟨[.pr (.int .i64) (.int .u8)], [.d (.bool)], f14⟩ : Ev.Ct)), (15, (⟨[.pr (.int .i64) (.int .u8), .pr (.int .i64) (.int .u8)], [.d (.int .i64)], f15⟩ : Ev.Ct))]) 4 18446744073709551616 (Ev.get f4_h) 4 [.d (.bool)] J 254 [] (f4_k1 w x y z t88 a a_2 b b_2 c c_2) = f4_m1 (fun w x t114 a a_2 b b_2 c c_2 => J 8173 [] (f4_k2 w x t114 a a_2 b b_2 c c_2)) (fun w x a a_2 b b_2 c c_2 => J 255 [] (f4_k3 w x a a_2 b b_2 c c_2)) w x y z t88 a a_2 b b_2 c c_2 := by kernel_rfl
theorem f4_c0 (J : Ev.Orc (Ev.Rs [.d (.bool)])) (x : Ev.As [.pr (.int .i64) (.int .u8), .pr (.int .i64) (.int .u8), .int .u16, .int .u16, .int .u16, .int .u16]) : Ev.rfn Tryd.prog (Ev.get [(9, (⟨[.pr (.int .i64) (.int .u8)], [.d (.pr (.int .i64) (.int .u8))], f9⟩ : Ev.Ct)), (12, (⟨[], [.d (.bool)], f12⟩ : Ev.Ct)), (13, (⟨[.pr (.int .i64) (.int .u8), .int .i64, .int .i64], [.d (.pr (.int .i64) (.int .u8)), .d (.bool)], f13⟩ : Ev.Ct)), (14, (⟨[.pr (.int .i64) (.int .u8)], [.d (.bool)], f14⟩ : Ev.Ct)), (15, (⟨[.pr (.int .i64) (.int .u8), .pr (.int .i64) (.int .u8)], [.d (.int .i64)], f15⟩ : Ev.Ct))]) 4 18446744073709551616 (Ev.get f4_h) 4 [.pr (.int .i64) (.int .u8), .pr (.int .i64) (.int .u8), .int .u16, .int .u16, .int .u16, .int .u16] [.d (.bool)] J x = f4_m0 (fun w x y z t88 a a_2 b b_2 c c_2 => J 254 [] (f4_k1 w x y z t88 a a_2 b b_2 c c_2)) x.1 x.2.1 x.2.2.1 x.2.2.2.1 x.2.2.2.2.1 x.2.2.2.2.2.1 := by kernel_rfl
theorem f4_g4 (t131 : Bool) (a : Int) (a_2 : Int) (b : Int) (b_2 : Int) : Ev.jfn Tryd.prog (Ev.get [(9, (⟨[.pr (.int .i64) (.int .u8)], [.d (.pr (.int .i64) (.int .u8))], f9⟩ : Ev.Ct)), (12, (⟨[], [.d (.bool)], f12⟩ : Ev.Ct)), (13, (⟨[.pr (.int .i64) (.int .u8), .int .i64, .int .i64], [.d (.pr (.int .i64) (.int .u8)), .d (.bool)], f13⟩ : Ev.Ct)), (14, (⟨[.pr (.int .i64) (.int .u8)], [.d (.bool)], f14⟩ : Ev.Ct)), (15, (⟨[.pr (.int .i64) (.int .u8), .pr (.int .i64) (.int .u8)], [.d (.int .i64)], f15⟩ : Ev.Ct))]) 4 18446744073709551616 (Ev.get f4_h) 4 [.d (.bool)] 2045 [] (f4_k4 t131 a a_2 b b_2) = f4_K4 t131 a a_2 b b_2 := by
  rw [Ev.pfn_eq (by decide)]
  rw [f4_c4]
  rfl
theorem f4_g3 (w : Int) (x : Int) (a : Int) (a_2 : Int) (b : Int) (b_2 : Int) (c : Int) (c_2 : Int) : Ev.jfn Tryd.prog (Ev.get [(9, (⟨[.pr (.int .i64) (.int .u8)], [.d (.pr (.int .i64) (.int .u8))], f9⟩ : Ev.Ct)), (12, (⟨[], [.d (.bool)], f12⟩ : Ev.Ct)), (13, (⟨[.pr (.int .i64) (.int .u8), .int .i64, .int .i64], [.d (.pr (.int .i64) (.int .u8)), .d (.bool)], f13⟩ : Ev.Ct)), (14, (⟨[.pr (.int .i64) (.int .u8)], [.d (.bool)], f14⟩ : Ev.Ct)), (15, (⟨[.pr (.int .i64) (.int .u8), .pr (.int .i64) (.int .u8)], [.d (.int .i64)], f15⟩ : Ev.Ct))]) 4 18446744073709551616 (Ev.get f4_h) 4 [.d (.bool)] 255 [] (f4_k3 w x a a_2 b b_2 c c_2) = f4_K3 w x a a_2 b b_2 c c_2 := by
  rw [Ev.pfn_eq (by decide)]
  have e4 : (fun t131 a a_2 b b_2 => (Ev.jfn Tryd.prog (Ev.get [(9, (⟨[.pr (.int .i64) (.int .u8)], [.d (.pr (.int .i64) (.int .u8))], f9⟩ : Ev.Ct)), (12, (⟨[], [.d (.bool)], f12⟩ : Ev.Ct)), (13, (⟨[.pr (.int .i64) (.int .u8), .int .i64, .int .i64], [.d (.pr (.int .i64) (.int .u8)), .d (.bool)], f13⟩ : Ev.Ct)), (14, (⟨[.pr (.int .i64) (.int .u8)], [.d (.bool)], f14⟩ : Ev.Ct)), (15, (⟨[.pr (.int .i64) (.int .u8), .pr (.int .i64) (.int .u8)], [.d (.int .i64)], f15⟩ : Ev.Ct))]) 4 18446744073709551616 (Ev.get f4_h) 4 [.d (.bool)]) 2045 [] (f4_k4 t131 a a_2 b b_2)) = f4_K4 := funext fun t131 => funext fun a => funext fun a_2 => funext fun b => funext fun b_2 => f4_g4 t131 a a_2 b b_2
  rw [f4_c3, e4]
  rfl
theorem f4_g2 (w : Int) (x : Int) (t114 : Bool) (a : Int) (a_2 : Int) (b : Int) (b_2 : Int) (c : Int) (c_2 : Int) : Ev.jfn Tryd.prog (Ev.get [(9, (⟨[.pr (.int .i64) (.int .u8)], [.d (.pr (.int .i64) (.int .u8))], f9⟩ : Ev.Ct)), (12, (⟨[], [.d (.bool)], f12⟩ : Ev.Ct)), (13, (⟨[.pr (.int .i64) (.int .u8), .int .i64, .int .i64], [.d (.pr (.int .i64) (.int .u8)), .d (.bool)], f13⟩ : Ev.Ct)), (14, (⟨[.pr (.int .i64) (.int .u8)], [.d (.bool)], f14⟩ : Ev.Ct)), (15, (⟨[.pr (.int .i64) (.int .u8), .pr (.int .i64) (.int .u8)], [.d (.int .i64)], f15⟩ : Ev.Ct))]) 4 18446744073709551616 (Ev.get f4_h) 4 [.d (.bool)] 8173 [] (f4_k2 w x t114 a a_2 b b_2 c c_2) = f4_K2 w x t114 a a_2 b b_2 c c_2 := by
  rw [Ev.pfn_eq (by decide)]
  have e3 : (fun w x a a_2 b b_2 c c_2 => (Ev.jfn Tryd.prog (Ev.get [(9, (⟨[.pr (.int .i64) (.int .u8)], [.d (.pr (.int .i64) (.int .u8))], f9⟩ : Ev.Ct)), (12, (⟨[], [.d (.bool)], f12⟩ : Ev.Ct)), (13, (⟨[.pr (.int .i64) (.int .u8), .int .i64, .int .i64], [.d (.pr (.int .i64) (.int .u8)), .d (.bool)], f13⟩ : Ev.Ct)), (14, (⟨[.pr (.int .i64) (.int .u8)], [.d (.bool)], f14⟩ : Ev.Ct)), (15, (⟨[.pr (.int .i64) (.int .u8), .pr (.int .i64) (.int .u8)], [.d (.int .i64)], f15⟩ : Ev.Ct))]) 4 18446744073709551616 (Ev.get f4_h) 4 [.d (.bool)]) 255 [] (f4_k3 w x a a_2 b b_2 c c_2)) = f4_K3 := funext fun w => funext fun x => funext fun a => funext fun a_2 => funext fun b => funext fun b_2 => funext fun c => funext fun c_2 => f4_g3 w x a a_2 b b_2 c c_2
  rw [f4_c2, e3]
  rfl
theorem f4_g1 (w : Int) (x : Int) (y : Int) (z : Int) (t88 : Bool) (a : Int) (a_2 : Int) (b : Int) (b_2 : Int) (c : Int) (c_2 : Int) : Ev.jfn Tryd.prog (Ev.get [(9, (⟨[.pr (.int .i64) (.int .u8)], [.d (.pr (.int .i64) (.int .u8))], f9⟩ : Ev.Ct)), (12, (⟨[], [.d (.bool)], f12⟩ : Ev.Ct)), (13, (⟨[.pr (.int .i64) (.int .u8), .int .i64, .int .i64], [.d (.pr (.int .i64) (.int .u8)), .d (.bool)], f13⟩ : Ev.Ct)), (14, (⟨[.pr (.int .i64) (.int .u8)], [.d (.bool)], f14⟩ : Ev.Ct)), (15, (⟨[.pr (.int .i64) (.int .u8), .pr (.int .i64) (.int .u8)], [.d (.int .i64)], f15⟩ : Ev.Ct))]) 4 18446744073709551616 (Ev.get f4_h) 4 [.d (.bool)] 254 [] (f4_k1 w x y z t88 a a_2 b b_2 c c_2) = f4_K1 w x y z t88 a a_2 b b_2 c c_2 := by
  rw [Ev.pfn_eq (by decide)]
  have e2 : (fun w x t114 a a_2 b b_2 c c_2 => (Ev.jfn Tryd.prog (Ev.get [(9, (⟨[.pr (.int .i64) (.int .u8)], [.d (.pr (.int .i64) (.int .u8))], f9⟩ : Ev.Ct)), (12, (⟨[], [.d (.bool)], f12⟩ : Ev.Ct)), (13, (⟨[.pr (.int .i64) (.int .u8), .int .i64, .int .i64], [.d (.pr (.int .i64) (.int .u8)), .d (.bool)], f13⟩ : Ev.Ct)), (14, (⟨[.pr (.int .i64) (.int .u8)], [.d (.bool)], f14⟩ : Ev.Ct)), (15, (⟨[.pr (.int .i64) (.int .u8), .pr (.int .i64) (.int .u8)], [.d (.int .i64)], f15⟩ : Ev.Ct))]) 4 18446744073709551616 (Ev.get f4_h) 4 [.d (.bool)]) 8173 [] (f4_k2 w x t114 a a_2 b b_2 c c_2)) = f4_K2 := funext fun w => funext fun x => funext fun t114 => funext fun a => funext fun a_2 => funext fun b => funext fun b_2 => funext fun c => funext fun c_2 => f4_g2 w x t114 a a_2 b b_2 c c_2
  have e3 : (fun w x a a_2 b b_2 c c_2 => (Ev.jfn Tryd.prog (Ev.get [(9, (⟨[.pr (.int .i64) (.int .u8)], [.d (.pr (.int .i64) (.int .u8))], f9⟩ : Ev.Ct)), (12, (⟨[], [.d (.bool)], f12⟩ : Ev.Ct)), (13, (⟨[.pr (.int .i64) (.int .u8), .int .i64, .int .i64], [.d (.pr (.int .i64) (.int .u8)), .d (.bool)], f13⟩ : Ev.Ct)), (14, (⟨[.pr (.int .i64) (.int .u8)], [.d (.bool)], f14⟩ : Ev.Ct)), (15, (⟨[.pr (.int .i64) (.int .u8), .pr (.int .i64) (.int .u8)], [.d (.int .i64)], f15⟩ : Ev.Ct))]) 4 18446744073709551616 (Ev.get f4_h) 4 [.d (.bool)]) 255 [] (f4_k3 w x a a_2 b b_2 c c_2)) = f4_K3 := funext fun w => funext fun x => funext fun a => funext fun a_2 => funext fun b => funext fun b_2 => funext fun c => funext fun c_2 => f4_g3 w x a a_2 b b_2 c c_2
  rw [f4_c1, e2, e3]
  rfl
theorem f4_t (x : Ev.As [.pr (.int .i64) (.int .u8), .pr (.int .i64) (.int .u8), .int .u16, .int .u16, .int .u16, .int .u16]) : Ev.evT Tryd.prog (Ev.get [(9, (⟨[.pr (.int .i64) (.int .u8)], [.d (.pr (.int .i64) (.int .u8))], f9⟩ : Ev.Ct)), (12, (⟨[], [.d (.bool)], f12⟩ : Ev.Ct)), (13, (⟨[.pr (.int .i64) (.int .u8), .int .i64, .int .i64], [.d (.pr (.int .i64) (.int .u8)), .d (.bool)], f13⟩ : Ev.Ct)), (14, (⟨[.pr (.int .i64) (.int .u8)], [.d (.bool)], f14⟩ : Ev.Ct)), (15, (⟨[.pr (.int .i64) (.int .u8), .pr (.int .i64) (.int .u8)], [.d (.int .i64)], f15⟩ : Ev.Ct))]) 4 18446744073709551616 (Ev.get f4_h) 4 [.pr (.int .i64) (.int .u8), .pr (.int .i64) (.int .u8), .int .u16, .int .u16, .int .u16, .int .u16] [.d (.bool)] x = f4 x := by
  have e1 : (fun w x y z t88 a a_2 b b_2 c c_2 => (Ev.jfn Tryd.prog (Ev.get [(9, (⟨[.pr (.int .i64) (.int .u8)], [.d (.pr (.int .i64) (.int .u8))], f9⟩ : Ev.Ct)), (12, (⟨[], [.d (.bool)], f12⟩ : Ev.Ct)), (13, (⟨[.pr (.int .i64) (.int .u8), .int .i64, .int .i64], [.d (.pr (.int .i64) (.int .u8)), .d (.bool)], f13⟩ : Ev.Ct)), (14, (⟨[.pr (.int .i64) (.int .u8)], [.d (.bool)], f14⟩ : Ev.Ct)), (15, (⟨[.pr (.int .i64) (.int .u8), .pr (.int .i64) (.int .u8)], [.d (.int .i64)], f15⟩ : Ev.Ct))]) 4 18446744073709551616 (Ev.get f4_h) 4 [.d (.bool)]) 254 [] (f4_k1 w x y z t88 a a_2 b b_2 c c_2)) = f4_K1 := funext fun w => funext fun x => funext fun y => funext fun z => funext fun t88 => funext fun a => funext fun a_2 => funext fun b => funext fun b_2 => funext fun c => funext fun c_2 => f4_g1 w x y z t88 a a_2 b b_2 c c_2
  rw [Ev.rfn_eq, f4_c0, e1]
  rfl
theorem f4_ok : Ev.CtOk Tryd.prog 4 ⟨[.pr (.int .i64) (.int .u8), .pr (.int .i64) (.int .u8), .int .u16, .int .u16, .int .u16, .int .u16], [.d (.bool)], f4⟩ := Ev.ct_of_ev (Ev.env_cons f9_ok (Ev.env_cons f12_ok (Ev.env_cons f13_ok (Ev.env_cons f14_ok (Ev.env_cons f15_ok Ev.env_nil))))) f4_t
end SxYtihfogahdofdmaaDoor.Te

end

section
/- The chapter's examples, in the model. -/
namespace SxYtihfogahdofdmaaDoor
open Sx
set_option maxRecDepth 1000000 in
theorem awake_m : m12 64 = some true := by kernel_rfl
end SxYtihfogahdofdmaaDoor

end

section
/- UnitsTimes, as a law of its model. -/
namespace SxYtihfogahdofdmaaDoor.Te
open Go Go.RowKit Sx Ev SxYtihfogahdofdmaaDoor
def pd (d : TDec) : Int × Int := (d.N, d.D)
theorem e9 {d : TDec} (hD : 0 ≤ d.D) : ∃ e, f9 ((d.N, d.D), ()) = some ((e.N, e.D), ()) ∧ RightD e := by
  obtain ⟨e, h1, h2⟩ := m9_eq (d := d) hD
  exact ⟨e, by simp only [f9, h1, Option.map_some], h2⟩
theorem e13 {d : TDec} {n m : Int} (hd : RightD d) (hn : 1 ≤ n) (hn' : n ≤ 1000000000) (hm : 1 ≤ m) (hm' : m ≤ 1000000000) :
    f13 ((d.N, d.D), n, m, ()) = some (((timesD d n m).1.N, (timesD d n m).1.D), (timesD d n m).2, ()) := by
  simp only [f13, m13_eq hd hn hn' hm hm', Option.map_some]
theorem e13_low {d : TDec} (hd : RightD d) : f13 ((d.N, d.D), 0, 1, ()) = some ((0, 0), false, ()) := by
  have : m13 64 d 0 1 = some (⟨0, 0⟩, false) := by
    unfold m13
    simp [m14_right hd, lt, gt, m13_J1]
  simp only [f13, this, Option.map_some]
theorem e13_far {d : TDec} (hd : RightD d) : f13 ((d.N, d.D), 1, 1000000001, ()) = some ((0, 0), false, ()) := by
  have : m13 64 d 1 1000000001 = some (⟨0, 0⟩, false) := by
    unfold m13
    simp [m14_right hd, lt, gt, m13_J1]
  simp only [f13, this, Option.map_some]
theorem e14 {d : TDec} (hd : RightD d) : f14 ((d.N, d.D), ()) = some (true, ()) := by
  simp only [f14, m14_right hd, Option.map_some]
def cmpD (a b : TDec) : Int := if six a < six b then -1 else if six a > six b then 1 else 0
theorem e15 {a b : TDec} (ha : RightD a) (hb : RightD b) : f15 ((a.N, a.D), (b.N, b.D), ()) = some (cmpD a b, ()) := by
  simp only [f15, m15_eq ha hb, Option.map_some]
  rfl
theorem e12 : f12 () = some (true, ()) := by
  simp only [f12, n12_eq, awake_m, Option.map_some]
theorem K4_true {a b : TDec} (ha : RightD a) (hb : RightD b) : f4_K4 false a.N a.D b.N b.D = some (true, ()) := by
  have hc : eqi (cmpD a b) (neg .i64 (cmpD b a)) = true := by
    unfold cmpD
    by_cases h1 : six a < six b
    · have h2 : ¬ six b < six a := by omega
      rw [if_pos h1, if_neg h2, if_pos h1]
      decide
    · by_cases h2 : six b < six a
      · rw [if_neg h1, if_pos h2, if_pos h2]
        decide
      · rw [if_neg h1, if_neg (show ¬ six a > six b from h2), if_neg h2, if_neg (show ¬ six b > six a from h1)]
        decide
  unfold f4_K4 f4_m4
  simp only [e13_low ha, e13_far ha, e15 ha hb, e15 hb ha, hc, e12, Option.bind_some, Bool.false_eq_true, if_false, Bool.not_false, if_true]
theorem cmp_times {a b c e : TDec} {w x : Int} (hw : 1 ≤ w) (hx : 1 ≤ x) (h1 : six c * x = six a * w) (h2 : six e * x = six b * w) : cmpD a b = cmpD c e := by
  have key : ∀ {p q r s : Int}, p * x = r * w → q * x = s * w → (p < q ↔ r < s) := by
    intro p q r s e1 e2
    have hx0 : 0 < x := by omega
    have hw0 : 0 < w := by omega
    rw [← Int.mul_lt_mul_right hx0, e1, e2, Int.mul_lt_mul_right hw0]
  have k1 := key h1 h2
  have k2 := key h2 h1
  unfold cmpD
  simp only [gt_iff_lt, k1, k2]
theorem K3_true {a b c : TDec} {w x : Int} (ha : RightD a) (hb : RightD b) (hc : RightD c) (hw : 1 ≤ w) (hw' : w ≤ 10000) (hx : 1 ≤ x) (hx' : x ≤ 10000) (h1 : six c * x = six a * w) :
    f4_K3 w x a.N a.D b.N b.D c.N c.D = some (true, ()) := by
  unfold f4_K3 f4_m3
  rw [e13 hb hw (by omega) hx (by omega)]
  simp only [Option.bind_some]
  cases h2 : (timesD b w x).2 with
  | false => simp only [Bool.false_eq_true, if_false]; exact K4_true ha hb
  | true =>
    obtain ⟨h3, h4⟩ := times_yes h2
    simp only [if_true, e15 ha hb, e15 hc h3, Option.bind_some, cmp_times hw hx h1 h4, nei, bne_self_eq_false]
    exact K4_true ha hb
theorem dec_eq2 (a : TDec) : (!(eqi a.N a.N && (eqi a.D a.D && true))) = false := by simp [eqi]
theorem fac {p : Int} (h0 : 0 ≤ p) (h1 : p ≤ 65535) : ∃ W, add .i64 1 (cvt .i64 (rem p 10000)) = W ∧ 1 ≤ W ∧ W ≤ 10000 := by
  refine ⟨_, rfl, ?_⟩
  have h2 : rem p 10000 = p % 10000 := by unfold rem; exact Int.tmod_eq_emod_of_nonneg h0
  have h3 : 0 ≤ p % 10000 ∧ p % 10000 < 10000 := by omega
  rw [h2, cvt64 (by omega) (by omega)]
  unfold add
  rw [wrap64 (by omega) (by omega)]
  omega
theorem mulW {a b : Int} (h1 : 1 ≤ a) (h2 : a ≤ 10000) (h3 : 1 ≤ b) (h4 : b ≤ 10000) : mul .i64 a b = a * b ∧ 1 ≤ a * b ∧ a * b ≤ 100000000 := by
  have k1 : 1 * 1 ≤ a * b := Int.mul_le_mul h1 h3 (by omega) (by omega)
  have k2 : a * b ≤ 10000 * 10000 := Int.mul_le_mul h2 h4 (by omega) (by omega)
  refine ⟨?_, by omega, by omega⟩
  unfold mul
  exact wrap64 (by omega) (by omega)
theorem times_law {a b : TDec} {p q r s : Int} (hDa : 0 ≤ a.D) (hDb : 0 ≤ b.D) (hp : 0 ≤ p ∧ p ≤ 65535) (hq : 0 ≤ q ∧ q ≤ 65535) (hr : 0 ≤ r ∧ r ≤ 65535) (hs : 0 ≤ s ∧ s ≤ 65535) :
    f4 ((a.N, a.D), (b.N, b.D), p, q, r, s, ()) = some (true, ()) := by
  obtain ⟨a', ea, ha⟩ := e9 hDa
  obtain ⟨b', eb, hb⟩ := e9 hDb
  obtain ⟨w, ew, hw, hw'⟩ := fac hp.1 hp.2
  obtain ⟨x, ex, hx, hx'⟩ := fac hq.1 hq.2
  obtain ⟨y, ey, hy, hy'⟩ := fac hr.1 hr.2
  obtain ⟨z, ez, hz, hz'⟩ := fac hs.1 hs.2
  unfold f4 f4_m0
  simp only [ea, eb, ew, ex, ey, ez, Option.bind_some, e13 ha hw (by omega) hx (by omega)]
  cases hok : (timesD a' w x).2 with
  | false => simp only [Bool.not_false, if_true, e12, Option.bind_some]
  | true =>
    obtain ⟨hc, h1⟩ := times_yes hok
    generalize hcd : (timesD a' w x).1 = c at hc h1
    simp only [Bool.not_true, Bool.false_eq_true, if_false, e13 hc hx (by omega) hw (by omega), times_of ha hw h1.symm, Option.bind_some, dec_eq2]
    have h0 : neb (eqi c.N 0) (eqi a'.N 0) = false := by
      have pc := p10_pos (6 - c.D.toNat)
      have pa := p10_pos (6 - a'.D.toNat)
      have z1 : ∀ {d : TDec} {k : Int}, 1 ≤ k → (six d * k = 0 ↔ d.N = 0) := by
        intro d k hk
        have pd := p10_pos (6 - d.D.toNat)
        unfold six
        constructor
        · intro h
          rcases Int.mul_eq_zero.1 h with h | h
          · rcases Int.mul_eq_zero.1 h with h | h
            · exact h
            · omega
          · omega
        · intro h; rw [h]; simp
      have : c.N = 0 ↔ a'.N = 0 := by rw [← z1 (d := c) hx, h1, z1 hw]
      unfold neb eqi
      by_cases h : a'.N = 0
      · rw [this.2 h, h]; rfl
      · have h' : c.N ≠ 0 := fun e => h (this.1 e)
        rw [show (c.N == 0) = false from by simpa using h', show (a'.N == 0) = false from by simpa using h]
        rfl
    simp only [h0, Bool.false_eq_true, if_false, e14 hc, Option.bind_some, Bool.not_true]
    unfold f4_K1 f4_m1
    simp only [Bool.false_eq_true, if_false, e13 hc hy (by omega) hz (by omega), Option.bind_some]
    cases htw : (timesD c y z).2 with
    | false => simp only [Bool.false_eq_true, if_false]; exact K3_true ha hb hc hw hw' hx hx' h1
    | true =>
      obtain ⟨hd, h2⟩ := times_yes htw
      obtain ⟨m1, m2, m3⟩ := mulW hw hw' hy hy'
      obtain ⟨n1, n2, n3⟩ := mulW hx hx' hz hz'
      have h3 : six (timesD c y z).1 * (x * z) = six a' * (w * y) := by
        calc six (timesD c y z).1 * (x * z) = six (timesD c y z).1 * z * x := by rw [Int.mul_comm x z, Int.mul_assoc]
          _ = six c * y * x := by rw [h2]
          _ = six c * x * y := by rw [Int.mul_assoc, Int.mul_comm y x, Int.mul_assoc]
          _ = six a' * w * y := by rw [h1]
          _ = six a' * (w * y) := by rw [Int.mul_assoc]
      simp only [if_true, m1, n1, e13 ha m2 (by omega) n2 (by omega), times_of hd n2 h3, Option.bind_some, Bool.not_true, Bool.false_eq_true, if_false, dec_eq2]
      unfold f4_K2 f4_m2
      simp only [Bool.false_eq_true, if_false]
      exact K3_true ha hb hc hw hw' hx hx' h1
theorem f4_true {a b : TDec} {p q r s : Int} (hDa : 0 ≤ a.D) (hDb : 0 ≤ b.D) (hp : 0 ≤ p ∧ p ≤ 65535) (hq : 0 ≤ q ∧ q ≤ 65535) (hr : 0 ≤ r ∧ r ≤ 65535) (hs : 0 ≤ s ∧ s ≤ 65535) (W : World) :
    Calls Go.Proofs.Tryd.prog 4 #[.agg #[.int .i64 a.N, .int .u8 a.D], .agg #[.int .i64 b.N, .int .u8 b.D], .int .u16 p, .int .u16 q, .int .u16 r, .int .u16 s] W (fun e W' => ∃ v, e = .returned v ∧ v = .bool true ∧ Below W.heap.size W W') := by
  refine (f4_ok [] W (fun k hk => by cases hk) ((a.N, a.D), (b.N, b.D), p, q, r, s, ()) (true, ()) [.agg #[.int .i64 a.N, .int .u8 a.D], .agg #[.int .i64 b.N, .int .u8 b.D], .int .u16 p, .int .u16 q, .int .u16 r, .int .u16 s]
    (times_law hDa hDb hp hq hr hs) ?_).mono fun e w' he => ?_
  · exact ⟨[.int .i64 a.N, .int .u8 a.D], _, rfl, ⟨[_], [_], rfl, rfl, rfl⟩, [.int .i64 b.N, .int .u8 b.D], _, rfl, ⟨[_], [_], rfl, rfl, rfl⟩, [.int .u16 p], _, rfl, rfl, [.int .u16 q], _, rfl, rfl, [.int .u16 r], _, rfl, rfl, [.int .u16 s], _, rfl, rfl, rfl⟩
  · obtain ⟨us, os, rfl, hB, _, hR⟩ := he
    obtain ⟨cs, q, rfl, h1, rfl, rfl⟩ := hR
    cases h1
    exact ⟨_, rfl, rfl, hB⟩
end SxYtihfogahdofdmaaDoor.Te

end
