/- Proved in the last of these 12 parts (this is part 12): what registers show, what is replied, and which lines a memory shows, is exactly as the document defines. Conditions: those of the given statement, and no others. -/
import Derived.Test.YtaojmefkpcdpnaaGreatRows
import Derived.Test.YtaojmefkpcdpnaaGreatParta
import Derived.Test.YtaojmefkpcdpnaaGreatParte
import Derived.Test.YtaojmefkpcdpnaaGreatPartk
import Derived.Lib.LaidTab
import Derived.SevenTiedAt
set_option linter.unusedVariables false
set_option linter.unusedSimpArgs false
set_option linter.unusedSectionVars false
section
namespace Go.Proofs.YtaojmefkpcdpnaaGreat.vtells
open Go.ChangeShapes Go.WideShapes Go.ChangeAt Go.RowKit Sx Ev
theorem own : ownKnob Tryz.prog.godebug = none := by kernel_rfl
theorem lo : laidOutB Tryz.prog = true := by kernel_rfl
theorem readable : ∀ t ∈ Tryz.f3.params.toList, Tryz.prog.readableRec t = true ∧ t < Tryz.prog.types.size := by
  rw [Tryz.params3]
  intro t ht
  simp at ht
  rcases ht with rfl | rfl | rfl | rfl <;> exact ⟨by kernel_rfl, of_decide_eq_true (by kernel_rfl)⟩
set_option maxRecDepth 100000 in
theorem contract (H : Type) (enc : TypeId × Value -> H) (W : World) (base : Nat) (args : Array Value) (ds gs : List (DataW H)) (before : List MemPlace)
    (hval : ∀ (j : Nat) t v, Tryz.f3.params[j]? = some t -> args[j]? = some v -> Value.okWide Tryz.prog W .any base t v)
    (hW : DataW.Whole enc Tryz.prog Tryz.f3.params.toList Rows.viewTellsSpec.vars false W args.toList ds gs before)
    (hsz : ∀ k ∈ DataW.weightsEach Tryz.prog (Tryz.f3.params.toList ++ Rows.viewTellsSpec.plain.varTypes Tryz.prog) (ds ++ gs), k ≤ reachBytes) :
    Calls Tryz.prog 3 args W fun e W' => ∃ v, e = .returned v ∧ Rows.viewTellsSpec.post enc Tryz.prog Tryz.f3 false true false false W args v W' := by
  have hW' := hW
  obtain ⟨p, q, hA0, hV, rfl, hfz, hnd⟩ := hW
  have hA : DataW.TrodAll enc Tryz.prog W 0 (fun _ => true) true Tryz.f3.params.toList args.toList ds p := hA0
  have hC := Rw.law_rowX Lx.qs3_ (ts := Tryz.f3.params) (by kernel_rfl) (law := fun x hx hd => Lx.vtells_row x hx (by
    have hA := hA
    rw [Tryz.params3] at hA hsz
    obtain ⟨v0, vs0, d0, ds0, p0, q0, hargs, rfl, rfl, h0, r0⟩ := trodAll_cons hA
    obtain ⟨v1, vs1, d1, ds1, p1, q1, rfl, rfl, rfl, h1, r1⟩ := trodAll_cons r0
    obtain ⟨v2, vs2, d2, ds2, p2, q2, rfl, rfl, rfl, h2, r2⟩ := trodAll_cons r1
    obtain ⟨v3, vs3, d3, ds3, p3, q3, rfl, rfl, rfl, h3, r3⟩ := trodAll_cons r2
    rw [hargs] at hd
    obtain ⟨u0, us0, e0, _, hd⟩ := hd
    cases e0
    obtain ⟨u1, us1, e1, _, hd⟩ := hd
    cases e1
    obtain ⟨u2, us2, e2, _, hd⟩ := hd
    cases e2
    obtain ⟨u3, us3, e3, hv3, _⟩ := hd
    cases e3
    obtain ⟨cs, hcs, hv3⟩ := hv3
    obtain ⟨n, hn⟩ := h3
    have hcells : v3.cells.toList = cs := by rw [hv3]; rfl
    rw [hcells] at hn
    obtain ⟨c0, r0', rfl, s0, hcs⟩ := hcs
    obtain ⟨c1, r1', rfl, s1, hcs⟩ := hcs
    obtain ⟨c2, c3, rfl, s2, s3⟩ := hcs
    obtain ⟨a0, k0, rfl, _⟩ := s0
    obtain ⟨a1, k1, rfl, _⟩ := s1
    obtain ⟨a2, k2, rfl, _⟩ := s2
    obtain ⟨a3, k3, rfl, _⟩ := s3
    have hw : ∀ k ∈ d3.weights Tryz.prog 28, k ≤ reachBytes := fun k hk => hsz k (DataW.weights_mem_each (j := 3) (t := 28) (d := d3) rfl rfl k hk)
    exact ⟨Rw.agg_len (i := 0) (e := 4) Tryz.underlying28 hn hw rfl (by kernel_rfl) (of_decide_eq_true (by kernel_rfl)) rfl, Rw.agg_len (i := 1) (e := 4) Tryz.underlying28 hn hw rfl (by kernel_rfl) (of_decide_eq_true (by kernel_rfl)) rfl, Rw.agg_len (i := 3) (e := 43) Tryz.underlying28 hn hw rfl (by kernel_rfl) (of_decide_eq_true (by kernel_rfl)) rfl⟩)) (fun j t v h1 h2 => ⟨_, _, _, hval j t v h1 h2⟩) hA
  rw [Tryz.params3] at hA
  obtain ⟨v0, vs0, d0, ds0, p0, q0, hargs, rfl, rfl, h0, r0⟩ := trodAll_cons hA
  obtain ⟨v1, vs1, d1, ds1, p1, q1, rfl, rfl, rfl, h1, r1⟩ := trodAll_cons r0
  obtain ⟨v2, vs2, d2, ds2, p2, q2, rfl, rfl, rfl, h2, r2⟩ := trodAll_cons r1
  obtain ⟨v3, vs3, d3, ds3, p3, q3, rfl, rfl, rfl, h3, r3⟩ := trodAll_cons r2
  obtain ⟨rfl, rfl, rfl⟩ := trodAll_nil r3
  refine hC.mono fun e W' hv => ?_
  obtain ⟨v, rfl, rfl, hB⟩ := hv
  exact ⟨_, rfl, law_post (tb := 4) lo readable rfl (by kernel_rfl) Tryz.underlying4 hW' ⟨rfl, rfl, rfl⟩ hB⟩
def litsOf (l : List (DataW Unit)) : List Value := l.flatMap fun
  | .lit (.int k n) => [.int k n]
  | .agg m => m.flatMap fun
    | .lit (.int k n) => [.int k n]
    | _ => []
  | _ => []
def cellsIn : DataW Unit -> Array Value
  | .agg l => (litsOf l).toArray
  | _ => #[]
def layAt (g : Nat) (d : DataW Unit) (h : Array Obj) : Array Obj := h.modify g fun
  | .cells _ t frozen => .cells (cellsIn d) t frozen
  | o => o
noncomputable def laidWorld (os : Os) : World :=
  { World.holding Tryz.prog os ⟨#[], #[], []⟩ with heap := (World.holding Tryz.prog os ⟨#[], #[], []⟩).heap }
def wargs : Array Value := #[.slice none 0 0, .slice none 0 0, .slice none 0 0, .agg #[.slice none 0 0, .slice none 0 0, .slice none 0 0, .slice none 0 0]]
theorem laid_met (os : Os) : laidMet Tryz.prog Rows.viewTellsRow.laid ((laidWorld os).forCall (fun _ _ => 0) ⟨#[], wargs, []⟩).memory :=
  laidMet_of_run' 8 (by kernel_rfl) (by kernel_rfl)
theorem reads (os : Os) {H : Type} (enc : TypeId × Value -> H) : ∃ places, DataW.whole enc Tryz.prog ((laidWorld os).forCall (fun _ _ => 0) ⟨#[], wargs, []⟩).memory Tryz.f3.params.toList Rows.viewTellsSpec.vars false wargs.toList 8 =
    some ([.nil, .nil, .nil, .agg [.nil, .nil, .nil, .nil]], [], places) :=
  ⟨[], by kernel_rfl⟩
set_option maxRecDepth 100000 in
theorem lifted (os : Os) (started : os.Started) (H : Type) (enc : TypeId × Value -> H) (F : Stop.Interp) :
    ReturnsInHanded {} Tryz.checked os 3 .any ((OpenSpec.ofChange Rows.viewTellsSpec).preRow enc Tryz.prog Tryz.f3 Rows.viewTellsRow.domain false Rows.viewTellsRow.laid) (((OpenSpec.ofChange Rows.viewTellsSpec).at F).post enc Tryz.prog Tryz.f3 false true false false) := by
  obtain ⟨places, hx⟩ := reads os enc
  refine returnsInHanded_of_row (C := Tryz.checked) (s := OpenSpec.ofChange Rows.viewTellsSpec) own started (by kernel_rfl) Tryz.func3
    (witness_row_at (enc := enc) (C := Tryz.checked) false (laidWorld os) wargs rfl (by kernel_rfl) (by kernel_rfl) (by kernel_rfl)
      (OpenSpec.preRow_of_cond 8 hx (by kernel_rfl) (fun k hk => by cases hk) (by kernel_rfl) (laid_met os))) ?_
  intro W base args ds gs before hval hW _ _ hz hL _ _
  exact contract H enc W base args ds gs before hval hW (fun k hk => by simpa using List.all_eq_true.1 hz k hk)
theorem said : Rows.ViewTellsSaid :=
  OpenClaim.holds_of_cond 3 Tryz.f3 rfl rfl rfl rfl rfl rfl rfl ⟨rfl, rfl, rfl, rfl, rfl⟩ rfl rfl rfl rfl rfl (by kernel_rfl) Tryz.func3 (by kernel_rfl)
    (of_decide_eq_true (by kernel_rfl)) (by unfold Func.isWrapper; first | (rw [if_pos (by decide +kernel)]; kernel_rfl) | (rw [if_neg (by decide +kernel)]; exact ⟨rfl, rfl⟩))
    (fun os started H enc _ F => by rw [OpenClaim.pre_eq_preRow]; exact lifted os started H enc F)
end Go.Proofs.YtaojmefkpcdpnaaGreat.vtells
end
