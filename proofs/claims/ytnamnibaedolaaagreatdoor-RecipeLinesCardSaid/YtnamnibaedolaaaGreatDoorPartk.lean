/- Proved in the last of these 12 parts (this is part 11): the law RecipeLines of chapter 14 returns true at every recipe and every number of lines ahead. Conditions: those of the given statement, and no others. -/
import Derived.Test.YtnamnibaedolaaaGreatDoorPartj
import Derived.Stop.LaidErr
import Derived.Lib.LaidTab
set_option linter.unusedVariables false
set_option linter.unusedSimpArgs false
set_option linter.unusedSectionVars false
section
namespace Go.Proofs.Lx
open Go Go.RowKit Go.ChangeShapes Go.Proofs Go.Proofs.YtnamnibaedolaaaGreatDoor
theorem gP : Tryz.prog.globalNamed p10 = some 1 := by kernel_rfl
theorem heap_var {W W' : World} {n : String} {g : Nat} {cs : Array Value} (hg : Tryz.prog.globalNamed n = some g) (h : W.var? Tryz.prog n = some cs) (hB : Below W.heap.size W W') : W'.var? Tryz.prog n = some cs := by
  unfold World.var? at h ⊢
  rw [hg] at h ⊢
  simp only [Option.bind_some] at h ⊢
  have hlt : g < W.heap.size := by
    rcases Nat.lt_or_ge g W.heap.size with h' | h'
    · exact h'
    · simp [Array.getElem?_eq_none h'] at h
  rw [hB.block g hlt]
  exact h
theorem I0_laid {W : World} (hL : laidMet Tryz.prog Rows.recipeTellsRow.laid W) : ∀ W', Below W.heap.size W W' -> I0 W' := by
  intro W' hB
  have t2 : laidMet Tryz.prog ((p10, Lib.tabData .u64 Lib.pow10Tab) :: (Rows.recipeTellsRow.laid.drop 3)) W := hL.tail.tail
  exact heap_var gP (Lib.tabIs_of_head gP (t := 210) (by kernel_rfl) Tryz.underlying210 Tryz.underlying150 (by kernel_rfl) (by kernel_rfl) t2) hB
open Ev Sx
theorem ok8u {x : Int} (h : (Lit.int .u8 x).wf = true) : 0 ≤ x ∧ x ≤ 255 := by
  simp [Lit.wf] at h
  have e1 : IntKind.u8.min = 0 := rfl
  have e2 : IntKind.u8.max = 255 := rfl
  omega
end Go.Proofs.Lx
end
section
namespace Go.Proofs.Lx
open Go Ev Sx Go.RowKit Go.ChangeShapes Go.Proofs
theorem I0_laid_lines {W : World} (hL : laidMet Tryz.prog YtnamnibaedolaaaGreatDoor.Rows.recipeLinesRow.laid W) : ∀ W', Below W.heap.size W W' -> I0 W' := I0_laid hL
theorem rl_row (x : As [.pr .str QET1, .int .u8]) (h : Rw.okA [.pr .str QET1, .int .u8] x) : q7x_ x = some (true, ()) :=
  lines_law (r := x.1) (ahead := x.2.1) (ok8u h.2.1) fun p hp s hs => by
    have h1 := h.1.2.2 p hp
    have h2 := h1.2.2.2 s hs
    exact (ok8u h2.2.1.2).1
end Go.Proofs.Lx
end
