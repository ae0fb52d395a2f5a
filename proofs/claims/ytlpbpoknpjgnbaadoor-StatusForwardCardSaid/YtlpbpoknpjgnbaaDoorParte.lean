/- Proved in the last of these 11 parts (this is part 5): StatusForward: whatever the records and the numbers that wait, the law returns true.. Conditions: those of the given statement, and no others. -/
import Derived.Test.YtlpbpoknpjgnbaaDoorPartd
import Derived.Test.YtlpbpoknpjgnbaaDoorParta
import Derived.Shelf.Strconv.Itoa1
import Derived.Shelf.LaysM
import Derived.Shelf.Strconv.Itoa3
import Derived.Shelf.Strconv.Itoa4
import Derived.Lib.AppendIntMem
import Derived.WalkKit
import Derived.BigCall
import Derived.BigGuard
import Derived.Lib.Walk
import Derived.Ground.MpProg
import Derived.Ground.Names2Prog
import Derived.Shelf.Pu.ParseUintPublic10
import Derived.Test.YtlpbpoknpjgnbaaDoorProg
import Derived.Test.YtlpbpoknpjgnbaaDoorRows
set_option linter.unusedVariables false
set_option linter.unusedSimpArgs false
set_option linter.unusedSectionVars false
section
namespace Ev
open Go Go.RowKit Sx
def idF : Fr -> List Nat
  | [] => []
  | (_, s) :: q => idS s ++ idF q
def keepF (fr : Fr) : List Nat -> Fr
  | [] => []
  | t :: q => match get fr t with
    | some s => (t, s) :: keepF fr q
    | none => keepF fr q
def reach (own : List (Nat × Ent)) : Nat -> List Nat -> List Nat -> List Nat
  | 0, _, d => d
  | _, [], d => d
  | n + 1, i :: q, d => if d.contains i then reach own n q d else match get own i with
    | some e => reach own n (idE e ++ q) (d ++ [i])
    | none => reach own n q d
def pos : List Nat -> Nat -> Nat
  | [], _ => 0
  | j :: q, i => if j = i then 0 else pos q i + 1
def okF (ds : List Nat) : Fr -> Fr
  | [] => []
  | (t, s) :: q => if (idS s).all (fun i => ds.contains i) = true then (t, s) :: okF ds q else okF ds q
def renF (f : Nat -> Nat) : Fr -> Fr
  | [] => []
  | (t, s) :: q => (t, renS f s) :: renF f q
def renO (own : List (Nat × Ent)) (f : Nat -> Nat) (all : List Nat) : List Nat -> Option (List (Nat × Ent))
  | [] => some []
  | i :: q => match get own i with
    | some e => if (idE e).all (fun j => all.contains j) = true then (renO own f all q).map fun r => (f i, renE f e) :: r else none
    | none => none
inductive Co where
  | row (t : Nat) (e : TypeId)
  | frz (t : Nat)
  | unl (t : Nat)
  | frb (t : Nat)
  | agd (t : Nat) (ty : Ty)
  | rwb (t j : Nat) (e : TypeId)
  | slf (t j : Nat)
  | opn (t : Nat) (c : List (Nat × TypeId))
  | opc (t j : Nat) (c : List (Nat × TypeId))
structure Hint where
  co : List Co
  keep : List Nat
def cellT : Ty -> List Ty
  | .pr a b => cellT a ++ cellT b
  | .wr a => cellT a
  | .un => []
  | t => [t]
def dcl : SV -> Ty -> SV
  | .k (.slice none 0 0), .sl t => .d (.sl t) []
  | s, _ => s
def dcell : List SV -> List Ty -> List SV
  | s :: q, t :: r => dcl s t :: dcell q r
  | q, _ => q
def frzAll : List Nat -> St -> St
  | [], S => S
  | j :: q, S => match frz S j with
    | some S' => frzAll q S'
    | none => frzAll q S
def frbS (P : Program) (t : Nat) (S : St) : St := match get S.fr t with
  | some (.pb i _) => match get S.own i with
    | some (.box _ cs) => let S1 := frzAll (rowsC cs) S
      match get S1.own i with
      | some (.box T cs1) => match tyc P T with
        | some y => { S1 with own := pute i (.box T (dcell cs1 (cellT y))) S1.own, log := i :: S1.log }
        | none => S1
      | _ => S1
    | _ => S
  | _ => S
def agdS (t : Nat) (ty : Ty) (S : St) : St := match get S.fr t with
  | some s => match toD ty s with
    | some x => if t < S.nt then { S with fr := (t, .d ty x) :: S.fr } else S
    | none => S
  | none => S
def rwbS (P : Program) (t j : Nat) (e : TypeId) (S : St) : St := match get S.fr t, rowTy P e with
  | some (.pb i _), some ⟨t0, _⟩ => match get ((S.nx, Ent.row t0 e []) :: S.own) i with
    | some (.box T cs) => match cs[j]? with
      | some (.k (.slice none 0 0)) => { S with own := pute i (.box T (cs.set j (.row S.nx))) ((S.nx, .row t0 e []) :: S.own), nx := S.nx + 1, log := i :: S.log }
      | _ => S
    | _ => S
  | _, _ => S
def slfS (t j : Nat) (S : St) : St := match get S.fr t with
  | some (.pb i _) => match get S.own i with
    | some (.box T cs) => match cs[j]? with
      | some (.k (.pointer none)) => { S with own := pute i (.box T (cs.set j (.opb false i 0))) S.own, log := i :: S.log }
      | some (.pb i' o') => { S with own := pute i (.box T (cs.set j (.opb true i' o'))) S.own, log := i :: S.log }
      | _ => S
    | _ => S
  | _ => S
def opnC (c : List (Nat × TypeId)) : Nat -> List Ty -> List SV
  | _, [] => []
  | n, t :: q => (match get c n with
    | some _ => .k (.slice none 0 0)
    | none => .d t (dfl t)) :: opnC c (n + 1) q
def filO (P : Program) (i : Nat) : List (Nat × TypeId) -> St -> St
  | [], S => S
  | (j, e) :: q, S => filO P i q (match rowTy P e with
    | some ⟨t0, _⟩ => match get ((S.nx, Ent.row t0 e []) :: S.own) i with
      | some (.rowo t e0 b xs cs) => match cs[j]? with
        | some (.k (.slice none 0 0)) => { S with own := pute i (.rowo t e0 b xs (cs.set j (.row S.nx))) ((S.nx, .row t0 e []) :: S.own), nx := S.nx + 1, log := i :: S.log }
        | _ => S
      | _ => S
    | none => S)
def opnE (P : Program) (i : Nat) (c : List (Nat × TypeId)) (S : St) : St := match get S.own i with
  | some (.row t e xs) => filO P i c { S with own := pute i (.rowo t e false xs (opnC c 0 (cellT t))) S.own, log := i :: S.log }
  | some (.rowo _ _ _ _ _) => filO P i c S
  | _ => S
def opnS (P : Program) (t : Nat) (c : List (Nat × TypeId)) (S : St) : St := match get S.fr t with
  | some (.row i) => opnE P i c S
  | _ => S
def opcS (P : Program) (t j : Nat) (c : List (Nat × TypeId)) (S : St) : St := match get S.fr t with
  | some (.pb b _) => match get S.own b with
    | some (.box _ cs) => match cs[j]? with
      | some (.row i) => opnE P i c S
      | _ => S
    | _ => S
  | _ => S
def coer (P : Program) : List Co -> St -> St
  | [], S => S
  | .row t e :: q, S => match get S.fr t, rowTy P e with
    | some (.k (.slice none 0 0)), some ⟨t0, _⟩ => if t < S.nt then coer P q { S with own := (S.nx, .row t0 e []) :: S.own, nx := S.nx + 1, fr := (t, .row S.nx) :: S.fr } else coer P q S
    | _, _ => coer P q S
  | .frz t :: q, S => match get S.fr t with
    | some (.row i) => match frz S i with
      | some S' => coer P q S'
      | none => coer P q S
    | some (.k (.slice none 0 0)) => coer P q S
    | _ => coer P q S
  | .unl t :: q, S => match get S.fr t with
    | some (.row i) => match get S.own i with
      | some (.row t0 e xs) => if i < S.ln ∧ t < S.nt then coer P q { S with own := repl i S.nx (.row t0 e xs) S.own, nx := S.nx + 1, log := i :: S.log, fr := (t, .row S.nx) :: S.fr } else coer P q S
      | _ => coer P q S
    | _ => coer P q S
  | .frb t :: q, S => coer P q (frbS P t S)
  | .agd t ty :: q, S => coer P q (agdS t ty S)
  | .rwb t j e :: q, S => coer P q (rwbS P t j e S)
  | .slf t j :: q, S => coer P q (slfS t j S)
  | .opn t c :: q, S => coer P q (opnS P t c S)
  | .opc t j c :: q, S => coer P q (opcS P t j c S)
def lentI (n : Nat) : List (Nat × Ent) -> List Nat
  | [] => []
  | (i, _) :: q => if i < n then i :: lentI n q else lentI n q
def newI (n : Nat) : List Nat -> List Nat
  | [] => []
  | i :: q => if i < n then newI n q else i :: newI n q
def nmb (n : Nat) (ds : List Nat) (i : Nat) : Nat := if i < n then i else n + pos (newI n ds) i
def nrm (P : Program) (h : Hint) (S0 : St) : Option St :=
  match S0.up with
  | [] =>
    let S := coer P h.co S0
    let fr := keepF S.fr h.keep
    let ds := reach S.own 1000 (lentI S.ln S.own ++ idF fr) []
    if nodup ds = true then
      match renO S.own (nmb S.ln ds) ds ds with
      | some own => some { fr := renF (nmb S.ln ds) (okF ds fr), nt := S.nt, up := [], own := own, nx := S.ln + (newI S.ln ds).length, log := [], ln := S.ln }
      | none => none
    else none
  | _ => none
section
variable {B : Nat -> Prop} {F : Lx} {w0 : Bs} {wr : Wr} {pl pl' : List Place} {S S' : St} {l l' : List Value} {ls : List (List Value)} {w w' : World} {L L' M : Lx} {P : Program}
theorem unl_ok (h : Rel B F w0 wr pl S l ls w) {t i : Nat} {t0 : Ty} {e : TypeId} {xs : List (Vl t0)} (hg : get S.fr t = some (.row i)) (ho : get S.own i = some (.row t0 e xs)) (hlt : t < S.nt) :
    ∃ pl', Rel B F w0 wr pl' { S with own := repl i S.nx (.row t0 e xs) S.own, nx := S.nx + 1, log := i :: S.log, fr := (t, .row S.nx) :: S.fr } l ls w := by
  obtain ⟨pre, post, h1, h2⟩ := get_split ho
  obtain ⟨p, hp, how⟩ := h.ent (i, .row t0 e xs) (qw_ ho)
  have e0 : blk p.a = plb pl i := by unfold plb; rw [hp]; rfl
  have e3 : lx pl S.own = lx pl pre ++ plb pl i :: lx pl post := by rw [h1, lx_split]
  have hL := h.hL
  have hs : Stp B (lx pl pre ++ plb pl i :: lx pl post) (lx pl pre ++ blk p.a :: lx pl post) F [plb pl i] w w := by
    rw [e0, <- e3]
    exact ⟨(Fz.refl _ _), fun k hk => by simp at hk; rw [e3, <- hk]; simp, Sub.refl _ _, hL⟩
  have h3 := h.rep h1 h2 hs (e' := .row t0 e xs) ⟨p, q1u_ _, by rw [e0, <- e3]; exact how⟩
  obtain ⟨p', hp', hv⟩ := h.fr t _ hg
  rw [hp] at hp'
  cases hp'
  have h4 := h3.set (d := t) (s := .row S.nx) (v := .slice p.a p.n p.c) hlt ⟨p, by rw [h.nx]; exact q1u_ _, rfl⟩
  have e1 : l.set t (.slice p.a p.n p.c) = l := by
    have : t < l.length := by rw [h.nt]; exact hlt
    rw [<- hv, List.getD_eq_getElem?_getD, List.getElem?_eq_getElem this]
    simp
  rw [e1] at h4
  exact ⟨_, h4⟩
theorem dcell_ok {L : Lx} : ∀ {cs : List SV} {ts : List Ty} {us : List Value}, DenL pl L w cs us -> DenL pl L w (dcell cs ts) us
  | [], ts, us, h => by cases ts <;> exact h
  | s :: q, [], us, h => h
  | s :: q, t :: r, us, ⟨v, vs, h1, h2, h3⟩ => by
    refine ⟨v, vs, h1, ?_, dcell_ok h3⟩
    unfold dcl
    split
    · cases h2
      exact den_d (t := .sl _) rfl (slice_nil _ _ _ _ _)
    · exact h2
theorem frzAll_ok : ∀ {q : List Nat} {S : St}, Rel B F w0 wr pl S l ls w -> Rel B F w0 wr pl (frzAll q S) l ls w ∧ (frzAll q S).nt = S.nt
  | [], S, h => ⟨h, rfl⟩
  | j :: q, S, h => by
    unfold frzAll
    split
    · rename_i S' hf
      obtain ⟨a, b⟩ := frzAll_ok (q := q) (frz_ok h hf)
      exact ⟨a, by rw [b, frz_nt hf]⟩
    · exact frzAll_ok h
theorem frbS_ok (h : Rel B F w0 wr pl S l ls w) {t : Nat} : Rel B F w0 wr pl (frbS P t S) l ls w ∧ (frbS P t S).nt = S.nt := by
  unfold frbS
  split
  · rename_i i o hg
    split
    · rename_i T0 cs ho
      obtain ⟨a, b⟩ := frzAll_ok (q := rowsC cs) h
      dsimp only
      split
      · rename_i T cs1 ho1
        split
        · rename_i y hy
          have he := a.ent (i, .box T cs1) (qw_ ho1)
          obtain ⟨g, n, c, us, h1, h2, h3, h4⟩ := he
          have hmem : ∀ k, some k ∈ [plb pl i] -> some k ∈ lx pl (frzAll (rowsC cs) S).own := fun k hk => by
            simp at hk
            rw [hk]
            exact List.mem_map_of_mem (f := fun e : Nat × Ent => plb pl e.1) (qw_ ho1)
          exact ⟨a.mod ho1 ⟨Fz.refl _ _, hmem, Sub.refl _ _, a.hL⟩ ⟨g, n, c, us, h1, h2, dcell_ok h3, h4⟩, b⟩
        · exact ⟨a, b⟩
      · exact ⟨a, b⟩
    · exact ⟨h, rfl⟩
  · exact ⟨h, rfl⟩
theorem agdS_ok (h : Rel B F w0 wr pl S l ls w) {t : Nat} {ty : Ty} : Rel B F w0 wr pl (agdS t ty S) l ls w ∧ (agdS t ty S).nt = S.nt := by
  unfold agdS
  split
  · rename_i s hg
    split
    · rename_i x hx
      split
      · rename_i hlt
        obtain ⟨cs, h1, h2⟩ := toD_rel hx (h.fr t s hg)
        have h3 := h.set (d := t) (s := .d ty x) (v := l.getD t undef) hlt ⟨cs, h1, h2⟩
        have e1 : l.set t (l.getD t undef) = l := by
          have : t < l.length := by rw [h.nt]; exact hlt
          rw [List.getD_eq_getElem?_getD, List.getElem?_eq_getElem this]
          simp
        rw [e1] at h3
        exact ⟨h3, rfl⟩
      · exact ⟨h, rfl⟩
    · exact ⟨h, rfl⟩
  · exact ⟨h, rfl⟩
theorem DenL.setv {L : Lx} : ∀ {cs : List SV} {us : List Value} {j : Nat} {s : SV} {u : Value}, DenL pl L w cs us -> us[j]? = some u -> Den pl L w s u -> DenL pl L w (cs.set j s) us
  | [], us, j, s, u, h, hj, hs => by simpa using h
  | c :: q, us, 0, s, u, ⟨v, vs, h1, h2, h3⟩, hj, hs => by
    subst h1
    simp at hj
    subst hj
    exact ⟨v, vs, rfl, hs, h3⟩
  | c :: q, us, j + 1, s, u, ⟨v, vs, h1, h2, h3⟩, hj, hs => by
    subst h1
    exact ⟨v, vs, rfl, h2, DenL.setv h3 (by simpa using hj) hs⟩
theorem slfS_ok (h : Rel B F w0 wr pl S l ls w) {t j : Nat} : Rel B F w0 wr pl (slfS t j S) l ls w ∧ (slfS t j S).nt = S.nt := by
  unfold slfS
  split
  · rename_i i o hg
    split
    · rename_i T cs ho
      have hmem : ∀ k, some k ∈ [plb pl i] -> some k ∈ lx pl S.own := fun k hk => by
        simp only [List.mem_singleton] at hk
        rw [hk]
        exact List.mem_map_of_mem (f := fun e : Nat × Ent => plb pl e.1) (qw_ ho)
      obtain ⟨g, n, c, us, h1, h2, h3, h4⟩ := h.ent (i, .box T cs) (qw_ ho)
      split
      · rename_i hc
        obtain ⟨u, q1, q2⟩ := h3.at hc
        have q2 : u = .pointer none := q2
        subst q2
        exact ⟨h.mod (e' := .box T (cs.set j (.opb false i 0))) ho ⟨Fz.refl _ _, hmem, Sub.refl _ _, h.hL⟩ ⟨g, n, c, us, h1, h2, h3.setv q1 (s := .opb false i 0) ⟨(fun e => nomatch e), fun _ => rfl⟩, h4⟩, rfl⟩
      · rename_i i' o' hc
        obtain ⟨u, q1, q2⟩ := h3.at hc
        exact ⟨h.mod (e' := .box T (cs.set j (.opb true i' o'))) ho ⟨Fz.refl _ _, hmem, Sub.refl _ _, h.hL⟩ ⟨g, n, c, us, h1, h2, h3.setv q1 (s := .opb true i' o') ⟨fun _ => q2, (fun e => nomatch e)⟩, h4⟩, rfl⟩
      · exact ⟨h, rfl⟩
    · exact ⟨h, rfl⟩
  · exact ⟨h, rfl⟩
theorem rwbS_ok (h : Rel B F w0 wr pl S l ls w) {t j : Nat} {e : TypeId} : ∃ pl', Rel B F w0 wr pl' (rwbS P t j e S) l ls w ∧ (rwbS P t j e S).nt = S.nt := by
  unfold rwbS
  split
  · rename_i i o t0 z hg hr
    split
    · rename_i T cs ho
      split
      · rename_i hc
        have hS : Stp B (lx pl S.own) (blk (none : Option Addr) :: lx pl S.own) F [] w w := Stp.none h.hL rfl
        have a := h.push ⟨none, 0, 0⟩ (.row t0 e []) hS ⟨_, q1u_ _, Ow.nil _ _ _ _⟩
        have ho' : get ({ S with own := (S.nx, Ent.row t0 e []) :: S.own, nx := S.nx + 1 } : St).own i = some (.box T cs) := ho
        obtain ⟨g, n, c, us, h1, h2, h3, h4⟩ := a.ent (i, .box T cs) (qw_ ho')
        obtain ⟨u, q1, q2⟩ := h3.at hc
        have q2 : u = .slice none 0 0 := q2
        subst q2
        have hmem : ∀ k, some k ∈ [plb (pl ++ [⟨none, 0, 0⟩]) i] -> some k ∈ lx (pl ++ [⟨none, 0, 0⟩]) ({ S with own := (S.nx, Ent.row t0 e []) :: S.own, nx := S.nx + 1 } : St).own := fun k hk => by
          simp only [List.mem_singleton] at hk
          rw [hk]
          exact List.mem_map_of_mem (f := fun e : Nat × Ent => plb (pl ++ [⟨none, 0, 0⟩]) e.1) (qw_ ho')
        have m := a.mod (e' := .box T (cs.set j (.row S.nx))) ho' ⟨Fz.refl _ _, hmem, Sub.refl _ _, a.hL⟩ ⟨g, n, c, us, h1, h2, h3.setv q1 (s := .row S.nx) ⟨⟨none, 0, 0⟩, by rw [h.nx]; exact q1u_ _, rfl⟩, h4⟩
        exact ⟨_, m, rfl⟩
      · exact ⟨pl, h, rfl⟩
    · exact ⟨pl, h, rfl⟩
  · exact ⟨pl, h, rfl⟩
theorem filO_ok : ∀ {c : List (Nat × TypeId)} {pl : List Place} {S : St} {i : Nat}, Rel B F w0 wr pl S l ls w -> ∃ pl', Rel B F w0 wr pl' (filO P i c S) l ls w ∧ (filO P i c S).nt = S.nt
  | [], pl, S, i, h => ⟨pl, h, rfl⟩
  | (j, e) :: q, pl, S, i, h => by
    unfold filO
    split
    · rename_i t0 z hr
      split
      · rename_i t e0 b xs cs ho
        split
        · rename_i hc
          have hS : Stp B (lx pl S.own) (blk (none : Option Addr) :: lx pl S.own) F [] w w := Stp.none h.hL rfl
          have a := h.push ⟨none, 0, 0⟩ (.row t0 e []) hS ⟨_, q1u_ _, Ow.nil _ _ _ _⟩
          have ho' : get ({ S with own := (S.nx, Ent.row t0 e []) :: S.own, nx := S.nx + 1 } : St).own i = some (.rowo t e0 b xs cs) := ho
          obtain ⟨p, ro, us, h1, h2, h3, h4⟩ := a.ent (i, .rowo t e0 b xs cs) (qw_ ho')
          have m := a.told (e' := .rowo t e0 b xs (cs.set j (.row S.nx))) ho' ⟨p, ro, us, h1, h2, h3, fun hb => by
            have h4 := h4 hb
            obtain ⟨u, q1, q2⟩ := h4.at hc
            have q2 : u = .slice none 0 0 := q2
            subst q2
            exact h4.setv q1 (s := .row S.nx) ⟨⟨none, 0, 0⟩, by rw [h.nx]; exact q1u_ _, rfl⟩⟩
          obtain ⟨pl', r1, r2⟩ := filO_ok (c := q) (i := i) m
          exact ⟨pl', r1, r2⟩
        · exact filO_ok h
      · exact filO_ok h
    · exact filO_ok h
theorem opnE_ok (h : Rel B F w0 wr pl S l ls w) {i : Nat} {c : List (Nat × TypeId)} : ∃ pl', Rel B F w0 wr pl' (opnE P i c S) l ls w ∧ (opnE P i c S).nt = S.nt := by
  unfold opnE
  split
  · rename_i t e xs ho
    obtain ⟨p, h1, h2⟩ := h.ent _ (qw_ ho)
    obtain ⟨rs, h3, h4⟩ := ow_raw h2
    have m := h.told (e' := .rowo t e false xs (opnC c 0 (cellT t))) ho ⟨p, rs, [], h1, by
      show Ow _ _ _ _ _ _ _ (rs ++ [])
      rw [List.append_nil]
      exact h3, h4, fun hb => by cases hb⟩
    obtain ⟨pl', r1, r2⟩ := filO_ok (P := P) (c := c) (i := i) m
    exact ⟨pl', r1, r2⟩
  · exact filO_ok h
  · exact ⟨pl, h, rfl⟩
theorem opnS_ok (h : Rel B F w0 wr pl S l ls w) {t : Nat} {c : List (Nat × TypeId)} : ∃ pl', Rel B F w0 wr pl' (opnS P t c S) l ls w ∧ (opnS P t c S).nt = S.nt := by
  unfold opnS
  split
  · exact opnE_ok h
  · exact ⟨pl, h, rfl⟩
theorem opcS_ok (h : Rel B F w0 wr pl S l ls w) {t j : Nat} {c : List (Nat × TypeId)} : ∃ pl', Rel B F w0 wr pl' (opcS P t j c S) l ls w ∧ (opcS P t j c S).nt = S.nt := by
  unfold opcS
  split
  · split
    · split
      · exact opnE_ok h
      · exact ⟨pl, h, rfl⟩
    · exact ⟨pl, h, rfl⟩
  · exact ⟨pl, h, rfl⟩
theorem coer_ok : ∀ {q : List Co} {pl : List Place} {S : St}, Rel B F w0 wr pl S l ls w -> ∃ pl', Rel B F w0 wr pl' (coer P q S) l ls w ∧ (coer P q S).nt = S.nt
  | [], pl, S, h => ⟨pl, h, rfl⟩
  | .row t e :: q, pl, S, h => by
    unfold coer
    split
    · rename_i t0 z hg hr
      split
      · rename_i hlt
        have hS : Stp B (lx pl S.own) (blk (none : Option Addr) :: lx pl S.own) F [] w w := Stp.none h.hL rfl
        have h' := h.push ⟨none, 0, 0⟩ (.row t0 e []) hS ⟨_, q1u_ _, Ow.nil _ _ _ _⟩
        have hv : l.getD t undef = .slice none 0 0 := h.fr t _ hg
        have h2 := h'.set (d := t) (s := .row S.nx) (v := .slice none 0 0) hlt ⟨⟨none, 0, 0⟩, by rw [h.nx]; exact q1u_ _, rfl⟩
        have e1 : l.set t (.slice none 0 0) = l := by
          have : t < l.length := by rw [h.nt]; exact hlt
          rw [<- hv, List.getD_eq_getElem?_getD, List.getElem?_eq_getElem this]
          simp
        rw [e1] at h2
        obtain ⟨pl', a1, a2⟩ := coer_ok (q := q) h2
        exact ⟨pl', a1, a2⟩
      · exact coer_ok h
    · exact coer_ok h
  | .frz t :: q, pl, S, h => by
    unfold coer
    split
    · split
      · rename_i S' hf
        obtain ⟨pl', a1, a2⟩ := coer_ok (q := q) (frz_ok h hf)
        exact ⟨pl', a1, by rw [a2, frz_nt hf]⟩
      · exact coer_ok h
    · exact coer_ok h
    · exact coer_ok h
  | .unl t :: q, pl, S, h => by
    unfold coer
    split
    · rename_i i hg
      split
      · rename_i t0 e xs ho
        split
        · rename_i hc
          obtain ⟨pl1, h1⟩ := unl_ok h hg ho hc.2
          obtain ⟨pl', a1, a2⟩ := coer_ok (q := q) h1
          exact ⟨pl', a1, a2⟩
        · exact coer_ok h
      · exact coer_ok h
    · exact coer_ok h
  | .frb t :: q, pl, S, h => by
    unfold coer
    obtain ⟨a, b⟩ := frbS_ok (P := P) (t := t) h
    obtain ⟨pl', a1, a2⟩ := coer_ok (q := q) a
    exact ⟨pl', a1, by rw [a2, b]⟩
  | .agd t ty :: q, pl, S, h => by
    unfold coer
    obtain ⟨a, b⟩ := agdS_ok (t := t) (ty := ty) h
    obtain ⟨pl', a1, a2⟩ := coer_ok (q := q) a
    exact ⟨pl', a1, by rw [a2, b]⟩
  | .slf t j :: q, pl, S, h => by
    unfold coer
    obtain ⟨a, b⟩ := slfS_ok (t := t) (j := j) h
    obtain ⟨pl', a1, a2⟩ := coer_ok (q := q) a
    exact ⟨pl', a1, by rw [a2, b]⟩
  | .rwb t j e :: q, pl, S, h => by
    unfold coer
    obtain ⟨pl1, a, b⟩ := rwbS_ok (P := P) (t := t) (j := j) (e := e) h
    obtain ⟨pl', a1, a2⟩ := coer_ok (q := q) a
    exact ⟨pl', a1, by rw [a2, b]⟩
  | .opn t c :: q, pl, S, h => by
    unfold coer
    obtain ⟨pl1, a, b⟩ := opnS_ok (P := P) (t := t) (c := c) h
    obtain ⟨pl', a1, a2⟩ := coer_ok (q := q) a
    exact ⟨pl', a1, by rw [a2, b]⟩
  | .opc t j c :: q, pl, S, h => by
    unfold coer
    obtain ⟨pl1, a, b⟩ := opcS_ok (P := P) (t := t) (j := j) (c := c) h
    obtain ⟨pl', a1, a2⟩ := coer_ok (q := q) a
    exact ⟨pl', a1, by rw [a2, b]⟩
theorem okF_mem {ds : List Nat} : ∀ {fr : Fr} {x : Nat × SV}, x ∈ okF ds fr -> x ∈ fr ∧ ∀ i ∈ idS x.2, i ∈ ds
  | (t, s) :: q, x, h => by
    unfold okF at h
    split at h
    · rename_i hall
      rcases List.mem_cons.1 h with h | h
      · subst h
        exact ⟨List.mem_cons_self .., fun i hi => by simpa using List.all_eq_true.1 hall i hi⟩
      · obtain ⟨a, b⟩ := okF_mem h
        exact ⟨List.mem_cons_of_mem _ a, b⟩
    · obtain ⟨a, b⟩ := okF_mem h
      exact ⟨List.mem_cons_of_mem _ a, b⟩
theorem keepF_mem {fr : Fr} : ∀ {q : List Nat} {x : Nat × SV}, x ∈ keepF fr q -> get fr x.1 = some x.2
  | t :: q, x, h => by
    unfold keepF at h
    split at h
    · rename_i s hs
      rcases List.mem_cons.1 h with h | h
      · subst h; exact hs
      · exact keepF_mem h
    · exact keepF_mem h
theorem renF_get {f : Nat -> Nat} : ∀ {fr : Fr} {t : Nat} {s : SV}, get (renF f fr) t = some s -> ∃ s', (t, s') ∈ fr ∧ s = renS f s'
  | (j, q) :: fr, t, s, h => by
    unfold renF get at h
    split at h
    · rename_i e; cases h; subst e; exact ⟨q, List.mem_cons_self .., rfl⟩
    · obtain ⟨s', h1, h2⟩ := renF_get h
      exact ⟨s', List.mem_cons_of_mem _ h1, h2⟩
theorem pos_at : ∀ {ds : List Nat} {i : Nat}, i ∈ ds -> ds[pos ds i]? = some i
  | j :: q, i, h => by
    unfold pos
    split
    · rename_i e; subst e; rfl
    · rename_i hne
      rcases List.mem_cons.1 h with h | h
      · exact absurd h.symm hne
      · simpa using pos_at h
theorem newI_mem {n : Nat} : ∀ {ds : List Nat} {i : Nat}, i ∈ newI n ds ↔ i ∈ ds ∧ ¬ i < n
  | [], i => by simp [newI]
  | j :: q, i => by
    unfold newI
    split
    · rename_i hj
      rw [newI_mem, List.mem_cons]
      constructor
      · rintro ⟨h1, h2⟩; exact ⟨.inr h1, h2⟩
      · rintro ⟨h1 | h1, h2⟩
        · subst h1; exact absurd hj h2
        · exact ⟨h1, h2⟩
    · rename_i hj
      rw [List.mem_cons, newI_mem, List.mem_cons]
      constructor
      · rintro (h | ⟨h1, h2⟩)
        · subst h; exact ⟨.inl rfl, hj⟩
        · exact ⟨.inr h1, h2⟩
      · rintro ⟨h1 | h1, h2⟩
        · exact .inl h1
        · exact .inr ⟨h1, h2⟩
def npl (pl : List Place) (n : Nat) (ds : List Nat) : List Place := pl.take n ++ (newI n ds).map fun i => (pl[i]?).getD ⟨none, 0, 0⟩
theorem npl_at {n : Nat} (hn : n ≤ pl.length) {ds : List Nat} {i : Nat} (hi : i ∈ ds) {p : Place} (hp : pl[i]? = some p) : (npl pl n ds)[nmb n ds i]? = some p := by
  unfold npl nmb
  split
  · rename_i hlt
    rw [List.getElem?_append_left (by rw [List.length_take]; omega), List.getElem?_take_of_lt hlt]
    exact hp
  · rename_i hlt
    rw [List.getElem?_append_right (by rw [List.length_take]; omega), List.length_take, show n + pos (newI n ds) i - min n pl.length = pos (newI n ds) i by omega, List.getElem?_map, pos_at (newI_mem.2 ⟨hi, hlt⟩)]
    simp [hp]
theorem npl_pre {n : Nat} {ds : List Nat} {i : Nat} {p : Place} (hi : i < n) (hp : pl[i]? = some p) : (npl pl n ds)[i]? = some p := by
  unfold npl
  have := (List.getElem?_eq_some_iff.1 hp).1
  rw [List.getElem?_append_left (by rw [List.length_take]; omega), List.getElem?_take_of_lt hi]
  exact hp
theorem renO_ok {own : List (Nat × Ent)} {f : Nat -> Nat} {all : List Nat} : ∀ {q : List Nat} {r : List (Nat × Ent)}, renO own f all q = some r ->
    (∀ x ∈ r, ∃ i e, i ∈ q ∧ get own i = some e ∧ (∀ j ∈ idE e, j ∈ all) ∧ x = (f i, renE f e)) ∧ r.map (·.1) = q.map f ∧ ∀ i ∈ q, ∃ e, get own i = some e
  | [], r, h => by cases h; exact ⟨by simp, rfl, by simp⟩
  | i :: q, r, h => by
    unfold renO at h
    split at h
    · rename_i e hg
      split at h
      · rename_i hall
        obtain ⟨r', h1, rfl⟩ := Option.map_eq_some_iff.1 h
        obtain ⟨a1, a2, a3⟩ := renO_ok h1
        refine ⟨fun x hx => ?_, by simp [a2], fun j hj => ?_⟩
        · rcases List.mem_cons.1 hx with hx | hx
          · exact ⟨i, e, List.mem_cons_self .., hg, fun j hj => by simpa using List.all_eq_true.1 hall j hj, hx⟩
          · obtain ⟨i', e', b1, b2⟩ := a1 x hx
            exact ⟨i', e', List.mem_cons_of_mem _ b1, b2⟩
        · rcases List.mem_cons.1 hj with hj | hj
          · subst hj; exact ⟨e, hg⟩
          · exact a3 j hj
      · cases h
    · cases h
theorem nrm_ok {hi : Hint} {S0 : St} (h : Rel B F w0 wr pl S0 l ls w) (hn : nrm P hi S0 = some S') : ∃ wr' pl', Rel B F w0 wr' pl' S' l ls w := by
  unfold nrm at hn
  split at hn
  · rename_i hup
    obtain ⟨pl1, h1, hnt⟩ := coer_ok (P := P) (q := hi.co) h
    have hls : ls = [] := by have := h.up; rw [hup] at this; exact this
    generalize coer P hi.co S0 = S at hn h1 hnt
    simp only at hn
    generalize hds : reach S.own 1000 (lentI S.ln S.own ++ idF (keepF S.fr hi.keep)) [] = ds at hn
    have hln : S.ln ≤ pl1.length := by
      rw [h1.hln]
      rcases Nat.eq_zero_or_pos w0.pl.length with h0 | h0
      · omega
      · have := (List.getElem?_eq_some_iff.1 (h1.pre (w0.pl.length - 1) _ (List.getElem?_eq_getElem (by omega)))).1
        omega
    split at hn
    · rename_i hnd
      have hnd := nodup_ok hnd
      split at hn
      · rename_i own hown
        cases hn
        obtain ⟨r1, r2, r3⟩ := renO_ok hown
        have hplace : ∀ i ∈ ds, ∃ p, pl1[i]? = some p := fun i hi => by
          obtain ⟨e, he⟩ := r3 i hi
          exact (h1.ent _ (qw_ he)).place
        have hren : ∀ i ∈ ds, (npl pl1 S.ln ds)[nmb S.ln ds i]? = pl1[i]? := fun i hi => by
          obtain ⟨p, hp⟩ := hplace i hi
          rw [hp]
          exact npl_at hln hi hp
        have hplb : ∀ i ∈ ds, plb (npl pl1 S.ln ds) (nmb S.ln ds i) = plb pl1 i := fun i hi => by unfold plb; rw [hren i hi]
        have hlx : lx (npl pl1 S.ln ds) own = ds.map (plb pl1) := by
          have : lx (npl pl1 S.ln ds) own = (own.map (·.1)).map (plb (npl pl1 S.ln ds)) := by unfold lx; rw [List.map_map]; rfl
          rw [this, r2, List.map_map]
          exact List.map_congr_left fun i hi => hplb i hi
        have hin : ∀ k, some k ∈ ds.map (plb pl1) -> some k ∈ lx pl1 S.own := fun k hk => by
          obtain ⟨i, hi, hk⟩ := List.mem_map.1 hk
          obtain ⟨e, he⟩ := r3 i hi
          rw [<- hk]
          exact List.mem_map_of_mem (f := fun e : Nat × Ent => plb pl1 e.1) (qw_ he)
        have hL : LOk B (ds.map (plb pl1)) F w := by
          refine ⟨?_, fun k hk => h1.hL.lo k (hin k hk), fun k hk => h1.hL.hi k (hin k hk), h1.hL.base, h1.hL.far⟩
          rw [List.pairwise_map]
          rw [List.pairwise_iff_getElem]
          intro i j hi hj hij k hk hk'
          obtain ⟨e, he⟩ := r3 ds[i] (List.getElem_mem hi)
          obtain ⟨e', he'⟩ := r3 ds[j] (List.getElem_mem hj)
          have hne : ds[i] ≠ ds[j] := fun e => (List.pairwise_iff_getElem.1 hnd) i j hi hj hij e
          exact LOk.apart2 h1.hL he he' hne hk hk'
        have hs : Sub w (ds.map (plb pl1) ++ F) (lx pl1 S.own ++ F) := fun k hk => by
          rcases List.mem_append.1 hk with hk | hk
          · exact .inl (List.mem_append_left _ (hin k hk))
          · exact .inl (List.mem_append_right _ hk)
        have hx : Ext pl1 (lx pl1 S.own ++ F) w pl1 (ds.map (plb pl1) ++ F) w := ⟨fun _ _ h => h, by intro α R cs x h; exact R.grow h hs, by intro α R b o x h; exact h.grow hs⟩
        have hrel : Rel B F w0 ⟨w, lx (npl pl1 S.ln ds) own ++ F, S.ln + (newI S.ln ds).length, npl pl1 S.ln ds, ids own⟩ (npl pl1 S.ln ds) { fr := renF (nmb S.ln ds) (okF ds (keepF S.fr hi.keep)), nt := S.nt, up := [], own := own, nx := S.ln + (newI S.ln ds).length, log := [], ln := S.ln } l [] w := by
          refine ⟨by rw [hlx]; exact hL, h1.hB, fun i p hi => npl_pre (by rw [h1.hln]; exact (List.getElem?_eq_some_iff.1 hi).1) (h1.pre i p hi), h1.hI, h1.hln, by simp [npl]; omega, h1.nt, fun x hx' => ?_, fun t s hs' => ?_, rfl, ⟨Fz.refl _ _, Sub.refl _ _, Nat.le_refl _, fun _ _ h => h, fun e he _ => List.mem_map_of_mem (f := fun e : Nat × Ent => e.1) he, fun _ _ _ _ _ _ => rfl⟩⟩
          · obtain ⟨i, e, b1, b2, b3, rfl⟩ := r1 x hx'
            have hE := h1.ent _ (qw_ b2)
            show EntD (npl pl1 S.ln ds) (lx (npl pl1 S.ln ds) own ++ F) w (nmb S.ln ds i) (renE (nmb S.ln ds) e)
            rw [hlx]
            exact renE_den (fun j hj => hren j (b3 j hj)) (hren i b1) (hE.ext hx (fun k _ => rfl) (fun _ _ _ _ _ h => h.grow hs))
          · obtain ⟨s', h2, rfl⟩ := renF_get hs'
            obtain ⟨h3, h4⟩ := okF_mem h2
            have h5 := h1.fr t s' (keepF_mem h3)
            show Den (npl pl1 S.ln ds) (lx (npl pl1 S.ln ds) own ++ F) w _ _
            rw [hlx]
            exact renS_den (fun j hj => hren j (h4 j hj)) (h5.ext hx)
        rw [hls]
        exact ⟨_, _, hrel⟩
      · cases hn
    · cases hn
  · cases hn
end
end Ev
end
section
namespace Ev
open Go Go.RowKit Sx
inductive Ex where
  | n
  | r
  | x (id : Nat)
abbrev Kt (R : Type) := Ex -> St -> Option R
section
variable {R : Type}
def seqK (P : Program) (h : Option Hint) (g : St -> Option R) (k : Kt R) : Kt R := fun e S => match e with
  | .n => match h with
    | some h => (nrm P h S).bind g
    | none => g S
  | .r => k .r S
  | .x i => k (.x i) S
def blockK (id : Nat) (k : Kt R) : Kt R := fun e S => match e with
  | .n => k .n S
  | .r => k .r S
  | .x i => if i = id then k .n S else k (.x i) S
def quietOp : Op -> Bool
  | .move _ | .assign _ | .pick .. | .binOp .. | .unOp .. | .convert .. | .indexAddr .. | .index .. | .fieldAddr .. | .field .. | .load .. | .extract .. | .build .. | .slice .. | .makeFunc .. | .makeInterface .. | .lookup .. | .entry .. | .nilCheck .. => true
  | .call ⟨.builtin .len, _, _⟩ | .call ⟨.builtin .min, _, _⟩ | .call ⟨.builtin .max, _, _⟩ => true
  | _ => false
def sched (ops : Array Oper) : Nat -> Array Bool -> List (Nat × Bool)
  | 0, _ => []
  | n + 1, listed =>
    let rs := Region.ready .any ops listed
    match rs.find? (fun i => ((ops[i]?).map fun o => quietOp o.op).getD false && Region.free .any ops listed i) with
    | some i => (i, true) :: sched ops n (listed.setIfInBounds i true)
    | none => match rs with
      | i :: _ => (i, false) :: sched ops n (listed.setIfInBounds i true)
      | [] => []
def sch (ops : List Oper) : List (Nat × Bool) := sched ops.toArray ops.length (Array.replicate ops.length false)
def regOk (P : Program) (ops : List Oper) : Bool :=
  P.follows .mixedOrders && (Region.noSelect ops.toArray && schedOk ops.toArray (sch ops) (Array.replicate ops.toArray.size false) && decide ((sch ops).length ≤ ops.toArray.size))
def mkSg (ops : Array Oper) : Nat -> Array Bool -> Sg
  | 0, _ => .nil
  | n + 1, listed =>
    let rs := Region.ready .any ops listed
    match rs.find? (fun i => ((ops[i]?).map fun o => quietOp o.op).getD false && Region.free .any ops listed i) with
    | some i => .tk i (mkSg ops n (listed.setIfInBounds i true))
    | none => match rs with
      | [] => .nil
      | _ :: _ => rs.foldr (fun i r => .alt i (mkSg ops n (listed.setIfInBounds i true)) r) .stop
def sgT (ops : List Oper) : Sg := mkSg ops.toArray ops.length (Array.replicate ops.length false)
def regTok (P : Program) (ops : List Oper) : Bool :=
  P.follows .mixedOrders && (Region.noSelect ops.toArray && sgOk ops.toArray false (sgT ops) (Array.replicate ops.toArray.size false))
def Sg.cnt : Sg -> Nat
  | .nil => 1
  | .tk _ q => q.cnt
  | .alt _ q r => q.cnt + r.cnt
  | .stop => 0
def regn (P : Program) (env : Env) (cl : Cl R) (ops : List Oper) (draw : Bool) (S : St) (k : St -> Option R) : Option R :=
  if draw = true then (if regOk P ops = true then rdw P env cl ops (dps ops []) (permute ops (sch ops)) [] S k else if regTok P ops = true then rdt P env cl ops (dps ops []) (sgT ops) [] S k else none) else rg P env cl ops ops S k
def ev (P : Program) (env : Env) (cl : Cl R) (fuel : Nat) (hs : Nat -> Option Hint) : Nat -> Code -> St -> Kt R -> Option R
  | _, .skip, S, k => k .n S
  | _, .label _, S, k => k .n S
  | _, .ret, S, k => k .r S
  | _, .exit id, S, k => k (.x id) S
  | p, .seq x y, S, k => ev P env cl fuel hs (2 * p) x S (seqK P (hs p) (fun S' => ev P env cl fuel hs (2 * p + 1) y S' k) k)
  | p, .block id c, S, k => ev P env cl fuel hs (2 * p) c S (blockK id k)
  | p, .cond c x y, S, k => match c with
    | .tmp t => if t < S.nt then match get S.fr t with
      | some (.d .bool b) => if b = true then ev P env cl fuel hs (2 * p) x { S with fr := (t, .d .bool true) :: S.fr } k else ev P env cl fuel hs (2 * p + 1) y { S with fr := (t, .d .bool false) :: S.fr } k
      | _ => none else none
    | .const (.bool b) => if b = true then ev P env cl fuel hs (2 * p) x S k else ev P env cl fuel hs (2 * p + 1) y S k
    | _ => none
  | _, .region _ ⟨ops⟩ draw, S, k => regn P env cl ops draw S (k .n)
  | p, .loop c, S, k => match hs p with
    | some h => (nrm P h S).bind fun S0 => loopF (fun self S => ev P env cl fuel hs (2 * p) c S (seqK P (hs p) self k)) fuel S0
    | none => loopF (fun self S => ev P env cl fuel hs (2 * p) c S (seqK P (hs p) self k)) fuel S
  | _, .rangeFunc _ _ _ _, _, _ => none
  | _, .scope _, _, _ => none
  | _, .goto _, _, _ => none
  | _, .refuse _, _, _ => none
end
def exOf : Ex -> Exit
  | .n => .normal
  | .r => .ret
  | .x i => .exit i
section
variable {R : Type} {B : Nat -> Prop} {F : Lx} {w0 : Bs} {P : Program} {env : Env} {cl : Cl R} {fuel : Nat} {hs : Nat -> Option Hint} {r : R} {ls : List (List Value)}
def KOk (B : Nat -> Prop) (F : Lx) (w0 : Bs) (ls : List (List Value)) (wr : Wr) (Hn : Prop) (k : Kt R) (r : R) (Q : Exit -> Act -> World -> Prop) : Prop :=
  ∀ e wr' pl S l w, Rel B F w0 wr' pl S l ls w -> (Hn -> wr' = wr) -> k e S = some r -> Q (exOf e) (mk l) w
theorem regn_ok (henv : EnvOk P w0.I env) (hcl : ClOk P w0.I cl) {ops : List Oper} {draw : Bool} {id : Nat} {wr : Wr} {pl : List Place} {S : St} {l : List Value} {w : World} {k : St -> Option R} {Q : Exit -> Act -> World -> Prop} (hQ : PF Q)
    (h : Rel B F w0 wr pl S l ls w) (hv : regn P env cl ops draw S k = some r)
    (hk : ∀ pl' S' l' w', Rel B F w0 wr pl' S' l' ls w' -> k S' = some r -> Q .normal (mk l') w') : CW P (.region id ⟨ops⟩ draw) Q l w := by
  unfold regn at hv
  split at hv
  · rename_i hd
    subst hd
    split at hv
    · rename_i hr
      simp only [regOk, Bool.and_eq_true] at hr
      have hB : (Region.noSelect ops.toArray && schedOk ops.toArray (sch ops) (Array.replicate ops.toArray.size false) && decide ((sch ops).length ≤ ops.toArray.size)) = true := by
        simp only [Bool.and_eq_true]
        exact ⟨hr.2.1, hr.2.2⟩
      refine cw_region_draw (sch ops) hr.1 hB hQ ?_
      exact rdw_ok (T := []) henv hcl (dps_ok ops [] [] (by simp) rfl (fun j m p hj => by simp at hj)) (h.call (Fz.drew _ _)) rfl hv hk
    · split at hv
      · rename_i hr
        simp only [regTok, Bool.and_eq_true] at hr
        refine cw_region_tree (sgT ops) hr.1 (by simp only [Bool.and_eq_true]; exact hr.2) hQ ?_
        exact rdt_ok (T := []) henv hcl (dps_ok ops [] [] (by simp) rfl (fun j m p hj => by simp at hj)) (h.call (Fz.drew _ _)) rfl hv hk
      · cases hv
  · rename_i hd
    have hd : draw = false := by simpa using hd
    subst hd
    exact cw_region (rg_ok henv hcl h hv hk)
theorem ev_ok (henv : EnvOk P w0.I env) (hcl : ClOk P w0.I cl) {Hn : Prop} (hHn : Hn -> ∀ p, hs p = none) : ∀ (c : Code) (p : Nat) (wr : Wr) (pl : List Place) (S : St) (l : List Value) (w : World) (k : Kt R) (Q : Exit -> Act -> World -> Prop), PF Q ->
    Rel B F w0 wr pl S l ls w -> ev P env cl fuel hs p c S k = some r -> KOk B F w0 ls wr Hn k r Q -> CW P c Q l w
  | .skip, p, wr, pl, S, l, w, k, Q, hQ, h, hv, hk => cw_skip (hk .n wr pl S l w h (fun _ => rfl) (by simpa [ev] using hv))
  | .label _, p, wr, pl, S, l, w, k, Q, hQ, h, hv, hk => cw_label (hk .n wr pl S l w h (fun _ => rfl) (by simpa [ev] using hv))
  | .ret, p, wr, pl, S, l, w, k, Q, hQ, h, hv, hk => cw_ret (hk .r wr pl S l w h (fun _ => rfl) (by simpa [ev] using hv))
  | .exit id, p, wr, pl, S, l, w, k, Q, hQ, h, hv, hk => cw_exit (hk (.x id) wr pl S l w h (fun _ => rfl) (by simpa [ev] using hv))
  | .seq x y, p, wr, pl, S, l, w, k, Q, hQ, h, hv, hk => by
    rw [ev] at hv
    refine cw_seq (ev_ok henv hcl hHn x (2 * p) wr pl S l w _ _ hQ.then h hv (fun e wr' pl' S' l' w' h' hw hv' => ?_))
    cases e with
    | n =>
      unfold seqK at hv'
      simp only at hv'
      refine then_n ?_
      split at hv'
      · rename_i hn hpn
        obtain ⟨S1, h1, hv'⟩ := q1o_ hv'
        obtain ⟨wr2, pl2, h2⟩ := nrm_ok h' h1
        exact ev_ok henv hcl hHn y (2 * p + 1) wr2 pl2 S1 l' w' k Q hQ h2 hv' (fun e wr3 pl3 S3 l3 w3 a1 a2 a3 => hk e wr3 pl3 S3 l3 w3 a1 (fun hn => by have := hHn hn p; rw [hpn] at this; cases this) a3)
      · exact ev_ok henv hcl hHn y (2 * p + 1) wr' pl' S' l' w' k Q hQ h' hv' (fun e wr3 pl3 S3 l3 w3 a1 a2 a3 => hk e wr3 pl3 S3 l3 w3 a1 (fun hn => (a2 hn).trans (hw hn)) a3)
    | r => exact then_ret (hk .r wr' pl' S' l' w' h' hw hv')
    | x i => exact then_exit (hk (.x i) wr' pl' S' l' w' h' hw hv')
  | .block id c, p, wr, pl, S, l, w, k, Q, hQ, h, hv, hk => by
    rw [ev] at hv
    refine cw_block (ev_ok henv hcl hHn c (2 * p) wr pl S l w _ _ hQ.inBlock h hv (fun e wr' pl' S' l' w' h' hw hv' => ?_))
    cases e with
    | n => exact inBlock_n (hk .n wr' pl' S' l' w' h' hw hv')
    | r => exact inBlock_ret (hk .r wr' pl' S' l' w' h' hw hv')
    | x i =>
      unfold blockK at hv'
      simp only at hv'
      split at hv'
      · rename_i hi
        subst hi
        exact inBlock_same (hk .n wr' pl' S' l' w' h' hw hv')
      · rename_i hi
        exact inBlock_other (by simpa using hi) (hk (.x i) wr' pl' S' l' w' h' hw hv')
  | .cond c x y, p, wr, pl, S, l, w, k, Q, hQ, h, hv, hk => by
    unfold ev at hv
    split at hv
    · rename_i t
      split at hv
      · rename_i hlt
        split at hv
        · rename_i b hb
          have hd := den_bool (h.fr t _ hb)
          have hs2 : ∀ b', b' = b -> Rel B F w0 wr pl { S with fr := (t, .d .bool b') :: S.fr } l ls w := fun b' e => by
            subst e
            have h2 := h.set hlt (h.fr t _ hb)
            have e : l.set t (l.getD t undef) = l := by
              have : t < l.length := by rw [h.nt]; exact hlt
              rw [List.getD_eq_getElem?_getD, List.getElem?_eq_getElem this]
              simp
            rw [e] at h2
            exact h2
          refine cw_cond (t := b) hd (fun hb1 => ?_) (fun hb1 => ?_)
          · rw [if_pos hb1] at hv
            exact ev_ok henv hcl hHn x (2 * p) wr pl _ l w k Q hQ (hs2 true hb1.symm) hv hk
          · rw [if_neg (by rw [hb1]; decide)] at hv
            exact ev_ok henv hcl hHn y (2 * p + 1) wr pl _ l w k Q hQ (hs2 false hb1.symm) hv hk
        · cases hv
      · cases hv
    · rename_i b
      refine cw_cond (t := b) rfl (fun hb1 => ?_) (fun hb1 => ?_)
      · rw [if_pos hb1] at hv
        exact ev_ok henv hcl hHn x (2 * p) wr pl _ l w k Q hQ h hv hk
      · rw [if_neg (by rw [hb1]; decide)] at hv
        exact ev_ok henv hcl hHn y (2 * p + 1) wr pl _ l w k Q hQ h hv hk
    · cases hv
  | .region id ⟨ops⟩ draw, p, wr, pl, S, l, w, k, Q, hQ, h, hv, hk => by
    rw [ev] at hv
    exact regn_ok henv hcl hQ h hv (fun pl' S' l' w' a1 a2 => hk .n wr pl' S' l' w' a1 (fun _ => rfl) a2)
  | .loop c, p, wr, pl, S, l, w, k, Q, hQ, h, hv, hk => by
    have body : ∀ (self : St -> Option R) (s : St) (l : List Value) (w : World), (∃ wr' pl', Rel B F w0 wr' pl' s l ls w ∧ (Hn -> wr' = wr)) -> ev P env cl fuel hs (2 * p) c s (seqK P (hs p) self k) = some r ->
        CW P c (Exit.then (fun a w => ∃ l', a = mk l' ∧ ∃ s', (∃ wr' pl', Rel B F w0 wr' pl' s' l' ls w ∧ (Hn -> wr' = wr)) ∧ self s' = some r) Q) l w := by
      rintro self s l w ⟨wr1, pl1, h1, hw1⟩ hv
      refine ev_ok henv hcl hHn c (2 * p) wr1 pl1 s l w _ _ hQ.then h1 hv (fun e wr' pl' S' l' w' h' hw hv' => ?_)
      cases e with
      | n =>
        unfold seqK at hv'
        simp only at hv'
        show ∃ l'', mk l' = mk l'' ∧ _
        split at hv'
        · rename_i hn hpn
          obtain ⟨S1, h1, hv'⟩ := q1o_ hv'
          obtain ⟨wr2, pl2, h2⟩ := nrm_ok h' h1
          exact ⟨l', rfl, S1, ⟨wr2, pl2, h2, fun hn => by have := hHn hn p; rw [hpn] at this; cases this⟩, hv'⟩
        · exact ⟨l', rfl, S', ⟨wr', pl', h', fun hn => (hw hn).trans (hw1 hn)⟩, hv'⟩
      | r => exact then_ret (hk .r wr' pl' S' l' w' h' (fun hn => (hw hn).trans (hw1 hn)) hv')
      | x i => exact then_exit (hk (.x i) wr' pl' S' l' w' h' (fun hn => (hw hn).trans (hw1 hn)) hv')
    rw [ev] at hv
    split at hv
    · rename_i hn hpn
      obtain ⟨S1, h1, hv⟩ := q1o_ hv
      obtain ⟨wr2, pl2, h2⟩ := nrm_ok h h1
      exact cw_loop _ r (fun s l w => ∃ wr' pl', Rel B F w0 wr' pl' s l ls w ∧ (Hn -> wr' = wr)) body ⟨wr2, pl2, h2, fun hn => by have := hHn hn p; rw [hpn] at this; cases this⟩ hv
    · exact cw_loop _ r (fun s l w => ∃ wr' pl', Rel B F w0 wr' pl' s l ls w ∧ (Hn -> wr' = wr)) body ⟨wr, pl, h, fun _ => rfl⟩ hv
  | .rangeFunc _ _ _ _, p, wr, pl, S, l, w, k, Q, hQ, h, hv, hk => by rw [ev] at hv; cases hv
  | .scope _, p, wr, pl, S, l, w, k, Q, hQ, h, hv, hk => by rw [ev] at hv; cases hv
  | .goto _, p, wr, pl, S, l, w, k, Q, hQ, h, hv, hk => by rw [ev] at hv; cases hv
  | .refuse _, p, wr, pl, S, l, w, k, Q, hQ, h, hv, hk => by rw [ev] at hv; cases hv
end
end Ev
end
section
namespace Ev
open Go Go.RowKit Sx
section
variable {R : Type}
def parF : Nat -> List SV -> Fr
  | _, [] => []
  | n, s :: q => (n, s) :: parF (n + 1) q
def resK1 (S : St) (v : ResultVar) (P : Program) (K : SV -> Option R) : Option R :=
  match v with
  | .tmp t => if t < S.nt then (match get S.fr t with
    | some s => K s
    | none => none) else none
  | .cell a t => match get S.fr a with
    | some (.pb i o) => match get S.own i with
      | some (.box _ cs) => match cutT P t o cs with
        | some s => K s
        | none => none
      | some (.row t0 _ xs) => match arOf P t with
        | some (m, _, n) => if t0.size = n ∧ o = 0 then need (eqi (xs.length : Int) (m : Int)) (match tyc P t with
          | some (.ar m' t1) => if m' = m then (match q5j_ (.sl t0) (.sl t1) xs with
            | some ys => K (.d (.ar m' t1) ys)
            | none => none) else none
          | _ => none) else none
        | none => none
      | _ => none
    | some (.prw i j sz o) => match get S.own i, tyc P t with
      | some (.row t0 _ xs), some fy => if sz = t0.size then (at? xs j).bind fun y => match prj t0 o fy y with
        | some z => K (.d fy z)
        | none => none
        else none
      | _, _ => none
    | _ => none
def resK (P : Program) (S : St) : List ResultVar -> (List SV -> Option R) -> Option R
  | [], K => K []
  | v :: q, K => resK1 S v P fun s => resK P S q fun r => K (s :: r)
def retK (P : Program) (fn : Func) (K : St -> SV -> Option R) : Kt R := fun e S => match e with
  | .x _ => none
  | _ => match S.up with
    | (n, fr) :: up => resK P S fn.results.toList fun ss => K { S with fr := fr, nt := n, up := up } (retS ss)
    | [] => none
def evC (P : Program) (env : Env) (fuel : Nat) (eq : R -> R -> Bool) : Nat -> Cl R
  | 0 => ⟨fun _ _ _ _ => none, eq⟩
  | d + 1 => ⟨fun f ss S K => match P.funcs[f]? with
    | some fn => match fn.body with
      | some c => if ss.length ≤ fn.ntmps ∧ fn.results.size ≤ 5 then ev P env (evC P env fuel eq d) fuel (fun _ => none) 1 c { S with fr := parF 0 ss, nt := fn.ntmps, up := (S.nt, S.fr) :: S.up } (retK P fn K) else none
      | none => none
    | none => none, eq⟩
end
section
variable {R : Type} {B : Nat -> Prop} {F : Lx} {w0 : Bs} {wr : Wr} {pl pl' : List Place} {S S' : St} {l l' : List Value} {ls : List (List Value)} {w w' : World} {L L' M : Lx} {P : Program} {env : Env} {fuel : Nat} {r : R}
theorem parF_den {pre : List Value} : ∀ {ss : List SV} {vs : List Value} {post : List Value}, DenL pl L w ss vs -> FrD pl L w (parF pre.length ss) (pre ++ vs ++ post) := by
  intro ss
  induction ss generalizing pre with
  | nil => intro vs post _ t s h; cases h
  | cons a q ih =>
    rintro vs post ⟨v, us, rfl, h2, h3⟩ t s h
    unfold parF get at h
    split at h
    · rename_i e
      cases h
      subst e
      have : (pre ++ v :: us ++ post).getD pre.length undef = v := by simp [List.getD_eq_getElem?_getD]
      rw [this]
      exact h2
    · have := ih (pre := pre ++ [v]) (post := post) h3 t s (by rw [List.length_append]; exact h)
      simpa using this
theorem resK1_ok (h : Rel B F w0 wr pl S l ls w) {v : ResultVar} {R : Type} {K : SV -> Option R} {r : R} (hs : resK1 S v P K = some r) : ∃ s u, K s = some r ∧ resv P l w v u ∧ Den pl (lx pl S.own ++ F) w s u := by
  unfold resK1 at hs
  split at hs
  · split at hs
    · split at hs
      · rename_i s hg
        exact ⟨s, _, hs, resv_tmp rfl, h.fr _ s hg⟩
      · cases hs
    · cases hs
  · rename_i a t
    split at hs
    · rename_i i o hg
      split at hs
      · rename_i T cs hb
        split at hs
        · rename_i s hc
          obtain ⟨g, n, c, h1, h2⟩ := h.fr a _ hg
          obtain ⟨g', n', c', us, h3, h4, h5, h6⟩ := h.ent _ (qw_ hb)
          rw [h1] at h3
          cases h3
          obtain ⟨ag, sz, h7, h8, h9⟩ := cutT_ok hc h5 h6
          refine ⟨s, _, hs, resv_cell h2 ?_, h9⟩
          exact load_cellsT (P := P) (w := w) (b := g) (o := o) (cs := (us.drop o).take sz) h7 (by rw [List.length_take, List.length_drop]; omega) (fun j v hj => by
            refine h4.cell ?_
            have hlt := (List.getElem?_eq_some_iff.1 hj).1
            rw [List.length_take] at hlt
            rw [List.getElem?_take_of_lt (by omega), List.getElem?_drop] at hj
            exact hj)
        · cases hs
      · rename_i t0 e0 xs hb
        split at hs
        · rename_i m e n har
          split at hs
          · rename_i hc
            obtain ⟨hsz, rfl⟩ := hc
            obtain ⟨hm, hq⟩ := q1p_ hs
            clear hs
            have hm : (xs.length : Int) = (m : Int) := by simpa [eqi] using hm
            split at hq
            · rename_i m' t1 hty
              split at hq
              · rename_i hmm
                subst hmm
                split at hq
                · rename_i ys hys
                  obtain ⟨e1, hys⟩ := q75_ hys
                  cases e1
                  subst hys
                  obtain ⟨g', n', c', h1, h2⟩ := h.fr a _ hg
                  obtain ⟨p', h3, h4⟩ := h.ent _ (qw_ hb)
                  rw [h1] at h3
                  cases h3
                  obtain ⟨hn, cells, h5, h6⟩ := h4
                  have hxl : xs.length = m' := by omega
                  refine ⟨_, .agg cells.toArray, hq, resv_cell h2 ?_, cells, ⟨hxl, h6⟩, by simp [Rp.val, q5i_, Ty.agg]⟩
                  have hty' := tyc_ok hty
                  have := load_cells (P := P) (w := w) (b := g') (o := 0) (cs := cells) hty' (by rw [h6.len, q12_, q12_]; show _ = m' * t0.size; rw [hxl]) (fun j v hj => by
                    have := h5.cells (g := g') rfl j v hj
                    rw [Addr.add_lit'] at this
                    exact this)
                  refine this.trans ?_
                  simp [Rp.val, q5i_, Ty.agg]
                · cases hq
              · cases hq
            · cases hq
          · cases hs
        · cases hs
      · cases hs
    · rename_i i j sz o hgx
      split at hs
      · rename_i t0 e xs fy hg hy
        have hty := tyc_ok hy
        split at hs
        · rename_i hsz
          obtain ⟨y, hy1, hs⟩ := q1o_ hs
          split at hs
          · rename_i z hp
            obtain ⟨g, n, c, h1, h2⟩ := h.fr a _ hgx
            obtain ⟨p, h3, h4⟩ := h.ent _ (qw_ hg)
            rw [h1] at h3
            cases h3
            obtain ⟨h5, h6, h7⟩ := at_some hy1
            obtain ⟨cs, h8, h9⟩ := own_cells h4 h6
            obtain ⟨pre, c1, post, rfl, h10, h11⟩ := prj_rel hp h8
            refine ⟨_, _, hs, resv_cell h2 ?_, ⟨c1, h11, rfl⟩⟩
            refine load_cells hty ((rp _).len h11) (fun k v hk => ?_)
            have := h9 (o + k) v (by
              rw [List.append_assoc, List.getElem?_append_right (by omega), h10, Nat.add_sub_cancel_left, List.getElem?_append_left (List.getElem?_eq_some_iff.1 hk).1]
              exact hk)
            rw [hsz]
            rw [q12_] at this
            rwa [<- Nat.add_assoc] at this
          · cases hs
        · cases hs
      · cases hs
    · cases hs
def resvL (P : Program) (l : List Value) (w : World) : List ResultVar -> List Value -> Prop
  | [], us => us = []
  | v :: q, us => ∃ u r, us = u :: r ∧ resv P l w v u ∧ resvL P l w q r
theorem resK_ok (h : Rel B F w0 wr pl S l ls w) {R : Type} {r : R} : ∀ {q : List ResultVar} {K : List SV -> Option R}, resK P S q K = some r -> ∃ ss us, K ss = some r ∧ resvL P l w q us ∧ DenL pl (lx pl S.own ++ F) w ss us
  | [], K, hs => ⟨[], [], hs, rfl, rfl⟩
  | v :: q, K, hs => by
    obtain ⟨s, u, h1, h3, h4⟩ := resK1_ok h hs
    obtain ⟨ss, us, h2, h5, h6⟩ := resK_ok h h1
    exact ⟨s :: ss, u :: us, h2, ⟨u, us, rfl, h3, h5⟩, ⟨u, us, rfl, h4, h6⟩⟩
theorem ret4 {fn : Func} {Rr : Ending -> World -> Prop} {r1 r2 r3 r4 : ResultVar} {v1 v2 v3 v4 : Value} (hr : fn.results = #[r1, r2, r3, r4]) (h1 : resv P l w r1 v1) (h2 : resv P l w r2 v2) (h3 : resv P l w r3 v3) (h4 : resv P l w r4 v4)
    (h : Rr (.returned (.tuple #[v1, v2, v3, v4])) w) : bodyPost P fn Rr .ret (mk l) w := by
  have h1 := q8z_ h1
  have h2 := q8z_ h2
  have h3 := q8z_ h3
  have h4 := q8z_ h4
  exact ⟨rfl, _, by rw [results_resR, hr]; simp [h1, h2, h3, h4], h⟩
theorem ret5 {fn : Func} {Rr : Ending -> World -> Prop} {r1 r2 r3 r4 r5 : ResultVar} {v1 v2 v3 v4 v5 : Value} (hr : fn.results = #[r1, r2, r3, r4, r5]) (h1 : resv P l w r1 v1) (h2 : resv P l w r2 v2) (h3 : resv P l w r3 v3) (h4 : resv P l w r4 v4) (h5 : resv P l w r5 v5)
    (h : Rr (.returned (.tuple #[v1, v2, v3, v4, v5])) w) : bodyPost P fn Rr .ret (mk l) w := by
  have h1 := q8z_ h1
  have h2 := q8z_ h2
  have h3 := q8z_ h3
  have h4 := q8z_ h4
  have h5 := q8z_ h5
  exact ⟨rfl, _, by rw [results_resR, hr]; simp [h1, h2, h3, h4, h5], h⟩
theorem ret_post {fn : Func} {Rr : Ending -> World -> Prop} {us : List Value} (hn : fn.results.size ≤ 5) (hr : resvL P l w fn.results.toList us) (h : Rr (.returned (retV us)) w) : bodyPost P fn Rr .ret (mk l) w := by
  have hsz : fn.results.size = fn.results.toList.length := by simp
  match hq : fn.results.toList, hr with
  | [], hr =>
    cases hr
    exact ret0 (by rw [<- Array.toArray_toList (xs := fn.results), hq]) h
  | [a], ⟨u, q, h1, h2, h3⟩ =>
    cases h3
    subst h1
    exact ret1 (by rw [<- Array.toArray_toList (xs := fn.results), hq]) h2 h
  | [a, b], ⟨u, q, h1, h2, u', q', h1', h2', h3⟩ =>
    cases h3
    subst h1 h1'
    exact ret2 (by rw [<- Array.toArray_toList (xs := fn.results), hq]) h2 h2' h
  | [a, b, c], ⟨u, q, h1, h2, u', q', h1', h2', u'', q'', h1'', h2'', h3⟩ =>
    cases h3
    subst h1 h1' h1''
    exact ret3 (by rw [<- Array.toArray_toList (xs := fn.results), hq]) h2 h2' h2'' h
  | [a, b, c, d], ⟨u, q, h1, h2, u', q', h1', h2', u2, q2, h12, h22, u3, q3, h13, h23, h3⟩ =>
    cases h3
    subst h1 h1' h12 h13
    exact ret4 (by rw [<- Array.toArray_toList (xs := fn.results), hq]) h2 h2' h22 h23 h
  | [a, b, c, d, e], ⟨u, q, h1, h2, u', q', h1', h2', u2, q2, h12, h22, u3, q3, h13, h23, u4, q4, h14, h24, h3⟩ =>
    cases h3
    subst h1 h1' h12 h13 h14
    exact ret5 (by rw [<- Array.toArray_toList (xs := fn.results), hq]) h2 h2' h22 h23 h24 h
  | a :: b :: c :: d :: e :: f :: q, _ => rw [hq] at hsz; simp at hsz; omega
theorem body_normal {fn : Func} {Rr : Ending -> World -> Prop} {a : Act} (h : bodyPost P fn Rr .ret a w) : ∀ e : Ex, (∀ i, e ≠ .x i) -> bodyPost P fn Rr (exOf e) a w := fun e he => by
  cases e with
  | n => exact h
  | r => exact h
  | x i => exact absurd rfl (he i)
theorem evC_ok {I : World -> Prop} (henv : EnvOk P I env) {eq : R -> R -> Bool} (heq : ∀ a b, eq a b = true -> a = b) : ∀ d, ClOk P I (evC (R := R) P env fuel eq d)
  | 0 => by
    refine ⟨heq, ?_⟩
    intro B F w0 wr pl S l ls w f ss vs K r KV _ _ _ hv _
    cases hv
  | d + 1 => by
    refine ⟨heq, ?_⟩
    intro B F w0 wr pl S l ls w f ss vs K r KV hI h hd hv hk
    subst hI
    simp only [evC] at hv
    split at hv
    · rename_i fn hf
      split at hv
      · rename_i c hb
        split at hv
        · rename_i hcond
          have hlen := hd.len
          have hfr := parF_den (pre := []) (post := List.replicate (fn.ntmps - vs.length) undef) hd
          simp only [List.length_nil, List.nil_append] at hfr
          have hR : Rel B F w0 wr pl { S with fr := parF 0 ss, nt := fn.ntmps, up := (S.nt, S.fr) :: S.up } (vs ++ List.replicate (fn.ntmps - vs.length) undef) (l :: ls) w := by
            refine ⟨h.hL, h.hB, h.pre, h.hI, h.hln, h.nx, ?_, h.ent, hfr, ⟨l, ls, rfl, h.nt, h.fr, h.up⟩, h.tn⟩
            rw [List.length_append, List.length_replicate]
            have := hcond.1
            show _ = fn.ntmps
            omega
          refine enter hf hb rfl rfl ?_
          refine ev_ok henv (evC_ok henv heq d) (Hn := True) (fun _ _ => rfl) c 1 wr pl _ _ w _ _ (PF.body (fun c w h => by obtain ⟨v, e, _⟩ := h; cases e)) hR hv (fun e wr' pl' S' l' w' h' hw hv' => ?_)
          obtain rfl := hw trivial
          have key : (∀ i, e ≠ .x i) -> (match S'.up with
              | (n, fr) :: up => resK P S' fn.results.toList fun ss => K { S' with fr := fr, nt := n, up := up } (retS ss)
              | [] => none) = some r -> bodyPost P fn (fun e w' => ∃ v, e = .returned v ∧ KV v w') (exOf e) (mk l') w' := fun he hv' => by
            split at hv'
            · rename_i n fr up hup
              obtain ⟨ss', us, hv', h2, h3⟩ := resK_ok h' hv'
              have hu := h'.up
              rw [hup] at hu
              obtain ⟨l0, q0, e1, e2, e3, e4⟩ := hu
              cases e1
              refine body_normal (ret_post hcond.2 h2 ⟨_, rfl, ?_⟩) e he
              refine hk pl' { S' with fr := fr, nt := n, up := up } (retS ss') (retV us) w' ⟨h'.hL, h'.hB, h'.pre, h'.hI, h'.hln, h'.nx, e2, h'.ent, e3, e4, h'.tn⟩ ?_ (retS_den h3) hv'
              show n = S.nt
              rw [<- h.nt]
              exact e2.symm
            · cases hv'
          cases e with
          | n => exact key (fun _ e => by cases e) hv'
          | r => exact key (fun _ e => by cases e) hv'
          | x i => cases hv'
        · cases hv
      · cases hv
    · cases hv
end
def eqAs : (rs : List Ty) -> As rs -> As rs -> Bool
  | [], _, _ => true
  | t :: r, x, y => eqV t x.1 y.1 && eqAs r x.2 y.2
theorem eqAs_ok : ∀ (rs : List Ty) (x y : As rs), eqAs rs x y = true -> x = y
  | [], _, _, _ => rfl
  | t :: r, x, y, h => by
    simp only [eqAs, Bool.and_eq_true] at h
    exact Prod.ext (eqV_ok t _ _ h.1) (eqAs_ok r _ _ h.2)
def idb (k : Nat) : Nat -> List (Nat × Option Nat)
  | 0 => []
  | n + 1 => (k, some k) :: idb (k + 1) n
def idw (k : Nat) : Nat -> List (Nat × Nat)
  | 0 => []
  | n + 1 => (k, k) :: idw (k + 1) n
def hasI : List (Nat × TE) -> Nat -> Bool
  | [], _ => false
  | (j, _) :: q, i => if j = i then true else hasI q i
def outOk (n nn : Nat) (eo : List (Nat × TE)) : List (Nat × Option Nat) -> Bool
  | [] => true
  | (i, _) :: q => (decide (i < n) || (decide (i < n + nn) && hasI eo i)) && outOk n nn eo q
def topK (P : Program) (fn : Func) (sh : Sh) : Kt (As sh.rs) := fun e S => match e with
  | .x _ => none
  | _ => resK P S fn.results.toList fun ss => resK P (frzL (wnt sh.ro sh.eo ss S.own (idw 0 sh.es.length)) S) fn.results.toList fun ss' =>
    (mA sh.ro sh.eo ss' (frzL (wnt sh.ro sh.eo ss S.own (idw 0 sh.es.length)) S).own (idb 0 sh.es.length)).bind fun mt =>
      if outOk sh.es.length sh.nn sh.eo mt.bd = true then asDV sh.rs mt.ds else none
def evT (P : Program) (env : Env) (d fuel : Nat) (hs : Nat -> Option Hint) (f : FuncId) (sh : Sh) (x : As sh.ps) : Option (As sh.rs) :=
  match P.funcs[f]? with
  | some fn => match fn.body with
    | some c => match fA sh.as (en 0 sh.es) (dvAs sh.ps x) with
      | some (ss, own) => if ss.length ≤ fn.ntmps ∧ fn.results.size ≤ 5 then ev P env (evC P env fuel (eqAs sh.rs) d) fuel hs 1 c { fr := parF 0 ss, nt := fn.ntmps, up := [], own := own, nx := sh.es.length, log := [], ln := sh.es.length } (topK P fn sh) else none
      | none => none
    | none => none
  | none => none
section
variable {B : Nat -> Prop} {F : Lx} {w0 : Bs} {wr : Wr} {pl pl' : List Place} {S S' : St} {l l' : List Value} {ls : List (List Value)} {w w' : World} {L L' M : Lx} {P : Program} {env : Env} {fuel : Nat}
theorem idb_mem : ∀ {n k : Nat} {x : Nat × Option Nat}, x ∈ idb k n ↔ k ≤ x.1 ∧ x.1 < k + n ∧ x.2 = some x.1
  | 0, k, x => by simp [idb]; omega
  | n + 1, k, x => by
    rw [idb, List.mem_cons, idb_mem]
    constructor
    · rintro (h | ⟨h1, h2, h3⟩)
      · subst h; exact ⟨Nat.le_refl _, by simp, rfl⟩
      · exact ⟨by omega, by omega, h3⟩
    · rintro ⟨h1, h2, h3⟩
      obtain ⟨i, b⟩ := x
      simp only at h1 h2 h3
      by_cases e : i = k
      · subst e; subst h3; exact .inl rfl
      · exact .inr ⟨by simp only; omega, by simp only; omega, h3⟩
theorem hasI_ok : ∀ {eo : List (Nat × TE)} {i : Nat}, hasI eo i = true -> ∃ x ∈ eo, x.1 = i
  | (j, t) :: q, i, h => by
    unfold hasI at h
    split at h
    · rename_i e; exact ⟨_, List.mem_cons_self .., e⟩
    · obtain ⟨x, hx, e⟩ := hasI_ok h
      exact ⟨x, List.mem_cons_of_mem _ hx, e⟩
theorem outOk_ok {n nn : Nat} {eo : List (Nat × TE)} : ∀ {bd : List (Nat × Option Nat)}, outOk n nn eo bd = true -> ∀ x ∈ bd, x.1 < n ∨ (x.1 < n + nn ∧ ∃ y ∈ eo, y.1 = x.1)
  | [], _, x, hx => by cases hx
  | (i, b) :: q, h, x, hx => by
    simp only [outOk, Bool.and_eq_true, Bool.or_eq_true, decide_eq_true_eq] at h
    rcases List.mem_cons.1 hx with hx | hx
    · subst hx
      rcases h.1 with h1 | h1
      · exact .inl h1
      · exact .inr ⟨h1.1, hasI_ok h1.2⟩
    · exact outOk_ok h.2 x hx
theorem ct_of_ev {I : World -> Prop} (henv : EnvOk P I env) {d : Nat} {hs : Nat -> Option Hint} {f : FuncId} {sh : Sh} {m : As sh.ps -> Option (As sh.rs)} (hm : ∀ x, evT P env d fuel hs f sh x = m x) : CtOk P I f ⟨sh, m⟩ := by
  intro F w0 pl x y ss own vs hx hfA hpl hI hL hE hD
  have hx : m x = some y := hx
  have hfA : fA sh.as (en 0 sh.es) (dvAs sh.ps x) = some (ss, own) := hfA
  have hpl : pl.length = sh.es.length := hpl
  rw [<- hm x] at hx
  unfold evT at hx
  split at hx
  · rename_i fn hf
    split at hx
    · rename_i c hb
      rw [hfA] at hx
      simp only at hx
      split at hx
      · rename_i hcond
        have hlen := hD.len
        have hfr := parF_den (pre := []) (post := List.replicate (fn.ntmps - vs.length) undef) hD
        simp only [List.length_nil, List.nil_append] at hfr
        have hR : Rel (Bo pl own w0) F ⟨w0, pl, I⟩ ⟨w0, lx pl own ++ F, sh.es.length, pl, ids own⟩ pl { fr := parF 0 ss, nt := fn.ntmps, up := [], own := own, nx := sh.es.length, log := [], ln := sh.es.length } (vs ++ List.replicate (fn.ntmps - vs.length) undef) [] w0 := by
          refine ⟨hL, Blw.refl _ _, fun _ _ h => h, hI, hpl.symm, hpl.symm, ?_, hE, hfr, rfl, ⟨Fz.refl _ _, Sub.refl _ _, Nat.le_refl _, fun _ _ h => h, fun e he _ => List.mem_map_of_mem (f := fun e : Nat × Ent => e.1) he, fun _ _ _ _ _ _ => rfl⟩⟩
          rw [List.length_append, List.length_replicate]
          have := hcond.1
          show _ = fn.ntmps
          omega
        refine enter hf hb rfl rfl ?_
        refine ev_ok henv (evC_ok henv (eqAs_ok sh.rs) d) (Hn := False) (fun h => h.elim) c 1 _ pl _ _ w0 _ _ (PF.body (fun c w h => by obtain ⟨us, e, _⟩ := h; cases e)) hR hx (fun e wr' pl' S' l' w' h' hw hv' => ?_)
        have key : (∀ i, e ≠ .x i) -> (resK P S' fn.results.toList fun ss => resK P (frzL (wnt sh.ro sh.eo ss S'.own (idw 0 sh.es.length)) S') fn.results.toList fun ss' =>
            (mA sh.ro sh.eo ss' (frzL (wnt sh.ro sh.eo ss S'.own (idw 0 sh.es.length)) S').own (idb 0 sh.es.length)).bind fun mt =>
            if outOk sh.es.length sh.nn sh.eo mt.bd = true then asDV sh.rs mt.ds else none) = some y ->
            bodyPost P fn (fun e w' => ∃ us, e = .returned (retV us) ∧ After sh y F w0 pl own w' us) (exOf e) (mk l') w' := fun he hv' => by
          obtain ⟨ss0, _, hv', _, _⟩ := resK_ok h' hv'
          have hz := (frzL_ok (q := wnt sh.ro sh.eo ss0 S'.own (idw 0 sh.es.length)) h').1
          generalize frzL (wnt sh.ro sh.eo ss0 S'.own (idw 0 sh.es.length)) S' = S1 at hv' hz
          obtain ⟨ss1, us, hv', h3, h4⟩ := resK_ok hz hv'
          obtain ⟨mt, hmt, hv'⟩ := q1o_ hv'
          split at hv'
          · rename_i hout
            have hout := outOk_ok hout
            obtain ⟨rr, own', hfo, mo⟩ := mA_ok (w := w') (L := lx pl' S1.own ++ F) (pl := pl') hz.ent hmt
            rw [<- asDV_eq hv'] at hfo
            let gp (i : Nat) : Place := match get mt.bd (sh.es.length + i) with
              | some (some j) => (pl'[j]?).getD ⟨none, 0, 0⟩
              | _ => ⟨none, 0, 0⟩
            let plo : List Place := pl ++ (List.range sh.nn).map gp
            have hpre : ∀ i p, pl[i]? = some p -> pl'[i]? = some p := hz.pre
            have hb : BdOk pl' plo mt.bd := fun z hz' => by
              have hfn := mo.fn z hz'
              obtain ⟨i, b⟩ := z
              simp only at hfn ⊢
              rcases Nat.lt_or_ge i sh.es.length with hi | hi
              · have h0 : (i, some i) ∈ mt.bd := mo.old _ (idb_mem.2 ⟨Nat.zero_le _, by simpa using hi, rfl⟩)
                have := mo.fn _ h0
                simp only at this
                rw [hfn] at this
                cases this
                show plo[i]? = pl'[i]?
                have hl : pl[i]? = some pl[i] := List.getElem?_eq_getElem (by omega)
                rw [hpre i _ hl]
                exact pl_app _ i _ hl
              · rcases hout _ hz' with h5 | ⟨h5, q, hq, hq1⟩
                · exact absurd h5 (by simp only; omega)
                · simp only at h5 hq1
                  have hat : plo[i]? = some (gp (i - sh.es.length)) := by
                    show (pl ++ _)[i]? = _
                    rw [List.getElem?_append_right (by omega), hpl, List.getElem?_map, List.getElem?_range (by omega)]
                    rfl
                  have hgp : gp (i - sh.es.length) = match (some b : Option (Option Nat)) with
                      | some (some j) => (pl'[j]?).getD ⟨none, 0, 0⟩
                      | _ => ⟨none, 0, 0⟩ := by
                    show (match get mt.bd (sh.es.length + (i - sh.es.length)) with
                      | some (some j) => (pl'[j]?).getD ⟨none, 0, 0⟩
                      | _ => ⟨none, 0, 0⟩) = _
                    rw [show sh.es.length + (i - sh.es.length) = i by omega, hfn]
                  cases b with
                  | none => rw [hat, hgp]
                  | some j =>
                    obtain ⟨b', hb1, hb2⟩ := mo.has q hq
                    rw [hq1] at hb1
                    have := mo.fn _ hb1
                    simp only at this
                    rw [hfn] at this
                    cases this
                    obtain ⟨e, he⟩ := hb2 j rfl
                    obtain ⟨p, hp⟩ := (hz.ent _ (qw_ he)).place
                    show plo[i]? = pl'[j]?
                    rw [hat, hgp]
                    show some ((pl'[j]?).getD _) = _
                    rw [hp]
                    rfl
            obtain ⟨hd', he'⟩ := mo.den plo hb
            obtain ⟨hpair, hmem⟩ := mo.pair hz.hL hb
            have hsub : ∀ k, some k ∈ lx plo own' ++ F -> some k ∈ lx pl' S1.own ++ F := fun k hk => by
              rcases List.mem_append.1 hk with hk | hk
              · obtain ⟨_, _, _, _, _, _, h4⟩ := hmem k hk
                exact List.mem_append_left _ h4
              · exact List.mem_append_right _ hk
            refine body_normal (ret_post hcond.2 h3 ⟨us, rfl, plo, rr, own', hfo, pl_app _, by simp [plo, hpl], hz.hB, ?_, he'.sub hsub, (hd' us h4).ext (Ext.sub hsub)⟩) e he
            have hin : ∀ k, some k ∈ lx plo own' -> some k ∈ lx pl' S1.own := fun k hk => by
              obtain ⟨_, _, _, _, _, _, h4⟩ := hmem k hk
              exact h4
            exact ⟨hpair, fun k hk => hz.hL.lo k (hin k hk), fun k hk => hz.hL.hi k (hin k hk), hz.hL.base, hz.hL.far⟩
          · cases hv'
        cases e with
        | n => exact key (fun _ e => by cases e) hv'
        | r => exact key (fun _ e => by cases e) hv'
        | x i => cases hv'
      · cases hx
    · cases hx
  · cases hx
end
end Ev
end
section
namespace Ev
open Go Go.RowKit Sx
abbrev Us (R : Type) := List (St -> Option R)
abbrev Orc (R : Type) := Nat -> Us R -> St -> Option R
section
variable {R : Type}
def evJ (P : Program) (env : Env) (cl : Cl R) (fuel : Nat) (hs : Nat -> Option Hint) (J : Orc R) : Us R -> Nat -> Code -> St -> Kt R -> Option R
  | _, _, .skip, S, k => k .n S
  | _, _, .label _, S, k => k .n S
  | _, _, .ret, S, k => k .r S
  | _, _, .exit id, S, k => k (.x id) S
  | us, p, .seq x y, S, k => match hs p with
    | some h => evJ P env cl fuel hs J us (2 * p) x S (seqK P (some h) (J p us) k)
    | none => evJ P env cl fuel hs J us (2 * p) x S (seqK P none (fun S' => evJ P env cl fuel hs J us (2 * p + 1) y S' k) k)
  | us, p, .block id c, S, k => evJ P env cl fuel hs J us (2 * p) c S (blockK id k)
  | us, p, .cond c x y, S, k => match c with
    | .tmp t => if t < S.nt then match get S.fr t with
      | some (.d .bool b) => if b = true then evJ P env cl fuel hs J us (2 * p) x { S with fr := (t, .d .bool true) :: S.fr } k else evJ P env cl fuel hs J us (2 * p + 1) y { S with fr := (t, .d .bool false) :: S.fr } k
      | _ => none else none
    | .const (.bool b) => if b = true then evJ P env cl fuel hs J us (2 * p) x S k else evJ P env cl fuel hs J us (2 * p + 1) y S k
    | _ => none
  | _, _, .region _ ⟨ops⟩ draw, S, k => regn P env cl ops draw S (k .n)
  | us, p, .loop c, S, k => match hs p with
    | some h => (nrm P h S).bind (J p us)
    | none => loopF (fun self S => evJ P env cl fuel hs J (us ++ [self]) (2 * p) c S (seqK P none self k)) fuel S
  | _, _, .rangeFunc _ _ _ _, _, _ => none
  | _, _, .scope _, _, _ => none
  | _, _, .goto _, _, _ => none
  | _, _, .refuse _, _, _ => none
def lft (q p : Nat) : Bool := q / 2 ^ (q.log2 - p.log2 - 1) % 2 == 0
def In (q p : Nat) : Prop := ∃ n r, q = p * 2 ^ n + r ∧ r < 2 ^ n
theorem In.self (p : Nat) : In p p := ⟨0, 0, by simp, by simp⟩
theorem In.l {q p : Nat} : In q (2 * p) -> In q p := fun ⟨n, r, h1, h2⟩ => ⟨n + 1, r, by rw [h1, Nat.pow_succ]; simp only [Nat.mul_comm 2, Nat.mul_assoc], by rw [Nat.pow_succ]; omega⟩
theorem In.r {q p : Nat} : In q (2 * p + 1) -> In q p := fun ⟨n, r, h1, h2⟩ => ⟨n + 1, 2 ^ n + r, by
  have e : (2 * p + 1) * 2 ^ n = p * 2 ^ (n + 1) + 2 ^ n := by rw [Nat.pow_succ, Nat.add_mul, Nat.one_mul, Nat.mul_comm 2 p, Nat.mul_assoc, Nat.mul_comm 2 (2 ^ n)]
  omega, by rw [Nat.pow_succ]; omega⟩
theorem In.cases {q p : Nat} : In q p -> q = p ∨ In q (2 * p) ∨ In q (2 * p + 1) := fun ⟨n, r, h1, h2⟩ => by
  cases n with
  | zero => left; simp at h1 h2; omega
  | succ n =>
    right
    have e : p * 2 ^ (n + 1) = 2 * p * 2 ^ n := by rw [Nat.pow_succ, Nat.mul_comm 2 p, Nat.mul_assoc, Nat.mul_comm 2 (2 ^ n)]
    have e2 : 2 ^ (n + 1) = 2 ^ n + 2 ^ n := by rw [Nat.pow_succ]; omega
    have e3 : (2 * p + 1) * 2 ^ n = 2 * p * 2 ^ n + 2 ^ n := by rw [Nat.add_mul, Nat.one_mul]
    by_cases h : r < 2 ^ n
    · exact .inl ⟨n, r, by omega, h⟩
    · exact .inr ⟨n, r - 2 ^ n, by omega, by omega⟩
theorem log2_at {p n r : Nat} (hp : 0 < p) (hr : r < 2 ^ n) : (p * 2 ^ n + r).log2 = p.log2 + n := by
  have h2 : 0 < 2 ^ n := Nat.pow_pos (by decide)
  have hne : p * 2 ^ n + r ≠ 0 := by have := Nat.mul_pos hp h2; omega
  apply Nat.le_antisymm
  · apply Nat.le_of_lt_succ
    rw [Nat.log2_lt hne, Nat.succ_eq_add_one, show p.log2 + n + 1 = (p.log2 + 1) + n from by omega, Nat.pow_add]
    have h1 : p < 2 ^ (p.log2 + 1) := (Nat.log2_lt (by omega)).1 (Nat.lt_succ_self _)
    calc p * 2 ^ n + r < p * 2 ^ n + 2 ^ n := by omega
      _ = (p + 1) * 2 ^ n := by rw [Nat.add_mul, Nat.one_mul]
      _ ≤ _ := Nat.mul_le_mul_right _ h1
  · rw [Nat.le_log2 hne, Nat.pow_add]
    have h1 : 2 ^ p.log2 ≤ p := (Nat.le_log2 (by omega)).1 (Nat.le_refl _)
    have := Nat.mul_le_mul_right (2 ^ n) h1
    omega
theorem lft_l {q p : Nat} (hp : 0 < p) : In q (2 * p) -> lft q p = true := fun ⟨n, r, h1, h2⟩ => by
  unfold lft
  have hl : q.log2 = (2 * p).log2 + n := by rw [h1]; exact log2_at (by omega) h2
  have hl2 : (2 * p).log2 = p.log2 + 1 := by have := log2_at (p := p) (n := 1) (r := 0) hp (by decide); rw [show 2 * p = p * 2 ^ 1 + 0 from by omega]; exact this
  have e : q.log2 - p.log2 - 1 = n := by omega
  rw [e, h1]
  have : (2 * p * 2 ^ n + r) / 2 ^ n = 2 * p := by
    rw [Nat.mul_comm (2 * p), Nat.mul_add_div (Nat.pow_pos (by decide)), Nat.div_eq_of_lt h2]; rfl
  rw [this]
  simp
theorem lft_r {q p : Nat} (hp : 0 < p) : In q (2 * p + 1) -> lft q p = false := fun ⟨n, r, h1, h2⟩ => by
  unfold lft
  have hl : q.log2 = (2 * p + 1).log2 + n := by rw [h1]; exact log2_at (by omega) h2
  have hl2 : (2 * p + 1).log2 = p.log2 + 1 := by have := log2_at (p := p) (n := 1) (r := 1) hp (by decide); rw [show 2 * p + 1 = p * 2 ^ 1 + 1 from by omega]; exact this
  have e : q.log2 - p.log2 - 1 = n := by omega
  rw [e, h1]
  have : ((2 * p + 1) * 2 ^ n + r) / 2 ^ n = 2 * p + 1 := by
    rw [Nat.mul_comm (2 * p + 1), Nat.mul_add_div (Nat.pow_pos (by decide)), Nat.div_eq_of_lt h2, Nat.add_zero]
  rw [this]
  simp
theorem In.pos {q p : Nat} (hp : 0 < p) : In q p -> p ≤ q := fun ⟨n, r, h1, _⟩ => by
  have h2 : 0 < 2 ^ n := Nat.pow_pos (by decide)
  have := Nat.mul_le_mul_left p h2
  omega
def fnd (P : Program) (env : Env) (cl : Cl R) (fuel : Nat) (hs : Nat -> Option Hint) (q : Nat) : Code -> Nat -> Kt R -> Us R -> St -> Option R
  | .seq x y, p, k, us => if q = p then fun S => ev P env cl fuel hs (2 * p + 1) y S k
    else if lft q p = true then fnd P env cl fuel hs q x (2 * p) (seqK P (hs p) (fun S' => ev P env cl fuel hs (2 * p + 1) y S' k) k) us else fnd P env cl fuel hs q y (2 * p + 1) k us
  | .block id c, p, k, us => if q = p then fun _ => none else if lft q p = true then fnd P env cl fuel hs q c (2 * p) (blockK id k) us else fun _ => none
  | .cond _ x y, p, k, us => if q = p then fun _ => none else if lft q p = true then fnd P env cl fuel hs q x (2 * p) k us else fnd P env cl fuel hs q y (2 * p + 1) k us
  | .loop c, p, k, us => match us with
    | [] => if q = p then fun S => loopF (fun self S => ev P env cl fuel hs (2 * p) c S (seqK P (hs p) self k)) fuel S else fun _ => none
    | u :: us => if q = p then fun S => ev P env cl fuel hs (2 * p) c S (seqK P (hs p) u k) else if lft q p = true then fnd P env cl fuel hs q c (2 * p) (seqK P (hs p) u k) us else fun _ => none
  | _, _, _, _ => fun _ => none
def pce (P : Program) (env : Env) (cl : Cl R) (fuel : Nat) (hs : Nat -> Option Hint) (J : Orc R) (q : Nat) : Code -> Nat -> Kt R -> Us R -> Us R -> St -> Option R
  | .seq x y, p, k, u0, us => if q = p then fun S => evJ P env cl fuel hs J u0 (2 * p + 1) y S k
    else if lft q p = true then pce P env cl fuel hs J q x (2 * p) (match hs p with
      | some h => seqK P (some h) (J p u0) k
      | none => seqK P none (fun S' => evJ P env cl fuel hs J u0 (2 * p + 1) y S' k) k) u0 us else pce P env cl fuel hs J q y (2 * p + 1) k u0 us
  | .block id c, p, k, u0, us => if q = p then fun _ => none else if lft q p = true then pce P env cl fuel hs J q c (2 * p) (blockK id k) u0 us else fun _ => none
  | .cond _ x y, p, k, u0, us => if q = p then fun _ => none else if lft q p = true then pce P env cl fuel hs J q x (2 * p) k u0 us else pce P env cl fuel hs J q y (2 * p + 1) k u0 us
  | .loop c, p, k, u0, us => match us with
    | [] => if q = p then fun S => loopF (fun self S => evJ P env cl fuel hs J (u0 ++ [self]) (2 * p) c S (seqK P (hs p) self k)) fuel S else fun _ => none
    | u :: us => if q = p then fun S => evJ P env cl fuel hs J (u0 ++ [u]) (2 * p) c S (seqK P (hs p) u k) else if lft q p = true then pce P env cl fuel hs J q c (2 * p) (seqK P (hs p) u k) (u0 ++ [u]) us else fun _ => none
  | _, _, _, _, _ => fun _ => none
end
section
variable {R : Type} {P : Program} {env : Env} {cl : Cl R} {fuel : Nat} {hs : Nat -> Option Hint} {J : Orc R}
theorem evJ_eq : ∀ {c : Code} {p : Nat} {us : Us R} {S : St} {k : Kt R}, 0 < p -> (∀ q us', In q p -> J q (us ++ us') = fnd P env cl fuel hs q c p k us') -> evJ P env cl fuel hs J us p c S k = ev P env cl fuel hs p c S k := by
  intro c
  induction c with
  | skip => intros; rfl
  | label _ => intros; rfl
  | ret => intros; rfl
  | exit _ => intros; rfl
  | rangeFunc => intros; rfl
  | scope => intros; rfl
  | goto => intros; rfl
  | refuse => intros; rfl
  | region id ops draw => intros; rfl
  | seq x y ihx ihy =>
    intro p us S k hp H
    have hx : ∀ q us', In q (2 * p) -> J q (us ++ us') = fnd P env cl fuel hs q x (2 * p) (seqK P (hs p) (fun S' => ev P env cl fuel hs (2 * p + 1) y S' k) k) us' := fun q us' hq => by
      rw [H q us' hq.l, fnd, if_neg (by have := In.pos (by omega) hq; omega), if_pos (lft_l hp hq)]
    have hy : ∀ q us', In q (2 * p + 1) -> J q (us ++ us') = fnd P env cl fuel hs q y (2 * p + 1) k us' := fun q us' hq => by
      rw [H q us' hq.r, fnd, if_neg (by have := In.pos (by omega) hq; omega), if_neg (by rw [lft_r hp hq]; decide)]
    have hJ : J p us = fun S => ev P env cl fuel hs (2 * p + 1) y S k := by
      have := H p [] (In.self p)
      rw [List.append_nil] at this
      rw [this, fnd, if_pos rfl]
    rw [evJ, ev]
    split
    · rename_i h hh
      rw [hJ, <- hh]
      exact ihx (by omega) hx
    · rename_i hh
      have : (fun S' => evJ P env cl fuel hs J us (2 * p + 1) y S' k) = (fun S' => ev P env cl fuel hs (2 * p + 1) y S' k) := funext fun S' => ihy (by omega) hy
      rw [this, <- hh]
      exact ihx (by omega) hx
  | block id c ih =>
    intro p us S k hp H
    rw [evJ, ev]
    exact ih (by omega) (fun q us' hq => by rw [H q us' hq.l, fnd, if_neg (by have := In.pos (by omega) hq; omega), if_pos (lft_l hp hq)])
  | cond c x y ihx ihy =>
    intro p us S k hp H
    have hx : ∀ q us', In q (2 * p) -> J q (us ++ us') = fnd P env cl fuel hs q x (2 * p) k us' := fun q us' hq => by
      rw [H q us' hq.l, fnd, if_neg (by have := In.pos (by omega) hq; omega), if_pos (lft_l hp hq)]
    have hy : ∀ q us', In q (2 * p + 1) -> J q (us ++ us') = fnd P env cl fuel hs q y (2 * p + 1) k us' := fun q us' hq => by
      rw [H q us' hq.r, fnd, if_neg (by have := In.pos (by omega) hq; omega), if_neg (by rw [lft_r hp hq]; decide)]
    have e1 : ∀ S, evJ P env cl fuel hs J us (2 * p) x S k = ev P env cl fuel hs (2 * p) x S k := fun S => ihx (by omega) hx
    have e2 : ∀ S, evJ P env cl fuel hs J us (2 * p + 1) y S k = ev P env cl fuel hs (2 * p + 1) y S k := fun S => ihy (by omega) hy
    unfold evJ ev
    simp only [e1, e2]
    all_goals rfl
  | loop c ih =>
    intro p us S k hp H
    have hJ : J p us = fun S => loopF (fun self S => ev P env cl fuel hs (2 * p) c S (seqK P (hs p) self k)) fuel S := by
      have := H p [] (In.self p)
      rw [List.append_nil] at this
      rw [this, fnd, if_pos rfl]
    rw [evJ, ev]
    split
    · rename_i h hh
      rw [hJ, hh]
    · rename_i hh
      have : (fun self S => evJ P env cl fuel hs J (us ++ [self]) (2 * p) c S (seqK P none self k)) = (fun self S => ev P env cl fuel hs (2 * p) c S (seqK P (hs p) self k)) := by
        funext self S
        rw [hh]
        refine ih (by omega) (fun q us' hq => ?_)
        rw [List.append_assoc, H q _ hq.l, List.singleton_append, fnd, if_neg (by have := In.pos (by omega) hq; omega), if_pos (lft_l hp hq), hh]
      rw [this, hh]
theorem pce_eq {q : Nat} : ∀ {c : Code} {p : Nat} {u0 : Us R} {k : Kt R} {us : Us R}, 0 < p -> In q p -> (∀ q us', In q p -> J q (u0 ++ us') = fnd P env cl fuel hs q c p k us') -> pce P env cl fuel hs J q c p k u0 us = fnd P env cl fuel hs q c p k us := by
  intro c
  induction c with
  | skip => intros; rfl
  | label _ => intros; rfl
  | ret => intros; rfl
  | exit _ => intros; rfl
  | rangeFunc => intros; rfl
  | scope => intros; rfl
  | goto => intros; rfl
  | refuse => intros; rfl
  | region id ops draw => intros; rfl
  | seq x y ihx ihy =>
    intro p us k us2 hp hq H
    have hx : ∀ q us', In q (2 * p) -> J q (us ++ us') = fnd P env cl fuel hs q x (2 * p) (seqK P (hs p) (fun S' => ev P env cl fuel hs (2 * p + 1) y S' k) k) us' := fun q us' hq => by
      rw [H q us' hq.l, fnd, if_neg (by have := In.pos (by omega) hq; omega), if_pos (lft_l hp hq)]
    have hy : ∀ q us', In q (2 * p + 1) -> J q (us ++ us') = fnd P env cl fuel hs q y (2 * p + 1) k us' := fun q us' hq => by
      rw [H q us' hq.r, fnd, if_neg (by have := In.pos (by omega) hq; omega), if_neg (by rw [lft_r hp hq]; decide)]
    have hJ : J p us = fun S => ev P env cl fuel hs (2 * p + 1) y S k := by
      have := H p [] (In.self p)
      rw [List.append_nil] at this
      rw [this, fnd, if_pos rfl]
    have he : (fun S' => evJ P env cl fuel hs J us (2 * p + 1) y S' k) = (fun S' => ev P env cl fuel hs (2 * p + 1) y S' k) := funext fun S' => evJ_eq (by omega) hy
    rw [pce, fnd]
    rcases hq.cases with h | h | h
    · rw [if_pos h, if_pos h]; exact he
    · have hne : q ≠ p := by have := In.pos (by omega) h; omega
      rw [if_neg hne, if_neg hne, if_pos (lft_l hp h), if_pos (lft_l hp h)]
      have hk : (match hs p with
        | some h => seqK P (some h) (J p us) k
        | none => seqK P none (fun S' => evJ P env cl fuel hs J us (2 * p + 1) y S' k) k) = seqK P (hs p) (fun S' => ev P env cl fuel hs (2 * p + 1) y S' k) k := by
        split
        · rename_i hn hh; rw [hJ, hh]
        · rename_i hh; rw [he, hh]
      rw [hk]
      exact ihx (by omega) h hx
    · have hne : q ≠ p := by have := In.pos (by omega) h; omega
      rw [if_neg hne, if_neg hne, if_neg (by rw [lft_r hp h]; decide), if_neg (by rw [lft_r hp h]; decide)]
      exact ihy (by omega) h hy
  | block id c ih =>
    intro p us k us2 hp hq H
    rw [pce, fnd]
    rcases hq.cases with h | h | h
    · rw [if_pos h, if_pos h]
    · have hne : q ≠ p := by have := In.pos (by omega) h; omega
      rw [if_neg hne, if_neg hne, if_pos (lft_l hp h), if_pos (lft_l hp h)]
      exact ih (by omega) h (fun q us' hq => by rw [H q us' hq.l, fnd, if_neg (by have := In.pos (by omega) hq; omega), if_pos (lft_l hp hq)])
    · have hne : q ≠ p := by have := In.pos (by omega) h; omega
      rw [if_neg hne, if_neg hne, if_neg (by rw [lft_r hp h]; decide), if_neg (by rw [lft_r hp h]; decide)]
  | cond c x y ihx ihy =>
    intro p us k us2 hp hq H
    have hx : ∀ q us', In q (2 * p) -> J q (us ++ us') = fnd P env cl fuel hs q x (2 * p) k us' := fun q us' hq => by
      rw [H q us' hq.l, fnd, if_neg (by have := In.pos (by omega) hq; omega), if_pos (lft_l hp hq)]
    have hy : ∀ q us', In q (2 * p + 1) -> J q (us ++ us') = fnd P env cl fuel hs q y (2 * p + 1) k us' := fun q us' hq => by
      rw [H q us' hq.r, fnd, if_neg (by have := In.pos (by omega) hq; omega), if_neg (by rw [lft_r hp hq]; decide)]
    rw [pce, fnd]
    rcases hq.cases with h | h | h
    · rw [if_pos h, if_pos h]
    · have hne : q ≠ p := by have := In.pos (by omega) h; omega
      rw [if_neg hne, if_neg hne, if_pos (lft_l hp h), if_pos (lft_l hp h)]
      exact ihx (by omega) h hx
    · have hne : q ≠ p := by have := In.pos (by omega) h; omega
      rw [if_neg hne, if_neg hne, if_neg (by rw [lft_r hp h]; decide), if_neg (by rw [lft_r hp h]; decide)]
      exact ihy (by omega) h hy
  | loop c ih =>
    intro p us k us2 hp hq H
    have hb : ∀ (u : St -> Option R) q us', In q (2 * p) -> J q ((us ++ [u]) ++ us') = fnd P env cl fuel hs q c (2 * p) (seqK P (hs p) u k) us' := fun u q us' hq => by
      rw [List.append_assoc, H q _ hq.l, List.singleton_append, fnd, if_neg (by have := In.pos (by omega) hq; omega), if_pos (lft_l hp hq)]
    have he : ∀ u S, evJ P env cl fuel hs J (us ++ [u]) (2 * p) c S (seqK P (hs p) u k) = ev P env cl fuel hs (2 * p) c S (seqK P (hs p) u k) := fun u S => evJ_eq (by omega) (hb u)
    cases us2 with
    | nil =>
      rw [pce, fnd]
      split
      · simp only [he]
      · rfl
    | cons u us2 =>
      rw [pce, fnd]
      rcases hq.cases with h | h | h
      · rw [if_pos h, if_pos h]
        simp only [he]
      · have hne : q ≠ p := by have := In.pos (by omega) h; omega
        rw [if_neg hne, if_neg hne, if_pos (lft_l hp h), if_pos (lft_l hp h)]
        exact ih (by omega) h (hb u)
      · have hne : q ≠ p := by have := In.pos (by omega) h; omega
        rw [if_neg hne, if_neg hne, if_neg (by rw [lft_r hp h]; decide), if_neg (by rw [lft_r hp h]; decide)]
theorem q29_ {σ : Type} {mk : σ -> St} {F : (St -> Option R) -> St -> Option R} {G : (σ -> Option R) -> σ -> Option R} (h : ∀ g s, F g (mk s) = G (fun t => g (mk t)) s) : ∀ n s, loopF F n (mk s) = loopF G n s
  | 0, s => rfl
  | n + 1, s => by
    have ih := q29_ h n
    show F (loopF F n) (mk s) = G (loopF G n) s
    rw [h]
    congr 1
    funext t
    exact ih t
theorem In.one : ∀ {q : Nat}, 0 < q -> In q 1 := fun {q} h => ⟨q.log2, q - 2 ^ q.log2, by
    have := (Nat.le_log2 (n := q) (k := q.log2) (by omega)).1 (Nat.le_refl _)
    omega, by
    have h1 : q < 2 ^ (q.log2 + 1) := (Nat.log2_lt (by omega)).1 (Nat.lt_succ_self _)
    rw [Nat.pow_succ] at h1
    omega⟩
def jfn (P : Program) (env : Env) (d fuel : Nat) (hs : Nat -> Option Hint) (f : FuncId) (sh : Sh) : Orc (As sh.rs) := fun q us =>
  match P.funcs[f]? with
  | some fn => match fn.body with
    | some c => fnd P env (evC P env fuel (eqAs sh.rs) d) fuel hs q c 1 (topK P fn sh) us
    | none => fun _ => none
  | none => fun _ => none
def pfn (P : Program) (env : Env) (d fuel : Nat) (hs : Nat -> Option Hint) (f : FuncId) (sh : Sh) (J : Orc (As sh.rs)) : Orc (As sh.rs) := fun q us =>
  match P.funcs[f]? with
  | some fn => match fn.body with
    | some c => pce P env (evC P env fuel (eqAs sh.rs) d) fuel hs J q c 1 (topK P fn sh) [] us
    | none => fun _ => none
  | none => fun _ => none
def rfn (P : Program) (env : Env) (d fuel : Nat) (hs : Nat -> Option Hint) (f : FuncId) (sh : Sh) (J : Orc (As sh.rs)) (x : As sh.ps) : Option (As sh.rs) :=
  match P.funcs[f]? with
  | some fn => match fn.body with
    | some c => match fA sh.as (en 0 sh.es) (dvAs sh.ps x) with
      | some (ss, own) => if ss.length ≤ fn.ntmps ∧ fn.results.size ≤ 5 then evJ P env (evC P env fuel (eqAs sh.rs) d) fuel hs J [] 1 c { fr := parF 0 ss, nt := fn.ntmps, up := [], own := own, nx := sh.es.length, log := [], ln := sh.es.length } (topK P fn sh) else none
      | none => none
    | none => none
  | none => none
theorem qo_ {d : Nat} {f : FuncId} {sh : Sh} {q : Nat} {us : Us (As sh.rs)} (hq : 0 < q) : jfn P env d fuel hs f sh q us = pfn P env d fuel hs f sh (jfn P env d fuel hs f sh) q us := by
  show _ = (match P.funcs[f]? with
    | some fn => match fn.body with
      | some c => pce P env (evC P env fuel (eqAs sh.rs) d) fuel hs (jfn P env d fuel hs f sh) q c 1 (topK P fn sh) [] us
      | none => fun _ => none
    | none => fun _ => none)
  split
  · rename_i fn hf
    split
    · rename_i c hb
      have e : ∀ q us, jfn P env d fuel hs f sh q us = fnd P env (evC P env fuel (eqAs sh.rs) d) fuel hs q c 1 (topK P fn sh) us := fun q us => by
        unfold jfn
        split
        · rename_i fn' hf'
          rw [hf] at hf'
          cases hf'
          split
          · rename_i c' hb'
            rw [hb] at hb'
            cases hb'
            rfl
          · rename_i hb'
            rw [hb] at hb'
            cases hb'
        · rename_i hf'
          rw [hf] at hf'
          cases hf'
      rw [pce_eq (by decide) (In.one hq) (fun q us _ => e q us), e]
    · rename_i hb
      unfold jfn
      rw [hf]
      simp only [hb]
  · rename_i hf
    unfold jfn
    rw [hf]
theorem q56_ {d : Nat} {f : FuncId} {sh : Sh} {x : As sh.ps} : evT P env d fuel hs f sh x = rfn P env d fuel hs f sh (jfn P env d fuel hs f sh) x := by
  cases hf : P.funcs[f]? with
  | none => unfold evT rfn; rw [hf]
  | some fn =>
    cases hb : fn.body with
    | none => unfold evT rfn; rw [hf]; simp only [hb]
    | some c =>
      have e : ∀ q us, jfn P env d fuel hs f sh q us = fnd P env (evC P env fuel (eqAs sh.rs) d) fuel hs q c 1 (topK P fn sh) us := fun q us => by
        unfold jfn; rw [hf]; simp only [hb]
      unfold evT rfn
      rw [hf]
      simp only [hb]
      have e2 : ∀ S, evJ P env (evC P env fuel (eqAs sh.rs) d) fuel hs (jfn P env d fuel hs f sh) [] 1 c S (topK P fn sh) = ev P env (evC P env fuel (eqAs sh.rs) d) fuel hs 1 c S (topK P fn sh) := fun S => evJ_eq (by decide) (fun q us _ => by rw [List.nil_append]; exact e q us)
      first
      | (simp only [e2]; done)
      | (simp only [e2]; rfl)
theorem ctn {P : Program} {I : World -> Prop} {env : Env} {f : FuncId} {sh : Sh} {m : As sh.ps -> Option (As sh.rs)} (he : EnvOk P I env) (d : Nat) (hm : ∀ J x, rfn P env d 18446744073709551616 (Ev.get []) f sh J x = m x) : CtOk P I f ⟨sh, m⟩ := ct_of_ev he fun x => q56_.trans (hm _ x)
def lpAt (q : Nat) : Code -> Nat -> Nat -> Bool
  | .seq x y, p, n => if q = p then false else if lft q p = true then lpAt q x (2 * p) n else lpAt q y (2 * p + 1) n
  | .block _ c, p, n => if q = p then false else if lft q p = true then lpAt q c (2 * p) n else false
  | .cond _ x y, p, n => if q = p then false else if lft q p = true then lpAt q x (2 * p) n else lpAt q y (2 * p + 1) n
  | .loop c, p, n => match n with
    | 0 => decide (q = p)
    | n + 1 => if q = p then false else if lft q p = true then lpAt q c (2 * p) n else false
  | _, _, _ => false
def lpf (P : Program) (f : FuncId) (q n : Nat) : Bool := match P.funcs[f]? with
  | some fn => match fn.body with
    | some c => lpAt q c 1 n
    | none => false
  | none => false
theorem pce_loop {q : Nat} : ∀ {c : Code} {p : Nat} {u0 us : Us R} {k : Kt R} {S : St}, lpAt q c p us.length = true ->
    pce P env cl fuel hs J q c p k u0 us S = loopF (fun self S => pce P env cl fuel hs J q c p k u0 (us ++ [self]) S) fuel S := by
  intro c
  induction c with
  | skip | label _ | ret | exit _ | rangeFunc | scope | goto | refuse | region _ _ _ => intro p u0 us k S h; cases h
  | seq x y ihx ihy =>
    intro p u0 us k S h
    unfold lpAt at h
    split at h
    · cases h
    · rename_i hne
      split at h
      · rename_i hl
        simp only [pce, if_neg hne, if_pos hl]
        exact ihx h
      · rename_i hl
        simp only [pce, if_neg hne, if_neg hl]
        exact ihy h
  | block id c ih =>
    intro p u0 us k S h
    unfold lpAt at h
    split at h
    · cases h
    · rename_i hne
      split at h
      · rename_i hl
        simp only [pce, if_neg hne, if_pos hl]
        exact ih h
      · cases h
  | cond c x y ihx ihy =>
    intro p u0 us k S h
    unfold lpAt at h
    split at h
    · cases h
    · rename_i hne
      split at h
      · rename_i hl
        simp only [pce, if_neg hne, if_pos hl]
        exact ihx h
      · rename_i hl
        simp only [pce, if_neg hne, if_neg hl]
        exact ihy h
  | loop c ih =>
    intro p u0 us k S h
    cases us with
    | nil =>
      have h : decide (q = p) = true := h
      have h := of_decide_eq_true h
      simp only [pce, List.nil_append, if_pos h]
    | cons u us =>
      have h : (if q = p then false else if lft q p = true then lpAt q c (2 * p) us.length else false) = true := h
      split at h
      · cases h
      · rename_i hne
        split at h
        · rename_i hl
          simp only [pce, List.cons_append, if_neg hne, if_pos hl]
          exact ih h
        · cases h
theorem q2u_ {d : Nat} {f : FuncId} {sh : Sh} {J : Orc (As sh.rs)} {q : Nat} {us : Us (As sh.rs)} (h : lpf P f q us.length = true) (S : St) :
    pfn P env d fuel hs f sh J q us S = loopF (fun self S => pfn P env d fuel hs f sh J q (us ++ [self]) S) fuel S := by
  cases hf : P.funcs[f]? with
  | none => unfold lpf at h; rw [hf] at h; cases h
  | some fn =>
    cases hb : fn.body with
    | none => unfold lpf at h; rw [hf] at h; simp only [hb] at h; cases h
    | some c =>
      unfold lpf at h
      rw [hf] at h
      simp only [hb] at h
      unfold pfn
      rw [hf]
      simp only [hb]
      exact pce_loop h
end
end Ev
end
section
namespace Rw
open Go Ev Sx Go.RowKit
def dgo (g : TypeId -> Option Ty) (P : Program) : Nat -> List Field -> Option (List Ty)
  | _, [] => some []
  | off, f :: r => (g f.type).bind fun a => if f.offset = off ∧ P.cellsOf f.type = a.size then (dgo g P (off + a.size) r).map fun q => a :: q else none
def sumS : List Ty -> Nat
  | [] => 0
  | a :: r => a.size + sumS r
def dty (P : Program) : Nat -> TypeId -> Option Ty
  | 0, _ => none
  | n + 1, t => match P.underlying t with
    | some (.int k) => some (.int k)
    | some .bool => some .bool
    | some .string => some .str
    | some (.slice e) => (dty P n e).bind fun y => if P.cellsOf e = y.size ∧ y.size ≠ 0 then some (.sl y) else none
    | some (.struct fs) => (dgo (dty P n) P 0 fs.toList).bind fun l => if P.cellsOf t = sumS l then some (strTy l) else none
    | _ => none
def okV : (t : Ty) -> Vl t -> Prop
  | .int k, x => (Lit.int k x).wf = true
  | .bool, _ => True
  | .str, x => x.length ≤ maxLen
  | .sl t, xs => xs.length ≤ maxLen ∧ ∀ x ∈ xs, okV t x
  | .pr a b, x => okV a x.1 ∧ okV b x.2
  | .wr a, x => okV a x
  | .un, _ => True
  | .ar n t, xs => xs.length = n ∧ ∀ x ∈ xs, okV t x
  | .mp _ _, _ => True
section
variable {H : Type} {enc : TypeId × Value -> H} {P : Program} {w : World} {base : Nat} {sp : Nat -> Bool} {held : Bool}
theorem rp_len {t : Ty} {L : Lx} {cs : List Value} {x : Vl t} (h : (rp t).rel L w cs x) : cs.length = t.size := by rw [(rp t).len h, q12_]
def FieldOk (w : World) (cs : List Value) (off : Nat) (a : Ty) : Prop := ∃ v : Vl a, (rp a).rel [] w ((cs.drop off).take a.size) v ∧ okV a v
def FieldsOk (w : World) (cs : List Value) : Nat -> List Ty -> Prop
  | _, [] => True
  | off, a :: r => FieldOk w cs off a ∧ FieldsOk w cs (off + a.size) r
theorem prs_ok {cs : List Value} : ∀ (r : List Ty) (a : Ty) (off : Nat), FieldsOk w cs off (a :: r) -> off + a.size + sumS r = cs.length -> ∃ v : Vl (strTy.prs a r), (rp (strTy.prs a r)).rel [] w (cs.drop off) v ∧ okV (strTy.prs a r) v
  | [], a, off, ⟨⟨v, h1, h2⟩, _⟩, hl => by
    have : (cs.drop off).take a.size = cs.drop off := List.take_of_length_le (by simp [sumS] at hl ⊢; omega)
    rw [this] at h1
    exact ⟨v, h1, h2⟩
  | b :: r, a, off, ⟨⟨v, h1, h2⟩, h3⟩, hl => by
    obtain ⟨u, h4, h5⟩ := prs_ok r b (off + a.size) h3 (by simp [sumS] at hl ⊢; omega)
    refine ⟨(v, u), ⟨(cs.drop off).take a.size, cs.drop (off + a.size), ?_, h1, h4⟩, h2, h5⟩
    rw [<- List.drop_drop]
    exact (List.take_append_drop _ _).symm
theorem str_ok {cs : List Value} : ∀ (l : List Ty), FieldsOk w cs 0 l -> sumS l = cs.length -> ∃ v : Vl (strTy l), (rp (strTy l)).rel [] w cs v ∧ okV (strTy l) v
  | [], _, hl => ⟨(), (by show cs = []; exact List.eq_nil_of_length_eq_zero hl.symm), trivial⟩
  | [a], ⟨⟨v, h1, h2⟩, _⟩, hl => by
    have : (cs.drop 0).take a.size = cs := by rw [List.drop_zero]; exact List.take_of_length_le (by simp [sumS] at hl; omega)
    rw [this] at h1
    exact ⟨v, h1, h2⟩
  | a :: b :: r, h, hl => prs_ok (b :: r) a 0 h (by simp [sumS] at hl ⊢; omega)
theorem dgo_ok {g : TypeId -> Option Ty} {cs : List Value} (ih : ∀ t y n c x, g t = some y -> DataW.trod enc P w base sp held n t c = some x -> ∃ v : Vl y, (rp y).rel [] w c v ∧ okV y v) (n : Nat) :
    ∀ (fs : List Field) (off : Nat) (l : List Ty), dgo g P off fs = some l -> (∀ f ∈ fs, ∃ x, DataW.trod enc P w base sp held n f.type ((cs.drop f.offset).take (P.cellsOf f.type)) = some x) -> FieldsOk w cs off l
  | [], off, l, h, _ => by cases h; trivial
  | f :: r, off, l, h, hx => by
    obtain ⟨a, h1, h⟩ := Option.bind_eq_some_iff.1 h
    split at h
    · rename_i hc
      obtain ⟨q, h2, rfl⟩ := Option.map_eq_some_iff.1 h
      obtain ⟨x, h3⟩ := hx f (List.mem_cons_self ..)
      obtain ⟨v, h4, h5⟩ := ih _ _ _ _ _ h1 h3
      rw [hc.1, hc.2] at h4
      exact ⟨⟨v, h4, h5⟩, dgo_ok ih n r _ _ h2 fun f hf => hx f (List.mem_cons_of_mem _ hf)⟩
    · cases h
theorem cells_at {a : Addr} {n : Nat} {cs : List Value} (h : w.cells? base a n = some cs) : cs.length = n ∧ ∀ j v, cs[j]? = some v -> w.cell? (a.add j) = some v := by
  unfold World.cells? at h
  split at h
  · have hl : cs.length = n := by simpa using mapM_some_length h
    refine ⟨hl, fun j v hj => ?_⟩
    have hjl : j < n := by rw [<- hl]; exact (List.getElem?_eq_some_iff.1 hj).1
    have := mapM_some_get h j j (by simp [hjl])
    rw [this, hj]
  · cases h
theorem cell_plain {a : Addr} {v : Value} (h : w.cell? a = some v) : a.spot = none ∧ a.block < w.heap.size := by
  unfold World.cell? at h
  split at h
  · rename_i hb
    split at h
    · cases h
    · rename_i hs
      exact ⟨by simpa using hs, (Array.getElem?_eq_some_iff.1 hb).1⟩
  · cases h
theorem add_plain (b o n : Nat) : (⟨b, o, none⟩ : Addr).add n = ⟨b, o + n, none⟩ := by
  unfold Addr.add
  split
  · rename_i h; subst h; rfl
  · rfl
theorem add_zero (a : Addr) : a.add 0 = a := by unfold Addr.add; rw [if_pos rfl]
theorem trod_ok : ∀ (m : Nat) (t : TypeId) (y : Ty) (n : Nat) (cs : List Value) (x : DataW H × List MemPlace), dty P m t = some y -> DataW.trod enc P w base sp held n t cs = some x -> ∃ v : Vl y, (rp y).rel [] w cs v ∧ okV y v
  | 0, _, _, _, _, _, h, _ => by cases h
  | m + 1, t, y, n, cs, x, h, hx => by
    unfold dty at h
    split at h
    · rename_i k ht
      cases h
      obtain ⟨z, rfl, _, hw⟩ := DataW.trod_int ht hx
      exact ⟨z, rfl, hw⟩
    · rename_i ht
      cases h
      obtain ⟨b, rfl, _⟩ := DataW.trod_bool ht hx
      exact ⟨b, rfl, trivial⟩
    · rename_i ht
      cases h
      obtain ⟨⟨⟨s⟩⟩, rfl, _, hs⟩ := DataW.trod_string ht hx
      exact ⟨s, rfl, hs⟩
    · rename_i e ht
      obtain ⟨y', h1, h⟩ := Option.bind_eq_some_iff.1 h
      split at h
      · rename_i hc
        cases h
        rcases DataW.trod_slice ht hx with ⟨rfl, _⟩ | ⟨a, len, cap, elems, rest, n', _, rfl, _, _, hlc, hcm, hel, hat, _⟩
        · exact ⟨[], slice_nil _ _ _ _ _, by simp, fun x hx => by cases hx⟩
        · have each : ∀ i : Fin len, ∃ v : Vl y', (∃ c, (rp y').rel [] w c v ∧ c.length = y'.size ∧ ∀ j u, c[j]? = some u -> w.cell? ((a.add (i.1 * P.cellsOf e)).add j) = some u) ∧ okV y' v := fun i => by
            have hi := hat i.1 i.2
            have : ∃ z, elems[i.1]? = some z := ⟨_, List.getElem?_eq_getElem (by rw [hel]; exact i.2)⟩
            obtain ⟨z, hz⟩ := this
            rw [hz] at hi
            obtain ⟨c, hc1, hc2⟩ := Option.bind_eq_some_iff.1 hi
            obtain ⟨v, hv1, hv2⟩ := trod_ok m e y' n' c z h1 hc2
            exact ⟨v, ⟨c, hv1, rp_len hv1, (cells_at hc1).2⟩, hv2⟩
          refine ⟨List.ofFn fun i => Classical.choose (each i), ⟨some a, cap, by simp, by simp; omega, fun hne => ?_⟩, by simp; omega, fun v hv => ?_⟩
          · have hlen : 0 < len := by
              rcases Nat.eq_zero_or_pos len with h0 | h0
              · subst h0; simp at hne
              · exact h0
            obtain ⟨⟨c, _, hcl, hcc⟩, _⟩ := Classical.choose_spec (each ⟨0, hlen⟩)
            have hpos : 0 < c.length := by have := hc.2; omega
            have h0 := cell_plain (hcc 0 c[0] (List.getElem?_eq_getElem hpos))
            rw [show (⟨0, hlen⟩ : Fin len).1 * P.cellsOf e = 0 from Nat.zero_mul _, add_zero, add_zero] at h0
            obtain ⟨b, o, s⟩ := a
            obtain ⟨hs, hb⟩ := h0
            have hs : s = none := hs
            subst hs
            refine ⟨b, o, rfl, fun i x hi => ?_⟩
            have hil : i < len := by have := (List.getElem?_eq_some_iff.1 hi).1; simpa using this
            have hxe : x = Classical.choose (each ⟨i, hil⟩) := by
              rw [List.getElem?_ofFn, dif_pos hil] at hi
              exact (Option.some.inj hi).symm
            obtain ⟨⟨c, hc1, _, hc3⟩, _⟩ := Classical.choose_spec (each ⟨i, hil⟩)
            subst hxe
            refine ⟨hb, by simp, c, hc1, fun j v hj => ?_⟩
            have := hc3 j v hj
            rw [q12_, <- hc.1]
            rw [add_plain, add_plain] at this
            exact this
          · obtain ⟨i, rfl⟩ := List.mem_ofFn.1 hv
            exact (Classical.choose_spec (each i)).2
      · cases h
    · rename_i fs ht
      obtain ⟨l, h1, h⟩ := Option.bind_eq_some_iff.1 h
      split at h
      · rename_i hc
        cases h
        obtain ⟨xs, n', _, _, hl, hxl, hf⟩ := DataW.trod_struct ht hx
        refine str_ok l ?_ (by rw [hl, hc])
        refine dgo_ok (fun t y n c x h1 h2 => trod_ok m t y n c x h1 h2) n' fs.toList 0 l h1 fun f hfm => ?_
        obtain ⟨i, hi, rfl⟩ := List.getElem_of_mem hfm
        have hi' : i < fs.size := by simpa using hi
        have := hf i fs[i] (Array.getElem?_eq_getElem hi')
        rw [List.getElem?_eq_getElem (by omega)] at this
        exact ⟨_, this⟩
      · cases h
    · cases h
theorem val_of {t : TypeId} {y : Ty} {m : Nat} {v : Value} {d : DataW H} {ps : List MemPlace} {r : Reach} {b' : Nat} {w' : World} (hd : dty P (m + 1) t = some y) (ho : Value.okWide P w' r b' t v) (h : DataW.Trod enc P w base sp held t v d ps) : ∃ x : Vl y, Den [] [] w (.d y x) v ∧ okV y x := by
  obtain ⟨n, hn⟩ := h
  obtain ⟨x, h1, h2⟩ := trod_ok (m + 1) t y n _ _ hd hn
  refine ⟨x, ⟨v.cells.toList, h1, ?_⟩, h2⟩
  have one : ∀ u : Value, v = u -> u.cells = #[u] -> y.agg = false -> v = (rp y).val v.cells.toList := fun u e hc ha => by
    subst e
    simp [Rp.val, q5i_, ha, hc]
  unfold dty at hd
  split at hd
  · rename_i k ht
    cases hd
    obtain ⟨z, rfl⟩ := Go.WideShapes.okWide_int ht ho
    exact one _ rfl rfl rfl
  · rename_i ht
    cases hd
    obtain ⟨b, hb, _⟩ := DataW.trod_bool ht hn
    have : ∃ b, v = .bool b := by
      simp only [Value.okWide, ht, Cell.okWide] at ho
      cases v <;> simp_all [Cell.ok]
    obtain ⟨b, rfl⟩ := this
    exact one _ rfl rfl rfl
  · rename_i ht
    cases hd
    obtain ⟨s, rfl⟩ := Go.WideShapes.okWide_string ht ho
    exact one _ rfl rfl rfl
  · rename_i e ht
    obtain ⟨y', h3, hd⟩ := Option.bind_eq_some_iff.1 hd
    split at hd
    · cases hd
      obtain ⟨a, len, cap, rfl⟩ := Go.WideShapes.okWide_slice ht ho
      exact one _ rfl rfl rfl
    · cases hd
  · rename_i fs ht
    obtain ⟨l, h3, hd⟩ := Option.bind_eq_some_iff.1 hd
    split at hd
    · cases hd
      simp only [Value.okWide, ht] at ho
      obtain ⟨cs, rfl, _, _⟩ := ho
      have ha : (strTy l).agg = true := by
        match l with
        | [] => rfl
        | [a] => rfl
        | a :: b :: q => rfl
      simp [Rp.val, q5i_, ha, Value.cells]
    · cases hd
  · cases hd
end
end Rw
end
section
namespace Rw
open Go Ev Sx Go.RowKit
theorem below_of {W W' : World} (h : Blw (Bo [] [] W) W W') : Below W.heap.size W W' :=
  ⟨h.os, h.tape, h.output, h.size, fun k hk => h.block k hk (by
    rintro (h | h)
    · cases h
    · omega)⟩
theorem lok0 (W : World) : LOk (Bo [] [] W) (lx [] []) [] W := ⟨.nil, fun k h => (by cases h), fun k h => (by cases h), fun k h => .inr h, fun k h => (by cases h)⟩
def okA : (ps : List Ty) -> As ps -> Prop
  | [], _ => True
  | a :: r, x => okV a x.1 ∧ okA r x.2
def dS : (ps : List Ty) -> As ps -> List SV
  | [], _ => []
  | a :: r, x => .d a x.1 :: dS r x.2
theorem fL_d : ∀ (ps : List Ty) (x : As ps), fL (ps.map TS.d) (dvAs ps x) = some (dS ps x, [])
  | [], _ => rfl
  | a :: r, x => by
    show (fS (.d a) (⟨a, x.1⟩ :: dvAs r x.2)).bind _ = _
    unfold fS
    simp only [q9g_, Option.map_some, Option.bind_some]
    rw [fL_d r x.2]
    rfl
theorem fA_d (ps : List Ty) (x : As ps) : fA (ps.map TS.d) [] (dvAs ps x) = some (dS ps x, []) := by
  unfold fA
  rw [fL_d, Option.bind_some]
  rfl
def dtys (P : Program) : List TypeId -> Option (List Ty)
  | [] => some []
  | t :: r => (dty P 13 t).bind fun y => (dtys P r).map fun q => y :: q
theorem law_den {P : Program} {H : Type} {enc : TypeId × Value -> H} {W : World} {b0 : Nat} {sp : Nat -> Bool} {held : Bool} : ∀ {ts : List TypeId} {ps : List Ty} {vs : List Value} {ds : List (DataW H)} {p : List MemPlace}, dtys P ts = some ps ->
    (∀ (j : Nat) t v, ts[j]? = some t -> vs[j]? = some v -> ∃ r b w', Value.okWide P w' r b t v) -> DataW.TrodAll enc P W b0 sp held ts vs ds p -> ∃ x : As ps, okA ps x ∧ DenL [] [] W (dS ps x) vs
  | [], ps, vs, ds, p, h, _, hA => by
    cases h
    cases vs with
    | nil => exact ⟨(), trivial, rfl⟩
    | cons v vs => cases ds <;> exact absurd hA (by simp [DataW.TrodAll])
  | t :: ts, ps, vs, ds, p, h, ho, hA => by
    obtain ⟨y, h1, h⟩ := Option.bind_eq_some_iff.1 h
    obtain ⟨q, h2, rfl⟩ := Option.map_eq_some_iff.1 h
    match vs, ds, hA with
    | v :: vs, d :: ds, hA =>
      obtain ⟨p1, p2, h3, h4, _⟩ := hA
      obtain ⟨r, b, w', h5⟩ := ho 0 t v rfl rfl
      obtain ⟨x, hx1, hx2⟩ := val_of h1 h5 h3
      obtain ⟨xs, hy1, hy2⟩ := law_den h2 (fun j t v ht hv => ho (j + 1) t v ht hv) h4
      exact ⟨(x, xs), ⟨hx2, hy1⟩, v, vs, rfl, hx1, hy2⟩
    | [], _, hA => exact absurd hA (by simp [DataW.TrodAll])
    | _ :: _, [], hA => exact absurd hA (by simp [DataW.TrodAll])
end Rw
end
section
namespace Rw
open Go Ev Sx Go.RowKit
theorem law_callsI {P : Program} {I : World -> Prop} {f : FuncId} {ts : List TS} {ps : List Ty} {m : As ps -> Option (Bool × Unit)} (h : CtOk P I f ⟨⟨ts, [], ps, [.d .bool], [], 0, [.bool]⟩, m⟩) {x : As ps} (hm : m x = some (true, ())) {ss : List SV} (hA : fA ts [] (dvAs ps x) = some (ss, [])) {vs : List Value} {W : World} (hI : ∀ W', Below W.heap.size W W' -> I W') (hd : DenL [] [] W ss vs) :
    Calls P f vs.toArray W (fun e W' => ∃ v, e = .returned v ∧ v = .bool true ∧ Below W.heap.size W W') := by
  refine (h [] W [] x (true, ()) ss [] vs hm hA rfl (fun w' hw => hI w' (below_of hw)) (lok0 W) (fun e he => by cases he) hd).mono fun e w' he => ?_
  obtain ⟨us, rfl, pl', rr, own', h1, _, _, h4, _, _, h7⟩ := he
  have h1 : some ([SV.d .bool true], ([] : List (Nat × Ent))) = some (rr, own') := h1
  cases h1
  obtain ⟨v, q, rfl, h8, h9⟩ := h7
  cases h9
  exact ⟨_, rfl, den_bool h8, below_of h4⟩
theorem law_rowI {P : Program} {I : World -> Prop} {f : FuncId} {ps : List Ty} {m : As ps -> Option (Bool × Unit)} (h : CtOk P I f ⟨⟨ps.map TS.d, [], ps, [.d .bool], [], 0, [.bool]⟩, m⟩) (law : ∀ x, okA ps x -> m x = some (true, ()))
    {ts : Array TypeId} (ht : dtys P ts.toList = some ps) {H : Type} {enc : TypeId × Value -> H} {W : World} (hI : ∀ W', Below W.heap.size W W' -> I W') {b0 : Nat} {sp : Nat -> Bool} {held : Bool} {args : Array Value} {ds : List (DataW H)} {p : List MemPlace}
    (hval : ∀ (j : Nat) t v, ts[j]? = some t -> args[j]? = some v -> ∃ r b w', Value.okWide P w' r b t v) (hA : DataW.TrodAll enc P W b0 sp held ts.toList args.toList ds p) :
    Calls P f args W (fun e W' => ∃ v, e = .returned v ∧ v = .bool true ∧ Below W.heap.size W W') := by
  obtain ⟨x, h1, h2⟩ := law_den ht (fun j t v h3 h4 => hval j t v (by simpa using h3) (by simpa using h4)) hA
  have := law_callsI h (law x h1) (fA_d ps x) hI h2
  simpa using this
end Rw
end
section
namespace Go.Proofs
open Go.Shelf
def Tryd.laysM284_ren : Go.Shelf.Ren := ⟨fun | 284 => 41 | 129 => 60 | 317 => 59 | 318 => 61 | n => n, fun | 53 => 38 | 3 => 3 | 212 => 109 | 0 => 0 | 4 => 4 | 46 => 98 | 5 => 5 | 9 => 9 | n => n, fun | 17 => 0 | n => n⟩
theorem Tryd.laysM284 : Go.Proofs.LaysM.n284 Tryd.prog Tryd.laysM284_ren := {
  mixed := by kernel_rfl
  f129 := Tryd.func60.trans (congrArg some (by kernel_rfl))
  f284 := Tryd.func41.trans (congrArg some (by kernel_rfl))
  f317 := Tryd.func59.trans (congrArg some (by kernel_rfl))
  f318 := Tryd.func61.trans (congrArg some (by kernel_rfl))
  t0 := Tryd.underlying0
  a0 := Tryd.isAgg0
  z0 := Tryd.sizeOf0
  v0 := Tryd.zeroValue0
  t3 := Tryd.underlying3
  a3 := Tryd.isAgg3
  z3 := Tryd.sizeOf3
  v3 := Tryd.zeroValue3
  t4 := Tryd.underlying4
  a4 := Tryd.isAgg4
  z4 := Tryd.sizeOf4
  v4 := Tryd.zeroValue4
  t5 := Tryd.underlying5
  a5 := Tryd.isAgg5
  z5 := Tryd.sizeOf5
  v5 := Tryd.zeroValue5
  t9 := Tryd.underlying9
  a9 := Tryd.isAgg9
  z9 := Tryd.sizeOf9
  v9 := Tryd.zeroValue9
  t46 := Tryd.underlying98
  a46 := Tryd.isAgg98
  z46 := Tryd.sizeOf98
  v46 := Tryd.zeroValue98
  t53 := Tryd.underlying38
  a53 := Tryd.isAgg38
  z53 := Tryd.sizeOf38
  v53 := Tryd.zeroValue38
  t212 := Tryd.underlying109
  a212 := Tryd.isAgg109
  z212 := Tryd.sizeOf109
  v212 := Tryd.zeroValue109
  g17 := by kernel_rfl
  i0 := by kernel_rfl
  i3 := by kernel_rfl
  i4 := by kernel_rfl
  i5 := by kernel_rfl
  i9 := by kernel_rfl
  i46 := by kernel_rfl
  i53 := by kernel_rfl
  i212 := by kernel_rfl
  m17 := by kernel_rfl }
def Tryd.laysM246_ren : Go.Shelf.Ren := ⟨fun | 246 => 71 | 283 => 40 | 284 => 41 | 285 => 42 | 286 => 43 | 129 => 60 | 317 => 59 | 318 => 61 | 319 => 62 | 320 => 63 | 337 => 72 | 338 => 73 | n => n, fun | 2 => 2 | 3 => 3 | 9 => 9 | 4 => 4 | 171 => 92 | 0 => 0 | 53 => 38 | 37 => 27 | 5 => 5 | 173 => 95 | 212 => 109 | 51 => 26 | 20 => 20 | 213 => 110 | 46 => 98 | 232 => 131 | 233 => 132 | n => n, fun | 17 => 0 | 18 => 1 | 19 => 2 | n => n⟩
theorem Tryd.laysM246 : Go.Proofs.LaysM.n246 Tryd.prog Tryd.laysM246_ren := {
  mixed := by kernel_rfl
  f129 := Tryd.func60.trans (congrArg some (by kernel_rfl))
  f246 := Tryd.func71.trans (congrArg some (by kernel_rfl))
  f283 := Tryd.func40.trans (congrArg some (by kernel_rfl))
  f284 := Tryd.func41.trans (congrArg some (by kernel_rfl))
  f285 := Tryd.func42.trans (congrArg some (by kernel_rfl))
  f286 := Tryd.func43.trans (congrArg some (by kernel_rfl))
  f317 := Tryd.func59.trans (congrArg some (by kernel_rfl))
  f318 := Tryd.func61.trans (congrArg some (by kernel_rfl))
  f319 := Tryd.func62.trans (congrArg some (by kernel_rfl))
  f320 := Tryd.func63.trans (congrArg some (by kernel_rfl))
  f337 := Tryd.func72.trans (congrArg some (by kernel_rfl))
  f338 := Tryd.func73.trans (congrArg some (by kernel_rfl))
  t0 := Tryd.underlying0
  a0 := Tryd.isAgg0
  z0 := Tryd.sizeOf0
  v0 := Tryd.zeroValue0
  t2 := Tryd.underlying2
  a2 := Tryd.isAgg2
  z2 := Tryd.sizeOf2
  v2 := Tryd.zeroValue2
  t3 := Tryd.underlying3
  a3 := Tryd.isAgg3
  z3 := Tryd.sizeOf3
  v3 := Tryd.zeroValue3
  t4 := Tryd.underlying4
  a4 := Tryd.isAgg4
  z4 := Tryd.sizeOf4
  v4 := Tryd.zeroValue4
  t5 := Tryd.underlying5
  a5 := Tryd.isAgg5
  z5 := Tryd.sizeOf5
  v5 := Tryd.zeroValue5
  t9 := Tryd.underlying9
  a9 := Tryd.isAgg9
  z9 := Tryd.sizeOf9
  v9 := Tryd.zeroValue9
  t20 := Tryd.underlying20
  a20 := Tryd.isAgg20
  z20 := Tryd.sizeOf20
  v20 := Tryd.zeroValue20
  t37 := Tryd.underlying27
  a37 := Tryd.isAgg27
  z37 := Tryd.sizeOf27
  v37 := Tryd.zeroValue27
  t46 := Tryd.underlying98
  a46 := Tryd.isAgg98
  z46 := Tryd.sizeOf98
  v46 := Tryd.zeroValue98
  t51 := Tryd.underlying26
  a51 := Tryd.isAgg26
  z51 := Tryd.sizeOf26
  v51 := Tryd.zeroValue26
  t53 := Tryd.underlying38
  a53 := Tryd.isAgg38
  z53 := Tryd.sizeOf38
  v53 := Tryd.zeroValue38
  t171 := Tryd.underlying92
  a171 := Tryd.isAgg92
  z171 := Tryd.sizeOf92
  v171 := Tryd.zeroValue92
  t173 := Tryd.underlying95
  a173 := Tryd.isAgg95
  z173 := Tryd.sizeOf95
  v173 := Tryd.zeroValue95
  t212 := Tryd.underlying109
  a212 := Tryd.isAgg109
  z212 := Tryd.sizeOf109
  v212 := Tryd.zeroValue109
  t213 := Tryd.underlying110
  a213 := Tryd.isAgg110
  z213 := Tryd.sizeOf110
  t232 := Tryd.underlying131
  a232 := Tryd.isAgg131
  z232 := Tryd.sizeOf131
  v232 := Tryd.zeroValue131
  t233 := Tryd.underlying132
  a233 := Tryd.isAgg132
  z233 := Tryd.sizeOf132
  v233 := Tryd.zeroValue132
  g17 := by kernel_rfl
  g18 := by kernel_rfl
  g19 := by kernel_rfl
  i0 := by kernel_rfl
  i2 := by kernel_rfl
  i3 := by kernel_rfl
  i4 := by kernel_rfl
  i5 := by kernel_rfl
  i9 := by kernel_rfl
  i20 := by kernel_rfl
  i37 := by kernel_rfl
  i46 := by kernel_rfl
  i51 := by kernel_rfl
  i53 := by kernel_rfl
  i171 := by kernel_rfl
  i173 := by kernel_rfl
  i212 := by kernel_rfl
  i232 := by kernel_rfl
  i233 := by kernel_rfl
  m17 := by kernel_rfl
  m18 := by kernel_rfl
  m19 := by kernel_rfl }
def Tryd.laysM171_ren : Go.Shelf.Ren := ⟨fun | 171 => 35 | 243 => 55 | 246 => 71 | 283 => 40 | 284 => 41 | 285 => 42 | 286 => 43 | 129 => 60 | 317 => 59 | 318 => 61 | 319 => 62 | 320 => 63 | 337 => 72 | 338 => 73 | n => n, fun | 3 => 3 | 9 => 9 | 2 => 2 | 4 => 4 | 171 => 92 | 0 => 0 | 53 => 38 | 37 => 27 | 5 => 5 | 173 => 95 | 212 => 109 | 51 => 26 | 20 => 20 | 213 => 110 | 46 => 98 | 232 => 131 | 233 => 132 | n => n, fun | 17 => 0 | 18 => 1 | 19 => 2 | n => n⟩
theorem Tryd.laysM171 : Go.Proofs.LaysM.n171 Tryd.prog Tryd.laysM171_ren := {
  mixed := by kernel_rfl
  f129 := Tryd.func60.trans (congrArg some (by kernel_rfl))
  f171 := Tryd.func35.trans (congrArg some (by kernel_rfl))
  f243 := Tryd.func55.trans (congrArg some (by kernel_rfl))
  f246 := Tryd.func71.trans (congrArg some (by kernel_rfl))
  f283 := Tryd.func40.trans (congrArg some (by kernel_rfl))
  f284 := Tryd.func41.trans (congrArg some (by kernel_rfl))
  f285 := Tryd.func42.trans (congrArg some (by kernel_rfl))
  f286 := Tryd.func43.trans (congrArg some (by kernel_rfl))
  f317 := Tryd.func59.trans (congrArg some (by kernel_rfl))
  f318 := Tryd.func61.trans (congrArg some (by kernel_rfl))
  f319 := Tryd.func62.trans (congrArg some (by kernel_rfl))
  f320 := Tryd.func63.trans (congrArg some (by kernel_rfl))
  f337 := Tryd.func72.trans (congrArg some (by kernel_rfl))
  f338 := Tryd.func73.trans (congrArg some (by kernel_rfl))
  t0 := Tryd.underlying0
  a0 := Tryd.isAgg0
  z0 := Tryd.sizeOf0
  v0 := Tryd.zeroValue0
  t2 := Tryd.underlying2
  a2 := Tryd.isAgg2
  z2 := Tryd.sizeOf2
  v2 := Tryd.zeroValue2
  t3 := Tryd.underlying3
  a3 := Tryd.isAgg3
  z3 := Tryd.sizeOf3
  v3 := Tryd.zeroValue3
  t4 := Tryd.underlying4
  a4 := Tryd.isAgg4
  z4 := Tryd.sizeOf4
  v4 := Tryd.zeroValue4
  t5 := Tryd.underlying5
  a5 := Tryd.isAgg5
  z5 := Tryd.sizeOf5
  v5 := Tryd.zeroValue5
  t9 := Tryd.underlying9
  a9 := Tryd.isAgg9
  z9 := Tryd.sizeOf9
  v9 := Tryd.zeroValue9
  t20 := Tryd.underlying20
  a20 := Tryd.isAgg20
  z20 := Tryd.sizeOf20
  v20 := Tryd.zeroValue20
  t37 := Tryd.underlying27
  a37 := Tryd.isAgg27
  z37 := Tryd.sizeOf27
  v37 := Tryd.zeroValue27
  t46 := Tryd.underlying98
  a46 := Tryd.isAgg98
  z46 := Tryd.sizeOf98
  v46 := Tryd.zeroValue98
  t51 := Tryd.underlying26
  a51 := Tryd.isAgg26
  z51 := Tryd.sizeOf26
  v51 := Tryd.zeroValue26
  t53 := Tryd.underlying38
  a53 := Tryd.isAgg38
  z53 := Tryd.sizeOf38
  v53 := Tryd.zeroValue38
  t171 := Tryd.underlying92
  a171 := Tryd.isAgg92
  z171 := Tryd.sizeOf92
  v171 := Tryd.zeroValue92
  t173 := Tryd.underlying95
  a173 := Tryd.isAgg95
  z173 := Tryd.sizeOf95
  v173 := Tryd.zeroValue95
  t212 := Tryd.underlying109
  a212 := Tryd.isAgg109
  z212 := Tryd.sizeOf109
  v212 := Tryd.zeroValue109
  t213 := Tryd.underlying110
  a213 := Tryd.isAgg110
  z213 := Tryd.sizeOf110
  t232 := Tryd.underlying131
  a232 := Tryd.isAgg131
  z232 := Tryd.sizeOf131
  v232 := Tryd.zeroValue131
  t233 := Tryd.underlying132
  a233 := Tryd.isAgg132
  z233 := Tryd.sizeOf132
  v233 := Tryd.zeroValue132
  g17 := by kernel_rfl
  g18 := by kernel_rfl
  g19 := by kernel_rfl
  i0 := by kernel_rfl
  i2 := by kernel_rfl
  i3 := by kernel_rfl
  i4 := by kernel_rfl
  i5 := by kernel_rfl
  i9 := by kernel_rfl
  i20 := by kernel_rfl
  i37 := by kernel_rfl
  i46 := by kernel_rfl
  i51 := by kernel_rfl
  i53 := by kernel_rfl
  i171 := by kernel_rfl
  i173 := by kernel_rfl
  i212 := by kernel_rfl
  i232 := by kernel_rfl
  i233 := by kernel_rfl
  m17 := by kernel_rfl
  m18 := by kernel_rfl
  m19 := by kernel_rfl }
def Tryd.laysPu14_ren : Go.Shelf.Ren := ⟨fun | 14 => 70 | 16 => 83 | 17 => 84 | 19 => 90 | 20 => 91 | 21 => 92 | 22 => 93 | 23 => 94 | 24 => 95 | 25 => 97 | 27 => 35 | 26 => 98 | 28 => 55 | 29 => 71 | 30 => 40 | 31 => 41 | 32 => 42 | 33 => 43 | 35 => 60 | 34 => 59 | 36 => 61 | 37 => 62 | 38 => 63 | 39 => 72 | 40 => 73 | n => n, fun | 9 => 9 | 3 => 3 | 22 => 38 | 24 => 68 | 25 => 118 | 4 => 4 | 34 => 139 | 5 => 5 | 36 => 98 | 37 => 27 | 0 => 0 | 39 => 141 | 21 => 21 | 44 => 149 | 47 => 100 | 50 => 153 | 48 => 151 | 2 => 2 | 52 => 92 | 55 => 95 | 59 => 109 | 60 => 26 | 20 => 20 | 61 => 110 | 65 => 131 | 66 => 132 | 67 => 73 | n => n, fun | 0 => 3 | 1 => 4 | 2 => 0 | 3 => 1 | 4 => 2 | n => n⟩
theorem Tryd.laysPu14 : Go.Proofs.LaysPu.n14 Tryd.prog Tryd.laysPu14_ren := {
  mixed := by kernel_rfl
  f14 := Tryd.func70.trans (congrArg some (by kernel_rfl))
  f16 := Tryd.func83.trans (congrArg some (by kernel_rfl))
  f17 := Tryd.func84.trans (congrArg some (by kernel_rfl))
  f19 := Tryd.func90.trans (congrArg some (by kernel_rfl))
  f20 := Tryd.func91.trans (congrArg some (by kernel_rfl))
  f21 := Tryd.func92.trans (congrArg some (by kernel_rfl))
  f22 := Tryd.func93.trans (congrArg some (by kernel_rfl))
  f23 := Tryd.func94.trans (congrArg some (by kernel_rfl))
  f24 := Tryd.func95.trans (congrArg some (by kernel_rfl))
  f25 := Tryd.func97.trans (congrArg some (by kernel_rfl))
  f26 := Tryd.func98.trans (congrArg some (by kernel_rfl))
  f27 := Tryd.func35.trans (congrArg some (by kernel_rfl))
  f28 := Tryd.func55.trans (congrArg some (by kernel_rfl))
  f29 := Tryd.func71.trans (congrArg some (by kernel_rfl))
  f30 := Tryd.func40.trans (congrArg some (by kernel_rfl))
  f31 := Tryd.func41.trans (congrArg some (by kernel_rfl))
  f32 := Tryd.func42.trans (congrArg some (by kernel_rfl))
  f33 := Tryd.func43.trans (congrArg some (by kernel_rfl))
  f34 := Tryd.func59.trans (congrArg some (by kernel_rfl))
  f35 := Tryd.func60.trans (congrArg some (by kernel_rfl))
  f36 := Tryd.func61.trans (congrArg some (by kernel_rfl))
  f37 := Tryd.func62.trans (congrArg some (by kernel_rfl))
  f38 := Tryd.func63.trans (congrArg some (by kernel_rfl))
  f39 := Tryd.func72.trans (congrArg some (by kernel_rfl))
  f40 := Tryd.func73.trans (congrArg some (by kernel_rfl))
  t0 := Tryd.underlying0
  a0 := Tryd.isAgg0
  z0 := Tryd.sizeOf0
  v0 := Tryd.zeroValue0
  i0 := by kernel_rfl
  t2 := Tryd.underlying2
  a2 := Tryd.isAgg2
  z2 := Tryd.sizeOf2
  v2 := Tryd.zeroValue2
  i2 := by kernel_rfl
  t3 := Tryd.underlying3
  a3 := Tryd.isAgg3
  z3 := Tryd.sizeOf3
  v3 := Tryd.zeroValue3
  i3 := by kernel_rfl
  t4 := Tryd.underlying4
  a4 := Tryd.isAgg4
  z4 := Tryd.sizeOf4
  v4 := Tryd.zeroValue4
  i4 := by kernel_rfl
  t5 := Tryd.underlying5
  a5 := Tryd.isAgg5
  z5 := Tryd.sizeOf5
  v5 := Tryd.zeroValue5
  i5 := by kernel_rfl
  t9 := Tryd.underlying9
  a9 := Tryd.isAgg9
  z9 := Tryd.sizeOf9
  v9 := Tryd.zeroValue9
  i9 := by kernel_rfl
  t20 := Tryd.underlying20
  a20 := Tryd.isAgg20
  z20 := Tryd.sizeOf20
  v20 := Tryd.zeroValue20
  i20 := by kernel_rfl
  t21 := Tryd.underlying21
  a21 := Tryd.isAgg21
  z21 := Tryd.sizeOf21
  v21 := Tryd.zeroValue21
  i21 := by kernel_rfl
  t22 := Tryd.underlying38
  a22 := Tryd.isAgg38
  z22 := Tryd.sizeOf38
  v22 := Tryd.zeroValue38
  i22 := by kernel_rfl
  t24 := Tryd.underlying68
  a24 := Tryd.isAgg68
  z24 := Tryd.sizeOf68
  v24 := Tryd.zeroValue68
  i24 := by kernel_rfl
  t25 := Tryd.underlying118
  a25 := Tryd.isAgg118
  z25 := Tryd.sizeOf118
  v25 := Tryd.zeroValue118
  i25 := by kernel_rfl
  t34 := Tryd.underlying139
  a34 := Tryd.isAgg139
  z34 := Tryd.sizeOf139
  v34 := Tryd.zeroValue139
  i34 := by kernel_rfl
  c34 := by kernel_rfl
  t36 := Tryd.underlying98
  a36 := Tryd.isAgg98
  z36 := Tryd.sizeOf98
  v36 := Tryd.zeroValue98
  i36 := by kernel_rfl
  t37 := Tryd.underlying27
  a37 := Tryd.isAgg27
  z37 := Tryd.sizeOf27
  v37 := Tryd.zeroValue27
  i37 := by kernel_rfl
  t39 := Tryd.underlying141
  a39 := Tryd.isAgg141
  z39 := Tryd.sizeOf141
  v39 := Tryd.zeroValue141
  i39 := by kernel_rfl
  t44 := Tryd.underlying149
  a44 := Tryd.isAgg149
  z44 := Tryd.sizeOf149
  v44 := Tryd.zeroValue149
  i44 := by kernel_rfl
  t47 := Tryd.underlying100
  a47 := Tryd.isAgg100
  z47 := Tryd.sizeOf100
  v47 := Tryd.zeroValue100
  i47 := by kernel_rfl
  t48 := Tryd.underlying151
  a48 := Tryd.isAgg151
  z48 := Tryd.sizeOf151
  v48 := Tryd.zeroValue151
  i48 := by kernel_rfl
  t50 := Tryd.underlying153
  a50 := Tryd.isAgg153
  z50 := Tryd.sizeOf153
  v50 := Tryd.zeroValue153
  i50 := by kernel_rfl
  t52 := Tryd.underlying92
  a52 := Tryd.isAgg92
  z52 := Tryd.sizeOf92
  v52 := Tryd.zeroValue92
  i52 := by kernel_rfl
  t55 := Tryd.underlying95
  a55 := Tryd.isAgg95
  z55 := Tryd.sizeOf95
  v55 := Tryd.zeroValue95
  i55 := by kernel_rfl
  t59 := Tryd.underlying109
  a59 := Tryd.isAgg109
  z59 := Tryd.sizeOf109
  v59 := Tryd.zeroValue109
  i59 := by kernel_rfl
  t60 := Tryd.underlying26
  a60 := Tryd.isAgg26
  z60 := Tryd.sizeOf26
  v60 := Tryd.zeroValue26
  i60 := by kernel_rfl
  t61 := Tryd.underlying110
  a61 := Tryd.isAgg110
  z61 := Tryd.sizeOf110
  t65 := Tryd.underlying131
  a65 := Tryd.isAgg131
  z65 := Tryd.sizeOf131
  v65 := Tryd.zeroValue131
  i65 := by kernel_rfl
  t66 := Tryd.underlying132
  a66 := Tryd.isAgg132
  z66 := Tryd.sizeOf132
  v66 := Tryd.zeroValue132
  i66 := by kernel_rfl
  t67 := Tryd.underlying73
  a67 := Tryd.isAgg73
  z67 := Tryd.sizeOf73
  v67 := Tryd.zeroValue73
  i67 := by kernel_rfl
  g0 := by kernel_rfl
  m0 := by kernel_rfl
  g1 := by kernel_rfl
  m1 := by kernel_rfl
  g2 := by kernel_rfl
  m2 := by kernel_rfl
  g3 := by kernel_rfl
  m3 := by kernel_rfl
  g4 := by kernel_rfl
  m4 := by kernel_rfl }
end Go.Proofs
end
section
namespace Go.Proofs.Lx
open Go Ev Sx Go.RowKit Go.Proofs Go.Proofs.YtlpbpoknpjgnbaaDoor
def p10 : String := match Rows.statusForwardRow.laid with
  | _ :: _ :: x :: _ => x.1
  | _ => ""
def I0 (w : World) : Prop := Lib.TabIs Tryd.prog w p10 .u64 Lib.pow10Tab ∧ (∃ te pe, w.cell? ⟨3, 0, none⟩ = some (.iface te pe)) ∧ (∃ te pe, w.cell? ⟨4, 0, none⟩ = some (.iface te pe))
theorem den1 {pl : List Ev.Place} {L : Lx} {w : World} {k : IntKind} {x : Int} {v : Value} (h : Den pl L w (.d (.int k) x) v) : v = .int k x := by
  obtain ⟨cs, h1, rfl⟩ := h
  have h1 : cs = [.int k x] := h1
  subst h1
  rfl
theorem denS {pl : List Ev.Place} {L : Lx} {w : World} {x : List UInt8} {v : Value} (h : Den pl L w (.d .str x) v) : v = .string ⟨⟨x⟩⟩ := by
  obtain ⟨cs, h1, rfl⟩ := h
  have h1 : cs = [.string ⟨⟨x⟩⟩] := h1
  subst h1
  rfl
theorem toDen {pl : List Ev.Place} {L : Lx} {w : World} {k : IntKind} {x : Int} : Den pl L w (.d (.int k) x) (.int k x) := ⟨[.int k x], rfl, rfl⟩
theorem lok_step {B : Nat -> Prop} {F : Lx} {w w' : World} (h : LOk B [] F w) (hs : w.heap.size ≤ w'.heap.size) : LOk B [] F w' := ⟨.nil, fun k hk => (by cases hk), fun k hk => (by cases hk), h.baseS hs, h.farS hs⟩
theorem blw_below {pl : List Ev.Place} {w w' : World} (h : Below w.heap.size w w') : Blw (Bo pl [] w) w w' := ⟨h.os, h.tape, h.output, h.size, fun k hk _ => h.block k hk⟩
@[reducible] def strconv_ParseUint_ok_s : Sh := ⟨[.d .str, .d (.int .i64), .d (.int .i64)], [], [.str, .int .i64, .int .i64], [.d (.int .u64), .k .nilIface], [], 0, [.int .u64]⟩
def qdu_ (x : As [.str, .int .i64, .int .i64]) : Option (As [.int .u64]) := if x.1.length ≤ 281474976710656 ∧ x.2.1 = 10 ∧ x.2.2.1 = 32 then
  (match Lib.parseUintB 32 x.1 with
  | .ok u => some ((u : Int), ())
  | _ => none) else none
theorem strconv_ParseUint_ok_ok : CtOk Tryd.prog I0 70 ⟨strconv_ParseUint_ok_s, qdu_⟩ := by
  intro F w0 pl x y ss own vs hx hA hpl hI hL hE hD
  have hA : some ([SV.d .str x.1, SV.d (.int .i64) x.2.1, SV.d (.int .i64) x.2.2.1], ([] : List (Nat × Ent))) = some (ss, own) := hA
  cases hA
  obtain ⟨v1, q1, rfl, hv1, v2, q2, rfl, hv2, v3, q3, rfl, hv3, hq⟩ := hD
  have hq : q3 = [] := hq
  subst hq
  rw [denS hv1, den1 hv2, den1 hv3]
  have hx : (if x.1.length ≤ 281474976710656 ∧ x.2.1 = 10 ∧ x.2.2.1 = 32 then (match Lib.parseUintB 32 x.1 with
    | .ok u => some ((u : Int), ())
    | _ => none) else none) = some y := hx
  by_cases hc : x.1.length ≤ 281474976710656 ∧ x.2.1 = 10 ∧ x.2.2.1 = 32
  · rw [if_pos hc] at hx
    rw [hc.2.1, hc.2.2]
    split at hx
    · rename_i u hu
      cases hx
      refine (Any.strconv_ParseUint_10_at32_ok Tryd.laysPu14 ⟨⟨x.1⟩⟩ (by show x.1.length ≤ _; omega) u hu w0).mono fun e w' he => ?_
      obtain ⟨rfl, hw⟩ := he
      have hb : Below w0.heap.size w0 w' := by
        rcases hw with rfl | rfl
        · exact Below.refl _ _
        · exact Lib.bytesWorld_below _ _ _
      exact ⟨[_, _], rfl, pl, [SV.d (.int .u64) (u : Int), .k .nilIface], [], rfl, fun _ _ h => h, hpl, blw_below hb, lok_step hL hb.size, fun e he => (by cases he), _, _, rfl, toDen, _, _, rfl, rfl, rfl⟩
    · cases hx
  · rw [if_neg hc] at hx
    cases hx
@[reducible] def strconv_ParseUint_er_s : Sh := ⟨[.d .str, .d (.int .i64), .d (.int .i64)], [], [.str, .int .i64, .int .i64], [.d (.int .u64), .ifc 141 (.pe .un)], [], 0, [.int .u64, .un]⟩
def endV : Lib.NumEnd Nat -> Option Int
  | .ok _ => none
  | .range => some 4294967295
  | _ => some 0
def qdv_ (x : As [.str, .int .i64, .int .i64]) : Option (As [.int .u64, .un]) := if x.1.length ≤ 281474976710656 ∧ x.2.1 = 10 ∧ x.2.2.1 = 32 then (endV (Lib.parseUintB 32 x.1)).map fun u => (u, (), ()) else none
theorem er_after {F : Lx} {w0 w' : World} {pl : List Ev.Place} {u : Int} {N : Nat} (hpl : pl.length = 0) (hL : LOk (Bo pl [] w0) (lx pl []) F w0) (h1 : w0.heap.size ≤ N) (h2 : ∃ b, w'.heap[N]? = some b) (hb : Below w0.heap.size w0 w') :
    After strconv_ParseUint_er_s (u, (), ()) F w0 pl [] w' [.int .u64 u, .iface 141 (.pointer (some ⟨N, 0, none⟩))] := by
  have hN : N < w'.heap.size := by
    rcases Nat.lt_or_ge N w'.heap.size with h | h
    · exact h
    · obtain ⟨b, h2⟩ := h2
      rw [Array.getElem?_eq_none h] at h2
      cases h2
  refine ⟨pl, [SV.d (.int .u64) u, .ifc 141 (.pe .un ())], [], rfl, fun _ _ h => h, hpl, blw_below hb, lok_step hL hb.size, fun e he => (by cases he), _, _, rfl, toDen, _, _, rfl, ⟨_, ⟨N, 0, rfl, hN, fun hm => ?_, [], rfl, fun j v hj => by simp at hj⟩, rfl⟩, rfl⟩
  have := (hL.far N (by simpa [lx] using hm)).2
  omega
theorem strconv_ParseUint_er_ok : CtOk Tryd.prog I0 70 ⟨strconv_ParseUint_er_s, qdv_⟩ := by
  intro F w0 pl x y ss own vs hx hA hpl hI hL hE hD
  have hA : some ([SV.d .str x.1, SV.d (.int .i64) x.2.1, SV.d (.int .i64) x.2.2.1], ([] : List (Nat × Ent))) = some (ss, own) := hA
  cases hA
  obtain ⟨v1, q1, rfl, hv1, v2, q2, rfl, hv2, v3, q3, rfl, hv3, hq⟩ := hD
  have hq : q3 = [] := hq
  subst hq
  rw [denS hv1, den1 hv2, den1 hv3]
  have hx : (if x.1.length ≤ 281474976710656 ∧ x.2.1 = 10 ∧ x.2.2.1 = 32 then (endV (Lib.parseUintB 32 x.1)).map fun u => (u, (), ()) else none) = some y := hx
  obtain ⟨_, ⟨te1, pe1, g1⟩, te2, pe2, g2⟩ := hI w0 (Blw.refl _ _)
  by_cases hc : x.1.length ≤ 281474976710656 ∧ x.2.1 = 10 ∧ x.2.2.1 = 32
  · rw [if_pos hc] at hx
    rw [hc.2.1, hc.2.2]
    cases hp : Lib.parseUintB 32 x.1 with
    | ok u => rw [hp] at hx; cases hx
    | range =>
      rw [hp] at hx
      cases hx
      refine (Any.strconv_ParseUint_10_at32_range Tryd.laysPu14 ⟨⟨x.1⟩⟩ (by show x.1.length ≤ _; omega) hp _ w0 g2 (.inr ⟨_, _, rfl⟩)).mono fun e w' he => ?_
      obtain ⟨N, rfl, h1, h2, hb⟩ := he
      exact ⟨_, rfl, er_after hpl hL h1 ⟨_, h2⟩ hb⟩
    | _ =>
      rw [hp] at hx
      cases hx
      refine (Any.strconv_ParseUint_10_at32_syntax Tryd.laysPu14 ⟨⟨x.1⟩⟩ (by show x.1.length ≤ _; omega) hp _ w0 g1 (.inr ⟨_, _, rfl⟩)).mono fun e w' he => ?_
      obtain ⟨N, rfl, h1, h2, hb⟩ := he
      exact ⟨_, rfl, er_after hpl hL h1 ⟨_, h2⟩ hb⟩
  · rw [if_neg hc] at hx
    cases hx
end Go.Proofs.Lx
end
section
namespace Go.Proofs.Lx
def dg (n : Nat) : List UInt8 := if n < 10 then [UInt8.ofNat (48 + n)] else dg (n / 10) ++ [UInt8.ofNat (48 + n % 10)]
decreasing_by omega
theorem dg_len {n k : Nat} (hk : 1 ≤ k) (h : n < 10 ^ k) : (dg n).length ≤ k := by
  induction n using Nat.strongRecOn generalizing k with
  | ind n ih =>
    rw [dg]
    by_cases h1 : n < 10
    · rw [if_pos h1]
      exact hk
    · rw [if_neg h1]
      obtain ⟨j, rfl⟩ : ∃ j, k = j + 2 := ⟨k - 2, by
        have : k ≠ 1 := fun e => by subst e; omega
        omega⟩
      have := ih (n / 10) (by omega) (k := j + 1) (by omega) (by rw [Nat.pow_succ] at h; omega)
      simp
      omega
abbrev TOrd := Int × Int × List UInt8
def okC (c : UInt8) : Bool := decide (c.toNat = 10) || (decide (32 ≤ c.toNat) && decide (c.toNat ≤ 126))
def plainT (t : List UInt8) : Bool := decide (t.length ≤ 8192) && t.all okC
def rightO (o : TOrd) : Bool := if o.1 = 1 then decide (o.2.1 = 0) && plainT o.2.2 else if o.1 = 2 ∨ o.1 = 3 then decide (0 < o.2.1) && decide (o.2.2 = []) else if o.1 = 4 ∨ o.1 = 5 then decide (o.2.1 = 0) && decide (o.2.2 = []) else false
def strip : List UInt8 -> List UInt8 -> Option (List UInt8)
  | [], s => some s
  | _ :: _, [] => none
  | a :: w, b :: s => if a = b then strip w s else none
def form (w : List UInt8) (rd : List UInt8 -> Option TOrd) (s : List UInt8) : Option TOrd := (strip w s).bind fun r => (rd r).bind fun o => if rightO o = true then some o else none
end Go.Proofs.Lx
end
section
namespace Go.Proofs.Lx
open Go Go.RowKit Go.Sort Go.Lib Go.Proofs Go.Shelf
set_option maxHeartbeats 12800000 in
set_option maxRecDepth 100000 in
theorem formatUint_big (u : Nat) (hu : 100 ≤ u) (hu64 : u < 18446744073709551616) (w : World) (htab : Lib.TabIs Tryd.prog w p10 .u64 Lib.pow10Tab) :
    Calls Tryd.prog 23 #[.int .u64 (u : Int), .int .i64 10] w fun e w' => e = .returned (.string ⟨(Lib.decDigits u).toArray⟩) ∧ Below w.heap.size w w' := by
  have e41 : ∀ args w, (callFunc 41 args).run Tryd.prog w = .ok (.enter 41 args) w := enters_of Tryd.func41 (by kernel_rfl) rfl
  have e42 : ∀ args w, (callFunc 42 args).run Tryd.prog w = .ok (.enter 42 args) w := enters_of Tryd.func42 (by kernel_rfl) rfl
  have hu1 : 1 ≤ u := by omega
  have hnd20 : Lib.nDigits u ≤ 20 := by have := Lib.numDigits_eq u hu1 hu64; split at this <;> omega
  have hal : Tryd.prog.arrayLen 92 = 24 := by simp [Program.arrayLen, Tryd.underlying92]
  have hsl : ∀ W, (Instr.sliceAt 92 (.pointer (some ⟨w.heap.size, 0, none⟩)) none (some (.int .i64 (Lib.nDigits u : Int))) none).run Tryd.prog W = .ok (.slice (some ⟨w.heap.size, 0, none⟩) (Lib.nDigits u) 24) W := fun W => by
    rw [run_sliceAt_array_h W 92 ⟨w.heap.size, 0, none⟩ (by simp [Program.arrayLen, Program.elem, Tryd.underlying92]) .i64 (Lib.nDigits u : Int) (by omega) (by rw [hal]; omega)]
    go_simp
  have hH0 := Lib.holds_zero0 w 92 (Lib.nDigits u) (by omega)
  have hfmt : Calls Tryd.prog 42 _ _ _ := Any.internal_strconv_formatBase10 (P := Tryd.prog) (ρ := Tryd.laysM246_ren) { Tryd.laysM246 with } w.heap.size 0 24 u (Array.replicate (Lib.nDigits u) 0) (w.alloc (.cells Lib.zeros24 92)) hH0 (by rw [Array.size_replicate]; exact Lib.lt_pow_nDigits u) hu64 (by rw [Array.size_replicate]; omega)
  rw [Array.size_replicate] at hfmt
  have HH0 := Lib.hid hH0
  have iu : (100 : Int) ≤ (u : Int) := by omega
  have hnd : ∀ W, Lib.TabIs Tryd.prog W p10 .u64 Lib.pow10Tab -> Calls Tryd.prog 41 #[.int .u64 (u : Int)] W fun e w' => e = .returned (.int .i64 (Lib.nDigits u)) ∧ w' = W := fun W h => Any.internal_strconv_numDigits Tryd.laysM284 u hu1 hu64 W h
  clear hH0 hal
  go_enter Tryd.func23, Tryd.ntmps23
  go_wp2_with (first
    | (go_at_fn 41; refine (hnd _ (Lib.tabIs_alloc htab _)).mono ?_; rintro e w' ⟨rfl, rfl⟩))
  go_at_fn 42
  refine hfmt.mono ?_
  rintro e w' ⟨rfl, k, v', dk, rfl, hF⟩
  have hcv : (convert 27 9 (.slice (some ⟨w.heap.size, 0, none⟩) (Lib.nDigits u) 24)).run Tryd.prog ((putRow (fun (b : UInt8) => Value.int .u8 (b.toNat : Int)) (w.alloc (.cells Lib.zeros24 92)) w.heap.size 0 dk).drewN k) = .ok (.string ⟨(Lib.decDigits u).toArray⟩) ((putRow (fun (b : UInt8) => Value.int .u8 (b.toNat : Int)) (w.alloc (.cells Lib.zeros24 92)) w.heap.size 0 dk).drewN k) := by
    have h := run_convert_bytes_back (P := Tryd.prog) ((putRow (fun (b : UInt8) => Value.int .u8 (b.toNat : Int)) (w.alloc (.cells Lib.zeros24 92)) w.heap.size 0 dk).drewN k) 27 9 5 ⟨w.heap.size, 0, none⟩ 24 (Lib.decDigits u) Tryd.underlying27 Tryd.underlying5 Tryd.underlying9 (fun j hj => by
      rw [Lib.row_is_numeral hF j hj, Lib.add_plain, World.cell?_drewN]
      exact cell?_putRow (fun (b : UInt8) => Value.int .u8 (b.toNat : Int)) _ w.heap.size 0 _ dk HH0.out (by rw [hF.size, Array.size_replicate]) j (by rw [hF.size]; rw [Lib.decDigits_length] at hj; exact hj))
    rw [Lib.decDigits_length] at h
    exact h
  go_wp2
  go_ret
  obtain ⟨os, eo⟩ := Lib.fin_at w (.cells Lib.zeros24 92) dk k 0
  rw [eo]
  exact ⟨rfl, Lib.below_grow w.heap.size w (Nat.le_refl _) k os⟩
set_option maxRecDepth 100000 in
theorem formatUint_small (u : Nat) (hu : u < 100) (w : World) :
    Calls Tryd.prog 23 #[.int .u64 (u : Int), .int .i64 10] w fun e w' => e = .returned (.string ⟨(Lib.decDigits u).toArray⟩) ∧ Below w.heap.size w w' := by
  have e40 : ∀ args w, (callFunc 40 args).run Tryd.prog w = .ok (.enter 40 args) w := enters_of Tryd.func40 (by kernel_rfl) rfl
  have iu : (u : Int) < 100 := by omega
  have hsm : ∀ W, Calls Tryd.prog 40 #[.int .i64 (u : Int)] W fun e w' => e = .returned (.string ⟨(Lib.decDigits u).toArray⟩) ∧ w' = W := fun W => Any.internal_strconv_small (P := Tryd.prog) (ρ := Tryd.laysM246_ren) { Tryd.laysM246 with } u hu W
  go_enter Tryd.func23, Tryd.ntmps23
  go_wp2_with (go_at_fn 40; refine (hsm _).mono ?_; rintro e w' ⟨rfl, rfl⟩)
  go_ret
  exact ⟨rfl, Below.refl _ _⟩
def dF : Nat -> Nat -> List UInt8
  | 0, u => [UInt8.ofNat (48 + u % 10)]
  | k + 1, u => if u < 10 then [UInt8.ofNat (48 + u)] else dF k (u / 10) ++ [UInt8.ofNat (48 + u % 10)]
theorem dF_eq : ∀ (k u : Nat), u < 10 ^ (k + 1) -> dF k u = Lib.decDigits u
  | 0, u, h => by
    have h : u < 10 := by simpa using h
    rw [Lib.decDigits, dif_pos h, dF, Nat.mod_eq_of_lt h]
  | k + 1, u, h => by
    rw [Lib.decDigits, dF]
    by_cases h1 : u < 10
    · rw [if_pos h1, dif_pos h1]
    · rw [if_neg h1, dif_neg h1, dF_eq k (u / 10) (by rw [Nat.pow_succ] at h; omega)]
theorem dec_dg (u : Nat) : Lib.decDigits u = dg u := by
  induction u using Nat.strongRecOn with
  | ind u ih =>
    rw [Lib.decDigits, dg]
    by_cases h1 : u < 10
    · rw [if_pos h1, dif_pos h1]
    · rw [if_neg h1, dif_neg h1, ih (u / 10) (by omega)]
theorem dF_dg {u : Nat} (h : u < 18446744073709551616) : dF 19 u = dg u := by rw [dF_eq 19 u (by omega), dec_dg]
open Ev Sx in
@[reducible] def istrconv_FormatUint_s : Sh := ⟨[.d (.int .u64), .d (.int .i64)], [], [.int .u64, .int .i64], [.d .str], [], 0, [.str]⟩
open Ev Sx in
def qbu_ (x : As [.int .u64, .int .i64]) : Option (As [.str]) := if (0 ≤ x.1 ∧ x.1 < 18446744073709551616) ∧ x.2.1 = 10 then some (dF 19 x.1.toNat, ()) else none
open Ev Sx in
theorem toDenS {pl : List Ev.Place} {L : Lx} {w : World} {x : List UInt8} : Den pl L w (.d .str x) (.string ⟨⟨x⟩⟩) := ⟨[.string ⟨⟨x⟩⟩], rfl, rfl⟩
theorem uint_calls {X : Int} (h : 0 ≤ X ∧ X < 18446744073709551616) {w : World} (hI : I0 w) : Calls Tryd.prog 23 #[.int .u64 X, .int .i64 10] w fun e w' => e = .returned (.string ⟨⟨dF 19 X.toNat⟩⟩) ∧ Below w.heap.size w w' := by
  obtain ⟨n, rfl⟩ := Int.eq_ofNat_of_zero_le h.1
  rw [Int.toNat_natCast, dF_eq 19 n (show n < 10 ^ 20 by omega)]
  by_cases hs : n < 100
  · exact formatUint_small n hs w
  · exact formatUint_big n (by omega) (by omega) w hI.1
open Ev Sx in
theorem istrconv_FormatUint_ok : CtOk Tryd.prog I0 23 ⟨istrconv_FormatUint_s, qbu_⟩ := by
  intro F w0 pl x y ss own vs hx hA hpl hI hL hE hD
  have hA : some ([SV.d (.int .u64) x.1, SV.d (.int .i64) x.2.1], ([] : List (Nat × Ent))) = some (ss, own) := hA
  cases hA
  obtain ⟨v1, q1, rfl, hv1, v2, q2, rfl, hv2, hq⟩ := hD
  have hq : q2 = [] := hq
  subst hq
  rw [den1 hv1, den1 hv2]
  have hx : (if (0 ≤ x.1 ∧ x.1 < 18446744073709551616) ∧ x.2.1 = 10 then some (dF 19 x.1.toNat, ()) else none) = some y := hx
  by_cases hc : (0 ≤ x.1 ∧ x.1 < 18446744073709551616) ∧ x.2.1 = 10
  · rw [if_pos hc] at hx
    cases hx
    rw [hc.2]
    refine (uint_calls hc.1 (hI w0 (Blw.refl _ _))).mono fun e w' he => ?_
    obtain ⟨rfl, hb⟩ := he
    exact ⟨[_], rfl, pl, [SV.d .str (dF 19 x.1.toNat)], [], rfl, fun _ _ h => h, hpl, blw_below hb, lok_step hL hb.size, fun e he => (by cases he), _, [], rfl, toDenS, rfl⟩
  · rw [if_neg hc] at hx
    cases hx
open Ev Sx in
@[reducible] def strconv_Itoa_s : Sh := ⟨[.d (.int .i64)], [], [.int .i64], [.d .str], [], 0, [.str]⟩
def itF (n : Int) : List UInt8 := if n < 0 then 45 :: dF 19 n.natAbs else dF 19 n.toNat
theorem itF_eq {n : Int} (h0 : -9223372036854775808 ≤ n) (h1 : n ≤ 9223372036854775807) : itF n = Lib.itoa n := by
  unfold itF Lib.itoa
  by_cases h : n < 0
  · rw [if_pos h, if_pos h, dF_eq 19 _ (by omega)]
  · rw [if_neg h, if_neg h, dF_eq 19 _ (by omega)]
open Ev Sx in
def strconv_Itoa (x : As [.int .i64]) : Option (As [.str]) := if -9223372036854775808 ≤ x.1 ∧ x.1 ≤ 9223372036854775807 then some (itF x.1, ()) else none
theorem itoa_calls {X : Int} (h : -9223372036854775808 ≤ X ∧ X ≤ 9223372036854775807) {w : World} (hI : I0 w) : Calls Tryd.prog 35 #[.int .i64 X] w fun e w' => e = .returned (.string ⟨⟨itF X⟩⟩) ∧ Below w.heap.size w w' := by
  rw [itF_eq h.1 h.2]
  refine (Any.strconv_Itoa Tryd.laysM171 X h.1 h.2 w hI.1).mono fun e w' he => ?_
  obtain ⟨rfl, k, os, rfl⟩ := he
  exact ⟨rfl, Lib.below_grow w.heap.size w (Nat.le_refl _) k os⟩
open Ev Sx in
theorem strconv_Itoa_ok : CtOk Tryd.prog I0 35 ⟨strconv_Itoa_s, strconv_Itoa⟩ := by
  intro F w0 pl x y ss own vs hx hA hpl hI hL hE hD
  have hA : some ([SV.d (.int .i64) x.1], ([] : List (Nat × Ent))) = some (ss, own) := hA
  cases hA
  obtain ⟨v1, q1, rfl, hv1, hq⟩ := hD
  have hq : q1 = [] := hq
  subst hq
  rw [den1 hv1]
  have hx : (if -9223372036854775808 ≤ x.1 ∧ x.1 ≤ 9223372036854775807 then some (itF x.1, ()) else none) = some y := hx
  by_cases hc : -9223372036854775808 ≤ x.1 ∧ x.1 ≤ 9223372036854775807
  · rw [if_pos hc] at hx
    cases hx
    refine (itoa_calls hc (hI w0 (Blw.refl _ _))).mono fun e w' he => ?_
    obtain ⟨rfl, hb⟩ := he
    exact ⟨[_], rfl, pl, [SV.d .str (itF x.1)], [], rfl, fun _ _ h => h, hpl, blw_below hb, lok_step hL hb.size, fun e he => (by cases he), _, [], rfl, toDenS, rfl⟩
  · rw [if_neg hc] at hx
    cases hx
end Go.Proofs.Lx
end
