/- Proved in the last of these 10 parts (this is part 2): UnitsTimes: for every argument the card's run of the law answers true. Conditions: those of the given statement, and no others. -/
import Derived.Test.YtihfogahdofdmaaDoorParta
import Derived.KernelRfl
set_option linter.unusedVariables false
set_option linter.unusedSimpArgs false
set_option linter.unusedSectionVars false
section
/- States of a run: frames, own blocks. -/
namespace Ev
open Go Go.RowKit Sx

inductive Ent where
  | row (t : Ty) (e : TypeId) (xs : List (Vl t))
  | box (T : TypeId) (cs : List SV)
/-- a frame: what is known of its slots, the last first -/
abbrev Fr := List (Nat × SV)
structure St where
  fr : Fr
  nt : Nat
  up : List (Nat × Fr)
  own : List (Nat × Ent)
  nx : Nat
  log : List Nat
def get {α : Type} : List (Nat × α) → Nat → Option α
  | [], _ => none
  | (i, x) :: r, j => if i = j then some x else get r j
theorem get_mem {α : Type} : ∀ {l : List (Nat × α)} {j : Nat} {x : α}, get l j = some x → (j, x) ∈ l
  | (i, y) :: r, j, x, h => by
    unfold get at h
    split at h
    · rename_i e; cases h; subst e; exact List.mem_cons_self ..
    · exact List.mem_cons_of_mem _ (get_mem h)
def plb (pl : List Place) (i : Nat) : Option Nat := (pl[i]?).bind fun p => blk p.a
def lx (pl : List Place) (own : List (Nat × Ent)) : Lx := own.map fun e => plb pl e.1
def EntD (pl : List Place) (L : Lx) (w : World) (i : Nat) : Ent → Prop
  | .row t e xs => ∃ p, pl[i]? = some p ∧ Ow (rp t) e L w p.a p.n p.c xs
  | .box T cs => ∃ g n c us, pl[i]? = some ⟨some ⟨g, 0, none⟩, n, c⟩ ∧ Bx w g us T ∧ DenL pl L w cs us ∧ ∀ v ∈ us, v.oneCell' = true
def FrD (pl : List Place) (L : Lx) (w : World) (fr : Fr) (l : List Value) : Prop := ∀ (t : Nat) (s : SV), get fr t = some s → Den pl L w s (l.getD t undef)
def UpD (pl : List Place) (L : Lx) (w : World) : List (Nat × Fr) → List (List Value) → Prop
  | [], ls => ls = []
  | x :: r, ls => ∃ l q, ls = l :: q ∧ l.length = x.1 ∧ FrD pl L w x.2 l ∧ UpD pl L w r q
section
variable {pl pl' : List Place} {L L' : Lx} {w w' : World}
theorem FrD.ext (e : Ext pl L w pl' L' w') {fr : Fr} {l : List Value} (h : FrD pl L w fr l) : FrD pl' L' w' fr l := fun t s hs => (h t s hs).ext e
theorem UpD.ext (e : Ext pl L w pl' L' w') : ∀ {up : List (Nat × Fr)} {ls : List (List Value)}, UpD pl L w up ls → UpD pl' L' w' up ls
  | [], _, h => h
  | _ :: _, _, ⟨l, q, h1, h2, h3, h4⟩ => ⟨l, q, h1, h2, h3.ext e, UpD.ext e h4⟩
end
/-- a world that is looked back to: its own and foreign blocks, how many entries there had been -/
structure Wr where
  w : World
  L : Lx
  n : Nat
  pl : List Place
  ids : List Nat
/-- what turned since -/
structure Since (F : Lx) (pl : List Place) (own : List (Nat × Ent)) (log : List Nat) (nx : Nat) (wr : Wr) (w : World) : Prop where
  fz : Fz wr.L wr.w w
  sb : Sub wr.w (lx pl own ++ F) wr.L
  nr : wr.n ≤ nx
  pls : ∀ (i : Nat) (p : Place), wr.pl[i]? = some p → pl[i]? = some p
  old : ∀ e ∈ own, e.1 < wr.n → e.1 ∈ wr.ids
  keep : ∀ e ∈ own, e.1 < wr.n → e.1 ∉ log → ∀ k, plb pl e.1 = some k → w.heap[k]? = wr.w.heap[k]?
section
variable {B : Nat} {F : Lx} {w0 : World}
structure Rel (B : Nat) (F : Lx) (w0 : World) (wr : Wr) (pl : List Place) (S : St) (l : List Value) (ls : List (List Value)) (w : World) : Prop where
  hL : LOk B (lx pl S.own) F w
  hB : Below B w0 w
  nx : S.nx = pl.length
  nt : l.length = S.nt
  ent : ∀ e ∈ S.own, EntD pl (lx pl S.own ++ F) w e.1 e.2
  fr : FrD pl (lx pl S.own ++ F) w S.fr l
  up : UpD pl (lx pl S.own ++ F) w S.up ls
  tn : Since F pl S.own S.log S.nx wr w
variable {wr : Wr} {pl pl' : List Place} {S S' : St} {l l' : List Value} {ls : List (List Value)} {w w' : World} {M : Lx}
theorem plb_ext (hp : ∀ (i : Nat) (p : Place), pl[i]? = some p → pl'[i]? = some p) {i k : Nat} (h : plb pl i = some k) : plb pl' i = some k := by
  unfold plb at h ⊢
  obtain ⟨p, h1, h2⟩ := Option.bind_eq_some_iff.1 h
  rw [hp _ _ h1]
  exact h2
theorem EntD.plb {i : Nat} {e : Ent} {L : Lx} (h : EntD pl L w i e) (hp : ∀ (i : Nat) (p : Place), pl[i]? = some p → pl'[i]? = some p) : Ev.plb pl' i = Ev.plb pl i := by
  have : ∃ p, pl[i]? = some p := by
    cases e with
    | row t e xs => obtain ⟨p, h1, _⟩ := h; exact ⟨p, h1⟩
    | box T cs => obtain ⟨g, n, c, us, h1, _⟩ := h; exact ⟨_, h1⟩
  obtain ⟨p, h1⟩ := this
  unfold Ev.plb
  rw [h1, hp _ _ h1]
theorem Ext.of_stp {own own' : Lx} (hs : Stp B own own' F M w w') (hp : ∀ (i : Nat) (p : Place), pl[i]? = some p → pl'[i]? = some p) : Ext pl (own ++ F) w pl' (own' ++ F) w' :=
  ⟨hp, by intro α R cs x h; exact hs.rel h, by intro α R b o x h; exact hs.el h⟩
/-- an entry stays over a step that leaves its block alone -/
theorem EntD.stay {own own' : Lx} {i : Nat} {e : Ent} (h : EntD pl (own ++ F) w i e) (hs : Stp B own own' F M w w') (hp : ∀ (i : Nat) (p : Place), pl[i]? = some p → pl'[i]? = some p)
    (hn : ∀ k, Ev.plb pl i = some k → some k ∉ M) : EntD pl' (own' ++ F) w' i e := by
  cases e with
  | row t e xs =>
    obtain ⟨p, h1, h2⟩ := h
    exact ⟨p, hp _ _ h1, hs.ow h2 (fun k hk => hn k (by unfold Ev.plb; rw [h1]; exact hk))⟩
  | box T cs =>
    obtain ⟨g, n, c, us, h1, h2, h3, h4⟩ := h
    exact ⟨g, n, c, us, hp _ _ h1, hs.box h2 (hn g (by unfold Ev.plb; rw [h1]; rfl)), h3.ext (Ext.of_stp hs hp), h4⟩
/-- a step of the world: entries stay, or are given anew -/
theorem Rel.go (h : Rel B F w0 wr pl S l ls w) (hs : Stp B (lx pl S.own) (lx pl' S'.own) F M w w') (hp : ∀ (i : Nat) (p : Place), pl[i]? = some p → pl'[i]? = some p)
    (hnx : S'.nx = pl'.length) (hge : S.nx ≤ S'.nx) (hnt : S'.nt = S.nt) (hfr : S'.fr = S.fr) (hup : S'.up = S.up) (hl : ∀ i ∈ S.log, i ∈ S'.log)
    (hent : ∀ e ∈ S'.own, (e ∈ S.own ∧ ∀ k, plb pl e.1 = some k → some k ∉ M) ∨ ((S.nx ≤ e.1 ∨ (e.1 ∈ S'.log ∧ ∃ q ∈ S.own, q.1 = e.1)) ∧ EntD pl' (lx pl' S'.own ++ F) w' e.1 e.2)) : Rel B F w0 wr pl' S' l ls w' where
  hL := hs.hL
  hB := hs.below h.hL h.hB
  nx := hnx
  nt := by rw [hnt]; exact h.nt
  ent := fun e he => by
    rcases hent e he with ⟨h1, h2⟩ | ⟨_, h1⟩
    · exact (h.ent e h1).stay hs hp h2
    · exact h1
  fr := by rw [hfr]; exact h.fr.ext (Ext.of_stp hs hp)
  up := by rw [hup]; exact h.up.ext (Ext.of_stp hs hp)
  tn := by
    have hsz := h.tn.fz.size
    refine ⟨⟨hs.hf.os.trans h.tn.fz.os, hs.hf.tape.trans h.tn.fz.tape, hs.hf.output.trans h.tn.fz.output, Nat.le_trans hsz hs.hf.size, fun k hk hn => ?_⟩, fun k hk => ?_, Nat.le_trans h.tn.nr hge, fun i p hi => hp i p (h.tn.pls i p hi), fun e he hlt => ?_, fun e he hlt hnl k hk => ?_⟩
    · rw [hs.hf.block k (Nat.lt_of_lt_of_le hk hsz) (fun hm => ?_)]
      · exact h.tn.fz.block k hk hn
      · rcases h.tn.sb k (List.mem_append_left _ (hs.hM k hm)) with h1 | h1
        · exact hn h1
        · omega
    · rcases hs.hs k hk with h1 | h1
      · exact h.tn.sb k h1
      · exact .inr (Nat.le_trans hsz h1)
    · rcases hent e he with ⟨h1, _⟩ | ⟨h1, _⟩
      · exact h.tn.old e h1 hlt
      · rcases h1 with h1 | ⟨_, q, h1, h2⟩
        · have := h.tn.nr; omega
        · rw [← h2] at hlt ⊢
          exact h.tn.old q h1 hlt
    · rcases hent e he with ⟨h1, h2⟩ | ⟨h1, _⟩
      · have hk' : plb pl e.1 = some k := by rw [← (h.ent e h1).plb hp]; exact hk
        have hmem : some k ∈ lx pl S.own := by rw [← hk']; exact List.mem_map_of_mem (f := fun e : Nat × Ent => plb pl e.1) h1
        rw [hs.hf.block k (h.hL.hi k hmem) (h2 k hk')]
        exact h.tn.keep e h1 hlt (fun hm => hnl (hl _ hm)) k hk'
      · rcases h1 with h1 | ⟨h1, _⟩
        · have := h.tn.nr; omega
        · exact absurd h1 hnl
def ids (own : List (Nat × Ent)) : List Nat := own.map (·.1)
/-- a new world to look back to -/
def here (F : Lx) (pl : List Place) (S : St) (w : World) : Wr := ⟨w, lx pl S.own ++ F, S.nx, pl, ids S.own⟩
theorem Rel.base (h : Rel B F w0 wr pl S l ls w) : Rel B F w0 (here F pl S w) pl { S with log := [] } l ls w :=
  { hL := h.hL, hB := h.hB, nx := h.nx, nt := h.nt, ent := h.ent, fr := h.fr, up := h.up,
    tn := ⟨Fz.refl _ _, Sub.refl _ _, Nat.le_refl _, fun _ _ h => h, fun e he _ => List.mem_map_of_mem (f := fun e : Nat × Ent => e.1) he, fun _ _ _ _ _ _ => rfl⟩ }
/-- .. and the old one again -/
theorem Rel.back {pl1 : List Place} {S1 : St} {l1 : List Value} {ls1 : List (List Value)} {w1 : World} (h1 : Rel B F w0 wr pl1 S1 l1 ls1 w1) (h : Rel B F w0 (here F pl1 S1 w1) pl S l ls w) :
    Rel B F w0 wr pl { S with log := S1.log ++ S.log } l ls w where
  hL := h.hL
  hB := h.hB
  nx := h.nx
  nt := h.nt
  ent := h.ent
  fr := h.fr
  up := h.up
  tn := by
    have hsz := h1.tn.fz.size
    have hf := h.tn.fz
    refine ⟨⟨hf.os.trans h1.tn.fz.os, hf.tape.trans h1.tn.fz.tape, hf.output.trans h1.tn.fz.output, Nat.le_trans hsz hf.size, fun k hk hn => ?_⟩, fun k hk => ?_, Nat.le_trans h1.tn.nr h.tn.nr, fun i p hi => h.tn.pls i p (h1.tn.pls i p hi), fun e he hlt => ?_, fun e he hlt hnl k hk => ?_⟩
    · rw [hf.block k (Nat.lt_of_lt_of_le hk hsz) (fun hm => ?_)]
      · exact h1.tn.fz.block k hk hn
      · rcases h1.tn.sb k hm with h2 | h2
        · exact hn h2
        · omega
    · rcases h.tn.sb k hk with h2 | h2
      · exact h1.tn.sb k h2
      · exact .inr (Nat.le_trans hsz h2)
    · obtain ⟨q, hq, hq2⟩ := List.mem_map.1 (h.tn.old e he (Nat.lt_of_lt_of_le hlt h1.tn.nr))
      rw [← hq2] at hlt ⊢
      exact h1.tn.old q hq hlt
    · have hlt1 : e.1 < S1.nx := Nat.lt_of_lt_of_le hlt h1.tn.nr
      obtain ⟨q, hq, hq2⟩ := List.mem_map.1 (h.tn.old e he hlt1)
      have hnl' : e.1 ∉ S1.log ++ S.log := hnl
      rw [List.mem_append] at hnl'
      have hk1 : plb pl1 q.1 = some k := by rw [← (h1.ent q hq).plb h.tn.pls, hq2]; exact hk
      rw [h.tn.keep e he hlt1 (fun hm => hnl' (.inr hm)) k hk]
      exact h1.tn.keep q hq (by rw [hq2]; exact hlt) (fun hm => hnl' (.inl (by rw [← hq2]; exact hm))) k hk1
/-- a slot is set -/
theorem Rel.set (h : Rel B F w0 wr pl S l ls w) {d : Nat} {s : SV} {v : Value} (hd : d < S.nt) (hv : Den pl (lx pl S.own ++ F) w s v) :
    Rel B F w0 wr pl { S with fr := (d, s) :: S.fr } (l.set d v) ls w where
  hL := h.hL
  hB := h.hB
  nx := h.nx
  nt := by rw [List.length_set]; exact h.nt
  ent := h.ent
  fr := fun t q hq => by
    have hl := h.nt
    unfold get at hq
    split at hq
    · rename_i e
      cases hq
      subst e
      rw [List.getD_eq_getElem?_getD, List.getElem?_set_self (by omega)]
      exact hv
    · rename_i hne
      have := h.fr t q hq
      rwa [List.getD_eq_getElem?_getD, List.getElem?_set_ne hne, ← List.getD_eq_getElem?_getD]
  up := h.up
  tn := h.tn
theorem lx_push (hp : ∀ (i : Nat) (p : Place), pl[i]? = some p → pl'[i]? = some p) (h : ∀ e ∈ S.own, EntD pl (lx pl S.own ++ F) w e.1 e.2) : lx pl' S.own = lx pl S.own := by
  unfold lx
  exact List.map_congr_left fun e he => (h e he).plb hp
theorem pl_push (p : Place) : ∀ (i : Nat) (q : Place), pl[i]? = some q → (pl ++ [p])[i]? = some q := fun i q h => by
  rw [List.getElem?_append_left (List.getElem?_eq_some_iff.1 h).1]
  exact h
theorem pl_last (p : Place) : (pl ++ [p])[pl.length]? = some p := by simp
theorem plb_last (p : Place) : plb (pl ++ [p]) pl.length = blk p.a := by unfold plb; simp
/-- a new entry -/
theorem Rel.push (h : Rel B F w0 wr pl S l ls w) (p : Place) (e : Ent) (hs : Stp B (lx pl S.own) (blk p.a :: lx pl S.own) F [] w w')
    (he : EntD (pl ++ [p]) ((blk p.a :: lx pl S.own) ++ F) w' pl.length e) :
    Rel B F w0 wr (pl ++ [p]) { S with own := (S.nx, e) :: S.own, nx := S.nx + 1 } l ls w' := by
  have e1 : lx (pl ++ [p]) ((S.nx, e) :: S.own) = blk p.a :: lx pl S.own := by
    have := lx_push (pl_push p) h.ent
    unfold lx at this ⊢
    rw [List.map_cons, this, h.nx, plb_last]
  refine h.go (M := []) (S' := { S with own := (S.nx, e) :: S.own, nx := S.nx + 1 }) (by show Stp B _ (lx (pl ++ [p]) ((S.nx, e) :: S.own)) F [] w w'; rw [e1]; exact hs) (pl_push p) (by simp [h.nx]) (Nat.le_succ _) rfl rfl rfl (fun _ hi => hi) (fun x hx => ?_)
  rcases List.mem_cons.1 hx with hx | hx
  · subst hx
    refine .inr ⟨.inl (Nat.le_refl _), ?_⟩
    show EntD (pl ++ [p]) (lx (pl ++ [p]) ((S.nx, e) :: S.own) ++ F) w' S.nx e
    rw [e1, h.nx]
    exact he
  · exact .inl ⟨hx, fun _ _ hk => by cases hk⟩
/-- nothing turns -/
theorem Rel.call (h : Rel B F w0 wr pl S l ls w) (hf : Fz [] w w') : Rel B F w0 wr pl S l ls w' :=
  h.go (M := []) (Stp.call h.hL hf) (fun _ _ h => h) h.nx (Nat.le_refl _) rfl rfl rfl (fun _ hi => hi) (fun e he => .inl ⟨he, fun _ _ hk => by cases hk⟩)
end
end Ev

end

section
/- Operations that only yield a value. -/
namespace Ev
open Go Go.RowKit Sx

/-! ### types of the program -/
def strTy : List Ty → Ty
  | [] => .un
  | a :: r => match r with
    | [] => .wr a
    | b :: r' => .pr a (prs b r')
where prs : Ty → List Ty → Ty
  | a, [] => a
  | a, b :: r => .pr a (prs b r)
def tyGo (g : TypeId → Option Ty) : List Field → Option (List Ty)
  | [] => some []
  | f :: r => (g f.type).bind fun a => (tyGo g r).map fun q => a :: q
def tyOf (P : Program) : Nat → TypeId → Option Ty
  | 0, _ => none
  | n + 1, t => match P.underlying t with
    | some (.int k) => some (.int k)
    | some .bool => some .bool
    | some .string => some .str
    | some (.slice e) => (tyOf P n e).map .sl
    | some (.struct fs) => (tyGo (tyOf P n) fs.toList).map strTy
    | some (.array m e) => (tyOf P n e).map (.ar m)
    | _ => none
def tyc (P : Program) (t : TypeId) : Option Ty := (tyOf P 12 t).bind fun y =>
  match P.underlying t with
  | some dd => if aggD dd = y.agg ∧ szOf P t = some y.size then some y else none
  | none => none
theorem tyc_ok {P : Program} {t : TypeId} {y : Ty} (h : tyc P t = some y) : TyOk P t (rp y) := by
  unfold tyc at h
  obtain ⟨y', _, h⟩ := Option.bind_eq_some_iff.1 h
  split at h
  · rename_i dd hd
    split at h
    · rename_i h2
      cases h
      exact ⟨⟨dd, hd, by rw [rp_agg]; exact h2.1⟩, by rw [rp_size]; exact h2.2, fun ha => rp_one _ (by rw [rp_agg] at ha; exact ha)⟩
    · cases h
  · cases h

/-! ### operands -/
def ofV : Value → SV
  | .int k n => .d (.int k) n
  | .bool b => .d .bool b
  | .string ⟨⟨l⟩⟩ => .d .str l
  | v => .k v
def opv (S : St) : Operand → Option SV
  | .tmp t => get S.fr t
  | .const v => some (ofV v)
  | .func f => some (.fn (.func f) [] [])
  | .global _ => none
section
variable {pl : List Place} {L : Lx} {w : World} {l : List Value} {P : Program} {S : St}
theorem den_int {k : IntKind} {n : Int} {u : Value} (h : Den pl L w (.d (.int k) n) u) : u = .int k n := by
  obtain ⟨cs, h1, h2⟩ := h
  cases h1
  exact h2
theorem den_bool {b : Bool} {u : Value} (h : Den pl L w (.d .bool b) u) : u = .bool b := by
  obtain ⟨cs, h1, h2⟩ := h
  cases h1
  exact h2
theorem den_str {s : List UInt8} {u : Value} (h : Den pl L w (.d .str s) u) : u = .string ⟨⟨s⟩⟩ := by
  obtain ⟨cs, h1, h2⟩ := h
  cases h1
  exact h2
theorem den_sl {t : Ty} {xs : List (Vl t)} {u : Value} (h : Den pl L w (.d (.sl t) xs) u) : (Rp.slice (rp t)).rel L w [u] xs := by
  obtain ⟨cs, h1, h2⟩ := h
  obtain ⟨a, c, rfl, h3⟩ := slice_open h1
  have h2 : u = .slice a xs.length c := h2
  subst h2
  exact h3
theorem den_ofV (v : Value) : Den pl L w (ofV v) v := by
  unfold ofV
  split
  · exact ⟨_, rfl, rfl⟩
  · exact ⟨_, rfl, rfl⟩
  · exact ⟨_, rfl, rfl⟩
  · rfl
theorem opv_den (hf : FrD pl L w S.fr l) {x : Operand} {s : SV} (h : opv S x = some s) : Den pl L w s (ev l x) := by
  cases x with
  | tmp t => exact hf t s h
  | const v => cases h; exact den_ofV v
  | func f => cases h; exact ⟨[], [], rfl, rfl, rfl⟩
  | global g => cases h
/-- what an operation yields, now and as long as what it reads stays -/
def Yv (P : Program) (pl : List Place) (L : Lx) (w : World) (l : List Value) (o : Oper) (s : SV) (rd : List Nat) : Prop :=
  ∃ v, Den pl L w s v ∧ ∀ w', Fz L w w' → (∀ i ∈ rd, ∀ k, plb pl i = some k → w'.heap[k]? = w.heap[k]?) → (execOp (ev l) o).run P w' = .ok (.value v) w'
theorem Yv.of {o : Oper} {s : SV} {v : Value} (h : Den pl L w s v) (hr : ∀ w', (execOp (ev l) o).run P w' = .ok (.value v) w') : Yv P pl L w l o s [] :=
  ⟨v, h, fun w' _ _ => hr w'⟩
theorem den_d {t : Ty} (ht : t.agg = false) {x : Vl t} {u : Value} (h : (rp t).rel L w [u] x) : Den pl L w (.d t x) u := ⟨[u], h, by simp [Rp.val, rp_agg, ht]⟩
theorem den_i (k : IntKind) (n : Int) : Den pl L w (.d (.int k) n) (.int k n) := ⟨_, rfl, rfl⟩
theorem den_b (b : Bool) : Den pl L w (.d .bool b) (.bool b) := ⟨_, rfl, rfl⟩
theorem den_s (s : List UInt8) : Den pl L w (.d .str s) (.string ⟨⟨s⟩⟩) := ⟨_, rfl, rfl⟩

/-! ### two operands -/
section
variable {R : Type}
def binI (op : BinOp) (k : IntKind) (m n : Int) (K : SV → Option R) : Option R :=
  match op with
  | .lss => K (.d .bool (lt m n))
  | .leq => K (.d .bool (le m n))
  | .gtr => K (.d .bool (gt m n))
  | .geq => K (.d .bool (ge m n))
  | .eql => K (.d .bool (eqi m n))
  | .neq => K (.d .bool (nei m n))
  | .add => K (.d (.int k) (add k m n))
  | .sub => K (.d (.int k) (sub k m n))
  | .mul => K (.d (.int k) (mul k m n))
  | .quo => need (nei n 0) (K (.d (.int k) (quo k m n)))
  | .rem => need (nei n 0) (K (.d (.int k) (rem m n)))
  | .and => K (.d (.int k) (band k m n))
  | .or => K (.d (.int k) (bor k m n))
  | .xor => K (.d (.int k) (bxor k m n))
  | .andNot => K (.d (.int k) (bclr k m n))
  | .shl => need (ge n 0) (K (.d (.int k) (shl k m n)))
  | .shr => need (ge n 0) (K (.d (.int k) (shr k m n)))
def isShift : BinOp → Bool
  | .shl | .shr => true
  | _ => false
theorem nei0 {n : Int} (h : nei n 0 = true) : n ≠ 0 := by simpa [nei] using h
theorem binI_ok {op : BinOp} {k k' : IntKind} {m n : Int} {K : SV → Option R} {r : R} (h : binI op k m n K = some r) (hk : isShift op = true ∨ k = k') {d : Option Tmp} {ty t u : TypeId} {pos : String} {af : Array Edge} {g : Option (Nat × Bool)} {x y : Operand}
    (hx : ev l x = .int k m) (hy : ev l y = .int k' n) : ∃ s, K s = some r ∧ Yv P pl L w l ⟨d, .binOp op t x y u, ty, pos, af, g⟩ s [] := by
  unfold binI at h
  cases op <;> simp only at h
  case quo =>
    obtain ⟨h0, h⟩ := need_e h
    rcases hk with hk | rfl
    · cases hk
    exact ⟨_, h, Yv.of (den_i _ _) (fun w' => run_quo hx hy (nei0 h0))⟩
  case rem =>
    obtain ⟨h0, h⟩ := need_e h
    rcases hk with hk | rfl
    · cases hk
    exact ⟨_, h, Yv.of (den_i _ _) (fun w' => run_rem hx hy (nei0 h0))⟩
  case shl =>
    obtain ⟨h0, h⟩ := need_e h
    exact ⟨_, h, Yv.of (den_i _ _) (fun w' => run_shl hx hy h0)⟩
  case shr =>
    obtain ⟨h0, h⟩ := need_e h
    exact ⟨_, h, Yv.of (den_i _ _) (fun w' => run_shr hx hy h0)⟩
  case lss =>
    rcases hk with hk | rfl
    · cases hk
    exact ⟨_, h, Yv.of (den_b _) (fun w' => run_lt hx hy)⟩
  case leq =>
    rcases hk with hk | rfl
    · cases hk
    exact ⟨_, h, Yv.of (den_b _) (fun w' => run_le hx hy)⟩
  case gtr =>
    rcases hk with hk | rfl
    · cases hk
    exact ⟨_, h, Yv.of (den_b _) (fun w' => run_gt hx hy)⟩
  case geq =>
    rcases hk with hk | rfl
    · cases hk
    exact ⟨_, h, Yv.of (den_b _) (fun w' => run_ge hx hy)⟩
  case eql =>
    rcases hk with hk | rfl
    · cases hk
    exact ⟨_, h, Yv.of (den_b _) (fun w' => run_eqi hx hy)⟩
  case neq =>
    rcases hk with hk | rfl
    · cases hk
    exact ⟨_, h, Yv.of (den_b _) (fun w' => run_nei hx hy)⟩
  case add =>
    rcases hk with hk | rfl
    · cases hk
    exact ⟨_, h, Yv.of (den_i _ _) (fun w' => run_add hx hy)⟩
  case sub =>
    rcases hk with hk | rfl
    · cases hk
    exact ⟨_, h, Yv.of (den_i _ _) (fun w' => run_sub hx hy)⟩
  case mul =>
    rcases hk with hk | rfl
    · cases hk
    exact ⟨_, h, Yv.of (den_i _ _) (fun w' => run_mul hx hy)⟩
  case and =>
    rcases hk with hk | rfl
    · cases hk
    exact ⟨_, h, Yv.of (den_i _ _) (fun w' => run_band hx hy)⟩
  case or =>
    rcases hk with hk | rfl
    · cases hk
    exact ⟨_, h, Yv.of (den_i _ _) (fun w' => run_bor hx hy)⟩
  case xor =>
    rcases hk with hk | rfl
    · cases hk
    exact ⟨_, h, Yv.of (den_i _ _) (fun w' => run_bxor hx hy)⟩
  case andNot =>
    rcases hk with hk | rfl
    · cases hk
    exact ⟨_, h, Yv.of (den_i _ _) (fun w' => run_bclr hx hy)⟩
def isBool (P : Program) (t : TypeId) : Bool := match P.underlying t with
  | some .bool => true
  | _ => false
def isStr (P : Program) (t : TypeId) : Bool := match P.underlying t with
  | some .string => true
  | _ => false
theorem isBool_ok {t : TypeId} (h : isBool P t = true) : P.underlying t = some .bool := by unfold isBool at h; split at h <;> simp_all
theorem isStr_ok {t : TypeId} (h : isStr P t = true) : P.underlying t = some .string := by unfold isStr at h; split at h <;> simp_all
def bin (P : Program) (op : BinOp) (t : TypeId) (a b : SV) (K : SV → Option R) : Option R :=
  match a, b with
  | .d (.int k) m, .d (.int k') n => if isShift op = true ∨ k = k' then binI op k m n K else none
  | .d .str s, .d .str q => match op with
    | .eql => K (.d .bool (eqs s q))
    | .neq => K (.d .bool (nes s q))
    | .add => need (small (s.length + q.length)) (K (.d .str (s ++ q)))
    | _ => none
  | .d .bool p, .d .bool q => if isBool P t then match op with
    | .eql => K (.d .bool (eqb p q))
    | .neq => K (.d .bool (neb p q))
    | _ => none else none
  | _, _ => none
theorem bin_ok {op : BinOp} {t : TypeId} {a b : SV} {K : SV → Option R} {r : R} (h : bin P op t a b K = some r) {d : Option Tmp} {ty u : TypeId} {pos : String} {af : Array Edge} {g : Option (Nat × Bool)} {x y : Operand}
    (hx : Den pl L w a (ev l x)) (hy : Den pl L w b (ev l y)) : ∃ s, K s = some r ∧ Yv P pl L w l ⟨d, .binOp op t x y u, ty, pos, af, g⟩ s [] := by
  unfold bin at h
  split at h
  · split at h
    · rename_i hk
      exact binI_ok h hk (den_int hx) (den_int hy)
    · cases h
  · have hx := den_str hx
    have hy := den_str hy
    split at h
    · exact ⟨_, h, Yv.of (den_b _) (fun w' => run_eqs hx hy)⟩
    · exact ⟨_, h, Yv.of (den_b _) (fun w' => run_nes hx hy)⟩
    · obtain ⟨h0, h⟩ := need_e h
      exact ⟨_, h, Yv.of (den_s _) (fun w' => run_concat hx hy h0)⟩
    · cases h
  · have hx := den_bool hx
    have hy := den_bool hy
    split at h
    · rename_i hb
      have hb := isBool_ok hb
      split at h
      · exact ⟨_, h, Yv.of (den_b _) (fun w' => run_eqb hb hx hy)⟩
      · exact ⟨_, h, Yv.of (den_b _) (fun w' => run_neb hb hx hy)⟩
      · cases h
    · cases h
  · cases h
end
end
end Ev

end

section
/- Operations that only yield a value, the rest. -/
namespace Ev
open Go Go.RowKit Sx

section
variable {pl : List Place} {L : Lx} {w w' : World} {l : List Value} {P : Program} {S : St} {d : Option Tmp} {ty : TypeId} {pos : String} {af : Array Edge} {g : Option (Nat × Bool)} {R : Type}
/-! ### fields -/
def fldOf (P : Program) (t : TypeId) (f : Nat) : Option (Nat × TypeId) := match P.underlying t with
  | some (.struct fs) => (fs[f]?).map fun fd => (fd.offset, fd.type)
  | _ => none
theorem fldOf_ok {t : TypeId} {f off : Nat} {ft : TypeId} (h : fldOf P t f = some (off, ft)) : ∃ fs fd, P.underlying t = some (.struct fs) ∧ fs[f]? = some fd ∧ fd.offset = off ∧ fd.type = ft := by
  unfold fldOf at h
  split at h
  · rename_i fs hs
    obtain ⟨fd, h1, h2⟩ := Option.map_eq_some_iff.1 h
    simp at h2
    exact ⟨fs, fd, hs, h1, h2.1, h2.2⟩
  · cases h
theorem run_field {t ft : TypeId} {f off : Nat} {x : Operand} {us c : List Value} {fy : Ty} (hf : fldOf P t f = some (off, ft)) (hy : tyc P ft = some fy) (hx : ev l x = .agg us.toArray)
    (hc : ∃ pre post, us = pre ++ c ++ post ∧ pre.length = off) (hl : c.length = fy.size) :
    (execOp (ev l) ⟨d, .field t x f, ty, pos, af, g⟩).run P w = .ok (.value (if fy.agg then .agg c.toArray else c.headD undef)) w := by
  obtain ⟨fs, fd, h1, h2, rfl, rfl⟩ := fldOf_ok hf
  obtain ⟨⟨dd, h3, h4⟩, h5, h6⟩ := tyc_ok hy
  obtain ⟨pre, post, rfl, hp⟩ := hc
  rw [rp_agg] at h4 h6
  rw [rp_size] at h5 h6
  have hpart : (part fd.type (pre ++ c ++ post).toArray fd.offset).run P w = .ok (if fy.agg then .agg c.toArray else c.headD undef) w := by
    unfold part
    rw [Sem.run_bind, run_isAgg h3, Result.andThen_ok, h4]
    cases ha : fy.agg with
    | true =>
      have e : (pre ++ c ++ post).toArray.extract fd.offset (fd.offset + fy.size) = c.toArray := by
        apply Array.ext'
        rw [Array.toList_extract, ← hp, ← hl]
        simp [List.extract_eq_take_drop]
      simp only [if_true, Sem.run_bind, run_sizeOf h5, Result.andThen_ok, Sem.run_pure, e]
    | false =>
      have h7 := h6 ha
      rw [h7] at hl
      obtain ⟨v, rfl⟩ := List.length_eq_one_iff.1 hl
      have e : (pre ++ v :: post)[fd.offset]? = some v := by
        rw [List.getElem?_append_right (by omega), ← hp, Nat.sub_self]
        rfl
      simp [e]
  have hi : (Instr.field t (ev l x) f).run P w = .ok (if fy.agg then .agg c.toArray else c.headD undef) w := by
    unfold Instr.field
    rw [hx]
    simp only [Sem.run_bind, run_underlying h1, Result.andThen_ok, h2, asAgg, Sem.run_pure, hpart]
  simp only [execOp, Sem.run_bind, hi, Result.andThen_ok, Sem.run_pure]
/-- the cells of an aggregate from a place on, as a value -/
def cut? (fy : Ty) (off : Nat) (cs : List SV) : Option SV :=
  if off + fy.size ≤ cs.length then
    if fy.agg then (match pk fy ((cs.drop off).take fy.size) with
      | some (x, []) => some (.d fy x)
      | _ => some (.agg ((cs.drop off).take fy.size)))
    else cs[off]?
  else none
theorem cut?_ok {fy : Ty} {off : Nat} {cs : List SV} {us : List Value} {s : SV} (h : cut? fy off cs = some s) (hd : DenL pl L w cs us) (h1 : ∀ v ∈ us, v.oneCell' = true) :
    off + fy.size ≤ us.length ∧ Den pl L w s (if fy.agg then .agg ((us.drop off).take fy.size).toArray else ((us.drop off).take fy.size).headD undef) := by
  unfold cut? at h
  have hl := hd.len
  split at h
  · rename_i hle
    refine ⟨by omega, ?_⟩
    have hdd : DenL pl L w ((cs.drop off).take fy.size) ((us.drop off).take fy.size) := (hd.drop off).take _
    split at h
    · rename_i ha
      rw [if_pos ha]
      split at h
      · rename_i x hpk
        cases h
        obtain ⟨c, v, e, h3, h4⟩ := pk_rel hpk hdd
        cases h4
        rw [List.append_nil] at e
        rw [e]
        exact ⟨c, h3, by simp [Rp.val, rp_agg, ha]⟩
      · cases h
        exact ⟨_, hdd, fun v hv => h1 v (List.mem_of_mem_drop (List.mem_of_mem_take hv)), rfl⟩
    · rename_i ha
      rw [if_neg ha]
      have hs : fy.size = 1 := by have := rp_one fy (by simpa using ha); rw [rp_size] at this; exact this
      obtain ⟨u, h5, h6⟩ := hd.at h
      have e : ((us.drop off).take fy.size).headD undef = u := by
        rw [hs]
        have : us.drop off = u :: us.drop (off + 1) := by
          obtain ⟨hlt, he⟩ := List.getElem?_eq_some_iff.1 h5
          rw [List.drop_eq_getElem_cons hlt, he]
        rw [this]
        rfl
      rw [e]
      exact h6
  · cases h
def qField (P : Program) (t : TypeId) (s : SV) (f : Nat) (K : SV → List Nat → Option R) : Option R :=
  match fldOf P t f with
  | some (off, ft) => match tyc P ft with
    | some fy => match s with
      | .d t0 x => if t0.agg then (match prj t0 off fy x with | some y => K (.d fy y) [] | none => none) else none
      | .agg cs => match cut? fy off cs with
        | some y => K y []
        | none => none
      | _ => none
    | none => none
  | none => none
theorem qField_ok {t : TypeId} {f : Nat} {x : Operand} {s : SV} {K : SV → List Nat → Option R} {r : R} (h : qField P t s f K = some r) (hx : Den pl L w s (ev l x)) :
    ∃ s' rd, K s' rd = some r ∧ Yv P pl L w l ⟨d, .field t x f, ty, pos, af, g⟩ s' rd := by
  unfold qField at h
  split at h
  · rename_i off ft hf
    split at h
    · rename_i fy hy
      split at h
      · rename_i t0 x0
        split at h
        · rename_i ha
          split at h
          · rename_i y hp
            obtain ⟨cs, h1, h2⟩ := hx
            obtain ⟨pre, c, post, h3, h4, h5⟩ := prj_rel hp h1
            refine ⟨_, _, h, Yv.of (v := if fy.agg then .agg c.toArray else c.headD undef) ⟨c, h5, by simp only [Rp.val, rp_agg]⟩ (fun w' => run_field (us := cs) hf hy ?_ ⟨pre, post, h3, h4⟩ (by rw [(rp fy).len h5, rp_size]))⟩
            rw [h2]
            simp [Rp.val, rp_agg, ha]
          · cases h
        · cases h
      · rename_i cs
        split at h
        · rename_i y hc
          obtain ⟨us, h1, h2, h3⟩ := hx
          obtain ⟨h4, h5⟩ := cut?_ok hc h1 h2
          refine ⟨_, _, h, Yv.of h5 (fun w' => run_field (us := us) hf hy h3 ⟨us.take off, us.drop (off + fy.size), ?_, ?_⟩ ?_)⟩
          · rw [List.append_assoc, ← List.drop_drop, List.take_append_drop, List.take_append_drop]
          · rw [List.length_take]; omega
          · rw [List.length_take, List.length_drop]; omega
        · cases h
      · cases h
    · cases h
  · cases h
end
end Ev

end

section
/- Operations that only yield a value: addresses, loads, slices, lengths. -/
namespace Ev
open Go Go.RowKit Sx

section
variable {pl : List Place} {L : Lx} {w w' : World} {l : List Value} {P : Program} {S : St} {d : Option Tmp} {ty : TypeId} {pos : String} {af : Array Edge} {g : Option (Nat × Bool)} {R : Type}
/-- what the entries are -/
def EntsD (pl : List Place) (L : Lx) (w : World) (own : List (Nat × Ent)) : Prop := ∀ e ∈ own, EntD pl L w e.1 e.2
theorem EntsD.get {own : List (Nat × Ent)} (h : EntsD pl L w own) {i : Nat} {e : Ent} (hg : Ev.get own i = some e) : EntD pl L w i e := h _ (get_mem hg)
def qFieldAddr (P : Program) (t : TypeId) (s : SV) (f : Nat) (K : SV → List Nat → Option R) : Option R :=
  match fieldOff P t f with
  | some off => match s with
    | .pb i o => K (.pb i (o + off)) []
    | .prw i j sz o => K (.prw i j sz (o + off)) []
    | .pe t0 x => match fldOf P t f with
      | some (off', ft) => if off' = off then (match tyc P ft with
        | some fy => (match prj t0 off fy x with
          | some y => K (.pe fy y) []
          | none => none)
        | none => none) else none
      | none => none
    | _ => none
  | none => none
theorem qFieldAddr_ok {t : TypeId} {f : Nat} {x : Operand} {s : SV} {K : SV → List Nat → Option R} {r : R} (h : qFieldAddr P t s f K = some r) (hx : Den pl L w s (ev l x)) :
    ∃ s' rd, K s' rd = some r ∧ Yv P pl L w l ⟨d, .fieldAddr t x f, ty, pos, af, g⟩ s' rd := by
  unfold qFieldAddr at h
  split at h
  · rename_i off ho
    split at h
    · obtain ⟨g, n, c, h1, h2⟩ := hx
      exact ⟨_, _, h, Yv.of (v := .pointer (some ⟨g, _, none⟩)) ⟨g, n, c, h1, rfl⟩ (fun w' => run_fieldAddr ho h2)⟩
    · obtain ⟨g, n, c, h1, h2⟩ := hx
      exact ⟨_, _, h, Yv.of (v := .pointer (some ⟨g, _, none⟩)) ⟨g, n, c, h1, by rw [← Nat.add_assoc]⟩ (fun w' => run_fieldAddr ho h2)⟩
    · split at h
      · split at h
        · split at h
          · split at h
            · rename_i y hp
              obtain ⟨b, o, h1, h2⟩ := hx
              exact ⟨_, _, h, Yv.of (v := .pointer (some ⟨b, o + off, none⟩)) ⟨b, o + off, rfl, prj_el hp h2⟩ (fun w' => run_fieldAddr ho h1)⟩
            · cases h
          · cases h
        · cases h
      · cases h
    · cases h
  · cases h
/-- the cells of an own row's element -/
theorem own_cells {α : Type} {R : Rp α} {e : TypeId} {a : Nat} {n c : Nat} {xs : List α} {i : Nat} {x : α} (h : Ow R e L w (some ⟨a, 0, none⟩) n c xs) (hi : xs[i]? = some x) :
    ∃ cs, R.rel L w cs x ∧ ∀ j v, cs[j]? = some v → w.cell? ⟨a, 0 + i * R.size + j, none⟩ = some v := by
  obtain ⟨rfl, cells, h1, h2⟩ := h
  obtain ⟨pre, d, post, e2, h3, h4, _⟩ := h2.at hi
  refine ⟨d, h4, fun j v hj => ?_⟩
  have := h1.cells (g := a) rfl (i * R.size + j) v (by
    rw [e2, List.append_assoc, List.getElem?_append_right (by omega), h3, show i * R.size + j - i * R.size = j by omega,
      List.getElem?_append_left (List.getElem?_eq_some_iff.1 hj).1]
    exact hj)
  rw [Addr.add_lit'] at this
  rwa [Nat.add_assoc]
theorem load_cells {α : Type} {R : Rp α} {t : TypeId} {b o : Nat} {cs : List Value} (ht : TyOk P t R) (hl : cs.length = R.size) (h : ∀ j v, cs[j]? = some v → w.cell? ⟨b, o + j, none⟩ = some v) :
    (loadVar t ⟨b, o, none⟩).run P w = .ok (R.val cs) w := by
  obtain ⟨dd, hd, ha⟩ := ht.desc
  unfold loadVar
  rw [Sem.run_bind, run_isAgg hd, Result.andThen_ok, ha]
  cases hA : R.agg with
  | true =>
    have hc := run_loadCells_list (P := P) (w := w) ⟨b, o, none⟩ cs (fun j v hj => by rw [Addr.add_lit']; exact h j v hj)
    rw [hl] at hc
    simp only [if_true, Sem.run_bind, run_sizeOf ht.size, Result.andThen_ok, hc, Rp.val, hA, Sem.run_pure]
  | false =>
    have := ht.one hA
    rw [this] at hl
    obtain ⟨v, rfl⟩ := List.length_eq_one_iff.1 hl
    have := h 0 v rfl
    simp only [Nat.add_zero] at this
    simp [Go.load, Sem.run, this, Rp.val, hA]
def qLoad (P : Program) (own : List (Nat × Ent)) (t : TypeId) (s : SV) (K : SV → List Nat → Option R) : Option R :=
  match tyc P t with
  | some fy => match s with
    | .pb i o => match get own i with
      | some (.box _ cs) => match cut? fy o cs with
        | some y => K y [i]
        | none => none
      | _ => none
    | .pe t0 x => match castTy t0 fy x with
      | some y => K (.d fy y) []
      | none => none
    | .prw i j sz o => match get own i with
      | some (.row t0 _ xs) => if sz = t0.size then (at? xs j).bind fun y => match prj t0 o fy y with
        | some z => K (.d fy z) [i]
        | none => none
        else none
      | _ => none
    | _ => none
  | none => none
theorem plb_of {i : Nat} {p : Place} (h : pl[i]? = some p) : plb pl i = blk p.a := by unfold plb; rw [h]; rfl
theorem qLoad_ok {own : List (Nat × Ent)} (he : EntsD pl L w own) {t : TypeId} {x : Operand} {s : SV} {K : SV → List Nat → Option R} {r : R} (h : qLoad P own t s K = some r) (hx : Den pl L w s (ev l x)) :
    ∃ s' rd, K s' rd = some r ∧ Yv P pl L w l ⟨d, .load t x, ty, pos, af, g⟩ s' rd := by
  unfold qLoad at h
  split at h
  · rename_i fy hy
    have hty := tyc_ok hy
    split at h
    · rename_i i o
      split at h
      · rename_i T cs hg
        split at h
        · rename_i y hc
          obtain ⟨a, n, c, h1, h2⟩ := hx
          obtain ⟨a', n', c', us, h3, h4, h5, h6⟩ := he.get hg
          rw [h1] at h3
          cases h3
          obtain ⟨h7, h8⟩ := cut?_ok hc h5 h6
          refine ⟨_, _, h, _, h8, fun w' hF hrd => ?_⟩
          have hb : Bx w' a us T := by
            unfold Bx
            rw [hrd i (by simp) a (by rw [plb_of h1]; rfl)]
            exact h4
          refine run_load' h2 ?_
          have := load_cells (P := P) (w := w') (b := a) (o := o) (cs := (us.drop o).take fy.size) hty (by rw [rp_size, List.length_take, List.length_drop]; omega) (fun j v hj => by
            refine hb.cell ?_
            have hlt := (List.getElem?_eq_some_iff.1 hj).1
            rw [List.length_take] at hlt
            rw [List.getElem?_take_of_lt (by omega), List.getElem?_drop] at hj
            exact hj)
          rw [this]
          simp only [Rp.val, rp_agg]
        · cases h
      · cases h
    · split at h
      · rename_i t0 x0 y hc
        obtain ⟨b, o, h1, h2⟩ := hx
        obtain ⟨e, hc⟩ := castTy_some hc
        subst e
        subst hc
        obtain ⟨cs, h3, h4⟩ := El.load hty h2
        exact ⟨_, _, h, (rp _).val cs, ⟨cs, h3, rfl⟩, fun w' hF _ => run_load' h1 (h4 w' L hF (fun k hk => hk))⟩
      · cases h
    · rename_i i j sz o
      split at h
      · rename_i t0 e xs hg
        split at h
        · rename_i hsz
          obtain ⟨y, hy1, h⟩ := bind_e h
          split at h
          · rename_i z hp
            obtain ⟨a, n, c, h1, h2⟩ := hx
            obtain ⟨p, h3, h4⟩ := he.get hg
            rw [h1] at h3
            cases h3
            obtain ⟨h5, h6, h7⟩ := at_some hy1
            obtain ⟨cs, h8, h9⟩ := own_cells h4 h6
            obtain ⟨pre, c1, post, rfl, h10, h11⟩ := prj_rel hp h8
            refine ⟨_, _, h, (rp _).val c1, ⟨c1, h11, rfl⟩, fun w' hF hrd => run_load' h2 ?_⟩
            refine load_cells hty ((rp _).len h11) (fun k v hk => ?_)
            rw [World.cell?_of_block (w := w) (hrd i (by simp) a (by rw [plb_of h1]; rfl))]
            have := h9 (o + k) v (by
              rw [List.append_assoc, List.getElem?_append_right (by omega), h10, Nat.add_sub_cancel_left, List.getElem?_append_left (List.getElem?_eq_some_iff.1 hk).1]
              exact hk)
            rw [hsz]
            rw [rp_size] at this
            rwa [← Nat.add_assoc] at this
          · cases h
        · cases h
      · cases h
    · cases h
  · cases h
/-- an element's address -/
def elOf (P : Program) (t : TypeId) : Option (TypeId × Nat) := match P.underlying t with
  | some (.slice e) => (szOf P e).map fun n => (e, n)
  | _ => none
theorem elOf_ok {t e : TypeId} {n : Nat} (h : elOf P t = some (e, n)) : P.underlying t = some (.slice e) ∧ szOf P e = some n := by
  unfold elOf at h
  split at h
  · rename_i e' he
    obtain ⟨m, h1, h2⟩ := Option.map_eq_some_iff.1 h
    cases h2
    exact ⟨he, h1⟩
  · cases h
def qIndexAddr (P : Program) (own : List (Nat × Ent)) (t : TypeId) (s i : SV) (K : SV → List Nat → Option R) : Option R :=
  match elOf P t, i with
  | some (_, n), .d (.int _) j => match s with
    | .d (.sl t0) xs => if t0.size = n then (at? xs j).bind fun y => K (.pe t0 y) [] else none
    | .row i => match get own i with
      | some (.row t0 _ xs) => if t0.size = n then (at? xs j).bind fun _ => K (.prw i j t0.size 0) [] else none
      | _ => none
    | _ => none
  | _, _ => none
theorem qIndexAddr_ok {own : List (Nat × Ent)} (he : EntsD pl L w own) {t : TypeId} {x y : Operand} {s i : SV} {K : SV → List Nat → Option R} {r : R} (h : qIndexAddr P own t s i K = some r) (hx : Den pl L w s (ev l x)) (hi : Den pl L w i (ev l y)) :
    ∃ s' rd, K s' rd = some r ∧ Yv P pl L w l ⟨d, .indexAddr t x y, ty, pos, af, g⟩ s' rd := by
  unfold qIndexAddr at h
  split at h
  · rename_i e n k j hel
    obtain ⟨h1, h2⟩ := elOf_ok hel
    have hi := den_int hi
    split at h
    · rename_i t0 xs
      split at h
      · rename_i hsz
        obtain ⟨z, hz, h⟩ := bind_e h
        obtain ⟨h3, h4, h5⟩ := at_some hz
        have hr := den_sl hx
        have hr0 := hr
        obtain ⟨a, c, hsh, _⟩ := hr0
        simp at hsh
        rw [hsh] at hr
        obtain ⟨b, o, rfl, h6⟩ := slice_el hr h4
        refine ⟨_, _, h, Yv.of (v := .pointer (some ⟨b, o + j.toNat * n, none⟩)) ⟨b, _, rfl, by rw [rp_size, hsz] at h6; exact h6⟩ (fun w' => run_indexAddr h1 h2 hsh hi h3 h5)⟩
      · cases h
    · rename_i i
      split at h
      · rename_i t0 e' xs hg
        split at h
        · rename_i hsz
          obtain ⟨z, hz, h⟩ := bind_e h
          obtain ⟨h3, h4, h5⟩ := at_some hz
          obtain ⟨p, h6, h7⟩ := hx
          obtain ⟨p', h8, h9⟩ := he.get hg
          rw [h6] at h8
          cases h8
          obtain ⟨a, ha⟩ := h9.addr h5
          obtain ⟨pa, pn, pc⟩ := p
          simp only at ha h7 h9
          subst ha
          refine ⟨_, _, h, Yv.of (v := .pointer (some ⟨a, 0 + j.toNat * n, none⟩)) ⟨a, pn, pc, h6, by rw [hsz, Nat.add_zero]⟩ (fun w' => run_indexAddr h1 h2 h7 hi h3 (by rw [h9.len]; exact h5))⟩
        · cases h
      · cases h
    · cases h
  · cases h
end
end Ev

end

section
/- Operations that only yield a value: all of them. -/
namespace Ev
open Go Go.RowKit Sx

section
variable {pl : List Place} {L : Lx} {w w' : World} {l : List Value} {P : Program} {S : St} {d : Option Tmp} {ty : TypeId} {pos : String} {af : Array Edge} {g : Option (Nat × Bool)} {R : Type}
/-! ### s[i:j] -/
def BoundIs (l : List Value) (x : Option Operand) (i z : Int) : Prop := (x = none ∧ i = z) ∨ ∃ o k, x = some o ∧ ev l o = .int k i
theorem run_slice_sl {α : Type} {R : Rp α} {t e : TypeId} {x : Operand} {lo hi : Option Operand} {a : Option Addr} {n c : Nat} {xs y : List α} {i j : Int} (ht : P.underlying t = some (.slice e)) (hs : szOf P e = some R.size)
    (hx : ev l x = .slice a n c) (hr : (Rp.slice R).rel L w [.slice a n c] xs) (hlo : BoundIs l lo i 0) (hhi : BoundIs l hi j xs.length) (h : cut xs i j = some y) :
    ∃ a' c', (Rp.slice R).rel L w [.slice a' y.length c'] y ∧ ∀ w', (execOp (ev l) ⟨d, .slice t x lo hi none, ty, pos, af, g⟩).run P w' = .ok (.value (.slice a' y.length c')) w' := by
  obtain ⟨h0, h1, h2, hy⟩ := cut_some h
  obtain ⟨a0, c0, e1, hcap, h3⟩ := hr
  simp at e1
  obtain ⟨rfl, rfl, rfl⟩ := e1
  obtain ⟨i, rfl⟩ := Int.eq_ofNat_of_zero_le h0
  obtain ⟨j, rfl⟩ := Int.eq_ofNat_of_zero_le (Int.le_trans h0 h1)
  have hij : i ≤ j := by omega
  have hj : j ≤ xs.length := by omega
  simp only [Int.toNat_natCast] at hy
  have hyl : y.length = j - i := by rw [hy, List.length_drop, List.length_take]; omega
  refine ⟨if c = i then a else a.map (·.add (i * R.size)), c - i, ⟨_, c - i, rfl, by omega, fun hne => ?_⟩, fun w' => ?_⟩
  · have hlt : i < j := by
      rcases Nat.lt_or_ge i j with hh | hh
      · exact hh
      · exact absurd (List.eq_nil_of_length_eq_zero (by omega)) hne
    obtain ⟨b, o, rfl, h4⟩ := h3 (by intro e; subst e; simp at hj; omega)
    rw [if_neg (by omega)]
    refine ⟨b, o + i * R.size, by simp only [Option.map_some, Addr.add_lit'], fun k z hk => ?_⟩
    rw [hy, List.getElem?_drop] at hk
    have hkj : i + k < j := by
      have := (List.getElem?_eq_some_iff.1 hk).1
      rw [List.length_take] at this
      omega
    rw [List.getElem?_take_of_lt hkj] at hk
    have := h4 (i + k) z hk
    rwa [Nat.add_mul, ← Nat.add_assoc] at this
  · have hb : (Instr.sliceBounds true xs.length c (lo.map (ev l)) (hi.map (ev l)) none).run P w' = .ok (i, j, c) w' := by
      unfold Instr.sliceBounds
      rcases hhi with ⟨rfl, e2⟩ | ⟨oh, kh, rfl, e2⟩
      · have e2 : j = xs.length := by omega
        subst e2
        rcases hlo with ⟨rfl, e3⟩ | ⟨ol, kl, rfl, e3⟩
        · have e3 : i = 0 := by omega
          subst e3
          simp
        · simp [Instr.sliceBound, asIntOf, e3, h1]
          omega
      · rcases hlo with ⟨rfl, e3⟩ | ⟨ol, kl, rfl, e3⟩
        · have e3 : i = 0 := by omega
          subst e3
          simp [Instr.sliceBound, asIntOf, e2]
          omega
        · have hjc : (j : Int) ≤ c := by omega
          have hij' : (i : Int) ≤ j := by omega
          simp [Instr.sliceBound, asIntOf, e2, e3]
          rw [if_pos (by omega), if_pos (by omega)]
    have hsl : (Instr.sliceAt t (ev l x) (lo.map (ev l)) (hi.map (ev l)) ((none : Option Operand).map (ev l))).run P w' = .ok (.slice (if c = i then a else a.map (·.add (i * R.size))) (j - i) (c - i)) w' := by
      unfold Instr.sliceAt
      simp only [Sem.run_bind, run_underlying ht, Result.andThen_ok]
      unfold Instr.slice
      simp only [Sem.run_bind, run_underlying ht, Result.andThen_ok, hx, Option.map_none, hb, run_sizeOf hs, Sem.run_pure]
    rw [hyl]
    simp only [execOp, Sem.run_bind, hsl, Result.andThen_ok, Sem.run_pure]
def bndOf (S : St) (x : Option Operand) (z : Int) : Option Int := match x with
  | none => some z
  | some o => match opv S o with
    | some (.d (.int _) i) => some i
    | _ => none
theorem bndOf_ok (hf : FrD pl L w S.fr l) {x : Option Operand} {i z : Int} (h : bndOf S x z = some i) : BoundIs l x i z := by
  unfold bndOf at h
  split at h
  · cases h; exact .inl ⟨rfl, rfl⟩
  · split at h
    · rename_i o k n ho
      cases h
      exact .inr ⟨_, _, rfl, den_int (opv_den hf ho)⟩
    · cases h
theorem run_slice_str {t : TypeId} {x : Operand} {lo hi : Option Operand} {s y : List UInt8} {i j : Int} (ht : P.underlying t = some .string)
    (hx : ev l x = .string ⟨⟨s⟩⟩) (hlo : BoundIs l lo i 0) (hhi : BoundIs l hi j s.length) (h : cut s i j = some y) :
    ∀ w', (execOp (ev l) ⟨d, .slice t x lo hi none, ty, pos, af, g⟩).run P w' = .ok (.value (.string ⟨⟨y⟩⟩)) w' := by
  intro w'
  rcases hlo with ⟨rfl, e1⟩ | ⟨ol, kl, rfl, e1⟩
  · subst e1
    rcases hhi with ⟨rfl, e2⟩ | ⟨oh, kh, rfl, e2⟩
    · subst e2
      obtain ⟨h0, h1, h2, rfl⟩ := cut_some h
      have e : (⟨⟨s⟩⟩ : ByteArray).size = s.length := rfl
      simp [execOp, Instr.sliceAt, hx, run_underlying ht, Instr.slice, Instr.sliceBounds, e, extract_lit]
    · exact run_slice_str_h ht hx e2 h
  · rcases hhi with ⟨rfl, e2⟩ | ⟨oh, kh, rfl, e2⟩
    · subst e2
      exact run_slice_str_l ht hx e1 h
    · exact run_slice_str_lh ht hx e1 e2 h
def qSlice (P : Program) (S : St) (t : TypeId) (s : SV) (lo hi : Option Operand) (K : SV → List Nat → Option R) : Option R :=
  match s with
  | .d .str b => if isStr P t then match bndOf S lo 0, bndOf S hi b.length with
    | some i, some j => (cut b i j).bind fun y => K (.d .str y) []
    | _, _ => none else none
  | .d (.sl t0) xs => match elOf P t with
    | some (_, n) => if t0.size = n then match bndOf S lo 0, bndOf S hi xs.length with
      | some i, some j => (cut xs i j).bind fun y => K (.d (.sl t0) y) []
      | _, _ => none else none
    | none => none
  | _ => none
theorem qSlice_ok (hf : FrD pl L w S.fr l) {t : TypeId} {x : Operand} {s : SV} {lo hi : Option Operand} {K : SV → List Nat → Option R} {r : R} (h : qSlice P S t s lo hi K = some r) (hx : Den pl L w s (ev l x)) :
    ∃ s' rd, K s' rd = some r ∧ Yv P pl L w l ⟨d, .slice t x lo hi none, ty, pos, af, g⟩ s' rd := by
  unfold qSlice at h
  split at h
  · split at h
    · rename_i ht
      split at h
      · rename_i i j hi' hj'
        obtain ⟨y, hy, h⟩ := bind_e h
        exact ⟨_, _, h, Yv.of (den_s _) (run_slice_str (isStr_ok ht) (den_str hx) (bndOf_ok hf hi') (bndOf_ok hf hj') hy)⟩
      · cases h
    · cases h
  · split at h
    · rename_i e n hel
      obtain ⟨h1, h2⟩ := elOf_ok hel
      split at h
      · rename_i hsz
        split at h
        · rename_i i j hi' hj'
          obtain ⟨y, hy, h⟩ := bind_e h
          have hr := den_sl hx
          have hr0 := hr
          obtain ⟨a, c, hsh, _⟩ := hr0
          simp at hsh
          rw [hsh] at hr
          obtain ⟨a', c', h3, h4⟩ := run_slice_sl (d := d) (ty := ty) (pos := pos) (af := af) (g := g) h1 (by rw [rp_size, hsz]; exact h2) hsh hr (bndOf_ok hf hi') (bndOf_ok hf hj') hy
          exact ⟨_, _, h, Yv.of (den_d (t := .sl _) rfl h3) h4⟩
        · cases h
      · cases h
    · cases h
  · cases h
/-! ### lengths -/
def isSl (P : Program) (t : TypeId) : Bool := match P.underlying t with
  | some (.slice _) => true
  | _ => false
theorem isSl_ok {t : TypeId} (h : isSl P t = true) : ∃ e, P.underlying t = some (.slice e) := by unfold isSl at h; split at h <;> simp_all
def qLen (P : Program) (own : List (Nat × Ent)) (t : TypeId) (s : SV) (K : SV → List Nat → Option R) : Option R :=
  match s with
  | .d .str b => if isStr P t then K (.d (.int .i64) (b.length : Int)) [] else none
  | .d (.sl _) xs => if isSl P t then K (.d (.int .i64) (xs.length : Int)) [] else none
  | .row i => if isSl P t then match get own i with
    | some (.row _ _ xs) => K (.d (.int .i64) (xs.length : Int)) []
    | _ => none else none
  | .k (.slice none 0 0) => if isSl P t then K (.d (.int .i64) 0) [] else none
  | _ => none
theorem qLen_ok {own : List (Nat × Ent)} (he : EntsD pl L w own) {t : TypeId} {x : Operand} {s : SV} {K : SV → List Nat → Option R} {r : R} (h : qLen P own t s K = some r) (hx : Den pl L w s (ev l x)) :
    ∃ s' rd, K s' rd = some r ∧ Yv P pl L w l ⟨d, .call { callee := .builtin .len, args := #[x], argTypes := #[t] }, ty, pos, af, g⟩ s' rd := by
  unfold qLen at h
  split at h
  · split at h
    · rename_i ht
      exact ⟨_, _, h, Yv.of (den_i _ _) (fun w' => run_len_str (isStr_ok ht) (den_str hx))⟩
    · cases h
  · split at h
    · rename_i ht
      obtain ⟨e, ht⟩ := isSl_ok ht
      have hr := den_sl hx
      obtain ⟨a, c, hsh, _⟩ := hr
      simp at hsh
      exact ⟨_, _, h, Yv.of (den_i _ _) (fun w' => run_len_sl ht hsh rfl)⟩
    · cases h
  · split at h
    · rename_i ht
      obtain ⟨e, ht⟩ := isSl_ok ht
      split at h
      · rename_i t0 e' xs hg
        obtain ⟨p, h6, h7⟩ := hx
        obtain ⟨p', h8, h9⟩ := he.get hg
        rw [h6] at h8
        cases h8
        exact ⟨_, _, h, Yv.of (den_i _ _) (fun w' => run_len_sl ht h7 h9.len)⟩
      · cases h
    · cases h
  · split at h
    · rename_i ht
      obtain ⟨e, ht⟩ := isSl_ok ht
      exact ⟨_, _, h, Yv.of (den_i _ _) (fun w' => run_len_sl ht hx rfl)⟩
    · cases h
  · cases h
/-! ### the rest -/
def bnot (k : IntKind) (n : Int) : Int := bxor k (if k.signed then -1 else k.max) n
theorem run_bnot {t : TypeId} {x : Operand} {k : IntKind} {a : Int} (hx : ev l x = .int k a) :
    (execOp (ev l) ⟨d, .unOp .xor t x, ty, pos, af, g⟩).run P w = .ok (.value (.int k (bnot k a))) w := by simp [execOp, hx, Op.unary, Op.intBits, bnot, bxor]
def qUn (op : UnOp) (s : SV) (K : SV → List Nat → Option R) : Option R :=
  match op, s with
  | .not, .d .bool b => K (.d .bool (!b)) []
  | .neg, .d (.int k) n => K (.d (.int k) (neg k n)) []
  | .xor, .d (.int k) n => K (.d (.int k) (bnot k n)) []
  | _, _ => none
theorem qUn_ok {op : UnOp} {t : TypeId} {x : Operand} {s : SV} {K : SV → List Nat → Option R} {r : R} (h : qUn op s K = some r) (hx : Den pl L w s (ev l x)) :
    ∃ s' rd, K s' rd = some r ∧ Yv P pl L w l ⟨d, .unOp op t x, ty, pos, af, g⟩ s' rd := by
  unfold qUn at h
  split at h
  · exact ⟨_, _, h, Yv.of (den_b _) (fun w' => run_not (den_bool hx))⟩
  · exact ⟨_, _, h, Yv.of (den_i _ _) (fun w' => run_neg (den_int hx))⟩
  · exact ⟨_, _, h, Yv.of (den_i _ _) (fun w' => run_bnot (den_int hx))⟩
  · cases h
def qConv (P : Program) (t u : TypeId) (s : SV) (K : SV → List Nat → Option R) : Option R :=
  match s, P.underlying t, P.underlying u with
  | .d (.int _) n, some _, some (.int k') => K (.d (.int k') (cvt k' n)) []
  | _, _, _ => none
theorem qConv_ok {t u : TypeId} {x : Operand} {s : SV} {K : SV → List Nat → Option R} {r : R} (h : qConv P t u s K = some r) (hx : Den pl L w s (ev l x)) :
    ∃ s' rd, K s' rd = some r ∧ Yv P pl L w l ⟨d, .convert t u x, ty, pos, af, g⟩ s' rd := by
  unfold qConv at h
  split at h
  · rename_i h1 h2
    exact ⟨_, _, h, Yv.of (den_i _ _) (fun w' => run_cvt h1 h2 (den_int hx))⟩
  · cases h
def qIndex (P : Program) (t : TypeId) (s i : SV) (K : SV → List Nat → Option R) : Option R :=
  match s, i with
  | .d .str b, .d (.int _) j => if isStr P t then (at? b j).bind fun c => K (.d (.int .u8) (c.toNat : Int)) [] else none
  | _, _ => none
theorem qIndex_ok {t : TypeId} {x y : Operand} {s i : SV} {K : SV → List Nat → Option R} {r : R} (h : qIndex P t s i K = some r) (hx : Den pl L w s (ev l x)) (hi : Den pl L w i (ev l y)) :
    ∃ s' rd, K s' rd = some r ∧ Yv P pl L w l ⟨d, .index t x y, ty, pos, af, g⟩ s' rd := by
  unfold qIndex at h
  split at h
  · split at h
    · rename_i ht
      obtain ⟨z, hz, h⟩ := bind_e h
      obtain ⟨h3, h4, h5⟩ := at_some hz
      exact ⟨_, _, h, Yv.of (den_i _ _) (fun w' => run_index_str (isStr_ok ht) (den_str hx) (den_int hi) h3 h4)⟩
    · cases h
  · cases h
/-- all operations that only yield a value -/
def qv (P : Program) (S : St) (op : Op) (K : SV → List Nat → Option R) : Option R :=
  match op with
  | .move x => (opv S x).bind fun s => K s []
  | .assign x => (opv S x).bind fun s => K s []
  | .pick c a b => match opv S c, opv S a, opv S b with
    | some (.d .bool c), some a, some b => if c = true then K a [] else K b []
    | _, _, _ => none
  | .binOp op t x y _ => match opv S x, opv S y with
    | some a, some b => bin P op t a b (fun s => K s [])
    | _, _ => none
  | .unOp op _ x => (opv S x).bind fun s => qUn op s K
  | .convert t u x => (opv S x).bind fun s => qConv P t u s K
  | .extract x i => match opv S x with
    | some (.tup l) => match l[i]? with
      | some s => K s []
      | none => none
    | _ => none
  | .field t x f => (opv S x).bind fun s => qField P t s f K
  | .fieldAddr t x f => (opv S x).bind fun s => qFieldAddr P t s f K
  | .indexAddr t x i => match opv S x, opv S i with
    | some s, some j => qIndexAddr P S.own t s j K
    | _, _ => none
  | .index t x i => match opv S x, opv S i with
    | some s, some j => qIndex P t s j K
    | _, _ => none
  | .load t x => (opv S x).bind fun s => qLoad P S.own t s K
  | .slice t x lo hi none => (opv S x).bind fun s => qSlice P S t s lo hi K
  | .call ⟨.builtin .len, ⟨[x]⟩, ⟨[t]⟩⟩ => (opv S x).bind fun s => qLen P S.own t s K
  | _ => none
theorem run_extract' {x : Operand} {i : Nat} {vs : Array Value} {v : Value} (hx : ev l x = .tuple vs) (hv : vs[i]? = some v) :
    (execOp (ev l) ⟨d, .extract x i, ty, pos, af, g⟩).run P w = .ok (.value v) w := run_extract hx hv
theorem qv_ok (hf : FrD pl L w S.fr l) (he : EntsD pl L w S.own) {op : Op} {K : SV → List Nat → Option R} {r : R} (h : qv P S op K = some r) :
    ∃ s rd, K s rd = some r ∧ Yv P pl L w l ⟨d, op, ty, pos, af, g⟩ s rd := by
  unfold qv at h
  split at h
  · obtain ⟨s, hs, h⟩ := bind_e h
    exact ⟨_, _, h, Yv.of (opv_den hf hs) (fun w' => run_move rfl)⟩
  · obtain ⟨s, hs, h⟩ := bind_e h
    exact ⟨_, _, h, Yv.of (opv_den hf hs) (fun w' => run_assign rfl)⟩
  · split at h
    · rename_i c a b c' a' b' h1 h2 h3
      split at h
      · rename_i hc
        subst hc
        exact ⟨_, _, h, Yv.of (opv_den hf h2) (fun w' => run_pick_t (den_bool (opv_den hf h1)) rfl)⟩
      · rename_i hc
        have hc : c' = false := by simpa using hc
        subst hc
        exact ⟨_, _, h, Yv.of (opv_den hf h3) (fun w' => run_pick_f (den_bool (opv_den hf h1)) rfl)⟩
    · cases h
  · split at h
    · rename_i h1 h2
      obtain ⟨s, hs, hy⟩ := bin_ok h (opv_den hf h1) (opv_den hf h2)
      exact ⟨s, _, hs, hy⟩
    · cases h
  · obtain ⟨s, hs, h⟩ := bind_e h
    exact qUn_ok h (opv_den hf hs)
  · obtain ⟨s, hs, h⟩ := bind_e h
    exact qConv_ok h (opv_den hf hs)
  · split at h
    · rename_i l' h1
      split at h
      · rename_i s hs
        obtain ⟨us, h2, h3⟩ := opv_den hf h1
        obtain ⟨u, h4, h5⟩ := h2.at hs
        exact ⟨_, _, h, Yv.of h5 (fun w' => run_extract h3 (by simpa using h4))⟩
      · cases h
    · cases h
  · obtain ⟨s, hs, h⟩ := bind_e h
    exact qField_ok h (opv_den hf hs)
  · obtain ⟨s, hs, h⟩ := bind_e h
    exact qFieldAddr_ok h (opv_den hf hs)
  · split at h
    · rename_i h1 h2
      exact qIndexAddr_ok he h (opv_den hf h1) (opv_den hf h2)
    · cases h
  · split at h
    · rename_i h1 h2
      exact qIndex_ok h (opv_den hf h1) (opv_den hf h2)
    · cases h
  · obtain ⟨s, hs, h⟩ := bind_e h
    exact qLoad_ok he h (opv_den hf hs)
  · obtain ⟨s, hs, h⟩ := bind_e h
    exact qSlice_ok hf h (opv_den hf hs)
  · obtain ⟨s, hs, h⟩ := bind_e h
    exact qLen_ok he h (opv_den hf hs)
  · cases h
end
end Ev

end

section
/- States: rows that are frozen, entries that are forgotten, new numbers. -/
namespace Ev
open Go Go.RowKit Sx

/-! ### putting one value for another -/
mutual
def sbs (i : Nat) (r : SV) : SV → SV
  | .row j => if j = i then r else .row j
  | .agg l => .agg (sbsL i r l)
  | .tup l => .tup (sbsL i r l)
  | .fn f a b => .fn f (sbsL i r a) (sbsL i r b)
  | .ifc t v => .ifc t (sbs i r v)
  | .k v => .k v
  | .d t x => .d t x
  | .pb a b => .pb a b
  | .prw a b c e => .prw a b c e
  | .pe t x => .pe t x
  | .mp a => .mp a
def sbsL (i : Nat) (r : SV) : List SV → List SV
  | [] => []
  | s :: q => sbs i r s :: sbsL i r q
end
section
variable {pl pl' : List Place} {L L' : Lx} {w w' : World}
mutual
theorem sbs_den {i : Nat} {r : SV} (hr : ∀ u, Den pl L w (.row i) u → Den pl L w r u) : ∀ {s : SV} {u : Value}, Den pl L w s u → Den pl L w (sbs i r s) u
  | .k v, u, h => by simp only [sbs]; exact h
  | .d t x, u, h => by simp only [sbs]; exact h
  | .row j, u, h => by
    simp only [sbs]
    split
    · rename_i e; subst e; exact hr u h
    · exact h
  | .pb i o, u, h => by simp only [sbs]; exact h
  | .prw i j sz o, u, h => by simp only [sbs]; exact h
  | .pe t x, u, h => by simp only [sbs]; exact h
  | .mp i, u, h => by simp only [sbs]; exact h
  | .agg l, u, ⟨us, h1, h2⟩ => by simp only [sbs]; exact ⟨us, sbsL_den hr h1, h2⟩
  | .tup l, u, ⟨us, h1, h2⟩ => by simp only [sbs]; exact ⟨us, sbsL_den hr h1, h2⟩
  | .fn f a b, u, ⟨us, vs, h1, h2, h3⟩ => by simp only [sbs]; exact ⟨us, vs, sbsL_den hr h1, sbsL_den hr h2, h3⟩
  | .ifc t v, u, ⟨u', h1, h2⟩ => by simp only [sbs]; exact ⟨u', sbs_den hr h1, h2⟩
theorem sbsL_den {i : Nat} {r : SV} (hr : ∀ u, Den pl L w (.row i) u → Den pl L w r u) : ∀ {s : List SV} {us : List Value}, DenL pl L w s us → DenL pl L w (sbsL i r s) us
  | [], us, h => h
  | s :: q, us, ⟨v, vs, h1, h2, h3⟩ => ⟨v, vs, h1, sbs_den hr h2, sbsL_den hr h3⟩
end
end
def sbsF (i : Nat) (r : SV) : Fr → Fr
  | [] => []
  | (t, s) :: q => (t, sbs i r s) :: sbsF i r q
def sbsU (i : Nat) (r : SV) : List (Nat × Fr) → List (Nat × Fr)
  | [] => []
  | (n, f) :: q => (n, sbsF i r f) :: sbsU i r q
def sbsE (i : Nat) (r : SV) : Ent → Ent
  | .box T cs => .box T (sbsL i r cs)
  | .row t e xs => .row t e xs
/-- all entries but one -/
def rid (i : Nat) : List (Nat × Ent) → List (Nat × Ent)
  | [] => []
  | (j, e) :: q => if j = i then q else (j, e) :: rid i q
def sbsO (i : Nat) (r : SV) : List (Nat × Ent) → List (Nat × Ent)
  | [] => []
  | (j, e) :: q => (j, sbsE i r e) :: sbsO i r q
section
variable {B : Nat} {F : Lx} {w0 : World} {wr : Wr} {pl pl' : List Place} {S S' : St} {l l' : List Value} {ls : List (List Value)} {w w' : World} {L L' M : Lx}
theorem sbsF_get {i : Nat} {r : SV} : ∀ {fr : Fr} {t : Nat} {s : SV}, get (sbsF i r fr) t = some s → ∃ s', get fr t = some s' ∧ s = sbs i r s'
  | (j, q) :: fr, t, s, h => by
    unfold sbsF get at h
    unfold get
    split at h
    · rename_i e; rw [if_pos e]; cases h; exact ⟨q, rfl, rfl⟩
    · rename_i e; rw [if_neg e]; exact sbsF_get h
theorem FrD.sbs {i : Nat} {r : SV} (hr : ∀ u, Den pl L w (.row i) u → Den pl L w r u) {fr : Fr} (h : FrD pl L w fr l) : FrD pl L w (sbsF i r fr) l := fun t s hs => by
  obtain ⟨s', h1, rfl⟩ := sbsF_get hs
  exact sbs_den hr (h t s' h1)
theorem UpD.sbs {i : Nat} {r : SV} (hr : ∀ u, Den pl L w (.row i) u → Den pl L w r u) : ∀ {up : List (Nat × Fr)} {ls : List (List Value)}, UpD pl L w up ls → UpD pl L w (sbsU i r up) ls
  | [], _, h => h
  | _ :: _, _, ⟨l, q, h1, h2, h3, h4⟩ => ⟨l, q, h1, h2, h3.sbs hr, UpD.sbs hr h4⟩
theorem lx_sbsO (i : Nat) (r : SV) : ∀ own, lx pl (sbsO i r own) = lx pl own
  | [] => rfl
  | (j, e) :: q => by show plb pl j :: lx pl (sbsO i r q) = plb pl j :: lx pl q; rw [lx_sbsO i r q]
theorem mem_sbsO {i : Nat} {r : SV} : ∀ {own : List (Nat × Ent)} {x : Nat × Ent}, x ∈ sbsO i r own → ∃ e, (x.1, e) ∈ own ∧ x.2 = sbsE i r e
  | (j, e) :: q, x, h => by
    unfold sbsO at h
    rcases List.mem_cons.1 h with h | h
    · subst h; exact ⟨e, List.mem_cons_self .., rfl⟩
    · obtain ⟨e', h1, h2⟩ := mem_sbsO h
      exact ⟨e', List.mem_cons_of_mem _ h1, h2⟩
theorem EntD.sbs {i j : Nat} {r : SV} (hr : ∀ u, Den pl L w (.row i) u → Den pl L w r u) {e : Ent} (h : EntD pl L w j e) : EntD pl L w j (sbsE i r e) := by
  cases e with
  | row t e xs => exact h
  | box T cs =>
    obtain ⟨g, n, c, us, h1, h2, h3, h4⟩ := h
    exact ⟨g, n, c, us, h1, h2, sbsL_den hr h3, h4⟩
/-- a value stands for another one, everywhere -/
theorem Rel.sbs {i : Nat} {r : SV} (h : Rel B F w0 wr pl S l ls w) (hr : ∀ u, Den pl (lx pl S.own ++ F) w (.row i) u → Den pl (lx pl S.own ++ F) w r u) :
    Rel B F w0 wr pl { S with fr := sbsF i r S.fr, up := sbsU i r S.up, own := sbsO i r S.own } l ls w where
  hL := by show LOk B (lx pl (sbsO i r S.own)) F w; rw [lx_sbsO]; exact h.hL
  hB := h.hB
  nx := h.nx
  nt := h.nt
  ent := fun e he => by
    show EntD pl (lx pl (sbsO i r S.own) ++ F) w e.1 e.2
    rw [lx_sbsO]
    obtain ⟨e', h1, h2⟩ := mem_sbsO he
    rw [h2]
    exact (h.ent _ h1).sbs hr
  fr := by show FrD pl (lx pl (sbsO i r S.own) ++ F) w _ l; rw [lx_sbsO]; exact h.fr.sbs hr
  up := by show UpD pl (lx pl (sbsO i r S.own) ++ F) w _ ls; rw [lx_sbsO]; exact h.up.sbs hr
  tn := by
    refine ⟨h.tn.fz, ?_, h.tn.nr, h.tn.pls, fun e he hlt => ?_, fun e he hlt hnl k hk => ?_⟩
    · show Sub wr.w (lx pl (sbsO i r S.own) ++ F) wr.L
      rw [lx_sbsO]
      exact h.tn.sb
    · obtain ⟨e', h1, _⟩ := mem_sbsO he
      exact h.tn.old (e.1, e') h1 hlt
    · obtain ⟨e', h1, _⟩ := mem_sbsO he
      exact h.tn.keep _ h1 hlt hnl k hk
/-! ### forgetting an entry -/
theorem rid_sub (i : Nat) : ∀ own, List.Sublist (rid i own) own
  | [] => .slnil
  | (j, e) :: q => by
    unfold rid
    split
    · exact .cons _ (List.Sublist.refl q)
    · exact .cons_cons _ (rid_sub i q)
/-- the entry that goes, and where it was -/
theorem rid_split : ∀ {own : List (Nat × Ent)} {i : Nat} {e : Ent}, get own i = some e → ∃ pre post, own = pre ++ (i, e) :: post ∧ rid i own = pre ++ post
  | (j, q) :: own, i, e, h => by
    unfold get at h
    split at h
    · rename_i hj
      cases h
      subst hj
      exact ⟨[], own, rfl, by simp [rid]⟩
    · rename_i hj
      obtain ⟨pre, post, h1, h2⟩ := rid_split h
      exact ⟨(j, q) :: pre, post, by rw [h1]; rfl, by unfold rid; rw [if_neg hj, h2]; rfl⟩
theorem lx_sub {own own' : List (Nat × Ent)} (h : List.Sublist own' own) : List.Sublist (lx pl own') (lx pl own) := h.map _
/-- fewer own blocks -/
theorem Rel.drop (h : Rel B F w0 wr pl S l ls w) {own' : List (Nat × Ent)} (hs : List.Sublist own' S.own) : Rel B F w0 wr pl { S with own := own' } l ls w :=
  h.go (M := []) (S' := { S with own := own' }) (Stp.drop h.hL (lx_sub hs)) (fun _ _ h => h) h.nx (Nat.le_refl _) rfl rfl rfl (fun _ hi => hi) (fun e he => .inl ⟨hs.subset he, fun _ _ hk => by cases hk⟩)
/-- an own row, frozen -/
def frz (S : St) (i : Nat) : Option St := match get S.own i with
  | some (.row t _ xs) => some { S with fr := sbsF i (.d (.sl t) xs) S.fr, up := sbsU i (.d (.sl t) xs) S.up, own := sbsO i (.d (.sl t) xs) (rid i S.own) }
  | _ => none
theorem frz_ok (h : Rel B F w0 wr pl S l ls w) {i : Nat} (hf : frz S i = some S') : Rel B F w0 wr pl S' l ls w := by
  unfold frz at hf
  split at hf
  · rename_i t e xs hg
    cases hf
    obtain ⟨pre, post, h1, h2⟩ := rid_split hg
    obtain ⟨p, h3, h4⟩ := h.ent _ (get_mem hg)
    have hd := h.drop (rid_sub i S.own)
    refine hd.sbs (fun u hu => ?_)
    obtain ⟨p', h5, rfl⟩ := hu
    rw [h3] at h5
    cases h5
    refine den_d (t := .sl t) rfl ?_
    have e1 : lx pl S.own = lx pl pre ++ blk p.a :: lx pl post := by
      rw [h1]
      unfold lx
      rw [List.map_append, List.map_cons, plb_of h3]
    have e2 : lx pl (rid i S.own) = lx pl pre ++ lx pl post := by
      rw [h2]
      unfold lx
      rw [List.map_append]
    show (Rp.slice (rp t)).rel (lx pl (rid i S.own) ++ F) w [.slice p.a p.n p.c] xs
    have hL := h.hL
    rw [e1] at hL
    refine h4.freeze ?_ (fun k hk => ?_)
    · rw [e1, e2]; exact sub_drop w _ _ F _
    · rw [e2]; exact hL.gone k hk
  · cases hf
end
end Ev

end

section
/- Operations that turn own blocks. -/
namespace Ev
open Go Go.RowKit Sx

section
variable {P : Program} {l : List Value} {w : World} {d : Option Tmp} {ty : TypeId} {pos : String} {af : Array Edge} {gd : Option (Nat × Bool)}
  {Q : Exit → Act → World → Prop} {K : List Value → World → Prop} {α : Type} {R : Rp α} {L : Lx}
theorem split_take {pre c0 post : List Value} {off : Nat} (h : off ≤ c0.length) : (pre ++ c0 ++ post).take (pre.length + off) = pre ++ c0.take off := by
  rw [List.append_assoc, List.take_append, Nat.add_sub_cancel_left, List.take_of_length_le (by omega : pre.length ≤ pre.length + off), List.take_append_of_le_length h]
theorem split_drop {pre c0 post : List Value} {off : Nat} (h : off ≤ c0.length) : (pre ++ c0 ++ post).drop (pre.length + off) = c0.drop off ++ post := by
  rw [List.append_assoc, List.drop_append, Nat.add_sub_cancel_left, List.drop_of_length_le (by omega : pre.length ≤ pre.length + off), List.nil_append, List.drop_append_of_le_length h]
/-- a store into a part of an element of an own row -/
theorem ow_store_part {B : Nat} {own F : Lx} {t e : TypeId} {x y : Operand} {v : Value} {vs : List Value} {b i n c off : Nat} {xs : List α} {u u' : α} (hs : szOf P t = some vs.length)
    (hx : ev l x = .pointer (some ⟨b, 0 + i * R.size + off, none⟩)) (hy : ev l y = v) (hv : v.cells.toList = vs) (hL : LOk B own F w) (hown : Ow R e (own ++ F) w (some ⟨b, 0, none⟩) n c xs) (hi : xs[i]? = some u)
    (h1 : ∀ z ∈ vs, z.oneCell' = true)
    (hu : ∀ cs, R.rel (own ++ F) w cs u → off + vs.length ≤ cs.length ∧ R.rel (own ++ F) w (cs.take off ++ vs ++ cs.drop (off + vs.length)) u') (hLa : some b ∈ own)
    (h : ∀ w', Stp B own own F [some b] w w' → Ow R e (own ++ F) w' (some ⟨b, 0, none⟩) n c (xs.set i u') → K (st l d undef) w') :
    OW P ⟨d, .store t x y, ty, pos, af, gd⟩ l w K Q := by
  obtain ⟨rfl, cells, hr1, hr2⟩ := hown
  obtain ⟨pre, c0, post, e2, h3, h4, h5⟩ := hr2.at hi
  obtain ⟨hfit, hnew⟩ := hu c0 h4
  have hi' : i < xs.length := (List.getElem?_eq_some_iff.1 hi).1
  rcases hr1.2 with ⟨hv', _⟩ | ⟨g, cap, cur, hv', _, hg, hnc, hcm, hcs, htk⟩
  · simp at hv'
  · simp at hv'
    obtain ⟨rfl, rfl⟩ := hv'
    have hc0 := R.len h4
    have hsize : v.cells.size = vs.length := by rw [← hv, Array.length_toList]
    have hcl : cells.length = xs.length * R.size := hr1.1
    have hcur : xs.length * R.size ≤ cur.size := by rw [hcs]; exact Nat.mul_le_mul_right _ hnc
    have hp : i * R.size + off = pre.length + off := by rw [h3]
    have hle : i * R.size + off + vs.length ≤ cur.size := by
      have : pre.length + c0.length + post.length = xs.length * R.size := by rw [← hcl, e2]; simp only [List.length_append]
      omega
    have hst := run_storeCells_at P b (i * R.size + off) e vs 0 cur w hg (by simpa using hle) h1
    simp only [Nat.add_zero] at hst
    have hcurl : cur.toList = (pre ++ c0 ++ post) ++ cur.toList.drop (xs.length * R.size) := by
      rw [← e2, ← htk, List.take_append_drop]
    have hf : Fz [some b] w (w.setRow b (cur.toList.take (i * R.size + off) ++ vs ++ cur.toList.drop (i * R.size + off + vs.length)).toArray) :=
      ⟨rfl, rfl, rfl, by simp [World.setRow], fun k hk hn => setRow_other w b k _ (fun e => hn (by simp [e]))⟩
    have S : Stp B own own F [some b] w (w.setRow b (cur.toList.take (i * R.size + off) ++ vs ++ cur.toList.drop (i * R.size + off + vs.length)).toArray) := Stp.store hL hLa hf
    have hrow := h5 u' _ hnew
    refine ow_skip (w' := w.setRow b (cur.toList.take (i * R.size + off) ++ vs ++ cur.toList.drop (i * R.size + off + vs.length)).toArray) ?_ (h _ S ⟨by simp, _, ⟨?_, .inr ⟨b, c, _, by simp, Nat.zero_le _, setRow_heap w b cur _ e (0, 0) hg, by simpa using hnc, hcm, ?_, ?_⟩⟩, hrow.step hf (fun k hk => List.mem_append_left _ (S.hM k hk)) S.hs⟩)
    · rw [Nat.zero_add] at hx
      simp only [execOp, hx, hy, Instr.storeAt, Instr.sureAddr, storeVar, Sem.run_bind, Sem.run_pure, Result.andThen_ok, run_sizeOf hs, hsize, ne_eq, not_true_eq_false, if_false, hv, hst]
    · have := hrow.len
      rw [this, List.length_set]
    · simp only [List.size_toArray, List.length_append, List.length_take, List.length_drop, Array.length_toList]
      omega
    · have hlen := hrow.len
      rw [← hlen]
      have e4 : cur.toList.take (i * R.size + off) = pre ++ c0.take off := by
        rw [hp, hcurl, List.append_assoc (pre ++ c0), split_take (by omega)]
      have e5 : cur.toList.drop (i * R.size + off + vs.length) = c0.drop (off + vs.length) ++ (post ++ cur.toList.drop (xs.length * R.size)) := by
        conv => lhs; rw [hcurl]
        rw [Nat.add_assoc, ← h3, List.append_assoc (pre ++ c0), split_drop (by omega)]
      rw [e4, e5]
      have e6 : pre ++ c0.take off ++ vs ++ (c0.drop (off + vs.length) ++ (post ++ cur.toList.drop (xs.length * R.size))) = (pre ++ (c0.take off ++ vs ++ c0.drop (off + vs.length)) ++ post) ++ cur.toList.drop (xs.length * R.size) := by simp
      rw [e6]
      show List.take _ ((pre ++ (c0.take off ++ vs ++ c0.drop (off + vs.length)) ++ post) ++ cur.toList.drop (xs.length * R.size)) = _
      exact List.take_left
end
/-! ### rows' zeros -/
/-- the type of rows' elements, and its zero -/
def rowTy (P : Program) (e : TypeId) : Option ((t : Ty) × Vl t) :=
  match tyc P e, P.info? e with
  | some t, some i => match i.zero with
    | some zv => match pk t (zv.cells.toList.map ofV) with
      | some (z, []) => if i.bytes ≤ 131072 ∧ 0 < t.size then some ⟨t, z⟩ else none
      | _ => none
    | none => none
  | _, _ => none
theorem denL_ofV {pl : List Place} {L : Lx} {w : World} : ∀ l : List Value, DenL pl L w (l.map ofV) l
  | [] => rfl
  | v :: r => ⟨v, r, rfl, den_ofV v, denL_ofV r⟩
theorem rowTy_ok {P : Program} {e : TypeId} {t : Ty} {z : Vl t} (h : rowTy P e = some ⟨t, z⟩) : TyRow P e (rp t) z := by
  unfold rowTy at h
  split at h
  · rename_i t' i ht hi
    split at h
    · rename_i zv hz
      split at h
      · rename_i z' hpk
        split at h
        · rename_i hb
          cases h
          obtain ⟨ti, h1, h2⟩ := szOf_some (tyc_ok ht).size
          rw [hi] at h1
          cases h1
          have hrel : ∀ (L : Lx) (w : World), (rp t).rel L w zv.cells.toList z := fun L w => by
            obtain ⟨cs, vs, e1, e2, e3⟩ := pk_rel (pl := []) (L := L) (w := w) hpk (denL_ofV _)
            cases e3
            rw [List.append_nil] at e1
            rw [e1]
            exact e2
          refine ⟨⟨i, zv, hi, hz, h2, hb.1, ?_, hrel⟩, by rw [rp_size]; exact hb.2⟩
          rw [← Array.length_toList]
          exact (rp t).len (hrel [] default)
        · cases h
      · cases h
    · cases h
  · cases h
end Ev

end

section
/- Operations that turn own blocks: allocs, stores, appends, rows. -/
namespace Ev
open Go Go.RowKit Sx

def cellsV : SV → Option (List SV)
  | .agg l => some l
  | .d t x => if t.agg then unp t x else some [.d t x]
  | .tup _ => none
  | .k v => if v.oneCell' = true then some [.k v] else none
  | s => some [s]
def pute (i : Nat) (e : Ent) : List (Nat × Ent) → List (Nat × Ent)
  | [] => []
  | (j, q) :: r => if j = i then (j, e) :: r else (j, q) :: pute i e r
def repl (i n : Nat) (e : Ent) : List (Nat × Ent) → List (Nat × Ent)
  | [] => []
  | (j, q) :: r => if j = i then (n, e) :: r else (j, q) :: repl i n e r
section
variable {B : Nat} {F : Lx} {w0 : World} {wr : Wr} {pl pl' : List Place} {S S' : St} {l l' : List Value} {ls : List (List Value)} {w w' : World} {L L' M : Lx}
theorem one_cells {u : Value} (h : u.oneCell' = true) : u.cells.toList = [u] := by
  cases u <;> first | rfl | (simp [Value.oneCell'] at h)
theorem cellsV_ok {s : SV} {u : Value} {cs : List SV} (hd : Den pl L w s u) (h : cellsV s = some cs) : DenL pl L w cs u.cells.toList ∧ ∀ v ∈ u.cells.toList, v.oneCell' = true := by
  have key : u.oneCell' = true → DenL pl L w [s] u.cells.toList ∧ ∀ v ∈ u.cells.toList, v.oneCell' = true := fun h1 => by
    rw [one_cells h1]
    exact ⟨⟨u, [], rfl, hd, rfl⟩, fun v hv => by simp at hv; rw [hv]; exact h1⟩
  cases s with
  | agg l => cases h; obtain ⟨us, h1, h2, rfl⟩ := hd; exact ⟨h1, h2⟩
  | d t x =>
    have h : (if t.agg then unp t x else some [.d t x]) = some cs := h
    split at h
    · rename_i ht
      obtain ⟨cs', h1, rfl⟩ := hd
      have e : ((rp t).val cs').cells.toList = cs' := by simp [Rp.val, rp_agg, ht, Value.cells]
      rw [e]
      exact ⟨unp_rel h h1, (rp t).one h1⟩
    · rename_i ht
      cases h
      exact key (one_of_den hd (fun _ e => by cases e) (fun _ e => by cases e) (fun _ e => by cases e) (fun _ _ e => by cases e; simpa using ht))
  | tup l => cases h
  | k v =>
    have h : (if v.oneCell' = true then some [SV.k v] else none) = some cs := h
    split at h
    · rename_i h1
      cases h
      have hd' : u = v := hd
      subst hd'
      exact key h1
    · cases h
  | row i => cases h; exact key (one_of_den hd (fun _ e => by cases e) (fun _ e => by cases e) (fun _ e => by cases e) (fun _ _ e => by cases e))
  | pb i o => cases h; exact key (one_of_den hd (fun _ e => by cases e) (fun _ e => by cases e) (fun _ e => by cases e) (fun _ _ e => by cases e))
  | prw i j sz o => cases h; exact key (one_of_den hd (fun _ e => by cases e) (fun _ e => by cases e) (fun _ e => by cases e) (fun _ _ e => by cases e))
  | pe t x => cases h; exact key (one_of_den hd (fun _ e => by cases e) (fun _ e => by cases e) (fun _ e => by cases e) (fun _ _ e => by cases e))
  | mp i => cases h; exact key (one_of_den hd (fun _ e => by cases e) (fun _ e => by cases e) (fun _ e => by cases e) (fun _ _ e => by cases e))
  | fn f a b => cases h; exact key (one_of_den hd (fun _ e => by cases e) (fun _ e => by cases e) (fun _ e => by cases e) (fun _ _ e => by cases e))
  | ifc t v => cases h; exact key (one_of_den hd (fun _ e => by cases e) (fun _ e => by cases e) (fun _ e => by cases e) (fun _ _ e => by cases e))
theorem get_split {α : Type} : ∀ {own : List (Nat × α)} {i : Nat} {e : α}, get own i = some e → ∃ pre post, own = pre ++ (i, e) :: post ∧ ∀ x ∈ pre, x.1 ≠ i
  | (j, q) :: own, i, e, h => by
    unfold get at h
    split at h
    · rename_i hj
      cases h
      subst hj
      exact ⟨[], own, rfl, by simp⟩
    · rename_i hj
      obtain ⟨pre, post, h1, h2⟩ := get_split h
      refine ⟨(j, q) :: pre, post, by rw [h1]; rfl, fun x hx => ?_⟩
      rcases List.mem_cons.1 hx with hx | hx
      · subst hx; exact hj
      · exact h2 x hx
theorem pute_split {i : Nat} {e e' : Ent} : ∀ {pre post : List (Nat × Ent)}, (∀ x ∈ pre, x.1 ≠ i) → pute i e' (pre ++ (i, e) :: post) = pre ++ (i, e') :: post
  | [], post, _ => by simp [pute]
  | (j, q) :: pre, post, h => by
    have hj : j ≠ i := h _ (List.mem_cons_self ..)
    show (if j = i then (j, e') :: (pre ++ (i, e) :: post) else (j, q) :: pute i e' (pre ++ (i, e) :: post)) = _
    rw [if_neg hj, pute_split (fun x hx => h x (List.mem_cons_of_mem _ hx))]
    rfl
theorem repl_split {i n : Nat} {e e' : Ent} : ∀ {pre post : List (Nat × Ent)}, (∀ x ∈ pre, x.1 ≠ i) → repl i n e' (pre ++ (i, e) :: post) = pre ++ (n, e') :: post
  | [], post, _ => by simp [repl]
  | (j, q) :: pre, post, h => by
    have hj : j ≠ i := h _ (List.mem_cons_self ..)
    show (if j = i then (n, e') :: (pre ++ (i, e) :: post) else (j, q) :: repl i n e' (pre ++ (i, e) :: post)) = _
    rw [if_neg hj, repl_split (fun x hx => h x (List.mem_cons_of_mem _ hx))]
    rfl
theorem lx_split {i : Nat} {e : Ent} {pre post : List (Nat × Ent)} : lx pl (pre ++ (i, e) :: post) = lx pl pre ++ plb pl i :: lx pl post := by
  unfold lx
  rw [List.map_append, List.map_cons]
/-- the other entries' blocks are others -/
theorem others {pre post : List (Nat × Ent)} {i : Nat} {e : Ent} (hL : LOk B (lx pl (pre ++ (i, e) :: post)) F w) {x : Nat × Ent} (hx : x ∈ pre ∨ x ∈ post) : ∀ k, plb pl x.1 = some k → some k ∉ [plb pl i] := fun k hk hm => by
  simp at hm
  have hp := hL.pair
  rw [lx_split, List.pairwise_append, List.pairwise_cons] at hp
  obtain ⟨_, ⟨h2, _⟩, h4⟩ := hp
  rcases hx with hx | hx
  · have hmem : some k ∈ lx pl pre := by rw [← hk]; exact List.mem_map_of_mem (f := fun e : Nat × Ent => plb pl e.1) hx
    exact h4 _ hmem (plb pl i) (by simp) k rfl hm.symm
  · have hmem : some k ∈ lx pl post := by rw [← hk]; exact List.mem_map_of_mem (f := fun e : Nat × Ent => plb pl e.1) hx
    exact h2 _ hmem k hm.symm rfl
/-- an entry turns in place -/
theorem Rel.mod (h : Rel B F w0 wr pl S l ls w) {i : Nat} {e e' : Ent} (hg : get S.own i = some e) (hs : Stp B (lx pl S.own) (lx pl S.own) F [plb pl i] w w') (he : EntD pl (lx pl S.own ++ F) w' i e') :
    Rel B F w0 wr pl { S with own := pute i e' S.own, log := i :: S.log } l ls w' := by
  obtain ⟨pre, post, h1, h2⟩ := get_split hg
  have e1 : pute i e' S.own = pre ++ (i, e') :: post := by rw [h1]; exact pute_split h2
  have e2 : lx pl (pute i e' S.own) = lx pl S.own := by rw [e1, h1, lx_split, lx_split]
  have hL := h.hL
  rw [h1] at hL
  refine h.go (M := [plb pl i]) (S' := { S with own := pute i e' S.own, log := i :: S.log }) (by show Stp B _ (lx pl (pute i e' S.own)) F _ w w'; rw [e2]; exact hs) (fun _ _ h => h) h.nx (Nat.le_refl _) rfl rfl rfl (fun j hj => List.mem_cons_of_mem _ hj) (fun x hx => ?_)
  have hx : x ∈ pute i e' S.own := hx
  rw [e1] at hx
  have key : x ∈ pre ∨ x ∈ post → (x ∈ S.own ∧ ∀ k, plb pl x.1 = some k → some k ∉ [plb pl i]) := fun hx => ⟨by rw [h1]; rcases hx with hx | hx <;> simp [hx], others hL hx⟩
  rcases List.mem_append.1 hx with hx | hx
  · exact .inl (key (.inl hx))
  · rcases List.mem_cons.1 hx with hx | hx
    · subst hx
      refine .inr ⟨.inr ⟨List.mem_cons_self .., _, get_mem hg, rfl⟩, ?_⟩
      show EntD pl (lx pl (pute i e' S.own) ++ F) w' i e'
      rw [e2]
      exact he
    · exact .inl (key (.inr hx))
/-- an entry becomes another one -/
theorem Rel.rep (h : Rel B F w0 wr pl S l ls w) {i : Nat} {e e' : Ent} {p : Place} {pre post : List (Nat × Ent)} (h1 : S.own = pre ++ (i, e) :: post) (h2 : ∀ x ∈ pre, x.1 ≠ i)
    (hs : Stp B (lx pl pre ++ plb pl i :: lx pl post) (lx pl pre ++ blk p.a :: lx pl post) F [plb pl i] w w')
    (he : EntD (pl ++ [p]) ((lx pl pre ++ blk p.a :: lx pl post) ++ F) w' pl.length e') :
    Rel B F w0 wr (pl ++ [p]) { S with own := repl i S.nx e' S.own, nx := S.nx + 1, log := i :: S.log } l ls w' := by
  have e1 : repl i S.nx e' S.own = pre ++ (S.nx, e') :: post := by rw [h1]; exact repl_split h2
  have e2 : lx (pl ++ [p]) (repl i S.nx e' S.own) = lx pl pre ++ blk p.a :: lx pl post := by
    have a1 : ∀ q : List (Nat × Ent), (∀ x ∈ q, x ∈ S.own) → lx (pl ++ [p]) q = lx pl q := fun q hq => by
      unfold lx
      exact List.map_congr_left fun x hx => (h.ent x (hq x hx)).plb (pl_push p)
    rw [e1, lx_split, a1 pre (fun x hx => by rw [h1]; simp [hx]), a1 post (fun x hx => by rw [h1]; simp [hx]), h.nx, plb_last]
  have hL := h.hL
  rw [h1] at hL
  have e3 : lx pl S.own = lx pl pre ++ plb pl i :: lx pl post := by rw [h1, lx_split]
  have hi : Ev.plb (pl ++ [p]) i = Ev.plb pl i := (h.ent (i, e) (by rw [h1]; simp)).plb (pl_push p)
  refine h.go (M := [plb pl i]) (S' := { S with own := repl i S.nx e' S.own, nx := S.nx + 1, log := i :: S.log }) (by show Stp B (lx pl S.own) (lx (pl ++ [p]) (repl i S.nx e' S.own)) F _ w w'; rw [e2, e3]; exact hs) (pl_push p) (by simp [h.nx]) (Nat.le_succ _) rfl rfl rfl (fun j hj => List.mem_cons_of_mem _ hj) (fun x hx => ?_)
  have hx : x ∈ repl i S.nx e' S.own := hx
  rw [e1] at hx
  have key : x ∈ pre ∨ x ∈ post → (x ∈ S.own ∧ ∀ k, plb pl x.1 = some k → some k ∉ [plb pl i]) := fun hx => ⟨by rw [h1]; rcases hx with hx | hx <;> simp [hx], others hL hx⟩
  rcases List.mem_append.1 hx with hx | hx
  · exact .inl (key (.inl hx))
  · rcases List.mem_cons.1 hx with hx | hx
    · subst hx
      refine .inr ⟨.inl (Nat.le_refl _), ?_⟩
      show EntD (pl ++ [p]) (lx (pl ++ [p]) (repl i S.nx e' S.own) ++ F) w' S.nx e'
      rw [e2, h.nx]
      exact he
    · exact .inl (key (.inr hx))
end

section
variable {R : Type}
/-- a new block of cells -/
def newBox (S : St) (t : TypeId) (cs : List SV) (K : St → SV → Option R) : Option R :=
  K { S with own := (S.nx, .box t cs) :: S.own, nx := S.nx + 1 } (.pb S.nx 0)
def lAlloc (P : Program) (S : St) (t : TypeId) (K : St → SV → Option R) : Option R :=
  match (P.info? t).bind (·.zero) with
  | some z => if z.cells.toList.all Value.oneCell' = true then newBox S t (z.cells.toList.map ofV) K else none
  | none => none
def lBox (S : St) (t : TypeId) (s : SV) (K : St → SV → Option R) : Option R :=
  match cellsV s with
  | some cs => newBox S t cs K
  | none => none
def lStore (P : Program) (S : St) (t : TypeId) (a s : SV) (K : St → SV → Option R) : Option R :=
  match a with
  | .pb i o => match get S.own i, szOf P t, cellsV s with
    | some (.box T cs), some n, some vs => if vs.length = n ∧ o + n ≤ cs.length then K { S with own := pute i (.box T (cs.take o ++ vs ++ cs.drop (o + n))) S.own, log := i :: S.log } (.k undef) else none
    | _, _, _ => none
  | .prw i j sz o => match get S.own i, tyc P t with
    | some (.row t0 e xs), some fy => if sz = t0.size then match toD fy s with
      | some y => (at? xs j).bind fun x => match upd t0 o fy y x with
        | some z => K { S with own := pute i (.row t0 e (xs.set j.toNat z)) S.own, log := i :: S.log } (.k undef)
        | none => none
      | none => none
      else none
    | _, _ => none
  | _ => none
/-- append to the own row i -/
def appRow (P : Program) (S : St) (e : TypeId) (i : Nat) (s : SV) (K : St → SV → Option R) : Option R :=
  match get S.own i, rowTy P e with
  | some (.row t0 e0 xs), some ⟨t1, _⟩ => if e0 = e ∧ t1 = t0 then match leaf (.sl t0) s with
    | some ys => need (small (xs.length + ys.length)) (K { S with own := repl i S.nx (.row t0 e (xs ++ ys)) S.own, nx := S.nx + 1, log := i :: S.log } (.row S.nx))
    | none => none
    else none
  | _, _ => none
/-- the row i, frozen, as a value -/
def frzV (S : St) (i : Nat) : Option (St × SV) := match get S.own i with
  | some (.row t _ xs) => (frz S i).map fun S' => (S', .d (.sl t) xs)
  | _ => none
def lApp2 (P : Program) (S : St) (e : TypeId) (s1 s2 : SV) (K : St → SV → Option R) : Option R :=
  match s1 with
  | .row i => appRow P S e i s2 K
  | .k (.slice none 0 0) => match rowTy P e with
    | some ⟨t0, _⟩ => appRow P { S with own := (S.nx, .row t0 e []) :: S.own, nx := S.nx + 1 } e S.nx s2 K
    | none => none
  | _ => none
def lAppend (P : Program) (S : St) (t : TypeId) (s1 s2 : SV) (K : St → SV → Option R) : Option R :=
  match elOf P t with
  | some (e, _) => match s2 with
    | .row j => match frzV S j with
      | some (S', s2') => (match s1 with
        | .row i => if i = j then none else lApp2 P S' e (.row i) s2' K
        | _ => lApp2 P S' e s1 s2' K)
      | none => none
    | _ => lApp2 P S e s1 s2 K
  | none => none
def lMake (P : Program) (S : St) (t : TypeId) (s1 s2 : SV) (K : St → SV → Option R) : Option R :=
  match elOf P t, s1, s2 with
  | some (e, _), .d (.int _) n, .d (.int _) m => match rowTy P e with
    | some ⟨t0, z⟩ => if n = m then need (ge n 0) (need (small n.toNat) (K { S with own := (S.nx, .row t0 e (List.replicate n.toNat z)) :: S.own, nx := S.nx + 1 } (.row S.nx))) else none
    | none => none
  | _, _, _ => none
end
section
variable {R : Type} {B : Nat} {F : Lx} {w0 : World} {wr : Wr} {pl pl' : List Place} {S S' : St} {l l' : List Value} {ls : List (List Value)} {w w' : World} {L L' M : Lx} {P : Program} {d : Option Tmp} {ty : TypeId} {pos : String} {af : Array Edge} {gd : Option (Nat × Bool)}
  {Q : Exit → Act → World → Prop} {KK : List Value → World → Prop} {K : St → SV → Option R} {r : R}
/-- what an operation hands on -/
def Hand (B : Nat) (F : Lx) (w0 : World) (wr : Wr) (n : Nat) (l : List Value) (ls : List (List Value)) (d : Option Tmp) (K : St → SV → Option R) (r : R) (KK : List Value → World → Prop) : Prop :=
  ∀ pl' S' s v w', Rel B F w0 wr pl' S' l ls w' → S'.nt = n → Den pl' (lx pl' S'.own ++ F) w' s v → K S' s = some r → KK (st l d v) w'
theorem newBox_hand (h : Rel B F w0 wr pl S l ls w) {t : TypeId} {cs : List SV} (hv : newBox S t cs K = some r) (hk : Hand B F w0 wr S.nt l ls d K r KK) {g : Nat} {us : List Value} (hs : Stp B (lx pl S.own) (some g :: lx pl S.own) F [] w w') (hb : Bx w' g us t)
    (hd : DenL pl (lx pl S.own ++ F) w cs us) (h1 : ∀ v ∈ us, v.oneCell' = true) : KK (st l d (.pointer (some ⟨g, 0, none⟩))) w' := by
  have hd' : DenL (pl ++ [⟨some ⟨g, 0, none⟩, 0, 0⟩]) ((some g :: lx pl S.own) ++ F) w' cs us := hd.ext (Ext.of_stp hs (pl_push _))
  have hr := h.push ⟨some ⟨g, 0, none⟩, 0, 0⟩ (.box t cs) hs ⟨g, 0, 0, us, pl_last _, hb, hd', h1⟩
  refine hk _ _ _ _ w' hr rfl ?_ hv
  exact ⟨g, 0, 0, by rw [h.nx]; exact pl_last _, rfl⟩
theorem lAlloc_ok (h : Rel B F w0 wr pl S l ls w) {t : TypeId} (hv : lAlloc P S t K = some r) (hk : Hand B F w0 wr S.nt l ls d K r KK) : OW P ⟨d, .alloc t, ty, pos, af, gd⟩ l w KK Q := by
  unfold lAlloc at hv
  split at hv
  · rename_i z hz
    split at hv
    · rename_i h1
      exact ow_alloc' hz rfl h.hL (fun g w' hS hb => newBox_hand h hv hk hS hb (denL_ofV _) (List.all_eq_true.1 h1))
    · cases hv
  · cases hv
theorem lBox_ok (h : Rel B F w0 wr pl S l ls w) {t : TypeId} {x : Operand} {s : SV} (hv : lBox S t s K = some r) (hx : Den pl (lx pl S.own ++ F) w s (ev l x)) (hk : Hand B F w0 wr S.nt l ls d K r KK) : OW P ⟨d, .box t x, ty, pos, af, gd⟩ l w KK Q := by
  unfold lBox at hv
  split at hv
  · rename_i cs hc
    obtain ⟨h1, h2⟩ := cellsV_ok hx hc
    exact ow_box' rfl rfl h.hL (fun g w' hS hb => newBox_hand h hv hk hS hb h1 h2)
  · cases hv
theorem lStore_ok (h : Rel B F w0 wr pl S l ls w) {t : TypeId} {x y : Operand} {a s : SV} (hv : lStore P S t a s K = some r) (hx : Den pl (lx pl S.own ++ F) w a (ev l x)) (hy : Den pl (lx pl S.own ++ F) w s (ev l y)) (hk : Hand B F w0 wr S.nt l ls d K r KK) : OW P ⟨d, .store t x y, ty, pos, af, gd⟩ l w KK Q := by
  unfold lStore at hv
  split at hv
  · rename_i i o
    split at hv
    · rename_i T cs n vs hg hn hc
      split at hv
      · rename_i hb
        obtain ⟨g, n1, c1, h1, h2⟩ := hx
        obtain ⟨g', n', c', us, h3, h4, h5, h6⟩ := h.ent _ (get_mem hg)
        rw [h1] at h3
        cases h3
        obtain ⟨h7, h8⟩ := cellsV_ok hy hc
        have hpl : plb pl i = some g := plb_of h1
        have hl1 := h5.len
        have hl2 := h7.len
        refine ow_store_box' (vs := (ev l y).cells.toList) hn h2 rfl rfl (by rw [hl2]; exact hb.1) (List.all_eq_true.2 h8) h.hL h4 (decide_eq_true (by omega)) (by rw [← hpl]; exact List.mem_map_of_mem (f := fun e : Nat × Ent => plb pl e.1) (get_mem hg)) rfl (fun w' hS hb' => ?_)
        have hE := Ext.of_stp (pl := pl) (pl' := pl) hS (fun _ _ h => h)
        have hr := h.mod (e' := .box T (cs.take o ++ vs ++ cs.drop (o + n))) hg (by rw [hpl]; exact hS) ⟨g, n1, c1, _, h1, hb', (((h5.ext hE).take o).append (h7.ext hE)).append ((h5.ext hE).drop _), fun v hv => ?_⟩
        · exact hk pl _ (.k undef) undef w' hr rfl rfl hv
        · rcases List.mem_append.1 hv with hv | hv
          · rcases List.mem_append.1 hv with hv | hv
            · exact h6 v (List.mem_of_mem_take hv)
            · exact h8 v hv
          · exact h6 v (List.mem_of_mem_drop hv)
      · cases hv
    · cases hv
  · rename_i i j sz o
    split at hv
    · rename_i t0 e xs fy hg hfy
      split at hv
      · rename_i hsz
        split at hv
        · rename_i z hz
          obtain ⟨y0, hy0, hv⟩ := bind_e hv
          split at hv
          · rename_i z' hu
            obtain ⟨g, n1, c1, h1, h2⟩ := hx
            obtain ⟨p, h3, h4⟩ := h.ent _ (get_mem hg)
            rw [h1] at h3
            cases h3
            obtain ⟨h5, h6, h7⟩ := at_some hy0
            obtain ⟨c, h8, h9⟩ := toD_rel hz hy
            have hpl : plb pl i = some g := plb_of h1
            have hcells : (ev l y).cells.toList = c := by
              rw [h9]
              cases ha : fy.agg with
              | true => simp [Rp.val, rp_agg, ha, Value.cells]
              | false =>
                have hl := (rp fy).len h8
                rw [rp_one fy ha] at hl
                obtain ⟨v, rfl⟩ := List.length_eq_one_iff.1 hl
                simp only [Rp.val, rp_agg, ha, Bool.false_eq_true, if_false, List.headD_cons]
                exact one_cells ((rp fy).one h8 v (by simp))
            refine ow_store_part (R := rp t0) (vs := c) (b := g) (i := j.toNat) (off := o) (u := y0) (u' := z') ?_ (by rw [h2, hsz, rp_size]) rfl hcells h.hL h4 h6 ((rp fy).one h8) (fun cs hcs => upd_rel hu hcs h8) (by rw [← hpl]; exact List.mem_map_of_mem (f := fun e : Nat × Ent => plb pl e.1) (get_mem hg)) (fun w' hS hO => ?_)
            · rw [(rp fy).len h8]; exact (tyc_ok hfy).size
            · have hr := h.mod (e' := .row t0 e (xs.set j.toNat z')) hg (by rw [hpl]; exact hS) ⟨_, h1, hO⟩
              exact hk pl _ (.k undef) undef w' hr rfl rfl hv
          · cases hv
        · cases hv
      · cases hv
    · cases hv
  · cases hv
end
end Ev

end

section
/- Appends, rows, literals. -/
namespace Ev
open Go Go.RowKit Sx

section
variable {R : Type} {B : Nat} {F : Lx} {w0 : World} {wr : Wr} {pl pl' : List Place} {S S' : St} {l l' : List Value} {ls : List (List Value)} {w w' : World} {L L' M : Lx} {P : Program} {d : Option Tmp} {ty : TypeId} {pos : String} {af : Array Edge} {gd : Option (Nat × Bool)}
  {Q : Exit → Act → World → Prop} {KK : List Value → World → Prop} {K : St → SV → Option R} {r : R}
theorem appRow_ok (h : Rel B F w0 wr pl S l ls w) {t e : TypeId} {n i : Nat} {p : Place} {x y : Operand} {s : SV} (hel : elOf P t = some (e, n)) (hv : appRow P S e i s K = some r) (hp : pl[i]? = some p) (hx : ev l x = .slice p.a p.n p.c)
    (hy : Den pl (lx pl S.own ++ F) w s (ev l y)) (hk : Hand B F w0 wr S.nt l ls d K r KK) : OW P ⟨d, .call ⟨.builtin .append, #[x, y], #[t, t]⟩, ty, pos, af, gd⟩ l w KK Q := by
  unfold appRow at hv
  split at hv
  · rename_i t0 e0 xs t1 z hg hr
    split at hv
    · rename_i he
      obtain ⟨rfl, rfl⟩ := he
      split at hv
      · rename_i ys hys
        obtain ⟨hsm, hv⟩ := need_e hv
        obtain ⟨pre, post, h1, h2⟩ := get_split hg
        obtain ⟨p', h3, h4⟩ := h.ent _ (get_mem hg)
        rw [hp] at h3
        cases h3
        have e1 : lx pl S.own = lx pl pre ++ blk p.a :: lx pl post := by rw [h1, lx_split, plb_of hp]
        have hL := h.hL
        have hy' := leaf_rel (t := .sl t1) rfl hys hy
        rw [e1] at hL h4 hy'
        have hrow := rowTy_ok hr
        have hshape : ∃ a2 n2 c2, ev l y = .slice a2 n2 c2 := by
          obtain ⟨a2, c2, e2, _⟩ := hy'
          simp at e2
          exact ⟨_, _, _, e2⟩
        obtain ⟨a2, n2, c2, e2⟩ := hshape
        rw [e2] at hy'
        refine ow_append' (elOf_ok hel).1 hrow hx e2 hL h4 hy' hsm (fun a' n' c' w' hS hO => ?_)
        have hpb := plb_of hp
        have hr2 := h.rep (p := ⟨a', n', c'⟩) (e' := .row t1 e0 (xs ++ ys)) h1 h2 (by rw [hpb]; exact hS) ⟨_, pl_last _, hO⟩
        exact hk _ _ (.row S.nx) _ w' hr2 rfl ⟨_, by rw [h.nx]; exact pl_last _, rfl⟩ hv
      · cases hv
    · cases hv
  · cases hv
theorem lApp2_ok (h : Rel B F w0 wr pl S l ls w) {t e : TypeId} {n : Nat} {x y : Operand} {s1 s2 : SV} (hel : elOf P t = some (e, n)) (hv : lApp2 P S e s1 s2 K = some r) (hx : Den pl (lx pl S.own ++ F) w s1 (ev l x))
    (hy : Den pl (lx pl S.own ++ F) w s2 (ev l y)) (hk : Hand B F w0 wr S.nt l ls d K r KK) : OW P ⟨d, .call ⟨.builtin .append, #[x, y], #[t, t]⟩, ty, pos, af, gd⟩ l w KK Q := by
  unfold lApp2 at hv
  split at hv
  · obtain ⟨p, h1, h2⟩ := hx
    exact appRow_ok h hel hv h1 h2 hy hk
  · split at hv
    · rename_i t0 z hr
      have hS : Stp B (lx pl S.own) (blk (none : Option Addr) :: lx pl S.own) F [] w w := Stp.none h.hL rfl
      have h' := h.push ⟨none, 0, 0⟩ (.row t0 e []) hS ⟨_, pl_last _, Ow.nil _ _ _ _⟩
      have hx : ev l x = .slice none 0 0 := hx
      have e1 : lx (pl ++ [⟨none, 0, 0⟩]) ((S.nx, Ent.row t0 e []) :: S.own) = blk none :: lx pl S.own := by
        have := lx_push (pl_push ⟨none, 0, 0⟩) h.ent
        unfold lx at this ⊢
        rw [List.map_cons, this, h.nx, plb_last]
      exact appRow_ok (p := ⟨none, 0, 0⟩) h' hel hv (by rw [h.nx]; exact pl_last _) hx (by
        show Den _ (lx (pl ++ [⟨none, 0, 0⟩]) ((S.nx, Ent.row t0 e []) :: S.own) ++ F) w s2 _
        rw [e1]
        exact hy.ext (Ext.of_stp hS (pl_push _))) hk
    · cases hv
  · cases hv
theorem frzV_ok (h : Rel B F w0 wr pl S l ls w) {i : Nat} {s : SV} {u : Value} (hf : frzV S i = some (S', s)) (hu : Den pl (lx pl S.own ++ F) w (.row i) u) : Rel B F w0 wr pl S' l ls w ∧ S'.nt = S.nt ∧ Den pl (lx pl S'.own ++ F) w s u ∧
    (∀ s' u', (∀ j, s' = .row j → j ≠ i) → (∀ j, s' ≠ .agg j) → (∀ j, s' ≠ .tup j) → (∀ a b c, s' ≠ .fn a b c) → (∀ a b, s' ≠ .ifc a b) → Den pl (lx pl S.own ++ F) w s' u' → Den pl (lx pl S'.own ++ F) w s' u') := by
  unfold frzV at hf
  split at hf
  · rename_i t e xs hg
    obtain ⟨S1, h1, h2⟩ := Option.map_eq_some_iff.1 hf
    cases h2
    have hr := frz_ok h h1
    unfold frz at h1
    rw [hg] at h1
    cases h1
    obtain ⟨pre, post, h1, h2⟩ := rid_split hg
    obtain ⟨p, h3, h4⟩ := h.ent _ (get_mem hg)
    have e1 : lx pl S.own = lx pl pre ++ blk p.a :: lx pl post := by
      rw [h1]; unfold lx; rw [List.map_append, List.map_cons, plb_of h3]
    have e2 : lx pl (sbsO i (.d (.sl t) xs) (rid i S.own)) = lx pl pre ++ lx pl post := by
      rw [lx_sbsO, h2]; unfold lx; rw [List.map_append]
    have hL := h.hL
    rw [e1] at hL
    have hfz : (Rp.slice (rp t)).rel ((lx pl pre ++ lx pl post) ++ F) w [.slice p.a p.n p.c] xs := by
      refine h4.freeze ?_ (fun k hk => hL.gone k hk)
      rw [e1]
      exact sub_drop w _ _ F _
    refine ⟨hr, rfl, ?_, fun s' u' _ _ _ _ _ hd => ?_⟩
    · obtain ⟨p', h5, rfl⟩ := hu
      rw [h3] at h5
      cases h5
      refine den_d (t := .sl t) rfl ?_
      show (Rp.slice (rp t)).rel (lx pl (sbsO i (.d (.sl t) xs) (rid i S.own)) ++ F) w [.slice p.a p.n p.c] xs
      rw [e2]
      exact hfz
    · have hs : Sub w ((lx pl pre ++ lx pl post) ++ F) (lx pl S.own ++ F) := by rw [e1]; exact sub_drop w _ _ F _
      have hx : Ext pl (lx pl S.own ++ F) w pl ((lx pl pre ++ lx pl post) ++ F) w := ⟨fun _ _ h => h, by intro α R cs x h; exact R.grow h hs, by intro α R b o x h; exact h.grow hs⟩
      show Den pl (lx pl (sbsO i (.d (.sl t) xs) (rid i S.own)) ++ F) w s' u'
      rw [e2]
      exact hd.ext hx
  · cases hf
theorem lAppend_ok (h : Rel B F w0 wr pl S l ls w) {t : TypeId} {x y : Operand} {s1 s2 : SV} (hv : lAppend P S t s1 s2 K = some r) (hx : Den pl (lx pl S.own ++ F) w s1 (ev l x))
    (hy : Den pl (lx pl S.own ++ F) w s2 (ev l y)) (hk : Hand B F w0 wr S.nt l ls d K r KK) : OW P ⟨d, .call ⟨.builtin .append, #[x, y], #[t, t]⟩, ty, pos, af, gd⟩ l w KK Q := by
  unfold lAppend at hv
  split at hv
  · rename_i e n hel
    split at hv
    · rename_i j
      split at hv
      · rename_i S1 s2' hf
        obtain ⟨h1, h2, h3, h4⟩ := frzV_ok h hf hy
        rw [← h2] at hk
        split at hv
        · rename_i i
          split at hv
          · cases hv
          · rename_i hne
            exact lApp2_ok h1 hel hv (h4 (.row i) _ (fun j' e => by cases e; exact hne) (fun _ e => by cases e) (fun _ e => by cases e) (fun _ _ _ e => by cases e) (fun _ _ e => by cases e) hx) h3 hk
        · rename_i hno
          unfold lApp2 at hv
          split at hv
          · rename_i i; exact absurd rfl (hno i)
          · refine lApp2_ok (s1 := .k (.slice none 0 0)) h1 hel (by unfold lApp2; exact hv) (h4 _ _ (fun j' e => by cases e) (fun _ e => by cases e) (fun _ e => by cases e) (fun _ _ _ e => by cases e) (fun _ _ e => by cases e) hx) h3 hk
          · cases hv
      · cases hv
    · exact lApp2_ok h hel hv hx hy hk
  · cases hv
theorem lMake_ok (h : Rel B F w0 wr pl S l ls w) {t : TypeId} {x y : Operand} {s1 s2 : SV} (hv : lMake P S t s1 s2 K = some r) (hx : Den pl (lx pl S.own ++ F) w s1 (ev l x))
    (hy : Den pl (lx pl S.own ++ F) w s2 (ev l y)) (hk : Hand B F w0 wr S.nt l ls d K r KK) : OW P ⟨d, .makeSlice t x y, ty, pos, af, gd⟩ l w KK Q := by
  unfold lMake at hv
  split at hv
  · rename_i e _ k n k' m hel
    split at hv
    · rename_i t0 z hr
      split at hv
      · rename_i hnm
        subst hnm
        obtain ⟨h0, hv⟩ := need_e hv
        obtain ⟨hsm, hv⟩ := need_e hv
        refine ow_make' (elOf_ok hel).1 (rowTy_ok hr) (den_int hx) (den_int hy) h.hL (of_decide_eq_true h0) hsm (fun a n' c w' hS hO => ?_)
        have hr2 := h.push ⟨a, n', c⟩ (.row t0 e (List.replicate n.toNat z)) hS ⟨_, pl_last _, hO⟩
        exact hk _ _ (.row S.nx) _ w' hr2 rfl ⟨_, by rw [h.nx]; exact pl_last _, rfl⟩ hv
      · cases hv
    · cases hv
  · cases hv

/-! ### parts laid into cells -/
def fillS (place : Nat → Option (Nat × Nat)) (cells : List SV) : List (Nat × List SV) → Option (List SV)
  | [] => some cells
  | (i, v) :: rest => match place i with
    | none => none
    | some (off, size) => if v.length = size ∧ off + v.length ≤ cells.length then fillS place (cells.take off ++ v ++ cells.drop (off + v.length)) rest else none
theorem foldl_set : ∀ (vs cs : List Value) (off k : Nat), off + k + vs.length ≤ cs.length →
    (vs.zipIdx k).foldl (fun (a : Array Value) (x : Value × Nat) => a.setIfInBounds (off + x.2) x.1) cs.toArray = (cs.take (off + k) ++ vs ++ cs.drop (off + k + vs.length)).toArray
  | [], cs, off, k, h => by simp
  | v :: vs, cs, off, k, h => by
    simp only [List.zipIdx_cons, List.foldl_cons]
    simp only [List.length_cons] at h
    rw [List.setIfInBounds_toArray, foldl_set vs (cs.set (off + k) v) off (k + 1) (by rw [List.length_set]; omega)]
    congr 1
    rw [List.drop_set_of_lt (by omega)]
    have e1 : (cs.set (off + k) v).take (off + (k + 1)) = cs.take (off + k) ++ [v] := by
      rw [← Nat.add_assoc, List.take_add_one, List.take_set_of_le (Nat.le_refl _), List.getElem?_set_self (by omega)]
      rfl
    rw [e1, List.length_cons]
    have e2 : off + (k + 1) + vs.length = off + k + (vs.length + 1) := by omega
    rw [e2]
    simp
def PartsD (pl : List Place) (L : Lx) (w : World) : List (Nat × List SV) → List (Nat × Value) → Prop
  | [], vs => vs = []
  | a :: q, vs => ∃ b r, vs = b :: r ∧ a.1 = b.1 ∧ DenL pl L w a.2 b.2.cells.toList ∧ (∀ v ∈ b.2.cells.toList, v.oneCell' = true) ∧ PartsD pl L w q r
theorem fill_ok {place : Nat → Option (Nat × Nat)} : ∀ {parts : List (Nat × List SV)} {vals : List (Nat × Value)} {cs cs' : List SV} {us : List Value}, fillS place cs parts = some cs' → DenL pl L w cs us → (∀ v ∈ us, v.oneCell' = true) →
    PartsD pl L w parts vals →
    ∃ us', Instr.fill place us.toArray vals = some us'.toArray ∧ DenL pl L w cs' us' ∧ (∀ v ∈ us', v.oneCell' = true)
  | [], _, cs, cs', us, h, hd, h1, hp => by cases h; cases hp; exact ⟨us, rfl, hd, h1⟩
  | (i, v) :: rest, _, cs, cs', us, h, hd, h1, ⟨(bi, bv), r, hv, ha, hb, hc, hr⟩ => by
    subst hv
    simp only at ha hb hc
    subst ha
    unfold fillS at h
    split at h
    · cases h
    · rename_i off size hp
      split at h
      · rename_i hcond
        have l1 := hd.len
        have l2 := hb.len
        have hsz : bv.cells.size = v.length := by rw [← Array.length_toList]; exact l2
        have hd' := ((hd.take off).append hb).append (hd.drop (off + v.length))
        have h1' : ∀ z ∈ us.take off ++ bv.cells.toList ++ us.drop (off + v.length), z.oneCell' = true := fun z hz => by
          rcases List.mem_append.1 hz with hz | hz
          · rcases List.mem_append.1 hz with hz | hz
            · exact h1 z (List.mem_of_mem_take hz)
            · exact hc z hz
          · exact h1 z (List.mem_of_mem_drop hz)
        obtain ⟨us', e1, e2, e3⟩ := fill_ok h hd' h1' hr
        refine ⟨us', ?_, e2, e3⟩
        unfold Instr.fill
        simp only [hp]
        rw [if_neg (by simp only [hsz, List.size_toArray, Bool.or_eq_true, bne_iff_ne, decide_eq_true_eq]; omega)]
        rw [← e1]
        congr 1
        have := foldl_set bv.cells.toList us off 0 (by omega)
        simp only [Nat.add_zero] at this
        rw [← l2, ← this]
        rw [← Array.foldl_toList]
        congr 1
        simp [Array.toList_zipIdx]
      · cases h
end
end Ev

end

section
/- Struct values, literals of slices; all operations that turn own blocks. -/
namespace Ev
open Go Go.RowKit Sx

section
variable {R : Type} {B : Nat} {F : Lx} {w0 : World} {wr : Wr} {pl pl' : List Place} {S S' : St} {l l' : List Value} {ls : List (List Value)} {w w' : World} {L L' M : Lx} {P : Program} {d : Option Tmp} {ty : TypeId} {pos : String} {af : Array Edge} {gd : Option (Nat × Bool)}
  {Q : Exit → Act → World → Prop} {KK : List Value → World → Prop} {K : St → SV → Option R} {r : R}
/-- parts: what the operands' cells are -/
def prts (S : St) : List (Nat × Operand) → Option (List (Nat × List SV))
  | [] => some []
  | (i, x) :: q => (opv S x).bind fun s => (cellsV s).bind fun c => (prts S q).map fun r => (i, c) :: r
theorem prts_ok (hf : FrD pl L w S.fr l) : ∀ {q : List (Nat × Operand)} {c : List (Nat × List SV)}, prts S q = some c → PartsD pl L w c (q.map fun p => (p.1, ev l p.2))
  | [], c, h => by cases h; rfl
  | (i, x) :: q, c, h => by
    obtain ⟨s, h1, h⟩ := bind_e h
    obtain ⟨cs, h2, h⟩ := bind_e h
    obtain ⟨r, h3, rfl⟩ := Option.map_eq_some_iff.1 h
    obtain ⟨h4, h5⟩ := cellsV_ok (opv_den hf h1) h2
    exact ⟨(i, ev l x), q.map fun p => (p.1, ev l p.2), rfl, rfl, h4, h5, prts_ok hf h3⟩
def plcs (P : Program) : List Field → Option (List (Nat × Nat))
  | [] => some []
  | f :: q => (szOf P f.type).bind fun n => (plcs P q).map fun r => (f.offset, n) :: r
theorem plcs_ok : ∀ {fs : List Field} {r : List (Nat × Nat)}, plcs P fs = some r → (fs.mapM fun f => (do pure (f.offset, ← Go.sizeOf f.type) : Sem (Nat × Nat))).run P w = .ok r w
  | [], r, h => by cases h; rfl
  | f :: q, r, h => by
    obtain ⟨n, h1, h⟩ := bind_e h
    obtain ⟨r', h2, rfl⟩ := Option.map_eq_some_iff.1 h
    rw [List.mapM_cons]
    simp only [Sem.run_bind, run_sizeOf h1, Result.andThen_ok, Sem.run_pure, plcs_ok h2]
/-- a struct's or an array's value out of its cells -/
def shut (P : Program) (t : TypeId) (cs : List SV) : SV :=
  match tyc P t with
  | some y => if y.agg then (match pk y cs with
    | some (x, []) => .d y x
    | _ => .agg cs) else .agg cs
  | none => .agg cs
theorem shut_den {t : TypeId} {cs : List SV} {us : List Value} (hd : DenL pl L w cs us) (h1 : ∀ v ∈ us, v.oneCell' = true) : Den pl L w (shut P t cs) (.agg us.toArray) := by
  unfold shut
  split
  · rename_i y hy
    split
    · rename_i ha
      split
      · rename_i x hpk
        obtain ⟨c, v, e, h3, h4⟩ := pk_rel hpk hd
        cases h4
        rw [List.append_nil] at e
        rw [e]
        exact ⟨c, h3, by simp [Rp.val, rp_agg, ha]⟩
      · exact ⟨us, hd, h1, rfl⟩
    · exact ⟨us, hd, h1, rfl⟩
  · exact ⟨us, hd, h1, rfl⟩
def zerosOf (P : Program) (t : TypeId) : Option (List Value) := match (P.info? t).bind (·.zero) with
  | some z => if z.cells.toList.all Value.oneCell' = true then some z.cells.toList else none
  | none => none
theorem zerosOf_ok {t : TypeId} {us : List Value} (h : zerosOf P t = some us) : ∃ z, (zeroValue t).run P w = .ok z w ∧ z.cells = us.toArray ∧ ∀ v ∈ us, v.oneCell' = true := by
  unfold zerosOf at h
  split at h
  · rename_i z hz
    split at h
    · rename_i h1
      cases h
      cases hi : P.info? t with
      | none => simp [hi] at hz
      | some i =>
        simp [hi] at hz
        refine ⟨z, by simp [zeroValue, typeInfo, hi, hz, Sem.run], by simp, List.all_eq_true.1 h1⟩
    · cases h
  · cases h
def qBuild (P : Program) (S : St) (t : TypeId) (q : List (Nat × Operand)) (KV : SV → List Nat → Option R) : Option R :=
  match zerosOf P t, prts S q with
  | some zs, some c => match P.underlying t with
    | some (.struct fs) => match plcs P fs.toList with
      | some ps => match fillS (ps[·]?) (zs.map ofV) c with
        | some cs => KV (shut P t cs) []
        | none => none
      | none => none
    | some (.array _ e) => match szOf P e with
      | some n => match fillS (fun i => some (i * n, n)) (zs.map ofV) c with
        | some cs => KV (.agg cs) []
        | none => none
      | none => none
    | _ => none
  | _, _ => none
theorem qBuild_ok (hf : FrD pl L w S.fr l) {t : TypeId} {q : Array (Nat × Operand)} {KV : SV → List Nat → Option R} (h : qBuild P S t q.toList KV = some r) :
    ∃ s rd, KV s rd = some r ∧ Yv P pl L w l ⟨d, .build t q, ty, pos, af, gd⟩ s rd := by
  unfold qBuild at h
  split at h
  · rename_i zs c hz hc
    have hp := prts_ok hf hc
    have hmap : (q.map fun p => (p.1, ev l p.2)).toList = q.toList.map fun p => (p.1, ev l p.2) := by simp
    split at h
    · rename_i fs hu
      split at h
      · rename_i ps hps
        split at h
        · rename_i cs hfill
          have hone : ∀ v ∈ zs, v.oneCell' = true := by obtain ⟨_, _, _, h3⟩ := zerosOf_ok (w := w) hz; exact h3
          obtain ⟨us, h1, h2, h3⟩ := fill_ok hfill (denL_ofV zs) hone hp
          refine ⟨_, _, h, Yv.of (shut_den h2 h3) (fun w' => ?_)⟩
          obtain ⟨z, h4, h5, _⟩ := zerosOf_ok (w := w') hz
          have hm : (fs.mapM fun f => (do pure (f.offset, ← Go.sizeOf f.type) : Sem (Nat × Nat))).run P w' = .ok ps.toArray w' := by
            have := plcs_ok (w := w') hps
            rw [← Array.toArray_toList (xs := fs), List.mapM_toArray]
            show ((fs.toList.mapM fun f => (do pure (f.offset, ← Go.sizeOf f.type) : Sem (Nat × Nat))) >>= (fun r => (pure r.toArray : Sem (Array (Nat × Nat))))).run P w' = _
            rw [Sem.run_bind, this]
            rfl
          have hb : (Instr.build t (q.map fun p => (p.1, ev l p.2))).run P w' = .ok (.agg us.toArray) w' := by
            unfold Instr.build
            simp only [Sem.run_bind, h4, Result.andThen_ok, run_underlying hu, hm, hmap, h5]
            have e : (fun x : Nat => ps.toArray[x]?) = fun x => ps[x]? := by funext x; simp
            rw [e, h1]
            simp
          have e2 : (q.map fun (i, x) => (i, ev l x)) = q.map fun p => (p.1, ev l p.2) := rfl
          simp only [execOp, Sem.run_bind, e2, hb, Result.andThen_ok, Sem.run_pure]
        · cases h
      · cases h
    · rename_i m e hu
      split at h
      · rename_i n hn
        split at h
        · rename_i cs hfill
          have hone : ∀ v ∈ zs, v.oneCell' = true := by obtain ⟨_, _, _, h3⟩ := zerosOf_ok (w := w) hz; exact h3
          obtain ⟨us, h1, h2, h3⟩ := fill_ok hfill (denL_ofV zs) hone hp
          refine ⟨_, _, h, Yv.of (s := .agg cs) ⟨us, h2, h3, rfl⟩ (fun w' => ?_)⟩
          obtain ⟨z, h4, h5, _⟩ := zerosOf_ok (w := w') hz
          have hb : (Instr.build t (q.map fun p => (p.1, ev l p.2))).run P w' = .ok (.agg us.toArray) w' := by
            unfold Instr.build
            simp only [Sem.run_bind, h4, Result.andThen_ok, run_underlying hu, run_sizeOf hn, hmap, h5, h1, Sem.run_pure]
          have e2 : (q.map fun (i, x) => (i, ev l x)) = q.map fun p => (p.1, ev l p.2) := rfl
          simp only [execOp, Sem.run_bind, e2, hb, Result.andThen_ok, Sem.run_pure]
        · cases h
      · cases h
    · cases h
  · cases h
/-! ### []T{..} -/
def pkN (t : Ty) : Nat → List SV → Option (List (Vl t))
  | 0, [] => some []
  | 0, _ => none
  | n + 1, l => (pk t l).bind fun p => (pkN t n p.2).map fun q => p.1 :: q
theorem pkN_rel {t : Ty} : ∀ {n : Nat} {l : List SV} {us : List Value} {xs : List (Vl t)}, pkN t n l = some xs → DenL pl L w l us → RowsOf (rp t) L w us xs ∧ xs.length = n
  | 0, [], us, xs, h, hd => by cases h; cases hd; exact ⟨rfl, rfl⟩
  | 0, _ :: _, us, xs, h, hd => by cases h
  | n + 1, l, us, xs, h, hd => by
    obtain ⟨p, h1, h⟩ := bind_e h
    obtain ⟨q, h2, rfl⟩ := Option.map_eq_some_iff.1 h
    obtain ⟨cs, vs, rfl, h3, h4⟩ := pk_rel (x := p.1) (r := p.2) h1 hd
    obtain ⟨h5, h6⟩ := pkN_rel h2 h4
    exact ⟨⟨cs, vs, rfl, h3, h5⟩, by simp [h6]⟩
def initOf (zs : List Value) (m : Nat) : List Value := ((Array.range m).map (zs.toArray[· % zs.toArray.size]!)).toList
def lLit (P : Program) (S : St) (t : TypeId) (len : Nat) (q : List (Nat × Operand)) (K : St → SV → Option R) : Option R :=
  match elOf P t with
  | some (e, n) => match rowTy P e, zerosOf P e, prts S q with
    | some ⟨t0, _⟩, some zs, some c => if len * n ≤ 16777216 ∧ len ≤ 1073741824 ∧ t0.size = n ∧ (initOf zs (len * n)).all Value.oneCell' = true then
        match fillS (fun i => some (i * n, n)) ((initOf zs (len * n)).map SV.k) c with
        | some cs => match pkN t0 len cs with
          | some xs => K { S with own := (S.nx, .row t0 e xs) :: S.own, nx := S.nx + 1 } (.row S.nx)
          | none => none
        | none => none
      else none
    | _, _, _ => none
  | none => none
theorem denL_k : ∀ l : List Value, DenL pl L w (l.map SV.k) l
  | [] => rfl
  | v :: r => ⟨v, r, rfl, rfl, denL_k r⟩
theorem lLit_ok (h : Rel B F w0 wr pl S l ls w) {t : TypeId} {len : Nat} {q : Array (Nat × Operand)} (hv : lLit P S t len q.toList K = some r) (hk : Hand B F w0 wr S.nt l ls d K r KK) : OW P ⟨d, .buildSlice t len q, ty, pos, af, gd⟩ l w KK Q := by
  unfold lLit at hv
  split at hv
  · rename_i e n hel
    split at hv
    · rename_i t0 z zs c hr hz hc
      split at hv
      · rename_i hcond
        split at hv
        · rename_i cs hfill
          split at hv
          · rename_i xs hxs
            obtain ⟨he1, he2⟩ := elOf_ok hel
            have hp := prts_ok h.fr hc
            obtain ⟨us, h1, h2, h3⟩ := fill_ok hfill (denL_k _) (List.all_eq_true.1 hcond.2.2.2) hp
            obtain ⟨h4, h5⟩ := pkN_rel hxs h2
            obtain ⟨z', h6, h7, _⟩ := zerosOf_ok (w := w) hz
            have hmap : (q.map fun p => (p.1, ev l p.2)).toList = q.toList.map fun p => (p.1, ev l p.2) := by simp
            have hrun : (Instr.buildSlice t len (q.map fun p => (p.1, ev l p.2))).run P w = .ok (.slice (some ⟨w.heap.size, 0, none⟩) len len) (w.alloc (.cells us.toArray e)) := by
              unfold Instr.buildSlice
              have hle : ¬ len * n > 2 ^ 24 := by omega
              by_cases h0 : len * n = 0
              · have hus : us = [] := by
                  have := h4.len
                  rw [h5, rp_size, hcond.2.2.1, h0] at this
                  exact List.eq_nil_of_length_eq_zero this
                have e0 : (initOf zs (len * n)) = [] := by rw [h0]; simp [initOf]
                rw [e0] at h1
                simp only [Sem.run_bind, run_underlying he1, Result.andThen_ok, run_sizeOf he2, h0, if_true, hmap, newRow, newObj]
                simp only [Nat.not_lt_zero, gt_iff_lt, if_false, Sem.run_pure, Result.andThen_ok]
                have e1 : (Array.range 0).map (fun x => (#[] : Array Value)[x % (#[] : Array Value).size]!) = ([] : List Value).toArray := by simp
                simp only [show Array.range 0 = #[] from rfl, Sem.run_bind, Sem.run_pure, Result.andThen_ok, Array.map_empty, h1, hus]
                simp [Sem.run]
              · have e1 : (Array.range (len * n)).map (fun x => zs.toArray[x % zs.toArray.size]!) = (initOf zs (len * n)).toArray := by simp only [initOf, Array.toArray_toList]
                simp only [Sem.run_bind, run_underlying he1, Result.andThen_ok, run_sizeOf he2, if_neg h0, h6, h7, hmap, newRow, newObj]
                rw [if_neg (by omega)]
                simp only [Sem.run_bind, h6, Result.andThen_ok, Sem.run_pure, h7, e1, h1]
                simp [Sem.run]
            have hr2 : (execOp (ev l) ⟨d, .buildSlice t len q, ty, pos, af, gd⟩).run P w = .ok (.value (.slice (some ⟨w.heap.size, 0, none⟩) len len)) (w.alloc (.cells us.toArray e)) := by
              have e2 : (q.map fun (i, x) => (i, ev l x)) = q.map fun p => (p.1, ev l p.2) := rfl
              simp only [execOp, Sem.run_bind, e2, hrun, Result.andThen_ok, Sem.run_pure]
            refine ow_lit rfl h.hL hr2 h4 h5 hcond.2.1 (fun a n' c' w' hS hO => ?_)
            have hr3 := h.push ⟨a, n', c'⟩ (.row t0 e xs) hS ⟨_, pl_last _, hO⟩
            exact hk _ _ (.row S.nx) _ w' hr3 rfl ⟨_, by rw [h.nx]; exact pl_last _, rfl⟩ hv
          · cases hv
        · cases hv
      · cases hv
    · cases hv
  · cases hv
end
end Ev

end

section
/- Contracts, calls, one operation. -/
namespace Ev
open Go Go.RowKit Sx

/-! ### contracts -/
inductive Rt where
  | d (t : Ty)
  | o (e : TypeId) (t : Ty)
@[reducible] def RV : Rt → Type
  | .d t => Vl t
  | .o _ t => List (Vl t)
@[reducible] def As : List Ty → Type
  | [] => Unit
  | a :: r => Vl a × As r
@[reducible] def Rs : List Rt → Type
  | [] => Unit
  | a :: r => RV a × Rs r
structure Ct where
  ps : List Ty
  rs : List Rt
  m : As ps → Option (Rs rs)
def AsD (L : Lx) (w : World) : (ps : List Ty) → As ps → List Value → Prop
  | [], _, vs => vs = []
  | a :: r, x, vs => ∃ cs q, vs = (rp a).val cs :: q ∧ (rp a).rel L w cs x.1 ∧ AsD L w r x.2 q
def RsD (L : Lx) (w : World) : (rs : List Rt) → Rs rs → List Value → List (Option Nat) → Prop
  | [], _, vs, os => vs = [] ∧ os = []
  | .d t :: r, x, vs, os => ∃ cs q, vs = (rp t).val cs :: q ∧ (rp t).rel L w cs x.1 ∧ RsD L w r x.2 q os
  | .o e t :: r, x, vs, os => ∃ a n c q os', vs = .slice a n c :: q ∧ os = blk a :: os' ∧ Ow (rp t) e L w a n c x.1 ∧ RsD L w r x.2 q os'
def retV : List Value → Value
  | [v] => v
  | l => .tuple l.toArray
def CtOk (P : Program) (f : FuncId) (ct : Ct) : Prop := ∀ (F : Lx) (w0 : World), (∀ k, some k ∈ F → k < w0.heap.size) → ∀ (x : As ct.ps) (r : Rs ct.rs) (vs : List Value), ct.m x = some r → AsD F w0 ct.ps x vs →
  Calls P f vs.toArray w0 (fun e w' => ∃ us os, e = .returned (retV us) ∧ Below w0.heap.size w0 w' ∧ LOk w0.heap.size os F w' ∧ RsD (os ++ F) w' ct.rs r us os)
def toAs : (ps : List Ty) → List SV → Option (As ps)
  | [], [] => some ()
  | a :: r, s :: q => (toD a s).bind fun x => (toAs r q).map fun y => (x, y)
  | _, _ => none
def retS : List SV → SV
  | [s] => s
  | l => .tup l
/-- results that come in: values, new entries -/
def inRs (n : Nat) : (rs : List Rt) → Rs rs → List SV × List (Nat × Ent)
  | [], _ => ([], [])
  | .d t :: r, x => (.d t x.1 :: (inRs n r x.2).1, (inRs n r x.2).2)
  | .o e t :: r, x => (.row n :: (inRs (n + 1) r x.2).1, (n, .row t e x.1) :: (inRs (n + 1) r x.2).2)
def nOwn : List Rt → Nat
  | [] => 0
  | .d _ :: r => nOwn r
  | .o _ _ :: r => nOwn r + 1
section
variable {R : Type} {B : Nat} {F : Lx} {w0 : World} {wr : Wr} {pl pl' : List Place} {S S' : St} {l l' : List Value} {ls : List (List Value)} {w w' : World} {L L' M : Lx} {P : Program} {d : Option Tmp} {ty : TypeId} {pos : String} {af : Array Edge} {gd : Option (Nat × Bool)}
  {Q : Exit → Act → World → Prop} {KK : List Value → World → Prop} {K : St → SV → Option R} {r : R}
theorem toAs_rel : ∀ {ps : List Ty} {ss : List SV} {x : As ps} {vs : List Value}, toAs ps ss = some x → DenL pl L w ss vs → AsD L w ps x vs
  | [], [], x, vs, h, hd => hd
  | a :: r, s :: q, x, vs, h, hd => by
    obtain ⟨y, h1, h⟩ := bind_e h
    obtain ⟨z, h2, rfl⟩ := Option.map_eq_some_iff.1 h
    obtain ⟨v, us, rfl, h3, h4⟩ := hd
    obtain ⟨cs, h5, rfl⟩ := toD_rel h1 h3
    exact ⟨cs, us, rfl, h5, toAs_rel h2 h4⟩
  | [], _ :: _, x, vs, h, hd => by cases h
  | _ :: _, [], x, vs, h, hd => by cases h
/-- the places of the new rows -/
def newPl : (rs : List Rt) → List Value → List Place
  | [], _ => []
  | .d _ :: r, vs => newPl r vs.tail
  | .o _ _ :: r, vs => (match vs with
    | .slice a n c :: _ => ⟨a, n, c⟩
    | _ => ⟨none, 0, 0⟩) :: newPl r vs.tail
theorem inRs_ok : ∀ {rs : List Rt} {x : Rs rs} {vs : List Value} {os : List (Option Nat)} (pl : List Place), RsD L w rs x vs os →
    DenL (pl ++ newPl rs vs) L w (inRs pl.length rs x).1 vs ∧ (∀ e ∈ (inRs pl.length rs x).2, EntD (pl ++ newPl rs vs) L w e.1 e.2) ∧ lx (pl ++ newPl rs vs) (inRs pl.length rs x).2 = os ∧ (newPl rs vs).length = nOwn rs
  | [], x, vs, os, pl, ⟨h1, h2⟩ => by subst h1 h2; exact ⟨rfl, by simp [inRs], rfl, rfl⟩
  | .d t :: r, x, vs, os, pl, ⟨cs, q, h1, h2, h3⟩ => by
    subst h1
    obtain ⟨a1, a2, a3, a4⟩ := inRs_ok pl h3
    exact ⟨⟨_, _, rfl, ⟨cs, h2, rfl⟩, a1⟩, a2, a3, a4⟩
  | .o e t :: r, x, vs, os, pl, ⟨a, n, c, q, os', h1, h2, h3, h4⟩ => by
    subst h1 h2
    obtain ⟨a1, a2, a3, a4⟩ := inRs_ok (pl ++ [⟨a, n, c⟩]) h4
    have e1 : pl ++ newPl (.o e t :: r) (.slice a n c :: q) = (pl ++ [⟨a, n, c⟩]) ++ newPl r q := by simp [newPl]
    rw [e1]
    simp only [List.length_append, List.length_cons, List.length_nil, Nat.zero_add] at a1 a2 a3
    have hat : ((pl ++ [⟨a, n, c⟩]) ++ newPl r q)[pl.length]? = some ⟨a, n, c⟩ := by simp
    refine ⟨⟨_, _, rfl, ⟨_, hat, rfl⟩, a1⟩, fun y hy => ?_, ?_, by simp [newPl, nOwn, a4]⟩
    · rcases List.mem_cons.1 hy with hy | hy
      · subst hy; exact ⟨_, hat, h3⟩
      · exact a2 y hy
    · show plb _ pl.length :: lx _ (inRs (pl.length + 1) r x.2).2 = _
      rw [a3, plb_of hat]
theorem inRs_ge : ∀ (n : Nat) (rs : List Rt) (x : Rs rs), ∀ e ∈ (inRs n rs x).2, n ≤ e.1
  | n, [], x, e, he => by cases he
  | n, .d t :: r, x, e, he => inRs_ge n r x.2 e he
  | n, .o _ t :: r, x, e, he => by
    rcases List.mem_cons.1 he with he | he
    · subst he; exact Nat.le_refl _
    · exact Nat.le_of_succ_le (inRs_ge (n + 1) r x.2 e he)
theorem pl_app (q : List Place) : ∀ (i : Nat) (p : Place), pl[i]? = some p → (pl ++ q)[i]? = some p := fun i p h => by
  rw [List.getElem?_append_left (List.getElem?_eq_some_iff.1 h).1]
  exact h
theorem retS_den {ss : List SV} {vs : List Value} (h : DenL pl L w ss vs) : Den pl L w (retS ss) (retV vs) := by
  match ss, h with
  | [], h => cases h; exact ⟨[], rfl, rfl⟩
  | [s], ⟨v, q, h1, h2, h3⟩ => cases h3; subst h1; exact h2
  | s :: t :: r, h =>
    have hl := h.len
    match vs, hl with
    | a :: b :: q, _ => exact ⟨_, h, rfl⟩
/-- several new rows at once -/
theorem Rel.pushes (h : Rel B F w0 wr pl S l ls w) {rs : List Rt} {x : Rs rs} {vs : List Value} {os : List (Option Nat)} (hf : Below w.heap.size w w') (hL : LOk w.heap.size os (lx pl S.own ++ F) w')
    (hr : RsD (os ++ (lx pl S.own ++ F)) w' rs x vs os) :
    Rel B F w0 wr (pl ++ newPl rs vs) { S with own := (inRs S.nx rs x).2 ++ S.own, nx := S.nx + nOwn rs } l ls w' ∧
      DenL (pl ++ newPl rs vs) (lx (pl ++ newPl rs vs) ((inRs S.nx rs x).2 ++ S.own) ++ F) w' (inRs S.nx rs x).1 vs := by
  obtain ⟨a1, a2, a3, a4⟩ := inRs_ok pl hr
  rw [← h.nx] at a1 a2 a3
  have e0 : lx (pl ++ newPl rs vs) S.own = lx pl S.own := lx_push (pl_app _) h.ent
  have e1 : lx (pl ++ newPl rs vs) ((inRs S.nx rs x).2 ++ S.own) = os ++ lx pl S.own := by
    have : lx (pl ++ newPl rs vs) ((inRs S.nx rs x).2 ++ S.own) = lx (pl ++ newPl rs vs) (inRs S.nx rs x).2 ++ lx (pl ++ newPl rs vs) S.own := by unfold lx; rw [List.map_append]
    rw [this, a3, e0]
  have hfz : Fz [] w w' := Fz.of_below hf []
  have hS : Stp B (lx pl S.own) (os ++ lx pl S.own) F [] w w' := by
    refine ⟨hfz, nilM, fun k hk => ?_, ?_, ?_, ?_, Nat.le_trans h.hL.base hf.size, h.hL.far⟩
    · rw [List.append_assoc] at hk
      rcases List.mem_append.1 hk with hk | hk
      · exact .inr (hL.lo k hk)
      · exact .inl hk
    · rw [List.pairwise_append]
      refine ⟨hL.pair, h.hL.pair, fun a ha b hb k e e' => ?_⟩
      subst e e'
      have h1 := hL.lo k ha
      have h2 := h.hL.hi k hb
      omega
    · intro k hk
      rcases List.mem_append.1 hk with hk | hk
      · have h1 := hL.lo k hk; have := h.hL.base; omega
      · exact h.hL.lo k hk
    · intro k hk
      rcases List.mem_append.1 hk with hk | hk
      · exact hL.hi k hk
      · exact Nat.lt_of_lt_of_le (h.hL.hi k hk) hf.size
  refine ⟨h.go (M := []) (S' := { S with own := (inRs S.nx rs x).2 ++ S.own, nx := S.nx + nOwn rs }) (by show Stp B _ (lx (pl ++ newPl rs vs) ((inRs S.nx rs x).2 ++ S.own)) F [] w w'; rw [e1]; exact hS) (pl_app _) (by simp [h.nx, a4]) (Nat.le_add_right _ _) rfl rfl rfl (fun _ hi => hi) (fun e he => ?_), ?_⟩
  · have he : e ∈ (inRs S.nx rs x).2 ++ S.own := he
    rcases List.mem_append.1 he with he | he
    · refine .inr ⟨.inl (inRs_ge _ _ _ e he), ?_⟩
      show EntD _ (lx (pl ++ newPl rs vs) ((inRs S.nx rs x).2 ++ S.own) ++ F) w' e.1 e.2
      rw [e1, List.append_assoc]
      exact a2 e he
    · exact .inl ⟨he, fun _ _ hk => by cases hk⟩
  · rw [e1, List.append_assoc]
    exact a1
def cCall (ct : Ct) (S : St) (ss : List SV) (K : St → SV → Option R) : Option R :=
  match toAs ct.ps ss with
  | some x => (ct.m x).bind fun r => K { S with own := (inRs S.nx ct.rs r).2 ++ S.own, nx := S.nx + nOwn ct.rs } (retS (inRs S.nx ct.rs r).1)
  | none => none
/-- what a call hands on -/
def HandV (B : Nat) (F : Lx) (w0 : World) (wr : Wr) (n : Nat) (l : List Value) (ls : List (List Value)) (K : St → SV → Option R) (r : R) (KV : Value → World → Prop) : Prop :=
  ∀ pl' S' s v w', Rel B F w0 wr pl' S' l ls w' → S'.nt = n → Den pl' (lx pl' S'.own ++ F) w' s v → K S' s = some r → KV v w'
theorem cCall_ok {f : FuncId} {ct : Ct} (hct : CtOk P f ct) (h : Rel B F w0 wr pl S l ls w) {ss : List SV} {vs : List Value} (hd : DenL pl (lx pl S.own ++ F) w ss vs) (hv : cCall ct S ss K = some r) {KV : Value → World → Prop}
    (hk : HandV B F w0 wr S.nt l ls K r KV) : Calls P f vs.toArray w (fun e w' => ∃ v, e = .returned v ∧ KV v w') := by
  unfold cCall at hv
  split at hv
  · rename_i x hx
    obtain ⟨y, hy, hv⟩ := bind_e hv
    refine (hct (lx pl S.own ++ F) w h.hL.lt x y vs hy (toAs_rel hx hd)).mono fun e w' he => ?_
    obtain ⟨us, os, rfl, h1, h2, h3⟩ := he
    obtain ⟨h4, h5⟩ := h.pushes h1 h2 h3
    exact ⟨_, rfl, hk _ _ _ _ w' h4 rfl (retS_den h5) hv⟩
  · cases hv
/-- a way to run a function -/
abbrev Cl (R : Type) := FuncId → List SV → St → (St → SV → Option R) → Option R
def ClOk (P : Program) (cl : Cl R) : Prop := ∀ (B : Nat) (F : Lx) (w0 : World) (wr : Wr) (pl : List Place) (S : St) (l : List Value) (ls : List (List Value)) (w : World) (f : FuncId) (ss : List SV) (vs : List Value) (K : St → SV → Option R) (r : R) (KV : Value → World → Prop),
  Rel B F w0 wr pl S l ls w → DenL pl (lx pl S.own ++ F) w ss vs → cl f ss S K = some r → HandV B F w0 wr S.nt l ls K r KV → Calls P f vs.toArray w (fun e w' => ∃ v, e = .returned v ∧ KV v w')
abbrev Env := FuncId → Option Ct
def EnvOk (P : Program) (env : Env) : Prop := ∀ f ct, env f = some ct → CtOk P f ct
def fnOk (P : Program) (f : FuncId) : Bool := match P.funcs[f]? with
  | some fn => !(fn.name == "runtime.NumGoroutine") && fn.body.isSome
  | none => false
theorem fnOk_ok {f : FuncId} (h : fnOk P f = true) : ∃ fn, P.funcs[f]? = some fn ∧ (fn.name == "runtime.NumGoroutine") = false ∧ fn.body.isNone = false := by
  unfold fnOk at h
  split at h
  · rename_i fn hf
    simp only [Bool.and_eq_true, Bool.not_eq_true'] at h
    exact ⟨fn, hf, h.1, by cases hb : fn.body <;> simp [hb] at h ⊢⟩
  · cases h
theorem run_callv {f : FuncId} {x : Operand} {args : List Operand} {ts : Array TypeId} {as bs : List Value} (hf : fnOk P f = true) (hx : ev l x = .func (.func f) as.toArray bs.toArray) :
    (execOp (ev l) ⟨d, .call ⟨.value x, args.toArray, ts⟩, ty, pos, af, gd⟩).run P w = .ok (.enter f (as ++ args.map (ev l) ++ bs).toArray) w := by
  obtain ⟨fn, h1, h2, h3⟩ := fnOk_ok hf
  have hn' : fn.name ≠ "runtime.NumGoroutine" := by simpa using h2
  have hb' : fn.body ≠ none := by intro e; rw [e] at h3; simp at h3
  simp [execOp, resolve, hx, Deferred.ofValue, invoke, callFunc, h1, hn', hb']
def opvs (S : St) : List Operand → Option (List SV)
  | [] => some []
  | x :: q => (opv S x).bind fun s => (opvs S q).map fun r => s :: r
theorem opvs_den (hf : FrD pl L w S.fr l) : ∀ {q : List Operand} {ss : List SV}, opvs S q = some ss → DenL pl L w ss (q.map (ev l))
  | [], ss, h => by cases h; rfl
  | x :: q, ss, h => by
    obtain ⟨s, h1, h⟩ := bind_e h
    obtain ⟨r, h2, rfl⟩ := Option.map_eq_some_iff.1 h
    exact ⟨_, _, rfl, opv_den hf h1, opvs_den hf h2⟩
def lCall (P : Program) (env : Env) (cl : Cl R) (S : St) (x : Operand) (args : List Operand) (K : St → SV → Option R) : Option R :=
  match opv S x, opvs S args with
  | some (.fn (.func f) a b), some ss => if fnOk P f = true then (match env f with
    | some ct => cCall ct S (a ++ ss ++ b) K
    | none => cl f (a ++ ss ++ b) S K) else none
  | _, _ => none
theorem lCall_ok {env : Env} {cl : Cl R} (henv : EnvOk P env) (hcl : ClOk P cl) (h : Rel B F w0 wr pl S l ls w) {x : Operand} {args : Array Operand} {ts : Array TypeId} (hv : lCall P env cl S x args.toList K = some r)
    (hk : Hand B F w0 wr S.nt l ls d K r KK) : OW P ⟨d, .call ⟨.value x, args, ts⟩, ty, pos, af, gd⟩ l w KK Q := by
  unfold lCall at hv
  split at hv
  · rename_i f a b ss hx hss
    split at hv
    · rename_i hf
      obtain ⟨as, bs, h1, h2, h3⟩ := opv_den h.fr hx
      have h4 := opvs_den h.fr hss
      have hd := (h1.append h4).append h2
      have hrun := run_callv (P := P) (w := w) (d := d) (ty := ty) (pos := pos) (af := af) (gd := gd) (args := args.toList) (ts := ts) hf h3
      rw [Array.toArray_toList] at hrun
      have hc : Calls P f (as ++ args.toList.map (ev l) ++ bs).toArray w (fun e w'' => ∃ v, e = .returned v ∧ KK (st l d v) w'') := by
        split at hv
        · rename_i ct hct
          exact cCall_ok (henv f ct hct) h hd hv (fun pl' S' s v w' a1 a2 a3 a4 => hk pl' S' s v w' a1 a2 a3 a4)
        · exact hcl _ _ _ _ _ _ _ _ _ _ _ _ _ _ _ h hd hv (fun pl' S' s v w' a1 a2 a3 a4 => hk pl' S' s v w' a1 a2 a3 a4)
      exact ow_enter (R := fun v w'' => KK (st l d v) w'') hrun hc (fun v w'' hR => hR)
    · cases hv
  · cases hv
end
end Ev

end

section
/- Whether two struct values are the same. -/
namespace Ev
open Go Go.RowKit Sx

section
variable {R : Type} {pl : List Place} {L : Lx} {w : World} {P : Program} {l : List Value}
def isInt (P : Program) (t : TypeId) : Bool := match P.underlying t with
  | some (.int _) => true
  | _ => false
theorem isInt_ok {t : TypeId} (h : isInt P t = true) : ∃ k, P.underlying t = some (.int k) := by
  unfold isInt at h
  split at h
  · rename_i k hk; exact ⟨k, hk⟩
  · cases h
def eqLeaf (P : Program) (t : TypeId) (a b : SV) : Option Bool :=
  match a, b with
  | .d (.int k) x, .d (.int k') y => if k = k' ∧ isInt P t = true then some (eqi x y) else none
  | .d .bool p, .d .bool q => if isBool P t = true then some (eqb p q) else none
  | .d .str s, .d .str q => if isStr P t = true then some (eqs s q) else none
  | _, _ => none
def eqFs (P : Program) (g : TypeId → List SV → List SV → Option Bool) (as bs : List SV) : List Field → Option Bool
  | [] => some true
  | f :: r => if (f.name == "_") = true then none else match szOf P f.type with
    | some n => (g f.type ((as.drop f.offset).take n) ((bs.drop f.offset).take n)).bind fun r1 => (eqFs P g as bs r).map fun r2 => r1 && r2
    | none => none
def isStruct (P : Program) (t : TypeId) : Bool := match P.underlying t with
  | some (.struct _) => true
  | _ => false
def eqT (P : Program) : Nat → TypeId → List SV → List SV → Option Bool
  | 0, _, _, _ => none
  | d + 1, t, as, bs => if isStruct P t = true then (if P.stoodInHeld t = false then eqFs P (eqT P d) as bs (P.fieldsOf t).toList else none)
    else match as, bs with
      | [a], [b] => eqLeaf P t a b
      | _, _ => none
/-- what is known when the test says r -/
def EqOk (P : Program) (d : Nat) (t : TypeId) (us vs : List Value) (r : Bool) : Prop :=
  (∃ dd, P.underlying t = some dd ∧ aggD dd = true ∧ ∀ w, (Op.equalIn d t (.agg us.toArray) (.agg vs.toArray)).run P w = .ok r w) ∨
  (∃ dd u v, P.underlying t = some dd ∧ aggD dd = false ∧ us = [u] ∧ vs = [v] ∧ ∀ w, (Op.equalIn d t u v).run P w = .ok r w)
theorem isStruct_ok {t : TypeId} (h : isStruct P t = true) : P.underlying t = some (.struct (P.fieldsOf t)) := by
  unfold isStruct at h
  split at h
  · rename_i fs hk
    rw [hk]
    unfold Program.fieldsOf
    simp only [hk]
  · cases h
theorem eqLeaf_ok {t : TypeId} {a b : SV} {r : Bool} {u v : Value} {d : Nat} (h : eqLeaf P t a b = some r) (ha : Den pl L w a u) (hb : Den pl L w b v) : EqOk P (d + 1) t [u] [v] r := by
  unfold eqLeaf at h
  split at h
  · split at h
    · rename_i hk
      cases h
      obtain ⟨rfl, hk⟩ := hk
      obtain ⟨k', hk'⟩ := isInt_ok hk
      rw [den_int ha, den_int hb]
      exact .inr ⟨_, _, _, hk', rfl, rfl, rfl, eq_int hk'⟩
    · cases h
  · split at h
    · rename_i hk
      cases h
      rw [den_bool ha, den_bool hb]
      exact .inr ⟨_, _, _, isBool_ok hk, rfl, rfl, rfl, eq_bool (isBool_ok hk)⟩
    · cases h
  · split at h
    · rename_i hk
      cases h
      rw [den_str ha, den_str hb]
      exact .inr ⟨_, _, _, isStr_ok hk, rfl, rfl, rfl, eq_str (isStr_ok hk)⟩
    · cases h
  · cases h
theorem take1 {us : List Value} {o n : Nat} {u : Value} (h : (us.drop o).take n = [u]) : us[o]? = some u := by
  have h1 : ((us.drop o).take n)[0]? = some u := by rw [h]; rfl
  have hn : 0 < n := by
    rcases Nat.eq_zero_or_pos n with h0 | h0
    · subst h0; simp at h
    · exact h0
  rw [List.getElem?_take_of_lt hn, List.getElem?_drop] at h1
  simpa using h1
theorem eqFs_ok {d : Nat} {g : TypeId → List SV → List SV → Option Bool} (hg : ∀ t as bs us vs r, g t as bs = some r → DenL pl L w as us → DenL pl L w bs vs → EqOk P d t us vs r) {as bs : List SV} {us vs : List Value} (ha : DenL pl L w as us) (hb : DenL pl L w bs vs) :
    ∀ {fs : List Field} {r : Bool}, eqFs P g as bs fs = some r → AllEq P d us.toArray vs.toArray (fs.map fun f => (f.name == "_", f.type, f.offset)) r
  | [], r, h => by cases h; exact .nil
  | f :: q, r, h => by
    unfold eqFs at h
    split at h
    · cases h
    · rename_i hn
      split at h
      · rename_i n hs
        obtain ⟨r1, h1, h⟩ := bind_e h
        obtain ⟨r2, h2, rfl⟩ := Option.map_eq_some_iff.1 h
        have ih := eqFs_ok hg ha hb h2
        have hn : (f.name == "_") = false := by simpa using hn
        rw [List.map_cons, hn]
        rcases hg _ _ _ _ _ _ h1 ((ha.drop f.offset).take n) ((hb.drop f.offset).take n) with ⟨dd, e1, e2, e3⟩ | ⟨dd, u, v, e1, e2, e3, e4, e5⟩
        · exact .cons (part_agg e1 e2 hs (by simp [List.extract_eq_take_drop])) (part_agg e1 e2 hs (by simp [List.extract_eq_take_drop])) e3 ih
        · exact .cons (part_leaf e1 e2 (by simpa using take1 e3)) (part_leaf e1 e2 (by simpa using take1 e4)) e5 ih
      · cases h
theorem eqT_ok : ∀ {d : Nat} {t : TypeId} {as bs : List SV} {us vs : List Value} {r : Bool}, eqT P d t as bs = some r → DenL pl L w as us → DenL pl L w bs vs → EqOk P d t us vs r
  | 0, _, _, _, _, _, _, h, _, _ => by cases h
  | d + 1, t, as, bs, us, vs, r, h, ha, hb => by
    unfold eqT at h
    split at h
    · rename_i hs
      split at h
      · rename_i hh
        have h1 := eqFs_ok (d := d) (fun t as bs us vs r h a b => eqT_ok h a b) ha hb h
        exact .inl ⟨_, isStruct_ok hs, rfl, eq_struct (isStruct_ok hs) hh rfl h1⟩
      · cases h
    · split at h
      · obtain ⟨u, us', rfl, h1, h2⟩ := ha
        obtain ⟨v, vs', rfl, h3, h4⟩ := hb
        cases h2
        cases h4
        exact eqLeaf_ok h h1 h3
      · cases h
def aggS : SV → Option (List SV)
  | .agg l => some l
  | .d t x => if t.agg = true then unp t x else none
  | _ => none
theorem aggS_ok {s : SV} {u : Value} {cs : List SV} (hd : Den pl L w s u) (h : aggS s = some cs) : ∃ us : List Value, u = .agg us.toArray ∧ DenL pl L w cs us := by
  unfold aggS at h
  split at h
  · cases h
    obtain ⟨us, h1, _, h2⟩ := hd
    exact ⟨us, h2, h1⟩
  · split at h
    · rename_i t x ht
      obtain ⟨us, h1, h2⟩ := hd
      refine ⟨us, ?_, unp_rel h h1⟩
      rw [h2]
      simp [Rp.val, rp_agg, ht]
    · cases h
  · cases h
def isAggS : SV → Bool
  | .agg _ => true
  | .d t _ => t.agg
  | _ => false
/-- equality of structs -/
def qEq (P : Program) (op : BinOp) (t : TypeId) (a b : SV) (K : SV → List Nat → Option R) : Option R :=
  match aggS a, aggS b with
  | some as, some bs => if P.eqGuardType P.depth t = false ∧ isStruct P t = true then match eqT P 10000 t as bs with
    | some r => match op with
      | .eql => K (.d .bool r) []
      | .neq => K (.d .bool (!r)) []
      | _ => none
    | none => none else none
  | _, _ => none
theorem qEq_ok {op : BinOp} {t : TypeId} {a b : SV} {K : SV → List Nat → Option R} {r : R} (h : qEq P op t a b K = some r) {d : Option Tmp} {ty u : TypeId} {pos : String} {af : Array Edge} {g : Option (Nat × Bool)} {x y : Operand}
    (hx : Den pl L w a (ev l x)) (hy : Den pl L w b (ev l y)) : ∃ s rd, K s rd = some r ∧ Yv P pl L w l ⟨d, .binOp op t x y u, ty, pos, af, g⟩ s rd := by
  unfold qEq at h
  split at h
  · rename_i as bs h1 h2
    split at h
    · rename_i hc
      split at h
      · rename_i r' hr
        obtain ⟨us, e1, e2⟩ := aggS_ok hx h1
        obtain ⟨vs, e3, e4⟩ := aggS_ok hy h2
        have hE : ∀ w, (Op.equalIn 10000 t (.agg us.toArray) (.agg vs.toArray)).run P w = .ok r' w := by
          rcases eqT_ok hr e2 e4 with ⟨_, _, _, h⟩ | ⟨dd, _, _, h1, h2, _⟩
          · exact h
          · rw [isStruct_ok hc.2] at h1; cases h1; cases h2
        split at h
        · exact ⟨_, _, h, Yv.of (den_b _) (fun w' => run_eq_agg e1 e3 hc.1 hE)⟩
        · exact ⟨_, _, h, Yv.of (den_b _) (fun w' => run_ne_agg e1 e3 hc.1 hE)⟩
        · cases h
      · cases h
    · cases h
  · cases h
end
end Ev

end

section
/- One operation; regions. -/
namespace Ev
open Go Go.RowKit Sx

def rowsOf : SV → List Nat
  | .row i => [i]
  | .agg l => l.filterMap fun
    | .row i => some i
    | _ => none
  | _ => []
def frzL : List Nat → St → St
  | [], S => S
  | i :: q, S => match frz S i with
    | some S' => frzL q S'
    | none => frzL q S
def rowsIn (S : St) : List Operand → List Nat
  | [] => []
  | x :: q => (match opv S x with
    | some s => rowsOf s
    | none => []) ++ rowsIn S q
section
variable {R : Type} {B : Nat} {F : Lx} {w0 : World} {wr : Wr} {pl pl' : List Place} {S S' : St} {l l' : List Value} {ls : List (List Value)} {w w' : World} {L L' M : Lx} {P : Program} {d : Option Tmp} {ty : TypeId} {pos : String} {af : Array Edge} {gd : Option (Nat × Bool)}
  {Q : Exit → Act → World → Prop} {KK : List Value → World → Prop} {K : St → SV → Option R} {r : R}
theorem frz_nt {i : Nat} (h : frz S i = some S') : S'.nt = S.nt := by
  unfold frz at h
  split at h
  · cases h; rfl
  · cases h
theorem frzL_ok : ∀ {q : List Nat} {S : St}, Rel B F w0 wr pl S l ls w → Rel B F w0 wr pl (frzL q S) l ls w ∧ (frzL q S).nt = S.nt
  | [], S, h => ⟨h, rfl⟩
  | i :: q, S, h => by
    unfold frzL
    split
    · rename_i S' hf
      obtain ⟨h1, h2⟩ := frzL_ok (q := q) (frz_ok h hf)
      exact ⟨h1, by rw [h2, frz_nt hf]⟩
    · exact frzL_ok h
def isItf (P : Program) (t : TypeId) : Bool := match P.underlying t with
  | some (.interface _) => true
  | some _ => false
  | none => true
/-- the quiet ones, all -/
def qv2 (P : Program) (S : St) (op : Op) (K : SV → List Nat → Option R) : Option R :=
  match op with
  | .build t q => qBuild P S t q.toList K
  | .makeFunc fn a b => match opvs S a.toList, opvs S b.toList with
    | some x, some y => K (.fn fn x y) []
    | _, _ => none
  | .makeInterface t x => if isItf P t = false then (match opv S x with
    | some s => K (.ifc t s) []
    | none => none) else none
  | .binOp op t x y u => match opv S x, opv S y with
    | some a, some b => if isAggS a = true then qEq P op t a b K else qv P S (.binOp op t x y u) K
    | _, _ => none
  | op => qv P S op K
theorem qv2_ok (hf : FrD pl L w S.fr l) (he : EntsD pl L w S.own) {op : Op} {K : SV → List Nat → Option R} {r : R} (h : qv2 P S op K = some r) :
    ∃ s rd, K s rd = some r ∧ Yv P pl L w l ⟨d, op, ty, pos, af, gd⟩ s rd := by
  unfold qv2 at h
  split at h
  · exact qBuild_ok hf h
  · split at h
    · rename_i fn a b _ _ x y h1 h2
      refine ⟨_, _, h, Yv.of (v := .func fn (a.map (ev l)) (b.map (ev l))) ⟨_, _, opvs_den hf h1, opvs_den hf h2, by rw [show a.map (ev l) = (a.toList.map (ev l)).toArray from Array.ext' (by simp), show b.map (ev l) = (b.toList.map (ev l)).toArray from Array.ext' (by simp)]⟩ (fun w' => ?_)⟩
      simp [execOp, Instr.makeFunc]
    · cases h
  · split at h
    · rename_i hi
      split at h
      · rename_i t x _ s hs
        refine ⟨_, _, h, Yv.of (v := .iface t (ev l x)) ⟨_, opv_den hf hs, rfl⟩ (fun w' => ?_)⟩
        unfold isItf at hi
        split at hi
        · cases hi
        · rename_i dd hno hd
          have : (Instr.makeInterface t (ev l x)).run P w' = .ok (.iface t (ev l x)) w' := by
            unfold Instr.makeInterface
            simp only [Sem.run_bind, run_underlying hd, Result.andThen_ok]
            rfl
          simp only [execOp, Sem.run_bind, this, Result.andThen_ok, Sem.run_pure]
        · cases hi
      · cases h
    · cases h
  · split at h
    · rename_i h1 h2
      split at h
      · exact qEq_ok h (opv_den hf h1) (opv_den hf h2)
      · exact qv_ok hf he h
    · cases h
  · exact qv_ok hf he h
/-- one operation -/
def opL (P : Program) (env : Env) (cl : Cl R) (S : St) (op : Op) (K : St → SV → Option R) : Option R :=
  match op with
  | .alloc t => lAlloc P S t K
  | .box t x => match opv S x with
    | some s => lBox S t s K
    | none => none
  | .store t a x => match opv S a with
    | some (.prw _ _ _ _) => match opv (frzL (rowsIn S [x]) S) a, opv (frzL (rowsIn S [x]) S) x with
      | some a', some s => lStore P (frzL (rowsIn S [x]) S) t a' s K
      | _, _ => none
    | some a' => match opv S x with
      | some s => lStore P S t a' s K
      | none => none
    | none => none
  | .makeSlice t a b => match opv S a, opv S b with
    | some x, some y => lMake P S t x y K
    | _, _ => none
  | .buildSlice t n q => lLit P (frzL (rowsIn S (q.toList.map (·.2))) S) t n q.toList K
  | .call ⟨.builtin .append, ⟨[x, y]⟩, ⟨[t, t']⟩⟩ => if t = t' then (match opv S x, opv S y with
    | some s1, some s2 => lAppend P S t s1 s2 K
    | _, _ => none) else none
  | .call ⟨.value x, args, _⟩ => match opv S x with
    | some (.fn (.func f) _ _) => match env f with
      | some _ => lCall P env cl (frzL (rowsIn S args.toList) S) x args.toList K
      | none => lCall P env cl S x args.toList K
    | _ => none
  | op => qv2 P S op (fun s _ => K S s)
theorem opL_ok {env : Env} {cl : Cl R} (henv : EnvOk P env) (hcl : ClOk P cl) (h : Rel B F w0 wr pl S l ls w) {op : Op} (hv : opL P env cl S op K = some r) (hk : Hand B F w0 wr S.nt l ls d K r KK) :
    OW P ⟨d, op, ty, pos, af, gd⟩ l w KK Q := by
  unfold opL at hv
  split at hv
  · exact lAlloc_ok h hv hk
  · split at hv
    · rename_i s hs
      exact lBox_ok h hv (opv_den h.fr hs) hk
    · cases hv
  · split at hv
    · rename_i t a x _ _ _ _ _ _
      obtain ⟨h1, h2⟩ := frzL_ok (q := rowsIn S [x]) h
      split at hv
      · rename_i a' s ha hs
        exact lStore_ok h1 hv (opv_den h1.fr ha) (opv_den h1.fr hs) (by rw [h2]; exact hk)
      · cases hv
    · rename_i a' _ ha
      split at hv
      · rename_i s hs
        exact lStore_ok h hv (opv_den h.fr ha) (opv_den h.fr hs) hk
      · cases hv
    · cases hv
  · split at hv
    · rename_i h1 h2
      exact lMake_ok h hv (opv_den h.fr h1) (opv_den h.fr h2) hk
    · cases hv
  · rename_i t n q
    obtain ⟨h1, h2⟩ := frzL_ok (q := rowsIn S (q.toList.map (·.2))) h
    exact lLit_ok h1 hv (by rw [h2]; exact hk)
  · split at hv
    · rename_i ht
      subst ht
      split at hv
      · rename_i h1 h2
        exact lAppend_ok h hv (opv_den h.fr h1) (opv_den h.fr h2) hk
      · cases hv
    · cases hv
  · split at hv
    · rename_i x args ts _ f _ _ _
      split at hv
      · obtain ⟨h1, h2⟩ := frzL_ok (q := rowsIn S args.toList) h
        exact lCall_ok henv hcl h1 hv (by rw [h2]; exact hk)
      · exact lCall_ok henv hcl h hv hk
    · cases hv
  · obtain ⟨s, rd, h1, v, h2, h3⟩ := qv2_ok h.fr h.ent hv
    exact ow_val (h3 w (Fz.refl _ _) (fun _ _ _ _ => rfl)) (hk pl S s v w h rfl h2 h1)
/-- a slot is set -/
def setd (S : St) (d : Option Tmp) (s : SV) (k : St → Option R) : Option R :=
  match d with
  | none => k S
  | some t => if t < S.nt then k { S with fr := (t, s) :: S.fr } else none
theorem setd_ok (h : Rel B F w0 wr pl S l ls w) {d : Option Tmp} {s : SV} {v : Value} (hd : Den pl (lx pl S.own ++ F) w s v) {k : St → Option R} (hv : setd S d s k = some r) : ∃ S', Rel B F w0 wr pl S' (st l d v) ls w ∧ k S' = some r := by
  unfold setd at hv
  split at hv
  · exact ⟨S, h, hv⟩
  · split at hv
    · rename_i t ht
      exact ⟨_, h.set ht hd, hv⟩
    · cases hv
/-- whether an operation is wanted -/
def grd (ops : List Oper) (S : St) (o : Oper) (run skip : St → Option R) : Option R :=
  match o.guard with
  | none => run S
  | some (j, want) => match (ops[j]?).bind (·.dst) with
    | some t => if t < S.nt then match get S.fr t with
      | some (.d .bool b) => if b = true then (if want = true then run { S with fr := (t, .d .bool true) :: S.fr } else skip { S with fr := (t, .d .bool true) :: S.fr })
        else (if want = true then skip { S with fr := (t, .d .bool false) :: S.fr } else run { S with fr := (t, .d .bool false) :: S.fr })
      | some (.k (.tuple ⟨[]⟩)) => skip S
      | _ => none else none
    | none => none
theorem grd_ok (h : Rel B F w0 wr pl S l ls w) {ops : List Oper} {o : Oper} {run skip : St → Option R} (hv : grd ops S o run skip = some r) :
    ∃ S', Rel B F w0 wr pl S' l ls w ∧ S'.log = S.log ∧ S'.own = S.own ∧ S'.nx = S.nx ∧ ((wtd ops.toArray o l = true ∧ run S' = some r) ∨ (wtd ops.toArray o l = false ∧ skip S' = some r)) := by
  unfold grd at hv
  split at hv
  · rename_i hg
    exact ⟨S, h, rfl, rfl, rfl, .inl ⟨by unfold wtd Region.wanted; rw [hg], hv⟩⟩
  · rename_i j want hg
    split at hv
    · rename_i t ht
      split at hv
      · rename_i hlt
        have hlen := h.nt
        have hat : (mk l).tmps[t]? = some (l.getD t undef) := by
          have : t < l.length := by rw [hlen]; exact hlt
          simp [mk, this]
        have key : ∀ b : Bool, get S.fr t = some (.d .bool b) → Rel B F w0 wr pl { S with fr := (t, .d .bool b) :: S.fr } l ls w ∧ wtd ops.toArray o l = (some b == some want) := fun b hb => by
          have hd := den_bool (h.fr t _ hb)
          constructor
          · have h2 := h.set hlt (h.fr t _ hb)
            have e : l.set t (l.getD t undef) = l := by
              have : t < l.length := by rw [hlen]; exact hlt
              rw [List.getD_eq_getElem?_getD, List.getElem?_eq_getElem this]
              simp
            rw [e] at h2
            exact h2
          · unfold wtd Region.wanted
            rw [hg]
            have : yielded ops.toArray (mk l).tmps j = some b := by
              unfold yielded
              have e1 : (ops.toArray[j]?).bind (·.dst) = some t := by simpa using ht
              rw [e1, Option.bind_some, hat, hd]
            show (yielded ops.toArray (mk l).tmps j == some want) = _
            rw [this]
        split at hv
        · rename_i b hb
          obtain ⟨k1, k2⟩ := key b hb
          split at hv
          · rename_i hb1
            subst hb1
            refine ⟨_, k1, rfl, rfl, rfl, ?_⟩
            split at hv
            · rename_i hw; subst hw; exact .inl ⟨by rw [k2]; rfl, hv⟩
            · rename_i hw
              have hw : want = false := by simpa using hw
              subst hw
              exact .inr ⟨by rw [k2]; rfl, hv⟩
          · rename_i hb1
            have hb1 : b = false := by simpa using hb1
            subst hb1
            refine ⟨_, k1, rfl, rfl, rfl, ?_⟩
            split at hv
            · rename_i hw; subst hw; exact .inr ⟨by rw [k2]; rfl, hv⟩
            · rename_i hw
              have hw : want = false := by simpa using hw
              subst hw
              exact .inl ⟨by rw [k2]; rfl, hv⟩
        · rename_i hu
          refine ⟨S, h, rfl, rfl, rfl, .inr ⟨?_, hv⟩⟩
          have hd : l.getD t undef = .tuple ⟨[]⟩ := h.fr t _ hu
          unfold wtd Region.wanted
          rw [hg]
          have : yielded ops.toArray (mk l).tmps j = none := by
            unfold yielded
            have e1 : (ops.toArray[j]?).bind (·.dst) = some t := by simpa using ht
            rw [e1, Option.bind_some, hat, hd]
          show (yielded ops.toArray (mk l).tmps j == some want) = _
          rw [this]
          rfl
        · cases hv
      · cases hv
    · cases hv
/-- a region in the order of the text -/
def rg (P : Program) (env : Env) (cl : Cl R) (ops : List Oper) : List Oper → St → (St → Option R) → Option R
  | [], S, k => k S
  | o :: q, S, k => grd ops S o (fun S1 => opL P env cl S1 o.op fun S2 s => setd S2 o.dst s fun S3 => rg P env cl ops q S3 k) (fun S1 => setd S1 o.dst (.k undef) fun S3 => rg P env cl ops q S3 k)
theorem rg_ok {env : Env} {cl : Cl R} (henv : EnvOk P env) (hcl : ClOk P cl) {ops : List Oper} : ∀ {q : List Oper} {pl : List Place} {S : St} {l : List Value} {w : World} {k : St → Option R}, Rel B F w0 wr pl S l ls w → rg P env cl ops q S k = some r →
    (∀ pl' S' l' w', Rel B F w0 wr pl' S' l' ls w' → k S' = some r → Q .normal (mk l') w') → WL P ops.toArray Q q l w
  | [], pl, S, l, w, k, h, hv, hk => wl_nil (hk _ _ _ _ h hv)
  | o :: q, pl, S, l, w, k, h, hv, hk => by
    unfold rg at hv
    obtain ⟨S1, h1, _, _, _, h2⟩ := grd_ok h hv
    rcases h2 with ⟨hw, hv⟩ | ⟨hw, hv⟩
    · obtain ⟨d, op, ty, pos, af, gd⟩ := o
      refine wl_op hw (opL_ok henv hcl h1 hv (fun pl' S' s v w' a1 a2 a3 a4 => ?_))
      obtain ⟨S3, b1, b2⟩ := setd_ok a1 a3 a4
      exact rg_ok henv hcl b1 b2 hk
    · obtain ⟨S3, b1, b2⟩ := setd_ok (s := .k undef) (v := undef) h1 rfl hv
      exact wl_not hw (rg_ok henv hcl b1 b2 hk)
end
end Ev

end

section
/- Regions that draw their order. -/
namespace Ev
open Go Go.RowKit Sx

/-! ### what waits for what -/
def msk (acc : List Nat) (s : Nat) (e : Edge) : Nat := if Region.binds .any e = true then s ||| 2 ^ e.on ||| acc.getD e.on 0 else s
def dps : List Oper → List Nat → List Nat
  | [], acc => acc
  | o :: q, acc => dps q (acc ++ [o.after.toList.foldl (msk acc) 0])
section
variable {ops : Array Oper}
def MaskOk (ops : Array Oper) (acc : List Nat) : Prop := ∀ (j m p : Nat), acc[j]? = some m → m.testBit p = true → Dep ops j p
theorem foldl_msk {acc : List Nat} (h : MaskOk ops acc) {j : Nat} {o : Oper} (ho : ops[j]? = some o) : ∀ (es : List Edge) (s : Nat), (∀ e ∈ es, e ∈ o.after.toList) → (∀ p, s.testBit p = true → Dep ops j p) →
    ∀ p, (es.foldl (msk acc) s).testBit p = true → Dep ops j p
  | [], s, _, hs, p, hp => hs p hp
  | e :: es, s, he, hs, p, hp => by
    refine foldl_msk h ho es (msk acc s e) (fun e' h' => he e' (List.mem_cons_of_mem _ h')) (fun q hq => ?_) p hp
    unfold msk at hq
    split at hq
    · rename_i hb
      have hmem : e ∈ o.after := by simpa using he e (List.mem_cons_self ..)
      rw [Nat.testBit_or, Nat.testBit_or, Bool.or_eq_true, Bool.or_eq_true] at hq
      rcases hq with (hq | hq) | hq
      · exact hs q hq
      · rw [Nat.testBit_two_pow] at hq
        exact .one ho hmem hb (of_decide_eq_true hq)
      · rw [List.getD_eq_getElem?_getD] at hq
        cases ha : acc[e.on]? with
        | none => rw [ha] at hq; simp at hq
        | some m =>
          rw [ha] at hq
          exact .step ho hmem hb rfl (h _ _ _ ha hq)
    · exact hs q hq
theorem dps_ok : ∀ (q : List Oper) (pre : List Oper) (acc : List Nat), ops = (pre ++ q).toArray → acc.length = pre.length → MaskOk ops acc → MaskOk ops (dps q acc)
  | [], _, _, _, _, h => h
  | o :: q, pre, acc, ho, hl, h => by
    have hat : ops[pre.length]? = some o := by rw [ho]; simp
    refine dps_ok q (pre ++ [o]) _ (by rw [ho]; simp) (by simp [hl]) (fun j m p hj hp => ?_)
    rcases Nat.lt_or_ge j acc.length with hlt | hge
    · rw [List.getElem?_append_left hlt] at hj
      exact h j m p hj hp
    · rw [List.getElem?_append_right hge] at hj
      have : j = acc.length := by
        rcases Nat.lt_or_ge acc.length j with h1 | h1
        · rw [List.getElem?_eq_none (by simp; omega)] at hj; cases hj
        · omega
      subst this
      rw [Nat.sub_self] at hj
      have hj : some (o.after.toList.foldl (msk acc) 0) = some m := hj
      cases hj
      rw [hl]
      exact foldl_msk h hat _ 0 (fun e he => he) (fun p hp => by simp at hp) p hp
end
abbrev Tl := List (Nat × List Nat × Bool)
def chk (ds : List Nat) (i : Nat) (log : List Nat) (own : List (Nat × Ent)) : Tl → Option Tl
  | [] => some []
  | (p, rd, al) :: q => (chk ds i log own q).bind fun q' =>
    if al = true ∧ rd.all (fun x => !log.contains x && (get own x).isSome) = true then some ((p, rd, true) :: q')
    else if (ds.getD i 0).testBit p = true then some ((p, rd, false) :: q') else none
section
variable {R : Type} {B : Nat} {F : Lx} {w0 : World} {wr : Wr} {pl pl' : List Place} {S S' : St} {l l' : List Value} {ls : List (List Value)} {w w' : World} {L L' M : Lx} {P : Program} {d : Option Tmp} {ty : TypeId} {pos : String} {af : Array Edge} {gd : Option (Nat × Bool)}
  {Q : Exit → Act → World → Prop} {KK : List Value → World → Prop} {K : St → SV → Option R} {r : R}
/-- what one that was taken first asks -/
structure Asks (F : Lx) (pl : List Place) (own : List (Nat × Ent)) (w : World) (rd : List Nat) (Y : World → Prop) : Prop where
  out : ∃ (plp : List Place) (Lp : Lx) (wp : World), (∀ w', Y w' ↔ (Fz Lp wp w' ∧ ∀ i ∈ rd, ∀ k, plb plp i = some k → w'.heap[k]? = wp.heap[k]?)) ∧ Y w ∧ Sub wp (lx pl own ++ F) Lp ∧ (∀ (i : Nat) (p : Place), plp[i]? = some p → pl[i]? = some p)
/-- the list of the run, and the conditions -/
def TOk (F : Lx) (pl : List Place) (own : List (Nat × Ent)) (w : World) : Tl → Tk → Prop
  | [], T => T = []
  | (p, rd, al) :: q, T => ∃ Y r, T = (p, Y) :: r ∧ (al = true → Asks F pl own w rd Y) ∧ TOk F pl own w q r
theorem chk_ok {opl : List Oper} {ds : List Nat} (hds : MaskOk opl.toArray ds) {i : Nat} {pl1 pl2 : List Place} {S1 S2 : St} {l1 l2 : List Value} {ls1 ls2 : List (List Value)} {w1 w2 : World} (h1 : Rel B F w0 wr pl1 S1 l1 ls1 w1) (h2 : Rel B F w0 (here F pl1 S1 w1) pl2 S2 l2 ls2 w2) :
    ∀ {T T' : Tl} {Tk : Tk}, chk ds i S2.log S2.own T = some T' → TOk F pl1 S1.own w1 T Tk → TOk F pl2 S2.own w2 T' Tk ∧ ST opl.toArray Tk i w2
  | [], T', Tk, h, ht => by cases h; cases ht; exact ⟨rfl, fun x hx => by cases hx⟩
  | (p, rd, al) :: q, T', Tk, h, ⟨Y, r, hT, ha, hr⟩ => by
    subst hT
    obtain ⟨q', hq, h⟩ := bind_e h
    obtain ⟨i1, i2⟩ := chk_ok hds h1 h2 hq hr
    have dead : (ds.getD i 0).testBit p = true → Dep opl.toArray i p := fun hb => by
      rw [List.getD_eq_getElem?_getD] at hb
      cases hd : ds[i]? with
      | none => rw [hd] at hb; simp at hb
      | some m => rw [hd] at hb; exact hds i m p hd hb
    split at h
    · rename_i hcond
      cases h
      obtain ⟨plp, Lp, wp, k1, k2, k3, k4⟩ := (ha hcond.1).out
      have k2' := (k1 w1).1 k2
      have hsz := k2'.1.size
      have hf := h2.tn.fz
      have hY : Y w2 := by
        refine (k1 w2).2 ⟨⟨hf.os.trans k2'.1.os, hf.tape.trans k2'.1.tape, hf.output.trans k2'.1.output, Nat.le_trans hsz hf.size, fun k hk hn => ?_⟩, fun x hx k hk => ?_⟩
        · rw [hf.block k (Nat.lt_of_lt_of_le hk hsz) (fun hm => ?_)]
          · exact k2'.1.block k hk hn
          · rcases k3 k hm with h3 | h3
            · exact hn h3
            · omega
        · have hall := List.all_eq_true.1 hcond.2 x hx
          simp only [Bool.and_eq_true, Bool.not_eq_true', Option.isSome_iff_exists] at hall
          obtain ⟨hnl, e, hg⟩ := hall
          have hpl1 : plb pl1 x = some k := plb_ext k4 hk
          have hlt : x < S1.nx := by
            unfold plb at hpl1
            obtain ⟨pp, hp1, _⟩ := Option.bind_eq_some_iff.1 hpl1
            rw [h1.nx]
            exact (List.getElem?_eq_some_iff.1 hp1).1
          rw [h2.tn.keep (x, e) (get_mem hg) hlt (by simpa using hnl) k (plb_ext h2.tn.pls hpl1)]
          exact k2'.2 x hx k hk
      refine ⟨⟨Y, r, rfl, fun _ => ⟨plp, Lp, wp, k1, hY, fun k hk => ?_, fun j p hj => h2.tn.pls j p (k4 j p hj)⟩, i1⟩, fun x hx => ?_⟩
      · rcases h2.tn.sb k hk with h3 | h3
        · exact k3 k h3
        · exact .inr (Nat.le_trans hsz h3)
      · rcases List.mem_cons.1 hx with hx | hx
        · subst hx; exact .inr hY
        · exact i2 x hx
    · split at h
      · rename_i hb
        cases h
        refine ⟨⟨Y, r, rfl, fun h => (by cases h), i1⟩, fun x hx => ?_⟩
        rcases List.mem_cons.1 hx with hx | hx
        · subst hx; exact .inl (dead hb)
        · exact i2 x hx
      · cases h
theorem TOk.same : ∀ {T : Tl} {Tk : Tk} {own own' : List (Nat × Ent)}, TOk F pl own w T Tk → lx pl own' = lx pl own → TOk F pl own' w T Tk
  | [], _, _, _, h, _ => h
  | (p, rd, al) :: q, _, own, own', ⟨Y, r, hT, ha, hr⟩, he => ⟨Y, r, hT, fun hal => by
      obtain ⟨plp, Lp, wp, h1, h2, h3, h4⟩ := (ha hal).out
      exact ⟨plp, Lp, wp, h1, h2, by rw [he]; exact h3, h4⟩, TOk.same hr he⟩
/-- the run of a region in the order of a schedule -/
def rdw (P : Program) (env : Env) (cl : Cl R) (ops : List Oper) (ds : List Nat) : List (Nat × Bool × Oper) → Tl → St → (St → Option R) → Option R
  | [], _, S, k => k S
  | (i, true, o) :: q, T, S, k => grd ops S o (fun S1 => qv2 P S1 o.op fun s rd => setd S1 o.dst s fun S3 => rdw P env cl ops ds q ((i, rd, true) :: T) S3 k)
      (fun S1 => setd S1 o.dst (.k undef) fun S3 => rdw P env cl ops ds q ((i, [], true) :: T) S3 k)
  | (i, false, o) :: q, T, S, k => grd ops S o (fun S1 => opL P env cl { S1 with log := [] } o.op fun S2 s => match chk ds i S2.log S2.own T with
        | some T' => setd { S2 with log := S1.log ++ S2.log } o.dst s fun S3 => rdw P env cl ops ds q T' S3 k
        | none => none)
      (fun S1 => setd S1 o.dst (.k undef) fun S3 => rdw P env cl ops ds q T S3 k)
theorem setd_own {d : Option Tmp} {s : SV} {k : St → Option R} (hv : setd S d s k = some r) : ∃ S', k S' = some r ∧ S'.own = S.own := by
  unfold setd at hv
  split at hv
  · exact ⟨S, hv, rfl⟩
  · split at hv
    · exact ⟨_, hv, rfl⟩
    · cases hv
theorem setd_ok2 (h : Rel B F w0 wr pl S l ls w) {d : Option Tmp} {s : SV} {v : Value} (hd : Den pl (lx pl S.own ++ F) w s v) {k : St → Option R} (hv : setd S d s k = some r) : ∃ S', Rel B F w0 wr pl S' (st l d v) ls w ∧ k S' = some r ∧ S'.own = S.own := by
  unfold setd at hv
  split at hv
  · exact ⟨S, h, hv, rfl⟩
  · split at hv
    · rename_i t ht
      exact ⟨_, h.set ht hd, hv, rfl⟩
    · cases hv
theorem rdw_ok {env : Env} {cl : Cl R} (henv : EnvOk P env) (hcl : ClOk P cl) {ops : List Oper} {ds : List Nat} (hds : MaskOk ops.toArray ds) : ∀ {q : List (Nat × Bool × Oper)} {T : Tl} {Tk : Tk} {pl : List Place} {S : St} {l : List Value} {w : World} {k : St → Option R},
    Rel B F w0 wr pl S l ls w → TOk F pl S.own w T Tk → rdw P env cl ops ds q T S k = some r →
    (∀ pl' S' l' w', Rel B F w0 wr pl' S' l' ls w' → k S' = some r → Q .normal (mk l') w') → WY P ops.toArray Q q Tk l w
  | [], T, Tk, pl, S, l, w, k, h, ht, hv, hk => hk _ _ _ _ h hv
  | (i, true, o) :: q, T, Tk, pl, S, l, w, k, h, ht, hv, hk => by
    unfold rdw at hv
    obtain ⟨S1, h1, _, e2, _, h2⟩ := grd_ok h hv
    have ht1 : TOk F pl S1.own w T Tk := ht.same (by rw [e2])
    rcases h2 with ⟨hw, hv⟩ | ⟨hw, hv⟩
    · obtain ⟨d, op, ty, pos, af, gd⟩ := o
      obtain ⟨s, rd, hv, v, hd, hy⟩ := qv2_ok (d := d) (ty := ty) (pos := pos) (af := af) (gd := gd) h1.fr h1.ent hv
      obtain ⟨S3, b1, b2, b3⟩ := setd_ok2 h1 hd hv
      refine ⟨v, fun w' => Fz (lx pl S1.own ++ F) w w' ∧ ∀ x ∈ rd, ∀ k, plb pl x = some k → w'.heap[k]? = w.heap[k]?, .inl ⟨hw, fun w' hY => by rw [eval_mk]; exact hy w' hY.1 hY.2⟩, ⟨Fz.refl _ _, fun _ _ _ _ => rfl⟩, ?_⟩
      refine rdw_ok (T := (i, rd, true) :: T) henv hcl hds b1 ⟨_, _, rfl, fun _ => ⟨pl, lx pl S1.own ++ F, w, fun w' => Iff.rfl, ⟨Fz.refl _ _, fun _ _ _ _ => rfl⟩, by rw [b3]; exact Sub.refl _ _, fun _ _ h => h⟩, ht1.same (by rw [b3])⟩ b2 hk
    · obtain ⟨S3, b1, b2, b3⟩ := setd_ok2 (s := .k undef) (v := undef) h1 rfl hv
      refine ⟨undef, fun w' => Fz (lx pl S1.own ++ F) w w' ∧ ∀ x ∈ ([] : List Nat), ∀ k, plb pl x = some k → w'.heap[k]? = w.heap[k]?, .inr ⟨hw, rfl⟩, ⟨Fz.refl _ _, fun _ h => by cases h⟩, ?_⟩
      refine rdw_ok (T := (i, [], true) :: T) henv hcl hds b1 ⟨_, _, rfl, fun _ => ⟨pl, lx pl S1.own ++ F, w, fun w' => Iff.rfl, ⟨Fz.refl _ _, fun _ h => by cases h⟩, by rw [b3]; exact Sub.refl _ _, fun _ _ h => h⟩, ht1.same (by rw [b3])⟩ b2 hk
  | (i, false, o) :: q, T, Tk, pl, S, l, w, k, h, ht, hv, hk => by
    unfold rdw at hv
    obtain ⟨S1, h1, _, e2, _, h2⟩ := grd_ok h hv
    have ht1 : TOk F pl S1.own w T Tk := ht.same (by rw [e2])
    rcases h2 with ⟨hw, hv⟩ | ⟨hw, hv⟩
    · obtain ⟨d, op, ty, pos, af, gd⟩ := o
      show if wtd ops.toArray _ l = true then _ else _
      rw [if_pos hw]
      refine opL_ok henv hcl h1.base hv (fun pl' S' s v w' a1 a2 a3 a4 => ?_)
      split at a4
      · rename_i T' hT'
        have hb := h1.back a1
        obtain ⟨t1, t2⟩ := chk_ok hds h1 a1 hT' ht1
        obtain ⟨S3, b1, b2, b3⟩ := setd_ok2 hb a3 a4
        exact ⟨t2, rdw_ok henv hcl hds b1 (t1.same (by rw [b3])) b2 hk⟩
      · cases a4
    · obtain ⟨S3, b1, b2, b3⟩ := setd_ok2 (s := .k undef) (v := undef) h1 rfl hv
      show if wtd ops.toArray _ l = true then _ else _
      rw [if_neg (by rw [hw]; decide)]
      exact rdw_ok henv hcl hds b1 (ht1.same (by rw [b3])) b2 hk
end
end Ev

end

section
/- States in a normal form. -/
namespace Ev
open Go Go.RowKit Sx

mutual
def idS : SV → List Nat
  | .row i => [i]
  | .pb i _ => [i]
  | .prw i _ _ _ => [i]
  | .mp i => [i]
  | .agg l => idL l
  | .tup l => idL l
  | .fn _ a b => idL a ++ idL b
  | .ifc _ v => idS v
  | .k _ => []
  | .d _ _ => []
  | .pe _ _ => []
def idL : List SV → List Nat
  | [] => []
  | s :: q => idS s ++ idL q
end
mutual
def renS (f : Nat → Nat) : SV → SV
  | .row i => .row (f i)
  | .pb i o => .pb (f i) o
  | .prw i a b c => .prw (f i) a b c
  | .mp i => .mp (f i)
  | .agg l => .agg (renL f l)
  | .tup l => .tup (renL f l)
  | .fn g a b => .fn g (renL f a) (renL f b)
  | .ifc t v => .ifc t (renS f v)
  | .k v => .k v
  | .d t x => .d t x
  | .pe t x => .pe t x
def renL (f : Nat → Nat) : List SV → List SV
  | [] => []
  | s :: q => renS f s :: renL f q
end
section
variable {pl pl' : List Place} {L L' : Lx} {w w' : World} {f : Nat → Nat}
mutual
theorem renS_den : ∀ {s : SV} {u : Value}, (∀ i ∈ idS s, pl'[f i]? = pl[i]?) → Den pl L w s u → Den pl' L w (renS f s) u
  | .k v, u, _, h => by simp only [renS]; exact h
  | .d t x, u, _, h => by simp only [renS]; exact h
  | .row j, u, hf, ⟨p, h1, h2⟩ => by simp only [renS]; exact ⟨p, by rw [hf j (by simp [idS])]; exact h1, h2⟩
  | .pb i o, u, hf, ⟨g, n, c, h1, h2⟩ => by simp only [renS]; exact ⟨g, n, c, by rw [hf i (by simp [idS])]; exact h1, h2⟩
  | .prw i j sz o, u, hf, ⟨g, n, c, h1, h2⟩ => by simp only [renS]; exact ⟨g, n, c, by rw [hf i (by simp [idS])]; exact h1, h2⟩
  | .pe t x, u, _, h => by simp only [renS]; exact h
  | .mp i, u, hf, ⟨g, n, c, h1, h2⟩ => by simp only [renS]; exact ⟨g, n, c, by rw [hf i (by simp [idS])]; exact h1, h2⟩
  | .agg l, u, hf, ⟨us, h1, h2⟩ => by simp only [renS]; exact ⟨us, renL_den (fun i hi => hf i (by simp only [idS]; exact hi)) h1, h2⟩
  | .tup l, u, hf, ⟨us, h1, h2⟩ => by simp only [renS]; exact ⟨us, renL_den (fun i hi => hf i (by simp only [idS]; exact hi)) h1, h2⟩
  | .fn g a b, u, hf, ⟨us, vs, h1, h2, h3⟩ => by
    simp only [renS]
    exact ⟨us, vs, renL_den (fun i hi => hf i (by simp only [idS, List.mem_append]; exact .inl hi)) h1, renL_den (fun i hi => hf i (by simp only [idS, List.mem_append]; exact .inr hi)) h2, h3⟩
  | .ifc t v, u, hf, ⟨u', h1, h2⟩ => by simp only [renS]; exact ⟨u', renS_den (fun i hi => hf i (by simp only [idS]; exact hi)) h1, h2⟩
theorem renL_den : ∀ {s : List SV} {us : List Value}, (∀ i ∈ idL s, pl'[f i]? = pl[i]?) → DenL pl L w s us → DenL pl' L w (renL f s) us
  | [], us, _, h => h
  | s :: q, us, hf, ⟨v, vs, h1, h2, h3⟩ => ⟨v, vs, h1, renS_den (fun i hi => hf i (by simp only [idL, List.mem_append]; exact .inl hi)) h2, renL_den (fun i hi => hf i (by simp only [idL, List.mem_append]; exact .inr hi)) h3⟩
end
end
def idE : Ent → List Nat
  | .row _ _ _ => []
  | .box _ cs => idL cs
def renE (f : Nat → Nat) : Ent → Ent
  | .row t e xs => .row t e xs
  | .box T cs => .box T (renL f cs)
def idF : Fr → List Nat
  | [] => []
  | (_, s) :: q => idS s ++ idF q
def keepF (fr : Fr) : List Nat → Fr
  | [] => []
  | t :: q => match get fr t with
    | some s => (t, s) :: keepF fr q
    | none => keepF fr q
/-- what can be come to -/
def reach (own : List (Nat × Ent)) : Nat → List Nat → List Nat → List Nat
  | 0, _, d => d
  | _, [], d => d
  | n + 1, i :: q, d => if d.contains i then reach own n q d else match get own i with
    | some e => reach own n (idE e ++ q) (d ++ [i])
    | none => reach own n q d
def pos : List Nat → Nat → Nat
  | [], _ => 0
  | j :: q, i => if j = i then 0 else pos q i + 1
def nodup : List Nat → Bool
  | [] => true
  | i :: q => !q.contains i && nodup q
def okF (ds : List Nat) : Fr → Fr
  | [] => []
  | (t, s) :: q => if (idS s).all (fun i => ds.contains i) = true then (t, s) :: okF ds q else okF ds q
def renF (f : Nat → Nat) : Fr → Fr
  | [] => []
  | (t, s) :: q => (t, renS f s) :: renF f q
/-- the entries, in order, with new numbers -/
def renO (own : List (Nat × Ent)) (f : Nat → Nat) (all : List Nat) : List Nat → Option (List (Nat × Ent))
  | [] => some []
  | i :: q => match get own i with
    | some e => if (idE e).all (fun j => all.contains j) = true then (renO own f all q).map fun r => (f i, renE f e) :: r else none
    | none => none
/-- what a place where ways meet wants: nil that is to be a row, rows that are to be frozen; the slots that are kept -/
inductive Co where
  | row (t : Nat) (e : TypeId)
  | frz (t : Nat)
structure Hint where
  co : List Co
  keep : List Nat
def setF (t : Nat) (s : SV) (S : St) : St := { S with fr := (t, s) :: S.fr }
def coer (P : Program) : List Co → St → St
  | [], S => S
  | .row t e :: q, S => match get S.fr t, rowTy P e with
    | some (.k (.slice none 0 0)), some ⟨t0, _⟩ => if t < S.nt then coer P q { S with own := (S.nx, .row t0 e []) :: S.own, nx := S.nx + 1, fr := (t, .row S.nx) :: S.fr } else coer P q S
    | _, _ => coer P q S
  | .frz t :: q, S => match get S.fr t with
    | some (.row i) => match frz S i with
      | some S' => coer P q S'
      | none => coer P q S
    | some (.k (.slice none 0 0)) => coer P q S
    | _ => coer P q S
def nrm (P : Program) (h : Hint) (S0 : St) : Option St :=
  match S0.up with
  | [] =>
    let S := coer P h.co S0
    let fr := keepF S.fr h.keep
    let ds := reach S.own 1000 (idF fr) []
    if nodup ds = true then
      match renO S.own (pos ds) ds ds with
      | some own => some { fr := renF (pos ds) (okF ds fr), nt := S.nt, up := [], own := own, nx := ds.length, log := [] }
      | none => none
    else none
  | _ => none
section
variable {B : Nat} {F : Lx} {w0 : World} {wr : Wr} {pl pl' : List Place} {S S' : St} {l l' : List Value} {ls : List (List Value)} {w w' : World} {L L' M : Lx} {P : Program}
theorem coer_ok : ∀ {q : List Co} {pl : List Place} {S : St}, Rel B F w0 wr pl S l ls w → ∃ pl', Rel B F w0 wr pl' (coer P q S) l ls w ∧ (coer P q S).nt = S.nt
  | [], pl, S, h => ⟨pl, h, rfl⟩
  | .row t e :: q, pl, S, h => by
    unfold coer
    split
    · rename_i t0 z hg hr
      split
      · rename_i hlt
        have hS : Stp B (lx pl S.own) (blk (none : Option Addr) :: lx pl S.own) F [] w w := Stp.none h.hL rfl
        have h' := h.push ⟨none, 0, 0⟩ (.row t0 e []) hS ⟨_, pl_last _, Ow.nil _ _ _ _⟩
        have hv : l.getD t undef = .slice none 0 0 := h.fr t _ hg
        have h2 := h'.set (d := t) (s := .row S.nx) (v := .slice none 0 0) hlt ⟨⟨none, 0, 0⟩, by rw [h.nx]; exact pl_last _, rfl⟩
        have e1 : l.set t (.slice none 0 0) = l := by
          have : t < l.length := by rw [h.nt]; exact hlt
          rw [← hv, List.getD_eq_getElem?_getD, List.getElem?_eq_getElem this]
          simp
        rw [e1] at h2
        obtain ⟨pl', a1, a2⟩ := coer_ok (q := q) h2
        exact ⟨pl', a1, a2⟩
      · exact coer_ok h
    · exact coer_ok h
  | .frz t :: q, pl, S, h => by
    unfold coer
    split
    · split
      · rename_i S' hf
        obtain ⟨pl', a1, a2⟩ := coer_ok (q := q) (frz_ok h hf)
        exact ⟨pl', a1, by rw [a2, frz_nt hf]⟩
      · exact coer_ok h
    · exact coer_ok h
    · exact coer_ok h
theorem keepF_get {fr : Fr} : ∀ {q : List Nat} {t : Nat} {s : SV}, get (keepF fr q) t = some s → get fr t = some s
  | t' :: q, t, s, h => by
    unfold keepF at h
    split at h
    · rename_i s' hs
      unfold get at h
      split at h
      · rename_i e; cases h; subst e; exact hs
      · exact keepF_get h
    · exact keepF_get h
theorem okF_mem {ds : List Nat} : ∀ {fr : Fr} {x : Nat × SV}, x ∈ okF ds fr → x ∈ fr ∧ ∀ i ∈ idS x.2, i ∈ ds
  | (t, s) :: q, x, h => by
    unfold okF at h
    split at h
    · rename_i hall
      rcases List.mem_cons.1 h with h | h
      · subst h
        exact ⟨List.mem_cons_self .., fun i hi => by simpa using List.all_eq_true.1 hall i hi⟩
      · obtain ⟨a, b⟩ := okF_mem h
        exact ⟨List.mem_cons_of_mem _ a, b⟩
    · obtain ⟨a, b⟩ := okF_mem h
      exact ⟨List.mem_cons_of_mem _ a, b⟩
theorem keepF_mem {fr : Fr} : ∀ {q : List Nat} {x : Nat × SV}, x ∈ keepF fr q → get fr x.1 = some x.2
  | t :: q, x, h => by
    unfold keepF at h
    split at h
    · rename_i s hs
      rcases List.mem_cons.1 h with h | h
      · subst h; exact hs
      · exact keepF_mem h
    · exact keepF_mem h
theorem renF_get {f : Nat → Nat} : ∀ {fr : Fr} {t : Nat} {s : SV}, get (renF f fr) t = some s → ∃ s', (t, s') ∈ fr ∧ s = renS f s'
  | (j, q) :: fr, t, s, h => by
    unfold renF get at h
    split at h
    · rename_i e; cases h; subst e; exact ⟨q, List.mem_cons_self .., rfl⟩
    · obtain ⟨s', h1, h2⟩ := renF_get h
      exact ⟨s', List.mem_cons_of_mem _ h1, h2⟩
theorem pos_at : ∀ {ds : List Nat} {i : Nat}, i ∈ ds → ds[pos ds i]? = some i
  | j :: q, i, h => by
    unfold pos
    split
    · rename_i e; subst e; rfl
    · rename_i hne
      rcases List.mem_cons.1 h with h | h
      · exact absurd h.symm hne
      · simpa using pos_at h
/-- the places, by the new numbers -/
def npl (pl : List Place) (ds : List Nat) : List Place := ds.map fun i => (pl[i]?).getD ⟨none, 0, 0⟩
theorem npl_at {ds : List Nat} {i : Nat} (hi : i ∈ ds) {p : Place} (hp : pl[i]? = some p) : (npl pl ds)[pos ds i]? = some p := by
  unfold npl
  rw [List.getElem?_map, pos_at hi]
  simp [hp]
theorem renO_ok {own : List (Nat × Ent)} {f : Nat → Nat} {all : List Nat} : ∀ {q : List Nat} {r : List (Nat × Ent)}, renO own f all q = some r →
    (∀ x ∈ r, ∃ i e, i ∈ q ∧ get own i = some e ∧ (∀ j ∈ idE e, j ∈ all) ∧ x = (f i, renE f e)) ∧ r.map (·.1) = q.map f ∧ ∀ i ∈ q, ∃ e, get own i = some e
  | [], r, h => by cases h; exact ⟨by simp, rfl, by simp⟩
  | i :: q, r, h => by
    unfold renO at h
    split at h
    · rename_i e hg
      split at h
      · rename_i hall
        obtain ⟨r', h1, rfl⟩ := Option.map_eq_some_iff.1 h
        obtain ⟨a1, a2, a3⟩ := renO_ok h1
        refine ⟨fun x hx => ?_, by simp [a2], fun j hj => ?_⟩
        · rcases List.mem_cons.1 hx with hx | hx
          · exact ⟨i, e, List.mem_cons_self .., hg, fun j hj => by simpa using List.all_eq_true.1 hall j hj, hx⟩
          · obtain ⟨i', e', b1, b2⟩ := a1 x hx
            exact ⟨i', e', List.mem_cons_of_mem _ b1, b2⟩
        · rcases List.mem_cons.1 hj with hj | hj
          · subst hj; exact ⟨e, hg⟩
          · exact a3 j hj
      · cases h
    · cases h
theorem nodup_ok : ∀ {q : List Nat}, nodup q = true → q.Nodup
  | [], _ => .nil
  | i :: q, h => by
    simp only [nodup, Bool.and_eq_true, Bool.not_eq_true'] at h
    exact List.nodup_cons.2 ⟨by simpa using h.1, nodup_ok h.2⟩
/-- entries with two numbers lie apart -/
theorem LOk.apart2 {own : List (Nat × Ent)} (hL : LOk B (lx pl own) F w) {i j : Nat} {e e' : Ent} (hi : get own i = some e) (hj : get own j = some e') (hne : i ≠ j) {k : Nat} (hk : plb pl i = some k) : plb pl j ≠ some k := fun hk' => by
  obtain ⟨pre, post, h1, _⟩ := get_split hi
  have hx : (j, e') ∈ pre ∨ (j, e') ∈ post := by
    have := get_mem hj
    rw [h1] at this
    rcases List.mem_append.1 this with h | h
    · exact .inl h
    · rcases List.mem_cons.1 h with h | h
      · cases h; exact absurd rfl hne
      · exact .inr h
  rw [h1] at hL
  exact others hL hx k hk' (by simp [hk])
theorem nrm_ok {hi : Hint} {S0 : St} (h : Rel B F w0 wr pl S0 l ls w) (hn : nrm P hi S0 = some S') : ∃ wr' pl', Rel B F w0 wr' pl' S' l ls w := by
  unfold nrm at hn
  split at hn
  · rename_i hup
    obtain ⟨pl1, h1, hnt⟩ := coer_ok (P := P) (q := hi.co) h
    have hls : ls = [] := by have := h.up; rw [hup] at this; exact this
    generalize coer P hi.co S0 = S at hn h1 hnt
    simp only at hn
    generalize hds : reach S.own 1000 (idF (keepF S.fr hi.keep)) [] = ds at hn
    split at hn
    · rename_i hnd
      have hnd := nodup_ok hnd
      split at hn
      · rename_i own hown
        cases hn
        obtain ⟨r1, r2, r3⟩ := renO_ok hown
        have hplace : ∀ i ∈ ds, ∃ p, pl1[i]? = some p := fun i hi => by
          obtain ⟨e, he⟩ := r3 i hi
          have := h1.ent _ (get_mem he)
          cases e with
          | row t e xs => obtain ⟨p, h2, _⟩ := this; exact ⟨p, h2⟩
          | box T cs => obtain ⟨g, n, c, us, h2, _⟩ := this; exact ⟨_, h2⟩
        have hren : ∀ i ∈ ds, (npl pl1 ds)[pos ds i]? = pl1[i]? := fun i hi => by
          obtain ⟨p, hp⟩ := hplace i hi
          rw [hp]
          exact npl_at hi hp
        have hplb : ∀ i ∈ ds, plb (npl pl1 ds) (pos ds i) = plb pl1 i := fun i hi => by unfold plb; rw [hren i hi]
        have hlx : lx (npl pl1 ds) own = ds.map (plb pl1) := by
          have : lx (npl pl1 ds) own = (own.map (·.1)).map (plb (npl pl1 ds)) := by unfold lx; rw [List.map_map]; rfl
          rw [this, r2, List.map_map]
          exact List.map_congr_left fun i hi => hplb i hi
        have hin : ∀ k, some k ∈ ds.map (plb pl1) → some k ∈ lx pl1 S.own := fun k hk => by
          obtain ⟨i, hi, hk⟩ := List.mem_map.1 hk
          obtain ⟨e, he⟩ := r3 i hi
          rw [← hk]
          exact List.mem_map_of_mem (f := fun e : Nat × Ent => plb pl1 e.1) (get_mem he)
        have hL : LOk B (ds.map (plb pl1)) F w := by
          refine ⟨?_, fun k hk => h1.hL.lo k (hin k hk), fun k hk => h1.hL.hi k (hin k hk), h1.hL.base, h1.hL.far⟩
          rw [List.pairwise_map]
          rw [List.pairwise_iff_getElem]
          intro i j hi hj hij k hk hk'
          obtain ⟨e, he⟩ := r3 ds[i] (List.getElem_mem hi)
          obtain ⟨e', he'⟩ := r3 ds[j] (List.getElem_mem hj)
          have hne : ds[i] ≠ ds[j] := fun e => (List.pairwise_iff_getElem.1 hnd) i j hi hj hij e
          exact LOk.apart2 h1.hL he he' hne hk hk'
        have hs : Sub w (ds.map (plb pl1) ++ F) (lx pl1 S.own ++ F) := fun k hk => by
          rcases List.mem_append.1 hk with hk | hk
          · exact .inl (List.mem_append_left _ (hin k hk))
          · exact .inl (List.mem_append_right _ hk)
        have hx : Ext pl1 (lx pl1 S.own ++ F) w pl1 (ds.map (plb pl1) ++ F) w := ⟨fun _ _ h => h, by intro α R cs x h; exact R.grow h hs, by intro α R b o x h; exact h.grow hs⟩
        have hrel : Rel B F w0 ⟨w, lx (npl pl1 ds) own ++ F, ds.length, npl pl1 ds, ids own⟩ (npl pl1 ds) { fr := renF (pos ds) (okF ds (keepF S.fr hi.keep)), nt := S.nt, up := [], own := own, nx := ds.length, log := [] } l [] w := by
          refine ⟨by rw [hlx]; exact hL, h1.hB, by simp [npl], h1.nt, fun x hx' => ?_, fun t s hs' => ?_, rfl, ⟨Fz.refl _ _, Sub.refl _ _, Nat.le_refl _, fun _ _ h => h, fun e he _ => List.mem_map_of_mem (f := fun e : Nat × Ent => e.1) he, fun _ _ _ _ _ _ => rfl⟩⟩
          · obtain ⟨i, e, b1, b2, b3, rfl⟩ := r1 x hx'
            have hE := h1.ent _ (get_mem b2)
            show EntD (npl pl1 ds) (lx (npl pl1 ds) own ++ F) w (pos ds i) (renE (pos ds) e)
            rw [hlx]
            cases e with
            | row t e xs =>
              obtain ⟨p, h2, h3⟩ := hE
              exact ⟨p, npl_at b1 h2, h3.grow hs⟩
            | box T cs =>
              obtain ⟨g, n, c, us, h2, h3, h4, h5⟩ := hE
              exact ⟨g, n, c, us, npl_at b1 h2, h3, renL_den (fun j hj => hren j (b3 j hj)) (h4.ext hx), h5⟩
          · obtain ⟨s', h2, rfl⟩ := renF_get hs'
            obtain ⟨h3, h4⟩ := okF_mem h2
            have h5 := h1.fr t s' (keepF_mem h3)
            show Den (npl pl1 ds) (lx (npl pl1 ds) own ++ F) w _ _
            rw [hlx]
            exact renS_den (fun j hj => hren j (h4 j hj)) (h5.ext hx)
        rw [hls]
        exact ⟨_, _, hrel⟩
      · cases hn
    · cases hn
  · cases hn
end
end Ev

end
