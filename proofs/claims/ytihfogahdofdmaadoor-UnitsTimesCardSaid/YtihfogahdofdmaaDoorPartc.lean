/- Proved in the last of these 10 parts (this is part 3): UnitsTimes: for every argument the card's run of the law answers true. Conditions: those of the given statement, and no others. -/
import Derived.Test.YtihfogahdofdmaaDoorPartb
import Derived.Test.YtihfogahdofdmaaDoorProg
import Derived.Test.YtihfogahdofdmaaDoorParta
import Derived.KernelRfl
set_option linter.unusedVariables false
set_option linter.unusedSimpArgs false
set_option linter.unusedSectionVars false
section
/- The run of code. -/
namespace Ev
open Go Go.RowKit Sx

inductive Ex where
  | n
  | r
  | x (id : Nat)
abbrev Kt (R : Type) := Ex → St → Option R
section
variable {R : Type}
/-- behind the first of two pieces -/
def seqK (P : Program) (h : Option Hint) (g : St → Option R) (k : Kt R) : Kt R := fun e S => match e with
  | .n => match h with
    | some h => (nrm P h S).bind g
    | none => g S
  | .r => k .r S
  | .x i => k (.x i) S
def blockK (id : Nat) (k : Kt R) : Kt R := fun e S => match e with
  | .n => k .n S
  | .r => k .r S
  | .x i => if i = id then k .n S else k (.x i) S
/-- a schedule -/
def quietOp : Op → Bool
  | .move _ | .assign _ | .pick .. | .binOp .. | .unOp .. | .convert .. | .indexAddr .. | .index .. | .fieldAddr .. | .field .. | .load .. | .extract .. | .build .. | .slice .. | .makeFunc .. | .makeInterface .. => true
  | .call ⟨.builtin .len, _, _⟩ => true
  | _ => false
def sched (ops : Array Oper) : Nat → Array Bool → List (Nat × Bool)
  | 0, _ => []
  | n + 1, listed =>
    let rs := Region.ready .any ops listed
    match rs.find? (fun i => ((ops[i]?).map fun o => quietOp o.op).getD false && Region.free .any ops listed i) with
    | some i => (i, true) :: sched ops n (listed.setIfInBounds i true)
    | none => match rs with
      | i :: _ => (i, false) :: sched ops n (listed.setIfInBounds i true)
      | [] => []
def sch (ops : List Oper) : List (Nat × Bool) := sched ops.toArray ops.length (Array.replicate ops.length false)
def regOk (P : Program) (ops : List Oper) : Bool :=
  P.follows .mixedOrders && (Region.noSelect ops.toArray && schedOk ops.toArray (sch ops) (Array.replicate ops.toArray.size false) && decide ((sch ops).length ≤ ops.toArray.size))
def regn (P : Program) (env : Env) (cl : Cl R) (ops : List Oper) (draw : Bool) (S : St) (k : St → Option R) : Option R :=
  if draw = true then (if regOk P ops = true then rdw P env cl ops (dps ops []) (permute ops (sch ops)) [] S k else none) else rg P env cl ops ops S k
/-- the run of code: path, code, state, what follows -/
def ev (P : Program) (env : Env) (cl : Cl R) (fuel : Nat) (hs : Nat → Option Hint) : Nat → Code → St → Kt R → Option R
  | _, .skip, S, k => k .n S
  | _, .label _, S, k => k .n S
  | _, .ret, S, k => k .r S
  | _, .exit id, S, k => k (.x id) S
  | p, .seq x y, S, k => ev P env cl fuel hs (2 * p) x S (seqK P (hs p) (fun S' => ev P env cl fuel hs (2 * p + 1) y S' k) k)
  | p, .block id c, S, k => ev P env cl fuel hs (2 * p) c S (blockK id k)
  | p, .cond c x y, S, k => match c with
    | .tmp t => if t < S.nt then match get S.fr t with
      | some (.d .bool b) => if b = true then ev P env cl fuel hs (2 * p) x { S with fr := (t, .d .bool true) :: S.fr } k else ev P env cl fuel hs (2 * p + 1) y { S with fr := (t, .d .bool false) :: S.fr } k
      | _ => none else none
    | .const (.bool b) => if b = true then ev P env cl fuel hs (2 * p) x S k else ev P env cl fuel hs (2 * p + 1) y S k
    | _ => none
  | _, .region _ ⟨ops⟩ draw, S, k => regn P env cl ops draw S (k .n)
  | p, .loop c, S, k => match hs p with
    | some h => (nrm P h S).bind fun S0 => loopF (fun self S => ev P env cl fuel hs (2 * p) c S (seqK P (hs p) self k)) fuel S0
    | none => loopF (fun self S => ev P env cl fuel hs (2 * p) c S (seqK P (hs p) self k)) fuel S
  | _, .rangeFunc _ _ _ _, _, _ => none
  | _, .scope _, _, _ => none
  | _, .goto _, _, _ => none
  | _, .refuse _, _, _ => none
end
def exOf : Ex → Exit
  | .n => .normal
  | .r => .ret
  | .x i => .exit i
section
variable {R : Type} {B : Nat} {F : Lx} {w0 : World} {P : Program} {env : Env} {cl : Cl R} {fuel : Nat} {hs : Nat → Option Hint} {r : R} {ls : List (List Value)}
/-- what follows is sound -/
def KOk (B : Nat) (F : Lx) (w0 : World) (ls : List (List Value)) (wr : Wr) (Hn : Prop) (k : Kt R) (r : R) (Q : Exit → Act → World → Prop) : Prop :=
  ∀ e wr' pl S l w, Rel B F w0 wr' pl S l ls w → (Hn → wr' = wr) → k e S = some r → Q (exOf e) (mk l) w
theorem regn_ok (henv : EnvOk P env) (hcl : ClOk P cl) {ops : List Oper} {draw : Bool} {id : Nat} {wr : Wr} {pl : List Place} {S : St} {l : List Value} {w : World} {k : St → Option R} {Q : Exit → Act → World → Prop} (hQ : PF Q)
    (h : Rel B F w0 wr pl S l ls w) (hv : regn P env cl ops draw S k = some r)
    (hk : ∀ pl' S' l' w', Rel B F w0 wr pl' S' l' ls w' → k S' = some r → Q .normal (mk l') w') : CW P (.region id ⟨ops⟩ draw) Q l w := by
  unfold regn at hv
  split at hv
  · rename_i hd
    subst hd
    split at hv
    · rename_i hr
      simp only [regOk, Bool.and_eq_true] at hr
      have hB : (Region.noSelect ops.toArray && schedOk ops.toArray (sch ops) (Array.replicate ops.toArray.size false) && decide ((sch ops).length ≤ ops.toArray.size)) = true := by
        simp only [Bool.and_eq_true]
        exact ⟨hr.2.1, hr.2.2⟩
      refine cw_region_draw (sch ops) hr.1 hB hQ ?_
      exact rdw_ok (T := []) henv hcl (dps_ok ops [] [] (by simp) rfl (fun j m p hj => by simp at hj)) (h.call (Fz.drew _ _)) rfl hv hk
    · cases hv
  · rename_i hd
    have hd : draw = false := by simpa using hd
    subst hd
    exact cw_region (rg_ok henv hcl h hv hk)
theorem ev_ok (henv : EnvOk P env) (hcl : ClOk P cl) {Hn : Prop} (hHn : Hn → ∀ p, hs p = none) : ∀ (c : Code) (p : Nat) (wr : Wr) (pl : List Place) (S : St) (l : List Value) (w : World) (k : Kt R) (Q : Exit → Act → World → Prop), PF Q →
    Rel B F w0 wr pl S l ls w → ev P env cl fuel hs p c S k = some r → KOk B F w0 ls wr Hn k r Q → CW P c Q l w
  | .skip, p, wr, pl, S, l, w, k, Q, hQ, h, hv, hk => cw_skip (hk .n wr pl S l w h (fun _ => rfl) (by simpa [ev] using hv))
  | .label _, p, wr, pl, S, l, w, k, Q, hQ, h, hv, hk => cw_label (hk .n wr pl S l w h (fun _ => rfl) (by simpa [ev] using hv))
  | .ret, p, wr, pl, S, l, w, k, Q, hQ, h, hv, hk => cw_ret (hk .r wr pl S l w h (fun _ => rfl) (by simpa [ev] using hv))
  | .exit id, p, wr, pl, S, l, w, k, Q, hQ, h, hv, hk => cw_exit (hk (.x id) wr pl S l w h (fun _ => rfl) (by simpa [ev] using hv))
  | .seq x y, p, wr, pl, S, l, w, k, Q, hQ, h, hv, hk => by
    rw [ev] at hv
    refine cw_seq (ev_ok henv hcl hHn x (2 * p) wr pl S l w _ _ hQ.then h hv (fun e wr' pl' S' l' w' h' hw hv' => ?_))
    cases e with
    | n =>
      unfold seqK at hv'
      simp only at hv'
      refine then_n ?_
      split at hv'
      · rename_i hn hpn
        obtain ⟨S1, h1, hv'⟩ := bind_e hv'
        obtain ⟨wr2, pl2, h2⟩ := nrm_ok h' h1
        exact ev_ok henv hcl hHn y (2 * p + 1) wr2 pl2 S1 l' w' k Q hQ h2 hv' (fun e wr3 pl3 S3 l3 w3 a1 a2 a3 => hk e wr3 pl3 S3 l3 w3 a1 (fun hn => by have := hHn hn p; rw [hpn] at this; cases this) a3)
      · exact ev_ok henv hcl hHn y (2 * p + 1) wr' pl' S' l' w' k Q hQ h' hv' (fun e wr3 pl3 S3 l3 w3 a1 a2 a3 => hk e wr3 pl3 S3 l3 w3 a1 (fun hn => (a2 hn).trans (hw hn)) a3)
    | r => exact then_ret (hk .r wr' pl' S' l' w' h' hw hv')
    | x i => exact then_exit (hk (.x i) wr' pl' S' l' w' h' hw hv')
  | .block id c, p, wr, pl, S, l, w, k, Q, hQ, h, hv, hk => by
    rw [ev] at hv
    refine cw_block (ev_ok henv hcl hHn c (2 * p) wr pl S l w _ _ hQ.inBlock h hv (fun e wr' pl' S' l' w' h' hw hv' => ?_))
    cases e with
    | n => exact inBlock_n (hk .n wr' pl' S' l' w' h' hw hv')
    | r => exact inBlock_ret (hk .r wr' pl' S' l' w' h' hw hv')
    | x i =>
      unfold blockK at hv'
      simp only at hv'
      split at hv'
      · rename_i hi
        subst hi
        exact inBlock_same (hk .n wr' pl' S' l' w' h' hw hv')
      · rename_i hi
        exact inBlock_other (by simpa using hi) (hk (.x i) wr' pl' S' l' w' h' hw hv')
  | .cond c x y, p, wr, pl, S, l, w, k, Q, hQ, h, hv, hk => by
    unfold ev at hv
    split at hv
    · rename_i t
      split at hv
      · rename_i hlt
        split at hv
        · rename_i b hb
          have hd := den_bool (h.fr t _ hb)
          have hs2 : ∀ b', b' = b → Rel B F w0 wr pl { S with fr := (t, .d .bool b') :: S.fr } l ls w := fun b' e => by
            subst e
            have h2 := h.set hlt (h.fr t _ hb)
            have e : l.set t (l.getD t undef) = l := by
              have : t < l.length := by rw [h.nt]; exact hlt
              rw [List.getD_eq_getElem?_getD, List.getElem?_eq_getElem this]
              simp
            rw [e] at h2
            exact h2
          refine cw_cond (t := b) hd (fun hb1 => ?_) (fun hb1 => ?_)
          · rw [if_pos hb1] at hv
            exact ev_ok henv hcl hHn x (2 * p) wr pl _ l w k Q hQ (hs2 true hb1.symm) hv hk
          · rw [if_neg (by rw [hb1]; decide)] at hv
            exact ev_ok henv hcl hHn y (2 * p + 1) wr pl _ l w k Q hQ (hs2 false hb1.symm) hv hk
        · cases hv
      · cases hv
    · rename_i b
      refine cw_cond (t := b) rfl (fun hb1 => ?_) (fun hb1 => ?_)
      · rw [if_pos hb1] at hv
        exact ev_ok henv hcl hHn x (2 * p) wr pl _ l w k Q hQ h hv hk
      · rw [if_neg (by rw [hb1]; decide)] at hv
        exact ev_ok henv hcl hHn y (2 * p + 1) wr pl _ l w k Q hQ h hv hk
    · cases hv
  | .region id ⟨ops⟩ draw, p, wr, pl, S, l, w, k, Q, hQ, h, hv, hk => by
    rw [ev] at hv
    exact regn_ok henv hcl hQ h hv (fun pl' S' l' w' a1 a2 => hk .n wr pl' S' l' w' a1 (fun _ => rfl) a2)
  | .loop c, p, wr, pl, S, l, w, k, Q, hQ, h, hv, hk => by
    have body : ∀ (self : St → Option R) (s : St) (l : List Value) (w : World), (∃ wr' pl', Rel B F w0 wr' pl' s l ls w ∧ (Hn → wr' = wr)) → ev P env cl fuel hs (2 * p) c s (seqK P (hs p) self k) = some r →
        CW P c (Exit.then (fun a w => ∃ l', a = mk l' ∧ ∃ s', (∃ wr' pl', Rel B F w0 wr' pl' s' l' ls w ∧ (Hn → wr' = wr)) ∧ self s' = some r) Q) l w := by
      rintro self s l w ⟨wr1, pl1, h1, hw1⟩ hv
      refine ev_ok henv hcl hHn c (2 * p) wr1 pl1 s l w _ _ hQ.then h1 hv (fun e wr' pl' S' l' w' h' hw hv' => ?_)
      cases e with
      | n =>
        unfold seqK at hv'
        simp only at hv'
        show ∃ l'', mk l' = mk l'' ∧ _
        split at hv'
        · rename_i hn hpn
          obtain ⟨S1, h1, hv'⟩ := bind_e hv'
          obtain ⟨wr2, pl2, h2⟩ := nrm_ok h' h1
          exact ⟨l', rfl, S1, ⟨wr2, pl2, h2, fun hn => by have := hHn hn p; rw [hpn] at this; cases this⟩, hv'⟩
        · exact ⟨l', rfl, S', ⟨wr', pl', h', fun hn => (hw hn).trans (hw1 hn)⟩, hv'⟩
      | r => exact then_ret (hk .r wr' pl' S' l' w' h' (fun hn => (hw hn).trans (hw1 hn)) hv')
      | x i => exact then_exit (hk (.x i) wr' pl' S' l' w' h' (fun hn => (hw hn).trans (hw1 hn)) hv')
    rw [ev] at hv
    split at hv
    · rename_i hn hpn
      obtain ⟨S1, h1, hv⟩ := bind_e hv
      obtain ⟨wr2, pl2, h2⟩ := nrm_ok h h1
      exact cw_loop _ r (fun s l w => ∃ wr' pl', Rel B F w0 wr' pl' s l ls w ∧ (Hn → wr' = wr)) body ⟨wr2, pl2, h2, fun hn => by have := hHn hn p; rw [hpn] at this; cases this⟩ hv
    · exact cw_loop _ r (fun s l w => ∃ wr' pl', Rel B F w0 wr' pl' s l ls w ∧ (Hn → wr' = wr)) body ⟨wr, pl, h, fun _ => rfl⟩ hv
  | .rangeFunc _ _ _ _, p, wr, pl, S, l, w, k, Q, hQ, h, hv, hk => by rw [ev] at hv; cases hv
  | .scope _, p, wr, pl, S, l, w, k, Q, hQ, h, hv, hk => by rw [ev] at hv; cases hv
  | .goto _, p, wr, pl, S, l, w, k, Q, hQ, h, hv, hk => by rw [ev] at hv; cases hv
  | .refuse _, p, wr, pl, S, l, w, k, Q, hQ, h, hv, hk => by rw [ev] at hv; cases hv
end
end Ev

end

section
/- Functions: run in place, and as contracts. -/
namespace Ev
open Go Go.RowKit Sx

section
variable {R : Type}
def parF : Nat → List SV → Fr
  | _, [] => []
  | n, s :: q => (n, s) :: parF (n + 1) q
/-- a result variable -/
def resS (S : St) : ResultVar → (P : Program) → Option SV
  | .tmp t, _ => if t < S.nt then get S.fr t else none
  | .cell a t, P => match get S.fr a with
    | some (.pb i o) => match get S.own i, tyc P t with
      | some (.box _ cs), some fy => cut? fy o cs
      | _, _ => none
    | _ => none
def resL (P : Program) (S : St) : List ResultVar → Option (List SV)
  | [] => some []
  | v :: q => (resS S v P).bind fun s => (resL P S q).map fun r => s :: r
/-- back in the caller's frame -/
def retK (P : Program) (fn : Func) (K : St → SV → Option R) : Kt R := fun e S => match e with
  | .x _ => none
  | _ => match S.up with
    | (n, fr) :: up => (resL P S fn.results.toList).bind fun ss => K { S with fr := fr, nt := n, up := up } (retS ss)
    | [] => none
def evC (P : Program) (env : Env) (fuel : Nat) : Nat → Cl R
  | 0 => fun _ _ _ _ => none
  | d + 1 => fun f ss S K => match P.funcs[f]? with
    | some fn => match fn.body with
      | some c => if ss.length ≤ fn.ntmps ∧ fn.results.size ≤ 3 then ev P env (evC P env fuel d) fuel (fun _ => none) 1 c { S with fr := parF 0 ss, nt := fn.ntmps, up := (S.nt, S.fr) :: S.up } (retK P fn K) else none
      | none => none
    | none => none
end
section
variable {R : Type} {B : Nat} {F : Lx} {w0 : World} {wr : Wr} {pl pl' : List Place} {S S' : St} {l l' : List Value} {ls : List (List Value)} {w w' : World} {L L' M : Lx} {P : Program} {env : Env} {fuel : Nat} {r : R}
theorem parF_den {pre : List Value} : ∀ {ss : List SV} {vs : List Value} {post : List Value}, DenL pl L w ss vs → FrD pl L w (parF pre.length ss) (pre ++ vs ++ post) := by
  intro ss
  induction ss generalizing pre with
  | nil => intro vs post _ t s h; cases h
  | cons a q ih =>
    rintro vs post ⟨v, us, rfl, h2, h3⟩ t s h
    unfold parF get at h
    split at h
    · rename_i e
      cases h
      subst e
      have : (pre ++ v :: us ++ post).getD pre.length undef = v := by simp [List.getD_eq_getElem?_getD]
      rw [this]
      exact h2
    · have := ih (pre := pre ++ [v]) (post := post) h3 t s (by rw [List.length_append]; exact h)
      simpa using this
theorem resS_ok (h : Rel B F w0 wr pl S l ls w) {v : ResultVar} {s : SV} (hs : resS S v P = some s) : ∃ u, resv P l w v u ∧ Den pl (lx pl S.own ++ F) w s u := by
  cases v with
  | tmp t =>
    have hs : (if t < S.nt then get S.fr t else none) = some s := hs
    split at hs
    · exact ⟨_, resv_tmp rfl, h.fr t s hs⟩
    · cases hs
  | cell a t =>
    unfold resS at hs
    simp only at hs
    split at hs
    · rename_i i o hg
      split at hs
      · rename_i T cs fy hb hy
        obtain ⟨g, n, c, h1, h2⟩ := h.fr a _ hg
        obtain ⟨g', n', c', us, h3, h4, h5, h6⟩ := h.ent _ (get_mem hb)
        rw [h1] at h3
        cases h3
        obtain ⟨h7, h8⟩ := cut?_ok hs h5 h6
        refine ⟨_, resv_cell h2 ?_, h8⟩
        have hty := tyc_ok hy
        have := load_cells (P := P) (w := w) (b := g) (o := o) (cs := (us.drop o).take fy.size) hty (by rw [rp_size, List.length_take, List.length_drop]; omega) (fun j v hj => by
          refine h4.cell ?_
          have hlt := (List.getElem?_eq_some_iff.1 hj).1
          rw [List.length_take] at hlt
          rw [List.getElem?_take_of_lt (by omega), List.getElem?_drop] at hj
          exact hj)
        rw [this]
        simp only [Rp.val, rp_agg]
      · cases hs
    · cases hs
def resvL (P : Program) (l : List Value) (w : World) : List ResultVar → List Value → Prop
  | [], us => us = []
  | v :: q, us => ∃ u r, us = u :: r ∧ resv P l w v u ∧ resvL P l w q r
theorem resL_ok (h : Rel B F w0 wr pl S l ls w) : ∀ {q : List ResultVar} {ss : List SV}, resL P S q = some ss → ∃ us, resvL P l w q us ∧ DenL pl (lx pl S.own ++ F) w ss us
  | [], ss, hs => by cases hs; exact ⟨[], rfl, rfl⟩
  | v :: q, ss, hs => by
    obtain ⟨s, h1, hs⟩ := bind_e hs
    obtain ⟨r, h2, rfl⟩ := Option.map_eq_some_iff.1 hs
    obtain ⟨u, h3, h4⟩ := resS_ok h h1
    obtain ⟨us, h5, h6⟩ := resL_ok h h2
    exact ⟨u :: us, ⟨u, us, rfl, h3, h5⟩, ⟨u, us, rfl, h4, h6⟩⟩
theorem ret_post {fn : Func} {Rr : Ending → World → Prop} {us : List Value} (hn : fn.results.size ≤ 3) (hr : resvL P l w fn.results.toList us) (h : Rr (.returned (retV us)) w) : bodyPost P fn Rr .ret (mk l) w := by
  have hsz : fn.results.size = fn.results.toList.length := by simp
  match hq : fn.results.toList, hr with
  | [], hr =>
    cases hr
    exact ret0 (by rw [← Array.toArray_toList (xs := fn.results), hq]) h
  | [a], ⟨u, q, h1, h2, h3⟩ =>
    cases h3
    subst h1
    exact ret1 (by rw [← Array.toArray_toList (xs := fn.results), hq]) h2 h
  | [a, b], ⟨u, q, h1, h2, u', q', h1', h2', h3⟩ =>
    cases h3
    subst h1 h1'
    exact ret2 (by rw [← Array.toArray_toList (xs := fn.results), hq]) h2 h2' h
  | [a, b, c], ⟨u, q, h1, h2, u', q', h1', h2', u'', q'', h1'', h2'', h3⟩ =>
    cases h3
    subst h1 h1' h1''
    exact ret3 (by rw [← Array.toArray_toList (xs := fn.results), hq]) h2 h2' h2'' h
  | a :: b :: c :: d :: q, _ => rw [hq] at hsz; simp at hsz; omega
theorem body_normal {fn : Func} {Rr : Ending → World → Prop} {a : Act} (h : bodyPost P fn Rr .ret a w) : ∀ e : Ex, (∀ i, e ≠ .x i) → bodyPost P fn Rr (exOf e) a w := fun e he => by
  cases e with
  | n => exact h
  | r => exact h
  | x i => exact absurd rfl (he i)
theorem evC_ok (henv : EnvOk P env) : ∀ d, ClOk P (evC (R := R) P env fuel d)
  | 0 => by
    intro B F w0 wr pl S l ls w f ss vs K r KV _ _ hv _
    cases hv
  | d + 1 => by
    intro B F w0 wr pl S l ls w f ss vs K r KV h hd hv hk
    unfold evC at hv
    split at hv
    · rename_i fn hf
      split at hv
      · rename_i c hb
        split at hv
        · rename_i hcond
          have hlen := hd.len
          have hfr := parF_den (pre := []) (post := List.replicate (fn.ntmps - vs.length) undef) hd
          simp only [List.length_nil, List.nil_append] at hfr
          have hR : Rel B F w0 wr pl { S with fr := parF 0 ss, nt := fn.ntmps, up := (S.nt, S.fr) :: S.up } (vs ++ List.replicate (fn.ntmps - vs.length) undef) (l :: ls) w := by
            refine ⟨h.hL, h.hB, h.nx, ?_, h.ent, hfr, ⟨l, ls, rfl, h.nt, h.fr, h.up⟩, h.tn⟩
            rw [List.length_append, List.length_replicate]
            have := hcond.1
            show _ = fn.ntmps
            omega
          refine enter hf hb rfl rfl ?_
          refine ev_ok henv (evC_ok henv d) (Hn := True) (fun _ _ => rfl) c 1 wr pl _ _ w _ _ (PF.body (fun c w h => by obtain ⟨v, e, _⟩ := h; cases e)) hR hv (fun e wr' pl' S' l' w' h' hw hv' => ?_)
          obtain rfl := hw trivial
          have key : (∀ i, e ≠ .x i) → (match S'.up with
              | (n, fr) :: up => (resL P S' fn.results.toList).bind fun ss => K { S' with fr := fr, nt := n, up := up } (retS ss)
              | [] => none) = some r → bodyPost P fn (fun e w' => ∃ v, e = .returned v ∧ KV v w') (exOf e) (mk l') w' := fun he hv' => by
            split at hv'
            · rename_i n fr up hup
              obtain ⟨ss', h1, hv'⟩ := bind_e hv'
              obtain ⟨us, h2, h3⟩ := resL_ok h' h1
              have hu := h'.up
              rw [hup] at hu
              obtain ⟨l0, q0, e1, e2, e3, e4⟩ := hu
              cases e1
              refine body_normal (ret_post hcond.2 h2 ⟨_, rfl, ?_⟩) e he
              refine hk pl' { S' with fr := fr, nt := n, up := up } (retS ss') (retV us) w' ⟨h'.hL, h'.hB, h'.nx, e2, h'.ent, e3, e4, h'.tn⟩ ?_ (retS_den h3) hv'
              show n = S.nt
              rw [← h.nt]
              exact e2.symm
            · cases hv'
          cases e with
          | n => exact key (fun _ e => by cases e) hv'
          | r => exact key (fun _ e => by cases e) hv'
          | x i => cases hv'
        · cases hv
      · cases hv
    · cases hv
/-! ### contracts out of runs -/
/-- the results, as data; own rows by their numbers -/
def outR (S : St) : (rs : List Rt) → List SV → Option (Rs rs × List (Option Nat))
  | [], [] => some ((), [])
  | .d t :: r, s :: q => (toD t s).bind fun x => (outR S r q).map fun y => ((x, y.1), y.2)
  | .o e t :: r, s :: q => match s with
    | .row i => match get S.own i with
      | some (.row t' e' xs) => if e' = e then (castTy (.sl t') (.sl t) xs).bind fun x => (outR S r q).map fun y => ((x, y.1), some i :: y.2) else none
      | _ => none
    | .k (.slice none 0 0) => (outR S r q).map fun y => (([], y.1), none :: y.2)
    | _ => none
  | _, _ => none
/-- the rows that go out for good -/
def outZ : List Rt → List SV → List Nat
  | .d _ :: r, s :: q => rowsOf s ++ outZ r q
  | .o _ _ :: r, _ :: q => outZ r q
  | _, _ => []
def topK (P : Program) (fn : Func) (rs : List Rt) : Kt (Rs rs) := fun e S => match e with
  | .x _ => none
  | _ => (resL P S fn.results.toList).bind fun ss => (resL P (frzL (outZ rs ss) S) fn.results.toList).bind fun ss' => (outR (frzL (outZ rs ss) S) rs ss').bind fun y =>
    if nodup (y.2.filterMap id) = true then some y.1 else none
/-- arguments -/
def asS : (ps : List Ty) → As ps → List SV
  | [], _ => []
  | a :: r, x => .d a x.1 :: asS r x.2
/-- a function, run by itself -/
def evT (P : Program) (env : Env) (d fuel : Nat) (hs : Nat → Option Hint) (f : FuncId) (ps : List Ty) (rs : List Rt) (x : As ps) : Option (Rs rs) :=
  match P.funcs[f]? with
  | some fn => match fn.body with
    | some c => if ps.length ≤ fn.ntmps ∧ fn.results.size ≤ 3 then ev P env (evC P env fuel d) fuel hs 1 c { fr := parF 0 (asS ps x), nt := fn.ntmps, up := [], own := [], nx := 0, log := [] } (topK P fn rs) else none
    | none => none
  | none => none
theorem asS_den : ∀ {ps : List Ty} {x : As ps} {vs : List Value}, AsD L w ps x vs → DenL pl L w (asS ps x) vs
  | [], x, vs, h => h
  | a :: r, x, vs, ⟨cs, q, h1, h2, h3⟩ => ⟨_, q, h1, ⟨cs, h2, rfl⟩, asS_den h3⟩
theorem asS_len : ∀ {ps : List Ty} {x : As ps}, (asS ps x).length = ps.length
  | [], _ => rfl
  | a :: r, x => by simp [asS, asS_len]
/-- the blocks of the rows that go out -/
def outL (pl : List Place) (is : List (Option Nat)) : Lx := is.map fun i => i.bind (plb pl)
theorem outR_ok {S : St} (he : EntsD pl L w S.own) : ∀ {rs : List Rt} {ss : List SV} {us : List Value} {y : Rs rs × List (Option Nat)}, outR S rs ss = some y → DenL pl L w ss us →
    RsD L w rs y.1 us (outL pl y.2) ∧ ∀ i, some i ∈ y.2 → ∃ e, get S.own i = some e
  | [], [], us, y, h, hd => by cases h; cases hd; exact ⟨⟨rfl, rfl⟩, by simp⟩
  | .d t :: r, s :: q, us, y, h, hd => by
    obtain ⟨x, h1, h⟩ := bind_e h
    obtain ⟨z, h2, rfl⟩ := Option.map_eq_some_iff.1 h
    obtain ⟨v, vs, rfl, h3, h4⟩ := hd
    obtain ⟨cs, h5, rfl⟩ := toD_rel h1 h3
    obtain ⟨h6, h7⟩ := outR_ok he h2 h4
    exact ⟨⟨cs, vs, rfl, h5, h6⟩, h7⟩
  | .o e t :: r, s :: q, us, y, h, hd => by
    obtain ⟨v, vs, rfl, h3, h4⟩ := hd
    unfold outR at h
    split at h
    · rename_i i
      split at h
      · rename_i t' e' xs hg
        split at h
        · rename_i hee
          subst hee
          obtain ⟨x, h1, h⟩ := bind_e h
          obtain ⟨z, h2, rfl⟩ := Option.map_eq_some_iff.1 h
          obtain ⟨hc, h1⟩ := castTy_some h1
          cases hc
          subst h1
          obtain ⟨p, h5, rfl⟩ := h3
          obtain ⟨p', h6, h7⟩ := he.get hg
          rw [h5] at h6
          cases h6
          obtain ⟨h8, h9⟩ := outR_ok he h2 h4
          refine ⟨⟨p.a, p.n, p.c, vs, outL pl z.2, rfl, ?_, h7, h8⟩, fun j hj => ?_⟩
          · unfold outL; rw [List.map_cons, Option.bind_some, plb_of h5]
          · rcases List.mem_cons.1 hj with hj | hj
            · cases hj; exact ⟨_, hg⟩
            · exact h9 j hj
        · cases h
      · cases h
    · obtain ⟨z, h2, rfl⟩ := Option.map_eq_some_iff.1 h
      have h3 : v = .slice none 0 0 := h3
      subst h3
      obtain ⟨h8, h9⟩ := outR_ok he h2 h4
      refine ⟨⟨none, 0, 0, vs, outL pl z.2, rfl, ?_, Ow.nil _ _ _ _, h8⟩, fun j hj => ?_⟩
      · unfold outL; rw [List.map_cons]; rfl
      · rcases List.mem_cons.1 hj with hj | hj
        · cases hj
        · exact h9 j hj
    · cases h
  | [], _ :: _, us, y, h, hd => by cases h
  | .d t :: r, [], us, y, h, hd => by cases h
  | .o e t :: r, [], us, y, h, hd => by cases h
/-- the rows that go out lie apart -/
theorem outL_ok {own : List (Nat × Ent)} (hL : LOk B (lx pl own) F w) : ∀ {is : List (Option Nat)}, nodup (is.filterMap id) = true → (∀ i, some i ∈ is → ∃ e, get own i = some e) →
    LOk B (outL pl is) F w ∧ ∀ k, some k ∈ outL pl is → ∃ i, some i ∈ is ∧ plb pl i = some k
  | [], _, _ => ⟨⟨.nil, by simp [outL], by simp [outL], hL.base, hL.far⟩, by simp [outL]⟩
  | none :: is, hn, hi => by
    obtain ⟨h1, h2⟩ := outL_ok hL (is := is) (by simpa using hn) (fun i h => hi i (List.mem_cons_of_mem _ h))
    exact ⟨h1.push_none rfl, fun k hk => by
      rcases List.mem_cons.1 hk with hk | hk
      · cases hk
      · obtain ⟨i, a, b⟩ := h2 k hk
        exact ⟨i, List.mem_cons_of_mem _ a, b⟩⟩
  | some i :: is, hn, hi => by
    have hn' : nodup (i :: is.filterMap id) = true := by simpa using hn
    simp only [nodup, Bool.and_eq_true, Bool.not_eq_true'] at hn'
    obtain ⟨h1, h2⟩ := outL_ok hL (is := is) hn'.2 (fun j h => hi j (List.mem_cons_of_mem _ h))
    obtain ⟨e, he⟩ := hi i (List.mem_cons_self ..)
    have hmem : ∀ k, plb pl i = some k → some k ∈ lx pl own := fun k hk => by rw [← hk]; exact List.mem_map_of_mem (f := fun e : Nat × Ent => plb pl e.1) (get_mem he)
    refine ⟨⟨.cons (fun x hx k hk hk' => ?_) h1.pair, fun k hk => ?_, fun k hk => ?_, hL.base, hL.far⟩, fun k hk => ?_⟩
    · subst hk'
      obtain ⟨j, a, b⟩ := h2 k hx
      obtain ⟨e', he'⟩ := hi j (List.mem_cons_of_mem _ a)
      have hne : i ≠ j := fun e => by
        subst e
        have : i ∈ is.filterMap id := List.mem_filterMap.2 ⟨some i, a, rfl⟩
        simp [this] at hn'
      exact LOk.apart2 hL he he' hne hk b
    · rcases List.mem_cons.1 hk with hk | hk
      · exact hL.lo k (hmem k hk.symm)
      · exact h1.lo k hk
    · rcases List.mem_cons.1 hk with hk | hk
      · exact hL.hi k (hmem k hk.symm)
      · exact h1.hi k hk
    · rcases List.mem_cons.1 hk with hk | hk
      · exact ⟨i, List.mem_cons_self .., hk.symm⟩
      · obtain ⟨j, a, b⟩ := h2 k hk
        exact ⟨j, List.mem_cons_of_mem _ a, b⟩
theorem RsD.grow {L' : Lx} (hs : Sub w L' L) : ∀ {rs : List Rt} {x : Rs rs} {us : List Value} {os : List (Option Nat)}, RsD L w rs x us os → RsD L' w rs x us os
  | [], _, _, _, h => h
  | .d t :: r, x, us, os, ⟨cs, q, h1, h2, h3⟩ => ⟨cs, q, h1, (rp t).grow h2 hs, h3.grow hs⟩
  | .o e t :: r, x, us, os, ⟨a, n, c, q, os', h1, h2, h3, h4⟩ => ⟨a, n, c, q, os', h1, h2, h3.grow hs, h4.grow hs⟩
/-- a contract out of a run -/
theorem ct_of_ev (henv : EnvOk P env) {d : Nat} {hs : Nat → Option Hint} {f : FuncId} {ps : List Ty} {rs : List Rt} {m : As ps → Option (Rs rs)} (hm : ∀ x, evT P env d fuel hs f ps rs x = m x) : CtOk P f ⟨ps, rs, m⟩ := by
  intro F w0 hF x y vs hx ha
  have hx : m x = some y := hx
  rw [← hm x] at hx
  unfold evT at hx
  split at hx
  · rename_i fn hf
    split at hx
    · rename_i c hb
      split at hx
      · rename_i hcond
        have hd : DenL [] ([] ++ F) w0 (asS ps x) vs := asS_den ha
        have hlen := hd.len
        rw [asS_len] at hlen
        have hfr := parF_den (pre := []) (post := List.replicate (fn.ntmps - vs.length) undef) hd
        simp only [List.length_nil, List.nil_append] at hfr
        have hR : Rel w0.heap.size F w0 ⟨w0, [] ++ F, 0, [], []⟩ [] { fr := parF 0 (asS ps x), nt := fn.ntmps, up := [], own := [], nx := 0, log := [] } (vs ++ List.replicate (fn.ntmps - vs.length) undef) [] w0 := by
          refine ⟨LOk.start hF, Below.refl _ _, rfl, ?_, by simp, hfr, rfl, ⟨Fz.refl _ _, Sub.refl _ _, Nat.le_refl _, fun _ _ h => h, by simp, by simp⟩⟩
          rw [List.length_append, List.length_replicate]
          have := hcond.1
          show _ = fn.ntmps
          omega
        refine enter hf hb rfl rfl ?_
        refine ev_ok henv (evC_ok henv d) (Hn := False) (fun h => h.elim) c 1 _ [] _ _ w0 _ _ (PF.body (fun c w h => by obtain ⟨us, os, e, _⟩ := h; cases e)) hR hx (fun e wr' pl' S' l' w' h' hw hv' => ?_)
        have key : (∀ i, e ≠ .x i) → ((resL P S' fn.results.toList).bind fun ss => (resL P (frzL (outZ rs ss) S') fn.results.toList).bind fun ss' => (outR (frzL (outZ rs ss) S') rs ss').bind fun y =>
            if nodup (y.2.filterMap id) = true then some y.1 else none) = some y →
            bodyPost P fn (fun e w' => ∃ us os, e = .returned (retV us) ∧ Below w0.heap.size w0 w' ∧ LOk w0.heap.size os F w' ∧ RsD (os ++ F) w' rs y us os) (exOf e) (mk l') w' := fun he hv' => by
          obtain ⟨ss, _, hv'⟩ := bind_e hv'
          obtain ⟨ss', h1, hv'⟩ := bind_e hv'
          obtain ⟨z, h2, hv'⟩ := bind_e hv'
          have hz := (frzL_ok (q := outZ rs ss) h').1
          split at hv'
          · rename_i hnd
            cases hv'
            obtain ⟨us, h3, h4⟩ := resL_ok hz h1
            obtain ⟨h5, h6⟩ := outR_ok hz.ent h2 h4
            obtain ⟨h7, h8⟩ := outL_ok hz.hL hnd h6
            refine body_normal (ret_post hcond.2 h3 ⟨us, outL pl' z.2, rfl, hz.hB, h7, h5.grow (fun k hk => ?_)⟩) e he
            rcases List.mem_append.1 hk with hk | hk
            · obtain ⟨i, a, b⟩ := h8 k hk
              obtain ⟨e', he'⟩ := h6 i a
              refine .inl (List.mem_append_left _ ?_)
              rw [← b]
              exact List.mem_map_of_mem (f := fun e : Nat × Ent => plb pl' e.1) (get_mem he')
            · exact .inl (List.mem_append_right _ hk)
          · cases hv'
        cases e with
        | n => exact key (fun _ e => by cases e) hv'
        | r => exact key (fun _ e => by cases e) hv'
        | x i => cases hv'
      · cases hx
    · cases hx
  · cases hx
end
end Ev

end

section
/- The run of code in pieces: what follows a cut, and loops, by an oracle. -/
namespace Ev
open Go Go.RowKit Sx

abbrev Us (R : Type) := List (St → Option R)
abbrev Orc (R : Type) := Nat → Us R → St → Option R
section
variable {R : Type}
/-- the run, with an oracle for what follows cuts, and for loops -/
def evJ (P : Program) (env : Env) (cl : Cl R) (fuel : Nat) (hs : Nat → Option Hint) (J : Orc R) : Us R → Nat → Code → St → Kt R → Option R
  | _, _, .skip, S, k => k .n S
  | _, _, .label _, S, k => k .n S
  | _, _, .ret, S, k => k .r S
  | _, _, .exit id, S, k => k (.x id) S
  | us, p, .seq x y, S, k => match hs p with
    | some h => evJ P env cl fuel hs J us (2 * p) x S (seqK P (some h) (J p us) k)
    | none => evJ P env cl fuel hs J us (2 * p) x S (seqK P none (fun S' => evJ P env cl fuel hs J us (2 * p + 1) y S' k) k)
  | us, p, .block id c, S, k => evJ P env cl fuel hs J us (2 * p) c S (blockK id k)
  | us, p, .cond c x y, S, k => match c with
    | .tmp t => if t < S.nt then match get S.fr t with
      | some (.d .bool b) => if b = true then evJ P env cl fuel hs J us (2 * p) x { S with fr := (t, .d .bool true) :: S.fr } k else evJ P env cl fuel hs J us (2 * p + 1) y { S with fr := (t, .d .bool false) :: S.fr } k
      | _ => none else none
    | .const (.bool b) => if b = true then evJ P env cl fuel hs J us (2 * p) x S k else evJ P env cl fuel hs J us (2 * p + 1) y S k
    | _ => none
  | _, _, .region _ ⟨ops⟩ draw, S, k => regn P env cl ops draw S (k .n)
  | us, p, .loop c, S, k => match hs p with
    | some h => (nrm P h S).bind (J p us)
    | none => loopF (fun self S => evJ P env cl fuel hs J (us ++ [self]) (2 * p) c S (seqK P none self k)) fuel S
  | _, _, .rangeFunc _ _ _ _, _, _ => none
  | _, _, .scope _, _, _ => none
  | _, _, .goto _, _, _ => none
  | _, _, .refuse _, _, _ => none
/-- whether the way to q goes to the left of p -/
def lft (q p : Nat) : Bool := q / 2 ^ (q.log2 - p.log2 - 1) % 2 == 0
def In (q p : Nat) : Prop := ∃ n r, q = p * 2 ^ n + r ∧ r < 2 ^ n
theorem In.self (p : Nat) : In p p := ⟨0, 0, by simp, by simp⟩
theorem In.l {q p : Nat} : In q (2 * p) → In q p := fun ⟨n, r, h1, h2⟩ => ⟨n + 1, r, by rw [h1, Nat.pow_succ]; simp only [Nat.mul_comm 2, Nat.mul_assoc], by rw [Nat.pow_succ]; omega⟩
theorem In.r {q p : Nat} : In q (2 * p + 1) → In q p := fun ⟨n, r, h1, h2⟩ => ⟨n + 1, 2 ^ n + r, by
  have e : (2 * p + 1) * 2 ^ n = p * 2 ^ (n + 1) + 2 ^ n := by rw [Nat.pow_succ, Nat.add_mul, Nat.one_mul, Nat.mul_comm 2 p, Nat.mul_assoc, Nat.mul_comm 2 (2 ^ n)]
  omega, by rw [Nat.pow_succ]; omega⟩
theorem In.cases {q p : Nat} : In q p → q = p ∨ In q (2 * p) ∨ In q (2 * p + 1) := fun ⟨n, r, h1, h2⟩ => by
  cases n with
  | zero => left; simp at h1 h2; omega
  | succ n =>
    right
    have e : p * 2 ^ (n + 1) = 2 * p * 2 ^ n := by rw [Nat.pow_succ, Nat.mul_comm 2 p, Nat.mul_assoc, Nat.mul_comm 2 (2 ^ n)]
    have e2 : 2 ^ (n + 1) = 2 ^ n + 2 ^ n := by rw [Nat.pow_succ]; omega
    have e3 : (2 * p + 1) * 2 ^ n = 2 * p * 2 ^ n + 2 ^ n := by rw [Nat.add_mul, Nat.one_mul]
    by_cases h : r < 2 ^ n
    · exact .inl ⟨n, r, by omega, h⟩
    · exact .inr ⟨n, r - 2 ^ n, by omega, by omega⟩
theorem log2_at {p n r : Nat} (hp : 0 < p) (hr : r < 2 ^ n) : (p * 2 ^ n + r).log2 = p.log2 + n := by
  have h2 : 0 < 2 ^ n := Nat.pow_pos (by decide)
  have hne : p * 2 ^ n + r ≠ 0 := by have := Nat.mul_pos hp h2; omega
  apply Nat.le_antisymm
  · apply Nat.le_of_lt_succ
    rw [Nat.log2_lt hne, Nat.succ_eq_add_one, show p.log2 + n + 1 = (p.log2 + 1) + n from by omega, Nat.pow_add]
    have h1 : p < 2 ^ (p.log2 + 1) := (Nat.log2_lt (by omega)).1 (Nat.lt_succ_self _)
    calc p * 2 ^ n + r < p * 2 ^ n + 2 ^ n := by omega
      _ = (p + 1) * 2 ^ n := by rw [Nat.add_mul, Nat.one_mul]
      _ ≤ _ := Nat.mul_le_mul_right _ h1
  · rw [Nat.le_log2 hne, Nat.pow_add]
    have h1 : 2 ^ p.log2 ≤ p := (Nat.le_log2 (by omega)).1 (Nat.le_refl _)
    have := Nat.mul_le_mul_right (2 ^ n) h1
    omega
theorem lft_l {q p : Nat} (hp : 0 < p) : In q (2 * p) → lft q p = true := fun ⟨n, r, h1, h2⟩ => by
  unfold lft
  have hl : q.log2 = (2 * p).log2 + n := by rw [h1]; exact log2_at (by omega) h2
  have hl2 : (2 * p).log2 = p.log2 + 1 := by have := log2_at (p := p) (n := 1) (r := 0) hp (by decide); rw [show 2 * p = p * 2 ^ 1 + 0 from by omega]; exact this
  have e : q.log2 - p.log2 - 1 = n := by omega
  rw [e, h1]
  have : (2 * p * 2 ^ n + r) / 2 ^ n = 2 * p := by
    rw [Nat.mul_comm (2 * p), Nat.mul_add_div (Nat.pow_pos (by decide)), Nat.div_eq_of_lt h2]; rfl
  rw [this]
  simp
theorem lft_r {q p : Nat} (hp : 0 < p) : In q (2 * p + 1) → lft q p = false := fun ⟨n, r, h1, h2⟩ => by
  unfold lft
  have hl : q.log2 = (2 * p + 1).log2 + n := by rw [h1]; exact log2_at (by omega) h2
  have hl2 : (2 * p + 1).log2 = p.log2 + 1 := by have := log2_at (p := p) (n := 1) (r := 1) hp (by decide); rw [show 2 * p + 1 = p * 2 ^ 1 + 1 from by omega]; exact this
  have e : q.log2 - p.log2 - 1 = n := by omega
  rw [e, h1]
  have : ((2 * p + 1) * 2 ^ n + r) / 2 ^ n = 2 * p + 1 := by
    rw [Nat.mul_comm (2 * p + 1), Nat.mul_add_div (Nat.pow_pos (by decide)), Nat.div_eq_of_lt h2, Nat.add_zero]
  rw [this]
  simp
theorem In.pos {q p : Nat} (hp : 0 < p) : In q p → p ≤ q := fun ⟨n, r, h1, _⟩ => by
  have h2 : 0 < 2 ^ n := Nat.pow_pos (by decide)
  have := Nat.mul_le_mul_left p h2
  omega
/-- what follows the cut, or the loop, at q -/
def fnd (P : Program) (env : Env) (cl : Cl R) (fuel : Nat) (hs : Nat → Option Hint) (q : Nat) : Code → Nat → Kt R → Us R → St → Option R
  | .seq x y, p, k, us => if q = p then fun S => ev P env cl fuel hs (2 * p + 1) y S k
    else if lft q p = true then fnd P env cl fuel hs q x (2 * p) (seqK P (hs p) (fun S' => ev P env cl fuel hs (2 * p + 1) y S' k) k) us else fnd P env cl fuel hs q y (2 * p + 1) k us
  | .block id c, p, k, us => if q = p then fun _ => none else if lft q p = true then fnd P env cl fuel hs q c (2 * p) (blockK id k) us else fun _ => none
  | .cond _ x y, p, k, us => if q = p then fun _ => none else if lft q p = true then fnd P env cl fuel hs q x (2 * p) k us else fnd P env cl fuel hs q y (2 * p + 1) k us
  | .loop c, p, k, us => match us with
    | [] => if q = p then fun S => loopF (fun self S => ev P env cl fuel hs (2 * p) c S (seqK P (hs p) self k)) fuel S else fun _ => none
    | u :: us => if q = p then fun S => ev P env cl fuel hs (2 * p) c S (seqK P (hs p) u k) else if lft q p = true then fnd P env cl fuel hs q c (2 * p) (seqK P (hs p) u k) us else fun _ => none
  | _, _, _, _ => fun _ => none
/-- the same, with an oracle -/
def pce (P : Program) (env : Env) (cl : Cl R) (fuel : Nat) (hs : Nat → Option Hint) (J : Orc R) (q : Nat) : Code → Nat → Kt R → Us R → Us R → St → Option R
  | .seq x y, p, k, u0, us => if q = p then fun S => evJ P env cl fuel hs J u0 (2 * p + 1) y S k
    else if lft q p = true then pce P env cl fuel hs J q x (2 * p) (match hs p with
      | some h => seqK P (some h) (J p u0) k
      | none => seqK P none (fun S' => evJ P env cl fuel hs J u0 (2 * p + 1) y S' k) k) u0 us else pce P env cl fuel hs J q y (2 * p + 1) k u0 us
  | .block id c, p, k, u0, us => if q = p then fun _ => none else if lft q p = true then pce P env cl fuel hs J q c (2 * p) (blockK id k) u0 us else fun _ => none
  | .cond _ x y, p, k, u0, us => if q = p then fun _ => none else if lft q p = true then pce P env cl fuel hs J q x (2 * p) k u0 us else pce P env cl fuel hs J q y (2 * p + 1) k u0 us
  | .loop c, p, k, u0, us => match us with
    | [] => if q = p then fun S => loopF (fun self S => evJ P env cl fuel hs J (u0 ++ [self]) (2 * p) c S (seqK P (hs p) self k)) fuel S else fun _ => none
    | u :: us => if q = p then fun S => evJ P env cl fuel hs J (u0 ++ [u]) (2 * p) c S (seqK P (hs p) u k) else if lft q p = true then pce P env cl fuel hs J q c (2 * p) (seqK P (hs p) u k) (u0 ++ [u]) us else fun _ => none
  | _, _, _, _, _ => fun _ => none
end
section
variable {R : Type} {P : Program} {env : Env} {cl : Cl R} {fuel : Nat} {hs : Nat → Option Hint} {J : Orc R}
theorem evJ_eq : ∀ {c : Code} {p : Nat} {us : Us R} {S : St} {k : Kt R}, 0 < p → (∀ q us', In q p → J q (us ++ us') = fnd P env cl fuel hs q c p k us') → evJ P env cl fuel hs J us p c S k = ev P env cl fuel hs p c S k := by
  intro c
  induction c with
  | skip => intros; rfl
  | label _ => intros; rfl
  | ret => intros; rfl
  | exit _ => intros; rfl
  | rangeFunc => intros; rfl
  | scope => intros; rfl
  | goto => intros; rfl
  | refuse => intros; rfl
  | region id ops draw => intros; rfl
  | seq x y ihx ihy =>
    intro p us S k hp H
    have hx : ∀ q us', In q (2 * p) → J q (us ++ us') = fnd P env cl fuel hs q x (2 * p) (seqK P (hs p) (fun S' => ev P env cl fuel hs (2 * p + 1) y S' k) k) us' := fun q us' hq => by
      rw [H q us' hq.l, fnd, if_neg (by have := In.pos (by omega) hq; omega), if_pos (lft_l hp hq)]
    have hy : ∀ q us', In q (2 * p + 1) → J q (us ++ us') = fnd P env cl fuel hs q y (2 * p + 1) k us' := fun q us' hq => by
      rw [H q us' hq.r, fnd, if_neg (by have := In.pos (by omega) hq; omega), if_neg (by rw [lft_r hp hq]; decide)]
    have hJ : J p us = fun S => ev P env cl fuel hs (2 * p + 1) y S k := by
      have := H p [] (In.self p)
      rw [List.append_nil] at this
      rw [this, fnd, if_pos rfl]
    rw [evJ, ev]
    split
    · rename_i h hh
      rw [hJ, ← hh]
      exact ihx (by omega) hx
    · rename_i hh
      have : (fun S' => evJ P env cl fuel hs J us (2 * p + 1) y S' k) = (fun S' => ev P env cl fuel hs (2 * p + 1) y S' k) := funext fun S' => ihy (by omega) hy
      rw [this, ← hh]
      exact ihx (by omega) hx
  | block id c ih =>
    intro p us S k hp H
    rw [evJ, ev]
    exact ih (by omega) (fun q us' hq => by rw [H q us' hq.l, fnd, if_neg (by have := In.pos (by omega) hq; omega), if_pos (lft_l hp hq)])
  | cond c x y ihx ihy =>
    intro p us S k hp H
    have hx : ∀ q us', In q (2 * p) → J q (us ++ us') = fnd P env cl fuel hs q x (2 * p) k us' := fun q us' hq => by
      rw [H q us' hq.l, fnd, if_neg (by have := In.pos (by omega) hq; omega), if_pos (lft_l hp hq)]
    have hy : ∀ q us', In q (2 * p + 1) → J q (us ++ us') = fnd P env cl fuel hs q y (2 * p + 1) k us' := fun q us' hq => by
      rw [H q us' hq.r, fnd, if_neg (by have := In.pos (by omega) hq; omega), if_neg (by rw [lft_r hp hq]; decide)]
    have e1 : ∀ S, evJ P env cl fuel hs J us (2 * p) x S k = ev P env cl fuel hs (2 * p) x S k := fun S => ihx (by omega) hx
    have e2 : ∀ S, evJ P env cl fuel hs J us (2 * p + 1) y S k = ev P env cl fuel hs (2 * p + 1) y S k := fun S => ihy (by omega) hy
    unfold evJ ev
    simp only [e1, e2]
    all_goals rfl
  | loop c ih =>
    intro p us S k hp H
    have hJ : J p us = fun S => loopF (fun self S => ev P env cl fuel hs (2 * p) c S (seqK P (hs p) self k)) fuel S := by
      have := H p [] (In.self p)
      rw [List.append_nil] at this
      rw [this, fnd, if_pos rfl]
    rw [evJ, ev]
    split
    · rename_i h hh
      rw [hJ, hh]
    · rename_i hh
      have : (fun self S => evJ P env cl fuel hs J (us ++ [self]) (2 * p) c S (seqK P none self k)) = (fun self S => ev P env cl fuel hs (2 * p) c S (seqK P (hs p) self k)) := by
        funext self S
        rw [hh]
        refine ih (by omega) (fun q us' hq => ?_)
        rw [List.append_assoc, H q _ hq.l, List.singleton_append, fnd, if_neg (by have := In.pos (by omega) hq; omega), if_pos (lft_l hp hq), hh]
      rw [this, hh]
theorem pce_eq {q : Nat} : ∀ {c : Code} {p : Nat} {u0 : Us R} {k : Kt R} {us : Us R}, 0 < p → In q p → (∀ q us', In q p → J q (u0 ++ us') = fnd P env cl fuel hs q c p k us') → pce P env cl fuel hs J q c p k u0 us = fnd P env cl fuel hs q c p k us := by
  intro c
  induction c with
  | skip => intros; rfl
  | label _ => intros; rfl
  | ret => intros; rfl
  | exit _ => intros; rfl
  | rangeFunc => intros; rfl
  | scope => intros; rfl
  | goto => intros; rfl
  | refuse => intros; rfl
  | region id ops draw => intros; rfl
  | seq x y ihx ihy =>
    intro p us k us2 hp hq H
    have hx : ∀ q us', In q (2 * p) → J q (us ++ us') = fnd P env cl fuel hs q x (2 * p) (seqK P (hs p) (fun S' => ev P env cl fuel hs (2 * p + 1) y S' k) k) us' := fun q us' hq => by
      rw [H q us' hq.l, fnd, if_neg (by have := In.pos (by omega) hq; omega), if_pos (lft_l hp hq)]
    have hy : ∀ q us', In q (2 * p + 1) → J q (us ++ us') = fnd P env cl fuel hs q y (2 * p + 1) k us' := fun q us' hq => by
      rw [H q us' hq.r, fnd, if_neg (by have := In.pos (by omega) hq; omega), if_neg (by rw [lft_r hp hq]; decide)]
    have hJ : J p us = fun S => ev P env cl fuel hs (2 * p + 1) y S k := by
      have := H p [] (In.self p)
      rw [List.append_nil] at this
      rw [this, fnd, if_pos rfl]
    have he : (fun S' => evJ P env cl fuel hs J us (2 * p + 1) y S' k) = (fun S' => ev P env cl fuel hs (2 * p + 1) y S' k) := funext fun S' => evJ_eq (by omega) hy
    rw [pce, fnd]
    rcases hq.cases with h | h | h
    · rw [if_pos h, if_pos h]; exact he
    · have hne : q ≠ p := by have := In.pos (by omega) h; omega
      rw [if_neg hne, if_neg hne, if_pos (lft_l hp h), if_pos (lft_l hp h)]
      have hk : (match hs p with
        | some h => seqK P (some h) (J p us) k
        | none => seqK P none (fun S' => evJ P env cl fuel hs J us (2 * p + 1) y S' k) k) = seqK P (hs p) (fun S' => ev P env cl fuel hs (2 * p + 1) y S' k) k := by
        split
        · rename_i hn hh; rw [hJ, hh]
        · rename_i hh; rw [he, hh]
      rw [hk]
      exact ihx (by omega) h hx
    · have hne : q ≠ p := by have := In.pos (by omega) h; omega
      rw [if_neg hne, if_neg hne, if_neg (by rw [lft_r hp h]; decide), if_neg (by rw [lft_r hp h]; decide)]
      exact ihy (by omega) h hy
  | block id c ih =>
    intro p us k us2 hp hq H
    rw [pce, fnd]
    rcases hq.cases with h | h | h
    · rw [if_pos h, if_pos h]
    · have hne : q ≠ p := by have := In.pos (by omega) h; omega
      rw [if_neg hne, if_neg hne, if_pos (lft_l hp h), if_pos (lft_l hp h)]
      exact ih (by omega) h (fun q us' hq => by rw [H q us' hq.l, fnd, if_neg (by have := In.pos (by omega) hq; omega), if_pos (lft_l hp hq)])
    · have hne : q ≠ p := by have := In.pos (by omega) h; omega
      rw [if_neg hne, if_neg hne, if_neg (by rw [lft_r hp h]; decide), if_neg (by rw [lft_r hp h]; decide)]
  | cond c x y ihx ihy =>
    intro p us k us2 hp hq H
    have hx : ∀ q us', In q (2 * p) → J q (us ++ us') = fnd P env cl fuel hs q x (2 * p) k us' := fun q us' hq => by
      rw [H q us' hq.l, fnd, if_neg (by have := In.pos (by omega) hq; omega), if_pos (lft_l hp hq)]
    have hy : ∀ q us', In q (2 * p + 1) → J q (us ++ us') = fnd P env cl fuel hs q y (2 * p + 1) k us' := fun q us' hq => by
      rw [H q us' hq.r, fnd, if_neg (by have := In.pos (by omega) hq; omega), if_neg (by rw [lft_r hp hq]; decide)]
    rw [pce, fnd]
    rcases hq.cases with h | h | h
    · rw [if_pos h, if_pos h]
    · have hne : q ≠ p := by have := In.pos (by omega) h; omega
      rw [if_neg hne, if_neg hne, if_pos (lft_l hp h), if_pos (lft_l hp h)]
      exact ihx (by omega) h hx
    · have hne : q ≠ p := by have := In.pos (by omega) h; omega
      rw [if_neg hne, if_neg hne, if_neg (by rw [lft_r hp h]; decide), if_neg (by rw [lft_r hp h]; decide)]
      exact ihy (by omega) h hy
  | loop c ih =>
    intro p us k us2 hp hq H
    have hb : ∀ (u : St → Option R) q us', In q (2 * p) → J q ((us ++ [u]) ++ us') = fnd P env cl fuel hs q c (2 * p) (seqK P (hs p) u k) us' := fun u q us' hq => by
      rw [List.append_assoc, H q _ hq.l, List.singleton_append, fnd, if_neg (by have := In.pos (by omega) hq; omega), if_pos (lft_l hp hq)]
    have he : ∀ u S, evJ P env cl fuel hs J (us ++ [u]) (2 * p) c S (seqK P (hs p) u k) = ev P env cl fuel hs (2 * p) c S (seqK P (hs p) u k) := fun u S => evJ_eq (by omega) (hb u)
    cases us2 with
    | nil =>
      rw [pce, fnd]
      split
      · simp only [he]
      · rfl
    | cons u us2 =>
      rw [pce, fnd]
      rcases hq.cases with h | h | h
      · rw [if_pos h, if_pos h]
        simp only [he]
      · have hne : q ≠ p := by have := In.pos (by omega) h; omega
        rw [if_neg hne, if_neg hne, if_pos (lft_l hp h), if_pos (lft_l hp h)]
        exact ih (by omega) h (hb u)
      · have hne : q ≠ p := by have := In.pos (by omega) h; omega
        rw [if_neg hne, if_neg hne, if_neg (by rw [lft_r hp h]; decide), if_neg (by rw [lft_r hp h]; decide)]
/-- loops, on states that are made of data -/
theorem loopF_sim {σ : Type} {mk : σ → St} {F : (St → Option R) → St → Option R} {G : (σ → Option R) → σ → Option R} (h : ∀ g s, F g (mk s) = G (fun t => g (mk t)) s) : ∀ n s, loopF F n (mk s) = loopF G n s
  | 0, s => rfl
  | n + 1, s => by
    have ih := loopF_sim h n
    show F (loopF F n) (mk s) = G (loopF G n) s
    rw [h]
    congr 1
    funext t
    exact ih t
theorem In.one : ∀ {q : Nat}, 0 < q → In q 1 := fun {q} h => ⟨q.log2, q - 2 ^ q.log2, by
    have := (Nat.le_log2 (n := q) (k := q.log2) (by omega)).1 (Nat.le_refl _)
    omega, by
    have h1 : q < 2 ^ (q.log2 + 1) := (Nat.log2_lt (by omega)).1 (Nat.lt_succ_self _)
    rw [Nat.pow_succ] at h1
    omega⟩
/-- what follows cuts, and loops, of a function -/
def jfn (P : Program) (env : Env) (d fuel : Nat) (hs : Nat → Option Hint) (f : FuncId) (rs : List Rt) : Orc (Rs rs) := fun q us =>
  match P.funcs[f]? with
  | some fn => match fn.body with
    | some c => fnd P env (evC P env fuel d) fuel hs q c 1 (topK P fn rs) us
    | none => fun _ => none
  | none => fun _ => none
def pfn (P : Program) (env : Env) (d fuel : Nat) (hs : Nat → Option Hint) (f : FuncId) (rs : List Rt) (J : Orc (Rs rs)) : Orc (Rs rs) := fun q us =>
  match P.funcs[f]? with
  | some fn => match fn.body with
    | some c => pce P env (evC P env fuel d) fuel hs J q c 1 (topK P fn rs) [] us
    | none => fun _ => none
  | none => fun _ => none
def rfn (P : Program) (env : Env) (d fuel : Nat) (hs : Nat → Option Hint) (f : FuncId) (ps : List Ty) (rs : List Rt) (J : Orc (Rs rs)) (x : As ps) : Option (Rs rs) :=
  match P.funcs[f]? with
  | some fn => match fn.body with
    | some c => if ps.length ≤ fn.ntmps ∧ fn.results.size ≤ 3 then evJ P env (evC P env fuel d) fuel hs J [] 1 c { fr := parF 0 (asS ps x), nt := fn.ntmps, up := [], own := [], nx := 0, log := [] } (topK P fn rs) else none
    | none => none
  | none => none
theorem pfn_eq {d : Nat} {f : FuncId} {rs : List Rt} {q : Nat} {us : Us (Rs rs)} (hq : 0 < q) : jfn P env d fuel hs f rs q us = pfn P env d fuel hs f rs (jfn P env d fuel hs f rs) q us := by
  show _ = (match P.funcs[f]? with
    | some fn => match fn.body with
      | some c => pce P env (evC P env fuel d) fuel hs (jfn P env d fuel hs f rs) q c 1 (topK P fn rs) [] us
      | none => fun _ => none
    | none => fun _ => none)
  split
  · rename_i fn hf
    split
    · rename_i c hb
      have e : ∀ q us, jfn P env d fuel hs f rs q us = fnd P env (evC P env fuel d) fuel hs q c 1 (topK P fn rs) us := fun q us => by
        unfold jfn
        split
        · rename_i fn' hf'
          rw [hf] at hf'
          cases hf'
          split
          · rename_i c' hb'
            rw [hb] at hb'
            cases hb'
            rfl
          · rename_i hb'
            rw [hb] at hb'
            cases hb'
        · rename_i hf'
          rw [hf] at hf'
          cases hf'
      rw [pce_eq (by decide) (In.one hq) (fun q us _ => e q us), e]
    · rename_i hb
      unfold jfn
      rw [hf]
      simp only [hb]
  · rename_i hf
    unfold jfn
    rw [hf]
theorem rfn_eq {d : Nat} {f : FuncId} {ps : List Ty} {rs : List Rt} {x : As ps} : evT P env d fuel hs f ps rs x = rfn P env d fuel hs f ps rs (jfn P env d fuel hs f rs) x := by
  cases hf : P.funcs[f]? with
  | none => unfold evT rfn; rw [hf]
  | some fn =>
    cases hb : fn.body with
    | none => unfold evT rfn; rw [hf]; simp only [hb]
    | some c =>
      have e : ∀ q us, jfn P env d fuel hs f rs q us = fnd P env (evC P env fuel d) fuel hs q c 1 (topK P fn rs) us := fun q us => by
        unfold jfn; rw [hf]; simp only [hb]
      unfold evT rfn
      rw [hf]
      simp only [hb]
      rw [evJ_eq (by decide) (fun q us _ => by rw [List.nil_append]; exact e q us)]
/-- whether there is a loop at q, within n others -/
def lpAt (q : Nat) : Code → Nat → Nat → Bool
  | .seq x y, p, n => if q = p then false else if lft q p = true then lpAt q x (2 * p) n else lpAt q y (2 * p + 1) n
  | .block _ c, p, n => if q = p then false else if lft q p = true then lpAt q c (2 * p) n else false
  | .cond _ x y, p, n => if q = p then false else if lft q p = true then lpAt q x (2 * p) n else lpAt q y (2 * p + 1) n
  | .loop c, p, n => match n with
    | 0 => decide (q = p)
    | n + 1 => if q = p then false else if lft q p = true then lpAt q c (2 * p) n else false
  | _, _, _ => false
def lpf (P : Program) (f : FuncId) (q n : Nat) : Bool := match P.funcs[f]? with
  | some fn => match fn.body with
    | some c => lpAt q c 1 n
    | none => false
  | none => false
theorem pce_loop {q : Nat} : ∀ {c : Code} {p : Nat} {u0 us : Us R} {k : Kt R} {S : St}, lpAt q c p us.length = true →
    pce P env cl fuel hs J q c p k u0 us S = loopF (fun self S => pce P env cl fuel hs J q c p k u0 (us ++ [self]) S) fuel S := by
  intro c
  induction c with
  | skip | label _ | ret | exit _ | rangeFunc | scope | goto | refuse | region _ _ _ => intro p u0 us k S h; cases h
  | seq x y ihx ihy =>
    intro p u0 us k S h
    unfold lpAt at h
    split at h
    · cases h
    · rename_i hne
      split at h
      · rename_i hl
        simp only [pce, if_neg hne, if_pos hl]
        exact ihx h
      · rename_i hl
        simp only [pce, if_neg hne, if_neg hl]
        exact ihy h
  | block id c ih =>
    intro p u0 us k S h
    unfold lpAt at h
    split at h
    · cases h
    · rename_i hne
      split at h
      · rename_i hl
        simp only [pce, if_neg hne, if_pos hl]
        exact ih h
      · cases h
  | cond c x y ihx ihy =>
    intro p u0 us k S h
    unfold lpAt at h
    split at h
    · cases h
    · rename_i hne
      split at h
      · rename_i hl
        simp only [pce, if_neg hne, if_pos hl]
        exact ihx h
      · rename_i hl
        simp only [pce, if_neg hne, if_neg hl]
        exact ihy h
  | loop c ih =>
    intro p u0 us k S h
    cases us with
    | nil =>
      have h : decide (q = p) = true := h
      have h := of_decide_eq_true h
      simp only [pce, List.nil_append, if_pos h]
    | cons u us =>
      have h : (if q = p then false else if lft q p = true then lpAt q c (2 * p) us.length else false) = true := h
      split at h
      · cases h
      · rename_i hne
        split at h
        · rename_i hl
          simp only [pce, List.cons_append, if_neg hne, if_pos hl]
          exact ih h
        · cases h
theorem pfn_loop {d : Nat} {f : FuncId} {rs : List Rt} {J : Orc (Rs rs)} {q : Nat} {us : Us (Rs rs)} (h : lpf P f q us.length = true) (S : St) :
    pfn P env d fuel hs f rs J q us S = loopF (fun self S => pfn P env d fuel hs f rs J q (us ++ [self]) S) fuel S := by
  cases hf : P.funcs[f]? with
  | none => unfold lpf at h; rw [hf] at h; cases h
  | some fn =>
    cases hb : fn.body with
    | none => unfold lpf at h; rw [hf] at h; simp only [hb] at h; cases h
    | some c =>
      unfold lpf at h
      rw [hf] at h
      simp only [hb] at h
      unfold pfn
      rw [hf]
      simp only [hb]
      exact pce_loop h
theorem env_nil : EnvOk P (get []) := fun f ct h => by cases h
theorem env_cons {f : FuncId} {ct : Ct} {l : List (Nat × Ct)} (h : CtOk P f ct) (hl : EnvOk P (get l)) : EnvOk P (get ((f, ct) :: l)) := fun g c hg => by
  unfold get at hg
  split at hg
  · rename_i e
    cases hg
    subst e
    exact h
  · exact hl g c hg
end
end Ev

end

section
/- Written by program (gen.py): the types of the seat, as the model has them. -/
namespace SxYtihfogahdofdmaaDoor
open Go Go.RowKit Sx Go.Proofs
set_option linter.unusedVariables false
structure TDec where
  N : Int
  D : Int
  deriving DecidableEq, Inhabited
def RDec : Rp TDec := Rp.iso (Rp.prod (Rp.int .i64) (Rp.int .u8)) (fun s => (s.N, s.D)) true
theorem open_TDec {L : Lx} {w : World} {cs : List Value} {x : TDec} (h : RDec.rel L w cs x) : cs = [.int .i64 x.N, .int .u8 x.D] := by
  obtain ⟨d0, e0, rfl, h0, h1⟩ := h
  cases h0
  cases h1
  rfl
theorem shut_TDec {L : Lx} {w : World} (x : TDec)  : RDec.rel L w [.int .i64 x.N, .int .u8 x.D] x :=
  ⟨_, _, rfl, rfl, rfl⟩
theorem fld_TDec_0 {L : Lx} {w : World} {b o : Nat} {x : TDec} (h : El RDec L w b o x) : El (Rp.int .i64) L w b (o + 0) x.N := (El.fst (show El (Rp.prod (Rp.int .i64) (Rp.int .u8)) L w b o ((x.N, x.D)) from h))
theorem fld_TDec_1 {L : Lx} {w : World} {b o : Nat} {x : TDec} (h : El RDec L w b o x) : El (Rp.int .u8) L w b (o + 1) x.D := (El.snd (show El (Rp.prod (Rp.int .i64) (Rp.int .u8)) L w b o ((x.N, x.D)) from h))
structure TUnit where
  Base : (List UInt8)
  Num : Int
  Den : Int
  deriving DecidableEq, Inhabited
def RUnit : Rp TUnit := Rp.iso (Rp.prod Rp.str (Rp.prod (Rp.int .i64) (Rp.int .i64))) (fun s => (s.Base, s.Num, s.Den)) true
theorem open_TUnit {L : Lx} {w : World} {cs : List Value} {x : TUnit} (h : RUnit.rel L w cs x) : cs = [.string ⟨⟨x.Base⟩⟩, .int .i64 x.Num, .int .i64 x.Den] := by
  obtain ⟨d0, e0, rfl, h0, d1, e1, rfl, h1, h2⟩ := h
  cases h0
  cases h1
  cases h2
  rfl
theorem shut_TUnit {L : Lx} {w : World} (x : TUnit)  : RUnit.rel L w [.string ⟨⟨x.Base⟩⟩, .int .i64 x.Num, .int .i64 x.Den] x :=
  ⟨_, _, rfl, rfl, ⟨_, _, rfl, rfl, rfl⟩⟩
theorem fld_TUnit_0 {L : Lx} {w : World} {b o : Nat} {x : TUnit} (h : El RUnit L w b o x) : El Rp.str L w b (o + 0) x.Base := (El.fst (show El (Rp.prod Rp.str (Rp.prod (Rp.int .i64) (Rp.int .i64))) L w b o ((x.Base, x.Num, x.Den)) from h))
theorem fld_TUnit_1 {L : Lx} {w : World} {b o : Nat} {x : TUnit} (h : El RUnit L w b o x) : El (Rp.int .i64) L w b (o + 1) x.Num := (El.fst (El.snd (show El (Rp.prod Rp.str (Rp.prod (Rp.int .i64) (Rp.int .i64))) L w b o ((x.Base, x.Num, x.Den)) from h)))
theorem fld_TUnit_2 {L : Lx} {w : World} {b o : Nat} {x : TUnit} (h : El RUnit L w b o x) : El (Rp.int .i64) L w b (o + 2) x.Den := (El.snd (El.snd (show El (Rp.prod Rp.str (Rp.prod (Rp.int .i64) (Rp.int .i64))) L w b o ((x.Base, x.Num, x.Den)) from h)))
theorem fo_23_0 : fieldOff Tryd.prog 23 0 = some 0 := by kernel_rfl
theorem sz_2 : szOf Tryd.prog 2 = some 1 := by kernel_rfl
theorem fo_23_1 : fieldOff Tryd.prog 23 1 = some 1 := by kernel_rfl
theorem sz_5 : szOf Tryd.prog 5 = some 1 := by kernel_rfl
theorem sz_23 : szOf Tryd.prog 23 = some 2 := by kernel_rfl
theorem nm_74 : (Tryd.f74.name == "runtime.NumGoroutine") = false := by kernel_rfl
theorem nm_61 : (Tryd.f61.name == "runtime.NumGoroutine") = false := by kernel_rfl
theorem nm_14 : (Tryd.f14.name == "runtime.NumGoroutine") = false := by kernel_rfl
theorem nm_37 : (Tryd.f37.name == "runtime.NumGoroutine") = false := by kernel_rfl
theorem nm_36 : (Tryd.f36.name == "runtime.NumGoroutine") = false := by kernel_rfl
theorem nm_38 : (Tryd.f38.name == "runtime.NumGoroutine") = false := by kernel_rfl
@[reducible] def kv_51 : (List UInt8) → Value := strv
@[reducible] def vv_51 : TUnit → Value := fun x : TUnit => Value.agg #[.string ⟨⟨x.Base⟩⟩, .int .i64 x.Num, .int .i64 x.Den]
def kp_51 : Kp Tryd.prog 9 kv_51 := Kp.str Tryd.underlying9
theorem nm_33 : (Tryd.f33.name == "runtime.NumGoroutine") = false := by kernel_rfl
theorem sz_28 : szOf Tryd.prog 28 = some 3 := by kernel_rfl
theorem fo_28_0 : fieldOff Tryd.prog 28 0 = some 0 := by kernel_rfl
theorem fo_28_1 : fieldOff Tryd.prog 28 1 = some 1 := by kernel_rfl
theorem fo_28_2 : fieldOff Tryd.prog 28 2 = some 2 := by kernel_rfl
theorem nm_13 : (Tryd.f13.name == "runtime.NumGoroutine") = false := by kernel_rfl
theorem nm_39 : (Tryd.f39.name == "runtime.NumGoroutine") = false := by kernel_rfl
theorem nm_40 : (Tryd.f40.name == "runtime.NumGoroutine") = false := by kernel_rfl
theorem nm_57 : (Tryd.f57.name == "runtime.NumGoroutine") = false := by kernel_rfl
theorem nm_66 : (Tryd.f66.name == "runtime.NumGoroutine") = false := by kernel_rfl
theorem nm_62 : (Tryd.f62.name == "runtime.NumGoroutine") = false := by kernel_rfl
theorem xf_92 : Extern.findNext Tryd.f92 = none := by kernel_rfl
theorem xe_92 : Extern.find Tryd.f92 = some Extern.BytealgIndexByte.indexByte := by kernel_rfl
theorem nm_92 : (Tryd.f92.name == "runtime.NumGoroutine") = false := by kernel_rfl
theorem nm_81 : (Tryd.f81.name == "runtime.NumGoroutine") = false := by kernel_rfl
theorem nm_69 : (Tryd.f69.name == "runtime.NumGoroutine") = false := by kernel_rfl
theorem nm_63 : (Tryd.f63.name == "runtime.NumGoroutine") = false := by kernel_rfl
theorem nm_41 : (Tryd.f41.name == "runtime.NumGoroutine") = false := by kernel_rfl
theorem nm_42 : (Tryd.f42.name == "runtime.NumGoroutine") = false := by kernel_rfl
theorem nm_43 : (Tryd.f43.name == "runtime.NumGoroutine") = false := by kernel_rfl
theorem nm_32 : (Tryd.f32.name == "runtime.NumGoroutine") = false := by kernel_rfl
theorem sz_9 : szOf Tryd.prog 9 = some 1 := by kernel_rfl
theorem nm_49 : (Tryd.f49.name == "runtime.NumGoroutine") = false := by kernel_rfl
theorem nm_50 : (Tryd.f50.name == "runtime.NumGoroutine") = false := by kernel_rfl
theorem nm_88 : (Tryd.f88.name == "runtime.NumGoroutine") = false := by kernel_rfl
theorem nm_98 : (Tryd.f98.name == "runtime.NumGoroutine") = false := by kernel_rfl
theorem nm_75 : (Tryd.f75.name == "runtime.NumGoroutine") = false := by kernel_rfl
theorem nm_78 : (Tryd.f78.name == "runtime.NumGoroutine") = false := by kernel_rfl
theorem nm_64 : (Tryd.f64.name == "runtime.NumGoroutine") = false := by kernel_rfl
theorem nm_45 : (Tryd.f45.name == "runtime.NumGoroutine") = false := by kernel_rfl
theorem nm_29 : (Tryd.f29.name == "runtime.NumGoroutine") = false := by kernel_rfl
theorem nm_18 : (Tryd.f18.name == "runtime.NumGoroutine") = false := by kernel_rfl
theorem nm_34 : (Tryd.f34.name == "runtime.NumGoroutine") = false := by kernel_rfl
theorem nm_11 : (Tryd.f11.name == "runtime.NumGoroutine") = false := by kernel_rfl
theorem nm_17 : (Tryd.f17.name == "runtime.NumGoroutine") = false := by kernel_rfl
theorem nm_16 : (Tryd.f16.name == "runtime.NumGoroutine") = false := by kernel_rfl
theorem eg_23 : Tryd.prog.eqGuardType Tryd.prog.depth 23 = false := by kernel_rfl
theorem eq_23 {d : Nat} {a0 b0 : Int} {a1 b1 : Int} : ∀ w, (Op.equalIn (d + 2) 23 (.agg #[.int .i64 a0, .int .u8 a1]) (.agg #[.int .i64 b0, .int .u8 b1])).run Tryd.prog w = .ok (((eqi a0 b0) && ((eqi a1 b1) && true))) w := (eq_struct (data := [(false, 2, 0), (false, 5, 1)]) (by kernel_rfl) (by kernel_rfl) (by kernel_rfl) (.cons (part_leaf Tryd.underlying2 rfl rfl) (part_leaf Tryd.underlying2 rfl rfl) (eq_int Tryd.underlying2) (.cons (part_leaf Tryd.underlying5 rfl rfl) (part_leaf Tryd.underlying5 rfl rfl) (eq_int Tryd.underlying5) .nil)))
theorem nm_21 : (Tryd.f21.name == "runtime.NumGoroutine") = false := by kernel_rfl
theorem nm_35 : (Tryd.f35.name == "runtime.NumGoroutine") = false := by kernel_rfl
end SxYtihfogahdofdmaaDoor

end

section
/- Written by program (gen.py): the model of saucier/saucierlaw12.some, and the proof that its code computes it. -/
namespace SxYtihfogahdofdmaaDoor
open Go Go.RowKit Sx Go.Proofs
set_option linter.unusedVariables false
set_option linter.unusedSimpArgs false
attribute [local irreducible] WL WX CW OW
/-! ### 9: "saucier/saucierlaw12.some" -/
def m9_J1 (fuel : Nat) (d_3 : Int) (d_4 : Int) : Option TDec :=
  some (⟨d_3, d_4⟩ : TDec)
def m9_J3 (fuel : Nat) (d_5 : Int) (d_6 : Int) (self_1 : ((Int × Int) → Option TDec)) (x_6 : Bool) : Option TDec :=
  if x_6 then (self_1 ((quo .i64 d_5 10), (sub .u8 d_6 1))) else (m9_J1 fuel  d_5 d_6)
def m9_L2 (fuel : Nat) (self_1 : Int × Int → Option TDec) : Int × Int → Option TDec := fun (d_5, d_6) =>
  if (gt d_6 0) then (m9_J3 fuel d_5 d_6 self_1 (eqi (rem d_5 10) 0)) else (m9_J3 fuel d_5 d_6 self_1 false)
def m9 (fuel : Nat) (p0_0 : TDec) : Option TDec :=
  loopF (m9_L2 fuel ) fuel ((rem p0_0.N 1000000000001), (rem p0_0.D 7))
@[reducible] def Q9 (F : Lx) (w0 : World) (r : TDec) (v : Value) (w' : World) : Prop := v = .agg #[.int .i64 r.N, .int .u8 r.D] ∧ Below w0.heap.size w0 w'
set_option maxRecDepth 100000 in
set_option maxHeartbeats 4000000 in
theorem f9_ok (fuel : Nat) (F : Lx) (w0 : World) (hF : ∀ k, some k ∈ F → k < w0.heap.size) {p0_0 : TDec} {r : TDec} (hm : m9 fuel p0_0 = some r) :
    Calls Tryd.prog 9 #[.agg #[.int .i64 p0_0.N, .int .u8 p0_0.D]] w0 (fun e w' => ∃ v, e = .returned v ∧ Q9 F w0 r v w') := by
  have hPF : PF (bodyPost Tryd.prog Tryd.f9 (fun e w' => ∃ v, e = .returned v ∧ Q9 F w0 r v w')) := PF.body (fun c w h => by obtain ⟨v, e, _⟩ := h; cases e)
  have hL := LOk.start hF
  have hB := Below.refl w0.heap.size w0
  unfold m9 at hm
  refine enter (l := [.agg #[.int .i64 p0_0.N, .int .u8 p0_0.D], undef, undef, undef, undef, undef, undef, undef, undef, undef, undef, undef, undef, undef, undef, undef, undef, undef, undef, undef, undef, undef, undef, undef, undef, undef, undef, undef, undef]) Tryd.func9 rfl Tryd.ntmps9 (by kernel_rfl) ?_
  refine cw_seq ?_
  refine cw_region ?_
  refine wl_op (by kernel_rfl) (ow_box' (v := .agg #[.int .i64 p0_0.N, .int .u8 p0_0.D]) (vs := [.int .i64 p0_0.N, .int .u8 p0_0.D]) (by kernel_rfl) rfl hL ?_)
  intro g_1 w_1 hS h_1
  replace hB := hS.below hL hB
  replace hL := hS.hL
  refine wl_op (by kernel_rfl) (ow_alloc' (z := .agg #[.int .i64 0, .int .u8 0]) (vs := [.int .i64 0, .int .u8 0]) (by kernel_rfl) rfl hL ?_)
  intro g_2 w_2 hS h_2
  replace h_1 := hS.box h_1 nilN
  replace hB := hS.below hL hB
  replace hL := hS.hL
  refine wl_nil ?_
  refine then_n ?_
  refine cw_seq ?_
  refine cw_region ?_
  refine wl_val (v := .pointer (some ⟨g_1, 0, none⟩)) (w' := w_2) (by kernel_rfl) (run_fieldAddr (b := g_1) (o := 0) fo_23_0 (by kernel_rfl)) ?_
  refine wl_val (v := .int .i64 p0_0.N) (w' := w_2) (by kernel_rfl) (run_load_box1 (j := 0) Tryd.underlying2 rfl (by kernel_rfl) h_1 (by kernel_rfl)) ?_
  refine wl_val (v := .int .i64 (rem p0_0.N 1000000000001)) (w' := w_2) (by kernel_rfl) (run_rem (k := .i64) (a := p0_0.N) (b := 1000000000001) (by kernel_rfl) (by kernel_rfl) (by decide)) ?_
  refine wl_val (v := .pointer (some ⟨g_1, 0, none⟩)) (w' := w_2) (by kernel_rfl) (run_fieldAddr (b := g_1) (o := 0) fo_23_0 (by kernel_rfl)) ?_
  refine wl_op (by kernel_rfl) (ow_store_box' (g := g_1) (j := 0) (v := .int .i64 (rem p0_0.N 1000000000001)) (vs := [.int .i64 (rem p0_0.N 1000000000001)]) (cs' := [.int .i64 (rem p0_0.N 1000000000001), .int .u8 p0_0.D]) sz_2 (by kernel_rfl) (by kernel_rfl) rfl rfl rfl hL h_1 rfl (by simp) rfl ?_)
  intro w_3 hS h_3
  replace h_2 := hS.box h_2 (hL.apart 0 1 rfl rfl (by decide) _ rfl)
  replace hB := hS.below hL hB
  replace hL := hS.hL
  refine wl_nil ?_
  refine then_n ?_
  refine cw_seq ?_
  refine cw_region ?_
  refine wl_val (v := .pointer (some ⟨g_1, 1, none⟩)) (w' := w_3) (by kernel_rfl) (run_fieldAddr (b := g_1) (o := 0) fo_23_1 (by kernel_rfl)) ?_
  refine wl_val (v := .int .u8 p0_0.D) (w' := w_3) (by kernel_rfl) (run_load_box1 (j := 1) Tryd.underlying5 rfl (by kernel_rfl) h_3 (by kernel_rfl)) ?_
  refine wl_val (v := .int .u8 (rem p0_0.D 7)) (w' := w_3) (by kernel_rfl) (run_rem (k := .u8) (a := p0_0.D) (b := 7) (by kernel_rfl) (by kernel_rfl) (by decide)) ?_
  refine wl_val (v := .pointer (some ⟨g_1, 1, none⟩)) (w' := w_3) (by kernel_rfl) (run_fieldAddr (b := g_1) (o := 0) fo_23_1 (by kernel_rfl)) ?_
  refine wl_op (by kernel_rfl) (ow_store_box' (g := g_1) (j := 1) (v := .int .u8 (rem p0_0.D 7)) (vs := [.int .u8 (rem p0_0.D 7)]) (cs' := [.int .i64 (rem p0_0.N 1000000000001), .int .u8 (rem p0_0.D 7)]) sz_5 (by kernel_rfl) (by kernel_rfl) rfl rfl rfl hL h_3 rfl (by simp) rfl ?_)
  intro w_4 hS h_4
  replace h_2 := hS.box h_2 (hL.apart 0 1 rfl rfl (by decide) _ rfl)
  replace hB := hS.below hL hB
  replace hL := hS.hL
  refine wl_nil ?_
  refine then_n ?_
  refine cw_cut (fun l' w' => ∃ d_3 d_4, ∃ u_6 : Nat → Value, l' = [.agg #[.int .i64 p0_0.N, .int .u8 p0_0.D], .pointer (some ⟨g_1, 0, none⟩), .pointer (some ⟨g_2, 0, none⟩), .pointer (some ⟨g_1, 0, none⟩), .int .i64 p0_0.N, .int .i64 (rem p0_0.N 1000000000001), .pointer (some ⟨g_1, 0, none⟩), .pointer (some ⟨g_1, 1, none⟩), .int .u8 p0_0.D, .int .u8 (rem p0_0.D 7), .pointer (some ⟨g_1, 1, none⟩), (u_6 0), (u_6 1), (u_6 2), (u_6 3), (u_6 4), (u_6 5), (u_6 6), (u_6 7), (u_6 8), (u_6 9), (u_6 10), (u_6 11), (u_6 12), (u_6 13), (u_6 14), (u_6 15), (u_6 16), undef] ∧ LOk w0.heap.size [some g_2, some g_1] F w' ∧ Below w0.heap.size w0 w' ∧ Bx w' g_1 [.int .i64 d_3, .int .u8 d_4] 23 ∧ Bx w' g_2 [.int .i64 0, .int .u8 0] 23 ∧ m9_J1 fuel d_3 d_4 = some r) ?_ ?_
  · refine cw_block ?_
    refine cw_loop (σ := Int × Int) (m9_L2 fuel ) r (fun s l' w' => ∃ u_9 : Nat → Value, l' = [.agg #[.int .i64 p0_0.N, .int .u8 p0_0.D], .pointer (some ⟨g_1, 0, none⟩), .pointer (some ⟨g_2, 0, none⟩), .pointer (some ⟨g_1, 0, none⟩), .int .i64 p0_0.N, .int .i64 (rem p0_0.N 1000000000001), .pointer (some ⟨g_1, 0, none⟩), .pointer (some ⟨g_1, 1, none⟩), .int .u8 p0_0.D, .int .u8 (rem p0_0.D 7), .pointer (some ⟨g_1, 1, none⟩), (u_9 0), (u_9 1), (u_9 2), (u_9 3), (u_9 4), (u_9 5), (u_9 6), (u_9 7), (u_9 8), (u_9 9), (u_9 10), (u_9 11), (u_9 12), (u_9 13), (u_9 14), (u_9 15), (u_9 16), undef] ∧ LOk w0.heap.size [some g_2, some g_1] F w' ∧ Below w0.heap.size w0 w' ∧ Bx w' g_1 [.int .i64 s.1, .int .u8 s.2] 23 ∧ Bx w' g_2 [.int .i64 0, .int .u8 0] 23) ?_ (s := ((rem p0_0.N 1000000000001), (rem p0_0.D 7))) (n := fuel) ⟨(fun i => ([undef, undef, undef, undef, undef, undef, undef, undef, undef, undef, undef, undef, undef, undef, undef, undef, undef] : List Value).getD i undef), by kernel_rfl, hL, hB, h_4, h_2⟩ hm
    intro self_1 s l1 w_17 hI hm
    obtain ⟨d_5, d_6⟩ := s
    try dsimp only at hI
    obtain ⟨u_9, rfl, hL, hB, h_4, h_2⟩ := hI
    unfold m9_L2 at hm
    refine cw_seq ?_
    refine cw_cut (fun l' w' => ∃ x_6, ∃ u_11 : Nat → Value, l' = [.agg #[.int .i64 p0_0.N, .int .u8 p0_0.D], .pointer (some ⟨g_1, 0, none⟩), .pointer (some ⟨g_2, 0, none⟩), .pointer (some ⟨g_1, 0, none⟩), .int .i64 p0_0.N, .int .i64 (rem p0_0.N 1000000000001), .pointer (some ⟨g_1, 0, none⟩), .pointer (some ⟨g_1, 1, none⟩), .int .u8 p0_0.D, .int .u8 (rem p0_0.D 7), .pointer (some ⟨g_1, 1, none⟩), (u_11 0), (u_11 1), (u_11 2), (u_11 3), (u_11 4), (u_11 5), (u_11 6), (u_11 7), .bool x_6, (u_9 9), (u_9 10), (u_9 11), (u_9 12), (u_9 13), (u_9 14), (u_9 15), (u_9 16), undef] ∧ LOk w0.heap.size [some g_2, some g_1] F w' ∧ Below w0.heap.size w0 w' ∧ Bx w' g_1 [.int .i64 d_5, .int .u8 d_6] 23 ∧ Bx w' g_2 [.int .i64 0, .int .u8 0] 23 ∧ m9_J3 fuel d_5 d_6 self_1 x_6 = some r) ?_ ?_
    · refine cw_region ?_
      refine wl_val (v := .pointer (some ⟨g_1, 1, none⟩)) (w' := w_17) (by kernel_rfl) (run_fieldAddr (b := g_1) (o := 0) fo_23_1 (by kernel_rfl)) ?_
      refine wl_val (v := .int .u8 d_6) (w' := w_17) (by kernel_rfl) (run_load_box1 (j := 1) Tryd.underlying5 rfl (by kernel_rfl) h_4 (by kernel_rfl)) ?_
      refine wl_val (v := .bool (gt d_6 0)) (w' := w_17) (by kernel_rfl) (run_gt (k := .u8) (a := d_6) (b := 0) (by kernel_rfl) (by kernel_rfl)) ?_
      refine wl_val (v := .bool (gt d_6 0)) (w' := w_17) (by kernel_rfl) (run_move (v := .bool (gt d_6 0)) (by kernel_rfl)) ?_
      rcases Bool.eq_false_or_eq_true (gt d_6 0) with hc_13 | hc_13
      · have hm := ite_t hm hc_13
        refine wl_val (v := .pointer (some ⟨g_1, 0, none⟩)) (w' := w_17) (wg (c := (gt d_6 0)) (want := true) (by kernel_rfl) hc_13 rfl) (run_fieldAddr (b := g_1) (o := 0) fo_23_0 (by kernel_rfl)) ?_
        refine wl_val (v := .int .i64 d_5) (w' := w_17) (wg (c := (gt d_6 0)) (want := true) (by kernel_rfl) hc_13 rfl) (run_load_box1 (j := 0) Tryd.underlying2 rfl (by kernel_rfl) h_4 (by kernel_rfl)) ?_
        refine wl_val (v := .int .i64 (rem d_5 10)) (w' := w_17) (wg (c := (gt d_6 0)) (want := true) (by kernel_rfl) hc_13 rfl) (run_rem (k := .i64) (a := d_5) (b := 10) (by kernel_rfl) (by kernel_rfl) (by decide)) ?_
        refine wl_val (v := .bool (eqi (rem d_5 10) 0)) (w' := w_17) (wg (c := (gt d_6 0)) (want := true) (by kernel_rfl) hc_13 rfl) (run_eqi (k := .i64) (a := (rem d_5 10)) (b := 0) (by kernel_rfl) (by kernel_rfl)) ?_
        refine wl_val (v := .bool (eqi (rem d_5 10) 0)) (w' := w_17) (by kernel_rfl) (run_pick_t (v := .bool (eqi (rem d_5 10) 0)) (tr2 (c := (gt d_6 0)) (by kernel_rfl) hc_13) (by kernel_rfl)) ?_
        refine wl_nil ?_
        exact then_c ⟨(eqi (rem d_5 10) 0), (fun i => ([.pointer (some ⟨g_1, 1, none⟩), .int .u8 d_6, .bool (gt d_6 0), .bool (gt d_6 0), .pointer (some ⟨g_1, 0, none⟩), .int .i64 d_5, .int .i64 (rem d_5 10), .bool (eqi (rem d_5 10) 0)] : List Value).getD i undef), by kernel_rfl, hL, hB, h_4, h_2, hm⟩
      · have hm := ite_f hm hc_13
        refine wl_not (wg (c := (gt d_6 0)) (want := true) (by kernel_rfl) hc_13 rfl) ?_
        refine wl_not (wg (c := (gt d_6 0)) (want := true) (by kernel_rfl) hc_13 rfl) ?_
        refine wl_not (wg (c := (gt d_6 0)) (want := true) (by kernel_rfl) hc_13 rfl) ?_
        refine wl_not (wg (c := (gt d_6 0)) (want := true) (by kernel_rfl) hc_13 rfl) ?_
        refine wl_val (v := .bool false) (w' := w_17) (by kernel_rfl) (run_pick_f (v := .bool false) (tr2 (c := (gt d_6 0)) (by kernel_rfl) hc_13) (by kernel_rfl)) ?_
        refine wl_nil ?_
        exact then_c ⟨false, (fun i => ([.pointer (some ⟨g_1, 1, none⟩), .int .u8 d_6, .bool (gt d_6 0), .bool (gt d_6 0), undef, undef, undef, undef] : List Value).getD i undef), by kernel_rfl, hL, hB, h_4, h_2, hm⟩
    · intro l1 w_18 hI
      obtain ⟨x_6, u_11, rfl, hL, hB, h_4, h_2, hm⟩ := hI
      unfold m9_J3 at hm
      refine cw_cond (t := x_6) (by kernel_rfl) (fun hc_12 => ?_) (fun hc_12 => ?_)
      · have hm := ite_t hm hc_12
        refine cw_skip ?_
        refine then_n ?_
        refine cw_block ?_
        refine cw_region ?_
        refine wl_val (v := .pointer (some ⟨g_1, 0, none⟩)) (w' := w_18) (by kernel_rfl) (run_fieldAddr (b := g_1) (o := 0) fo_23_0 (by kernel_rfl)) ?_
        refine wl_val (v := .int .i64 d_5) (w' := w_18) (by kernel_rfl) (run_load_box1 (j := 0) Tryd.underlying2 rfl (by kernel_rfl) h_4 (by kernel_rfl)) ?_
        refine wl_val (v := .int .i64 (quo .i64 d_5 10)) (w' := w_18) (by kernel_rfl) (run_quo (k := .i64) (a := d_5) (b := 10) (by kernel_rfl) (by kernel_rfl) (by decide)) ?_
        refine wl_val (v := .pointer (some ⟨g_1, 1, none⟩)) (w' := w_18) (by kernel_rfl) (run_fieldAddr (b := g_1) (o := 0) fo_23_1 (by kernel_rfl)) ?_
        refine wl_val (v := .int .u8 d_6) (w' := w_18) (by kernel_rfl) (run_load_box1 (j := 1) Tryd.underlying5 rfl (by kernel_rfl) h_4 (by kernel_rfl)) ?_
        refine wl_val (v := .int .u8 (sub .u8 d_6 1)) (w' := w_18) (by kernel_rfl) (run_sub (k := .u8) (a := d_6) (b := 1) (by kernel_rfl) (by kernel_rfl)) ?_
        refine wl_val (v := .pointer (some ⟨g_1, 0, none⟩)) (w' := w_18) (by kernel_rfl) (run_fieldAddr (b := g_1) (o := 0) fo_23_0 (by kernel_rfl)) ?_
        refine wl_op (by kernel_rfl) (ow_store_box' (g := g_1) (j := 0) (v := .int .i64 (quo .i64 d_5 10)) (vs := [.int .i64 (quo .i64 d_5 10)]) (cs' := [.int .i64 (quo .i64 d_5 10), .int .u8 d_6]) sz_2 (by kernel_rfl) (by kernel_rfl) rfl rfl rfl hL h_4 rfl (by simp) rfl ?_)
        intro w_19 hS h_16
        replace h_2 := hS.box h_2 (hL.apart 0 1 rfl rfl (by decide) _ rfl)
        replace hB := hS.below hL hB
        replace hL := hS.hL
        refine wl_val (v := .pointer (some ⟨g_1, 1, none⟩)) (w' := w_19) (by kernel_rfl) (run_fieldAddr (b := g_1) (o := 0) fo_23_1 (by kernel_rfl)) ?_
        refine wl_op (by kernel_rfl) (ow_store_box' (g := g_1) (j := 1) (v := .int .u8 (sub .u8 d_6 1)) (vs := [.int .u8 (sub .u8 d_6 1)]) (cs' := [.int .i64 (quo .i64 d_5 10), .int .u8 (sub .u8 d_6 1)]) sz_5 (by kernel_rfl) (by kernel_rfl) rfl rfl rfl hL h_16 rfl (by simp) rfl ?_)
        intro w_20 hS h_17
        replace h_2 := hS.box h_2 (hL.apart 0 1 rfl rfl (by decide) _ rfl)
        replace hB := hS.below hL hB
        replace hL := hS.hL
        refine wl_nil ?_
        refine inBlock_n ?_
        exact ⟨_, rfl, ((quo .i64 d_5 10), (sub .u8 d_6 1)), ⟨(fun i => ([(u_11 0), (u_11 1), (u_11 2), (u_11 3), (u_11 4), (u_11 5), (u_11 6), (u_11 7), .bool x_6, .pointer (some ⟨g_1, 0, none⟩), .int .i64 d_5, .int .i64 (quo .i64 d_5 10), .pointer (some ⟨g_1, 1, none⟩), .int .u8 d_6, .int .u8 (sub .u8 d_6 1), .pointer (some ⟨g_1, 0, none⟩), .pointer (some ⟨g_1, 1, none⟩)] : List Value).getD i undef), by kernel_rfl, hL, hB, h_17, h_2⟩, hm⟩
      · have hm := ite_f hm hc_12
        refine cw_exit ?_
        refine then_exit ?_
        refine then_exit ?_
        refine inBlock_same ?_
        exact then_c ⟨d_5, d_6, (fun i => ([(u_11 0), (u_11 1), (u_11 2), (u_11 3), (u_11 4), (u_11 5), (u_11 6), (u_11 7), .bool x_6, (u_9 9), (u_9 10), (u_9 11), (u_9 12), (u_9 13), (u_9 14), (u_9 15), (u_9 16)] : List Value).getD i undef), by kernel_rfl, hL, hB, h_4, h_2, hm⟩
  · intro l1 w_11 hI
    obtain ⟨d_3, d_4, u_6, rfl, hL, hB, h_4, h_2, hm⟩ := hI
    unfold m9_J1 at hm
    refine cw_seq ?_
    refine cw_region ?_
    refine wl_val (v := .agg #[.int .i64 d_3, .int .u8 d_4]) (w' := w_11) (by kernel_rfl) (run_load_boxn (j := 0) (vs := [.int .i64 d_3, .int .u8 d_4]) Tryd.underlying23 rfl sz_23 (by kernel_rfl) h_4 (by kernel_rfl) rfl) ?_
    refine wl_op (by kernel_rfl) (ow_store_box' (g := g_2) (j := 0) (v := .agg #[.int .i64 d_3, .int .u8 d_4]) (vs := [.int .i64 d_3, .int .u8 d_4]) (cs' := [.int .i64 d_3, .int .u8 d_4]) sz_23 (by kernel_rfl) (by kernel_rfl) rfl rfl rfl hL h_2 rfl (by simp) rfl ?_)
    intro w_12 hS h_11
    replace h_4 := hS.box h_4 (hL.apart 1 0 rfl rfl (by decide) _ rfl)
    replace hB := hS.below hL hB
    replace hL := hS.hL
    refine wl_nil ?_
    refine then_n ?_
    refine cw_ret ?_
    have hl0 := loadVar_boxn (P := Tryd.prog) (j := 0) (vs := [.int .i64 d_3, .int .u8 d_4]) Tryd.underlying23 rfl sz_23 h_11 (by kernel_rfl) rfl
    have hS : Stp w0.heap.size _ [] F [] w_12 _ := Stp.pick hL [] rfl (by decide)
    replace hB := hS.below hL hB
    replace hL := hS.hL
    obtain rfl := Option.some.inj hm
    exact ret1 (v := .agg #[.int .i64 d_3, .int .u8 d_4]) rfl (resv_cell (ad := ⟨g_2, 0, none⟩) (by kernel_rfl) hl0) ⟨_, rfl, by kernel_rfl, hB⟩
end SxYtihfogahdofdmaaDoor

end

section
/- Written by program (gen.py): the model of saucier/units.Right, and the proof that its code computes it. -/
namespace SxYtihfogahdofdmaaDoor
open Go Go.RowKit Sx Go.Proofs
set_option linter.unusedVariables false
set_option linter.unusedSimpArgs false
attribute [local irreducible] WL WX CW OW
/-! ### 14: "saucier/units.Right" -/
def m14_J1 (fuel : Nat) (x_1 : Bool) : Option Bool :=
  some x_1
def m14 (fuel : Nat) (p0_0 : TDec) : Option Bool :=
  if (ge p0_0.N (-1000000000000)) then (if (le p0_0.N 1000000000000) then (if (le p0_0.D 6) then (if (eqi p0_0.D 0) then (m14_J1 fuel  true) else (m14_J1 fuel  (nei (rem p0_0.N 10) 0))) else (m14_J1 fuel  false)) else (m14_J1 fuel  false)) else (m14_J1 fuel  false)
@[reducible] def Q14 (F : Lx) (w0 : World) (r : Bool) (v : Value) (w' : World) : Prop := v = .bool r ∧ Below w0.heap.size w0 w'
set_option maxRecDepth 100000 in
set_option maxHeartbeats 4000000 in
theorem f14_ok (fuel : Nat) (F : Lx) (w0 : World) (hF : ∀ k, some k ∈ F → k < w0.heap.size) {p0_0 : TDec} {r : Bool} (hm : m14 fuel p0_0 = some r) :
    Calls Tryd.prog 14 #[.agg #[.int .i64 p0_0.N, .int .u8 p0_0.D]] w0 (fun e w' => ∃ v, e = .returned v ∧ Q14 F w0 r v w') := by
  have hPF : PF (bodyPost Tryd.prog Tryd.f14 (fun e w' => ∃ v, e = .returned v ∧ Q14 F w0 r v w')) := PF.body (fun c w h => by obtain ⟨v, e, _⟩ := h; cases e)
  have hL := LOk.start hF
  have hB := Below.refl w0.heap.size w0
  unfold m14 at hm
  refine enter (l := [.agg #[.int .i64 p0_0.N, .int .u8 p0_0.D], undef, undef, undef, undef, undef, undef, undef, undef, undef, undef, undef, undef, undef, undef, undef, undef, undef, undef, undef, undef, undef, undef, undef, undef, undef, undef]) Tryd.func14 rfl Tryd.ntmps14 (by kernel_rfl) ?_
  refine cw_seq ?_
  refine cw_region ?_
  refine wl_op (by kernel_rfl) (ow_box' (v := .agg #[.int .i64 p0_0.N, .int .u8 p0_0.D]) (vs := [.int .i64 p0_0.N, .int .u8 p0_0.D]) (by kernel_rfl) rfl hL ?_)
  intro g_1 w_1 hS h_1
  replace hB := hS.below hL hB
  replace hL := hS.hL
  refine wl_val (v := .bool false) (w' := w_1) (by kernel_rfl) (run_assign (v := .bool false) (by kernel_rfl)) ?_
  refine wl_nil ?_
  refine then_n ?_
  refine cw_cut (fun l' w' => ∃ x_1, ∃ u_1 : Nat → Value, l' = [.agg #[.int .i64 p0_0.N, .int .u8 p0_0.D], .pointer (some ⟨g_1, 0, none⟩), .bool x_1, (u_1 0), (u_1 1), (u_1 2), (u_1 3), (u_1 4), (u_1 5), (u_1 6), (u_1 7), (u_1 8), (u_1 9), (u_1 10), (u_1 11), (u_1 12), (u_1 13), (u_1 14), (u_1 15), (u_1 16), (u_1 17), (u_1 18), (u_1 19), (u_1 20), (u_1 21), (u_1 22), (u_1 23)] ∧ LOk w0.heap.size [] F w' ∧ Below w0.heap.size w0 w' ∧ m14_J1 fuel x_1 = some r) ?_ ?_
  · refine cw_region ?_
    refine wl_val (v := .pointer (some ⟨g_1, 0, none⟩)) (w' := w_1) (by kernel_rfl) (run_fieldAddr (b := g_1) (o := 0) fo_23_0 (by kernel_rfl)) ?_
    refine wl_val (v := .int .i64 p0_0.N) (w' := w_1) (by kernel_rfl) (run_load_box1 (j := 0) Tryd.underlying2 rfl (by kernel_rfl) h_1 (by kernel_rfl)) ?_
    refine wl_val (v := .bool (ge p0_0.N (-1000000000000))) (w' := w_1) (by kernel_rfl) (run_ge (k := .i64) (a := p0_0.N) (b := (-1000000000000)) (by kernel_rfl) (by kernel_rfl)) ?_
    refine wl_val (v := .bool (ge p0_0.N (-1000000000000))) (w' := w_1) (by kernel_rfl) (run_move (v := .bool (ge p0_0.N (-1000000000000))) (by kernel_rfl)) ?_
    rcases Bool.eq_false_or_eq_true (ge p0_0.N (-1000000000000)) with hc_5 | hc_5
    · have hm := ite_t hm hc_5
      refine wl_val (v := .pointer (some ⟨g_1, 0, none⟩)) (w' := w_1) (wg (c := (ge p0_0.N (-1000000000000))) (want := true) (by kernel_rfl) hc_5 rfl) (run_fieldAddr (b := g_1) (o := 0) fo_23_0 (by kernel_rfl)) ?_
      refine wl_val (v := .int .i64 p0_0.N) (w' := w_1) (wg (c := (ge p0_0.N (-1000000000000))) (want := true) (by kernel_rfl) hc_5 rfl) (run_load_box1 (j := 0) Tryd.underlying2 rfl (by kernel_rfl) h_1 (by kernel_rfl)) ?_
      refine wl_val (v := .bool (le p0_0.N 1000000000000)) (w' := w_1) (wg (c := (ge p0_0.N (-1000000000000))) (want := true) (by kernel_rfl) hc_5 rfl) (run_le (k := .i64) (a := p0_0.N) (b := 1000000000000) (by kernel_rfl) (by kernel_rfl)) ?_
      refine wl_val (v := .bool (le p0_0.N 1000000000000)) (w' := w_1) (by kernel_rfl) (run_pick_t (v := .bool (le p0_0.N 1000000000000)) (tr2 (c := (ge p0_0.N (-1000000000000))) (by kernel_rfl) hc_5) (by kernel_rfl)) ?_
      refine wl_val (v := .bool (le p0_0.N 1000000000000)) (w' := w_1) (by kernel_rfl) (run_move (v := .bool (le p0_0.N 1000000000000)) (by kernel_rfl)) ?_
      refine wl_norm [.agg #[.int .i64 p0_0.N, .int .u8 p0_0.D], .pointer (some ⟨g_1, 0, none⟩), .bool false, .pointer (some ⟨g_1, 0, none⟩), .int .i64 p0_0.N, .bool (ge p0_0.N (-1000000000000)), .bool (ge p0_0.N (-1000000000000)), .pointer (some ⟨g_1, 0, none⟩), .int .i64 p0_0.N, .bool (le p0_0.N 1000000000000), .bool (le p0_0.N 1000000000000), .bool (le p0_0.N 1000000000000), undef, undef, undef, undef, undef, undef, undef, undef, undef, undef, undef, undef, undef, undef, undef] (by kernel_rfl) ?_
      rcases Bool.eq_false_or_eq_true (le p0_0.N 1000000000000) with hc_6 | hc_6
      · have hm := ite_t hm hc_6
        refine wl_val (v := .pointer (some ⟨g_1, 1, none⟩)) (w' := w_1) (wg (c := (le p0_0.N 1000000000000)) (want := true) (by kernel_rfl) hc_6 rfl) (run_fieldAddr (b := g_1) (o := 0) fo_23_1 (by kernel_rfl)) ?_
        refine wl_val (v := .int .u8 p0_0.D) (w' := w_1) (wg (c := (le p0_0.N 1000000000000)) (want := true) (by kernel_rfl) hc_6 rfl) (run_load_box1 (j := 1) Tryd.underlying5 rfl (by kernel_rfl) h_1 (by kernel_rfl)) ?_
        refine wl_val (v := .bool (le p0_0.D 6)) (w' := w_1) (wg (c := (le p0_0.N 1000000000000)) (want := true) (by kernel_rfl) hc_6 rfl) (run_le (k := .u8) (a := p0_0.D) (b := 6) (by kernel_rfl) (by kernel_rfl)) ?_
        refine wl_val (v := .bool (le p0_0.D 6)) (w' := w_1) (by kernel_rfl) (run_pick_t (v := .bool (le p0_0.D 6)) (tr2 (c := (le p0_0.N 1000000000000)) (by kernel_rfl) hc_6) (by kernel_rfl)) ?_
        refine wl_val (v := .bool (le p0_0.D 6)) (w' := w_1) (by kernel_rfl) (run_move (v := .bool (le p0_0.D 6)) (by kernel_rfl)) ?_
        rcases Bool.eq_false_or_eq_true (le p0_0.D 6) with hc_7 | hc_7
        · have hm := ite_t hm hc_7
          refine wl_val (v := .pointer (some ⟨g_1, 1, none⟩)) (w' := w_1) (wg (c := (le p0_0.D 6)) (want := true) (by kernel_rfl) hc_7 rfl) (run_fieldAddr (b := g_1) (o := 0) fo_23_1 (by kernel_rfl)) ?_
          refine wl_val (v := .int .u8 p0_0.D) (w' := w_1) (wg (c := (le p0_0.D 6)) (want := true) (by kernel_rfl) hc_7 rfl) (run_load_box1 (j := 1) Tryd.underlying5 rfl (by kernel_rfl) h_1 (by kernel_rfl)) ?_
          refine wl_val (v := .bool (eqi p0_0.D 0)) (w' := w_1) (wg (c := (le p0_0.D 6)) (want := true) (by kernel_rfl) hc_7 rfl) (run_eqi (k := .u8) (a := p0_0.D) (b := 0) (by kernel_rfl) (by kernel_rfl)) ?_
          refine wl_val (v := .bool (eqi p0_0.D 0)) (w' := w_1) (wg (c := (le p0_0.D 6)) (want := true) (by kernel_rfl) hc_7 rfl) (run_move (v := .bool (eqi p0_0.D 0)) (by kernel_rfl)) ?_
          refine wl_norm [.agg #[.int .i64 p0_0.N, .int .u8 p0_0.D], .pointer (some ⟨g_1, 0, none⟩), .bool false, .pointer (some ⟨g_1, 0, none⟩), .int .i64 p0_0.N, .bool (ge p0_0.N (-1000000000000)), .bool (ge p0_0.N (-1000000000000)), .pointer (some ⟨g_1, 0, none⟩), .int .i64 p0_0.N, .bool (le p0_0.N 1000000000000), .bool (le p0_0.N 1000000000000), .bool (le p0_0.N 1000000000000), .pointer (some ⟨g_1, 1, none⟩), .int .u8 p0_0.D, .bool (le p0_0.D 6), .bool (le p0_0.D 6), .bool (le p0_0.D 6), .pointer (some ⟨g_1, 1, none⟩), .int .u8 p0_0.D, .bool (eqi p0_0.D 0), .bool (eqi p0_0.D 0), undef, undef, undef, undef, undef, undef] (by kernel_rfl) ?_
          rcases Bool.eq_false_or_eq_true (eqi p0_0.D 0) with hc_8 | hc_8
          · have hm := ite_t hm hc_8
            refine wl_not0 (wg (c := (eqi p0_0.D 0)) (want := false) (by kernel_rfl) hc_8 rfl) (by kernel_rfl) ?_
            refine wl_not0 (wg (c := (eqi p0_0.D 0)) (want := false) (by kernel_rfl) hc_8 rfl) (by kernel_rfl) ?_
            refine wl_not0 (wg (c := (eqi p0_0.D 0)) (want := false) (by kernel_rfl) hc_8 rfl) (by kernel_rfl) ?_
            refine wl_not0 (wg (c := (eqi p0_0.D 0)) (want := false) (by kernel_rfl) hc_8 rfl) (by kernel_rfl) ?_
            refine wl_val (v := .bool true) (w' := w_1) (wg (c := (le p0_0.D 6)) (want := true) (by kernel_rfl) hc_7 rfl) (run_pick_t (v := .bool true) (tr2 (c := (eqi p0_0.D 0)) (by kernel_rfl) hc_8) (by kernel_rfl)) ?_
            refine wl_val (v := .bool true) (w' := w_1) (by kernel_rfl) (run_pick_t (v := .bool true) (tr2 (c := (le p0_0.D 6)) (by kernel_rfl) hc_7) (by kernel_rfl)) ?_
            refine wl_val (v := .bool true) (w' := w_1) (by kernel_rfl) (run_assign (v := .bool true) (by kernel_rfl)) ?_
            refine wl_nil ?_
            have hS : Stp w0.heap.size _ [] F [] w_1 _ := Stp.pick hL [] rfl (by decide)
            replace hB := hS.below hL hB
            replace hL := hS.hL
            exact then_c ⟨true, (fun i => ([.pointer (some ⟨g_1, 0, none⟩), .int .i64 p0_0.N, .bool (ge p0_0.N (-1000000000000)), .bool (ge p0_0.N (-1000000000000)), .pointer (some ⟨g_1, 0, none⟩), .int .i64 p0_0.N, .bool (le p0_0.N 1000000000000), .bool (le p0_0.N 1000000000000), .bool (le p0_0.N 1000000000000), .pointer (some ⟨g_1, 1, none⟩), .int .u8 p0_0.D, .bool (le p0_0.D 6), .bool (le p0_0.D 6), .bool (le p0_0.D 6), .pointer (some ⟨g_1, 1, none⟩), .int .u8 p0_0.D, .bool (eqi p0_0.D 0), .bool (eqi p0_0.D 0), undef, undef, undef, undef, .bool true, .bool true] : List Value).getD i undef), by kernel_rfl, hL, hB, hm⟩
          · have hm := ite_f hm hc_8
            refine wl_val (v := .pointer (some ⟨g_1, 0, none⟩)) (w' := w_1) (wg (c := (eqi p0_0.D 0)) (want := false) (by kernel_rfl) hc_8 rfl) (run_fieldAddr (b := g_1) (o := 0) fo_23_0 (by kernel_rfl)) ?_
            refine wl_val (v := .int .i64 p0_0.N) (w' := w_1) (wg (c := (eqi p0_0.D 0)) (want := false) (by kernel_rfl) hc_8 rfl) (run_load_box1 (j := 0) Tryd.underlying2 rfl (by kernel_rfl) h_1 (by kernel_rfl)) ?_
            refine wl_val (v := .int .i64 (rem p0_0.N 10)) (w' := w_1) (wg (c := (eqi p0_0.D 0)) (want := false) (by kernel_rfl) hc_8 rfl) (run_rem (k := .i64) (a := p0_0.N) (b := 10) (by kernel_rfl) (by kernel_rfl) (by decide)) ?_
            refine wl_val (v := .bool (nei (rem p0_0.N 10) 0)) (w' := w_1) (wg (c := (eqi p0_0.D 0)) (want := false) (by kernel_rfl) hc_8 rfl) (run_nei (k := .i64) (a := (rem p0_0.N 10)) (b := 0) (by kernel_rfl) (by kernel_rfl)) ?_
            refine wl_val (v := .bool (nei (rem p0_0.N 10) 0)) (w' := w_1) (wg (c := (le p0_0.D 6)) (want := true) (by kernel_rfl) hc_7 rfl) (run_pick_f (v := .bool (nei (rem p0_0.N 10) 0)) (tr2 (c := (eqi p0_0.D 0)) (by kernel_rfl) hc_8) (by kernel_rfl)) ?_
            refine wl_val (v := .bool (nei (rem p0_0.N 10) 0)) (w' := w_1) (by kernel_rfl) (run_pick_t (v := .bool (nei (rem p0_0.N 10) 0)) (tr2 (c := (le p0_0.D 6)) (by kernel_rfl) hc_7) (by kernel_rfl)) ?_
            refine wl_val (v := .bool (nei (rem p0_0.N 10) 0)) (w' := w_1) (by kernel_rfl) (run_assign (v := .bool (nei (rem p0_0.N 10) 0)) (by kernel_rfl)) ?_
            refine wl_nil ?_
            have hS : Stp w0.heap.size _ [] F [] w_1 _ := Stp.pick hL [] rfl (by decide)
            replace hB := hS.below hL hB
            replace hL := hS.hL
            exact then_c ⟨(nei (rem p0_0.N 10) 0), (fun i => ([.pointer (some ⟨g_1, 0, none⟩), .int .i64 p0_0.N, .bool (ge p0_0.N (-1000000000000)), .bool (ge p0_0.N (-1000000000000)), .pointer (some ⟨g_1, 0, none⟩), .int .i64 p0_0.N, .bool (le p0_0.N 1000000000000), .bool (le p0_0.N 1000000000000), .bool (le p0_0.N 1000000000000), .pointer (some ⟨g_1, 1, none⟩), .int .u8 p0_0.D, .bool (le p0_0.D 6), .bool (le p0_0.D 6), .bool (le p0_0.D 6), .pointer (some ⟨g_1, 1, none⟩), .int .u8 p0_0.D, .bool (eqi p0_0.D 0), .bool (eqi p0_0.D 0), .pointer (some ⟨g_1, 0, none⟩), .int .i64 p0_0.N, .int .i64 (rem p0_0.N 10), .bool (nei (rem p0_0.N 10) 0), .bool (nei (rem p0_0.N 10) 0), .bool (nei (rem p0_0.N 10) 0)] : List Value).getD i undef), by kernel_rfl, hL, hB, hm⟩
        · have hm := ite_f hm hc_7
          refine wl_not0 (wg (c := (le p0_0.D 6)) (want := true) (by kernel_rfl) hc_7 rfl) (by kernel_rfl) ?_
          refine wl_not0 (wg (c := (le p0_0.D 6)) (want := true) (by kernel_rfl) hc_7 rfl) (by kernel_rfl) ?_
          refine wl_not0 (wg (c := (le p0_0.D 6)) (want := true) (by kernel_rfl) hc_7 rfl) (by kernel_rfl) ?_
          refine wl_not0 (wg (c := (le p0_0.D 6)) (want := true) (by kernel_rfl) hc_7 rfl) (by kernel_rfl) ?_
          refine wl_not0 (by kernel_rfl) (by kernel_rfl) ?_
          refine wl_not0 (by kernel_rfl) (by kernel_rfl) ?_
          refine wl_not0 (by kernel_rfl) (by kernel_rfl) ?_
          refine wl_not0 (by kernel_rfl) (by kernel_rfl) ?_
          refine wl_not0 (wg (c := (le p0_0.D 6)) (want := true) (by kernel_rfl) hc_7 rfl) (by kernel_rfl) ?_
          refine wl_val (v := .bool false) (w' := w_1) (by kernel_rfl) (run_pick_f (v := .bool false) (tr2 (c := (le p0_0.D 6)) (by kernel_rfl) hc_7) (by kernel_rfl)) ?_
          refine wl_val (v := .bool false) (w' := w_1) (by kernel_rfl) (run_assign (v := .bool false) (by kernel_rfl)) ?_
          refine wl_nil ?_
          have hS : Stp w0.heap.size _ [] F [] w_1 _ := Stp.pick hL [] rfl (by decide)
          replace hB := hS.below hL hB
          replace hL := hS.hL
          exact then_c ⟨false, (fun i => ([.pointer (some ⟨g_1, 0, none⟩), .int .i64 p0_0.N, .bool (ge p0_0.N (-1000000000000)), .bool (ge p0_0.N (-1000000000000)), .pointer (some ⟨g_1, 0, none⟩), .int .i64 p0_0.N, .bool (le p0_0.N 1000000000000), .bool (le p0_0.N 1000000000000), .bool (le p0_0.N 1000000000000), .pointer (some ⟨g_1, 1, none⟩), .int .u8 p0_0.D, .bool (le p0_0.D 6), .bool (le p0_0.D 6), .bool (le p0_0.D 6), undef, undef, undef, undef, undef, undef, undef, undef, undef, .bool false] : List Value).getD i undef), by kernel_rfl, hL, hB, hm⟩
      · have hm := ite_f hm hc_6
        refine wl_not0 (wg (c := (le p0_0.N 1000000000000)) (want := true) (by kernel_rfl) hc_6 rfl) (by kernel_rfl) ?_
        refine wl_not0 (wg (c := (le p0_0.N 1000000000000)) (want := true) (by kernel_rfl) hc_6 rfl) (by kernel_rfl) ?_
        refine wl_not0 (wg (c := (le p0_0.N 1000000000000)) (want := true) (by kernel_rfl) hc_6 rfl) (by kernel_rfl) ?_
        refine wl_val (v := .bool false) (w' := w_1) (by kernel_rfl) (run_pick_f (v := .bool false) (tr2 (c := (le p0_0.N 1000000000000)) (by kernel_rfl) hc_6) (by kernel_rfl)) ?_
        refine wl_val (v := .bool false) (w' := w_1) (by kernel_rfl) (run_move (v := .bool false) (by kernel_rfl)) ?_
        refine wl_not0 (by kernel_rfl) (by kernel_rfl) ?_
        refine wl_not0 (by kernel_rfl) (by kernel_rfl) ?_
        refine wl_not0 (by kernel_rfl) (by kernel_rfl) ?_
        refine wl_not0 (by kernel_rfl) (by kernel_rfl) ?_
        refine wl_not0 (by kernel_rfl) (by kernel_rfl) ?_
        refine wl_not0 (by kernel_rfl) (by kernel_rfl) ?_
        refine wl_not0 (by kernel_rfl) (by kernel_rfl) ?_
        refine wl_not0 (by kernel_rfl) (by kernel_rfl) ?_
        refine wl_not0 (by kernel_rfl) (by kernel_rfl) ?_
        refine wl_val (v := .bool false) (w' := w_1) (by kernel_rfl) (run_pick_f (v := .bool false) (by kernel_rfl) (by kernel_rfl)) ?_
        refine wl_val (v := .bool false) (w' := w_1) (by kernel_rfl) (run_assign (v := .bool false) (by kernel_rfl)) ?_
        refine wl_nil ?_
        have hS : Stp w0.heap.size _ [] F [] w_1 _ := Stp.pick hL [] rfl (by decide)
        replace hB := hS.below hL hB
        replace hL := hS.hL
        exact then_c ⟨false, (fun i => ([.pointer (some ⟨g_1, 0, none⟩), .int .i64 p0_0.N, .bool (ge p0_0.N (-1000000000000)), .bool (ge p0_0.N (-1000000000000)), .pointer (some ⟨g_1, 0, none⟩), .int .i64 p0_0.N, .bool (le p0_0.N 1000000000000), .bool (le p0_0.N 1000000000000), .bool (le p0_0.N 1000000000000), undef, undef, undef, .bool false, .bool false, undef, undef, undef, undef, undef, undef, undef, undef, undef, .bool false] : List Value).getD i undef), by kernel_rfl, hL, hB, hm⟩
    · have hm := ite_f hm hc_5
      refine wl_not0 (wg (c := (ge p0_0.N (-1000000000000))) (want := true) (by kernel_rfl) hc_5 rfl) (by kernel_rfl) ?_
      refine wl_not0 (wg (c := (ge p0_0.N (-1000000000000))) (want := true) (by kernel_rfl) hc_5 rfl) (by kernel_rfl) ?_
      refine wl_not0 (wg (c := (ge p0_0.N (-1000000000000))) (want := true) (by kernel_rfl) hc_5 rfl) (by kernel_rfl) ?_
      refine wl_val (v := .bool false) (w' := w_1) (by kernel_rfl) (run_pick_f (v := .bool false) (tr2 (c := (ge p0_0.N (-1000000000000))) (by kernel_rfl) hc_5) (by kernel_rfl)) ?_
      refine wl_val (v := .bool false) (w' := w_1) (by kernel_rfl) (run_move (v := .bool false) (by kernel_rfl)) ?_
      refine wl_not0 (by kernel_rfl) (by kernel_rfl) ?_
      refine wl_not0 (by kernel_rfl) (by kernel_rfl) ?_
      refine wl_not0 (by kernel_rfl) (by kernel_rfl) ?_
      refine wl_val (v := .bool false) (w' := w_1) (by kernel_rfl) (run_pick_f (v := .bool false) (by kernel_rfl) (by kernel_rfl)) ?_
      refine wl_val (v := .bool false) (w' := w_1) (by kernel_rfl) (run_move (v := .bool false) (by kernel_rfl)) ?_
      refine wl_norm [.agg #[.int .i64 p0_0.N, .int .u8 p0_0.D], .pointer (some ⟨g_1, 0, none⟩), .bool false, .pointer (some ⟨g_1, 0, none⟩), .int .i64 p0_0.N, .bool (ge p0_0.N (-1000000000000)), .bool (ge p0_0.N (-1000000000000)), undef, undef, undef, .bool false, .bool false, undef, undef, undef, .bool false, .bool false, undef, undef, undef, undef, undef, undef, undef, undef, undef, undef] (by kernel_rfl) ?_
      refine wl_not0 (by kernel_rfl) (by kernel_rfl) ?_
      refine wl_not0 (by kernel_rfl) (by kernel_rfl) ?_
      refine wl_not0 (by kernel_rfl) (by kernel_rfl) ?_
      refine wl_not0 (by kernel_rfl) (by kernel_rfl) ?_
      refine wl_not0 (by kernel_rfl) (by kernel_rfl) ?_
      refine wl_not0 (by kernel_rfl) (by kernel_rfl) ?_
      refine wl_not0 (by kernel_rfl) (by kernel_rfl) ?_
      refine wl_not0 (by kernel_rfl) (by kernel_rfl) ?_
      refine wl_not0 (by kernel_rfl) (by kernel_rfl) ?_
      refine wl_val (v := .bool false) (w' := w_1) (by kernel_rfl) (run_pick_f (v := .bool false) (by kernel_rfl) (by kernel_rfl)) ?_
      refine wl_val (v := .bool false) (w' := w_1) (by kernel_rfl) (run_assign (v := .bool false) (by kernel_rfl)) ?_
      refine wl_nil ?_
      have hS : Stp w0.heap.size _ [] F [] w_1 _ := Stp.pick hL [] rfl (by decide)
      replace hB := hS.below hL hB
      replace hL := hS.hL
      exact then_c ⟨false, (fun i => ([.pointer (some ⟨g_1, 0, none⟩), .int .i64 p0_0.N, .bool (ge p0_0.N (-1000000000000)), .bool (ge p0_0.N (-1000000000000)), undef, undef, undef, .bool false, .bool false, undef, undef, undef, .bool false, .bool false, undef, undef, undef, undef, undef, undef, undef, undef, undef, .bool false] : List Value).getD i undef), by kernel_rfl, hL, hB, hm⟩
  · intro l1 w_2 hI
    obtain ⟨x_1, u_1, rfl, hL, hB, hm⟩ := hI
    unfold m14_J1 at hm
    refine cw_ret ?_
    obtain rfl := Option.some.inj hm
    exact ret1 (v := .bool x_1) rfl (resv_tmp (by kernel_rfl)) ⟨_, rfl, by kernel_rfl, hB⟩
end SxYtihfogahdofdmaaDoor

end

section
/- Written by program (gen.py): the model of saucier/units.power, and the proof that its code computes it. -/
namespace SxYtihfogahdofdmaaDoor
open Go Go.RowKit Sx Go.Proofs
set_option linter.unusedVariables false
set_option linter.unusedSimpArgs false
attribute [local irreducible] WL WX CW OW
/-! ### 37: "saucier/units.power" -/
def m37_J1 (fuel : Nat) (p_2 : Int) : Option Int :=
  some p_2
def m37_L2 (fuel : Nat) (p0_0 : Int) (self_1 : Int × Int → Option Int) : Int × Int → Option Int := fun (p_3, x_2) =>
  if (lt x_2 p0_0) then (self_1 ((mul .i64 p_3 10), (add .i64 x_2 1))) else (m37_J1 fuel  p_3)
def m37 (fuel : Nat) (p0_0 : Int) : Option Int :=
  loopF (m37_L2 fuel p0_0) fuel (1, 0)
@[reducible] def Q37 (F : Lx) (w0 : World) (r : Int) (v : Value) (w' : World) : Prop := v = .int .i64 r ∧ Below w0.heap.size w0 w'
set_option maxRecDepth 100000 in
set_option maxHeartbeats 4000000 in
theorem f37_ok (fuel : Nat) (F : Lx) (w0 : World) (hF : ∀ k, some k ∈ F → k < w0.heap.size) {p0_0 : Int} {r : Int} (hm : m37 fuel p0_0 = some r) :
    Calls Tryd.prog 37 #[.int .i64 p0_0] w0 (fun e w' => ∃ v, e = .returned v ∧ Q37 F w0 r v w') := by
  have hPF : PF (bodyPost Tryd.prog Tryd.f37 (fun e w' => ∃ v, e = .returned v ∧ Q37 F w0 r v w')) := PF.body (fun c w h => by obtain ⟨v, e, _⟩ := h; cases e)
  have hL := LOk.start hF
  have hB := Below.refl w0.heap.size w0
  unfold m37 at hm
  refine enter (l := [.int .i64 p0_0, undef, undef, undef, undef, undef, undef, undef, undef, undef, undef]) Tryd.func37 rfl Tryd.ntmps37 (by kernel_rfl) ?_
  refine cw_seq ?_
  refine cw_region ?_
  refine wl_val (v := .int .i64 0) (w' := w0) (by kernel_rfl) (run_assign (v := .int .i64 0) (by kernel_rfl)) ?_
  refine wl_nil ?_
  refine then_n ?_
  refine cw_seq ?_
  refine cw_region ?_
  refine wl_val (v := .int .i64 1) (w' := w0) (by kernel_rfl) (run_assign (v := .int .i64 1) (by kernel_rfl)) ?_
  refine wl_nil ?_
  refine then_n ?_
  refine cw_cut (fun l' w' => ∃ p_2, ∃ u_3 : Nat → Value, l' = [.int .i64 p0_0, undef, .int .i64 0, .int .i64 p_2, (u_3 0), (u_3 1), (u_3 2), (u_3 3), (u_3 4), (u_3 5), undef] ∧ LOk w0.heap.size [] F w' ∧ Below w0.heap.size w0 w' ∧ m37_J1 fuel p_2 = some r) ?_ ?_
  · refine cw_seq ?_
    refine cw_region ?_
    refine wl_val (v := .int .i64 p0_0) (w' := w0) (by kernel_rfl) (run_move (v := .int .i64 p0_0) (by kernel_rfl)) ?_
    refine wl_val (v := .int .i64 0) (w' := w0) (by kernel_rfl) (run_move (v := .int .i64 0) (by kernel_rfl)) ?_
    refine wl_nil ?_
    refine then_n ?_
    refine cw_block ?_
    refine cw_loop (σ := Int × Int) (m37_L2 fuel p0_0) r (fun s l' w' => ∃ u_5 : Nat → Value, l' = [.int .i64 p0_0, undef, .int .i64 0, .int .i64 s.1, .int .i64 p0_0, .int .i64 s.2, (u_5 0), (u_5 1), (u_5 2), (u_5 3), undef] ∧ LOk w0.heap.size [] F w' ∧ Below w0.heap.size w0 w') ?_ (s := (1, 0)) (n := fuel) ⟨(fun i => ([undef, undef, undef, undef] : List Value).getD i undef), by kernel_rfl, hL, hB⟩ hm
    intro self_1 s l1 w_2 hI hm
    obtain ⟨p_3, x_2⟩ := s
    try dsimp only at hI
    obtain ⟨u_5, rfl, hL, hB⟩ := hI
    unfold m37_L2 at hm
    refine cw_seq ?_
    refine cw_region ?_
    refine wl_val (v := .bool (lt x_2 p0_0)) (w' := w_2) (by kernel_rfl) (run_lt (k := .i64) (a := x_2) (b := p0_0) (by kernel_rfl) (by kernel_rfl)) ?_
    refine wl_nil ?_
    refine then_n ?_
    refine cw_seq ?_
    refine cw_cond (t := (lt x_2 p0_0)) (by kernel_rfl) (fun hc_6 => ?_) (fun hc_6 => ?_)
    · have hm := ite_t hm hc_6
      refine cw_skip ?_
      refine then_n ?_
      refine cw_seq ?_
      refine cw_block ?_
      refine cw_region ?_
      refine wl_val (v := .int .i64 p_3) (w' := w_2) (by kernel_rfl) (run_move (v := .int .i64 p_3) (by kernel_rfl)) ?_
      refine wl_val (v := .int .i64 (mul .i64 p_3 10)) (w' := w_2) (by kernel_rfl) (run_mul (k := .i64) (a := p_3) (b := 10) (by kernel_rfl) (by kernel_rfl)) ?_
      refine wl_val (v := .int .i64 (mul .i64 p_3 10)) (w' := w_2) (by kernel_rfl) (run_assign (v := .int .i64 (mul .i64 p_3 10)) (by kernel_rfl)) ?_
      refine wl_nil ?_
      refine inBlock_n ?_
      refine then_n ?_
      refine cw_region ?_
      refine wl_val (v := .int .i64 (add .i64 x_2 1)) (w' := w_2) (by kernel_rfl) (run_add (k := .i64) (a := x_2) (b := 1) (by kernel_rfl) (by kernel_rfl)) ?_
      refine wl_val (v := .int .i64 (add .i64 x_2 1)) (w' := w_2) (by kernel_rfl) (run_move (v := .int .i64 (add .i64 x_2 1)) (by kernel_rfl)) ?_
      refine wl_nil ?_
      exact ⟨_, rfl, ((mul .i64 p_3 10), (add .i64 x_2 1)), ⟨(fun i => ([.bool (lt x_2 p0_0), .int .i64 p_3, .int .i64 (mul .i64 p_3 10), .int .i64 (add .i64 x_2 1)] : List Value).getD i undef), by kernel_rfl, hL, hB⟩, hm⟩
    · have hm := ite_f hm hc_6
      refine cw_exit ?_
      refine then_exit ?_
      refine then_exit ?_
      refine inBlock_same ?_
      exact then_c ⟨p_3, (fun i => ([.int .i64 p0_0, .int .i64 x_2, .bool (lt x_2 p0_0), (u_5 1), (u_5 2), (u_5 3)] : List Value).getD i undef), by kernel_rfl, hL, hB, hm⟩
  · intro l1 w_1 hI
    obtain ⟨p_2, u_3, rfl, hL, hB, hm⟩ := hI
    unfold m37_J1 at hm
    refine cw_seq ?_
    refine cw_region ?_
    refine wl_val (v := .int .i64 p_2) (w' := w_1) (by kernel_rfl) (run_move (v := .int .i64 p_2) (by kernel_rfl)) ?_
    refine wl_val (v := .int .i64 p_2) (w' := w_1) (by kernel_rfl) (run_assign (v := .int .i64 p_2) (by kernel_rfl)) ?_
    refine wl_nil ?_
    refine then_n ?_
    refine cw_ret ?_
    obtain rfl := Option.some.inj hm
    exact ret1 (v := .int .i64 p_2) rfl (resv_tmp (by kernel_rfl)) ⟨_, rfl, by kernel_rfl, hB⟩
end SxYtihfogahdofdmaaDoor

end

section
/- Written by program (gen.py): the model of saucier/units.Cmp, and the proof that its code computes it. -/
namespace SxYtihfogahdofdmaaDoor
open Go Go.RowKit Sx Go.Proofs
set_option linter.unusedVariables false
set_option linter.unusedSimpArgs false
attribute [local irreducible] WL WX CW OW
/-! ### 15: "saucier/units.Cmp" -/
def m15_J1 (fuel : Nat) (p0_0 : TDec) (p1_0 : TDec) (x_1 : Bool) : Option Int :=
  if x_1 then (some 0) else ((m37 fuel (sub .i64 6 (cvt .i64 p0_0.D))).bind fun r_5 => (m37 fuel (sub .i64 6 (cvt .i64 p1_0.D))).bind fun r_6 => if (lt (mul .i64 p0_0.N r_5) (mul .i64 p1_0.N r_6)) then (some (-1)) else (if (gt (mul .i64 p0_0.N r_5) (mul .i64 p1_0.N r_6)) then (some 1) else (some 0)))
def m15 (fuel : Nat) (p0_0 : TDec) (p1_0 : TDec) : Option Int :=
  (m14 fuel p0_0).bind fun r_7 => if r_7 then ((m14 fuel p1_0).bind fun r_8 => m15_J1 fuel p0_0 p1_0 (!r_8)) else (m15_J1 fuel p0_0 p1_0 true)
@[reducible] def Q15 (F : Lx) (w0 : World) (r : Int) (v : Value) (w' : World) : Prop := v = .int .i64 r ∧ Below w0.heap.size w0 w'
set_option maxRecDepth 100000 in
set_option maxHeartbeats 4000000 in
theorem f15_ok (fuel : Nat) (F : Lx) (w0 : World) (hF : ∀ k, some k ∈ F → k < w0.heap.size) {p0_0 : TDec} {p1_0 : TDec} {r : Int} (hm : m15 fuel p0_0 p1_0 = some r) :
    Calls Tryd.prog 15 #[.agg #[.int .i64 p0_0.N, .int .u8 p0_0.D], .agg #[.int .i64 p1_0.N, .int .u8 p1_0.D]] w0 (fun e w' => ∃ v, e = .returned v ∧ Q15 F w0 r v w') := by
  have hPF : PF (bodyPost Tryd.prog Tryd.f15 (fun e w' => ∃ v, e = .returned v ∧ Q15 F w0 r v w')) := PF.body (fun c w h => by obtain ⟨v, e, _⟩ := h; cases e)
  have hL := LOk.start hF
  have hB := Below.refl w0.heap.size w0
  unfold m15 at hm
  refine enter (l := [.agg #[.int .i64 p0_0.N, .int .u8 p0_0.D], .agg #[.int .i64 p1_0.N, .int .u8 p1_0.D], undef, undef, undef, undef, undef, undef, undef, undef, undef, undef, undef, undef, undef, undef, undef, undef, undef, undef, undef, undef, undef, undef, undef, undef, undef, undef, undef, undef, undef, undef, undef, undef, undef, undef, undef, undef, undef]) Tryd.func15 rfl Tryd.ntmps15 (by kernel_rfl) ?_
  refine cw_seq ?_
  refine cw_region ?_
  refine wl_op (by kernel_rfl) (ow_box' (v := .agg #[.int .i64 p0_0.N, .int .u8 p0_0.D]) (vs := [.int .i64 p0_0.N, .int .u8 p0_0.D]) (by kernel_rfl) rfl hL ?_)
  intro g_1 w_1 hS h_1
  replace hB := hS.below hL hB
  replace hL := hS.hL
  refine wl_op (by kernel_rfl) (ow_box' (v := .agg #[.int .i64 p1_0.N, .int .u8 p1_0.D]) (vs := [.int .i64 p1_0.N, .int .u8 p1_0.D]) (by kernel_rfl) rfl hL ?_)
  intro g_2 w_2 hS h_2
  replace h_1 := hS.box h_1 nilN
  replace hB := hS.below hL hB
  replace hL := hS.hL
  refine wl_val (v := .int .i64 0) (w' := w_2) (by kernel_rfl) (run_assign (v := .int .i64 0) (by kernel_rfl)) ?_
  refine wl_nil ?_
  refine then_n ?_
  refine cw_seq ?_
  refine cw_cut (fun l' w' => ∃ x_1, ∃ u_1 : Nat → Value, l' = [.agg #[.int .i64 p0_0.N, .int .u8 p0_0.D], .agg #[.int .i64 p1_0.N, .int .u8 p1_0.D], .pointer (some ⟨g_1, 0, none⟩), .pointer (some ⟨g_2, 0, none⟩), .int .i64 0, undef, undef, (u_1 0), (u_1 1), (u_1 2), (u_1 3), (u_1 4), (u_1 5), (u_1 6), .bool x_1, undef, undef, undef, undef, undef, undef, undef, undef, undef, undef, undef, undef, undef, undef, undef, undef, undef, undef, undef, undef, undef, undef, undef, undef] ∧ LOk w0.heap.size [some g_2, some g_1] F w' ∧ Below w0.heap.size w0 w' ∧ Bx w' g_1 [.int .i64 p0_0.N, .int .u8 p0_0.D] 23 ∧ Bx w' g_2 [.int .i64 p1_0.N, .int .u8 p1_0.D] 23 ∧ m15_J1 fuel p0_0 p1_0 x_1 = some r) ?_ ?_
  · refine cw_region ?_
    refine wl_val (v := .agg #[.int .i64 p0_0.N, .int .u8 p0_0.D]) (w' := w_2) (by kernel_rfl) (run_load_boxn (j := 0) (vs := [.int .i64 p0_0.N, .int .u8 p0_0.D]) Tryd.underlying23 rfl sz_23 (by kernel_rfl) h_1 (by kernel_rfl) rfl) ?_
    obtain ⟨r_7, h_9, hm⟩ := bind_e hm
    refine wl_op (by kernel_rfl) (ow_enter (run_callf (vs := [.agg #[.int .i64 p0_0.N, .int .u8 p0_0.D]]) Tryd.func14 nm_14 (by kernel_rfl) (by kernel_rfl)) (f14_ok (p0_0 := p0_0) fuel _ w_2 hL.lt  h_9) ?_)
    intro vR w_11 hR
    obtain ⟨rfl, hBe⟩ := hR
    have hS := Stp.call hL (Fz.of_below hBe [])
    replace h_1 := hS.box h_1 nilN
    replace h_2 := hS.box h_2 nilN
    replace hB := hS.below hL hB
    replace hL := hS.hL
    refine wl_val (v := .bool (!r_7)) (w' := w_11) (by kernel_rfl) (run_not (b := r_7) (by kernel_rfl)) ?_
    refine wl_val (v := .bool (!r_7)) (w' := w_11) (by kernel_rfl) (run_move (v := .bool (!r_7)) (by kernel_rfl)) ?_
    rcases Bool.eq_false_or_eq_true r_7 with hc_5 | hc_5
    · have hm := ite_t hm hc_5
      refine wl_val (v := .agg #[.int .i64 p1_0.N, .int .u8 p1_0.D]) (w' := w_11) (wg (c := (!r_7)) (want := false) (by kernel_rfl) (not_t hc_5) rfl) (run_load_boxn (j := 0) (vs := [.int .i64 p1_0.N, .int .u8 p1_0.D]) Tryd.underlying23 rfl sz_23 (by kernel_rfl) h_2 (by kernel_rfl) rfl) ?_
      obtain ⟨r_8, h_10, hm⟩ := bind_e hm
      refine wl_op (wg (c := (!r_7)) (want := false) (by kernel_rfl) (not_t hc_5) rfl) (ow_enter (run_callf (vs := [.agg #[.int .i64 p1_0.N, .int .u8 p1_0.D]]) Tryd.func14 nm_14 (by kernel_rfl) (by kernel_rfl)) (f14_ok (p0_0 := p1_0) fuel _ w_11 hL.lt  h_10) ?_)
      intro vR w_12 hR
      obtain ⟨rfl, hBe⟩ := hR
      have hS := Stp.call hL (Fz.of_below hBe [])
      replace h_1 := hS.box h_1 nilN
      replace h_2 := hS.box h_2 nilN
      replace hB := hS.below hL hB
      replace hL := hS.hL
      refine wl_val (v := .bool (!r_8)) (w' := w_12) (wg (c := (!r_7)) (want := false) (by kernel_rfl) (not_t hc_5) rfl) (run_not (b := r_8) (by kernel_rfl)) ?_
      refine wl_val (v := .bool (!r_8)) (w' := w_12) (by kernel_rfl) (run_pick_f (v := .bool (!r_8)) (tr2 (c := (!r_7)) (by kernel_rfl) (not_t hc_5)) (by kernel_rfl)) ?_
      refine wl_nil ?_
      exact then_c ⟨(!r_8), (fun i => ([.agg #[.int .i64 p0_0.N, .int .u8 p0_0.D], .bool r_7, .bool (!r_7), .bool (!r_7), .agg #[.int .i64 p1_0.N, .int .u8 p1_0.D], .bool r_8, .bool (!r_8)] : List Value).getD i undef), by kernel_rfl, hL, hB, h_1, h_2, hm⟩
    · have hm := ite_f hm hc_5
      refine wl_not0 (wg (c := (!r_7)) (want := false) (by kernel_rfl) (not_f hc_5) rfl) (by kernel_rfl) ?_
      refine wl_not0 (wg (c := (!r_7)) (want := false) (by kernel_rfl) (not_f hc_5) rfl) (by kernel_rfl) ?_
      refine wl_not0 (wg (c := (!r_7)) (want := false) (by kernel_rfl) (not_f hc_5) rfl) (by kernel_rfl) ?_
      refine wl_val (v := .bool true) (w' := w_11) (by kernel_rfl) (run_pick_t (v := .bool true) (tr2 (c := (!r_7)) (by kernel_rfl) (not_f hc_5)) (by kernel_rfl)) ?_
      refine wl_nil ?_
      exact then_c ⟨true, (fun i => ([.agg #[.int .i64 p0_0.N, .int .u8 p0_0.D], .bool r_7, .bool (!r_7), .bool (!r_7), undef, undef, undef] : List Value).getD i undef), by kernel_rfl, hL, hB, h_1, h_2, hm⟩
  · intro l1 w_5 hI
    obtain ⟨x_1, u_1, rfl, hL, hB, h_1, h_2, hm⟩ := hI
    unfold m15_J1 at hm
    refine cw_cond (t := x_1) (by kernel_rfl) (fun hc_2 => ?_) (fun hc_2 => ?_)
    · have hm := ite_t hm hc_2
      refine cw_seq ?_
      refine cw_region ?_
      refine wl_val (v := .int .i64 0) (w' := w_5) (by kernel_rfl) (run_assign (v := .int .i64 0) (by kernel_rfl)) ?_
      refine wl_nil ?_
      refine then_n ?_
      refine cw_ret ?_
      refine then_ret ?_
      have hS : Stp w0.heap.size _ [] F [] w_5 _ := Stp.pick hL [] rfl (by decide)
      replace hB := hS.below hL hB
      replace hL := hS.hL
      obtain rfl := Option.some.inj hm
      exact ret1 (v := .int .i64 0) rfl (resv_tmp (by kernel_rfl)) ⟨_, rfl, by kernel_rfl, hB⟩
    · have hm := ite_f hm hc_2
      refine cw_skip ?_
      refine then_n ?_
      refine cw_seq ?_
      refine cw_region_draw [(0, true), (1, true), (2, true), (3, true), (4, true), (5, true), (8, true), (9, true), (10, true), (11, true), (12, true), (13, true), (6, false), (7, true), (14, false), (15, true), (16, true), (17, true)] (fun x => Fz [] w_5 x) rfl (by kernel_rfl) (PF.then hPF) (Fz.drew _ _) ?_
      have hZ : Fz [] w_5 w_5.drew := Fz.drew _ _
      have hS0 : Stp w0.heap.size [some g_2, some g_1] [some g_2, some g_1] F [] w_5 w_5.drew := Stp.call hL (Fz.drew _ _)
      generalize w_5.drew = w_8 at hS0 hZ ⊢
      refine wx_take (v := .pointer (some ⟨g_1, 0, none⟩)) (by kernel_rfl) (fun w' hS => run_fieldAddr (b := g_1) (o := 0) fo_23_0 (by kernel_rfl)) ?_
      refine wx_take (v := .int .i64 p0_0.N) (by kernel_rfl) (fun w' hS => run_load_box1 (j := 0) Tryd.underlying2 rfl (by kernel_rfl) (h_1.step hS nilN) (by kernel_rfl)) ?_
      refine wx_take (v := .pointer (some ⟨g_1, 1, none⟩)) (by kernel_rfl) (fun w' hS => run_fieldAddr (b := g_1) (o := 0) fo_23_1 (by kernel_rfl)) ?_
      refine wx_take (v := .int .u8 p0_0.D) (by kernel_rfl) (fun w' hS => run_load_box1 (j := 1) Tryd.underlying5 rfl (by kernel_rfl) (h_1.step hS nilN) (by kernel_rfl)) ?_
      refine wx_take (v := .int .i64 (cvt .i64 p0_0.D)) (by kernel_rfl) (fun w' hS => run_cvt (k := .u8) (a := p0_0.D) Tryd.underlying5 Tryd.underlying3 (by kernel_rfl)) ?_
      refine wx_take (v := .int .i64 (sub .i64 6 (cvt .i64 p0_0.D))) (by kernel_rfl) (fun w' hS => run_sub (k := .i64) (a := 6) (b := (cvt .i64 p0_0.D)) (by kernel_rfl) (by kernel_rfl)) ?_
      refine wx_take (v := .pointer (some ⟨g_2, 0, none⟩)) (by kernel_rfl) (fun w' hS => run_fieldAddr (b := g_2) (o := 0) fo_23_0 (by kernel_rfl)) ?_
      refine wx_take (v := .int .i64 p1_0.N) (by kernel_rfl) (fun w' hS => run_load_box1 (j := 0) Tryd.underlying2 rfl (by kernel_rfl) (h_2.step hS nilN) (by kernel_rfl)) ?_
      refine wx_take (v := .pointer (some ⟨g_2, 1, none⟩)) (by kernel_rfl) (fun w' hS => run_fieldAddr (b := g_2) (o := 0) fo_23_1 (by kernel_rfl)) ?_
      refine wx_take (v := .int .u8 p1_0.D) (by kernel_rfl) (fun w' hS => run_load_box1 (j := 1) Tryd.underlying5 rfl (by kernel_rfl) (h_2.step hS nilN) (by kernel_rfl)) ?_
      refine wx_take (v := .int .i64 (cvt .i64 p1_0.D)) (by kernel_rfl) (fun w' hS => run_cvt (k := .u8) (a := p1_0.D) Tryd.underlying5 Tryd.underlying3 (by kernel_rfl)) ?_
      refine wx_take (v := .int .i64 (sub .i64 6 (cvt .i64 p1_0.D))) (by kernel_rfl) (fun w' hS => run_sub (k := .i64) (a := 6) (b := (cvt .i64 p1_0.D)) (by kernel_rfl) (by kernel_rfl)) ?_
      have h_1b := h_1
      have h_2b := h_2
      have hLb := hL
      replace h_1 := hS0.box h_1 nilN
      replace h_2 := hS0.box h_2 nilN
      replace hB := hS0.below hL hB
      replace hL := hS0.hL
      obtain ⟨r_5, h_7, hm⟩ := bind_e hm
      refine wx_op (by kernel_rfl) (fun _ => ow_enter (run_callf (vs := [.int .i64 (sub .i64 6 (cvt .i64 p0_0.D))]) Tryd.func37 nm_37 (by kernel_rfl) (by kernel_rfl)) (f37_ok (p0_0 := (sub .i64 6 (cvt .i64 p0_0.D))) fuel _ w_8 hL.lt  h_7) ?_)
      intro vR w_9 hR
      obtain ⟨rfl, hBe⟩ := hR
      have hS := Stp.call hL (Fz.of_below hBe [])
      replace hZ := hZ.trans (hS.hf.sub nilM)
      refine ⟨hZ, ?_⟩
      replace h_1 := hS.box h_1 nilN
      replace h_2 := hS.box h_2 nilN
      replace hB := hS.below hL hB
      replace hL := hS.hL
      refine wx_take (v := .int .i64 (mul .i64 p0_0.N r_5)) (by kernel_rfl) (fun w' hS => run_mul (k := .i64) (a := p0_0.N) (b := r_5) (by kernel_rfl) (by kernel_rfl)) ?_
      obtain ⟨r_6, h_8, hm⟩ := bind_e hm
      refine wx_op (by kernel_rfl) (fun _ => ow_enter (run_callf (vs := [.int .i64 (sub .i64 6 (cvt .i64 p1_0.D))]) Tryd.func37 nm_37 (by kernel_rfl) (by kernel_rfl)) (f37_ok (p0_0 := (sub .i64 6 (cvt .i64 p1_0.D))) fuel _ w_9 hL.lt  h_8) ?_)
      intro vR w_10 hR
      obtain ⟨rfl, hBe⟩ := hR
      have hS := Stp.call hL (Fz.of_below hBe [])
      replace hZ := hZ.trans (hS.hf.sub nilM)
      refine ⟨hZ, ?_⟩
      replace h_1 := hS.box h_1 nilN
      replace h_2 := hS.box h_2 nilN
      replace hB := hS.below hL hB
      replace hL := hS.hL
      refine wx_take (v := .int .i64 (mul .i64 p1_0.N r_6)) (by kernel_rfl) (fun w' hS => run_mul (k := .i64) (a := p1_0.N) (b := r_6) (by kernel_rfl) (by kernel_rfl)) ?_
      refine wx_norm [.agg #[.int .i64 p0_0.N, .int .u8 p0_0.D], .agg #[.int .i64 p1_0.N, .int .u8 p1_0.D], .pointer (some ⟨g_1, 0, none⟩), .pointer (some ⟨g_2, 0, none⟩), .int .i64 0, undef, undef, (u_1 0), (u_1 1), (u_1 2), (u_1 3), (u_1 4), (u_1 5), (u_1 6), .bool x_1, .pointer (some ⟨g_1, 0, none⟩), .int .i64 p0_0.N, .pointer (some ⟨g_1, 1, none⟩), .int .u8 p0_0.D, .int .i64 (cvt .i64 p0_0.D), .int .i64 (sub .i64 6 (cvt .i64 p0_0.D)), .int .i64 r_5, .int .i64 (mul .i64 p0_0.N r_5), .pointer (some ⟨g_2, 0, none⟩), .int .i64 p1_0.N, .pointer (some ⟨g_2, 1, none⟩), .int .u8 p1_0.D, .int .i64 (cvt .i64 p1_0.D), .int .i64 (sub .i64 6 (cvt .i64 p1_0.D)), .int .i64 r_6, .int .i64 (mul .i64 p1_0.N r_6), undef, undef, undef, undef, undef, undef, undef, undef] (by kernel_rfl) ?_
      refine wx_take (v := .int .i64 (mul .i64 p0_0.N r_5)) (by kernel_rfl) (fun w' hS => run_assign (v := .int .i64 (mul .i64 p0_0.N r_5)) (by kernel_rfl)) ?_
      refine wx_take (v := .int .i64 (mul .i64 p1_0.N r_6)) (by kernel_rfl) (fun w' hS => run_assign (v := .int .i64 (mul .i64 p1_0.N r_6)) (by kernel_rfl)) ?_
      refine wx_nil ?_
      refine then_n ?_
      refine cw_seq ?_
      refine cw_block ?_
      refine cw_seq ?_
      refine cw_region ?_
      refine wl_val (v := .int .i64 (mul .i64 p0_0.N r_5)) (w' := w_10) (by kernel_rfl) (run_move (v := .int .i64 (mul .i64 p0_0.N r_5)) (by kernel_rfl)) ?_
      refine wl_val (v := .int .i64 (mul .i64 p1_0.N r_6)) (w' := w_10) (by kernel_rfl) (run_move (v := .int .i64 (mul .i64 p1_0.N r_6)) (by kernel_rfl)) ?_
      refine wl_val (v := .bool (lt (mul .i64 p0_0.N r_5) (mul .i64 p1_0.N r_6))) (w' := w_10) (by kernel_rfl) (run_lt (k := .i64) (a := (mul .i64 p0_0.N r_5)) (b := (mul .i64 p1_0.N r_6)) (by kernel_rfl) (by kernel_rfl)) ?_
      refine wl_val (v := .bool (lt (mul .i64 p0_0.N r_5) (mul .i64 p1_0.N r_6))) (w' := w_10) (by kernel_rfl) (run_assign (v := .bool (lt (mul .i64 p0_0.N r_5) (mul .i64 p1_0.N r_6))) (by kernel_rfl)) ?_
      refine wl_nil ?_
      refine then_n ?_
      refine cw_cond (t := (lt (mul .i64 p0_0.N r_5) (mul .i64 p1_0.N r_6))) (by kernel_rfl) (fun hc_3 => ?_) (fun hc_3 => ?_)
      · have hm := ite_t hm hc_3
        refine cw_seq ?_
        refine cw_region ?_
        refine wl_val (v := .int .i64 (-1)) (w' := w_10) (by kernel_rfl) (run_assign (v := .int .i64 (-1)) (by kernel_rfl)) ?_
        refine wl_nil ?_
        refine then_n ?_
        refine cw_ret ?_
        refine inBlock_ret ?_
        refine then_ret ?_
        have hS : Stp w0.heap.size _ [] F [] w_10 _ := Stp.pick hL [] rfl (by decide)
        replace hB := hS.below hL hB
        replace hL := hS.hL
        obtain rfl := Option.some.inj hm
        exact ret1 (v := .int .i64 (-1)) rfl (resv_tmp (by kernel_rfl)) ⟨_, rfl, by kernel_rfl, hB⟩
      · have hm := ite_f hm hc_3
        refine cw_seq ?_
        refine cw_region ?_
        refine wl_val (v := .int .i64 (mul .i64 p0_0.N r_5)) (w' := w_10) (by kernel_rfl) (run_move (v := .int .i64 (mul .i64 p0_0.N r_5)) (by kernel_rfl)) ?_
        refine wl_val (v := .int .i64 (mul .i64 p1_0.N r_6)) (w' := w_10) (by kernel_rfl) (run_move (v := .int .i64 (mul .i64 p1_0.N r_6)) (by kernel_rfl)) ?_
        refine wl_val (v := .bool (gt (mul .i64 p0_0.N r_5) (mul .i64 p1_0.N r_6))) (w' := w_10) (by kernel_rfl) (run_gt (k := .i64) (a := (mul .i64 p0_0.N r_5)) (b := (mul .i64 p1_0.N r_6)) (by kernel_rfl) (by kernel_rfl)) ?_
        refine wl_val (v := .bool (gt (mul .i64 p0_0.N r_5) (mul .i64 p1_0.N r_6))) (w' := w_10) (by kernel_rfl) (run_assign (v := .bool (gt (mul .i64 p0_0.N r_5) (mul .i64 p1_0.N r_6))) (by kernel_rfl)) ?_
        refine wl_nil ?_
        refine then_n ?_
        refine cw_cond (t := (gt (mul .i64 p0_0.N r_5) (mul .i64 p1_0.N r_6))) (by kernel_rfl) (fun hc_4 => ?_) (fun hc_4 => ?_)
        · have hm := ite_t hm hc_4
          refine cw_seq ?_
          refine cw_region ?_
          refine wl_val (v := .int .i64 1) (w' := w_10) (by kernel_rfl) (run_assign (v := .int .i64 1) (by kernel_rfl)) ?_
          refine wl_nil ?_
          refine then_n ?_
          refine cw_norm [.agg #[.int .i64 p0_0.N, .int .u8 p0_0.D], .agg #[.int .i64 p1_0.N, .int .u8 p1_0.D], .pointer (some ⟨g_1, 0, none⟩), .pointer (some ⟨g_2, 0, none⟩), .int .i64 1, .int .i64 (mul .i64 p0_0.N r_5), .int .i64 (mul .i64 p1_0.N r_6), (u_1 0), (u_1 1), (u_1 2), (u_1 3), (u_1 4), (u_1 5), (u_1 6), .bool x_1, .pointer (some ⟨g_1, 0, none⟩), .int .i64 p0_0.N, .pointer (some ⟨g_1, 1, none⟩), .int .u8 p0_0.D, .int .i64 (cvt .i64 p0_0.D), .int .i64 (sub .i64 6 (cvt .i64 p0_0.D)), .int .i64 r_5, .int .i64 (mul .i64 p0_0.N r_5), .pointer (some ⟨g_2, 0, none⟩), .int .i64 p1_0.N, .pointer (some ⟨g_2, 1, none⟩), .int .u8 p1_0.D, .int .i64 (cvt .i64 p1_0.D), .int .i64 (sub .i64 6 (cvt .i64 p1_0.D)), .int .i64 r_6, .int .i64 (mul .i64 p1_0.N r_6), .bool (lt (mul .i64 p0_0.N r_5) (mul .i64 p1_0.N r_6)), .int .i64 (mul .i64 p0_0.N r_5), .int .i64 (mul .i64 p1_0.N r_6), .bool (lt (mul .i64 p0_0.N r_5) (mul .i64 p1_0.N r_6)), .bool (gt (mul .i64 p0_0.N r_5) (mul .i64 p1_0.N r_6)), .int .i64 (mul .i64 p0_0.N r_5), .int .i64 (mul .i64 p1_0.N r_6), .bool (gt (mul .i64 p0_0.N r_5) (mul .i64 p1_0.N r_6))] (by kernel_rfl) ?_
          refine cw_ret ?_
          refine inBlock_ret ?_
          refine then_ret ?_
          have hS : Stp w0.heap.size _ [] F [] w_10 _ := Stp.pick hL [] rfl (by decide)
          replace hB := hS.below hL hB
          replace hL := hS.hL
          obtain rfl := Option.some.inj hm
          exact ret1 (v := .int .i64 1) rfl (resv_tmp (by kernel_rfl)) ⟨_, rfl, by kernel_rfl, hB⟩
        · have hm := ite_f hm hc_4
          refine cw_skip ?_
          refine inBlock_n ?_
          refine then_n ?_
          refine cw_seq ?_
          refine cw_region ?_
          refine wl_val (v := .int .i64 0) (w' := w_10) (by kernel_rfl) (run_assign (v := .int .i64 0) (by kernel_rfl)) ?_
          refine wl_nil ?_
          refine then_n ?_
          refine cw_norm [.agg #[.int .i64 p0_0.N, .int .u8 p0_0.D], .agg #[.int .i64 p1_0.N, .int .u8 p1_0.D], .pointer (some ⟨g_1, 0, none⟩), .pointer (some ⟨g_2, 0, none⟩), .int .i64 0, .int .i64 (mul .i64 p0_0.N r_5), .int .i64 (mul .i64 p1_0.N r_6), (u_1 0), (u_1 1), (u_1 2), (u_1 3), (u_1 4), (u_1 5), (u_1 6), .bool x_1, .pointer (some ⟨g_1, 0, none⟩), .int .i64 p0_0.N, .pointer (some ⟨g_1, 1, none⟩), .int .u8 p0_0.D, .int .i64 (cvt .i64 p0_0.D), .int .i64 (sub .i64 6 (cvt .i64 p0_0.D)), .int .i64 r_5, .int .i64 (mul .i64 p0_0.N r_5), .pointer (some ⟨g_2, 0, none⟩), .int .i64 p1_0.N, .pointer (some ⟨g_2, 1, none⟩), .int .u8 p1_0.D, .int .i64 (cvt .i64 p1_0.D), .int .i64 (sub .i64 6 (cvt .i64 p1_0.D)), .int .i64 r_6, .int .i64 (mul .i64 p1_0.N r_6), .bool (lt (mul .i64 p0_0.N r_5) (mul .i64 p1_0.N r_6)), .int .i64 (mul .i64 p0_0.N r_5), .int .i64 (mul .i64 p1_0.N r_6), .bool (lt (mul .i64 p0_0.N r_5) (mul .i64 p1_0.N r_6)), .bool (gt (mul .i64 p0_0.N r_5) (mul .i64 p1_0.N r_6)), .int .i64 (mul .i64 p0_0.N r_5), .int .i64 (mul .i64 p1_0.N r_6), .bool (gt (mul .i64 p0_0.N r_5) (mul .i64 p1_0.N r_6))] (by kernel_rfl) ?_
          refine cw_ret ?_
          have hS : Stp w0.heap.size _ [] F [] w_10 _ := Stp.pick hL [] rfl (by decide)
          replace hB := hS.below hL hB
          replace hL := hS.hL
          obtain rfl := Option.some.inj hm
          exact ret1 (v := .int .i64 0) rfl (resv_tmp (by kernel_rfl)) ⟨_, rfl, by kernel_rfl, hB⟩
end SxYtihfogahdofdmaaDoor

end

section
/- Written by program (gen.py): the model of saucier/words.Signed, and the proof that its code computes it. -/
namespace SxYtihfogahdofdmaaDoor
open Go Go.RowKit Sx Go.Proofs
set_option linter.unusedVariables false
set_option linter.unusedSimpArgs false
attribute [local irreducible] WL WX CW OW
/-! ### 39: "saucier/words.Signed" -/
def m39 (fuel : Nat) (p0_0 : Int) : Option Int :=
  some (cvt .i64 (cvt .i16 p0_0))
@[reducible] def Q39 (F : Lx) (w0 : World) (r : Int) (v : Value) (w' : World) : Prop := v = .int .i64 r ∧ Below w0.heap.size w0 w'
set_option maxRecDepth 100000 in
set_option maxHeartbeats 4000000 in
theorem f39_ok (fuel : Nat) (F : Lx) (w0 : World) (hF : ∀ k, some k ∈ F → k < w0.heap.size) {p0_0 : Int} {r : Int} (hm : m39 fuel p0_0 = some r) :
    Calls Tryd.prog 39 #[.int .u16 p0_0] w0 (fun e w' => ∃ v, e = .returned v ∧ Q39 F w0 r v w') := by
  have hPF : PF (bodyPost Tryd.prog Tryd.f39 (fun e w' => ∃ v, e = .returned v ∧ Q39 F w0 r v w')) := PF.body (fun c w h => by obtain ⟨v, e, _⟩ := h; cases e)
  have hL := LOk.start hF
  have hB := Below.refl w0.heap.size w0
  unfold m39 at hm
  refine enter (l := [.int .u16 p0_0, undef, undef, undef, undef, undef]) Tryd.func39 rfl Tryd.ntmps39 (by kernel_rfl) ?_
  refine cw_seq ?_
  refine cw_region ?_
  refine wl_val (v := .int .i64 0) (w' := w0) (by kernel_rfl) (run_assign (v := .int .i64 0) (by kernel_rfl)) ?_
  refine wl_nil ?_
  refine then_n ?_
  refine cw_seq ?_
  refine cw_region ?_
  refine wl_val (v := .int .u16 p0_0) (w' := w0) (by kernel_rfl) (run_move (v := .int .u16 p0_0) (by kernel_rfl)) ?_
  refine wl_val (v := .int .i16 (cvt .i16 p0_0)) (w' := w0) (by kernel_rfl) (run_cvt (k := .u16) (a := p0_0) Tryd.underlying35 Tryd.underlying95 (by kernel_rfl)) ?_
  refine wl_val (v := .int .i64 (cvt .i64 (cvt .i16 p0_0))) (w' := w0) (by kernel_rfl) (run_cvt (k := .i16) (a := (cvt .i16 p0_0)) Tryd.underlying95 Tryd.underlying3 (by kernel_rfl)) ?_
  refine wl_val (v := .int .i64 (cvt .i64 (cvt .i16 p0_0))) (w' := w0) (by kernel_rfl) (run_assign (v := .int .i64 (cvt .i64 (cvt .i16 p0_0))) (by kernel_rfl)) ?_
  refine wl_nil ?_
  refine then_n ?_
  refine cw_ret ?_
  obtain rfl := Option.some.inj hm
  exact ret1 (v := .int .i64 (cvt .i64 (cvt .i16 p0_0))) rfl (resv_tmp (by kernel_rfl)) ⟨_, rfl, by kernel_rfl, hB⟩
end SxYtihfogahdofdmaaDoor

end

section
/- Written by program (gen.py): the model of saucier/units.Worth, and the proof that its code computes it. -/
namespace SxYtihfogahdofdmaaDoor
open Go Go.RowKit Sx Go.Proofs
set_option linter.unusedVariables false
set_option linter.unusedSimpArgs false
attribute [local irreducible] WL WX CW OW
/-! ### 16: "saucier/units.Worth" -/
def m16_J3 (fuel : Nat) (digits_2 : Int) (n_3 : Int) : Option (TDec × Bool) :=
  some ((⟨n_3, (cvt .u8 digits_2)⟩ : TDec), true)
def m16_J5 (fuel : Nat) (digits_3 : Int) (n_4 : Int) (self_1 : ((Int × Int) → Option (TDec × Bool))) (x_7 : Bool) : Option (TDec × Bool) :=
  if x_7 then (self_1 ((sub .i64 digits_3 1), (quo .i64 n_4 10))) else (m16_J3 fuel  digits_3 n_4)
def m16_L4 (fuel : Nat) (self_1 : Int × Int → Option (TDec × Bool)) : Int × Int → Option (TDec × Bool) := fun (digits_3, n_4) =>
  if (gt digits_3 0) then (m16_J5 fuel digits_3 n_4 self_1 (eqi (rem n_4 10) 0)) else (m16_J5 fuel digits_3 n_4 self_1 false)
def m16_J2 (fuel : Nat) (p1_0 : Int) (n_1 : Int) : Option (TDec × Bool) :=
  loopF (m16_L4 fuel ) fuel (p1_0, n_1)
def m16_J1 (fuel : Nat) (p0_0 : Int) (p1_0 : Int) (p2_0 : Bool) (x_1 : Bool) : Option (TDec × Bool) :=
  if x_1 then (some ((⟨0, 0⟩ : TDec), false)) else (if p2_0 then ((m39 fuel p0_0).bind fun r_2 => m16_J2 fuel p1_0 r_2) else (m16_J2 fuel p1_0 (cvt .i64 p0_0)))
def m16 (fuel : Nat) (p0_0 : Int) (p1_0 : Int) (p2_0 : Bool) : Option (TDec × Bool) :=
  if (lt p1_0 0) then (m16_J1 fuel p0_0 p1_0 p2_0 true) else (m16_J1 fuel p0_0 p1_0 p2_0 (gt p1_0 6))
@[reducible] def Q16 (F : Lx) (w0 : World) (r : (TDec × Bool)) (v : Value) (w' : World) : Prop := v = .tuple #[.agg #[.int .i64 r.1.N, .int .u8 r.1.D], .bool r.2] ∧ Below w0.heap.size w0 w'
set_option maxRecDepth 100000 in
set_option maxHeartbeats 4000000 in
theorem f16_ok (fuel : Nat) (F : Lx) (w0 : World) (hF : ∀ k, some k ∈ F → k < w0.heap.size) {p0_0 : Int} {p1_0 : Int} {p2_0 : Bool} {r : (TDec × Bool)} (hm : m16 fuel p0_0 p1_0 p2_0 = some r) :
    Calls Tryd.prog 16 #[.int .u16 p0_0, .int .i64 p1_0, .bool p2_0] w0 (fun e w' => ∃ v, e = .returned v ∧ Q16 F w0 r v w') := by
  have hPF : PF (bodyPost Tryd.prog Tryd.f16 (fun e w' => ∃ v, e = .returned v ∧ Q16 F w0 r v w')) := PF.body (fun c w h => by obtain ⟨v, e, _⟩ := h; cases e)
  have hL := LOk.start hF
  have hB := Below.refl w0.heap.size w0
  unfold m16 at hm
  refine enter (l := [.int .u16 p0_0, .int .i64 p1_0, .bool p2_0, undef, undef, undef, undef, undef, undef, undef, undef, undef, undef, undef, undef, undef, undef, undef, undef, undef, undef, undef, undef, undef, undef, undef, undef, undef, undef, undef, undef, undef, undef, undef, undef, undef]) Tryd.func16 rfl Tryd.ntmps16 (by kernel_rfl) ?_
  refine cw_seq ?_
  refine cw_region ?_
  refine wl_op (by kernel_rfl) (ow_alloc' (z := .agg #[.int .i64 0, .int .u8 0]) (vs := [.int .i64 0, .int .u8 0]) (by kernel_rfl) rfl hL ?_)
  intro g_1 w_1 hS h_1
  replace hB := hS.below hL hB
  replace hL := hS.hL
  refine wl_val (v := .bool false) (w' := w_1) (by kernel_rfl) (run_assign (v := .bool false) (by kernel_rfl)) ?_
  refine wl_nil ?_
  refine then_n ?_
  refine cw_seq ?_
  refine cw_cut (fun l' w' => ∃ x_1, ∃ u_1 : Nat → Value, l' = [.int .u16 p0_0, .int .i64 p1_0, .bool p2_0, undef, undef, undef, .pointer (some ⟨g_1, 0, none⟩), .bool false, undef, (u_1 0), (u_1 1), (u_1 2), (u_1 3), (u_1 4), .bool x_1, undef, undef, undef, undef, undef, undef, undef, undef, undef, undef, undef, undef, undef, undef, undef, undef, undef, undef, undef, undef, undef] ∧ LOk w0.heap.size [some g_1] F w' ∧ Below w0.heap.size w0 w' ∧ Bx w' g_1 [.int .i64 0, .int .u8 0] 23 ∧ m16_J1 fuel p0_0 p1_0 p2_0 x_1 = some r) ?_ ?_
  · refine cw_region ?_
    refine wl_val (v := .int .i64 p1_0) (w' := w_1) (by kernel_rfl) (run_move (v := .int .i64 p1_0) (by kernel_rfl)) ?_
    refine wl_val (v := .bool (lt p1_0 0)) (w' := w_1) (by kernel_rfl) (run_lt (k := .i64) (a := p1_0) (b := 0) (by kernel_rfl) (by kernel_rfl)) ?_
    refine wl_val (v := .bool (lt p1_0 0)) (w' := w_1) (by kernel_rfl) (run_move (v := .bool (lt p1_0 0)) (by kernel_rfl)) ?_
    rcases Bool.eq_false_or_eq_true (lt p1_0 0) with hc_18 | hc_18
    · have hm := ite_t hm hc_18
      refine wl_not0 (wg (c := (lt p1_0 0)) (want := false) (by kernel_rfl) hc_18 rfl) (by kernel_rfl) ?_
      refine wl_not0 (wg (c := (lt p1_0 0)) (want := false) (by kernel_rfl) hc_18 rfl) (by kernel_rfl) ?_
      refine wl_val (v := .bool true) (w' := w_1) (by kernel_rfl) (run_pick_t (v := .bool true) (tr2 (c := (lt p1_0 0)) (by kernel_rfl) hc_18) (by kernel_rfl)) ?_
      refine wl_nil ?_
      exact then_c ⟨true, (fun i => ([.int .i64 p1_0, .bool (lt p1_0 0), .bool (lt p1_0 0), undef, undef] : List Value).getD i undef), by kernel_rfl, hL, hB, h_1, hm⟩
    · have hm := ite_f hm hc_18
      refine wl_val (v := .int .i64 p1_0) (w' := w_1) (wg (c := (lt p1_0 0)) (want := false) (by kernel_rfl) hc_18 rfl) (run_move (v := .int .i64 p1_0) (by kernel_rfl)) ?_
      refine wl_val (v := .bool (gt p1_0 6)) (w' := w_1) (wg (c := (lt p1_0 0)) (want := false) (by kernel_rfl) hc_18 rfl) (run_gt (k := .i64) (a := p1_0) (b := 6) (by kernel_rfl) (by kernel_rfl)) ?_
      refine wl_val (v := .bool (gt p1_0 6)) (w' := w_1) (by kernel_rfl) (run_pick_f (v := .bool (gt p1_0 6)) (tr2 (c := (lt p1_0 0)) (by kernel_rfl) hc_18) (by kernel_rfl)) ?_
      refine wl_nil ?_
      exact then_c ⟨(gt p1_0 6), (fun i => ([.int .i64 p1_0, .bool (lt p1_0 0), .bool (lt p1_0 0), .int .i64 p1_0, .bool (gt p1_0 6)] : List Value).getD i undef), by kernel_rfl, hL, hB, h_1, hm⟩
  · intro l1 w_2 hI
    obtain ⟨x_1, u_1, rfl, hL, hB, h_1, hm⟩ := hI
    unfold m16_J1 at hm
    refine cw_cond (t := x_1) (by kernel_rfl) (fun hc_2 => ?_) (fun hc_2 => ?_)
    · have hm := ite_t hm hc_2
      refine cw_seq ?_
      refine cw_region ?_
      refine wl_val (v := .agg #[.int .i64 0, .int .u8 0]) (w' := w_2) (by kernel_rfl) (by kernel_rfl) ?_
      refine wl_op (by kernel_rfl) (ow_store_box' (g := g_1) (j := 0) (v := .agg #[.int .i64 0, .int .u8 0]) (vs := [.int .i64 0, .int .u8 0]) (cs' := [.int .i64 0, .int .u8 0]) sz_23 (by kernel_rfl) (by kernel_rfl) rfl rfl rfl hL h_1 rfl (by simp) rfl ?_)
      intro w_3 hS h_2
      replace hB := hS.below hL hB
      replace hL := hS.hL
      refine wl_val (v := .bool false) (w' := w_3) (by kernel_rfl) (run_assign (v := .bool false) (by kernel_rfl)) ?_
      refine wl_nil ?_
      refine then_n ?_
      refine cw_ret ?_
      refine then_ret ?_
      have hl0 := loadVar_boxn (P := Tryd.prog) (j := 0) (vs := [.int .i64 0, .int .u8 0]) Tryd.underlying23 rfl sz_23 h_2 (by kernel_rfl) rfl
      have hS : Stp w0.heap.size _ [] F [] w_3 _ := Stp.pick hL [] rfl (by decide)
      replace hB := hS.below hL hB
      replace hL := hS.hL
      obtain rfl := Option.some.inj hm
      exact ret2 (v := .agg #[.int .i64 0, .int .u8 0]) (v' := .bool false) rfl (resv_cell (ad := ⟨g_1, 0, none⟩) (by kernel_rfl) hl0) (resv_tmp (by kernel_rfl)) ⟨_, rfl, by kernel_rfl, hB⟩
    · have hm := ite_f hm hc_2
      refine cw_skip ?_
      refine then_n ?_
      refine cw_seq ?_
      refine cw_region ?_
      refine wl_val (v := .int .u16 p0_0) (w' := w_2) (by kernel_rfl) (run_move (v := .int .u16 p0_0) (by kernel_rfl)) ?_
      refine wl_val (v := .int .i64 (cvt .i64 p0_0)) (w' := w_2) (by kernel_rfl) (run_cvt (k := .u16) (a := p0_0) Tryd.underlying35 Tryd.underlying2 (by kernel_rfl)) ?_
      refine wl_val (v := .int .i64 (cvt .i64 p0_0)) (w' := w_2) (by kernel_rfl) (run_assign (v := .int .i64 (cvt .i64 p0_0)) (by kernel_rfl)) ?_
      refine wl_nil ?_
      refine then_n ?_
      refine cw_cut (fun l' w' => ∃ n_1, ∃ u_2 : Nat → Value, l' = [.int .u16 p0_0, .int .i64 p1_0, .bool p2_0, undef, undef, undef, .pointer (some ⟨g_1, 0, none⟩), .bool false, .int .i64 n_1, (u_1 0), (u_1 1), (u_1 2), (u_1 3), (u_1 4), .bool x_1, undef, .int .u16 p0_0, .int .i64 (cvt .i64 p0_0), (u_2 0), (u_2 1), (u_2 2), undef, undef, undef, undef, undef, undef, undef, undef, undef, undef, undef, undef, undef, undef, undef] ∧ LOk w0.heap.size [some g_1] F w' ∧ Below w0.heap.size w0 w' ∧ Bx w' g_1 [.int .i64 0, .int .u8 0] 23 ∧ m16_J2 fuel p1_0 n_1 = some r) ?_ ?_
      · refine cw_seq ?_
        refine cw_region ?_
        refine wl_val (v := .bool p2_0) (w' := w_2) (by kernel_rfl) (run_move (v := .bool p2_0) (by kernel_rfl)) ?_
        refine wl_nil ?_
        refine then_n ?_
        refine cw_cond (t := p2_0) (by kernel_rfl) (fun hc_17 => ?_) (fun hc_17 => ?_)
        · have hm := ite_t hm hc_17
          refine cw_region ?_
          refine wl_val (v := .int .u16 p0_0) (w' := w_2) (by kernel_rfl) (run_move (v := .int .u16 p0_0) (by kernel_rfl)) ?_
          obtain ⟨r_2, h_5, hm⟩ := bind_e hm
          refine wl_op (by kernel_rfl) (ow_enter (run_callf (vs := [.int .u16 p0_0]) Tryd.func39 nm_39 (by kernel_rfl) (by kernel_rfl)) (f39_ok (p0_0 := p0_0) fuel _ w_2 hL.lt  h_5) ?_)
          intro vR w_10 hR
          obtain ⟨rfl, hBe⟩ := hR
          have hS := Stp.call hL (Fz.of_below hBe [])
          replace h_1 := hS.box h_1 nilN
          replace hB := hS.below hL hB
          replace hL := hS.hL
          refine wl_val (v := .int .i64 r_2) (w' := w_10) (by kernel_rfl) (run_assign (v := .int .i64 r_2) (by kernel_rfl)) ?_
          refine wl_nil ?_
          exact then_c ⟨r_2, (fun i => ([.bool p2_0, .int .u16 p0_0, .int .i64 r_2] : List Value).getD i undef), by kernel_rfl, hL, hB, h_1, hm⟩
        · have hm := ite_f hm hc_17
          refine cw_skip ?_
          exact then_c ⟨(cvt .i64 p0_0), (fun i => ([.bool p2_0, undef, undef] : List Value).getD i undef), by kernel_rfl, hL, hB, h_1, hm⟩
      · intro l1 w_5 hI
        obtain ⟨n_1, u_2, rfl, hL, hB, h_1, hm⟩ := hI
        unfold m16_J2 at hm
        refine cw_cut (fun l' w' => ∃ digits_2 n_3, ∃ u_8 : Nat → Value, l' = [.int .u16 p0_0, .int .i64 digits_2, .bool p2_0, undef, undef, undef, .pointer (some ⟨g_1, 0, none⟩), .bool false, .int .i64 n_3, (u_1 0), (u_1 1), (u_1 2), (u_1 3), (u_1 4), .bool x_1, undef, .int .u16 p0_0, .int .i64 (cvt .i64 p0_0), (u_2 0), (u_2 1), (u_2 2), (u_8 0), (u_8 1), (u_8 2), (u_8 3), (u_8 4), (u_8 5), (u_8 6), (u_8 7), (u_8 8), (u_8 9), (u_8 10), undef, undef, undef, undef] ∧ LOk w0.heap.size [some g_1] F w' ∧ Below w0.heap.size w0 w' ∧ Bx w' g_1 [.int .i64 0, .int .u8 0] 23 ∧ m16_J3 fuel digits_2 n_3 = some r) ?_ ?_
        · refine cw_block ?_
          refine cw_loop (σ := Int × Int) (m16_L4 fuel ) r (fun s l' w' => ∃ u_11 : Nat → Value, l' = [.int .u16 p0_0, .int .i64 s.1, .bool p2_0, undef, undef, undef, .pointer (some ⟨g_1, 0, none⟩), .bool false, .int .i64 s.2, (u_1 0), (u_1 1), (u_1 2), (u_1 3), (u_1 4), .bool x_1, undef, .int .u16 p0_0, .int .i64 (cvt .i64 p0_0), (u_2 0), (u_2 1), (u_2 2), (u_11 0), (u_11 1), (u_11 2), (u_11 3), (u_11 4), (u_11 5), (u_11 6), (u_11 7), (u_11 8), (u_11 9), (u_11 10), undef, undef, undef, undef] ∧ LOk w0.heap.size [some g_1] F w' ∧ Below w0.heap.size w0 w' ∧ Bx w' g_1 [.int .i64 0, .int .u8 0] 23) ?_ (s := (p1_0, n_1)) (n := fuel) ⟨(fun i => ([undef, undef, undef, undef, undef, undef, undef, undef, undef, undef, undef] : List Value).getD i undef), by kernel_rfl, hL, hB, h_1⟩ hm
          intro self_1 s l1 w_8 hI hm
          obtain ⟨digits_3, n_4⟩ := s
          try dsimp only at hI
          obtain ⟨u_11, rfl, hL, hB, h_1⟩ := hI
          unfold m16_L4 at hm
          refine cw_seq ?_
          refine cw_cut (fun l' w' => ∃ x_7, ∃ u_13 : Nat → Value, l' = [.int .u16 p0_0, .int .i64 digits_3, .bool p2_0, undef, undef, undef, .pointer (some ⟨g_1, 0, none⟩), .bool false, .int .i64 n_4, (u_1 0), (u_1 1), (u_1 2), (u_1 3), (u_1 4), .bool x_1, undef, .int .u16 p0_0, .int .i64 (cvt .i64 p0_0), (u_2 0), (u_2 1), (u_2 2), (u_13 0), (u_13 1), (u_13 2), (u_13 3), (u_13 4), (u_13 5), .bool x_7, (u_11 7), (u_11 8), (u_11 9), (u_11 10), undef, undef, undef, undef] ∧ LOk w0.heap.size [some g_1] F w' ∧ Below w0.heap.size w0 w' ∧ Bx w' g_1 [.int .i64 0, .int .u8 0] 23 ∧ m16_J5 fuel digits_3 n_4 self_1 x_7 = some r) ?_ ?_
          · refine cw_region ?_
            refine wl_val (v := .int .i64 digits_3) (w' := w_8) (by kernel_rfl) (run_move (v := .int .i64 digits_3) (by kernel_rfl)) ?_
            refine wl_val (v := .bool (gt digits_3 0)) (w' := w_8) (by kernel_rfl) (run_gt (k := .i64) (a := digits_3) (b := 0) (by kernel_rfl) (by kernel_rfl)) ?_
            refine wl_val (v := .bool (gt digits_3 0)) (w' := w_8) (by kernel_rfl) (run_move (v := .bool (gt digits_3 0)) (by kernel_rfl)) ?_
            rcases Bool.eq_false_or_eq_true (gt digits_3 0) with hc_16 | hc_16
            · have hm := ite_t hm hc_16
              refine wl_val (v := .int .i64 n_4) (w' := w_8) (wg (c := (gt digits_3 0)) (want := true) (by kernel_rfl) hc_16 rfl) (run_move (v := .int .i64 n_4) (by kernel_rfl)) ?_
              refine wl_val (v := .int .i64 (rem n_4 10)) (w' := w_8) (wg (c := (gt digits_3 0)) (want := true) (by kernel_rfl) hc_16 rfl) (run_rem (k := .i64) (a := n_4) (b := 10) (by kernel_rfl) (by kernel_rfl) (by decide)) ?_
              refine wl_val (v := .bool (eqi (rem n_4 10) 0)) (w' := w_8) (wg (c := (gt digits_3 0)) (want := true) (by kernel_rfl) hc_16 rfl) (run_eqi (k := .i64) (a := (rem n_4 10)) (b := 0) (by kernel_rfl) (by kernel_rfl)) ?_
              refine wl_val (v := .bool (eqi (rem n_4 10) 0)) (w' := w_8) (by kernel_rfl) (run_pick_t (v := .bool (eqi (rem n_4 10) 0)) (tr2 (c := (gt digits_3 0)) (by kernel_rfl) hc_16) (by kernel_rfl)) ?_
              refine wl_nil ?_
              exact then_c ⟨(eqi (rem n_4 10) 0), (fun i => ([.int .i64 digits_3, .bool (gt digits_3 0), .bool (gt digits_3 0), .int .i64 n_4, .int .i64 (rem n_4 10), .bool (eqi (rem n_4 10) 0)] : List Value).getD i undef), by kernel_rfl, hL, hB, h_1, hm⟩
            · have hm := ite_f hm hc_16
              refine wl_not (wg (c := (gt digits_3 0)) (want := true) (by kernel_rfl) hc_16 rfl) ?_
              refine wl_not (wg (c := (gt digits_3 0)) (want := true) (by kernel_rfl) hc_16 rfl) ?_
              refine wl_not (wg (c := (gt digits_3 0)) (want := true) (by kernel_rfl) hc_16 rfl) ?_
              refine wl_val (v := .bool false) (w' := w_8) (by kernel_rfl) (run_pick_f (v := .bool false) (tr2 (c := (gt digits_3 0)) (by kernel_rfl) hc_16) (by kernel_rfl)) ?_
              refine wl_nil ?_
              exact then_c ⟨false, (fun i => ([.int .i64 digits_3, .bool (gt digits_3 0), .bool (gt digits_3 0), undef, undef, undef] : List Value).getD i undef), by kernel_rfl, hL, hB, h_1, hm⟩
          · intro l1 w_9 hI
            obtain ⟨x_7, u_13, rfl, hL, hB, h_1, hm⟩ := hI
            unfold m16_J5 at hm
            refine cw_cond (t := x_7) (by kernel_rfl) (fun hc_15 => ?_) (fun hc_15 => ?_)
            · have hm := ite_t hm hc_15
              refine cw_skip ?_
              refine then_n ?_
              refine cw_block ?_
              refine cw_region ?_
              refine wl_val (v := .int .i64 n_4) (w' := w_9) (by kernel_rfl) (run_move (v := .int .i64 n_4) (by kernel_rfl)) ?_
              refine wl_val (v := .int .i64 (quo .i64 n_4 10)) (w' := w_9) (by kernel_rfl) (run_quo (k := .i64) (a := n_4) (b := 10) (by kernel_rfl) (by kernel_rfl) (by decide)) ?_
              refine wl_val (v := .int .i64 digits_3) (w' := w_9) (by kernel_rfl) (run_move (v := .int .i64 digits_3) (by kernel_rfl)) ?_
              refine wl_val (v := .int .i64 (sub .i64 digits_3 1)) (w' := w_9) (by kernel_rfl) (run_sub (k := .i64) (a := digits_3) (b := 1) (by kernel_rfl) (by kernel_rfl)) ?_
              refine wl_val (v := .int .i64 (quo .i64 n_4 10)) (w' := w_9) (by kernel_rfl) (run_assign (v := .int .i64 (quo .i64 n_4 10)) (by kernel_rfl)) ?_
              refine wl_val (v := .int .i64 (sub .i64 digits_3 1)) (w' := w_9) (by kernel_rfl) (run_assign (v := .int .i64 (sub .i64 digits_3 1)) (by kernel_rfl)) ?_
              refine wl_nil ?_
              refine inBlock_n ?_
              exact ⟨_, rfl, ((sub .i64 digits_3 1), (quo .i64 n_4 10)), ⟨(fun i => ([(u_13 0), (u_13 1), (u_13 2), (u_13 3), (u_13 4), (u_13 5), .bool x_7, .int .i64 n_4, .int .i64 (quo .i64 n_4 10), .int .i64 digits_3, .int .i64 (sub .i64 digits_3 1)] : List Value).getD i undef), by kernel_rfl, hL, hB, h_1⟩, hm⟩
            · have hm := ite_f hm hc_15
              refine cw_exit ?_
              refine then_exit ?_
              refine then_exit ?_
              refine inBlock_same ?_
              exact then_c ⟨digits_3, n_4, (fun i => ([(u_13 0), (u_13 1), (u_13 2), (u_13 3), (u_13 4), (u_13 5), .bool x_7, (u_11 7), (u_11 8), (u_11 9), (u_11 10)] : List Value).getD i undef), by kernel_rfl, hL, hB, h_1, hm⟩
        · intro l1 w_6 hI
          obtain ⟨digits_2, n_3, u_8, rfl, hL, hB, h_1, hm⟩ := hI
          unfold m16_J3 at hm
          refine cw_seq ?_
          refine cw_region ?_
          refine wl_val (v := .int .i64 n_3) (w' := w_6) (by kernel_rfl) (run_move (v := .int .i64 n_3) (by kernel_rfl)) ?_
          refine wl_val (v := .int .i64 digits_2) (w' := w_6) (by kernel_rfl) (run_move (v := .int .i64 digits_2) (by kernel_rfl)) ?_
          refine wl_val (v := .int .u8 (cvt .u8 digits_2)) (w' := w_6) (by kernel_rfl) (run_cvt (k := .i64) (a := digits_2) Tryd.underlying3 Tryd.underlying5 (by kernel_rfl)) ?_
          refine wl_val (v := .agg #[.int .i64 n_3, .int .u8 (cvt .u8 digits_2)]) (w' := w_6) (by kernel_rfl) (by kernel_rfl) ?_
          refine wl_op (by kernel_rfl) (ow_store_box' (g := g_1) (j := 0) (v := .agg #[.int .i64 n_3, .int .u8 (cvt .u8 digits_2)]) (vs := [.int .i64 n_3, .int .u8 (cvt .u8 digits_2)]) (cs' := [.int .i64 n_3, .int .u8 (cvt .u8 digits_2)]) sz_23 (by kernel_rfl) (by kernel_rfl) rfl rfl rfl hL h_1 rfl (by simp) rfl ?_)
          intro w_7 hS h_4
          replace hB := hS.below hL hB
          replace hL := hS.hL
          refine wl_val (v := .bool true) (w' := w_7) (by kernel_rfl) (run_assign (v := .bool true) (by kernel_rfl)) ?_
          refine wl_nil ?_
          refine then_n ?_
          refine cw_ret ?_
          have hl0 := loadVar_boxn (P := Tryd.prog) (j := 0) (vs := [.int .i64 n_3, .int .u8 (cvt .u8 digits_2)]) Tryd.underlying23 rfl sz_23 h_4 (by kernel_rfl) rfl
          have hS : Stp w0.heap.size _ [] F [] w_7 _ := Stp.pick hL [] rfl (by decide)
          replace hB := hS.below hL hB
          replace hL := hS.hL
          obtain rfl := Option.some.inj hm
          exact ret2 (v := .agg #[.int .i64 n_3, .int .u8 (cvt .u8 digits_2)]) (v' := .bool true) rfl (resv_cell (ad := ⟨g_1, 0, none⟩) (by kernel_rfl) hl0) (resv_tmp (by kernel_rfl)) ⟨_, rfl, by kernel_rfl, hB⟩
end SxYtihfogahdofdmaaDoor

end

section
/- Written by program (gen.py): the model of saucier/words.Word, and the proof that its code computes it. -/
namespace SxYtihfogahdofdmaaDoor
open Go Go.RowKit Sx Go.Proofs
set_option linter.unusedVariables false
set_option linter.unusedSimpArgs false
attribute [local irreducible] WL WX CW OW
/-! ### 40: "saucier/words.Word" -/
def m40_J1 (fuel : Nat) (p0_0 : Int) (x_1 : Bool) : Option (Int × Bool) :=
  if x_1 then (some (0, false)) else (some ((cvt .u16 p0_0), true))
def m40 (fuel : Nat) (p0_0 : Int) : Option (Int × Bool) :=
  if (lt p0_0 (-32768)) then (m40_J1 fuel p0_0 true) else (m40_J1 fuel p0_0 (ge p0_0 32768))
@[reducible] def Q40 (F : Lx) (w0 : World) (r : (Int × Bool)) (v : Value) (w' : World) : Prop := v = .tuple #[.int .u16 r.1, .bool r.2] ∧ Below w0.heap.size w0 w'
set_option maxRecDepth 100000 in
set_option maxHeartbeats 4000000 in
theorem f40_ok (fuel : Nat) (F : Lx) (w0 : World) (hF : ∀ k, some k ∈ F → k < w0.heap.size) {p0_0 : Int} {r : (Int × Bool)} (hm : m40 fuel p0_0 = some r) :
    Calls Tryd.prog 40 #[.int .i64 p0_0] w0 (fun e w' => ∃ v, e = .returned v ∧ Q40 F w0 r v w') := by
  have hPF : PF (bodyPost Tryd.prog Tryd.f40 (fun e w' => ∃ v, e = .returned v ∧ Q40 F w0 r v w')) := PF.body (fun c w h => by obtain ⟨v, e, _⟩ := h; cases e)
  have hL := LOk.start hF
  have hB := Below.refl w0.heap.size w0
  unfold m40 at hm
  refine enter (l := [.int .i64 p0_0, undef, undef, undef, undef, undef, undef, undef, undef, undef, undef, undef]) Tryd.func40 rfl Tryd.ntmps40 (by kernel_rfl) ?_
  refine cw_seq ?_
  refine cw_region ?_
  refine wl_val (v := .int .u16 0) (w' := w0) (by kernel_rfl) (run_assign (v := .int .u16 0) (by kernel_rfl)) ?_
  refine wl_val (v := .bool false) (w' := w0) (by kernel_rfl) (run_assign (v := .bool false) (by kernel_rfl)) ?_
  refine wl_nil ?_
  refine then_n ?_
  refine cw_seq ?_
  refine cw_cut (fun l' w' => ∃ x_1, ∃ u_1 : Nat → Value, l' = [.int .i64 p0_0, undef, .int .u16 0, .bool false, (u_1 0), (u_1 1), (u_1 2), (u_1 3), (u_1 4), .bool x_1, undef, undef] ∧ LOk w0.heap.size [] F w' ∧ Below w0.heap.size w0 w' ∧ m40_J1 fuel p0_0 x_1 = some r) ?_ ?_
  · refine cw_region ?_
    refine wl_val (v := .int .i64 p0_0) (w' := w0) (by kernel_rfl) (run_move (v := .int .i64 p0_0) (by kernel_rfl)) ?_
    refine wl_val (v := .bool (lt p0_0 (-32768))) (w' := w0) (by kernel_rfl) (run_lt (k := .i64) (a := p0_0) (b := (-32768)) (by kernel_rfl) (by kernel_rfl)) ?_
    refine wl_val (v := .bool (lt p0_0 (-32768))) (w' := w0) (by kernel_rfl) (run_move (v := .bool (lt p0_0 (-32768))) (by kernel_rfl)) ?_
    rcases Bool.eq_false_or_eq_true (lt p0_0 (-32768)) with hc_3 | hc_3
    · have hm := ite_t hm hc_3
      refine wl_not0 (wg (c := (lt p0_0 (-32768))) (want := false) (by kernel_rfl) hc_3 rfl) (by kernel_rfl) ?_
      refine wl_not0 (wg (c := (lt p0_0 (-32768))) (want := false) (by kernel_rfl) hc_3 rfl) (by kernel_rfl) ?_
      refine wl_val (v := .bool true) (w' := w0) (by kernel_rfl) (run_pick_t (v := .bool true) (tr2 (c := (lt p0_0 (-32768))) (by kernel_rfl) hc_3) (by kernel_rfl)) ?_
      refine wl_nil ?_
      exact then_c ⟨true, (fun i => ([.int .i64 p0_0, .bool (lt p0_0 (-32768)), .bool (lt p0_0 (-32768)), undef, undef] : List Value).getD i undef), by kernel_rfl, hL, hB, hm⟩
    · have hm := ite_f hm hc_3
      refine wl_val (v := .int .i64 p0_0) (w' := w0) (wg (c := (lt p0_0 (-32768))) (want := false) (by kernel_rfl) hc_3 rfl) (run_move (v := .int .i64 p0_0) (by kernel_rfl)) ?_
      refine wl_val (v := .bool (ge p0_0 32768)) (w' := w0) (wg (c := (lt p0_0 (-32768))) (want := false) (by kernel_rfl) hc_3 rfl) (run_ge (k := .i64) (a := p0_0) (b := 32768) (by kernel_rfl) (by kernel_rfl)) ?_
      refine wl_val (v := .bool (ge p0_0 32768)) (w' := w0) (by kernel_rfl) (run_pick_f (v := .bool (ge p0_0 32768)) (tr2 (c := (lt p0_0 (-32768))) (by kernel_rfl) hc_3) (by kernel_rfl)) ?_
      refine wl_nil ?_
      exact then_c ⟨(ge p0_0 32768), (fun i => ([.int .i64 p0_0, .bool (lt p0_0 (-32768)), .bool (lt p0_0 (-32768)), .int .i64 p0_0, .bool (ge p0_0 32768)] : List Value).getD i undef), by kernel_rfl, hL, hB, hm⟩
  · intro l1 w_1 hI
    obtain ⟨x_1, u_1, rfl, hL, hB, hm⟩ := hI
    unfold m40_J1 at hm
    refine cw_cond (t := x_1) (by kernel_rfl) (fun hc_2 => ?_) (fun hc_2 => ?_)
    · have hm := ite_t hm hc_2
      refine cw_seq ?_
      refine cw_region ?_
      refine wl_val (v := .int .u16 0) (w' := w_1) (by kernel_rfl) (run_assign (v := .int .u16 0) (by kernel_rfl)) ?_
      refine wl_val (v := .bool false) (w' := w_1) (by kernel_rfl) (run_assign (v := .bool false) (by kernel_rfl)) ?_
      refine wl_nil ?_
      refine then_n ?_
      refine cw_ret ?_
      refine then_ret ?_
      obtain rfl := Option.some.inj hm
      exact ret2 (v := .int .u16 0) (v' := .bool false) rfl (resv_tmp (by kernel_rfl)) (resv_tmp (by kernel_rfl)) ⟨_, rfl, by kernel_rfl, hB⟩
    · have hm := ite_f hm hc_2
      refine cw_skip ?_
      refine then_n ?_
      refine cw_seq ?_
      refine cw_region ?_
      refine wl_val (v := .int .i64 p0_0) (w' := w_1) (by kernel_rfl) (run_move (v := .int .i64 p0_0) (by kernel_rfl)) ?_
      refine wl_val (v := .int .u16 (cvt .u16 p0_0)) (w' := w_1) (by kernel_rfl) (run_cvt (k := .i64) (a := p0_0) Tryd.underlying3 Tryd.underlying35 (by kernel_rfl)) ?_
      refine wl_val (v := .int .u16 (cvt .u16 p0_0)) (w' := w_1) (by kernel_rfl) (run_assign (v := .int .u16 (cvt .u16 p0_0)) (by kernel_rfl)) ?_
      refine wl_val (v := .bool true) (w' := w_1) (by kernel_rfl) (run_assign (v := .bool true) (by kernel_rfl)) ?_
      refine wl_nil ?_
      refine then_n ?_
      refine cw_ret ?_
      obtain rfl := Option.some.inj hm
      exact ret2 (v := .int .u16 (cvt .u16 p0_0)) (v' := .bool true) rfl (resv_tmp (by kernel_rfl)) (resv_tmp (by kernel_rfl)) ⟨_, rfl, by kernel_rfl, hB⟩
end SxYtihfogahdofdmaaDoor

end

section
/- Written by program (gen.py): the model of saucier/units.Word, and the proof that its code computes it. -/
namespace SxYtihfogahdofdmaaDoor
open Go Go.RowKit Sx Go.Proofs
set_option linter.unusedVariables false
set_option linter.unusedSimpArgs false
attribute [local irreducible] WL WX CW OW
/-! ### 17: "saucier/units.Word" -/
def m17_J2 (fuel : Nat) (p0_0 : TDec) (p2_0 : Bool) (r_3 : Int) (x_2 : Bool) : Option (Int × Bool) :=
  if x_2 then (some (0, false)) else (if p2_0 then ((m40 fuel (mul .i64 p0_0.N r_3)).bind fun r_4 => some (r_4.1, r_4.2)) else (if (lt (mul .i64 p0_0.N r_3) 0) then (some (0, false)) else (some ((cvt .u16 (mul .i64 p0_0.N r_3)), true))))
def m17_J1 (fuel : Nat) (p0_0 : TDec) (p1_0 : Int) (p2_0 : Bool) (x_1 : Bool) : Option (Int × Bool) :=
  if x_1 then (some (0, false)) else ((m37 fuel (sub .i64 p1_0 (cvt .i64 p0_0.D))).bind fun r_3 => if (lt (mul .i64 p0_0.N r_3) (-32768)) then (m17_J2 fuel p0_0 p2_0 r_3 true) else (m17_J2 fuel p0_0 p2_0 r_3 (ge (mul .i64 p0_0.N r_3) 65536)))
def m17 (fuel : Nat) (p0_0 : TDec) (p1_0 : Int) (p2_0 : Bool) : Option (Int × Bool) :=
  (m14 fuel p0_0).bind fun r_5 => if r_5 then (if (lt p1_0 (cvt .i64 p0_0.D)) then (m17_J1 fuel p0_0 p1_0 p2_0 true) else (m17_J1 fuel p0_0 p1_0 p2_0 (gt p1_0 6))) else (m17_J1 fuel p0_0 p1_0 p2_0 true)
@[reducible] def Q17 (F : Lx) (w0 : World) (r : (Int × Bool)) (v : Value) (w' : World) : Prop := v = .tuple #[.int .u16 r.1, .bool r.2] ∧ Below w0.heap.size w0 w'
set_option maxRecDepth 100000 in
set_option maxHeartbeats 4000000 in
theorem f17_ok (fuel : Nat) (F : Lx) (w0 : World) (hF : ∀ k, some k ∈ F → k < w0.heap.size) {p0_0 : TDec} {p1_0 : Int} {p2_0 : Bool} {r : (Int × Bool)} (hm : m17 fuel p0_0 p1_0 p2_0 = some r) :
    Calls Tryd.prog 17 #[.agg #[.int .i64 p0_0.N, .int .u8 p0_0.D], .int .i64 p1_0, .bool p2_0] w0 (fun e w' => ∃ v, e = .returned v ∧ Q17 F w0 r v w') := by
  have hPF : PF (bodyPost Tryd.prog Tryd.f17 (fun e w' => ∃ v, e = .returned v ∧ Q17 F w0 r v w')) := PF.body (fun c w h => by obtain ⟨v, e, _⟩ := h; cases e)
  have hL := LOk.start hF
  have hB := Below.refl w0.heap.size w0
  unfold m17 at hm
  refine enter (l := [.agg #[.int .i64 p0_0.N, .int .u8 p0_0.D], .int .i64 p1_0, .bool p2_0, undef, undef, undef, undef, undef, undef, undef, undef, undef, undef, undef, undef, undef, undef, undef, undef, undef, undef, undef, undef, undef, undef, undef, undef, undef, undef, undef, undef, undef, undef, undef, undef, undef, undef, undef, undef, undef, undef, undef, undef, undef, undef, undef, undef]) Tryd.func17 rfl Tryd.ntmps17 (by kernel_rfl) ?_
  refine cw_seq ?_
  refine cw_region ?_
  refine wl_op (by kernel_rfl) (ow_box' (v := .agg #[.int .i64 p0_0.N, .int .u8 p0_0.D]) (vs := [.int .i64 p0_0.N, .int .u8 p0_0.D]) (by kernel_rfl) rfl hL ?_)
  intro g_1 w_1 hS h_1
  replace hB := hS.below hL hB
  replace hL := hS.hL
  refine wl_val (v := .int .u16 0) (w' := w_1) (by kernel_rfl) (run_assign (v := .int .u16 0) (by kernel_rfl)) ?_
  refine wl_val (v := .bool false) (w' := w_1) (by kernel_rfl) (run_assign (v := .bool false) (by kernel_rfl)) ?_
  refine wl_nil ?_
  refine then_n ?_
  refine cw_seq ?_
  refine cw_cut (fun l' w' => ∃ x_1, ∃ u_1 : Nat → Value, l' = [.agg #[.int .i64 p0_0.N, .int .u8 p0_0.D], .int .i64 p1_0, .bool p2_0, .pointer (some ⟨g_1, 0, none⟩), undef, undef, .int .u16 0, .bool false, undef, (u_1 0), (u_1 1), (u_1 2), (u_1 3), (u_1 4), (u_1 5), (u_1 6), (u_1 7), (u_1 8), (u_1 9), (u_1 10), (u_1 11), (u_1 12), .bool x_1, undef, undef, undef, undef, undef, undef, undef, undef, undef, undef, undef, undef, undef, undef, undef, undef, undef, undef, undef, undef, undef, undef, undef, undef] ∧ LOk w0.heap.size [some g_1] F w' ∧ Below w0.heap.size w0 w' ∧ Bx w' g_1 [.int .i64 p0_0.N, .int .u8 p0_0.D] 23 ∧ m17_J1 fuel p0_0 p1_0 p2_0 x_1 = some r) ?_ ?_
  · refine cw_region ?_
    refine wl_val (v := .agg #[.int .i64 p0_0.N, .int .u8 p0_0.D]) (w' := w_1) (by kernel_rfl) (run_load_boxn (j := 0) (vs := [.int .i64 p0_0.N, .int .u8 p0_0.D]) Tryd.underlying23 rfl sz_23 (by kernel_rfl) h_1 (by kernel_rfl) rfl) ?_
    obtain ⟨r_5, h_6, hm⟩ := bind_e hm
    refine wl_op (by kernel_rfl) (ow_enter (run_callf (vs := [.agg #[.int .i64 p0_0.N, .int .u8 p0_0.D]]) Tryd.func14 nm_14 (by kernel_rfl) (by kernel_rfl)) (f14_ok (p0_0 := p0_0) fuel _ w_1 hL.lt  h_6) ?_)
    intro vR w_9 hR
    obtain ⟨rfl, hBe⟩ := hR
    have hS := Stp.call hL (Fz.of_below hBe [])
    replace h_1 := hS.box h_1 nilN
    replace hB := hS.below hL hB
    replace hL := hS.hL
    refine wl_val (v := .bool (!r_5)) (w' := w_9) (by kernel_rfl) (run_not (b := r_5) (by kernel_rfl)) ?_
    refine wl_val (v := .bool (!r_5)) (w' := w_9) (by kernel_rfl) (run_move (v := .bool (!r_5)) (by kernel_rfl)) ?_
    rcases Bool.eq_false_or_eq_true r_5 with hc_9 | hc_9
    · have hm := ite_t hm hc_9
      refine wl_val (v := .int .i64 p1_0) (w' := w_9) (wg (c := (!r_5)) (want := false) (by kernel_rfl) (not_t hc_9) rfl) (run_move (v := .int .i64 p1_0) (by kernel_rfl)) ?_
      refine wl_val (v := .pointer (some ⟨g_1, 1, none⟩)) (w' := w_9) (wg (c := (!r_5)) (want := false) (by kernel_rfl) (not_t hc_9) rfl) (run_fieldAddr (b := g_1) (o := 0) fo_23_1 (by kernel_rfl)) ?_
      refine wl_val (v := .int .u8 p0_0.D) (w' := w_9) (wg (c := (!r_5)) (want := false) (by kernel_rfl) (not_t hc_9) rfl) (run_load_box1 (j := 1) Tryd.underlying5 rfl (by kernel_rfl) h_1 (by kernel_rfl)) ?_
      refine wl_val (v := .int .i64 (cvt .i64 p0_0.D)) (w' := w_9) (wg (c := (!r_5)) (want := false) (by kernel_rfl) (not_t hc_9) rfl) (run_cvt (k := .u8) (a := p0_0.D) Tryd.underlying5 Tryd.underlying3 (by kernel_rfl)) ?_
      refine wl_norm [.agg #[.int .i64 p0_0.N, .int .u8 p0_0.D], .int .i64 p1_0, .bool p2_0, .pointer (some ⟨g_1, 0, none⟩), undef, undef, .int .u16 0, .bool false, undef, .agg #[.int .i64 p0_0.N, .int .u8 p0_0.D], .bool r_5, .bool (!r_5), .bool (!r_5), .int .i64 p1_0, .pointer (some ⟨g_1, 1, none⟩), .int .u8 p0_0.D, .int .i64 (cvt .i64 p0_0.D), undef, undef, undef, undef, undef, undef, undef, undef, undef, undef, undef, undef, undef, undef, undef, undef, undef, undef, undef, undef, undef, undef, undef, undef, undef, undef, undef, undef, undef, undef] (by kernel_rfl) ?_
      refine wl_val (v := .bool (lt p1_0 (cvt .i64 p0_0.D))) (w' := w_9) (wg (c := (!r_5)) (want := false) (by kernel_rfl) (not_t hc_9) rfl) (run_lt (k := .i64) (a := p1_0) (b := (cvt .i64 p0_0.D)) (by kernel_rfl) (by kernel_rfl)) ?_
      refine wl_val (v := .bool (lt p1_0 (cvt .i64 p0_0.D))) (w' := w_9) (by kernel_rfl) (run_pick_f (v := .bool (lt p1_0 (cvt .i64 p0_0.D))) (tr2 (c := (!r_5)) (by kernel_rfl) (not_t hc_9)) (by kernel_rfl)) ?_
      refine wl_val (v := .bool (lt p1_0 (cvt .i64 p0_0.D))) (w' := w_9) (by kernel_rfl) (run_move (v := .bool (lt p1_0 (cvt .i64 p0_0.D))) (by kernel_rfl)) ?_
      rcases Bool.eq_false_or_eq_true (lt p1_0 (cvt .i64 p0_0.D)) with hc_10 | hc_10
      · have hm := ite_t hm hc_10
        refine wl_not0 (wg (c := (lt p1_0 (cvt .i64 p0_0.D))) (want := false) (by kernel_rfl) hc_10 rfl) (by kernel_rfl) ?_
        refine wl_not0 (wg (c := (lt p1_0 (cvt .i64 p0_0.D))) (want := false) (by kernel_rfl) hc_10 rfl) (by kernel_rfl) ?_
        refine wl_val (v := .bool true) (w' := w_9) (by kernel_rfl) (run_pick_t (v := .bool true) (tr2 (c := (lt p1_0 (cvt .i64 p0_0.D))) (by kernel_rfl) hc_10) (by kernel_rfl)) ?_
        refine wl_nil ?_
        exact then_c ⟨true, (fun i => ([.agg #[.int .i64 p0_0.N, .int .u8 p0_0.D], .bool r_5, .bool (!r_5), .bool (!r_5), .int .i64 p1_0, .pointer (some ⟨g_1, 1, none⟩), .int .u8 p0_0.D, .int .i64 (cvt .i64 p0_0.D), .bool (lt p1_0 (cvt .i64 p0_0.D)), .bool (lt p1_0 (cvt .i64 p0_0.D)), .bool (lt p1_0 (cvt .i64 p0_0.D)), undef, undef] : List Value).getD i undef), by kernel_rfl, hL, hB, h_1, hm⟩
      · have hm := ite_f hm hc_10
        refine wl_val (v := .int .i64 p1_0) (w' := w_9) (wg (c := (lt p1_0 (cvt .i64 p0_0.D))) (want := false) (by kernel_rfl) hc_10 rfl) (run_move (v := .int .i64 p1_0) (by kernel_rfl)) ?_
        refine wl_val (v := .bool (gt p1_0 6)) (w' := w_9) (wg (c := (lt p1_0 (cvt .i64 p0_0.D))) (want := false) (by kernel_rfl) hc_10 rfl) (run_gt (k := .i64) (a := p1_0) (b := 6) (by kernel_rfl) (by kernel_rfl)) ?_
        refine wl_val (v := .bool (gt p1_0 6)) (w' := w_9) (by kernel_rfl) (run_pick_f (v := .bool (gt p1_0 6)) (tr2 (c := (lt p1_0 (cvt .i64 p0_0.D))) (by kernel_rfl) hc_10) (by kernel_rfl)) ?_
        refine wl_nil ?_
        exact then_c ⟨(gt p1_0 6), (fun i => ([.agg #[.int .i64 p0_0.N, .int .u8 p0_0.D], .bool r_5, .bool (!r_5), .bool (!r_5), .int .i64 p1_0, .pointer (some ⟨g_1, 1, none⟩), .int .u8 p0_0.D, .int .i64 (cvt .i64 p0_0.D), .bool (lt p1_0 (cvt .i64 p0_0.D)), .bool (lt p1_0 (cvt .i64 p0_0.D)), .bool (lt p1_0 (cvt .i64 p0_0.D)), .int .i64 p1_0, .bool (gt p1_0 6)] : List Value).getD i undef), by kernel_rfl, hL, hB, h_1, hm⟩
    · have hm := ite_f hm hc_9
      refine wl_not0 (wg (c := (!r_5)) (want := false) (by kernel_rfl) (not_f hc_9) rfl) (by kernel_rfl) ?_
      refine wl_not0 (wg (c := (!r_5)) (want := false) (by kernel_rfl) (not_f hc_9) rfl) (by kernel_rfl) ?_
      refine wl_not0 (wg (c := (!r_5)) (want := false) (by kernel_rfl) (not_f hc_9) rfl) (by kernel_rfl) ?_
      refine wl_not0 (wg (c := (!r_5)) (want := false) (by kernel_rfl) (not_f hc_9) rfl) (by kernel_rfl) ?_
      refine wl_not0 (wg (c := (!r_5)) (want := false) (by kernel_rfl) (not_f hc_9) rfl) (by kernel_rfl) ?_
      refine wl_val (v := .bool true) (w' := w_9) (by kernel_rfl) (run_pick_t (v := .bool true) (tr2 (c := (!r_5)) (by kernel_rfl) (not_f hc_9)) (by kernel_rfl)) ?_
      refine wl_val (v := .bool true) (w' := w_9) (by kernel_rfl) (run_move (v := .bool true) (by kernel_rfl)) ?_
      refine wl_not0 (by kernel_rfl) (by kernel_rfl) ?_
      refine wl_not0 (by kernel_rfl) (by kernel_rfl) ?_
      refine wl_val (v := .bool true) (w' := w_9) (by kernel_rfl) (run_pick_t (v := .bool true) (by kernel_rfl) (by kernel_rfl)) ?_
      refine wl_nil ?_
      exact then_c ⟨true, (fun i => ([.agg #[.int .i64 p0_0.N, .int .u8 p0_0.D], .bool r_5, .bool (!r_5), .bool (!r_5), undef, undef, undef, undef, undef, .bool true, .bool true, undef, undef] : List Value).getD i undef), by kernel_rfl, hL, hB, h_1, hm⟩
  · intro l1 w_3 hI
    obtain ⟨x_1, u_1, rfl, hL, hB, h_1, hm⟩ := hI
    unfold m17_J1 at hm
    refine cw_cond (t := x_1) (by kernel_rfl) (fun hc_3 => ?_) (fun hc_3 => ?_)
    · have hm := ite_t hm hc_3
      refine cw_seq ?_
      refine cw_region ?_
      refine wl_val (v := .int .u16 0) (w' := w_3) (by kernel_rfl) (run_assign (v := .int .u16 0) (by kernel_rfl)) ?_
      refine wl_val (v := .bool false) (w' := w_3) (by kernel_rfl) (run_assign (v := .bool false) (by kernel_rfl)) ?_
      refine wl_nil ?_
      refine then_n ?_
      refine cw_ret ?_
      refine then_ret ?_
      have hS : Stp w0.heap.size _ [] F [] w_3 _ := Stp.pick hL [] rfl (by decide)
      replace hB := hS.below hL hB
      replace hL := hS.hL
      obtain rfl := Option.some.inj hm
      exact ret2 (v := .int .u16 0) (v' := .bool false) rfl (resv_tmp (by kernel_rfl)) (resv_tmp (by kernel_rfl)) ⟨_, rfl, by kernel_rfl, hB⟩
    · have hm := ite_f hm hc_3
      refine cw_skip ?_
      refine then_n ?_
      refine cw_seq ?_
      refine cw_region_draw [(0, true), (1, true), (2, true), (3, true), (4, true), (5, true), (6, true), (7, false), (8, true), (9, true)] (fun x => Fz [] w_3 x) rfl (by kernel_rfl) (PF.then hPF) (Fz.drew _ _) ?_
      have hZ : Fz [] w_3 w_3.drew := Fz.drew _ _
      have hS0 : Stp w0.heap.size [some g_1] [some g_1] F [] w_3 w_3.drew := Stp.call hL (Fz.drew _ _)
      generalize w_3.drew = w_5 at hS0 hZ ⊢
      refine wx_take (v := .pointer (some ⟨g_1, 0, none⟩)) (by kernel_rfl) (fun w' hS => run_fieldAddr (b := g_1) (o := 0) fo_23_0 (by kernel_rfl)) ?_
      refine wx_take (v := .int .i64 p0_0.N) (by kernel_rfl) (fun w' hS => run_load_box1 (j := 0) Tryd.underlying2 rfl (by kernel_rfl) (h_1.step hS nilN) (by kernel_rfl)) ?_
      refine wx_take (v := .int .i64 p1_0) (by kernel_rfl) (fun w' hS => run_move (v := .int .i64 p1_0) (by kernel_rfl)) ?_
      refine wx_take (v := .pointer (some ⟨g_1, 1, none⟩)) (by kernel_rfl) (fun w' hS => run_fieldAddr (b := g_1) (o := 0) fo_23_1 (by kernel_rfl)) ?_
      refine wx_take (v := .int .u8 p0_0.D) (by kernel_rfl) (fun w' hS => run_load_box1 (j := 1) Tryd.underlying5 rfl (by kernel_rfl) (h_1.step hS nilN) (by kernel_rfl)) ?_
      refine wx_take (v := .int .i64 (cvt .i64 p0_0.D)) (by kernel_rfl) (fun w' hS => run_cvt (k := .u8) (a := p0_0.D) Tryd.underlying5 Tryd.underlying3 (by kernel_rfl)) ?_
      refine wx_take (v := .int .i64 (sub .i64 p1_0 (cvt .i64 p0_0.D))) (by kernel_rfl) (fun w' hS => run_sub (k := .i64) (a := p1_0) (b := (cvt .i64 p0_0.D)) (by kernel_rfl) (by kernel_rfl)) ?_
      have h_1b := h_1
      have hLb := hL
      replace h_1 := hS0.box h_1 nilN
      replace hB := hS0.below hL hB
      replace hL := hS0.hL
      obtain ⟨r_3, h_4, hm⟩ := bind_e hm
      refine wx_op (by kernel_rfl) (fun _ => ow_enter (run_callf (vs := [.int .i64 (sub .i64 p1_0 (cvt .i64 p0_0.D))]) Tryd.func37 nm_37 (by kernel_rfl) (by kernel_rfl)) (f37_ok (p0_0 := (sub .i64 p1_0 (cvt .i64 p0_0.D))) fuel _ w_5 hL.lt  h_4) ?_)
      intro vR w_6 hR
      obtain ⟨rfl, hBe⟩ := hR
      have hS := Stp.call hL (Fz.of_below hBe [])
      replace hZ := hZ.trans (hS.hf.sub nilM)
      refine ⟨hZ, ?_⟩
      replace h_1 := hS.box h_1 nilN
      replace hB := hS.below hL hB
      replace hL := hS.hL
      refine wx_take (v := .int .i64 (mul .i64 p0_0.N r_3)) (by kernel_rfl) (fun w' hS => run_mul (k := .i64) (a := p0_0.N) (b := r_3) (by kernel_rfl) (by kernel_rfl)) ?_
      refine wx_take (v := .int .i64 (mul .i64 p0_0.N r_3)) (by kernel_rfl) (fun w' hS => run_assign (v := .int .i64 (mul .i64 p0_0.N r_3)) (by kernel_rfl)) ?_
      refine wx_nil ?_
      refine then_n ?_
      refine cw_seq ?_
      refine cw_cut (fun l' w' => ∃ x_2, ∃ u_2 : Nat → Value, l' = [.agg #[.int .i64 p0_0.N, .int .u8 p0_0.D], .int .i64 p1_0, .bool p2_0, .pointer (some ⟨g_1, 0, none⟩), undef, undef, .int .u16 0, .bool false, .int .i64 (mul .i64 p0_0.N r_3), (u_1 0), (u_1 1), (u_1 2), (u_1 3), (u_1 4), (u_1 5), (u_1 6), (u_1 7), (u_1 8), (u_1 9), (u_1 10), (u_1 11), (u_1 12), .bool x_1, .pointer (some ⟨g_1, 0, none⟩), .int .i64 p0_0.N, .int .i64 p1_0, .pointer (some ⟨g_1, 1, none⟩), .int .u8 p0_0.D, .int .i64 (cvt .i64 p0_0.D), .int .i64 (sub .i64 p1_0 (cvt .i64 p0_0.D)), .int .i64 r_3, .int .i64 (mul .i64 p0_0.N r_3), (u_2 0), (u_2 1), (u_2 2), (u_2 3), (u_2 4), .bool x_2, undef, undef, undef, undef, undef, undef, undef, undef, undef] ∧ LOk w0.heap.size [] F w' ∧ Below w0.heap.size w0 w' ∧ m17_J2 fuel p0_0 p2_0 r_3 x_2 = some r) ?_ ?_
      · refine cw_region ?_
        refine wl_val (v := .int .i64 (mul .i64 p0_0.N r_3)) (w' := w_6) (by kernel_rfl) (run_move (v := .int .i64 (mul .i64 p0_0.N r_3)) (by kernel_rfl)) ?_
        refine wl_val (v := .bool (lt (mul .i64 p0_0.N r_3) (-32768))) (w' := w_6) (by kernel_rfl) (run_lt (k := .i64) (a := (mul .i64 p0_0.N r_3)) (b := (-32768)) (by kernel_rfl) (by kernel_rfl)) ?_
        refine wl_val (v := .bool (lt (mul .i64 p0_0.N r_3) (-32768))) (w' := w_6) (by kernel_rfl) (run_move (v := .bool (lt (mul .i64 p0_0.N r_3) (-32768))) (by kernel_rfl)) ?_
        refine wl_norm [.agg #[.int .i64 p0_0.N, .int .u8 p0_0.D], .int .i64 p1_0, .bool p2_0, .pointer (some ⟨g_1, 0, none⟩), undef, undef, .int .u16 0, .bool false, .int .i64 (mul .i64 p0_0.N r_3), (u_1 0), (u_1 1), (u_1 2), (u_1 3), (u_1 4), (u_1 5), (u_1 6), (u_1 7), (u_1 8), (u_1 9), (u_1 10), (u_1 11), (u_1 12), .bool x_1, .pointer (some ⟨g_1, 0, none⟩), .int .i64 p0_0.N, .int .i64 p1_0, .pointer (some ⟨g_1, 1, none⟩), .int .u8 p0_0.D, .int .i64 (cvt .i64 p0_0.D), .int .i64 (sub .i64 p1_0 (cvt .i64 p0_0.D)), .int .i64 r_3, .int .i64 (mul .i64 p0_0.N r_3), .int .i64 (mul .i64 p0_0.N r_3), .bool (lt (mul .i64 p0_0.N r_3) (-32768)), .bool (lt (mul .i64 p0_0.N r_3) (-32768)), undef, undef, undef, undef, undef, undef, undef, undef, undef, undef, undef, undef] (by kernel_rfl) ?_
        rcases Bool.eq_false_or_eq_true (lt (mul .i64 p0_0.N r_3) (-32768)) with hc_8 | hc_8
        · have hm := ite_t hm hc_8
          refine wl_not0 (wg (c := (lt (mul .i64 p0_0.N r_3) (-32768))) (want := false) (by kernel_rfl) hc_8 rfl) (by kernel_rfl) ?_
          refine wl_not0 (wg (c := (lt (mul .i64 p0_0.N r_3) (-32768))) (want := false) (by kernel_rfl) hc_8 rfl) (by kernel_rfl) ?_
          refine wl_val (v := .bool true) (w' := w_6) (by kernel_rfl) (run_pick_t (v := .bool true) (tr2 (c := (lt (mul .i64 p0_0.N r_3) (-32768))) (by kernel_rfl) hc_8) (by kernel_rfl)) ?_
          refine wl_nil ?_
          have hS : Stp w0.heap.size _ [] F [] w_6 _ := Stp.pick hL [] rfl (by decide)
          replace hB := hS.below hL hB
          replace hL := hS.hL
          exact then_c ⟨true, (fun i => ([.int .i64 (mul .i64 p0_0.N r_3), .bool (lt (mul .i64 p0_0.N r_3) (-32768)), .bool (lt (mul .i64 p0_0.N r_3) (-32768)), undef, undef] : List Value).getD i undef), by kernel_rfl, hL, hB, hm⟩
        · have hm := ite_f hm hc_8
          refine wl_val (v := .int .i64 (mul .i64 p0_0.N r_3)) (w' := w_6) (wg (c := (lt (mul .i64 p0_0.N r_3) (-32768))) (want := false) (by kernel_rfl) hc_8 rfl) (run_move (v := .int .i64 (mul .i64 p0_0.N r_3)) (by kernel_rfl)) ?_
          refine wl_val (v := .bool (ge (mul .i64 p0_0.N r_3) 65536)) (w' := w_6) (wg (c := (lt (mul .i64 p0_0.N r_3) (-32768))) (want := false) (by kernel_rfl) hc_8 rfl) (run_ge (k := .i64) (a := (mul .i64 p0_0.N r_3)) (b := 65536) (by kernel_rfl) (by kernel_rfl)) ?_
          refine wl_val (v := .bool (ge (mul .i64 p0_0.N r_3) 65536)) (w' := w_6) (by kernel_rfl) (run_pick_f (v := .bool (ge (mul .i64 p0_0.N r_3) 65536)) (tr2 (c := (lt (mul .i64 p0_0.N r_3) (-32768))) (by kernel_rfl) hc_8) (by kernel_rfl)) ?_
          refine wl_nil ?_
          have hS : Stp w0.heap.size _ [] F [] w_6 _ := Stp.pick hL [] rfl (by decide)
          replace hB := hS.below hL hB
          replace hL := hS.hL
          exact then_c ⟨(ge (mul .i64 p0_0.N r_3) 65536), (fun i => ([.int .i64 (mul .i64 p0_0.N r_3), .bool (lt (mul .i64 p0_0.N r_3) (-32768)), .bool (lt (mul .i64 p0_0.N r_3) (-32768)), .int .i64 (mul .i64 p0_0.N r_3), .bool (ge (mul .i64 p0_0.N r_3) 65536)] : List Value).getD i undef), by kernel_rfl, hL, hB, hm⟩
      · intro l1 w_7 hI
        obtain ⟨x_2, u_2, rfl, hL, hB, hm⟩ := hI
        unfold m17_J2 at hm
        refine cw_cond (t := x_2) (by kernel_rfl) (fun hc_5 => ?_) (fun hc_5 => ?_)
        · have hm := ite_t hm hc_5
          refine cw_seq ?_
          refine cw_region ?_
          refine wl_val (v := .int .u16 0) (w' := w_7) (by kernel_rfl) (run_assign (v := .int .u16 0) (by kernel_rfl)) ?_
          refine wl_val (v := .bool false) (w' := w_7) (by kernel_rfl) (run_assign (v := .bool false) (by kernel_rfl)) ?_
          refine wl_nil ?_
          refine then_n ?_
          refine cw_ret ?_
          refine then_ret ?_
          obtain rfl := Option.some.inj hm
          exact ret2 (v := .int .u16 0) (v' := .bool false) rfl (resv_tmp (by kernel_rfl)) (resv_tmp (by kernel_rfl)) ⟨_, rfl, by kernel_rfl, hB⟩
        · have hm := ite_f hm hc_5
          refine cw_skip ?_
          refine then_n ?_
          refine cw_seq ?_
          refine cw_seq ?_
          refine cw_region ?_
          refine wl_val (v := .bool p2_0) (w' := w_7) (by kernel_rfl) (run_move (v := .bool p2_0) (by kernel_rfl)) ?_
          refine wl_nil ?_
          refine then_n ?_
          refine cw_cond (t := p2_0) (by kernel_rfl) (fun hc_6 => ?_) (fun hc_6 => ?_)
          · have hm := ite_t hm hc_6
            refine cw_seq ?_
            refine cw_region ?_
            refine wl_val (v := .int .i64 (mul .i64 p0_0.N r_3)) (w' := w_7) (by kernel_rfl) (run_move (v := .int .i64 (mul .i64 p0_0.N r_3)) (by kernel_rfl)) ?_
            obtain ⟨r_4, h_5, hm⟩ := bind_e hm
            refine wl_op (by kernel_rfl) (ow_enter (run_callf (vs := [.int .i64 (mul .i64 p0_0.N r_3)]) Tryd.func40 nm_40 (by kernel_rfl) (by kernel_rfl)) (f40_ok (p0_0 := (mul .i64 p0_0.N r_3)) fuel _ w_7 hL.lt  h_5) ?_)
            intro vR w_8 hR
            obtain ⟨rfl, hBe⟩ := hR
            have hS := Stp.call hL (Fz.of_below hBe [])
            replace hB := hS.below hL hB
            replace hL := hS.hL
            refine wl_val (v := .int .u16 r_4.1) (w' := w_8) (by kernel_rfl) (run_extract (vs := #[.int .u16 r_4.1, .bool r_4.2]) (by kernel_rfl) (by kernel_rfl)) ?_
            refine wl_val (v := .bool r_4.2) (w' := w_8) (by kernel_rfl) (run_extract (vs := #[.int .u16 r_4.1, .bool r_4.2]) (by kernel_rfl) (by kernel_rfl)) ?_
            refine wl_val (v := .int .u16 r_4.1) (w' := w_8) (by kernel_rfl) (run_assign (v := .int .u16 r_4.1) (by kernel_rfl)) ?_
            refine wl_val (v := .bool r_4.2) (w' := w_8) (by kernel_rfl) (run_assign (v := .bool r_4.2) (by kernel_rfl)) ?_
            refine wl_nil ?_
            refine then_n ?_
            refine cw_ret ?_
            refine then_ret ?_
            obtain rfl := Option.some.inj hm
            exact ret2 (v := .int .u16 r_4.1) (v' := .bool r_4.2) rfl (resv_tmp (by kernel_rfl)) (resv_tmp (by kernel_rfl)) ⟨_, rfl, by kernel_rfl, hB⟩
          · have hm := ite_f hm hc_6
            refine cw_skip ?_
            refine then_n ?_
            refine cw_seq ?_
            refine cw_seq ?_
            refine cw_region ?_
            refine wl_val (v := .int .i64 (mul .i64 p0_0.N r_3)) (w' := w_7) (by kernel_rfl) (run_move (v := .int .i64 (mul .i64 p0_0.N r_3)) (by kernel_rfl)) ?_
            refine wl_val (v := .bool (lt (mul .i64 p0_0.N r_3) 0)) (w' := w_7) (by kernel_rfl) (run_lt (k := .i64) (a := (mul .i64 p0_0.N r_3)) (b := 0) (by kernel_rfl) (by kernel_rfl)) ?_
            refine wl_nil ?_
            refine then_n ?_
            refine cw_cond (t := (lt (mul .i64 p0_0.N r_3) 0)) (by kernel_rfl) (fun hc_7 => ?_) (fun hc_7 => ?_)
            · have hm := ite_t hm hc_7
              refine cw_seq ?_
              refine cw_region ?_
              refine wl_val (v := .int .u16 0) (w' := w_7) (by kernel_rfl) (run_assign (v := .int .u16 0) (by kernel_rfl)) ?_
              refine wl_val (v := .bool false) (w' := w_7) (by kernel_rfl) (run_assign (v := .bool false) (by kernel_rfl)) ?_
              refine wl_nil ?_
              refine then_n ?_
              refine cw_ret ?_
              refine then_ret ?_
              obtain rfl := Option.some.inj hm
              exact ret2 (v := .int .u16 0) (v' := .bool false) rfl (resv_tmp (by kernel_rfl)) (resv_tmp (by kernel_rfl)) ⟨_, rfl, by kernel_rfl, hB⟩
            · have hm := ite_f hm hc_7
              refine cw_skip ?_
              refine then_n ?_
              refine cw_seq ?_
              refine cw_region ?_
              refine wl_val (v := .int .i64 (mul .i64 p0_0.N r_3)) (w' := w_7) (by kernel_rfl) (run_move (v := .int .i64 (mul .i64 p0_0.N r_3)) (by kernel_rfl)) ?_
              refine wl_val (v := .int .u16 (cvt .u16 (mul .i64 p0_0.N r_3))) (w' := w_7) (by kernel_rfl) (run_cvt (k := .i64) (a := (mul .i64 p0_0.N r_3)) Tryd.underlying2 Tryd.underlying35 (by kernel_rfl)) ?_
              refine wl_val (v := .int .u16 (cvt .u16 (mul .i64 p0_0.N r_3))) (w' := w_7) (by kernel_rfl) (run_assign (v := .int .u16 (cvt .u16 (mul .i64 p0_0.N r_3))) (by kernel_rfl)) ?_
              refine wl_val (v := .bool true) (w' := w_7) (by kernel_rfl) (run_assign (v := .bool true) (by kernel_rfl)) ?_
              refine wl_nil ?_
              refine then_n ?_
              refine cw_ret ?_
              obtain rfl := Option.some.inj hm
              exact ret2 (v := .int .u16 (cvt .u16 (mul .i64 p0_0.N r_3))) (v' := .bool true) rfl (resv_tmp (by kernel_rfl)) (resv_tmp (by kernel_rfl)) ⟨_, rfl, by kernel_rfl, hB⟩
end SxYtihfogahdofdmaaDoor

end

section
/- Plain laws of decimals: powers of ten, what is left without the last noughts. -/
namespace SxYtihfogahdofdmaaDoor
open Go Sx

theorem wrap64 {x : Int} (h1 : -9223372036854775808 ≤ x) (h2 : x ≤ 9223372036854775807) : IntKind.i64.wrap x = x := by
  simp only [IntKind.wrap, IntKind.signed, IntKind.bits]
  simp
  omega
theorem wrapu8 {x : Int} (h1 : 0 ≤ x) (h2 : x ≤ 255) : IntKind.u8.wrap x = x := by
  simp only [IntKind.wrap, IntKind.signed, IntKind.bits]
  simp
  omega
theorem wrapu16 {x : Int} : IntKind.u16.wrap x = x % 65536 := by
  simp only [IntKind.wrap, IntKind.signed, IntKind.bits]
  simp
/-- powers of ten -/
def p10 : Nat → Int
  | 0 => 1
  | n + 1 => 10 * p10 n
theorem m37_eq : ∀ n : Nat, n ≤ 6 → m37 64 (n : Int) = some (p10 n)
  | 0, _ => by kernel_rfl
  | 1, _ => by kernel_rfl
  | 2, _ => by kernel_rfl
  | 3, _ => by kernel_rfl
  | 4, _ => by kernel_rfl
  | 5, _ => by kernel_rfl
  | 6, _ => by kernel_rfl
  | n + 7, h => by omega
theorem p10_pos : ∀ n, 0 < p10 n
  | 0 => by decide
  | n + 1 => by have := p10_pos n; simp only [p10]; omega
theorem p10_add : ∀ a b, p10 (a + b) = p10 a * p10 b
  | a, 0 => by simp [p10]
  | a, b + 1 => by rw [← Nat.add_assoc, p10, p10, p10_add a b, Int.mul_left_comm]
def strip : Nat → Int → Nat × Int
  | 0, n => (0, n)
  | k + 1, n => if n.tmod 10 = 0 then strip k (n.tdiv 10) else (k + 1, n)
theorem strip_spec : ∀ k n, (strip k n).1 ≤ k ∧ n = (strip k n).2 * p10 (k - (strip k n).1) ∧ ((strip k n).1 = 0 ∨ (strip k n).2.tmod 10 ≠ 0)
  | 0, n => by simp [strip, p10]
  | k + 1, n => by
    unfold strip
    split
    · rename_i h
      obtain ⟨h1, h2, h3⟩ := strip_spec k (n.tdiv 10)
      refine ⟨by omega, ?_, h3⟩
      have e : k + 1 - (strip k (n.tdiv 10)).1 = (k - (strip k (n.tdiv 10)).1) + 1 := by omega
      have hd : n = 10 * n.tdiv 10 := by have := Int.mul_tdiv_add_tmod n 10; omega
      rw [e, p10, Int.mul_left_comm, ← h2]
      exact hd
    · exact ⟨Nat.le_refl _, by simp [p10], .inr ‹_›⟩
theorem strip_abs (k : Nat) (n B : Int) (h : -B ≤ n ∧ n ≤ B) : -B ≤ (strip k n).2 ∧ (strip k n).2 ≤ B := by
  induction k generalizing n with
  | zero => exact h
  | succ k ih =>
    unfold strip
    split
    · apply ih
      have := Int.mul_tdiv_add_tmod n 10
      omega
    · exact h
/-- a decimal of the model is right -/
def RightD (d : TDec) : Prop := -1000000000000 ≤ d.N ∧ d.N ≤ 1000000000000 ∧ 0 ≤ d.D ∧ d.D ≤ 6 ∧ (d.D = 0 ∨ d.N.tmod 10 ≠ 0)
theorem m14_right {d : TDec} (h : RightD d) : m14 64 d = some true := by
  obtain ⟨h1, h2, h3, h4, h5⟩ := h
  unfold m14
  simp only [m14_J1, ge, le, eqi, nei, rem]
  rcases h5 with h5 | h5 <;> simp [h1, h2, h4, h5]
theorem m14_any {d : TDec} (hD : 0 ≤ d.D) : ∃ b, m14 64 d = some b ∧ (b = true ↔ RightD d) := by
  by_cases h : RightD d
  · exact ⟨true, m14_right h, by simp [h]⟩
  · refine ⟨false, ?_, by simp [h]⟩
    unfold m14
    simp only [m14_J1, ge, le, eqi, nei, rem]
    unfold RightD at h
    by_cases h1 : d.N ≥ -1000000000000
    · by_cases h2 : d.N ≤ 1000000000000
      · by_cases h4 : d.D ≤ 6
        · by_cases h5 : d.D = 0
          · exact absurd ⟨h1, h2, hD, h4, .inl h5⟩ h
          · by_cases h6 : d.N.tmod 10 = 0
            · simp [h1, h2, h4, h5, h6]
            · exact absurd ⟨h1, h2, hD, h4, .inr h6⟩ h
        · simp [h1, h2, h4]
      · simp [h1, h2]
    · simp [h1]
/-- normal forms are one -/
theorem right_one {a b : TDec} {K : Nat} (ha : RightD a) (hb : RightD b) (hKa : a.D.toNat ≤ K) (hKb : b.D.toNat ≤ K) (h : a.N * p10 (K - a.D.toNat) = b.N * p10 (K - b.D.toNat)) : a = b := by
  have key : ∀ {x y : TDec}, RightD x → RightD y → x.D.toNat ≤ K → y.D.toNat ≤ K → x.N * p10 (K - x.D.toNat) = y.N * p10 (K - y.D.toNat) → ¬ x.D.toNat < y.D.toNat := by
    intro x y hx hy hKx hKy he hlt
    have e1 : K - x.D.toNat = (K - y.D.toNat) + (y.D.toNat - x.D.toNat - 1) + 1 := by omega
    rw [e1, p10, p10_add] at he
    have e2 : x.N * (10 * (p10 (K - y.D.toNat) * p10 (y.D.toNat - x.D.toNat - 1))) = (10 * (x.N * p10 (y.D.toNat - x.D.toNat - 1))) * p10 (K - y.D.toNat) := by
      rw [Int.mul_left_comm x.N 10, Int.mul_assoc 10, Int.mul_assoc x.N, Int.mul_comm (p10 (K - y.D.toNat))]
    rw [e2] at he
    have e3 := Int.eq_of_mul_eq_mul_right (Int.ne_of_gt (p10_pos _)) he
    obtain ⟨_, _, h3, _, h5⟩ := hy
    rcases h5 with h5 | h5
    · omega
    · apply h5
      rw [← e3]
      exact Int.mul_tmod_right _ _
  have h1 := key ha hb hKa hKb h
  have h2 := key hb ha hKb hKa h.symm
  have hD : a.D.toNat = b.D.toNat := by omega
  have hD' : a.D = b.D := by
    have := ha.2.2.1
    have := hb.2.2.1
    omega
  rw [hD] at h
  have hN := Int.eq_of_mul_eq_mul_right (Int.ne_of_gt (p10_pos _)) h
  cases a; cases b
  simp_all
end SxYtihfogahdofdmaaDoor

end
