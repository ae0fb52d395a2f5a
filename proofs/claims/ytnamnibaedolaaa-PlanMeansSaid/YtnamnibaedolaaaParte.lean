/- Proved in the last of these 13 parts (this is part 5): PlanMeans: whatever the table, the recipe and the bank, the law returns true.. Conditions: those of the given statement, and no others. -/
import Derived.Test.YtnamnibaedolaaaPartd
import Derived.Test.YtnamnibaedolaaaParta
import Derived.Test.YtnamnibaedolaaaProg
import Derived.Shelf.SlIterI.Nil
import Derived.Shelf.SlIterI.Sorted
import Derived.Shelf.SortM.Plain
import Derived.Shelf.SortM.SortNone
import Derived.Ground.GgzProg
import Derived.Ground.SlgmProg
import Derived.RangeFuncWrites
import Derived.RangeFuncBox
import Derived.RangeFuncLeaves
import Derived.Shelf.Abstract
import Derived.WalkKit
import Derived.OwnWalkIn
import Derived.TacticsInMore
import Derived.LoopNIn
import Derived.LoopIn
set_option linter.unusedVariables false
set_option linter.unusedSimpArgs false
set_option linter.unusedSectionVars false
section
namespace Ev
open Go Go.RowKit Sx
def idF:Fr->List Nat
 | []=>[]
 | (_,s)::q=>idS s++idF q
def keepF (fr:Fr):List Nat->Fr
 | []=>[]
 | t::q=>match get fr t with
  | some s=>(t,s)::keepF fr q
  | none=>keepF fr q
def reach (own:List (Nat×Ent)):Nat->List Nat->List Nat->List Nat
 | 0,_,d=>d
 | _,[],d=>d
 | n + 1,i::q,d=>if d.contains i then reach own n q d else match get own i with
  | some e=>reach own n (idE e++q) (d++[i])
  | none=>reach own n q d
def pos:List Nat->Nat->Nat
 | [],_=>0
 | j::q,i=>if j=i then 0 else pos q i + 1
def okF (ds:List Nat):Fr->Fr
 | []=>[]
 | (t,s)::q=>if (idS s).all (fun i=>ds.contains i)=true then (t,s)::okF ds q else okF ds q
def renF (f:Nat->Nat):Fr->Fr
 | []=>[]
 | (t,s)::q=>(t,renS f s)::renF f q
def renO (own:List (Nat×Ent)) (f:Nat->Nat) (all:List Nat):List Nat->Option (List (Nat×Ent))
 | []=>some []
 | i::q=>match get own i with
  | some e=>if (idE e).all (fun j=>all.contains j)=true then (renO own f all q).map fun r=>(f i,renE f e)::r else none
  | none=>none
inductive Co where
 | row (t:Nat) (e:TypeId)
 | frz (t:Nat)
 | unl (t:Nat)
 | frb (t:Nat)
 | agd (t:Nat) (ty:Ty)
 | rwb (t j:Nat) (e:TypeId)
 | slf (t j:Nat)
 | opn (t:Nat) (c:List (Nat×TypeId))
 | opc (t j:Nat) (c:List (Nat×TypeId))
structure Hint where
 co:List Co
 keep:List Nat
def cellT:Ty->List Ty
 | .pr a b=>cellT a++cellT b
 | .wr a=>cellT a
 | .un=>[]
 | t=>[t]
def dcl:SV->Ty->SV
 | .k (.slice none 0 0),.sl t=>.d (.sl t) []
 | s,_=>s
def dcell:List SV->List Ty->List SV
 | s::q,t::r=>dcl s t::dcell q r
 | q,_=>q
def frzAll:List Nat->St->St
 | [],S=>S
 | j::q,S=>match frz S j with
  | some S'=>frzAll q S'
  | none=>frzAll q S
def frbS (P:Program) (t:Nat) (S:St):St:=match get S.fr t with
 | some (.pb i _)=>match get S.own i with
  | some (.box _ cs)=>let S1:=frzAll (rowsC cs) S
   match get S1.own i with
   | some (.box T cs1)=>match tyc P T with
    | some y=>{ S1 with own:=pute i (.box T (dcell cs1 (cellT y))) S1.own,log:=i::S1.log }
    | none=>S1
   | _=>S1
  | _=>S
 | _=>S
def agdS (t:Nat) (ty:Ty) (S:St):St:=match get S.fr t with
 | some s=>match toD ty s with
  | some x=>if t < S.nt then { S with fr:=(t,.d ty x)::S.fr } else S
  | none=>S
 | none=>S
def rwbS (P:Program) (t j:Nat) (e:TypeId) (S:St):St:=match get S.fr t,rowTy P e with
 | some (.pb i _),some ⟨t0,_⟩=>match get ((S.nx,Ent.row t0 e [])::S.own) i with
  | some (.box T cs)=>match cs[j]? with
   | some (.k (.slice none 0 0))=>{ S with own:=pute i (.box T (cs.set j (.row S.nx))) ((S.nx,.row t0 e [])::S.own),nx:=S.nx + 1,log:=i::S.log }
   | _=>S
  | _=>S
 | _,_=>S
def slfS (t j:Nat) (S:St):St:=match get S.fr t with
 | some (.pb i _)=>match get S.own i with
  | some (.box T cs)=>match cs[j]? with
   | some (.k (.pointer none))=>{ S with own:=pute i (.box T (cs.set j (.opb false i 0))) S.own,log:=i::S.log }
   | some (.pb i' o')=>{ S with own:=pute i (.box T (cs.set j (.opb true i' o'))) S.own,log:=i::S.log }
   | _=>S
  | _=>S
 | _=>S
def opnC (c:List (Nat×TypeId)):Nat->List Ty->List SV
 | _,[]=>[]
 | n,t::q=>(match get c n with
  | some _=>.k (.slice none 0 0)
  | none=>.d t (dfl t))::opnC c (n + 1) q
def filO (P:Program) (i:Nat):List (Nat×TypeId)->St->St
 | [],S=>S
 | (j,e)::q,S=>filO P i q (match rowTy P e with
  | some ⟨t0,_⟩=>match get ((S.nx,Ent.row t0 e [])::S.own) i with
   | some (.rowo t e0 b xs cs)=>match cs[j]? with
    | some (.k (.slice none 0 0))=>{ S with own:=pute i (.rowo t e0 b xs (cs.set j (.row S.nx))) ((S.nx,.row t0 e [])::S.own),nx:=S.nx + 1,log:=i::S.log }
    | _=>S
   | _=>S
  | none=>S)
def opnE (P:Program) (i:Nat) (c:List (Nat×TypeId)) (S:St):St:=match get S.own i with
 | some (.row t e xs)=>filO P i c { S with own:=pute i (.rowo t e false xs (opnC c 0 (cellT t))) S.own,log:=i::S.log }
 | some (.rowo _ _ _ _ _)=>filO P i c S
 | _=>S
def opnS (P:Program) (t:Nat) (c:List (Nat×TypeId)) (S:St):St:=match get S.fr t with
 | some (.row i)=>opnE P i c S
 | _=>S
def opcS (P:Program) (t j:Nat) (c:List (Nat×TypeId)) (S:St):St:=match get S.fr t with
 | some (.pb b _)=>match get S.own b with
  | some (.box _ cs)=>match cs[j]? with
   | some (.row i)=>opnE P i c S
   | _=>S
  | _=>S
 | _=>S
def coer (P:Program):List Co->St->St
 | [],S=>S
 | .row t e::q,S=>match get S.fr t,rowTy P e with
  | some (.k (.slice none 0 0)),some ⟨t0,_⟩=>if t < S.nt then coer P q { S with own:=(S.nx,.row t0 e [])::S.own,nx:=S.nx + 1,fr:=(t,.row S.nx)::S.fr } else coer P q S
  | _,_=>coer P q S
 | .frz t::q,S=>match get S.fr t with
  | some (.row i)=>match frz S i with
   | some S'=>coer P q S'
   | none=>coer P q S
  | some (.k (.slice none 0 0))=>coer P q S
  | _=>coer P q S
 | .unl t::q,S=>match get S.fr t with
  | some (.row i)=>match get S.own i with
   | some (.row t0 e xs)=>if i < S.ln∧t < S.nt then coer P q { S with own:=repl i S.nx (.row t0 e xs) S.own,nx:=S.nx + 1,log:=i::S.log,fr:=(t,.row S.nx)::S.fr } else coer P q S
   | _=>coer P q S
  | _=>coer P q S
 | .frb t::q,S=>coer P q (frbS P t S)
 | .agd t ty::q,S=>coer P q (agdS t ty S)
 | .rwb t j e::q,S=>coer P q (rwbS P t j e S)
 | .slf t j::q,S=>coer P q (slfS t j S)
 | .opn t c::q,S=>coer P q (opnS P t c S)
 | .opc t j c::q,S=>coer P q (opcS P t j c S)
def lentI (n:Nat):List (Nat×Ent)->List Nat
 | []=>[]
 | (i,_)::q=>if i < n then i::lentI n q else lentI n q
def newI (n:Nat):List Nat->List Nat
 | []=>[]
 | i::q=>if i < n then newI n q else i::newI n q
def nmb (n:Nat) (ds:List Nat) (i:Nat):Nat:=if i < n then i else n + pos (newI n ds) i
def nrm (P:Program) (h:Hint) (S0:St):Option St :=
 match S0.up with
 | [] =>
  let S:=coer P h.co S0
  let fr:=keepF S.fr h.keep
  let ds:=reach S.own 1000 (lentI S.ln S.own++idF fr) []
  if nodup ds=true then
   match renO S.own (nmb S.ln ds) ds ds with
   | some own=>some { fr:=renF (nmb S.ln ds) (okF ds fr),nt:=S.nt,up:=[],own:=own,nx:=S.ln + (newI S.ln ds).length,log:=[],ln:=S.ln }
   | none=>none
  else none
 | _=>none
section
variable {B:Nat->Prop} {F:Lx} {w0:Bs} {wr:Wr} {pl pl':List Place} {S S':St} {l l':List Value} {ls:List (List Value)} {w w':World} {L L' M:Lx} {P:Program}
theorem unl_ok (h:Rel B F w0 wr pl S l ls w) {t i:Nat} {t0:Ty} {e:TypeId} {xs:List (Vl t0)} (hg:get S.fr t=some (.row i)) (ho:get S.own i=some (.row t0 e xs)) (hlt:t < S.nt) :
  ∃ pl',Rel B F w0 wr pl' { S with own:=repl i S.nx (.row t0 e xs) S.own,nx:=S.nx + 1,log:=i::S.log,fr:=(t,.row S.nx)::S.fr } l ls w:=by
 obtain ⟨pre,post,h1,h2⟩:=get_split ho
 obtain ⟨p,hp,how⟩:=h.ent (i,.row t0 e xs) (get_mem ho)
 have e0:blk p.a=plb pl i:=by unfold plb; rw [hp]; rfl
 have e3:lx pl S.own=lx pl pre++plb pl i::lx pl post:=by rw [h1,lx_split]
 have hL:=h.hL
 have hs:Stp B (lx pl pre++plb pl i::lx pl post) (lx pl pre++blk p.a::lx pl post) F [plb pl i] w w:=by
  rw [e0,<- e3]
  exact ⟨(Fz.refl _ _),fun k hk=>by simp at hk; rw [e3,<- hk]; simp,Sub.refl _ _,hL⟩
 have h3:=h.rep h1 h2 hs (e':=.row t0 e xs) ⟨p,q8_ _,by rw [e0,<- e3]; exact how⟩
 obtain ⟨p',hp',hv⟩:=h.fr t _ hg
 rw [hp] at hp'
 cases hp'
 have h4:=h3.set (d:=t) (s:=.row S.nx) (v:=.slice p.a p.n p.c) hlt ⟨p,by rw [h.nx]; exact q8_ _,rfl⟩
 have e1:l.set t (.slice p.a p.n p.c)=l:=by
  have:t < l.length:=by rw [h.nt]; exact hlt
  rw [<- hv,List.getD_eq_getElem?_getD,List.getElem?_eq_getElem this]
  simp
 rw [e1] at h4
 exact ⟨_,h4⟩
theorem dcell_ok {L:Lx}:∀ {cs:List SV} {ts:List Ty} {us:List Value},DenL pl L w cs us->DenL pl L w (dcell cs ts) us
 | [],ts,us,h=>by cases ts <;> exact h
 | s::q,[],us,h=>h
 | s::q,t::r,us,⟨v,vs,h1,h2,h3⟩=>by
  refine ⟨v,vs,h1,?_,dcell_ok h3⟩
  unfold dcl
  split
  ·cases h2
   exact den_d (t:=.sl _) rfl (slice_nil _ _ _ _ _)
  ·exact h2
theorem frzAll_ok:∀ {q:List Nat} {S:St},Rel B F w0 wr pl S l ls w->Rel B F w0 wr pl (frzAll q S) l ls w∧(frzAll q S).nt=S.nt
 | [],S,h=>⟨h,rfl⟩
 | j::q,S,h=>by
  unfold frzAll
  split
  ·rename_i S' hf
   obtain ⟨a,b⟩:=frzAll_ok (q:=q) (frz_ok h hf)
   exact ⟨a,by rw [b,frz_nt hf]⟩
  ·exact frzAll_ok h
theorem frbS_ok (h:Rel B F w0 wr pl S l ls w) {t:Nat}:Rel B F w0 wr pl (frbS P t S) l ls w∧(frbS P t S).nt=S.nt:=by
 unfold frbS
 split
 ·rename_i i o hg
  split
  ·rename_i T0 cs ho
   obtain ⟨a,b⟩:=frzAll_ok (q:=rowsC cs) h
   dsimp only
   split
   ·rename_i T cs1 ho1
    split
    ·rename_i y hy
     have he:=a.ent (i,.box T cs1) (get_mem ho1)
     obtain ⟨g,n,c,us,h1,h2,h3,h4⟩:=he
     have hmem:∀ k,some k ∈ [plb pl i]->some k ∈ lx pl (frzAll (rowsC cs) S).own:=fun k hk=>by
      simp at hk
      rw [hk]
      exact List.mem_map_of_mem (f:=fun e:Nat×Ent=>plb pl e.1) (get_mem ho1)
     exact ⟨a.mod ho1 ⟨Fz.refl _ _,hmem,Sub.refl _ _,a.hL⟩ ⟨g,n,c,us,h1,h2,dcell_ok h3,h4⟩,b⟩
    ·exact ⟨a,b⟩
   ·exact ⟨a,b⟩
  ·exact ⟨h,rfl⟩
 ·exact ⟨h,rfl⟩
theorem agdS_ok (h:Rel B F w0 wr pl S l ls w) {t:Nat} {ty:Ty}:Rel B F w0 wr pl (agdS t ty S) l ls w∧(agdS t ty S).nt=S.nt:=by
 unfold agdS
 split
 ·rename_i s hg
  split
  ·rename_i x hx
   split
   ·rename_i hlt
    obtain ⟨cs,h1,h2⟩:=toD_rel hx (h.fr t s hg)
    have h3:=h.set (d:=t) (s:=.d ty x) (v:=l.getD t undef) hlt ⟨cs,h1,h2⟩
    have e1:l.set t (l.getD t undef)=l:=by
     have:t < l.length:=by rw [h.nt]; exact hlt
     rw [List.getD_eq_getElem?_getD,List.getElem?_eq_getElem this]
     simp
    rw [e1] at h3
    exact ⟨h3,rfl⟩
   ·exact ⟨h,rfl⟩
  ·exact ⟨h,rfl⟩
 ·exact ⟨h,rfl⟩
theorem DenL.setv {L:Lx}:∀ {cs:List SV} {us:List Value} {j:Nat} {s:SV} {u:Value},DenL pl L w cs us->us[j]? = some u->Den pl L w s u->DenL pl L w (cs.set j s) us
 | [],us,j,s,u,h,hj,hs=>by simpa using h
 | c::q,us,0,s,u,⟨v,vs,h1,h2,h3⟩,hj,hs=>by
  subst h1
  simp at hj
  subst hj
  exact ⟨v,vs,rfl,hs,h3⟩
 | c::q,us,j + 1,s,u,⟨v,vs,h1,h2,h3⟩,hj,hs=>by
  subst h1
  exact ⟨v,vs,rfl,h2,DenL.setv h3 (by simpa using hj) hs⟩
theorem slfS_ok (h:Rel B F w0 wr pl S l ls w) {t j:Nat}:Rel B F w0 wr pl (slfS t j S) l ls w∧(slfS t j S).nt=S.nt:=by
 unfold slfS
 split
 ·rename_i i o hg
  split
  ·rename_i T cs ho
   have hmem:∀ k,some k ∈ [plb pl i]->some k ∈ lx pl S.own:=fun k hk=>by
    simp only [List.mem_singleton] at hk
    rw [hk]
    exact List.mem_map_of_mem (f:=fun e:Nat×Ent=>plb pl e.1) (get_mem ho)
   obtain ⟨g,n,c,us,h1,h2,h3,h4⟩:=h.ent (i,.box T cs) (get_mem ho)
   split
   ·rename_i hc
    obtain ⟨u,q1,q2⟩:=h3.at hc
    have q2:u = .pointer none:=q2
    subst q2
    exact ⟨h.mod (e':=.box T (cs.set j (.opb false i 0))) ho ⟨Fz.refl _ _,hmem,Sub.refl _ _,h.hL⟩ ⟨g,n,c,us,h1,h2,h3.setv q1 (s:=.opb false i 0) ⟨(fun e=>nomatch e),fun _=>rfl⟩,h4⟩,rfl⟩
   ·rename_i i' o' hc
    obtain ⟨u,q1,q2⟩:=h3.at hc
    exact ⟨h.mod (e':=.box T (cs.set j (.opb true i' o'))) ho ⟨Fz.refl _ _,hmem,Sub.refl _ _,h.hL⟩ ⟨g,n,c,us,h1,h2,h3.setv q1 (s:=.opb true i' o') ⟨fun _=>q2,(fun e=>nomatch e)⟩,h4⟩,rfl⟩
   ·exact ⟨h,rfl⟩
  ·exact ⟨h,rfl⟩
 ·exact ⟨h,rfl⟩
theorem rwbS_ok (h:Rel B F w0 wr pl S l ls w) {t j:Nat} {e:TypeId}:∃ pl',Rel B F w0 wr pl' (rwbS P t j e S) l ls w∧(rwbS P t j e S).nt=S.nt:=by
 unfold rwbS
 split
 ·rename_i i o t0 z hg hr
  split
  ·rename_i T cs ho
   split
   ·rename_i hc
    have hS:Stp B (lx pl S.own) (blk (none:Option Addr)::lx pl S.own) F [] w w:=Stp.none h.hL rfl
    have a:=h.push ⟨none,0,0⟩ (.row t0 e []) hS ⟨_,q8_ _,Ow.nil _ _ _ _⟩
    have ho':get ({ S with own:=(S.nx,Ent.row t0 e [])::S.own,nx:=S.nx + 1 }:St).own i=some (.box T cs):=ho
    obtain ⟨g,n,c,us,h1,h2,h3,h4⟩:=a.ent (i,.box T cs) (get_mem ho')
    obtain ⟨u,q1,q2⟩:=h3.at hc
    have q2:u = .slice none 0 0:=q2
    subst q2
    have hmem:∀ k,some k ∈ [plb (pl++[⟨none,0,0⟩]) i]->some k ∈ lx (pl++[⟨none,0,0⟩]) ({ S with own:=(S.nx,Ent.row t0 e [])::S.own,nx:=S.nx + 1 }:St).own:=fun k hk=>by
     simp only [List.mem_singleton] at hk
     rw [hk]
     exact List.mem_map_of_mem (f:=fun e:Nat×Ent=>plb (pl++[⟨none,0,0⟩]) e.1) (get_mem ho')
    have m:=a.mod (e':=.box T (cs.set j (.row S.nx))) ho' ⟨Fz.refl _ _,hmem,Sub.refl _ _,a.hL⟩ ⟨g,n,c,us,h1,h2,h3.setv q1 (s:=.row S.nx) ⟨⟨none,0,0⟩,by rw [h.nx]; exact q8_ _,rfl⟩,h4⟩
    exact ⟨_,m,rfl⟩
   ·exact ⟨pl,h,rfl⟩
  ·exact ⟨pl,h,rfl⟩
 ·exact ⟨pl,h,rfl⟩
theorem filO_ok:∀ {c:List (Nat×TypeId)} {pl:List Place} {S:St} {i:Nat},Rel B F w0 wr pl S l ls w->∃ pl',Rel B F w0 wr pl' (filO P i c S) l ls w∧(filO P i c S).nt=S.nt
 | [],pl,S,i,h=>⟨pl,h,rfl⟩
 | (j,e)::q,pl,S,i,h=>by
  unfold filO
  split
  ·rename_i t0 z hr
   split
   ·rename_i t e0 b xs cs ho
    split
    ·rename_i hc
     have hS:Stp B (lx pl S.own) (blk (none:Option Addr)::lx pl S.own) F [] w w:=Stp.none h.hL rfl
     have a:=h.push ⟨none,0,0⟩ (.row t0 e []) hS ⟨_,q8_ _,Ow.nil _ _ _ _⟩
     have ho':get ({ S with own:=(S.nx,Ent.row t0 e [])::S.own,nx:=S.nx + 1 }:St).own i=some (.rowo t e0 b xs cs):=ho
     obtain ⟨p,ro,us,h1,h2,h3,h4⟩:=a.ent (i,.rowo t e0 b xs cs) (get_mem ho')
     have m:=a.told (e':=.rowo t e0 b xs (cs.set j (.row S.nx))) ho' ⟨p,ro,us,h1,h2,h3,fun hb=>by
      have h4:=h4 hb
      obtain ⟨u,q1,q2⟩:=h4.at hc
      have q2:u = .slice none 0 0:=q2
      subst q2
      exact h4.setv q1 (s:=.row S.nx) ⟨⟨none,0,0⟩,by rw [h.nx]; exact q8_ _,rfl⟩⟩
     obtain ⟨pl',r1,r2⟩:=filO_ok (c:=q) (i:=i) m
     exact ⟨pl',r1,r2⟩
    ·exact filO_ok h
   ·exact filO_ok h
  ·exact filO_ok h
theorem opnE_ok (h:Rel B F w0 wr pl S l ls w) {i:Nat} {c:List (Nat×TypeId)}:∃ pl',Rel B F w0 wr pl' (opnE P i c S) l ls w∧(opnE P i c S).nt=S.nt:=by
 unfold opnE
 split
 ·rename_i t e xs ho
  obtain ⟨p,h1,h2⟩:=h.ent _ (get_mem ho)
  obtain ⟨rs,h3,h4⟩:=ow_raw h2
  have m:=h.told (e':=.rowo t e false xs (opnC c 0 (cellT t))) ho ⟨p,rs,[],h1,by
   show Ow _ _ _ _ _ _ _ (rs++[])
   rw [List.append_nil]
   exact h3,h4,fun hb=>by cases hb⟩
  obtain ⟨pl',r1,r2⟩:=filO_ok (P:=P) (c:=c) (i:=i) m
  exact ⟨pl',r1,r2⟩
 ·exact filO_ok h
 ·exact ⟨pl,h,rfl⟩
theorem opnS_ok (h:Rel B F w0 wr pl S l ls w) {t:Nat} {c:List (Nat×TypeId)}:∃ pl',Rel B F w0 wr pl' (opnS P t c S) l ls w∧(opnS P t c S).nt=S.nt:=by
 unfold opnS
 split
 ·exact opnE_ok h
 ·exact ⟨pl,h,rfl⟩
theorem opcS_ok (h:Rel B F w0 wr pl S l ls w) {t j:Nat} {c:List (Nat×TypeId)}:∃ pl',Rel B F w0 wr pl' (opcS P t j c S) l ls w∧(opcS P t j c S).nt=S.nt:=by
 unfold opcS
 split
 ·split
  ·split
   ·exact opnE_ok h
   ·exact ⟨pl,h,rfl⟩
  ·exact ⟨pl,h,rfl⟩
 ·exact ⟨pl,h,rfl⟩
theorem coer_ok:∀ {q:List Co} {pl:List Place} {S:St},Rel B F w0 wr pl S l ls w->∃ pl',Rel B F w0 wr pl' (coer P q S) l ls w∧(coer P q S).nt=S.nt
 | [],pl,S,h=>⟨pl,h,rfl⟩
 | .row t e::q,pl,S,h=>by
  unfold coer
  split
  ·rename_i t0 z hg hr
   split
   ·rename_i hlt
    have hS:Stp B (lx pl S.own) (blk (none:Option Addr)::lx pl S.own) F [] w w:=Stp.none h.hL rfl
    have h':=h.push ⟨none,0,0⟩ (.row t0 e []) hS ⟨_,q8_ _,Ow.nil _ _ _ _⟩
    have hv:l.getD t undef = .slice none 0 0:=h.fr t _ hg
    have h2:=h'.set (d:=t) (s:=.row S.nx) (v:=.slice none 0 0) hlt ⟨⟨none,0,0⟩,by rw [h.nx]; exact q8_ _,rfl⟩
    have e1:l.set t (.slice none 0 0)=l:=by
     have:t < l.length:=by rw [h.nt]; exact hlt
     rw [<- hv,List.getD_eq_getElem?_getD,List.getElem?_eq_getElem this]
     simp
    rw [e1] at h2
    obtain ⟨pl',a1,a2⟩:=coer_ok (q:=q) h2
    exact ⟨pl',a1,a2⟩
   ·exact coer_ok h
  ·exact coer_ok h
 | .frz t::q,pl,S,h=>by
  unfold coer
  split
  ·split
   ·rename_i S' hf
    obtain ⟨pl',a1,a2⟩:=coer_ok (q:=q) (frz_ok h hf)
    exact ⟨pl',a1,by rw [a2,frz_nt hf]⟩
   ·exact coer_ok h
  ·exact coer_ok h
  ·exact coer_ok h
 | .unl t::q,pl,S,h=>by
  unfold coer
  split
  ·rename_i i hg
   split
   ·rename_i t0 e xs ho
    split
    ·rename_i hc
     obtain ⟨pl1,h1⟩:=unl_ok h hg ho hc.2
     obtain ⟨pl',a1,a2⟩:=coer_ok (q:=q) h1
     exact ⟨pl',a1,a2⟩
    ·exact coer_ok h
   ·exact coer_ok h
  ·exact coer_ok h
 | .frb t::q,pl,S,h=>by
  unfold coer
  obtain ⟨a,b⟩:=frbS_ok (P:=P) (t:=t) h
  obtain ⟨pl',a1,a2⟩:=coer_ok (q:=q) a
  exact ⟨pl',a1,by rw [a2,b]⟩
 | .agd t ty::q,pl,S,h=>by
  unfold coer
  obtain ⟨a,b⟩:=agdS_ok (t:=t) (ty:=ty) h
  obtain ⟨pl',a1,a2⟩:=coer_ok (q:=q) a
  exact ⟨pl',a1,by rw [a2,b]⟩
 | .slf t j::q,pl,S,h=>by
  unfold coer
  obtain ⟨a,b⟩:=slfS_ok (t:=t) (j:=j) h
  obtain ⟨pl',a1,a2⟩:=coer_ok (q:=q) a
  exact ⟨pl',a1,by rw [a2,b]⟩
 | .rwb t j e::q,pl,S,h=>by
  unfold coer
  obtain ⟨pl1,a,b⟩:=rwbS_ok (P:=P) (t:=t) (j:=j) (e:=e) h
  obtain ⟨pl',a1,a2⟩:=coer_ok (q:=q) a
  exact ⟨pl',a1,by rw [a2,b]⟩
 | .opn t c::q,pl,S,h=>by
  unfold coer
  obtain ⟨pl1,a,b⟩:=opnS_ok (P:=P) (t:=t) (c:=c) h
  obtain ⟨pl',a1,a2⟩:=coer_ok (q:=q) a
  exact ⟨pl',a1,by rw [a2,b]⟩
 | .opc t j c::q,pl,S,h=>by
  unfold coer
  obtain ⟨pl1,a,b⟩:=opcS_ok (P:=P) (t:=t) (j:=j) (c:=c) h
  obtain ⟨pl',a1,a2⟩:=coer_ok (q:=q) a
  exact ⟨pl',a1,by rw [a2,b]⟩
theorem okF_mem {ds:List Nat}:∀ {fr:Fr} {x:Nat×SV},x ∈ okF ds fr->x ∈ fr∧∀ i ∈ idS x.2,i ∈ ds
 | (t,s)::q,x,h=>by
  unfold okF at h
  split at h
  ·rename_i hall
   rcases List.mem_cons.1 h with h | h
   ·subst h
    exact ⟨List.mem_cons_self ..,fun i hi=>by simpa using List.all_eq_true.1 hall i hi⟩
   ·obtain ⟨a,b⟩:=okF_mem h
    exact ⟨List.mem_cons_of_mem _ a,b⟩
  ·obtain ⟨a,b⟩:=okF_mem h
   exact ⟨List.mem_cons_of_mem _ a,b⟩
theorem keepF_mem {fr:Fr}:∀ {q:List Nat} {x:Nat×SV},x ∈ keepF fr q->get fr x.1=some x.2
 | t::q,x,h=>by
  unfold keepF at h
  split at h
  ·rename_i s hs
   rcases List.mem_cons.1 h with h | h
   ·subst h; exact hs
   ·exact keepF_mem h
  ·exact keepF_mem h
theorem renF_get {f:Nat->Nat}:∀ {fr:Fr} {t:Nat} {s:SV},get (renF f fr) t=some s->∃ s',(t,s') ∈ fr∧s=renS f s'
 | (j,q)::fr,t,s,h=>by
  unfold renF get at h
  split at h
  ·rename_i e; cases h; subst e; exact ⟨q,List.mem_cons_self ..,rfl⟩
  ·obtain ⟨s',h1,h2⟩:=renF_get h
   exact ⟨s',List.mem_cons_of_mem _ h1,h2⟩
theorem pos_at:∀ {ds:List Nat} {i:Nat},i ∈ ds->ds[pos ds i]? = some i
 | j::q,i,h=>by
  unfold pos
  split
  ·rename_i e; subst e; rfl
  ·rename_i hne
   rcases List.mem_cons.1 h with h | h
   ·exact absurd h.symm hne
   ·simpa using pos_at h
theorem newI_mem {n:Nat}:∀ {ds:List Nat} {i:Nat},i ∈ newI n ds ↔ i ∈ ds∧¬ i < n
 | [],i=>by simp [newI]
 | j::q,i=>by
  unfold newI
  split
  ·rename_i hj
   rw [newI_mem,List.mem_cons]
   constructor
   ·rintro ⟨h1,h2⟩; exact ⟨.inr h1,h2⟩
   ·rintro ⟨h1 | h1,h2⟩
    ·subst h1; exact absurd hj h2
    ·exact ⟨h1,h2⟩
  ·rename_i hj
   rw [List.mem_cons,newI_mem,List.mem_cons]
   constructor
   ·rintro (h | ⟨h1,h2⟩)
    ·subst h; exact ⟨.inl rfl,hj⟩
    ·exact ⟨.inr h1,h2⟩
   ·rintro ⟨h1 | h1,h2⟩
    ·exact .inl h1
    ·exact .inr ⟨h1,h2⟩
def npl (pl:List Place) (n:Nat) (ds:List Nat):List Place:=pl.take n++(newI n ds).map fun i=>(pl[i]?).getD ⟨none,0,0⟩
theorem npl_at {n:Nat} (hn:n≤pl.length) {ds:List Nat} {i:Nat} (hi:i ∈ ds) {p:Place} (hp:pl[i]? = some p):(npl pl n ds)[nmb n ds i]? = some p:=by
 unfold npl nmb
 split
 ·rename_i hlt
  rw [List.getElem?_append_left (by rw [List.length_take]; omega),List.getElem?_take_of_lt hlt]
  exact hp
 ·rename_i hlt
  rw [List.getElem?_append_right (by rw [List.length_take]; omega),List.length_take,show n + pos (newI n ds) i - min n pl.length=pos (newI n ds) i by omega,List.getElem?_map,pos_at (newI_mem.2 ⟨hi,hlt⟩)]
  simp [hp]
theorem npl_pre {n:Nat} {ds:List Nat} {i:Nat} {p:Place} (hi:i < n) (hp:pl[i]? = some p):(npl pl n ds)[i]? = some p:=by
 unfold npl
 have:=(List.getElem?_eq_some_iff.1 hp).1
 rw [List.getElem?_append_left (by rw [List.length_take]; omega),List.getElem?_take_of_lt hi]
 exact hp
theorem renO_ok {own:List (Nat×Ent)} {f:Nat->Nat} {all:List Nat}:∀ {q:List Nat} {r:List (Nat×Ent)},renO own f all q=some r ->
  (∀ x ∈ r,∃ i e,i ∈ q∧get own i=some e∧(∀ j ∈ idE e,j ∈ all)∧x=(f i,renE f e))∧r.map (·.1)=q.map f∧∀ i ∈ q,∃ e,get own i=some e
 | [],r,h=>by cases h; exact ⟨by simp,rfl,by simp⟩
 | i::q,r,h=>by
  unfold renO at h
  split at h
  ·rename_i e hg
   split at h
   ·rename_i hall
    obtain ⟨r',h1,rfl⟩:=Option.map_eq_some_iff.1 h
    obtain ⟨a1,a2,a3⟩:=renO_ok h1
    refine ⟨fun x hx=>?_,by simp [a2],fun j hj=>?_⟩
    ·rcases List.mem_cons.1 hx with hx | hx
     ·exact ⟨i,e,List.mem_cons_self ..,hg,fun j hj=>by simpa using List.all_eq_true.1 hall j hj,hx⟩
     ·obtain ⟨i',e',b1,b2⟩:=a1 x hx
      exact ⟨i',e',List.mem_cons_of_mem _ b1,b2⟩
    ·rcases List.mem_cons.1 hj with hj | hj
     ·subst hj; exact ⟨e,hg⟩
     ·exact a3 j hj
   ·cases h
  ·cases h
theorem nrm_ok {hi:Hint} {S0:St} (h:Rel B F w0 wr pl S0 l ls w) (hn:nrm P hi S0=some S'):∃ wr' pl',Rel B F w0 wr' pl' S' l ls w:=by
 unfold nrm at hn
 split at hn
 ·rename_i hup
  obtain ⟨pl1,h1,hnt⟩:=coer_ok (P:=P) (q:=hi.co) h
  have hls:ls=[]:=by have:=h.up; rw [hup] at this; exact this
  generalize coer P hi.co S0=S at hn h1 hnt
  simp only at hn
  generalize hds:reach S.own 1000 (lentI S.ln S.own++idF (keepF S.fr hi.keep)) []=ds at hn
  have hln:S.ln≤pl1.length:=by
   rw [h1.hln]
   rcases Nat.eq_zero_or_pos w0.pl.length with h0 | h0
   ·omega
   ·have:=(List.getElem?_eq_some_iff.1 (h1.pre (w0.pl.length - 1) _ (List.getElem?_eq_getElem (by omega)))).1
    omega
  split at hn
  ·rename_i hnd
   have hnd:=nodup_ok hnd
   split at hn
   ·rename_i own hown
    cases hn
    obtain ⟨r1,r2,r3⟩:=renO_ok hown
    have hplace:∀ i ∈ ds,∃ p,pl1[i]? = some p:=fun i hi=>by
     obtain ⟨e,he⟩:=r3 i hi
     exact (h1.ent _ (get_mem he)).place
    have hren:∀ i ∈ ds,(npl pl1 S.ln ds)[nmb S.ln ds i]? = pl1[i]?:=fun i hi=>by
     obtain ⟨p,hp⟩:=hplace i hi
     rw [hp]
     exact npl_at hln hi hp
    have hplb:∀ i ∈ ds,plb (npl pl1 S.ln ds) (nmb S.ln ds i)=plb pl1 i:=fun i hi=>by unfold plb; rw [hren i hi]
    have hlx:lx (npl pl1 S.ln ds) own=ds.map (plb pl1):=by
     have:lx (npl pl1 S.ln ds) own=(own.map (·.1)).map (plb (npl pl1 S.ln ds)):=by unfold lx; rw [List.map_map]; rfl
     rw [this,r2,List.map_map]
     exact List.map_congr_left fun i hi=>hplb i hi
    have hin:∀ k,some k ∈ ds.map (plb pl1)->some k ∈ lx pl1 S.own:=fun k hk=>by
     obtain ⟨i,hi,hk⟩:=List.mem_map.1 hk
     obtain ⟨e,he⟩:=r3 i hi
     rw [<- hk]
     exact List.mem_map_of_mem (f:=fun e:Nat×Ent=>plb pl1 e.1) (get_mem he)
    have hL:LOk B (ds.map (plb pl1)) F w:=by
     refine ⟨?_,fun k hk=>h1.hL.lo k (hin k hk),fun k hk=>h1.hL.hi k (hin k hk),h1.hL.base,h1.hL.far⟩
     rw [List.pairwise_map]
     rw [List.pairwise_iff_getElem]
     intro i j hi hj hij k hk hk'
     obtain ⟨e,he⟩:=r3 ds[i] (List.getElem_mem hi)
     obtain ⟨e',he'⟩:=r3 ds[j] (List.getElem_mem hj)
     have hne:ds[i] ≠ ds[j]:=fun e=>(List.pairwise_iff_getElem.1 hnd) i j hi hj hij e
     exact LOk.apart2 h1.hL he he' hne hk hk'
    have hs:Sub w (ds.map (plb pl1)++F) (lx pl1 S.own++F):=fun k hk=>by
     rcases List.mem_append.1 hk with hk | hk
     ·exact .inl (List.mem_append_left _ (hin k hk))
     ·exact .inl (List.mem_append_right _ hk)
    have hx:Ext pl1 (lx pl1 S.own++F) w pl1 (ds.map (plb pl1)++F) w:=⟨fun _ _ h=>h,by intro α R cs x h; exact R.grow h hs,by intro α R b o x h; exact h.grow hs⟩
    have hrel:Rel B F w0 ⟨w,lx (npl pl1 S.ln ds) own++F,S.ln + (newI S.ln ds).length,npl pl1 S.ln ds,ids own⟩ (npl pl1 S.ln ds) { fr:=renF (nmb S.ln ds) (okF ds (keepF S.fr hi.keep)),nt:=S.nt,up:=[],own:=own,nx:=S.ln + (newI S.ln ds).length,log:=[],ln:=S.ln } l [] w:=by
     refine ⟨by rw [hlx]; exact hL,h1.hB,fun i p hi=>npl_pre (by rw [h1.hln]; exact (List.getElem?_eq_some_iff.1 hi).1) (h1.pre i p hi),h1.hI,h1.hln,by simp [npl]; omega,h1.nt,fun x hx'=>?_,fun t s hs'=>?_,rfl,⟨Fz.refl _ _,Sub.refl _ _,Nat.le_refl _,fun _ _ h=>h,fun e he _=>List.mem_map_of_mem (f:=fun e:Nat×Ent=>e.1) he,fun _ _ _ _ _ _=>rfl⟩⟩
     ·obtain ⟨i,e,b1,b2,b3,rfl⟩:=r1 x hx'
      have hE:=h1.ent _ (get_mem b2)
      show EntD (npl pl1 S.ln ds) (lx (npl pl1 S.ln ds) own++F) w (nmb S.ln ds i) (renE (nmb S.ln ds) e)
      rw [hlx]
      exact renE_den (fun j hj=>hren j (b3 j hj)) (hren i b1) (hE.ext hx (fun k _=>rfl) (fun _ _ _ _ _ h=>h.grow hs))
     ·obtain ⟨s',h2,rfl⟩:=renF_get hs'
      obtain ⟨h3,h4⟩:=okF_mem h2
      have h5:=h1.fr t s' (keepF_mem h3)
      show Den (npl pl1 S.ln ds) (lx (npl pl1 S.ln ds) own++F) w _ _
      rw [hlx]
      exact renS_den (fun j hj=>hren j (h4 j hj)) (h5.ext hx)
    rw [hls]
    exact ⟨_,_,hrel⟩
   ·cases hn
  ·cases hn
 ·cases hn
end
end Ev
end
section
namespace Ev
open Go Go.RowKit Sx
inductive Ex where
 | n
 | r
 | x (id:Nat)
abbrev Kt (R:Type):=Ex->St->Option R
section
variable {R:Type}
def seqK (P:Program) (h:Option Hint) (g:St->Option R) (k:Kt R):Kt R:=fun e S=>match e with
 | .n=>match h with
  | some h=>(nrm P h S).bind g
  | none=>g S
 | .r=>k .r S
 | .x i=>k (.x i) S
def blockK (id:Nat) (k:Kt R):Kt R:=fun e S=>match e with
 | .n=>k .n S
 | .r=>k .r S
 | .x i=>if i=id then k .n S else k (.x i) S
def quietOp:Op->Bool
 | .move _ | .assign _ | .pick .. | .binOp .. | .unOp .. | .convert .. | .indexAddr .. | .index .. | .fieldAddr .. | .field .. | .load .. | .extract .. | .build .. | .slice .. | .makeFunc .. | .makeInterface .. | .lookup .. | .entry .. | .nilCheck ..=>true
 | .call ⟨.builtin .len,_,_⟩ | .call ⟨.builtin .min,_,_⟩ | .call ⟨.builtin .max,_,_⟩=>true
 | _=>false
def sched (ops:Array Oper):Nat->Array Bool->List (Nat×Bool)
 | 0,_=>[]
 | n + 1,listed =>
  let rs:=Region.ready .any ops listed
  match rs.find? (fun i=>((ops[i]?).map fun o=>quietOp o.op).getD false && Region.free .any ops listed i) with
  | some i=>(i,true)::sched ops n (listed.setIfInBounds i true)
  | none=>match rs with
   | i::_=>(i,false)::sched ops n (listed.setIfInBounds i true)
   | []=>[]
def sch (ops:List Oper):List (Nat×Bool):=sched ops.toArray ops.length (Array.replicate ops.length false)
def regOk (P:Program) (ops:List Oper):Bool :=
 P.follows .mixedOrders && (Region.noSelect ops.toArray && schedOk ops.toArray (sch ops) (Array.replicate ops.toArray.size false) && decide ((sch ops).length≤ops.toArray.size))
def mkSg (ops:Array Oper):Nat->Array Bool->Sg
 | 0,_=>.nil
 | n + 1,listed =>
  let rs:=Region.ready .any ops listed
  match rs.find? (fun i=>((ops[i]?).map fun o=>quietOp o.op).getD false && Region.free .any ops listed i) with
  | some i=>.tk i (mkSg ops n (listed.setIfInBounds i true))
  | none=>match rs with
   | []=>.nil
   | _::_=>rs.foldr (fun i r=>.alt i (mkSg ops n (listed.setIfInBounds i true)) r) .stop
def sgT (ops:List Oper):Sg:=mkSg ops.toArray ops.length (Array.replicate ops.length false)
def regTok (P:Program) (ops:List Oper):Bool :=
 P.follows .mixedOrders && (Region.noSelect ops.toArray && sgOk ops.toArray false (sgT ops) (Array.replicate ops.toArray.size false))
def Sg.cnt:Sg->Nat
 | .nil=>1
 | .tk _ q=>q.cnt
 | .alt _ q r=>q.cnt + r.cnt
 | .stop=>0
def regn (P:Program) (env:Env) (cl:Cl R) (ops:List Oper) (draw:Bool) (S:St) (k:St->Option R):Option R :=
 if draw=true then (if regOk P ops=true then rdw P env cl ops (dps ops []) (permute ops (sch ops)) [] S k else if regTok P ops=true then rdt P env cl ops (dps ops []) (sgT ops) [] S k else none) else rg P env cl ops ops S k
def ev (P:Program) (env:Env) (cl:Cl R) (fuel:Nat) (hs:Nat->Option Hint):Nat->Code->St->Kt R->Option R
 | _,.skip,S,k=>k .n S
 | _,.label _,S,k=>k .n S
 | _,.ret,S,k=>k .r S
 | _,.exit id,S,k=>k (.x id) S
 | p,.seq x y,S,k=>ev P env cl fuel hs (2 * p) x S (seqK P (hs p) (fun S'=>ev P env cl fuel hs (2 * p + 1) y S' k) k)
 | p,.block id c,S,k=>ev P env cl fuel hs (2 * p) c S (blockK id k)
 | p,.cond c x y,S,k=>match c with
  | .tmp t=>if t < S.nt then match get S.fr t with
   | some (.d .bool b)=>if b=true then ev P env cl fuel hs (2 * p) x { S with fr:=(t,.d .bool true)::S.fr } k else ev P env cl fuel hs (2 * p + 1) y { S with fr:=(t,.d .bool false)::S.fr } k
   | _=>none else none
  | .const (.bool b)=>if b=true then ev P env cl fuel hs (2 * p) x S k else ev P env cl fuel hs (2 * p + 1) y S k
  | _=>none
 | _,.region _ ⟨ops⟩ draw,S,k=>regn P env cl ops draw S (k .n)
 | p,.loop c,S,k=>match hs p with
  | some h=>(nrm P h S).bind fun S0=>loopF (fun self S=>ev P env cl fuel hs (2 * p) c S (seqK P (hs p) self k)) fuel S0
  | none=>loopF (fun self S=>ev P env cl fuel hs (2 * p) c S (seqK P (hs p) self k)) fuel S
 | _,.rangeFunc _ _ _ _,_,_=>none
 | _,.scope _,_,_=>none
 | _,.goto _,_,_=>none
 | _,.refuse _,_,_=>none
end
def exOf:Ex->Exit
 | .n=>.normal
 | .r=>.ret
 | .x i=>.exit i
section
variable {R:Type} {B:Nat->Prop} {F:Lx} {w0:Bs} {P:Program} {env:Env} {cl:Cl R} {fuel:Nat} {hs:Nat->Option Hint} {r:R} {ls:List (List Value)}
def KOk (B:Nat->Prop) (F:Lx) (w0:Bs) (ls:List (List Value)) (wr:Wr) (Hn:Prop) (k:Kt R) (r:R) (Q:Exit->Act->World->Prop):Prop :=
 ∀ e wr' pl S l w,Rel B F w0 wr' pl S l ls w->(Hn->wr'=wr)->k e S=some r->Q (exOf e) (mk l) w
theorem regn_ok (henv:EnvOk P w0.I env) (hcl:ClOk P w0.I cl) {ops:List Oper} {draw:Bool} {id:Nat} {wr:Wr} {pl:List Place} {S:St} {l:List Value} {w:World} {k:St->Option R} {Q:Exit->Act->World->Prop} (hQ:PF Q)
  (h:Rel B F w0 wr pl S l ls w) (hv:regn P env cl ops draw S k=some r)
  (hk:∀ pl' S' l' w',Rel B F w0 wr pl' S' l' ls w'->k S'=some r->Q .normal (mk l') w'):CW P (.region id ⟨ops⟩ draw) Q l w:=by
 unfold regn at hv
 split at hv
 ·rename_i hd
  subst hd
  split at hv
  ·rename_i hr
   simp only [regOk,Bool.and_eq_true] at hr
   have hB:(Region.noSelect ops.toArray && schedOk ops.toArray (sch ops) (Array.replicate ops.toArray.size false) && decide ((sch ops).length≤ops.toArray.size))=true:=by
    simp only [Bool.and_eq_true]
    exact ⟨hr.2.1,hr.2.2⟩
   refine cw_region_draw (sch ops) hr.1 hB hQ ?_
   exact rdw_ok (T:=[]) henv hcl (dps_ok ops [] [] (by simp) rfl (fun j m p hj=>by simp at hj)) (h.call (Fz.drew _ _)) rfl hv hk
  ·split at hv
   ·rename_i hr
    simp only [regTok,Bool.and_eq_true] at hr
    refine cw_region_tree (sgT ops) hr.1 (by simp only [Bool.and_eq_true]; exact hr.2) hQ ?_
    exact rdt_ok (T:=[]) henv hcl (dps_ok ops [] [] (by simp) rfl (fun j m p hj=>by simp at hj)) (h.call (Fz.drew _ _)) rfl hv hk
   ·cases hv
 ·rename_i hd
  have hd:draw=false:=by simpa using hd
  subst hd
  exact cw_region (rg_ok henv hcl h hv hk)
theorem ev_ok (henv:EnvOk P w0.I env) (hcl:ClOk P w0.I cl) {Hn:Prop} (hHn:Hn->∀ p,hs p=none):∀ (c:Code) (p:Nat) (wr:Wr) (pl:List Place) (S:St) (l:List Value) (w:World) (k:Kt R) (Q:Exit->Act->World->Prop),PF Q ->
  Rel B F w0 wr pl S l ls w->ev P env cl fuel hs p c S k=some r->KOk B F w0 ls wr Hn k r Q->CW P c Q l w
 | .skip,p,wr,pl,S,l,w,k,Q,hQ,h,hv,hk=>cw_skip (hk .n wr pl S l w h (fun _=>rfl) (by simpa [ev] using hv))
 | .label _,p,wr,pl,S,l,w,k,Q,hQ,h,hv,hk=>cw_label (hk .n wr pl S l w h (fun _=>rfl) (by simpa [ev] using hv))
 | .ret,p,wr,pl,S,l,w,k,Q,hQ,h,hv,hk=>cw_ret (hk .r wr pl S l w h (fun _=>rfl) (by simpa [ev] using hv))
 | .exit id,p,wr,pl,S,l,w,k,Q,hQ,h,hv,hk=>cw_exit (hk (.x id) wr pl S l w h (fun _=>rfl) (by simpa [ev] using hv))
 | .seq x y,p,wr,pl,S,l,w,k,Q,hQ,h,hv,hk=>by
  rw [ev] at hv
  refine cw_seq (ev_ok henv hcl hHn x (2 * p) wr pl S l w _ _ hQ.then h hv (fun e wr' pl' S' l' w' h' hw hv'=>?_))
  cases e with
  | n =>
   unfold seqK at hv'
   simp only at hv'
   refine then_n ?_
   split at hv'
   ·rename_i hn hpn
    obtain ⟨S1,h1,hv'⟩:=q5_ hv'
    obtain ⟨wr2,pl2,h2⟩:=nrm_ok h' h1
    exact ev_ok henv hcl hHn y (2 * p + 1) wr2 pl2 S1 l' w' k Q hQ h2 hv' (fun e wr3 pl3 S3 l3 w3 a1 a2 a3=>hk e wr3 pl3 S3 l3 w3 a1 (fun hn=>by have:=hHn hn p; rw [hpn] at this; cases this) a3)
   ·exact ev_ok henv hcl hHn y (2 * p + 1) wr' pl' S' l' w' k Q hQ h' hv' (fun e wr3 pl3 S3 l3 w3 a1 a2 a3=>hk e wr3 pl3 S3 l3 w3 a1 (fun hn=>(a2 hn).trans (hw hn)) a3)
  | r=>exact then_ret (hk .r wr' pl' S' l' w' h' hw hv')
  | x i=>exact then_exit (hk (.x i) wr' pl' S' l' w' h' hw hv')
 | .block id c,p,wr,pl,S,l,w,k,Q,hQ,h,hv,hk=>by
  rw [ev] at hv
  refine cw_block (ev_ok henv hcl hHn c (2 * p) wr pl S l w _ _ hQ.inBlock h hv (fun e wr' pl' S' l' w' h' hw hv'=>?_))
  cases e with
  | n=>exact inBlock_n (hk .n wr' pl' S' l' w' h' hw hv')
  | r=>exact inBlock_ret (hk .r wr' pl' S' l' w' h' hw hv')
  | x i =>
   unfold blockK at hv'
   simp only at hv'
   split at hv'
   ·rename_i hi
    subst hi
    exact inBlock_same (hk .n wr' pl' S' l' w' h' hw hv')
   ·rename_i hi
    exact inBlock_other (by simpa using hi) (hk (.x i) wr' pl' S' l' w' h' hw hv')
 | .cond c x y,p,wr,pl,S,l,w,k,Q,hQ,h,hv,hk=>by
  unfold ev at hv
  split at hv
  ·rename_i t
   split at hv
   ·rename_i hlt
    split at hv
    ·rename_i b hb
     have hd:=den_bool (h.fr t _ hb)
     have hs2:∀ b',b'=b->Rel B F w0 wr pl { S with fr:=(t,.d .bool b')::S.fr } l ls w:=fun b' e=>by
      subst e
      have h2:=h.set hlt (h.fr t _ hb)
      have e:l.set t (l.getD t undef)=l:=by
       have:t < l.length:=by rw [h.nt]; exact hlt
       rw [List.getD_eq_getElem?_getD,List.getElem?_eq_getElem this]
       simp
      rw [e] at h2
      exact h2
     refine cw_cond (t:=b) hd (fun hb1=>?_) (fun hb1=>?_)
     ·rw [if_pos hb1] at hv
      exact ev_ok henv hcl hHn x (2 * p) wr pl _ l w k Q hQ (hs2 true hb1.symm) hv hk
     ·rw [if_neg (by rw [hb1]; decide)] at hv
      exact ev_ok henv hcl hHn y (2 * p + 1) wr pl _ l w k Q hQ (hs2 false hb1.symm) hv hk
    ·cases hv
   ·cases hv
  ·rename_i b
   refine cw_cond (t:=b) rfl (fun hb1=>?_) (fun hb1=>?_)
   ·rw [if_pos hb1] at hv
    exact ev_ok henv hcl hHn x (2 * p) wr pl _ l w k Q hQ h hv hk
   ·rw [if_neg (by rw [hb1]; decide)] at hv
    exact ev_ok henv hcl hHn y (2 * p + 1) wr pl _ l w k Q hQ h hv hk
  ·cases hv
 | .region id ⟨ops⟩ draw,p,wr,pl,S,l,w,k,Q,hQ,h,hv,hk=>by
  rw [ev] at hv
  exact regn_ok henv hcl hQ h hv (fun pl' S' l' w' a1 a2=>hk .n wr pl' S' l' w' a1 (fun _=>rfl) a2)
 | .loop c,p,wr,pl,S,l,w,k,Q,hQ,h,hv,hk=>by
  have body:∀ (self:St->Option R) (s:St) (l:List Value) (w:World),(∃ wr' pl',Rel B F w0 wr' pl' s l ls w∧(Hn->wr'=wr))->ev P env cl fuel hs (2 * p) c s (seqK P (hs p) self k)=some r ->
    CW P c (Exit.then (fun a w=>∃ l',a=mk l'∧∃ s',(∃ wr' pl',Rel B F w0 wr' pl' s' l' ls w∧(Hn->wr'=wr))∧self s'=some r) Q) l w:=by
   rintro self s l w ⟨wr1,pl1,h1,hw1⟩ hv
   refine ev_ok henv hcl hHn c (2 * p) wr1 pl1 s l w _ _ hQ.then h1 hv (fun e wr' pl' S' l' w' h' hw hv'=>?_)
   cases e with
   | n =>
    unfold seqK at hv'
    simp only at hv'
    show ∃ l'',mk l'=mk l''∧_
    split at hv'
    ·rename_i hn hpn
     obtain ⟨S1,h1,hv'⟩:=q5_ hv'
     obtain ⟨wr2,pl2,h2⟩:=nrm_ok h' h1
     exact ⟨l',rfl,S1,⟨wr2,pl2,h2,fun hn=>by have:=hHn hn p; rw [hpn] at this; cases this⟩,hv'⟩
    ·exact ⟨l',rfl,S',⟨wr',pl',h',fun hn=>(hw hn).trans (hw1 hn)⟩,hv'⟩
   | r=>exact then_ret (hk .r wr' pl' S' l' w' h' (fun hn=>(hw hn).trans (hw1 hn)) hv')
   | x i=>exact then_exit (hk (.x i) wr' pl' S' l' w' h' (fun hn=>(hw hn).trans (hw1 hn)) hv')
  rw [ev] at hv
  split at hv
  ·rename_i hn hpn
   obtain ⟨S1,h1,hv⟩:=q5_ hv
   obtain ⟨wr2,pl2,h2⟩:=nrm_ok h h1
   exact cw_loop _ r (fun s l w=>∃ wr' pl',Rel B F w0 wr' pl' s l ls w∧(Hn->wr'=wr)) body ⟨wr2,pl2,h2,fun hn=>by have:=hHn hn p; rw [hpn] at this; cases this⟩ hv
  ·exact cw_loop _ r (fun s l w=>∃ wr' pl',Rel B F w0 wr' pl' s l ls w∧(Hn->wr'=wr)) body ⟨wr,pl,h,fun _=>rfl⟩ hv
 | .rangeFunc _ _ _ _,p,wr,pl,S,l,w,k,Q,hQ,h,hv,hk=>by rw [ev] at hv; cases hv
 | .scope _,p,wr,pl,S,l,w,k,Q,hQ,h,hv,hk=>by rw [ev] at hv; cases hv
 | .goto _,p,wr,pl,S,l,w,k,Q,hQ,h,hv,hk=>by rw [ev] at hv; cases hv
 | .refuse _,p,wr,pl,S,l,w,k,Q,hQ,h,hv,hk=>by rw [ev] at hv; cases hv
end
end Ev
end
section
namespace Ev
open Go Go.RowKit Sx
section
variable {R:Type}
def parF:Nat->List SV->Fr
 | _,[]=>[]
 | n,s::q=>(n,s)::parF (n + 1) q
def resK1 (S:St) (v:ResultVar) (P:Program) (K:SV->Option R):Option R :=
 match v with
 | .tmp t=>if t < S.nt then (match get S.fr t with
  | some s=>K s
  | none=>none) else none
 | .cell a t=>match get S.fr a with
  | some (.pb i o)=>match get S.own i with
   | some (.box _ cs)=>match cutT P t o cs with
    | some s=>K s
    | none=>none
   | some (.row t0 _ xs)=>match arOf P t with
    | some (m,_,n)=>if t0.size=n∧o=0 then need (eqi (xs.length:Int) (m:Int)) (match tyc P t with
     | some (.ar m' t1)=>if m'=m then (match qs_ (.sl t0) (.sl t1) xs with
      | some ys=>K (.d (.ar m' t1) ys)
      | none=>none) else none
     | _=>none) else none
    | none=>none
   | _=>none
  | some (.prw i j sz o)=>match get S.own i,tyc P t with
   | some (.row t0 _ xs),some fy=>if sz=t0.size then (at? xs j).bind fun y=>match prj t0 o fy y with
    | some z=>K (.d fy z)
    | none=>none
    else none
   | _,_=>none
  | _=>none
def resK (P:Program) (S:St):List ResultVar->(List SV->Option R)->Option R
 | [],K=>K []
 | v::q,K=>resK1 S v P fun s=>resK P S q fun r=>K (s::r)
def retK (P:Program) (fn:Func) (K:St->SV->Option R):Kt R:=fun e S=>match e with
 | .x _=>none
 | _=>match S.up with
  | (n,fr)::up=>resK P S fn.results.toList fun ss=>K { S with fr:=fr,nt:=n,up:=up } (retS ss)
  | []=>none
def evC (P:Program) (env:Env) (fuel:Nat) (eq:R->R->Bool):Nat->Cl R
 | 0=>⟨fun _ _ _ _=>none,eq⟩
 | d + 1=>⟨fun f ss S K=>match P.funcs[f]? with
  | some fn=>match fn.body with
   | some c=>if ss.length≤fn.ntmps∧fn.results.size≤5 then ev P env (evC P env fuel eq d) fuel (fun _=>none) 1 c { S with fr:=parF 0 ss,nt:=fn.ntmps,up:=(S.nt,S.fr)::S.up } (retK P fn K) else none
   | none=>none
  | none=>none,eq⟩
end
section
variable {R:Type} {B:Nat->Prop} {F:Lx} {w0:Bs} {wr:Wr} {pl pl':List Place} {S S':St} {l l':List Value} {ls:List (List Value)} {w w':World} {L L' M:Lx} {P:Program} {env:Env} {fuel:Nat} {r:R}
theorem parF_den {pre:List Value}:∀ {ss:List SV} {vs:List Value} {post:List Value},DenL pl L w ss vs->FrD pl L w (parF pre.length ss) (pre++vs++post):=by
 intro ss
 induction ss generalizing pre with
 | nil=>intro vs post _ t s h; cases h
 | cons a q ih =>
  rintro vs post ⟨v,us,rfl,h2,h3⟩ t s h
  unfold parF get at h
  split at h
  ·rename_i e
   cases h
   subst e
   have:(pre++v::us++post).getD pre.length undef=v:=by simp [List.getD_eq_getElem?_getD]
   rw [this]
   exact h2
  ·have:=ih (pre:=pre++[v]) (post:=post) h3 t s (by rw [List.length_append]; exact h)
   simpa using this
theorem resK1_ok (h:Rel B F w0 wr pl S l ls w) {v:ResultVar} {R:Type} {K:SV->Option R} {r:R} (hs:resK1 S v P K=some r):∃ s u,K s=some r∧resv P l w v u∧Den pl (lx pl S.own++F) w s u:=by
 unfold resK1 at hs
 split at hs
 ·split at hs
  ·split at hs
   ·rename_i s hg
    exact ⟨s,_,hs,resv_tmp rfl,h.fr _ s hg⟩
   ·cases hs
  ·cases hs
 ·rename_i a t
  split at hs
  ·rename_i i o hg
   split at hs
   ·rename_i T cs hb
    split at hs
    ·rename_i s hc
     obtain ⟨g,n,c,h1,h2⟩:=h.fr a _ hg
     obtain ⟨g',n',c',us,h3,h4,h5,h6⟩:=h.ent _ (get_mem hb)
     rw [h1] at h3
     cases h3
     obtain ⟨ag,sz,h7,h8,h9⟩:=cutT_ok hc h5 h6
     refine ⟨s,_,hs,resv_cell h2 ?_,h9⟩
     exact load_cellsT (P:=P) (w:=w) (b:=g) (o:=o) (cs:=(us.drop o).take sz) h7 (by rw [List.length_take,List.length_drop]; omega) (fun j v hj=>by
      refine h4.cell ?_
      have hlt:=(List.getElem?_eq_some_iff.1 hj).1
      rw [List.length_take] at hlt
      rw [List.getElem?_take_of_lt (by omega),List.getElem?_drop] at hj
      exact hj)
    ·cases hs
   ·rename_i t0 e0 xs hb
    split at hs
    ·rename_i m e n har
     split at hs
     ·rename_i hc
      obtain ⟨hsz,rfl⟩:=hc
      obtain ⟨hm,hq⟩:=q7_ hs
      clear hs
      have hm:(xs.length:Int)=(m:Int):=by simpa [eqi] using hm
      split at hq
      ·rename_i m' t1 hty
       split at hq
       ·rename_i hmm
        subst hmm
        split at hq
        ·rename_i ys hys
         obtain ⟨e1,hys⟩:=q10_ hys
         cases e1
         subst hys
         obtain ⟨g',n',c',h1,h2⟩:=h.fr a _ hg
         obtain ⟨p',h3,h4⟩:=h.ent _ (get_mem hb)
         rw [h1] at h3
         cases h3
         obtain ⟨hn,cells,h5,h6⟩:=h4
         have hxl:xs.length=m':=by omega
         refine ⟨_,.agg cells.toArray,hq,resv_cell h2 ?_,cells,⟨hxl,h6⟩,by simp [Rp.val,qr_,Ty.agg]⟩
         have hty':=tyc_ok hty
         have:=load_cells (P:=P) (w:=w) (b:=g') (o:=0) (cs:=cells) hty' (by rw [h6.len,q4_,q4_]; show _=m' * t0.size; rw [hxl]) (fun j v hj=>by
          have:=h5.cells (g:=g') rfl j v hj
          rw [Addr.add_lit'] at this
          exact this)
         refine this.trans ?_
         simp [Rp.val,qr_,Ty.agg]
        ·cases hq
       ·cases hq
      ·cases hq
     ·cases hs
    ·cases hs
   ·cases hs
  ·rename_i i j sz o hgx
   split at hs
   ·rename_i t0 e xs fy hg hy
    have hty:=tyc_ok hy
    split at hs
    ·rename_i hsz
     obtain ⟨y,hy1,hs⟩:=q5_ hs
     split at hs
     ·rename_i z hp
      obtain ⟨g,n,c,h1,h2⟩:=h.fr a _ hgx
      obtain ⟨p,h3,h4⟩:=h.ent _ (get_mem hg)
      rw [h1] at h3
      cases h3
      obtain ⟨h5,h6,h7⟩:=at_some hy1
      obtain ⟨cs,h8,h9⟩:=own_cells h4 h6
      obtain ⟨pre,c1,post,rfl,h10,h11⟩:=prj_rel hp h8
      refine ⟨_,_,hs,resv_cell h2 ?_,⟨c1,h11,rfl⟩⟩
      refine load_cells hty ((rp _).len h11) (fun k v hk=>?_)
      have:=h9 (o + k) v (by
       rw [List.append_assoc,List.getElem?_append_right (by omega),h10,Nat.add_sub_cancel_left,List.getElem?_append_left (List.getElem?_eq_some_iff.1 hk).1]
       exact hk)
      rw [hsz]
      rw [q4_] at this
      rwa [<- Nat.add_assoc] at this
     ·cases hs
    ·cases hs
   ·cases hs
  ·cases hs
def resvL (P:Program) (l:List Value) (w:World):List ResultVar->List Value->Prop
 | [],us=>us=[]
 | v::q,us=>∃ u r,us=u::r∧resv P l w v u∧resvL P l w q r
theorem resK_ok (h:Rel B F w0 wr pl S l ls w) {R:Type} {r:R}:∀ {q:List ResultVar} {K:List SV->Option R},resK P S q K=some r->∃ ss us,K ss=some r∧resvL P l w q us∧DenL pl (lx pl S.own++F) w ss us
 | [],K,hs=>⟨[],[],hs,rfl,rfl⟩
 | v::q,K,hs=>by
  obtain ⟨s,u,h1,h3,h4⟩:=resK1_ok h hs
  obtain ⟨ss,us,h2,h5,h6⟩:=resK_ok h h1
  exact ⟨s::ss,u::us,h2,⟨u,us,rfl,h3,h5⟩,⟨u,us,rfl,h4,h6⟩⟩
theorem ret4 {fn:Func} {Rr:Ending->World->Prop} {r1 r2 r3 r4:ResultVar} {v1 v2 v3 v4:Value} (hr:fn.results = #[r1,r2,r3,r4]) (h1:resv P l w r1 v1) (h2:resv P l w r2 v2) (h3:resv P l w r3 v3) (h4:resv P l w r4 v4)
  (h:Rr (.returned (.tuple #[v1,v2,v3,v4])) w):bodyPost P fn Rr .ret (mk l) w:=by
 have h1:=q1m_ h1
 have h2:=q1m_ h2
 have h3:=q1m_ h3
 have h4:=q1m_ h4
 exact ⟨rfl,_,by rw [results_resR,hr]; simp [h1,h2,h3,h4],h⟩
theorem ret5 {fn:Func} {Rr:Ending->World->Prop} {r1 r2 r3 r4 r5:ResultVar} {v1 v2 v3 v4 v5:Value} (hr:fn.results = #[r1,r2,r3,r4,r5]) (h1:resv P l w r1 v1) (h2:resv P l w r2 v2) (h3:resv P l w r3 v3) (h4:resv P l w r4 v4) (h5:resv P l w r5 v5)
  (h:Rr (.returned (.tuple #[v1,v2,v3,v4,v5])) w):bodyPost P fn Rr .ret (mk l) w:=by
 have h1:=q1m_ h1
 have h2:=q1m_ h2
 have h3:=q1m_ h3
 have h4:=q1m_ h4
 have h5:=q1m_ h5
 exact ⟨rfl,_,by rw [results_resR,hr]; simp [h1,h2,h3,h4,h5],h⟩
theorem ret_post {fn:Func} {Rr:Ending->World->Prop} {us:List Value} (hn:fn.results.size≤5) (hr:resvL P l w fn.results.toList us) (h:Rr (.returned (retV us)) w):bodyPost P fn Rr .ret (mk l) w:=by
 have hsz:fn.results.size=fn.results.toList.length:=by simp
 match hq:fn.results.toList,hr with
 | [],hr =>
  cases hr
  exact ret0 (by rw [<- Array.toArray_toList (xs:=fn.results),hq]) h
 | [a],⟨u,q,h1,h2,h3⟩ =>
  cases h3
  subst h1
  exact ret1 (by rw [<- Array.toArray_toList (xs:=fn.results),hq]) h2 h
 | [a,b],⟨u,q,h1,h2,u',q',h1',h2',h3⟩ =>
  cases h3
  subst h1 h1'
  exact ret2 (by rw [<- Array.toArray_toList (xs:=fn.results),hq]) h2 h2' h
 | [a,b,c],⟨u,q,h1,h2,u',q',h1',h2',u'',q'',h1'',h2'',h3⟩ =>
  cases h3
  subst h1 h1' h1''
  exact ret3 (by rw [<- Array.toArray_toList (xs:=fn.results),hq]) h2 h2' h2'' h
 | [a,b,c,d],⟨u,q,h1,h2,u',q',h1',h2',u2,q2,h12,h22,u3,q3,h13,h23,h3⟩ =>
  cases h3
  subst h1 h1' h12 h13
  exact ret4 (by rw [<- Array.toArray_toList (xs:=fn.results),hq]) h2 h2' h22 h23 h
 | [a,b,c,d,e],⟨u,q,h1,h2,u',q',h1',h2',u2,q2,h12,h22,u3,q3,h13,h23,u4,q4,h14,h24,h3⟩ =>
  cases h3
  subst h1 h1' h12 h13 h14
  exact ret5 (by rw [<- Array.toArray_toList (xs:=fn.results),hq]) h2 h2' h22 h23 h24 h
 | a::b::c::d::e::f::q,_=>rw [hq] at hsz; simp at hsz; omega
theorem body_normal {fn:Func} {Rr:Ending->World->Prop} {a:Act} (h:bodyPost P fn Rr .ret a w):∀ e:Ex,(∀ i,e ≠ .x i)->bodyPost P fn Rr (exOf e) a w:=fun e he=>by
 cases e with
 | n=>exact h
 | r=>exact h
 | x i=>exact absurd rfl (he i)
theorem evC_ok {I:World->Prop} (henv:EnvOk P I env) {eq:R->R->Bool} (heq:∀ a b,eq a b=true->a=b):∀ d,ClOk P I (evC (R:=R) P env fuel eq d)
 | 0=>by
  refine ⟨heq,?_⟩
  intro B F w0 wr pl S l ls w f ss vs K r KV _ _ _ hv _
  cases hv
 | d + 1=>by
  refine ⟨heq,?_⟩
  intro B F w0 wr pl S l ls w f ss vs K r KV hI h hd hv hk
  subst hI
  simp only [evC] at hv
  split at hv
  ·rename_i fn hf
   split at hv
   ·rename_i c hb
    split at hv
    ·rename_i hcond
     have hlen:=hd.len
     have hfr:=parF_den (pre:=[]) (post:=List.replicate (fn.ntmps - vs.length) undef) hd
     simp only [List.length_nil,List.nil_append] at hfr
     have hR:Rel B F w0 wr pl { S with fr:=parF 0 ss,nt:=fn.ntmps,up:=(S.nt,S.fr)::S.up } (vs++List.replicate (fn.ntmps - vs.length) undef) (l::ls) w:=by
      refine ⟨h.hL,h.hB,h.pre,h.hI,h.hln,h.nx,?_,h.ent,hfr,⟨l,ls,rfl,h.nt,h.fr,h.up⟩,h.tn⟩
      rw [List.length_append,List.length_replicate]
      have:=hcond.1
      show _=fn.ntmps
      omega
     refine enter hf hb rfl rfl ?_
     refine ev_ok henv (evC_ok henv heq d) (Hn:=True) (fun _ _=>rfl) c 1 wr pl _ _ w _ _ (PF.body (fun c w h=>by obtain ⟨v,e,_⟩:=h; cases e)) hR hv (fun e wr' pl' S' l' w' h' hw hv'=>?_)
     obtain rfl:=hw trivial
     have key:(∀ i,e ≠ .x i)->(match S'.up with
       | (n,fr)::up=>resK P S' fn.results.toList fun ss=>K { S' with fr:=fr,nt:=n,up:=up } (retS ss)
       | []=>none)=some r->bodyPost P fn (fun e w'=>∃ v,e = .returned v∧KV v w') (exOf e) (mk l') w':=fun he hv'=>by
      split at hv'
      ·rename_i n fr up hup
       obtain ⟨ss',us,hv',h2,h3⟩:=resK_ok h' hv'
       have hu:=h'.up
       rw [hup] at hu
       obtain ⟨l0,q0,e1,e2,e3,e4⟩:=hu
       cases e1
       refine body_normal (ret_post hcond.2 h2 ⟨_,rfl,?_⟩) e he
       refine hk pl' { S' with fr:=fr,nt:=n,up:=up } (retS ss') (retV us) w' ⟨h'.hL,h'.hB,h'.pre,h'.hI,h'.hln,h'.nx,e2,h'.ent,e3,e4,h'.tn⟩ ?_ (retS_den h3) hv'
       show n=S.nt
       rw [<- h.nt]
       exact e2.symm
      ·cases hv'
     cases e with
     | n=>exact key (fun _ e=>by cases e) hv'
     | r=>exact key (fun _ e=>by cases e) hv'
     | x i=>cases hv'
    ·cases hv
   ·cases hv
  ·cases hv
end
def eqAs:(rs:List Ty)->As rs->As rs->Bool
 | [],_,_=>true
 | t::r,x,y=>eqV t x.1 y.1 && eqAs r x.2 y.2
theorem eqAs_ok:∀ (rs:List Ty) (x y:As rs),eqAs rs x y=true->x=y
 | [],_,_,_=>rfl
 | t::r,x,y,h=>by
  simp only [eqAs,Bool.and_eq_true] at h
  exact Prod.ext (eqV_ok t _ _ h.1) (eqAs_ok r _ _ h.2)
def idb (k:Nat):Nat->List (Nat×Option Nat)
 | 0=>[]
 | n + 1=>(k,some k)::idb (k + 1) n
def idw (k:Nat):Nat->List (Nat×Nat)
 | 0=>[]
 | n + 1=>(k,k)::idw (k + 1) n
def hasI:List (Nat×TE)->Nat->Bool
 | [],_=>false
 | (j,_)::q,i=>if j=i then true else hasI q i
def outOk (n nn:Nat) (eo:List (Nat×TE)):List (Nat×Option Nat)->Bool
 | []=>true
 | (i,_)::q=>(decide (i < n) || (decide (i < n + nn) && hasI eo i)) && outOk n nn eo q
def topK (P:Program) (fn:Func) (sh:Sh):Kt (As sh.rs):=fun e S=>match e with
 | .x _=>none
 | _=>resK P S fn.results.toList fun ss=>resK P (frzL (wnt sh.ro sh.eo ss S.own (idw 0 sh.es.length)) S) fn.results.toList fun ss' =>
  (mA sh.ro sh.eo ss' (frzL (wnt sh.ro sh.eo ss S.own (idw 0 sh.es.length)) S).own (idb 0 sh.es.length)).bind fun mt =>
   if outOk sh.es.length sh.nn sh.eo mt.bd=true then asDV sh.rs mt.ds else none
def evT (P:Program) (env:Env) (d fuel:Nat) (hs:Nat->Option Hint) (f:FuncId) (sh:Sh) (x:As sh.ps):Option (As sh.rs) :=
 match P.funcs[f]? with
 | some fn=>match fn.body with
  | some c=>match fA sh.as (en 0 sh.es) (dvAs sh.ps x) with
   | some (ss,own)=>if ss.length≤fn.ntmps∧fn.results.size≤5 then ev P env (evC P env fuel (eqAs sh.rs) d) fuel hs 1 c { fr:=parF 0 ss,nt:=fn.ntmps,up:=[],own:=own,nx:=sh.es.length,log:=[],ln:=sh.es.length } (topK P fn sh) else none
   | none=>none
  | none=>none
 | none=>none
section
variable {B:Nat->Prop} {F:Lx} {w0:Bs} {wr:Wr} {pl pl':List Place} {S S':St} {l l':List Value} {ls:List (List Value)} {w w':World} {L L' M:Lx} {P:Program} {env:Env} {fuel:Nat}
theorem idb_mem:∀ {n k:Nat} {x:Nat×Option Nat},x ∈ idb k n ↔ k≤x.1∧x.1 < k + n∧x.2=some x.1
 | 0,k,x=>by simp [idb]; omega
 | n + 1,k,x=>by
  rw [idb,List.mem_cons,idb_mem]
  constructor
  ·rintro (h | ⟨h1,h2,h3⟩)
   ·subst h; exact ⟨Nat.le_refl _,by simp,rfl⟩
   ·exact ⟨by omega,by omega,h3⟩
  ·rintro ⟨h1,h2,h3⟩
   obtain ⟨i,b⟩:=x
   simp only at h1 h2 h3
   by_cases e:i=k
   ·subst e; subst h3; exact .inl rfl
   ·exact .inr ⟨by simp only; omega,by simp only; omega,h3⟩
theorem hasI_ok:∀ {eo:List (Nat×TE)} {i:Nat},hasI eo i=true->∃ x ∈ eo,x.1=i
 | (j,t)::q,i,h=>by
  unfold hasI at h
  split at h
  ·rename_i e; exact ⟨_,List.mem_cons_self ..,e⟩
  ·obtain ⟨x,hx,e⟩:=hasI_ok h
   exact ⟨x,List.mem_cons_of_mem _ hx,e⟩
theorem outOk_ok {n nn:Nat} {eo:List (Nat×TE)}:∀ {bd:List (Nat×Option Nat)},outOk n nn eo bd=true->∀ x ∈ bd,x.1 < n∨(x.1 < n + nn∧∃ y ∈ eo,y.1=x.1)
 | [],_,x,hx=>by cases hx
 | (i,b)::q,h,x,hx=>by
  simp only [outOk,Bool.and_eq_true,Bool.or_eq_true,decide_eq_true_eq] at h
  rcases List.mem_cons.1 hx with hx | hx
  ·subst hx
   rcases h.1 with h1 | h1
   ·exact .inl h1
   ·exact .inr ⟨h1.1,hasI_ok h1.2⟩
  ·exact outOk_ok h.2 x hx
theorem qh_ {I:World->Prop} (henv:EnvOk P I env) {d:Nat} {hs:Nat->Option Hint} {f:FuncId} {sh:Sh} {m:As sh.ps->Option (As sh.rs)} (hm:∀ x,evT P env d fuel hs f sh x=m x):CtOk P I f ⟨sh,m⟩:=by
 intro F w0 pl x y ss own vs hx hfA hpl hI hL hE hD
 have hx:m x=some y:=hx
 have hfA:fA sh.as (en 0 sh.es) (dvAs sh.ps x)=some (ss,own):=hfA
 have hpl:pl.length=sh.es.length:=hpl
 rw [<- hm x] at hx
 unfold evT at hx
 split at hx
 ·rename_i fn hf
  split at hx
  ·rename_i c hb
   rw [hfA] at hx
   simp only at hx
   split at hx
   ·rename_i hcond
    have hlen:=hD.len
    have hfr:=parF_den (pre:=[]) (post:=List.replicate (fn.ntmps - vs.length) undef) hD
    simp only [List.length_nil,List.nil_append] at hfr
    have hR:Rel (Bo pl own w0) F ⟨w0,pl,I⟩ ⟨w0,lx pl own++F,sh.es.length,pl,ids own⟩ pl { fr:=parF 0 ss,nt:=fn.ntmps,up:=[],own:=own,nx:=sh.es.length,log:=[],ln:=sh.es.length } (vs++List.replicate (fn.ntmps - vs.length) undef) [] w0:=by
     refine ⟨hL,Blw.refl _ _,fun _ _ h=>h,hI,hpl.symm,hpl.symm,?_,hE,hfr,rfl,⟨Fz.refl _ _,Sub.refl _ _,Nat.le_refl _,fun _ _ h=>h,fun e he _=>List.mem_map_of_mem (f:=fun e:Nat×Ent=>e.1) he,fun _ _ _ _ _ _=>rfl⟩⟩
     rw [List.length_append,List.length_replicate]
     have:=hcond.1
     show _=fn.ntmps
     omega
    refine enter hf hb rfl rfl ?_
    refine ev_ok henv (evC_ok henv (eqAs_ok sh.rs) d) (Hn:=False) (fun h=>h.elim) c 1 _ pl _ _ w0 _ _ (PF.body (fun c w h=>by obtain ⟨us,e,_⟩:=h; cases e)) hR hx (fun e wr' pl' S' l' w' h' hw hv'=>?_)
    have key:(∀ i,e ≠ .x i)->(resK P S' fn.results.toList fun ss=>resK P (frzL (wnt sh.ro sh.eo ss S'.own (idw 0 sh.es.length)) S') fn.results.toList fun ss' =>
      (mA sh.ro sh.eo ss' (frzL (wnt sh.ro sh.eo ss S'.own (idw 0 sh.es.length)) S').own (idb 0 sh.es.length)).bind fun mt =>
      if outOk sh.es.length sh.nn sh.eo mt.bd=true then asDV sh.rs mt.ds else none)=some y ->
      bodyPost P fn (fun e w'=>∃ us,e = .returned (retV us)∧After sh y F w0 pl own w' us) (exOf e) (mk l') w':=fun he hv'=>by
     obtain ⟨ss0,_,hv',_,_⟩:=resK_ok h' hv'
     have hz:=(frzL_ok (q:=wnt sh.ro sh.eo ss0 S'.own (idw 0 sh.es.length)) h').1
     generalize frzL (wnt sh.ro sh.eo ss0 S'.own (idw 0 sh.es.length)) S'=S1 at hv' hz
     obtain ⟨ss1,us,hv',h3,h4⟩:=resK_ok hz hv'
     obtain ⟨mt,hmt,hv'⟩:=q5_ hv'
     split at hv'
     ·rename_i hout
      have hout:=outOk_ok hout
      obtain ⟨rr,own',hfo,mo⟩:=mA_ok (w:=w') (L:=lx pl' S1.own++F) (pl:=pl') hz.ent hmt
      rw [<- asDV_eq hv'] at hfo
      let gp (i:Nat):Place:=match get mt.bd (sh.es.length + i) with
       | some (some j)=>(pl'[j]?).getD ⟨none,0,0⟩
       | _=>⟨none,0,0⟩
      let plo:List Place:=pl++(List.range sh.nn).map gp
      have hpre:∀ i p,pl[i]? = some p->pl'[i]? = some p:=hz.pre
      have hb:BdOk pl' plo mt.bd:=fun z hz'=>by
       have hfn:=mo.fn z hz'
       obtain ⟨i,b⟩:=z
       simp only at hfn ⊢
       rcases Nat.lt_or_ge i sh.es.length with hi | hi
       ·have h0:(i,some i) ∈ mt.bd:=mo.old _ (idb_mem.2 ⟨Nat.zero_le _,by simpa using hi,rfl⟩)
        have:=mo.fn _ h0
        simp only at this
        rw [hfn] at this
        cases this
        show plo[i]? = pl'[i]?
        have hl:pl[i]? = some pl[i]:=List.getElem?_eq_getElem (by omega)
        rw [hpre i _ hl]
        exact pl_app _ i _ hl
       ·rcases hout _ hz' with h5 | ⟨h5,q,hq,hq1⟩
        ·exact absurd h5 (by simp only; omega)
        ·simp only at h5 hq1
         have hat:plo[i]? = some (gp (i - sh.es.length)):=by
          show (pl++_)[i]? = _
          rw [List.getElem?_append_right (by omega),hpl,List.getElem?_map,List.getElem?_range (by omega)]
          rfl
         have hgp:gp (i - sh.es.length)=match (some b:Option (Option Nat)) with
           | some (some j)=>(pl'[j]?).getD ⟨none,0,0⟩
           | _=>⟨none,0,0⟩:=by
          show (match get mt.bd (sh.es.length + (i - sh.es.length)) with
           | some (some j)=>(pl'[j]?).getD ⟨none,0,0⟩
           | _=>⟨none,0,0⟩)=_
          rw [show sh.es.length + (i - sh.es.length)=i by omega,hfn]
         cases b with
         | none=>rw [hat,hgp]
         | some j =>
          obtain ⟨b',hb1,hb2⟩:=mo.has q hq
          rw [hq1] at hb1
          have:=mo.fn _ hb1
          simp only at this
          rw [hfn] at this
          cases this
          obtain ⟨e,he⟩:=hb2 j rfl
          obtain ⟨p,hp⟩:=(hz.ent _ (get_mem he)).place
          show plo[i]? = pl'[j]?
          rw [hat,hgp]
          show some ((pl'[j]?).getD _)=_
          rw [hp]
          rfl
      obtain ⟨hd',he'⟩:=mo.den plo hb
      obtain ⟨hpair,hmem⟩:=mo.pair hz.hL hb
      have hsub:∀ k,some k ∈ lx plo own'++F->some k ∈ lx pl' S1.own++F:=fun k hk=>by
       rcases List.mem_append.1 hk with hk | hk
       ·obtain ⟨_,_,_,_,_,_,h4⟩:=hmem k hk
        exact List.mem_append_left _ h4
       ·exact List.mem_append_right _ hk
      refine body_normal (ret_post hcond.2 h3 ⟨us,rfl,plo,rr,own',hfo,pl_app _,by simp [plo,hpl],hz.hB,?_,he'.sub hsub,(hd' us h4).ext (Ext.sub hsub)⟩) e he
      have hin:∀ k,some k ∈ lx plo own'->some k ∈ lx pl' S1.own:=fun k hk=>by
       obtain ⟨_,_,_,_,_,_,h4⟩:=hmem k hk
       exact h4
      exact ⟨hpair,fun k hk=>hz.hL.lo k (hin k hk),fun k hk=>hz.hL.hi k (hin k hk),hz.hL.base,hz.hL.far⟩
     ·cases hv'
    cases e with
    | n=>exact key (fun _ e=>by cases e) hv'
    | r=>exact key (fun _ e=>by cases e) hv'
    | x i=>cases hv'
   ·cases hx
  ·cases hx
 ·cases hx
end
end Ev
end
section
namespace Ev
open Go Go.RowKit Sx
abbrev Us (R:Type):=List (St->Option R)
abbrev Orc (R:Type):=Nat->Us R->St->Option R
section
variable {R:Type}
def evJ (P:Program) (env:Env) (cl:Cl R) (fuel:Nat) (hs:Nat->Option Hint) (J:Orc R):Us R->Nat->Code->St->Kt R->Option R
 | _,_,.skip,S,k=>k .n S
 | _,_,.label _,S,k=>k .n S
 | _,_,.ret,S,k=>k .r S
 | _,_,.exit id,S,k=>k (.x id) S
 | us,p,.seq x y,S,k=>match hs p with
  | some h=>evJ P env cl fuel hs J us (2 * p) x S (seqK P (some h) (J p us) k)
  | none=>evJ P env cl fuel hs J us (2 * p) x S (seqK P none (fun S'=>evJ P env cl fuel hs J us (2 * p + 1) y S' k) k)
 | us,p,.block id c,S,k=>evJ P env cl fuel hs J us (2 * p) c S (blockK id k)
 | us,p,.cond c x y,S,k=>match c with
  | .tmp t=>if t < S.nt then match get S.fr t with
   | some (.d .bool b)=>if b=true then evJ P env cl fuel hs J us (2 * p) x { S with fr:=(t,.d .bool true)::S.fr } k else evJ P env cl fuel hs J us (2 * p + 1) y { S with fr:=(t,.d .bool false)::S.fr } k
   | _=>none else none
  | .const (.bool b)=>if b=true then evJ P env cl fuel hs J us (2 * p) x S k else evJ P env cl fuel hs J us (2 * p + 1) y S k
  | _=>none
 | _,_,.region _ ⟨ops⟩ draw,S,k=>regn P env cl ops draw S (k .n)
 | us,p,.loop c,S,k=>match hs p with
  | some h=>(nrm P h S).bind (J p us)
  | none=>loopF (fun self S=>evJ P env cl fuel hs J (us++[self]) (2 * p) c S (seqK P none self k)) fuel S
 | _,_,.rangeFunc _ _ _ _,_,_=>none
 | _,_,.scope _,_,_=>none
 | _,_,.goto _,_,_=>none
 | _,_,.refuse _,_,_=>none
def lft (q p:Nat):Bool:=q / 2 ^ (q.log2 - p.log2 - 1) % 2 == 0
def In (q p:Nat):Prop:=∃ n r,q=p * 2 ^ n + r∧r < 2 ^ n
theorem In.self (p:Nat):In p p:=⟨0,0,by simp,by simp⟩
theorem In.l {q p:Nat}:In q (2 * p)->In q p:=fun ⟨n,r,h1,h2⟩=>⟨n + 1,r,by rw [h1,Nat.pow_succ]; simp only [Nat.mul_comm 2,Nat.mul_assoc],by rw [Nat.pow_succ]; omega⟩
theorem In.r {q p:Nat}:In q (2 * p + 1)->In q p:=fun ⟨n,r,h1,h2⟩=>⟨n + 1,2 ^ n + r,by
 have e:(2 * p + 1) * 2 ^ n=p * 2 ^ (n + 1) + 2 ^ n:=by rw [Nat.pow_succ,Nat.add_mul,Nat.one_mul,Nat.mul_comm 2 p,Nat.mul_assoc,Nat.mul_comm 2 (2 ^ n)]
 omega,by rw [Nat.pow_succ]; omega⟩
theorem In.cases {q p:Nat}:In q p->q=p∨In q (2 * p)∨In q (2 * p + 1):=fun ⟨n,r,h1,h2⟩=>by
 cases n with
 | zero=>left; simp at h1 h2; omega
 | succ n =>
  right
  have e:p * 2 ^ (n + 1)=2 * p * 2 ^ n:=by rw [Nat.pow_succ,Nat.mul_comm 2 p,Nat.mul_assoc,Nat.mul_comm 2 (2 ^ n)]
  have e2:2 ^ (n + 1)=2 ^ n + 2 ^ n:=by rw [Nat.pow_succ]; omega
  have e3:(2 * p + 1) * 2 ^ n=2 * p * 2 ^ n + 2 ^ n:=by rw [Nat.add_mul,Nat.one_mul]
  by_cases h:r < 2 ^ n
  ·exact .inl ⟨n,r,by omega,h⟩
  ·exact .inr ⟨n,r - 2 ^ n,by omega,by omega⟩
theorem log2_at {p n r:Nat} (hp:0 < p) (hr:r < 2 ^ n):(p * 2 ^ n + r).log2=p.log2 + n:=by
 have h2:0 < 2 ^ n:=Nat.pow_pos (by decide)
 have hne:p * 2 ^ n + r ≠ 0:=by have:=Nat.mul_pos hp h2; omega
 apply Nat.le_antisymm
 ·apply Nat.le_of_lt_succ
  rw [Nat.log2_lt hne,Nat.succ_eq_add_one,show p.log2 + n + 1=(p.log2 + 1) + n from by omega,Nat.pow_add]
  have h1:p < 2 ^ (p.log2 + 1):=(Nat.log2_lt (by omega)).1 (Nat.lt_succ_self _)
  calc p * 2 ^ n + r < p * 2 ^ n + 2 ^ n:=by omega
   _=(p + 1) * 2 ^ n:=by rw [Nat.add_mul,Nat.one_mul]
   _≤_:=Nat.mul_le_mul_right _ h1
 ·rw [Nat.le_log2 hne,Nat.pow_add]
  have h1:2 ^ p.log2≤p:=(Nat.le_log2 (by omega)).1 (Nat.le_refl _)
  have:=Nat.mul_le_mul_right (2 ^ n) h1
  omega
theorem lft_l {q p:Nat} (hp:0 < p):In q (2 * p)->lft q p=true:=fun ⟨n,r,h1,h2⟩=>by
 unfold lft
 have hl:q.log2=(2 * p).log2 + n:=by rw [h1]; exact log2_at (by omega) h2
 have hl2:(2 * p).log2=p.log2 + 1:=by have:=log2_at (p:=p) (n:=1) (r:=0) hp (by decide); rw [show 2 * p=p * 2 ^ 1 + 0 from by omega]; exact this
 have e:q.log2 - p.log2 - 1=n:=by omega
 rw [e,h1]
 have:(2 * p * 2 ^ n + r) / 2 ^ n=2 * p:=by
  rw [Nat.mul_comm (2 * p),Nat.mul_add_div (Nat.pow_pos (by decide)),Nat.div_eq_of_lt h2]; rfl
 rw [this]
 simp
theorem lft_r {q p:Nat} (hp:0 < p):In q (2 * p + 1)->lft q p=false:=fun ⟨n,r,h1,h2⟩=>by
 unfold lft
 have hl:q.log2=(2 * p + 1).log2 + n:=by rw [h1]; exact log2_at (by omega) h2
 have hl2:(2 * p + 1).log2=p.log2 + 1:=by have:=log2_at (p:=p) (n:=1) (r:=1) hp (by decide); rw [show 2 * p + 1=p * 2 ^ 1 + 1 from by omega]; exact this
 have e:q.log2 - p.log2 - 1=n:=by omega
 rw [e,h1]
 have:((2 * p + 1) * 2 ^ n + r) / 2 ^ n=2 * p + 1:=by
  rw [Nat.mul_comm (2 * p + 1),Nat.mul_add_div (Nat.pow_pos (by decide)),Nat.div_eq_of_lt h2,Nat.add_zero]
 rw [this]
 simp
theorem In.pos {q p:Nat} (hp:0 < p):In q p->p≤q:=fun ⟨n,r,h1,_⟩=>by
 have h2:0 < 2 ^ n:=Nat.pow_pos (by decide)
 have:=Nat.mul_le_mul_left p h2
 omega
def fnd (P:Program) (env:Env) (cl:Cl R) (fuel:Nat) (hs:Nat->Option Hint) (q:Nat):Code->Nat->Kt R->Us R->St->Option R
 | .seq x y,p,k,us=>if q=p then fun S=>ev P env cl fuel hs (2 * p + 1) y S k
  else if lft q p=true then fnd P env cl fuel hs q x (2 * p) (seqK P (hs p) (fun S'=>ev P env cl fuel hs (2 * p + 1) y S' k) k) us else fnd P env cl fuel hs q y (2 * p + 1) k us
 | .block id c,p,k,us=>if q=p then fun _=>none else if lft q p=true then fnd P env cl fuel hs q c (2 * p) (blockK id k) us else fun _=>none
 | .cond _ x y,p,k,us=>if q=p then fun _=>none else if lft q p=true then fnd P env cl fuel hs q x (2 * p) k us else fnd P env cl fuel hs q y (2 * p + 1) k us
 | .loop c,p,k,us=>match us with
  | []=>if q=p then fun S=>loopF (fun self S=>ev P env cl fuel hs (2 * p) c S (seqK P (hs p) self k)) fuel S else fun _=>none
  | u::us=>if q=p then fun S=>ev P env cl fuel hs (2 * p) c S (seqK P (hs p) u k) else if lft q p=true then fnd P env cl fuel hs q c (2 * p) (seqK P (hs p) u k) us else fun _=>none
 | _,_,_,_=>fun _=>none
def pce (P:Program) (env:Env) (cl:Cl R) (fuel:Nat) (hs:Nat->Option Hint) (J:Orc R) (q:Nat):Code->Nat->Kt R->Us R->Us R->St->Option R
 | .seq x y,p,k,u0,us=>if q=p then fun S=>evJ P env cl fuel hs J u0 (2 * p + 1) y S k
  else if lft q p=true then pce P env cl fuel hs J q x (2 * p) (match hs p with
   | some h=>seqK P (some h) (J p u0) k
   | none=>seqK P none (fun S'=>evJ P env cl fuel hs J u0 (2 * p + 1) y S' k) k) u0 us else pce P env cl fuel hs J q y (2 * p + 1) k u0 us
 | .block id c,p,k,u0,us=>if q=p then fun _=>none else if lft q p=true then pce P env cl fuel hs J q c (2 * p) (blockK id k) u0 us else fun _=>none
 | .cond _ x y,p,k,u0,us=>if q=p then fun _=>none else if lft q p=true then pce P env cl fuel hs J q x (2 * p) k u0 us else pce P env cl fuel hs J q y (2 * p + 1) k u0 us
 | .loop c,p,k,u0,us=>match us with
  | []=>if q=p then fun S=>loopF (fun self S=>evJ P env cl fuel hs J (u0++[self]) (2 * p) c S (seqK P (hs p) self k)) fuel S else fun _=>none
  | u::us=>if q=p then fun S=>evJ P env cl fuel hs J (u0++[u]) (2 * p) c S (seqK P (hs p) u k) else if lft q p=true then pce P env cl fuel hs J q c (2 * p) (seqK P (hs p) u k) (u0++[u]) us else fun _=>none
 | _,_,_,_,_=>fun _=>none
end
section
variable {R:Type} {P:Program} {env:Env} {cl:Cl R} {fuel:Nat} {hs:Nat->Option Hint} {J:Orc R}
theorem evJ_eq:∀ {c:Code} {p:Nat} {us:Us R} {S:St} {k:Kt R},0 < p->(∀ q us',In q p->J q (us++us')=fnd P env cl fuel hs q c p k us')->evJ P env cl fuel hs J us p c S k=ev P env cl fuel hs p c S k:=by
 intro c
 induction c with
 | skip=>intros; rfl
 | label _=>intros; rfl
 | ret=>intros; rfl
 | exit _=>intros; rfl
 | rangeFunc=>intros; rfl
 | scope=>intros; rfl
 | goto=>intros; rfl
 | refuse=>intros; rfl
 | region id ops draw=>intros; rfl
 | seq x y ihx ihy =>
  intro p us S k hp H
  have hx:∀ q us',In q (2 * p)->J q (us++us')=fnd P env cl fuel hs q x (2 * p) (seqK P (hs p) (fun S'=>ev P env cl fuel hs (2 * p + 1) y S' k) k) us':=fun q us' hq=>by
   rw [H q us' hq.l,fnd,if_neg (by have:=In.pos (by omega) hq; omega),if_pos (lft_l hp hq)]
  have hy:∀ q us',In q (2 * p + 1)->J q (us++us')=fnd P env cl fuel hs q y (2 * p + 1) k us':=fun q us' hq=>by
   rw [H q us' hq.r,fnd,if_neg (by have:=In.pos (by omega) hq; omega),if_neg (by rw [lft_r hp hq]; decide)]
  have hJ:J p us=fun S=>ev P env cl fuel hs (2 * p + 1) y S k:=by
   have:=H p [] (In.self p)
   rw [List.append_nil] at this
   rw [this,fnd,if_pos rfl]
  rw [evJ,ev]
  split
  ·rename_i h hh
   rw [hJ,<- hh]
   exact ihx (by omega) hx
  ·rename_i hh
   have:(fun S'=>evJ P env cl fuel hs J us (2 * p + 1) y S' k)=(fun S'=>ev P env cl fuel hs (2 * p + 1) y S' k):=funext fun S'=>ihy (by omega) hy
   rw [this,<- hh]
   exact ihx (by omega) hx
 | block id c ih =>
  intro p us S k hp H
  rw [evJ,ev]
  exact ih (by omega) (fun q us' hq=>by rw [H q us' hq.l,fnd,if_neg (by have:=In.pos (by omega) hq; omega),if_pos (lft_l hp hq)])
 | cond c x y ihx ihy =>
  intro p us S k hp H
  have hx:∀ q us',In q (2 * p)->J q (us++us')=fnd P env cl fuel hs q x (2 * p) k us':=fun q us' hq=>by
   rw [H q us' hq.l,fnd,if_neg (by have:=In.pos (by omega) hq; omega),if_pos (lft_l hp hq)]
  have hy:∀ q us',In q (2 * p + 1)->J q (us++us')=fnd P env cl fuel hs q y (2 * p + 1) k us':=fun q us' hq=>by
   rw [H q us' hq.r,fnd,if_neg (by have:=In.pos (by omega) hq; omega),if_neg (by rw [lft_r hp hq]; decide)]
  have e1:∀ S,evJ P env cl fuel hs J us (2 * p) x S k=ev P env cl fuel hs (2 * p) x S k:=fun S=>ihx (by omega) hx
  have e2:∀ S,evJ P env cl fuel hs J us (2 * p + 1) y S k=ev P env cl fuel hs (2 * p + 1) y S k:=fun S=>ihy (by omega) hy
  unfold evJ ev
  simp only [e1,e2]
  all_goals rfl
 | loop c ih =>
  intro p us S k hp H
  have hJ:J p us=fun S=>loopF (fun self S=>ev P env cl fuel hs (2 * p) c S (seqK P (hs p) self k)) fuel S:=by
   have:=H p [] (In.self p)
   rw [List.append_nil] at this
   rw [this,fnd,if_pos rfl]
  rw [evJ,ev]
  split
  ·rename_i h hh
   rw [hJ,hh]
  ·rename_i hh
   have:(fun self S=>evJ P env cl fuel hs J (us++[self]) (2 * p) c S (seqK P none self k))=(fun self S=>ev P env cl fuel hs (2 * p) c S (seqK P (hs p) self k)):=by
    funext self S
    rw [hh]
    refine ih (by omega) (fun q us' hq=>?_)
    rw [List.append_assoc,H q _ hq.l,List.singleton_append,fnd,if_neg (by have:=In.pos (by omega) hq; omega),if_pos (lft_l hp hq),hh]
   rw [this,hh]
theorem pce_eq {q:Nat}:∀ {c:Code} {p:Nat} {u0:Us R} {k:Kt R} {us:Us R},0 < p->In q p->(∀ q us',In q p->J q (u0++us')=fnd P env cl fuel hs q c p k us')->pce P env cl fuel hs J q c p k u0 us=fnd P env cl fuel hs q c p k us:=by
 intro c
 induction c with
 | skip=>intros; rfl
 | label _=>intros; rfl
 | ret=>intros; rfl
 | exit _=>intros; rfl
 | rangeFunc=>intros; rfl
 | scope=>intros; rfl
 | goto=>intros; rfl
 | refuse=>intros; rfl
 | region id ops draw=>intros; rfl
 | seq x y ihx ihy =>
  intro p us k us2 hp hq H
  have hx:∀ q us',In q (2 * p)->J q (us++us')=fnd P env cl fuel hs q x (2 * p) (seqK P (hs p) (fun S'=>ev P env cl fuel hs (2 * p + 1) y S' k) k) us':=fun q us' hq=>by
   rw [H q us' hq.l,fnd,if_neg (by have:=In.pos (by omega) hq; omega),if_pos (lft_l hp hq)]
  have hy:∀ q us',In q (2 * p + 1)->J q (us++us')=fnd P env cl fuel hs q y (2 * p + 1) k us':=fun q us' hq=>by
   rw [H q us' hq.r,fnd,if_neg (by have:=In.pos (by omega) hq; omega),if_neg (by rw [lft_r hp hq]; decide)]
  have hJ:J p us=fun S=>ev P env cl fuel hs (2 * p + 1) y S k:=by
   have:=H p [] (In.self p)
   rw [List.append_nil] at this
   rw [this,fnd,if_pos rfl]
  have he:(fun S'=>evJ P env cl fuel hs J us (2 * p + 1) y S' k)=(fun S'=>ev P env cl fuel hs (2 * p + 1) y S' k):=funext fun S'=>evJ_eq (by omega) hy
  rw [pce,fnd]
  rcases hq.cases with h | h | h
  ·rw [if_pos h,if_pos h]; exact he
  ·have hne:q ≠ p:=by have:=In.pos (by omega) h; omega
   rw [if_neg hne,if_neg hne,if_pos (lft_l hp h),if_pos (lft_l hp h)]
   have hk:(match hs p with
    | some h=>seqK P (some h) (J p us) k
    | none=>seqK P none (fun S'=>evJ P env cl fuel hs J us (2 * p + 1) y S' k) k)=seqK P (hs p) (fun S'=>ev P env cl fuel hs (2 * p + 1) y S' k) k:=by
    split
    ·rename_i hn hh; rw [hJ,hh]
    ·rename_i hh; rw [he,hh]
   rw [hk]
   exact ihx (by omega) h hx
  ·have hne:q ≠ p:=by have:=In.pos (by omega) h; omega
   rw [if_neg hne,if_neg hne,if_neg (by rw [lft_r hp h]; decide),if_neg (by rw [lft_r hp h]; decide)]
   exact ihy (by omega) h hy
 | block id c ih =>
  intro p us k us2 hp hq H
  rw [pce,fnd]
  rcases hq.cases with h | h | h
  ·rw [if_pos h,if_pos h]
  ·have hne:q ≠ p:=by have:=In.pos (by omega) h; omega
   rw [if_neg hne,if_neg hne,if_pos (lft_l hp h),if_pos (lft_l hp h)]
   exact ih (by omega) h (fun q us' hq=>by rw [H q us' hq.l,fnd,if_neg (by have:=In.pos (by omega) hq; omega),if_pos (lft_l hp hq)])
  ·have hne:q ≠ p:=by have:=In.pos (by omega) h; omega
   rw [if_neg hne,if_neg hne,if_neg (by rw [lft_r hp h]; decide),if_neg (by rw [lft_r hp h]; decide)]
 | cond c x y ihx ihy =>
  intro p us k us2 hp hq H
  have hx:∀ q us',In q (2 * p)->J q (us++us')=fnd P env cl fuel hs q x (2 * p) k us':=fun q us' hq=>by
   rw [H q us' hq.l,fnd,if_neg (by have:=In.pos (by omega) hq; omega),if_pos (lft_l hp hq)]
  have hy:∀ q us',In q (2 * p + 1)->J q (us++us')=fnd P env cl fuel hs q y (2 * p + 1) k us':=fun q us' hq=>by
   rw [H q us' hq.r,fnd,if_neg (by have:=In.pos (by omega) hq; omega),if_neg (by rw [lft_r hp hq]; decide)]
  rw [pce,fnd]
  rcases hq.cases with h | h | h
  ·rw [if_pos h,if_pos h]
  ·have hne:q ≠ p:=by have:=In.pos (by omega) h; omega
   rw [if_neg hne,if_neg hne,if_pos (lft_l hp h),if_pos (lft_l hp h)]
   exact ihx (by omega) h hx
  ·have hne:q ≠ p:=by have:=In.pos (by omega) h; omega
   rw [if_neg hne,if_neg hne,if_neg (by rw [lft_r hp h]; decide),if_neg (by rw [lft_r hp h]; decide)]
   exact ihy (by omega) h hy
 | loop c ih =>
  intro p us k us2 hp hq H
  have hb:∀ (u:St->Option R) q us',In q (2 * p)->J q ((us++[u])++us')=fnd P env cl fuel hs q c (2 * p) (seqK P (hs p) u k) us':=fun u q us' hq=>by
   rw [List.append_assoc,H q _ hq.l,List.singleton_append,fnd,if_neg (by have:=In.pos (by omega) hq; omega),if_pos (lft_l hp hq)]
  have he:∀ u S,evJ P env cl fuel hs J (us++[u]) (2 * p) c S (seqK P (hs p) u k)=ev P env cl fuel hs (2 * p) c S (seqK P (hs p) u k):=fun u S=>evJ_eq (by omega) (hb u)
  cases us2 with
  | nil =>
   rw [pce,fnd]
   split
   ·simp only [he]
   ·rfl
  | cons u us2 =>
   rw [pce,fnd]
   rcases hq.cases with h | h | h
   ·rw [if_pos h,if_pos h]
    simp only [he]
   ·have hne:q ≠ p:=by have:=In.pos (by omega) h; omega
    rw [if_neg hne,if_neg hne,if_pos (lft_l hp h),if_pos (lft_l hp h)]
    exact ih (by omega) h (hb u)
   ·have hne:q ≠ p:=by have:=In.pos (by omega) h; omega
    rw [if_neg hne,if_neg hne,if_neg (by rw [lft_r hp h]; decide),if_neg (by rw [lft_r hp h]; decide)]
theorem loopF_sim {σ:Type} {mk:σ->St} {F:(St->Option R)->St->Option R} {G:(σ->Option R)->σ->Option R} (h:∀ g s,F g (mk s)=G (fun t=>g (mk t)) s):∀ n s,loopF F n (mk s)=loopF G n s
 | 0,s=>rfl
 | n + 1,s=>by
  have ih:=loopF_sim h n
  show F (loopF F n) (mk s)=G (loopF G n) s
  rw [h]
  congr 1
  funext t
  exact ih t
theorem In.one:∀ {q:Nat},0 < q->In q 1:=fun {q} h=>⟨q.log2,q - 2 ^ q.log2,by
  have:=(Nat.le_log2 (n:=q) (k:=q.log2) (by omega)).1 (Nat.le_refl _)
  omega,by
  have h1:q < 2 ^ (q.log2 + 1):=(Nat.log2_lt (by omega)).1 (Nat.lt_succ_self _)
  rw [Nat.pow_succ] at h1
  omega⟩
def jfn (P:Program) (env:Env) (d fuel:Nat) (hs:Nat->Option Hint) (f:FuncId) (sh:Sh):Orc (As sh.rs):=fun q us =>
 match P.funcs[f]? with
 | some fn=>match fn.body with
  | some c=>fnd P env (evC P env fuel (eqAs sh.rs) d) fuel hs q c 1 (topK P fn sh) us
  | none=>fun _=>none
 | none=>fun _=>none
def pfn (P:Program) (env:Env) (d fuel:Nat) (hs:Nat->Option Hint) (f:FuncId) (sh:Sh) (J:Orc (As sh.rs)):Orc (As sh.rs):=fun q us =>
 match P.funcs[f]? with
 | some fn=>match fn.body with
  | some c=>pce P env (evC P env fuel (eqAs sh.rs) d) fuel hs J q c 1 (topK P fn sh) [] us
  | none=>fun _=>none
 | none=>fun _=>none
def rfn (P:Program) (env:Env) (d fuel:Nat) (hs:Nat->Option Hint) (f:FuncId) (sh:Sh) (J:Orc (As sh.rs)) (x:As sh.ps):Option (As sh.rs) :=
 match P.funcs[f]? with
 | some fn=>match fn.body with
  | some c=>match fA sh.as (en 0 sh.es) (dvAs sh.ps x) with
   | some (ss,own)=>if ss.length≤fn.ntmps∧fn.results.size≤5 then evJ P env (evC P env fuel (eqAs sh.rs) d) fuel hs J [] 1 c { fr:=parF 0 ss,nt:=fn.ntmps,up:=[],own:=own,nx:=sh.es.length,log:=[],ln:=sh.es.length } (topK P fn sh) else none
   | none=>none
  | none=>none
 | none=>none
theorem pfn_eq {d:Nat} {f:FuncId} {sh:Sh} {q:Nat} {us:Us (As sh.rs)} (hq:0 < q):jfn P env d fuel hs f sh q us=pfn P env d fuel hs f sh (jfn P env d fuel hs f sh) q us:=by
 show _=(match P.funcs[f]? with
  | some fn=>match fn.body with
   | some c=>pce P env (evC P env fuel (eqAs sh.rs) d) fuel hs (jfn P env d fuel hs f sh) q c 1 (topK P fn sh) [] us
   | none=>fun _=>none
  | none=>fun _=>none)
 split
 ·rename_i fn hf
  split
  ·rename_i c hb
   have e:∀ q us,jfn P env d fuel hs f sh q us=fnd P env (evC P env fuel (eqAs sh.rs) d) fuel hs q c 1 (topK P fn sh) us:=fun q us=>by
    unfold jfn
    split
    ·rename_i fn' hf'
     rw [hf] at hf'
     cases hf'
     split
     ·rename_i c' hb'
      rw [hb] at hb'
      cases hb'
      rfl
     ·rename_i hb'
      rw [hb] at hb'
      cases hb'
    ·rename_i hf'
     rw [hf] at hf'
     cases hf'
   rw [pce_eq (by decide) (In.one hq) (fun q us _=>e q us),e]
  ·rename_i hb
   unfold jfn
   rw [hf]
   simp only [hb]
 ·rename_i hf
  unfold jfn
  rw [hf]
theorem rfn_eq {d:Nat} {f:FuncId} {sh:Sh} {x:As sh.ps}:evT P env d fuel hs f sh x=rfn P env d fuel hs f sh (jfn P env d fuel hs f sh) x:=by
 cases hf:P.funcs[f]? with
 | none=>unfold evT rfn; rw [hf]
 | some fn =>
  cases hb:fn.body with
  | none=>unfold evT rfn; rw [hf]; simp only [hb]
  | some c =>
   have e:∀ q us,jfn P env d fuel hs f sh q us=fnd P env (evC P env fuel (eqAs sh.rs) d) fuel hs q c 1 (topK P fn sh) us:=fun q us=>by
    unfold jfn; rw [hf]; simp only [hb]
   unfold evT rfn
   rw [hf]
   simp only [hb]
   have e2:∀ S,evJ P env (evC P env fuel (eqAs sh.rs) d) fuel hs (jfn P env d fuel hs f sh) [] 1 c S (topK P fn sh)=ev P env (evC P env fuel (eqAs sh.rs) d) fuel hs 1 c S (topK P fn sh):=fun S=>evJ_eq (by decide) (fun q us _=>by rw [List.nil_append]; exact e q us)
   first
   | (simp only [e2]; done)
   | (simp only [e2]; rfl)
theorem ctn {P:Program} {I:World->Prop} {env:Env} {f:FuncId} {sh:Sh} {m:As sh.ps->Option (As sh.rs)} (he:EnvOk P I env) (d:Nat) (hm:∀ J x,rfn P env d 18446744073709551616 (Ev.get []) f sh J x=m x):CtOk P I f ⟨sh,m⟩:=qh_ he fun x=>rfn_eq.trans (hm _ x)
def lpAt (q:Nat):Code->Nat->Nat->Bool
 | .seq x y,p,n=>if q=p then false else if lft q p=true then lpAt q x (2 * p) n else lpAt q y (2 * p + 1) n
 | .block _ c,p,n=>if q=p then false else if lft q p=true then lpAt q c (2 * p) n else false
 | .cond _ x y,p,n=>if q=p then false else if lft q p=true then lpAt q x (2 * p) n else lpAt q y (2 * p + 1) n
 | .loop c,p,n=>match n with
  | 0=>decide (q=p)
  | n + 1=>if q=p then false else if lft q p=true then lpAt q c (2 * p) n else false
 | _,_,_=>false
def lpf (P:Program) (f:FuncId) (q n:Nat):Bool:=match P.funcs[f]? with
 | some fn=>match fn.body with
  | some c=>lpAt q c 1 n
  | none=>false
 | none=>false
theorem pce_loop {q:Nat}:∀ {c:Code} {p:Nat} {u0 us:Us R} {k:Kt R} {S:St},lpAt q c p us.length=true ->
  pce P env cl fuel hs J q c p k u0 us S=loopF (fun self S=>pce P env cl fuel hs J q c p k u0 (us++[self]) S) fuel S:=by
 intro c
 induction c with
 | skip | label _ | ret | exit _ | rangeFunc | scope | goto | refuse | region _ _ _=>intro p u0 us k S h; cases h
 | seq x y ihx ihy =>
  intro p u0 us k S h
  unfold lpAt at h
  split at h
  ·cases h
  ·rename_i hne
   split at h
   ·rename_i hl
    simp only [pce,if_neg hne,if_pos hl]
    exact ihx h
   ·rename_i hl
    simp only [pce,if_neg hne,if_neg hl]
    exact ihy h
 | block id c ih =>
  intro p u0 us k S h
  unfold lpAt at h
  split at h
  ·cases h
  ·rename_i hne
   split at h
   ·rename_i hl
    simp only [pce,if_neg hne,if_pos hl]
    exact ih h
   ·cases h
 | cond c x y ihx ihy =>
  intro p u0 us k S h
  unfold lpAt at h
  split at h
  ·cases h
  ·rename_i hne
   split at h
   ·rename_i hl
    simp only [pce,if_neg hne,if_pos hl]
    exact ihx h
   ·rename_i hl
    simp only [pce,if_neg hne,if_neg hl]
    exact ihy h
 | loop c ih =>
  intro p u0 us k S h
  cases us with
  | nil =>
   have h:decide (q=p)=true:=h
   have h:=of_decide_eq_true h
   simp only [pce,List.nil_append,if_pos h]
  | cons u us =>
   have h:(if q=p then false else if lft q p=true then lpAt q c (2 * p) us.length else false)=true:=h
   split at h
   ·cases h
   ·rename_i hne
    split at h
    ·rename_i hl
     simp only [pce,List.cons_append,if_neg hne,if_pos hl]
     exact ih h
    ·cases h
theorem pfn_loop {d:Nat} {f:FuncId} {sh:Sh} {J:Orc (As sh.rs)} {q:Nat} {us:Us (As sh.rs)} (h:lpf P f q us.length=true) (S:St) :
  pfn P env d fuel hs f sh J q us S=loopF (fun self S=>pfn P env d fuel hs f sh J q (us++[self]) S) fuel S:=by
 cases hf:P.funcs[f]? with
 | none=>unfold lpf at h; rw [hf] at h; cases h
 | some fn =>
  cases hb:fn.body with
  | none=>unfold lpf at h; rw [hf] at h; simp only [hb] at h; cases h
  | some c =>
   unfold lpf at h
   rw [hf] at h
   simp only [hb] at h
   unfold pfn
   rw [hf]
   simp only [hb]
   exact pce_loop h
theorem gN {d:Nat} {f:FuncId} {sh:Sh} {q:Nat} {us:Us (As sh.rs)} {S:St} {r:Option (As sh.rs)} (hq:0 < q) (h:pfn P env d fuel hs f sh (jfn P env d fuel hs f sh) q us S=r):jfn P env d fuel hs f sh q us S=r:=by
 rw [pfn_eq hq]
 exact h
theorem gL {d:Nat} {f:FuncId} {sh:Sh} {q:Nat} {us:Us (As sh.rs)} {σ:Type} {mk:σ->St} {G:(σ->Option (As sh.rs))->σ->Option (As sh.rs)} (hq:0 < q) (hl:lpf P f q us.length=true)
  (h:∀ w s,pfn P env d fuel hs f sh (jfn P env d fuel hs f sh) q (us++[w]) (mk s)=G (fun t=>w (mk t)) s) (s:σ):jfn P env d fuel hs f sh q us (mk s)=loopF G fuel s:=by
 rw [pfn_eq hq,pfn_loop hl]
 exact loopF_sim h _ s
end
def bxSh:Sh:=⟨[],[],[],[],[],0,[]⟩
def bxCt:Ct:=⟨bxSh,fun _=>none⟩
theorem bx_ok {P:Program} {I:World->Prop} {f:FuncId}:CtOk P I f bxCt:=fun _ _ _ _ _ _ _ _ h=>by cases h
end Ev
end
section
namespace Rw
open Go Ev Sx Go.RowKit
def dgo (g:TypeId->Option Ty) (P:Program):Nat->List Field->Option (List Ty)
 | _,[]=>some []
 | off,f::r=>(g f.type).bind fun a=>if f.offset=off∧P.cellsOf f.type=a.size then (dgo g P (off + a.size) r).map fun q=>a::q else none
def sumS:List Ty->Nat
 | []=>0
 | a::r=>a.size + sumS r
def dty (P:Program):Nat->TypeId->Option Ty
 | 0,_=>none
 | n + 1,t=>match P.underlying t with
  | some (.int k)=>some (.int k)
  | some .bool=>some .bool
  | some .string=>some .str
  | some (.slice e)=>(dty P n e).bind fun y=>if P.cellsOf e=y.size∧y.size ≠ 0 then some (.sl y) else none
  | some (.struct fs)=>(dgo (dty P n) P 0 fs.toList).bind fun l=>if P.cellsOf t=sumS l then some (strTy l) else none
  | _=>none
def okV:(t:Ty)->Vl t->Prop
 | .int k,x=>(Lit.int k x).wf=true
 | .bool,_=>True
 | .str,x=>x.length≤maxLen
 | .sl t,xs=>xs.length≤maxLen∧∀ x ∈ xs,okV t x
 | .pr a b,x=>okV a x.1∧okV b x.2
 | .wr a,x=>okV a x
 | .un,_=>True
 | .ar n t,xs=>xs.length=n∧∀ x ∈ xs,okV t x
 | .mp _ _,_=>True
section
variable {H:Type} {enc:TypeId×Value->H} {P:Program} {w:World} {base:Nat} {sp:Nat->Bool} {held:Bool}
theorem rp_len {t:Ty} {L:Lx} {cs:List Value} {x:Vl t} (h:(rp t).rel L w cs x):cs.length=t.size:=by rw [(rp t).len h,q4_]
def FieldOk (w:World) (cs:List Value) (off:Nat) (a:Ty):Prop:=∃ v:Vl a,(rp a).rel [] w ((cs.drop off).take a.size) v∧okV a v
def FieldsOk (w:World) (cs:List Value):Nat->List Ty->Prop
 | _,[]=>True
 | off,a::r=>FieldOk w cs off a∧FieldsOk w cs (off + a.size) r
theorem prs_ok {cs:List Value}:∀ (r:List Ty) (a:Ty) (off:Nat),FieldsOk w cs off (a::r)->off + a.size + sumS r=cs.length->∃ v:Vl (strTy.prs a r),(rp (strTy.prs a r)).rel [] w (cs.drop off) v∧okV (strTy.prs a r) v
 | [],a,off,⟨⟨v,h1,h2⟩,_⟩,hl=>by
  have:(cs.drop off).take a.size=cs.drop off:=List.take_of_length_le (by simp [sumS] at hl ⊢; omega)
  rw [this] at h1
  exact ⟨v,h1,h2⟩
 | b::r,a,off,⟨⟨v,h1,h2⟩,h3⟩,hl=>by
  obtain ⟨u,h4,h5⟩:=prs_ok r b (off + a.size) h3 (by simp [sumS] at hl ⊢; omega)
  refine ⟨(v,u),⟨(cs.drop off).take a.size,cs.drop (off + a.size),?_,h1,h4⟩,h2,h5⟩
  rw [<- List.drop_drop]
  exact (List.take_append_drop _ _).symm
theorem str_ok {cs:List Value}:∀ (l:List Ty),FieldsOk w cs 0 l->sumS l=cs.length->∃ v:Vl (strTy l),(rp (strTy l)).rel [] w cs v∧okV (strTy l) v
 | [],_,hl=>⟨(),(by show cs=[]; exact List.eq_nil_of_length_eq_zero hl.symm),trivial⟩
 | [a],⟨⟨v,h1,h2⟩,_⟩,hl=>by
  have:(cs.drop 0).take a.size=cs:=by rw [List.drop_zero]; exact List.take_of_length_le (by simp [sumS] at hl; omega)
  rw [this] at h1
  exact ⟨v,h1,h2⟩
 | a::b::r,h,hl=>prs_ok (b::r) a 0 h (by simp [sumS] at hl ⊢; omega)
theorem dgo_ok {g:TypeId->Option Ty} {cs:List Value} (ih:∀ t y n c x,g t=some y->DataW.trod enc P w base sp held n t c=some x->∃ v:Vl y,(rp y).rel [] w c v∧okV y v) (n:Nat) :
  ∀ (fs:List Field) (off:Nat) (l:List Ty),dgo g P off fs=some l->(∀ f ∈ fs,∃ x,DataW.trod enc P w base sp held n f.type ((cs.drop f.offset).take (P.cellsOf f.type))=some x)->FieldsOk w cs off l
 | [],off,l,h,_=>by cases h; trivial
 | f::r,off,l,h,hx=>by
  obtain ⟨a,h1,h⟩:=Option.bind_eq_some_iff.1 h
  split at h
  ·rename_i hc
   obtain ⟨q,h2,rfl⟩:=Option.map_eq_some_iff.1 h
   obtain ⟨x,h3⟩:=hx f (List.mem_cons_self ..)
   obtain ⟨v,h4,h5⟩:=ih _ _ _ _ _ h1 h3
   rw [hc.1,hc.2] at h4
   exact ⟨⟨v,h4,h5⟩,dgo_ok ih n r _ _ h2 fun f hf=>hx f (List.mem_cons_of_mem _ hf)⟩
  ·cases h
theorem cells_at {a:Addr} {n:Nat} {cs:List Value} (h:w.cells? base a n=some cs):cs.length=n∧∀ j v,cs[j]? = some v->w.cell? (a.add j)=some v:=by
 unfold World.cells? at h
 split at h
 ·have hl:cs.length=n:=by simpa using mapM_some_length h
  refine ⟨hl,fun j v hj=>?_⟩
  have hjl:j < n:=by rw [<- hl]; exact (List.getElem?_eq_some_iff.1 hj).1
  have:=mapM_some_get h j j (by simp [hjl])
  rw [this,hj]
 ·cases h
theorem cell_plain {a:Addr} {v:Value} (h:w.cell? a=some v):a.spot=none∧a.block < w.heap.size:=by
 unfold World.cell? at h
 split at h
 ·rename_i hb
  split at h
  ·cases h
  ·rename_i hs
   exact ⟨by simpa using hs,(Array.getElem?_eq_some_iff.1 hb).1⟩
 ·cases h
theorem add_plain (b o n:Nat):(⟨b,o,none⟩:Addr).add n=⟨b,o + n,none⟩:=by
 unfold Addr.add
 split
 ·rename_i h; subst h; rfl
 ·rfl
theorem add_zero (a:Addr):a.add 0=a:=by unfold Addr.add; rw [if_pos rfl]
theorem trod_ok:∀ (m:Nat) (t:TypeId) (y:Ty) (n:Nat) (cs:List Value) (x:DataW H×List MemPlace),dty P m t=some y->DataW.trod enc P w base sp held n t cs=some x->∃ v:Vl y,(rp y).rel [] w cs v∧okV y v
 | 0,_,_,_,_,_,h,_=>by cases h
 | m + 1,t,y,n,cs,x,h,hx=>by
  unfold dty at h
  split at h
  ·rename_i k ht
   cases h
   obtain ⟨z,rfl,_,hw⟩:=DataW.trod_int ht hx
   exact ⟨z,rfl,hw⟩
  ·rename_i ht
   cases h
   obtain ⟨b,rfl,_⟩:=DataW.trod_bool ht hx
   exact ⟨b,rfl,trivial⟩
  ·rename_i ht
   cases h
   obtain ⟨⟨⟨s⟩⟩,rfl,_,hs⟩:=DataW.trod_string ht hx
   exact ⟨s,rfl,hs⟩
  ·rename_i e ht
   obtain ⟨y',h1,h⟩:=Option.bind_eq_some_iff.1 h
   split at h
   ·rename_i hc
    cases h
    rcases DataW.trod_slice ht hx with ⟨rfl,_⟩ | ⟨a,len,cap,elems,rest,n',_,rfl,_,_,hlc,hcm,hel,hat,_⟩
    ·exact ⟨[],slice_nil _ _ _ _ _,by simp,fun x hx=>by cases hx⟩
    ·have each:∀ i:Fin len,∃ v:Vl y',(∃ c,(rp y').rel [] w c v∧c.length=y'.size∧∀ j u,c[j]? = some u->w.cell? ((a.add (i.1 * P.cellsOf e)).add j)=some u)∧okV y' v:=fun i=>by
      have hi:=hat i.1 i.2
      have:∃ z,elems[i.1]? = some z:=⟨_,List.getElem?_eq_getElem (by rw [hel]; exact i.2)⟩
      obtain ⟨z,hz⟩:=this
      rw [hz] at hi
      obtain ⟨c,hc1,hc2⟩:=Option.bind_eq_some_iff.1 hi
      obtain ⟨v,hv1,hv2⟩:=trod_ok m e y' n' c z h1 hc2
      exact ⟨v,⟨c,hv1,rp_len hv1,(cells_at hc1).2⟩,hv2⟩
     refine ⟨List.ofFn fun i=>Classical.choose (each i),⟨some a,cap,by simp,by simp; omega,fun hne=>?_⟩,by simp; omega,fun v hv=>?_⟩
     ·have hlen:0 < len:=by
       rcases Nat.eq_zero_or_pos len with h0 | h0
       ·subst h0; simp at hne
       ·exact h0
      obtain ⟨⟨c,_,hcl,hcc⟩,_⟩:=Classical.choose_spec (each ⟨0,hlen⟩)
      have hpos:0 < c.length:=by have:=hc.2; omega
      have h0:=cell_plain (hcc 0 c[0] (List.getElem?_eq_getElem hpos))
      rw [show (⟨0,hlen⟩:Fin len).1 * P.cellsOf e=0 from Nat.zero_mul _,add_zero,add_zero] at h0
      obtain ⟨b,o,s⟩:=a
      obtain ⟨hs,hb⟩:=h0
      have hs:s=none:=hs
      subst hs
      refine ⟨b,o,rfl,fun i x hi=>?_⟩
      have hil:i < len:=by have:=(List.getElem?_eq_some_iff.1 hi).1; simpa using this
      have hxe:x=Classical.choose (each ⟨i,hil⟩):=by
       rw [List.getElem?_ofFn,dif_pos hil] at hi
       exact (Option.some.inj hi).symm
      obtain ⟨⟨c,hc1,_,hc3⟩,_⟩:=Classical.choose_spec (each ⟨i,hil⟩)
      subst hxe
      refine ⟨hb,by simp,c,hc1,fun j v hj=>?_⟩
      have:=hc3 j v hj
      rw [q4_,<- hc.1]
      rw [add_plain,add_plain] at this
      exact this
     ·obtain ⟨i,rfl⟩:=List.mem_ofFn.1 hv
      exact (Classical.choose_spec (each i)).2
   ·cases h
  ·rename_i fs ht
   obtain ⟨l,h1,h⟩:=Option.bind_eq_some_iff.1 h
   split at h
   ·rename_i hc
    cases h
    obtain ⟨xs,n',_,_,hl,hxl,hf⟩:=DataW.trod_struct ht hx
    refine str_ok l ?_ (by rw [hl,hc])
    refine dgo_ok (fun t y n c x h1 h2=>trod_ok m t y n c x h1 h2) n' fs.toList 0 l h1 fun f hfm=>?_
    obtain ⟨i,hi,rfl⟩:=List.getElem_of_mem hfm
    have hi':i < fs.size:=by simpa using hi
    have:=hf i fs[i] (Array.getElem?_eq_getElem hi')
    rw [List.getElem?_eq_getElem (by omega)] at this
    exact ⟨_,this⟩
   ·cases h
  ·cases h
theorem val_of {t:TypeId} {y:Ty} {m:Nat} {v:Value} {d:DataW H} {ps:List MemPlace} {r:Reach} {b':Nat} {w':World} (hd:dty P (m + 1) t=some y) (ho:Value.okWide P w' r b' t v) (h:DataW.Trod enc P w base sp held t v d ps):∃ x:Vl y,Den [] [] w (.d y x) v∧okV y x:=by
 obtain ⟨n,hn⟩:=h
 obtain ⟨x,h1,h2⟩:=trod_ok (m + 1) t y n _ _ hd hn
 refine ⟨x,⟨v.cells.toList,h1,?_⟩,h2⟩
 have one:∀ u:Value,v=u->u.cells = #[u]->y.agg=false->v=(rp y).val v.cells.toList:=fun u e hc ha=>by
  subst e
  simp [Rp.val,qr_,ha,hc]
 unfold dty at hd
 split at hd
 ·rename_i k ht
  cases hd
  obtain ⟨z,rfl⟩:=Go.WideShapes.okWide_int ht ho
  exact one _ rfl rfl rfl
 ·rename_i ht
  cases hd
  obtain ⟨b,hb,_⟩:=DataW.trod_bool ht hn
  have:∃ b,v = .bool b:=by
   simp only [Value.okWide,ht,Cell.okWide] at ho
   cases v <;> simp_all [Cell.ok]
  obtain ⟨b,rfl⟩:=this
  exact one _ rfl rfl rfl
 ·rename_i ht
  cases hd
  obtain ⟨s,rfl⟩:=Go.WideShapes.okWide_string ht ho
  exact one _ rfl rfl rfl
 ·rename_i e ht
  obtain ⟨y',h3,hd⟩:=Option.bind_eq_some_iff.1 hd
  split at hd
  ·cases hd
   obtain ⟨a,len,cap,rfl⟩:=Go.WideShapes.okWide_slice ht ho
   exact one _ rfl rfl rfl
  ·cases hd
 ·rename_i fs ht
  obtain ⟨l,h3,hd⟩:=Option.bind_eq_some_iff.1 hd
  split at hd
  ·cases hd
   simp only [Value.okWide,ht] at ho
   obtain ⟨cs,rfl,_,_⟩:=ho
   have ha:(strTy l).agg=true:=by
    match l with
    | []=>rfl
    | [a]=>rfl
    | a::b::q=>rfl
   simp [Rp.val,qr_,ha,Value.cells]
  ·cases hd
 ·cases hd
end
end Rw
end
section
namespace Rw
open Go Ev Sx Go.RowKit
theorem below_of {W W':World} (h:Blw (Bo [] [] W) W W'):Below W.heap.size W W' :=
 ⟨h.os,h.tape,h.output,h.size,fun k hk=>h.block k hk (by
  rintro (h | h)
  ·cases h
  ·omega)⟩
theorem lok0 (W:World):LOk (Bo [] [] W) (lx [] []) [] W:=⟨.nil,fun k h=>(by cases h),fun k h=>(by cases h),fun k h=>.inr h,fun k h=>(by cases h)⟩
theorem law_calls {P:Program} {f:FuncId} {ts:List TS} {ps:List Ty} {m:As ps->Option (Bool×Unit)} (h:CtOk P (fun _=>True) f ⟨⟨ts,[],ps,[.d .bool],[],0,[.bool]⟩,m⟩) {x:As ps} (hm:m x=some (true,())) {ss:List SV} (hA:fA ts [] (dvAs ps x)=some (ss,[])) {vs:List Value} {W:World} (hd:DenL [] [] W ss vs) :
  Calls P f vs.toArray W (fun e W'=>∃ v,e = .returned v∧v = .bool true∧Below W.heap.size W W'):=by
 refine (h [] W [] x (true,()) ss [] vs hm hA rfl (fun _ _=>trivial) (lok0 W) (fun e he=>by cases he) hd).mono fun e w' he=>?_
 obtain ⟨us,rfl,pl',rr,own',h1,_,_,h4,_,_,h7⟩:=he
 have h1:some ([SV.d .bool true],([]:List (Nat×Ent)))=some (rr,own'):=h1
 cases h1
 obtain ⟨v,q,rfl,h8,h9⟩:=h7
 cases h9
 exact ⟨_,rfl,den_bool h8,below_of h4⟩
def okA:(ps:List Ty)->As ps->Prop
 | [],_=>True
 | a::r,x=>okV a x.1∧okA r x.2
def dS:(ps:List Ty)->As ps->List SV
 | [],_=>[]
 | a::r,x=>.d a x.1::dS r x.2
theorem fL_d:∀ (ps:List Ty) (x:As ps),fL (ps.map TS.d) (dvAs ps x)=some (dS ps x,[])
 | [],_=>rfl
 | a::r,x=>by
  show (fS (.d a) (⟨a,x.1⟩::dvAs r x.2)).bind _=_
  unfold fS
  simp only [q1z_,Option.map_some,Option.bind_some]
  rw [fL_d r x.2]
  rfl
theorem fA_d (ps:List Ty) (x:As ps):fA (ps.map TS.d) [] (dvAs ps x)=some (dS ps x,[]):=by
 unfold fA
 rw [fL_d,Option.bind_some]
 rfl
def dtys (P:Program):List TypeId->Option (List Ty)
 | []=>some []
 | t::r=>(dty P 13 t).bind fun y=>(dtys P r).map fun q=>y::q
theorem law_den {P:Program} {H:Type} {enc:TypeId×Value->H} {W:World} {b0:Nat} {sp:Nat->Bool} {held:Bool}:∀ {ts:List TypeId} {ps:List Ty} {vs:List Value} {ds:List (DataW H)} {p:List MemPlace},dtys P ts=some ps ->
  (∀ (j:Nat) t v,ts[j]? = some t->vs[j]? = some v->∃ r b w',Value.okWide P w' r b t v)->DataW.TrodAll enc P W b0 sp held ts vs ds p->∃ x:As ps,okA ps x∧DenL [] [] W (dS ps x) vs
 | [],ps,vs,ds,p,h,_,hA=>by
  cases h
  cases vs with
  | nil=>exact ⟨(),trivial,rfl⟩
  | cons v vs=>cases ds <;> exact absurd hA (by simp [DataW.TrodAll])
 | t::ts,ps,vs,ds,p,h,ho,hA=>by
  obtain ⟨y,h1,h⟩:=Option.bind_eq_some_iff.1 h
  obtain ⟨q,h2,rfl⟩:=Option.map_eq_some_iff.1 h
  match vs,ds,hA with
  | v::vs,d::ds,hA =>
   obtain ⟨p1,p2,h3,h4,_⟩:=hA
   obtain ⟨r,b,w',h5⟩:=ho 0 t v rfl rfl
   obtain ⟨x,hx1,hx2⟩:=val_of h1 h5 h3
   obtain ⟨xs,hy1,hy2⟩:=law_den h2 (fun j t v ht hv=>ho (j + 1) t v ht hv) h4
   exact ⟨(x,xs),⟨hx2,hy1⟩,v,vs,rfl,hx1,hy2⟩
  | [],_,hA=>exact absurd hA (by simp [DataW.TrodAll])
  | _::_,[],hA=>exact absurd hA (by simp [DataW.TrodAll])
theorem law_row {P:Program} {f:FuncId} {ps:List Ty} {m:As ps->Option (Bool×Unit)} (h:CtOk P (fun _=>True) f ⟨⟨ps.map TS.d,[],ps,[.d .bool],[],0,[.bool]⟩,m⟩) (law:∀ x,okA ps x->m x=some (true,()))
  {ts:Array TypeId} (ht:dtys P ts.toList=some ps) {H:Type} {enc:TypeId×Value->H} {W:World} {b0:Nat} {sp:Nat->Bool} {held:Bool} {args:Array Value} {ds:List (DataW H)} {p:List MemPlace}
  (hval:∀ (j:Nat) t v,ts[j]? = some t->args[j]? = some v->∃ r b w',Value.okWide P w' r b t v) (hA:DataW.TrodAll enc P W b0 sp held ts.toList args.toList ds p) :
  Calls P f args W (fun e W'=>∃ v,e = .returned v∧v = .bool true∧Below W.heap.size W W'):=by
 obtain ⟨x,h1,h2⟩:=law_den ht (fun j t v h3 h4=>hval j t v (by simpa using h3) (by simpa using h4)) hA
 have:=law_calls h (law x h1) (fA_d ps x) h2
 simpa using this
end Rw
end
section
open Go Go.Proofs Ev Sx
set_option maxRecDepth 100000
namespace Go.Proofs.Lx
def seqL:Code->Code
 | .seq a _=>a
 | _=>.skip
def seqR:Code->Code
 | .seq _ b=>b
 | _=>.skip
def blkC:Code->Code
 | .block _ c=>c
 | _=>.skip
def rfA:Code->Code
 | .rangeFunc _ _ a _=>a
 | _=>.skip
def rfB:Code->Code
 | .rangeFunc _ _ _ b=>b
 | _=>.skip
def bodyAt (P:Program) (f:Nat):Code:=match P.funcs[f]? with
 | some fn=>fn.body.getD .skip
 | none=>.skip
noncomputable def bkC:Code:=bodyAt Try.prog 8
noncomputable def bk1:Code:=seqL bkC
noncomputable def bk2:Code:=seqL (seqR bkC)
noncomputable def bk3:Code:=seqL (seqR (seqR bkC))
noncomputable def bk4:Code:=seqL (seqL (seqR (seqR (seqR bkC))))
noncomputable def bkRF:Code:=blkC (seqR (seqL (seqR (seqR (seqR bkC)))))
noncomputable def bkA:Code:=rfA bkRF
noncomputable def bkB:Code:=rfB bkRF
noncomputable def bkT:Code:=seqR (seqR (seqR (seqR bkC)))
theorem bk_eq:Try.f8.body=some (.seq bk1 (.seq bk2 (.seq bk3 (.seq (.seq bk4 (.block 0 (.rangeFunc (.tmp 11) #[12] bkA bkB))) bkT)))):=rfl
abbrev bT:Ty:=.pr (.int .i64) (.sl (.int .u16))
abbrev Bk:=Int×List Int
def bkEnv:Env:=cts [(3000026,bxCt)]
def bkNo:Nat->Option Hint:=fun _=>none
@[reducible] def zE0:Type:=List (Int×Int)
def bkS0 (m:zE0):St:={ fr:=[(0,.mp 0)],nt:=74,up:=[],own:=[(0,.dm (.int .i64) (.int .u16) m)],nx:=1,log:=[],ln:=1 }
noncomputable def evN (env:Env) (hs:Nat->Option Hint) (h:Hint) (c:Code) (S:St):Option (Ex×St):=ev Try.prog env (evC (R:=Ex×St) Try.prog env 1000 (fun _ _=>false) 2) 1000 hs 1 c S (fun e S'=>(nrm Try.prog h S').bind fun S1=>some (e,S1))
end Go.Proofs.Lx
end
section
namespace Go.Proofs
open Go.Shelf
def Try.keysA_ren:Go.Shelf.Ren:=⟨fun | 7=>42 | 10=>62 | n=>n,fun | 23=>24 | 26=>3 | 3=>32 | 28=>71 | 0=>0 | 27=>70 | 33=>97 | 4=>4 | n=>n,fun | n=>n⟩
theorem Try.keysA:Go.Proofs.SlLaysZI.n7 Try.prog Try.keysA_ren:={
 mixed:=by kernel_rfl
 f7:=⟨Try.f42.name,by decide,Try.func42.trans (congrArg some (by kernel_rfl))⟩
 f10:=⟨Try.f62.name,by decide,Try.func62.trans (congrArg some (by kernel_rfl))⟩
 t0:=Try.underlying0
 a0:=Try.isAgg0
 z0:=Try.sizeOf0
 v0:=Try.zeroValue0
 t4:=Try.underlying4
 a4:=Try.isAgg4
 z4:=Try.sizeOf4
 v4:=Try.zeroValue4
 t23:=Try.underlying24
 a23:=Try.isAgg24
 z23:=Try.sizeOf24
 v23:=Try.zeroValue24
 t26:=Try.underlying3
 a26:=Try.isAgg3
 z26:=Try.sizeOf3
 v26:=Try.zeroValue3
 t27:=Try.underlying70
 a27:=Try.isAgg70
 z27:=Try.sizeOf70
 v27:=Try.zeroValue70
 t28:=Try.underlying71
 a28:=Try.isAgg71
 z28:=Try.sizeOf71
 v28:=Try.zeroValue71
 t33:=Try.underlying97
 a33:=Try.isAgg97
 z33:=Try.sizeOf97
 v33:=Try.zeroValue97 }
def Try.sortedA_ren:Go.Shelf.Ren:=⟨fun | 6=>41 | 8=>60 | 9=>61 | 11=>75 | 13=>77 | 12=>76 | 23=>96 | 24=>97 | 14=>87 | 15=>88 | 16=>89 | 17=>90 | 18=>91 | 19=>92 | 20=>93 | 21=>94 | 22=>95 | 25=>98 | 26=>99 | 27=>100 | 28=>101 | 29=>102 | 30=>103 | 31=>104 | n=>n,fun | 26=>3 | 28=>71 | 24=>98 | 0=>0 | 3=>3 | 37=>135 | 48=>153 | 50=>127 | 4=>4 | 40=>146 | 39=>145 | 45=>83 | 5=>5 | 9=>9 | 51=>154 | 55=>158 | 57=>160 | 58=>161 | 33=>97 | n=>n,fun | n=>n⟩
theorem Try.sortedA:Go.Proofs.SlLaysZI.n6 Try.prog Try.sortedA_ren:={
 mixed:=by kernel_rfl
 f6:=⟨Try.f41.name,by decide,Try.func41.trans (congrArg some (by kernel_rfl))⟩
 f8:=⟨Try.f60.name,by decide,Try.func60.trans (congrArg some (by kernel_rfl))⟩
 f11:=⟨Try.f75.name,by decide,Try.func75.trans (congrArg some (by kernel_rfl))⟩
 t0:=Try.underlying0
 a0:=Try.isAgg0
 z0:=Try.sizeOf0
 v0:=Try.zeroValue0
 t24:=Try.underlying98
 a24:=Try.isAgg98
 z24:=Try.sizeOf98
 v24:=Try.zeroValue98
 t26:=Try.underlying3
 a26:=Try.isAgg3
 z26:=Try.sizeOf3
 v26:=Try.zeroValue3
 t28:=Try.underlying71
 a28:=Try.isAgg71
 z28:=Try.sizeOf71
 v28:=Try.zeroValue71
 i26:=by kernel_rfl }
def Try.sortA_ren:Go.Shelf.Ren:=⟨fun | 5=>61 | 8=>77 | 7=>76 | 19=>96 | 20=>97 | 10=>87 | 11=>88 | 12=>89 | 13=>90 | 14=>91 | 15=>92 | 16=>93 | 17=>94 | 18=>95 | 30=>98 | 31=>99 | 32=>100 | 33=>101 | 34=>102 | 35=>103 | 40=>104 | n=>n,fun | 23=>98 | 25=>3 | 3=>3 | 32=>135 | 22=>98 | 0=>0 | 44=>153 | 46=>127 | 4=>4 | 36=>146 | 35=>145 | 41=>83 | 5=>5 | 9=>9 | 53=>154 | 57=>158 | 63=>160 | 64=>161 | n=>n,fun | n=>n⟩
theorem Try.sortA:Go.Proofs.SlLaysM.n5 Try.prog Try.sortA_ren:={
 mixed:=by kernel_rfl
 f5:=⟨Try.f61.name,by decide,Try.func61.trans (congrArg some (by kernel_rfl))⟩
 f7:=⟨Try.f76.name,by decide,Try.func76.trans (congrArg some (by kernel_rfl))⟩
 f8:=Try.func77.trans (congrArg some (by kernel_rfl))
 f10:=⟨Try.f87.name,by decide,Try.func87.trans (congrArg some (by kernel_rfl))⟩
 f11:=⟨Try.f88.name,by decide,Try.func88.trans (congrArg some (by kernel_rfl))⟩
 f12:=⟨Try.f89.name,by decide,Try.func89.trans (congrArg some (by kernel_rfl))⟩
 f13:=⟨Try.f90.name,by decide,Try.func90.trans (congrArg some (by kernel_rfl))⟩
 f14:=⟨Try.f91.name,by decide,Try.func91.trans (congrArg some (by kernel_rfl))⟩
 f15:=⟨Try.f92.name,by decide,Try.func92.trans (congrArg some (by kernel_rfl))⟩
 f16:=⟨Try.f93.name,by decide,Try.func93.trans (congrArg some (by kernel_rfl))⟩
 f17:=⟨Try.f94.name,by decide,Try.func94.trans (congrArg some (by kernel_rfl))⟩
 f18:=⟨Try.f95.name,by decide,Try.func95.trans (congrArg some (by kernel_rfl))⟩
 f19:=Try.func96.trans (congrArg some (by kernel_rfl))
 f20:=Try.func97.trans (congrArg some (by kernel_rfl))
 f30:=⟨Try.f98.name,by decide,Try.func98.trans (congrArg some (by kernel_rfl))⟩
 f31:=Try.func99.trans (congrArg some (by kernel_rfl))
 f32:=Try.func100.trans (congrArg some (by kernel_rfl))
 f33:=⟨Try.f101.name,by decide,Try.func101.trans (congrArg some (by kernel_rfl))⟩
 f34:=⟨Try.f102.name,by decide,Try.func102.trans (congrArg some (by kernel_rfl))⟩
 f35:=⟨Try.f103.name,by decide,Try.func103.trans (congrArg some (by kernel_rfl))⟩
 f40:=⟨Try.f104.name,by decide,Try.func104.trans (congrArg some (by kernel_rfl))⟩
 t0:=Try.underlying0
 a0:=Try.isAgg0
 z0:=Try.sizeOf0
 v0:=Try.zeroValue0
 t3:=Try.underlying3
 a3:=Try.isAgg3
 z3:=Try.sizeOf3
 v3:=Try.zeroValue3
 t4:=Try.underlying4
 a4:=Try.isAgg4
 z4:=Try.sizeOf4
 v4:=Try.zeroValue4
 t5:=Try.underlying5
 a5:=Try.isAgg5
 z5:=Try.sizeOf5
 v5:=Try.zeroValue5
 t9:=Try.underlying9
 a9:=Try.isAgg9
 z9:=Try.sizeOf9
 v9:=Try.zeroValue9
 t22:=Try.underlying98
 a22:=Try.isAgg98
 z22:=Try.sizeOf98
 v22:=Try.zeroValue98
 t23:=Try.underlying98
 a23:=Try.isAgg98
 z23:=Try.sizeOf98
 v23:=Try.zeroValue98
 t25:=Try.underlying3
 a25:=Try.isAgg3
 z25:=Try.sizeOf3
 v25:=Try.zeroValue3
 t32:=Try.underlying135
 a32:=Try.isAgg135
 z32:=Try.sizeOf135
 v32:=Try.zeroValue135
 t35:=Try.underlying145
 a35:=Try.isAgg145
 z35:=Try.sizeOf145
 v35:=Try.zeroValue145
 t36:=Try.underlying146
 a36:=Try.isAgg146
 z36:=Try.sizeOf146
 v36:=Try.zeroValue146
 t41:=Try.underlying83
 a41:=Try.isAgg83
 z41:=Try.sizeOf83
 v41:=Try.zeroValue83
 t44:=Try.underlying153
 a44:=Try.isAgg153
 z44:=Try.sizeOf153
 v44:=Try.zeroValue153
 t46:=Try.underlying127
 a46:=Try.isAgg127
 z46:=Try.sizeOf127
 v46:=Try.zeroValue127
 t53:=Try.underlying154
 a53:=Try.isAgg154
 z53:=Try.sizeOf154
 v53:=Try.zeroValue154
 t57:=Try.underlying158
 a57:=Try.isAgg158
 z57:=Try.sizeOf158
 v57:=Try.zeroValue158
 t63:=Try.underlying160
 a63:=Try.isAgg160
 z63:=Try.sizeOf160
 v63:=Try.zeroValue160
 t64:=Try.underlying161
 a64:=Try.isAgg161
 z64:=Try.sizeOf161
 v64:=Try.zeroValue161 }
end Go.Proofs
end
section
set_option maxRecDepth 100000
namespace Go.Proofs.Lx
open Go Go.Proofs Go.RowKit Go.Maps Go.Sort Go.Shelf Ev Sx
attribute [local go_sem] Oper.semAt_some
def anyV (_:Value):Option (DataW Unit×List MemPlace):=some (.lit (.bool true),[])
def inR (x:Int):Prop:=-9223372036854775808≤x∧x≤9223372036854775807
theorem wf_i64 {x:Int} (h:inR x):(Lit.int .i64 x).wf=true:=by
 obtain ⟨h1,h2⟩:=h
 simp [Lit.wf,IntKind.min,IntKind.max,IntKind.signed,IntKind.bits]
 omega
theorem map_owns {w:World} {g:Nat} {vs:List (Int×Value)} (h:MapIs (keyV (.int .i64)) (fun v:Value=>v) w g vs) (hw:∀ e ∈ vs,inR e.1) (hl:vs.length≤1000) :
  ∃ D0:DataW Unit,w.ownsMap Try.prog 3 anyV g vs.length D0∧Maps.size D0=vs.length∧(intKeys D0).Perm (vs.map (·.1)):=by
 obtain ⟨es,clock,hb,hkv,hst⟩:=h
 have hlen:es.toList.length=vs.length:=by have:=congrArg List.length hkv; simpa using this
 have hkeys:es.toList.map (·.key)=vs.map (fun e=>Value.int .i64 e.1):=by
  have:=congrArg (List.map (fun e:Value×Value=>e.1)) hkv
  simpa [List.map_map,Function.comp_def,keyV] using this
 have hk:∀ x ∈ es.toList,∃ a,x.key = .int .i64 a∧inR a:=fun x hx=>by
  have hm:x.key ∈ es.toList.map (·.key):=List.mem_map.2 ⟨x,hx,rfl⟩
  rw [hkeys] at hm
  obtain ⟨e,he,h2⟩:=List.mem_map.1 hm
  exact ⟨e.1,h2.symm,hw e he⟩
 have hu:Try.prog.underlying 3=some (.int .i64):=by kernel_rfl
 have hrd:∀ (x:MapEntry) (a:Int),x.key = .int .i64 a->inR a->Go.WideElems.rd Try.prog 3 anyV x=some (.int .i64 a,.lit (.bool true)):=fun x a e ha=>by
  obtain ⟨k,v,b⟩:=x
  cases e
  exact Go.WideElems.rd_mk (R:=anyV) (keyOf_int_mk hu (wf_i64 ha)) rfl
 have hints:(es.toList.map (Go.WideElems.rg Try.prog 3 anyV)).map (fun p=>Go.intOf p.1)=vs.map (·.1):=by
  have:∀ (l:List MapEntry) (v:List (Int×Value)),(∀ x ∈ l,∃ a,x.key = .int .i64 a∧inR a)->l.map (·.key)=v.map (fun e=>Value.int .i64 e.1)->(l.map (Go.WideElems.rg Try.prog 3 anyV)).map (fun p=>Go.intOf p.1)=v.map (·.1):=by
   intro l
   induction l with
   | nil=>intro v _ h; cases v <;> simp at h ⊢
   | cons x l ih =>
    intro v hl h
    cases v with
    | nil=>simp at h
    | cons e v =>
     simp only [List.map_cons,List.cons.injEq] at h ⊢
     obtain ⟨a,h1,h2⟩:=hl x (List.mem_cons_self ..)
     refine ⟨?_,ih v (fun y hy=>hl y (List.mem_cons_of_mem _ hy)) h.2⟩
     rw [Go.WideElems.rg_of (hrd x a h1 h2)]
     have:=h.1
     rw [h1] at this
     simpa [Go.intOf] using this
  exact this _ _ hk hkeys
 refine ⟨.map ((es.toList.map (Go.WideElems.rg Try.prog 3 anyV)).foldr DataW.insert []),⟨es,clock,hb,⟨?_,hst,fun x hx=>?_⟩,?_,rfl⟩,?_,?_⟩
 ·have:es.size=vs.length:=by simpa using hlen
  rw [this]
  exact Nat.le_trans hl (by decide)
 ·obtain ⟨a,h1,h2⟩:=hk x hx
  exact ⟨_,hrd x a h1 h2⟩
 ·have:es.size=vs.length:=by simpa using hlen
  omega
 ·show ((es.toList.map (Go.WideElems.rg Try.prog 3 anyV)).foldr DataW.insert []).length=_
  rw [(WideShapes.sorted_perm _).length_eq]
  simpa using hlen
 ·show (((es.toList.map (Go.WideElems.rg Try.prog 3 anyV)).foldr DataW.insert []).map fun p=>Go.intOf p.1).Perm _
  rw [<- hints]
  exact (WideShapes.sorted_perm _).map _
theorem sorts_in (m:Nat):AnyZI.SortsIn Try.prog Try.sortedA_ren Fence.wide m :=
 ⟨fun blk off cap ss W hH hblk hsz=>callsIn_wide.2 (AnyM.slices_Sort_int Try.sortA blk off cap ss W hH hblk hsz),
  fun p cap W=>callsIn_wide.2 (AnyM.slices_Sort_int_none Try.sortA p cap W)⟩
def sorted (xs:List Int):List Int:=xs.mergeSort fun x y=>decide (x≤y)
theorem sorted_in {w:World} {g Bm:Nat} {vs:List (Int×Value)} (h:MapIs (keyV (.int .i64)) (fun v:Value=>v) w g vs) (hw:∀ e ∈ vs,inR e.1) (hl:vs.length≤1000) (hB:Bm < w.heap.size) (hm:w.cell? ⟨Bm,0,none⟩=some (.map (some g))) (n:Nat) :
  CallsIn Fence.wide n Try.prog 41 #[.func (.func 62) #[] #[.pointer (some ⟨Bm,0,none⟩)]] w fun e w'=>∃ v,e = .returned v ∧
   w'.ownsRow w.heap.size 3 1 v vs.length ((sorted (vs.map (·.1))).map encZ)∧Below w.heap.size w w':=by
 obtain ⟨D0,h1,h2,h3⟩:=map_owns h hw hl
 have hseq:SeqGives Fence.wide 2 Try.prog 62 #[.pointer (some ⟨Bm,0,none⟩)] encZ (fun ss=>ss.Perm (intKeys D0)) (Maps.size D0) w :=
  AnyZI.keys_gives (ρ:=Try.keysA_ren) { Try.keysA with } Fence.wide _ trivial rfl (by omega) Bm g vs.length D0 w hB hm h1
 have cS:=AnyZI.sorted_in Try.sortedA Fence.wide 5 trivial trivial trivial trivial rfl (by omega) (sorts_in _) (enters_of Try.func61 (by kernel_rfl) rfl) 62 #[.pointer (some ⟨Bm,0,none⟩)] trivial (enters_of Try.func62 (by kernel_rfl) rfl) _ _ (by rw [h2]; exact Nat.le_trans hl (by decide)) (by rw [h2]; exact Nat.le_trans (Nat.mul_le_mul_right 8 hl) (by decide)) _ hseq
 change CallsIn _ _ Try.prog 41 _ _ _ at cS
 refine (callsIn_wide.2 (callsIn_wide.1 cS)).mono fun e w' ⟨v,ss,he,hS,hrow,hnil,hb⟩=>⟨v,he,?_,hb⟩
 have hp:=hS.trans h3
 have hlen:ss.length=vs.length:=by rw [hp.length_eq,List.length_map]
 rw [hlen] at hrow
 have e1:ss.mergeSort (fun x y=>decide (x≤y))=sorted (vs.map (·.1)):=mergeSort_of_perm_i hp
 rw [e1] at hrow
 exact hrow
end Go.Proofs.Lx
end
section
set_option maxRecDepth 100000
namespace Go.Proofs.Lx
open Go Go.Proofs Go.RowKit Go.Maps Go.Sort Go.Shelf Ev Sx
attribute [local go_sem] Oper.semAt_some
theorem maps_keys (mb:Option Nat) (W:World) (n:Nat):CallsIn Fence.wide n Try.prog 42 #[.map mb] W fun e w'=>e = .returned (.func (.func 62) #[] #[.pointer (some ⟨W.heap.size,0,none⟩)])∧w'=W.alloc (.cells #[.map mb] 24) :=
 AnyZI.keys_in Try.keysA Fence.wide n trivial rfl mb W
set_option maxHeartbeats 2000000 in
theorem keys_it (n l Bm g:Nat) (h1:1≤n) (W:World) {vs:List (Int×Value)} (h:MapIs (keyV (.int .i64)) (fun v:Value=>v) W g vs) (hw:∀ e ∈ vs,inR e.1) (hl:vs.length≤1000) (hm:W.cell? ⟨Bm,0,none⟩=some (.map (some g)))
  (J Jx:World->List Int->World->Prop) (h0:∀ Z,Below W.heap.size W Z->J Z [] Z)
  (hk:∀ Z pre W',J Z pre W'->∀ k,W.heap.size≤k->k < Z.heap.size->W'.heap[k]? = Z.heap[k]?)
  (hY:∀ Z pre x W',J Z pre W'->YieldAt Fence.wide (n - 1) Try.prog l #[.int .i64 x] W' fun e W''=>(e = .returned (.bool true)∧J Z (pre++[x]) W'')∨(e = .returned (.bool false)∧Jx Z (pre++[x]) W'')) :
  CallsIn Fence.wide n Try.prog 40 #[.func (.yield l) #[] #[],.pointer (some ⟨Bm,0,none⟩)] W fun e W'=>(∃ v,e = .returned v)∧∃ Z,J Z (sorted (vs.map (·.1))) W'∨∃ k,k≤vs.length∧Jx Z ((sorted (vs.map (·.1))).take k) W':=by
 have hlen:(sorted (vs.map (·.1))).length=vs.length:=by unfold sorted; rw [List.length_mergeSort,List.length_map]
 have hgl:=h.lt
 have cK:=maps_keys (some g) W (n - 1)
 have hm1:MapIs (keyV (.int .i64)) (fun v:Value=>v) (W.alloc (.cells #[.map (some g)] 24)) g vs:=by
  obtain ⟨es,cl,a,b,c⟩:=h
  exact ⟨es,cl,(Below.heap_alloc _ _ g hgl).trans a,b,c⟩
 have cS:=sorted_in (Bm:=W.heap.size) hm1 hw hl (by simp) (by simp) (n - 1)
 generalize sorted (vs.map (·.1))=zs at hlen cS
 have hb0:Below W.heap.size W (W.alloc (.cells #[.map (some g)] 24)):=(Below.refl _ W).alloc (Nat.le_refl _) _
 have hfK:Fence.wide.fn 42:=trivial
 have hfS:Fence.wide.fn 41:=trivial
 refine callsIn_of_wp Try.func40 rfl trivial ?_ rfl
 simp only [Try.ntmps40,List.size_toArray,List.length_cons,List.length_nil,Nat.reduceAdd,Nat.reduceSub,Array.replicate_succ,Array.replicate_zero,List.push_toArray,List.append_toArray,List.nil_append,List.cons_append]
 gi_wp2_with (first
  | (gi_at_call 42; refine cK.mono ?_; rintro e w' ⟨rfl,rfl⟩)
  | (gi_at_call 41; refine cS.mono ?_; rintro e Z ⟨v,rfl,hrow,hb⟩))
 have hbZ:Below W.heap.size W Z:=hb0.trans (hb.mono (by simp))
 have hJ0:=h0 Z hbZ
 rcases hrow.2 with ⟨rfl,hz⟩ | ⟨gb,cap,cur,rfl,hbase,hgb,r1,r2,r3,r4⟩
 ·have hzs:zs=[]:=List.eq_nil_of_length_eq_zero (by omega)
  subst hzs
  simp [go_sem]
  gi_wp2
  gi_loopw [9] (fun i wr=>i = .int .i64 0∧J Z [] wr) (fun _ _=>0)
  case atStart=>exact ⟨rfl,hJ0⟩
  case round =>
   obtain ⟨rfl,hJs⟩:=hrel
   gi_wp2
   go_end0
   exact ⟨⟨_,rfl⟩,Z,.inl hJs⟩
 ·have hgZ:gb < Z.heap.size:=(Array.getElem?_eq_some_iff.1 hgb).1
  simp [go_sem]
  gi_wp2
  gi_loopw [9] (fun i wr=>∃ k:Nat,k≤vs.length∧i = .int .i64 k∧J Z (zs.take k) wr) (fun i _=>vs.length - (Go.RowKit.intOf i).toNat)
  case atStart=>exact ⟨0,Nat.zero_le _,rfl,by simpa using hJ0⟩
  case round =>
   obtain ⟨k,hkl,rfl,hJs⟩:=hrel
   have hgw:wr.heap[gb]? = some (.cells cur 3 (0,0)):=(hk Z _ wr hJs gb (by have:=hbase; simp at this; omega) hgZ).trans hgb
   by_cases hlt:k < vs.length
   ·obtain ⟨x,hx⟩:∃ x,zs[k]? = some x:=⟨_,List.getElem?_eq_getElem (by omega)⟩
    have hcx:wr.cell? ⟨gb,k,none⟩=some (.int .i64 x):=by
     have e1:cur[k]? = some (.int .i64 x):=by
      have e2:(cur.toList.take (vs.length * 1))[k]? = some (.int .i64 x):=by
       rw [r4,List.getElem?_map,hx]
       rfl
      rw [List.getElem?_take_of_lt (by omega)] at e2
      simpa using e2
     simp [World.cell?,hgw,e1]
    have htk:zs.take (k + 1)=zs.take k++[x]:=by rw [List.take_add_one,hx]; rfl
    obtain ⟨fn,tmps,assign,body,hy,hR⟩:=hY Z _ x wr hJs
    gi_wp2
    refine hR.mono ?_
    rintro e W3 (⟨rfl,hJ3⟩ | ⟨rfl,hJx3⟩)
    ·gi_wp2
     go_roundw
     case rel=>exact ⟨k + 1,by omega,by simp,by rw [htk]; exact hJ3⟩
     case measure=>simp [Go.RowKit.intOf]; omega
    ·gi_wp2
     refine bodyPost_ret (results_none rfl _ _ _) rfl ?_
     exact ⟨⟨_,rfl⟩,Z,.inr ⟨k + 1,by omega,by rw [htk]; exact hJx3⟩⟩
   ·obtain rfl:k=vs.length:=by omega
    gi_wp2
    go_end0
    exact ⟨⟨_,rfl⟩,Z,.inl (by rw [<- hlen,List.take_length] at hJs; exact hJs)⟩
end Go.Proofs.Lx
end
section
set_option maxRecDepth 100000
namespace Go.Proofs.Lx
open Go Go.RowKit Ev Sx
structure Sto (B0:Nat->Prop) (p0:List Ev.Place) (F:Lx) (pl:List Ev.Place) (own:List (Nat×Ent)) (w:World):Prop where
 pair:(lx pl own).Pairwise (fun x y=>∀ k,x=some k->y ≠ some k)
 lo:∀ k,some k ∈ lx pl own->B0 k
 hi:∀ k,some k ∈ lx pl own->k < w.heap.size
 far:∀ k,some k ∈ F->some k ∉ lx pl own∧k < w.heap.size
 pre:∀ (i:Nat) (p:Ev.Place),p0[i]? = some p->pl[i]? = some p
 ent:EntsD pl (lx pl own++F) w own
section
variable {B0:Nat->Prop} {p0:List Ev.Place} {F F':Lx} {pl:List Ev.Place} {own:List (Nat×Ent)} {w w':World}
theorem own_mem {e:Nat×Ent} (he:e ∈ own):plb pl e.1 ∈ lx pl own:=List.mem_map_of_mem (f:=fun e:Nat×Ent=>plb pl e.1) he
theorem Sto.grow (h:Sto B0 p0 F pl own w) (hf:Fz [] w w') (hF:∀ k,some k ∈ F'->(some k ∈ F∨w.heap.size≤k)∧k < w'.heap.size):Sto B0 p0 F' pl own w':=by
 have hs:Sub w (lx pl own++F') (lx pl own++F):=fun k hk=>by
  rcases List.mem_append.1 hk with hk | hk
  ·exact .inl (List.mem_append_left _ hk)
  ·rcases (hF k hk).1 with h1 | h1
   ·exact .inl (List.mem_append_right _ h1)
   ·exact .inr h1
 refine ⟨h.pair,h.lo,fun k hk=>Nat.lt_of_lt_of_le (h.hi k hk) hf.size,fun k hk=>⟨?_,(hF k hk).2⟩,h.pre,fun e he=>?_⟩
 ·rcases (hF k hk).1 with h1 | h1
  ·exact (h.far k h1).1
  ·exact fun hm=>by have:=h.hi k hm; omega
 ·refine (h.ent e he).ext ⟨fun _ _ h=>h,fun R _ _ hr=>R.mono (R.grow hr hs) hf.nil,fun R _ _ _ hr=>(hr.grow hs).mono hf.nil⟩ (fun k hk=>?_) (fun R _ xs p hp ho=>⟨ho.1,ho.2.step (M:=[]) hf nilM hs nilB⟩)
  have hm:=own_mem (pl:=pl) he
  rw [hk] at hm
  exact hf.block k (h.hi k hm) nilN
theorem Sto.turn (h:Sto B0 p0 F pl own w) (hf:Fz F w w'):Sto B0 p0 F pl own w':=by
 have hM:∀ k,some k ∈ F->some k ∈ lx pl own++F:=fun k hk=>List.mem_append_right _ hk
 refine ⟨h.pair,h.lo,fun k hk=>Nat.lt_of_lt_of_le (h.hi k hk) hf.size,fun k hk=>⟨(h.far k hk).1,Nat.lt_of_lt_of_le (h.far k hk).2 hf.size⟩,h.pre,fun e he=>?_⟩
 have hm:=own_mem (pl:=pl) he
 refine (h.ent e he).ext ⟨fun _ _ h=>h,fun R _ _ hr=>R.mono hr (hf.sub hM),fun R _ _ _ hr=>hr.mono (hf.sub hM)⟩ (fun k hk=>?_) (fun R _ xs p hp ho=>⟨ho.1,ho.2.step (M:=F) hf hM (Sub.refl _ _) fun k hk hF=>?_⟩)
 ·rw [hk] at hm
  exact hf.block k (h.hi k hm) (fun hF=>(h.far k hF).1 hm)
 ·have:plb pl e.1=some k:=by unfold plb; rw [hp]; exact hk
  rw [this] at hm
  exact (h.far k hF).1 hm
theorem Sto.less (h:Sto B0 p0 F pl own w) (hF:∀ k,some k ∈ F'->some k ∈ F):Sto B0 p0 F' pl own w :=
 h.grow (Fz.refl _ _) fun k hk=>⟨.inl (hF k hk),(h.far k (hF k hk)).2⟩
theorem Sto.sub (h:Sto B0 p0 F pl own w) {own':List (Nat×Ent)} {p1:List Ev.Place} (hs:List.Sublist own' own) (hp:∀ (i:Nat) (p:Ev.Place),p1[i]? = some p->pl[i]? = some p):Sto B0 p1 F pl own' w:=by
 have hm:∀ k,some k ∈ lx pl own'->some k ∈ lx pl own:=fun k hk=>(lx_sub hs).subset hk
 refine ⟨h.pair.sublist (lx_sub hs),fun k hk=>h.lo k (hm k hk),fun k hk=>h.hi k (hm k hk),fun k hk=>⟨fun hx=>(h.far k hk).1 (hm k hx),(h.far k hk).2⟩,hp,fun e he=>?_⟩
 refine (EntsD.sub (fun k hk=>?_) h.ent) e (hs.subset he)
 rcases List.mem_append.1 hk with hk | hk
 ·exact List.mem_append_left _ (hm k hk)
 ·exact List.mem_append_right _ hk
theorem Sto.rel {S:St} {l:List Value} (h:Sto B0 p0 F pl S.own w) (hup:S.up=[]) (hnx:S.nx=pl.length) (hln:S.ln=p0.length) (hnt:l.length=S.nt) (hfr:FrD pl (lx pl S.own++F) w S.fr l) :
  Rel (Bo pl S.own w) F ⟨w,p0,fun _=>True⟩ (here F pl S w) pl S l [] w :=
 {hL:=⟨h.pair,fun k hk=>.inl hk,h.hi,fun k hk=>.inr hk,fun k hk=>⟨fun hb=>by
   rcases hb with hb | hb
   ·exact (h.far k hk).1 hb
   ·have:=(h.far k hk).2; omega,(h.far k hk).2⟩⟩
  hB:=Blw.refl _ _,pre:=h.pre,hI:=fun _ _=>trivial,hln:=hln,nx:=hnx,nt:=hnt,ent:=h.ent,fr:=hfr,up:=by rw [hup]; rfl
  tn:=⟨Fz.refl _ _,Sub.refl _ _,Nat.le_refl _,fun _ _ h=>h,fun e he _=>List.mem_map_of_mem (f:=fun e:Nat×Ent=>e.1) he,fun _ _ _ _ _ _=>rfl⟩ }
theorem sto_of_rel {S S1:St} {wr:Wr} {pl':List Ev.Place} {l':List Value} (hb:∀ k,Bo pl S.own w k->B0 k) (h:Rel (Bo pl S.own w) F ⟨w,p0,fun _=>True⟩ wr pl' S1 l' [] w') :
  Sto B0 p0 F pl' S1.own w'∧Blw (Bo pl S.own w) w w' :=
 ⟨⟨h.hL.pair,fun k hk=>hb k (h.hL.lo k hk),h.hL.hi,fun k hk=>⟨fun hx=>(h.hL.far k hk).1 (h.hL.lo k hx),(h.hL.far k hk).2⟩,h.pre,h.ent⟩,h.hB⟩
theorem exOf_panic {e:Ex}:∀ c,exOf e ≠ .panic c:=by cases e <;> intro c h <;> cases h
theorem q1i_ {env:Env} {hs:Nat->Option Hint} {hint:Hint} (henv:EnvOk Try.prog (fun _=>True) env) {c:Code} {S S1:St} {e0:Ex} {l:List Value}
  (hb:∀ k,Bo pl S.own w k->B0 k) (h:Sto B0 p0 F pl S.own w) (hup:S.up=[]) (hnx:S.nx=pl.length) (hln:S.ln=p0.length) (hnt:l.length=S.nt) (hfr:FrD pl (lx pl S.own++F) w S.fr l)
  (hev:evN env hs hint c S=some (e0,S1)) :
  CW Try.prog c (fun e a w'=>∃ pl' l',e=exOf e0∧a=mk l'∧l'.length=S1.nt∧pl'.length=S1.nx∧Sto B0 p0 F pl' S1.own w'∧FrD pl' (lx pl' S1.own++F) w' S1.fr l'∧Blw (Bo pl S.own w) w w') l w:=by
 refine ev_ok (R:=Ex×St) henv (evC_ok henv (fun _ _ h=>by cases h) 2) (Hn:=False) (fun h=>h.elim) c 1 _ pl S l w _ _ ?_ (h.rel hup hnx hln hnt hfr) hev (fun e wr' pl' S' l' w' h' _ hv=>?_)
 ·rintro c a a' w ⟨pl',l',he,_⟩
  exact absurd he.symm (exOf_panic c)
 ·obtain ⟨S2,h1,h2⟩:=q5_ hv
  cases h2
  obtain ⟨wr2,pl2,h3⟩:=nrm_ok h' h1
  obtain ⟨a,b⟩:=sto_of_rel hb h3
  exact ⟨pl2,l',rfl,rfl,h3.nt,h3.nx.symm,a,h3.fr,b⟩
end
end Go.Proofs.Lx
end
section
set_option maxRecDepth 100000
namespace Go.Proofs.Lx
open Go Go.Proofs Ev Sx
abbrev kT:Ty:=.int .i64
abbrev uT:Ty:=.int .u16
def bkFr:Fr:=[(1,.pb 1 0),(2,.pb 2 0),(3,.pb 3 0),(11,.fn (.func 40) [] [.pb 4 0]),(4,.pb 5 0)]
def bkOwn (m:zE0) (c:SV) (ok b:Bool) (xs:List Bk) (a:Int) (ws:List Int):List (Nat×Ent) :=
 [(0,.dm kT uT m),(1,.box 24 [.mp 0]),(2,.box 26 [c]),(3,.box 4 [.d .bool ok]),(4,.box 24 [.mp 0]),(5,.box 26 [.row 6]),(6,.rowo bT 31 b xs [.d kT a,.row 7]),(7,.row uT 32 ws)]
def nilV:SV:=.k (.slice none 0 0)
def bkSt (fr:Fr) (ln:Nat) (m:zE0) (c:SV) (ok b:Bool) (xs:List Bk) (a:Int) (ws:List Int):St :=
 {fr:=fr,nt:=74,up:=[],own:=bkOwn m c ok b xs a ws,nx:=8,log:=[],ln:=ln }
def bkS1 (m:zE0):St :=
 {fr:=[(1,.pb 1 0),(2,.pb 2 0),(3,.pb 3 0)],nt:=74,up:=[],own:=[(0,.dm kT uT m),(1,.box 24 [.mp 0]),(2,.box 26 [nilV]),(3,.box 4 [.d .bool false])],nx:=4,log:=[],ln:=1 }
def bkS3 (m:zE0):St :=
 {fr:=[(1,.pb 1 0),(2,.pb 2 0),(3,.pb 3 0),(4,.pb 4 0)],nt:=74,up:=[],own:=[(0,.dm kT uT m),(1,.box 24 [.mp 0]),(2,.box 26 [nilV]),(3,.box 4 [.d .bool false]),(4,.box 26 [nilV])],nx:=5,log:=[],ln:=1 }
def hA:Hint:=⟨[],[1,2,3]⟩
def hB:Hint:=⟨[],[1,2,3,4]⟩
def hR:Hint:=⟨[.rwb 4 0 31,.opc 4 0 [(1,32)]],[1,2,3,11,4]⟩
theorem p1_eq (m:zE0):evN bkEnv bkNo hA bk1 (bkS0 m)=some (.n,bkS1 m):=by kernel_rfl
theorem p2_eq (m:zE0):evN bkEnv bkNo hA bk2 (bkS1 m)=if gt (Int.ofNat m.length) 64=true then some (.r,bkS1 m) else some (.n,bkS1 m):=by kernel_rfl
theorem p3_eq (m:zE0):evN bkEnv bkNo hB bk3 (bkS1 m)=some (.n,bkS3 m):=by kernel_rfl
theorem p4_eq (m:zE0):evN bkEnv bkNo hR bk4 (bkS3 m)=some (.n,bkSt bkFr 1 m nilV false false [] 0 []):=by kernel_rfl
def bkL (b:Bool) (xs:List Bk):Int:=if b=true then Int.ofNat (xs.length + 1) else Int.ofNat xs.length
def bkX (b:Bool) (xs:List Bk) (a:Int) (ws:List Int):List Bk:=if b=true then xs++[(a,ws)] else xs
def bkV (m:zE0) (z:Int):Int:=gdV uT (dget kT m z) 0
def bkRet (m:zE0) (b:Bool) (xs:List Bk) (a:Int) (ws:List Int):Option (Ex×St):=some (.r,bkSt bkFr 6 m nilV false b xs a ws)
def bkPush (m:zE0) (b:Bool) (xs:List Bk) (a:Int) (ws:List Int) (z:Int):Option (Ex×St) :=
 if eqi (bkL b xs) 8=true then bkRet m b xs a ws else
  need (small ((bkX b xs a ws).length + 1)) (need (eqi (add .i64 (sub .i64 (bkL b xs) 1) 1) (Int.ofNat (bkX b xs a ws).length)) (need (eqi (add .i64 (sub .i64 (bkL b xs) 1) 1) (Int.ofNat (bkX b xs a ws).length))
   (need (small (0 + Nat.succ 0)) (need (eqi (add .i64 (sub .i64 (bkL b xs) 1) 1) (Int.ofNat (bkX b xs a ws).length)) (need (eqi (add .i64 (sub .i64 (bkL b xs) 1) 1) (Int.ofNat (bkX b xs a ws).length))
    (some (.n,bkSt bkFr 6 m nilV false true (bkX b xs a ws) z [bkV m z])))))))
def n1 (b:Bool) (xs:List Bk) (k:Option (Ex×St)):Option (Ex×St):=need b (need (eqi (sub .i64 (bkL b xs) 1) (Int.ofNat xs.length)) k)
def bkM (m:zE0) (b:Bool) (xs:List Bk) (a:Int) (ws:List Int) (z:Int):Option (Ex×St) :=
 if lt z 0=true then bkRet m b xs a ws else
 if ge z 64=true then bkRet m b xs a ws else
 if lt (sub .i64 (bkL b xs) 1) 0=true then bkPush m b xs a ws z else
 n1 b xs (n1 b xs (n1 b xs (n1 b xs (
 if nei z (add .i64 a (Int.ofNat ws.length))=true then bkPush m b xs a ws z else
 n1 b xs (n1 b xs (
 if eqi (Int.ofNat ws.length) 14=true then bkPush m b xs a ws z else
 n1 b xs (n1 b xs (need (small (ws.length + Nat.succ 0)) (n1 b xs (n1 b xs (some (.n,bkSt bkFr 6 m nilV false true xs a (ws++[bkV m z])))))))))))))
theorem pB_eq (m:zE0) (b:Bool) (xs:List Bk) (a:Int) (ws:List Int) (z:Int) :
  evN bkEnv bkNo hR bkB (bkSt ((5,.d kT z)::bkFr) 6 m nilV false b xs a ws)=bkM m b xs a ws z:=by kernel_rfl
end Go.Proofs.Lx
end
section
namespace Pl
open Go Ev Sx
set_option maxRecDepth 10000
theorem q6_ {σ R:Type} (F:(σ->Option R)->σ->Option R) (n:Nat) (s:σ):loopF F (n + 1) s=F (loopF F n) s:=rfl
theorem w64 {x:Int} (h1:-9223372036854775808≤x) (h2:x≤9223372036854775807):IntKind.i64.wrap x=x:=by
 simp only [IntKind.wrap,IntKind.signed,IntKind.bits]
 simp
 omega
theorem wu8 {x:Int} (h1:0≤x) (h2:x≤255):IntKind.u8.wrap x=x:=by
 simp only [IntKind.wrap,IntKind.signed,IntKind.bits]
 simp
 omega
theorem add64 {a b:Int} (h1:-9223372036854775808≤a + b) (h2:a + b≤9223372036854775807):add .i64 a b=a + b:=w64 h1 h2
theorem sub64 {a b:Int} (h1:-9223372036854775808≤a - b) (h2:a - b≤9223372036854775807):sub .i64 a b=a - b:=w64 h1 h2
theorem mul64 {a b:Int} (h1:-9223372036854775808≤a * b) (h2:a * b≤9223372036854775807):mul .i64 a b=a * b:=w64 h1 h2
theorem neg64 {a:Int} (h1:-9223372036854775808≤-a) (h2:-a≤9223372036854775807):neg .i64 a=-a:=w64 h1 h2
theorem cvt64 {a:Int} (h1:-9223372036854775808≤a) (h2:a≤9223372036854775807):cvt .i64 a=a:=w64 h1 h2
theorem ql_ {n:Nat} (h:n < 4611686018427387904):add .i64 (n:Int) 1=((n + 1:Nat):Int):=by rw [add64 (by omega) (by omega)]; rfl
theorem q1_ (n:Nat):Int.ofNat n=(n:Int):=rfl
theorem q0_ {a b:Int}:lt a b=true ↔ a < b:=by simp [lt]
theorem le_iff {a b:Int}:le a b=true ↔ a≤b:=by simp [le]
theorem qb_ {a b:Int}:gt a b=true ↔ b < a:=by simp [gt]
theorem ge_iff {a b:Int}:ge a b=true ↔ b≤a:=by simp [ge]
theorem q9_ {a b:Int}:eqi a b=true ↔ a=b:=by simp [eqi]
theorem qe_ {a b:Int}:nei a b=true ↔ a ≠ b:=by simp [nei]
theorem eqs_iff {a b:List UInt8}:eqs a b=true ↔ a=b:=by simp [eqs]
theorem nes_iff {a b:List UInt8}:nes a b=true ↔ a ≠ b:=by simp [nes]
theorem small_iff {n:Nat}:small n=true ↔ n≤1073741824:=by simp [small]
theorem gt_dec (a b:Int):gt a b=decide (b < a):=rfl
theorem qk_ {b:Bool} {β:Type} {k:Option β} (h:b=true):need b k=k:=by unfold need; rw [if_pos h]
theorem need_small {n:Nat} {β:Type} {k:Option β} (h:n≤1073741824):need (small n) k=k:=qk_ (small_iff.2 h)
theorem qg_ {α:Type} {s:List α} {i:Nat} {c:α} (h:s[i]? = some c):at? s (i:Int)=some c:=by
 unfold at?
 simp [h]
theorem all8 {p:Nat->Bool} (h:(List.range 256).all p=true) (c:UInt8):p c.toNat=true:=List.all_eq_true.1 h _ (List.mem_range.2 c.toNat_lt)
theorem eqV_refl:∀ (t:Ty) (x:Vl t),eqV t x x=true:=by
 have hl:∀ {α:Type} {f:α->α->Bool},(∀ a,f a a=true)->∀ x:List α,eqL f x x=true:=fun h x=>by
  induction x with
  | nil=>rfl
  | cons a q ih=>simp [eqL,h,ih]
 intro t
 induction t with
 | int k=>intro x; simp [eqV,eqi]
 | bool=>intro x; simp [eqV,eqb]
 | str=>intro x; simp [eqV,eqs]
 | sl t ih=>intro x; exact hl ih x
 | pr a b iha ihb=>intro x; simp [eqV,iha,ihb]
 | wr a ih=>intro x; exact ih x
 | un=>intro x; rfl
 | ar n t ih=>intro x; exact hl ih x
 | mp k v ihk ihv=>intro x; exact hl (fun a=>by rw [ihk,ihv]; rfl) x
theorem eqAs_refl:∀ (rs:List Ty) (x:As rs),eqAs rs x x=true
 | [],_=>rfl
 | t::r,x=>by simp [eqAs,eqV_refl,eqAs_refl r]
theorem amb2 {R:Type} {eq:R->R->Bool} (h:∀ x,eq x x=true) (a:Option R):amb eq [a,a]=a:=by
 cases a <;> simp [amb,ambC,h]
end Pl
end
section
set_option maxRecDepth 100000
namespace Go.Proofs.Lx
open Go Go.Proofs Ev Sx Pl
def bkStep (m:zE0) (l:List Bk) (z:Int):Option (List Bk) :=
 if z < 0∨64≤z then none else
 match l.getLast? with
 | none=>some [(z,[bkV m z])]
 | some (a,ws)=>if z ≠ a + (ws.length:Int)∨ws.length=14 then (if l.length=8 then none else some (l++[(z,[bkV m z])])) else some (l.dropLast++[(a,ws++[bkV m z])])
structure BkI (b:Bool) (xs:List Bk) (a:Int) (ws:List Int):Prop where
 emp:b=false->xs=[]
 len:(bkX b xs a ws).length≤8
 rng:b=true->0≤a∧a < 64∧1≤ws.length∧ws.length≤14
theorem BkI.start:BkI false [] 0 []:=⟨fun _=>rfl,by decide,(fun h=>by cases h)⟩
theorem push_eq {m:List (Int×Int)} {b:Bool} {xs:List Bk} {a:Int} {ws:List Int} {z:Int} (hL:bkL b xs=((bkX b xs a ws).length:Int)) (h8:(bkX b xs a ws).length≤8) :
  bkPush m b xs a ws z=if (bkX b xs a ws).length=8 then bkRet m b xs a ws else some (.n,bkSt bkFr 6 m nilV false true (bkX b xs a ws) z [bkV m z]):=by
 have e1:eqi (add .i64 (sub .i64 (bkL b xs) 1) 1) (Int.ofNat (bkX b xs a ws).length)=true:=by
  rw [hL,sub64 (by omega) (by omega),add64 (by omega) (by omega),q9_]
  show _=((bkX b xs a ws).length:Int)
  omega
 unfold bkPush
 by_cases h:(bkX b xs a ws).length=8
 ·rw [if_pos (by rw [q9_,hL]; omega),if_pos h]
 ·rw [if_neg (by rw [q9_,hL]; omega),if_neg h,qk_ (small_iff.2 (by omega)),qk_ e1,qk_ e1,qk_ (by decide),qk_ e1,qk_ e1]
theorem n1_eq {xs:List Bk} {k:Option (Ex×St)} (h:xs.length≤8):n1 true xs k=k:=by
 unfold n1
 rw [qk_ rfl,qk_]
 rw [q9_]
 show sub .i64 ((xs.length + 1:Nat):Int) 1=(xs.length:Int)
 rw [sub64 (by omega) (by omega)]
 omega
theorem bk_spec {m:List (Int×Int)} {b:Bool} {xs:List Bk} {a:Int} {ws:List Int} (h:BkI b xs a ws) (z:Int) :
  (bkStep m (bkX b xs a ws) z=none∧bkM m b xs a ws z=bkRet m b xs a ws) ∨
  ∃ xs' a' ws',bkStep m (bkX b xs a ws) z=some (bkX true xs' a' ws')∧bkM m b xs a ws z=some (.n,bkSt bkFr 6 m nilV false true xs' a' ws')∧BkI true xs' a' ws':=by
 have h8:=h.len
 by_cases h1:z < 0
 ·exact .inl ⟨by unfold bkStep; rw [if_pos (.inl h1)],by unfold bkM; rw [if_pos (q0_.2 h1)]⟩
 by_cases h2:64≤z
 ·exact .inl ⟨by unfold bkStep; rw [if_pos (.inr h2)],by unfold bkM; rw [if_neg (by rw [q0_]; exact h1),if_pos (ge_iff.2 h2)]⟩
 have hm:∀ k,bkM m b xs a ws z=k->bkM m b xs a ws z=k:=fun _ h=>h
 cases b with
 | false =>
  obtain rfl:=h.emp rfl
  refine .inr ⟨[],z,[bkV m z],?_,?_,⟨(fun h=>by cases h),by show (1:Nat)≤8; decide,fun _=>⟨by omega,by omega,by simp,by simp⟩⟩⟩
  ·unfold bkStep
   rw [if_neg (by omega)]
   rfl
  ·unfold bkM
   rw [if_neg (by rw [q0_]; exact h1),if_neg (by rw [ge_iff]; omega),if_pos (by decide),push_eq rfl h8,if_neg (by show ¬ (0:Nat)=8; decide)]
   rfl
 | true =>
  obtain ⟨r1,r2,r3,r4⟩:=h.rng rfl
  have hl:(bkX true xs a ws).length=xs.length + 1:=by simp [bkX]
  have hX:(bkX true xs a ws).getLast? = some (a,ws):=by simp [bkX]
  have hD:(bkX true xs a ws).dropLast=xs:=by simp [bkX]
  have hx8:xs.length≤7:=by omega
  have hpush:=push_eq (m:=m) (z:=z) (b:=true) (xs:=xs) (a:=a) (ws:=ws) (by rw [hl]; rfl) h8
  have hst:bkStep m (bkX true xs a ws) z=if z ≠ a + (ws.length:Int)∨ws.length=14 then (if (bkX true xs a ws).length=8 then none else some (bkX true xs a ws++[(z,[bkV m z])])) else some (xs++[(a,ws++[bkV m z])]):=by
   unfold bkStep
   rw [if_neg (by omega),hX,hD]
  have hM:bkM m true xs a ws z=if z ≠ a + (ws.length:Int)∨ws.length=14 then bkPush m true xs a ws z else some (.n,bkSt bkFr 6 m nilV false true xs a (ws++[bkV m z])):=by
   unfold bkM
   rw [if_neg (by rw [q0_]; exact h1),if_neg (by rw [ge_iff]; omega),if_neg (by
    rw [q0_]
    show ¬ sub .i64 ((xs.length + 1:Nat):Int) 1 < 0
    rw [sub64 (by omega) (by omega)]
    omega)]
   rw [n1_eq (by omega),n1_eq (by omega),n1_eq (by omega),n1_eq (by omega)]
   have ea:add .i64 a (Int.ofNat ws.length)=a + (ws.length:Int):=add64 (by show _≤a + (ws.length:Int); omega) (by show a + (ws.length:Int)≤_; omega)
   rw [ea]
   by_cases c1:z ≠ a + (ws.length:Int)
   ·rw [if_pos (qe_.2 c1),if_pos (.inl c1)]
   ·rw [if_neg (by rw [qe_]; exact c1),n1_eq (by omega),n1_eq (by omega)]
    by_cases c2:ws.length=14
    ·rw [if_pos (by rw [q9_,c2]; rfl),if_pos (.inr c2)]
    ·rw [if_neg (by rw [q9_]; show ¬ (ws.length:Int)=14; omega),if_neg (by omega),n1_eq (by omega),n1_eq (by omega),qk_ (small_iff.2 (by show ws.length + 1≤_; omega)),n1_eq (by omega),n1_eq (by omega)]
  rw [hst,hM]
  by_cases c:z ≠ a + (ws.length:Int)∨ws.length=14
  ·rw [if_pos c,if_pos c,hpush]
   by_cases c8:(bkX true xs a ws).length=8
   ·rw [if_pos c8,if_pos c8]
    exact .inl ⟨rfl,rfl⟩
   ·rw [if_neg c8,if_neg c8]
    exact .inr ⟨bkX true xs a ws,z,[bkV m z],rfl,rfl,⟨(fun h=>by cases h),by simp [bkX] at hl c8 ⊢; omega,fun _=>⟨by omega,by omega,by simp,by simp⟩⟩⟩
  ·rw [if_neg c,if_neg c]
   exact .inr ⟨xs,a,ws++[bkV m z],rfl,rfl,⟨(fun h=>by cases h),by simp [bkX]; omega,fun _=>⟨r1,r2,by simp,by simp; omega⟩⟩⟩
end Go.Proofs.Lx
end
section
set_option maxRecDepth 100000
namespace Go.Proofs.Lx
open Go Go.Proofs Go.RowKit Ev Sx
theorem frD_nil {pl:List Ev.Place} {L:Lx} {w:World} {l:List Value}:FrD pl L w [] l:=fun t s h=>by cases h
theorem qd_ {pl:List Ev.Place} {L:Lx} {w:World} {l:List Value} {t:Nat} {s:SV} {fr:Fr} (h:Den pl L w s (l.getD t undef)) (hf:FrD pl L w fr l):FrD pl L w ((t,s)::fr) l:=fun t' s' hg=>by
 unfold Ev.get at hg
 split at hg
 ·rename_i e; cases hg; subst e; exact h
 ·exact hf t' s' hg
structure Slots (p0:List Ev.Place) (l:List Value):Prop where
 len:l.length=74
 p:p0.length=6
 s1:Den p0 [] default (.pb 1 0) (l.getD 1 undef)
 s2:Den p0 [] default (.pb 2 0) (l.getD 2 undef)
 s3:Den p0 [] default (.pb 3 0) (l.getD 3 undef)
 s11:Den p0 [] default (.fn (.func 40) [] [.pb 4 0]) (l.getD 11 undef)
 s4:Den p0 [] default (.pb 5 0) (l.getD 4 undef)
theorem den_pb {p0 pl:List Ev.Place} {L L':Lx} {w w':World} {i o:Nat} {u:Value} (hp:∀ (i:Nat) (p:Ev.Place),p0[i]? = some p->pl[i]? = some p) (h:Den p0 L w (.pb i o) u):Den pl L' w' (.pb i o) u:=by
 obtain ⟨g,n,c,h1,h2⟩:=h
 exact ⟨g,n,c,hp _ _ h1,h2⟩
theorem den_fn1 {p0 pl:List Ev.Place} {L L':Lx} {w w':World} {f:Fn} {i o:Nat} {u:Value} (hp:∀ (i:Nat) (p:Ev.Place),p0[i]? = some p->pl[i]? = some p) (h:Den p0 L w (.fn f [] [.pb i o]) u):Den pl L' w' (.fn f [] [.pb i o]) u:=by
 obtain ⟨us,vs,h1,⟨v,q,h2,h3,h4⟩,h5⟩:=h
 exact ⟨us,vs,h1,⟨v,q,h2,den_pb hp h3,h4⟩,h5⟩
theorem Slots.fr {p0 pl:List Ev.Place} {l l':List Value} {L:Lx} {w:World} (h:Slots p0 l) (hp:∀ (i:Nat) (p:Ev.Place),p0[i]? = some p->pl[i]? = some p) (hl:∀ t ∈ [1,2,3,11,4],l'.getD t undef=l.getD t undef):FrD pl L w bkFr l':=by
 refine qd_ ?_ (qd_ ?_ (qd_ ?_ (qd_ ?_ (qd_ ?_ frD_nil))))
 ·rw [hl 1 (by simp)]; exact den_pb hp h.s1
 ·rw [hl 2 (by simp)]; exact den_pb hp h.s2
 ·rw [hl 3 (by simp)]; exact den_pb hp h.s3
 ·rw [hl 11 (by simp)]; exact den_fn1 hp h.s11
 ·rw [hl 4 (by simp)]; exact den_pb hp h.s4
theorem bkEnv_ok:EnvOk Try.prog (fun _=>True) bkEnv:=q3_ bx_ok qc_
noncomputable def bkRec (fn:FuncId) (l:List Value) (D:Nat) (st:LoopState) (pend:Option Code):Loop :=
 {state:=st,pending:=pend,fn:=fn,tmps:=l.toArray,params:=#[12],assign:=bkA,body:=bkB,defers:=D }
theorem fz_putObj (w:World) (l:Nat) (o:Obj):Fz [some l] w (w.putObj l o) :=
 ⟨rfl,rfl,rfl,by simp,fun k _ hn=>World.putObj_heap_other (fun e=>hn (by simp [e]))⟩
theorem blw_fz {B:Nat->Prop} {M:Lx} {w w':World} (h:Fz M w w') (hM:∀ k,some k ∈ M->B k):Blw B w w':=⟨h.os,h.tape,h.output,h.size,fun k hk hn=>h.block k hk (fun hm=>hn (hM k hm))⟩
theorem qf_ {B B':Nat->Prop} {w w':World} (h:Blw B w w') (hb:∀ k,B k->B' k):Blw B' w w':=⟨h.os,h.tape,h.output,h.size,fun k hk hn=>h.block k hk (fun hm=>hn (hb k hm))⟩
theorem bkA_eq:∃ id ty pos af g,bkA = .region id #[⟨some 5,.assign (.tmp 12),ty,pos,af,g⟩] false∧g=none:=⟨_,_,_,_,_,rfl,rfl⟩
theorem round {B0:Nat->Prop} {p0:List Ev.Place} {F:Lx} {pl:List Ev.Place} {m:List (Int×Int)} {b:Bool} {xs:List Bk} {a:Int} {ws:List Int} {W:World} {l:List Value} {fn:FuncId} {D lb:Nat} {x:Int}
  (hst:Sto B0 p0 F pl (bkOwn m nilV false b xs a ws) W) (hpl:pl.length=8) (hs:Slots p0 l) (hI:BkI b xs a ws) (hr:W.heap[lb]? = some (.loop (bkRec fn l D .ready none))) (hlb:some lb ∈ F) (hlB:B0 lb) (hB:∀ k,W.heap.size≤k->B0 k) :
  YieldAt Fence.wide 0 Try.prog lb #[.int .i64 x] W fun e W'=>∃ pl' b' xs' a' ws',Sto B0 p0 F pl' (bkOwn m nilV false b' xs' a' ws') W'∧pl'.length=8∧BkI b' xs' a' ws'∧Blw B0 W W'∧(∀ k,some k ∈ F->k ≠ lb->W'.heap[k]? = W.heap[k]?) ∧
   ((e = .returned (.bool true)∧bkStep m (bkX b xs a ws) x=some (bkX b' xs' a' ws')∧W'.heap[lb]? = some (.loop (bkRec fn l D .ready none))) ∨
    (e = .returned (.bool false)∧bkStep m (bkX b xs a ws) x=none∧W'.heap[lb]? = some (.loop (bkRec fn l D .done (some .ret))))):=by
 have hlt:lb < W.heap.size:=(Array.getElem?_eq_some_iff.1 hr).1
 have hy:=run_yield (P:=Try.prog) (args:=#[.int .i64 x]) hr rfl
 refine ⟨fn,_,bkA,bkB,hy,roundIn_of_wpIn trivial ?_⟩
 have he:((bkRec fn l D .ready none).params.zip #[Value.int .i64 x]).foldl (fun tmps (t,a)=>tmps.setIfInBounds t a) (bkRec fn l D .ready none).tmps=(l.set 12 (.int .i64 x)).toArray:=by
  simp [bkRec]
 rw [he]
 obtain ⟨l1,hl1⟩:∃ l1,l1=(l.set 12 (.int .i64 x)).set 5 (.int .i64 x):=⟨_,rfl⟩
 have hl1n:l1.length=74:=by rw [hl1,List.length_set,List.length_set,hs.len]
 have hl15:l1.getD 5 undef = .int .i64 x:=by
  rw [hl1,List.getD_eq_getElem?_getD,List.getElem?_set_self (by rw [List.length_set,hs.len]; decide)]
  rfl
 have hl1o:∀ t ∈ [1,2,3,11,4],l1.getD t undef=l.getD t undef:=fun t ht=>by
  have h5:5 ≠ t:=fun e=>by subst e; simp at ht
  have h12:12 ≠ t:=fun e=>by subst e; simp at ht
  rw [hl1,List.getD_eq_getElem?_getD,List.getElem?_set_ne h5,List.getElem?_set_ne h12,<- List.getD_eq_getElem?_getD]
 have hasg:CW Try.prog bkA (Exit.then (fun a₁ w₁=>a₁=mk l1∧w₁=W) (fun _ _ _=>False)) (l.set 12 (.int .i64 x)) W:=by
  obtain ⟨id,ty,pos,af,g,h1,rfl⟩:=bkA_eq
  rw [h1]
  refine cw_region (ops:=[_]) (wl_val (v:=.int .i64 x) rfl (run_assign ?_) (wl_nil ⟨?_,rfl⟩))
  ·show (l.set 12 (.int .i64 x)).getD 12 undef=_
   rw [List.getD_eq_getElem?_getD,List.getElem?_set_self (by rw [hs.len]; decide)]
   rfl
  ·rw [hl1]
   rfl
 refine Code.wpIn_mono ?_ (hasg (some lb))
 rintro e a₁ w₁ hq
 cases e with
 | normal =>
  obtain ⟨rfl,rfl⟩:=hq
  refine ⟨_,run_beginRound hr rfl,?_⟩
  obtain ⟨W2,hW2⟩:∃ W2,w₁.putObj lb (.loop { bkRec fn l D .ready none with state:=.busy })=W2:=⟨_,rfl⟩
  rw [hW2]
  have hf2:Fz [some lb] w₁ W2:=by rw [<- hW2]; exact fz_putObj _ _ _
  have hr2:W2.heap[lb]? = some (.loop { bkRec fn l D .ready none with state:=.busy }):=by rw [<- hW2]; exact World.putObj_heap_same hlt
  have hst2:Sto B0 p0 F pl (bkOwn m nilV false b xs a ws) W2:=hst.turn (hf2.sub fun k hk=>by simp at hk; subst hk; exact hlb)
  have hbo:∀ k,Bo pl (bkOwn m nilV false b xs a ws) W2 k->B0 k:=fun k hk=>by
   rcases hk with hk | hk
   ·exact hst2.lo k hk
   ·exact hB k (Nat.le_trans hf2.size hk)
  have hfr:FrD pl (lx pl (bkOwn m nilV false b xs a ws)++F) W2 ((5,.d kT x)::bkFr) l1:=qd_ (by rw [hl15]; exact ⟨[.int .i64 x],rfl,rfl⟩) (hs.fr hst.pre hl1o)
  have hspec:=bk_spec (m:=m) hI x
  have fin:∀ (e0:Ex) (b':Bool) (xs':List Bk) (a':Int) (ws':List Int) (pl':List Ev.Place) (W3:World) (jump:Option Code),pl'.length=8->Sto B0 p0 F pl' (bkOwn m nilV false b' xs' a' ws') W3->Blw (Bo pl (bkOwn m nilV false b xs a ws) W2) W2 W3 ->
    ∃ W4,(Instr.endRound lb jump).run Try.prog W3 = .ok (.bool jump.isNone) W4∧Sto B0 p0 F pl' (bkOwn m nilV false b' xs' a' ws') W4∧Blw B0 w₁ W4∧(∀ k,some k ∈ F->k ≠ lb->W4.heap[k]? = w₁.heap[k]?)∧W4.heap[lb]? = some (.loop { bkRec fn l D .ready none with state:=if jump.isNone then .ready else .done,pending:=jump }):=by
   intro e0 b' xs' a' ws' pl' W3 jump hp' hst3 hb3
   have keep:∀ k,some k ∈ F->W3.heap[k]? = W2.heap[k]?:=fun k hk=>hb3.block k (hst2.far k hk).2 (fun hx=>by
    rcases hx with hx | hx
    ·exact (hst2.far k hk).1 hx
    ·have:=(hst2.far k hk).2; omega)
   have hr3:=(keep lb hlb).trans hr2
   have hlt3:=(Array.getElem?_eq_some_iff.1 hr3).1
   have hf4:=fz_putObj W3 lb (.loop { bkRec fn l D .ready none with state:=if jump.isNone then .ready else .done,pending:=jump })
   refine ⟨_,run_endRound jump hr3,hst3.turn (hf4.sub fun k hk=>by simp at hk; subst hk; exact hlb),?_,fun k hk hne=>?_,World.putObj_heap_same hlt3⟩
   ·exact ((blw_fz hf2 (fun k hk=>by simp at hk; subst hk; exact hlB)).trans (qf_ hb3 hbo)).trans (blw_fz hf4 (fun k hk=>by simp at hk; subst hk; exact hlB))
   ·have hklt:=(hst2.far k hk).2
    rw [hf4.block k (Nat.lt_of_lt_of_le hklt hb3.size) (by simp [hne]),keep k hk]
    exact hf2.block k (hst.far k hk).2 (by simp [hne])
  rcases hspec with ⟨h1,h2⟩ | ⟨xs',a',ws',h1,h2,h3⟩
  ·have hp:=q1i_ (S:=bkSt ((5,.d kT x)::bkFr) 6 m nilV false b xs a ws) (hint:=hR) (hs:=bkNo) (l:=l1) bkEnv_ok hbo hst2 rfl (show 8=pl.length by rw [hpl]) (show 6=p0.length by rw [hs.p]) hl1n hfr ((pB_eq m b xs a ws x).trans h2)
   refine Code.wpIn_mono ?_ (hp (some lb))
   rintro e a3 W3 ⟨pl',l',rfl,rfl,_,hp',hst3,_,hb3⟩
   obtain ⟨W4,q1,q2,q3,q4,q5⟩:=fin .r b xs a ws pl' W3 (some .ret) hp' hst3 hb3
   exact ⟨_,W4,q1,pl',b,xs,a,ws,q2,hp',hI,q3,q4,.inr ⟨rfl,h1,q5⟩⟩
  ·have hp:=q1i_ (S:=bkSt ((5,.d kT x)::bkFr) 6 m nilV false b xs a ws) (hint:=hR) (hs:=bkNo) (l:=l1) bkEnv_ok hbo hst2 rfl (show 8=pl.length by rw [hpl]) (show 6=p0.length by rw [hs.p]) hl1n hfr ((pB_eq m b xs a ws x).trans h2)
   refine Code.wpIn_mono ?_ (hp (some lb))
   rintro e a3 W3 ⟨pl',l',rfl,rfl,_,hp',hst3,_,hb3⟩
   obtain ⟨W4,q1,q2,q3,q4,q5⟩:=fin .n true xs' a' ws' pl' W3 none hp' hst3 hb3
   exact ⟨_,W4,q1,pl',true,xs',a',ws',q2,hp',h3,q3,q4,.inl ⟨rfl,h1,q5⟩⟩
 | exit id=>exact hq
 | goto t=>exact hq
 | ret=>exact hq
 | panic c=>exact hq
 | outgrown=>exact hq
end Go.Proofs.Lx
end
section
set_option maxRecDepth 100000
namespace Go.Proofs.Lx
open Go Go.Proofs Go.RowKit Ev Sx
theorem bkT_eq:∃ id o1 o2 o3,bkT = .seq (.region id #[o1,o2,o3] false) .ret∧o1={ o1 with dst:=some 73,op:=.load 26 (.tmp 4),guard:=none }∧o2={ o2 with dst:=none,op:=.store 26 (.tmp 2) (.tmp 73),guard:=none }∧o3={ o3 with dst:=none,op:=.store 4 (.tmp 3) (.const (.bool true)),guard:=none }:=⟨_,_,_,_,rfl,rfl,rfl,rfl⟩
section
variable {P:Program} {l:List Value} {w:World} {d:Option Tmp} {ty:TypeId} {pos:String} {af:Array Edge} {gd:Option (Nat×Bool)}
theorem run_store_box {t:TypeId} {x y:Operand} {g j n:Nat} {cs vs:List Value} {T:TypeId} {v:Value} (hs:szOf P t=some n)
  (hx:ev l x = .pointer (some ⟨g,j,none⟩)) (hy:ev l y=v) (hv:v.cells.toList=vs) (hl:vs.length=n) (h1:∀ u ∈ vs,u.oneCell'=true)
  (hb:Bx w g cs T) (hj:j + n≤cs.length) :
  ∃ w',(execOp (ev l) ⟨d,.store t x y,ty,pos,af,gd⟩).run P w = .ok .skip w'∧w'.heap.size=w.heap.size∧Fz [some g] w w'∧Bx w' g (cs.take j++vs++cs.drop (j + n)) T:=by
 have hst:=run_storeCells_at P g j T vs 0 cs.toArray w hb (by simpa [hl] using hj) h1
 simp only [Nat.add_zero,hl] at hst
 have hsz:v.cells.size=n:=by rw [<- hl,<- hv,Array.length_toList]
 refine ⟨w.setRow g (cs.take j++vs++cs.drop (j + n)).toArray,?_,?_,?_,?_⟩
 ·simp only [execOp,hx,hy,Instr.storeAt,Instr.sureAddr,storeVar,Sem.run_bind,Sem.run_pure,Result.andThen_ok,Sx.run_sizeOf hs,hsz,ne_eq,not_true_eq_false,if_false,hv,hst]
 ·simp [World.setRow]
 ·exact ⟨rfl,rfl,rfl,by simp [World.setRow],fun k hk hn=>setRow_other w g k _ (fun e=>hn (by simp [e]))⟩
 ·exact setRow_heap w g cs.toArray _ T (0,0) hb
theorem eval_ds (l:List Value) (ds:List Deferred):(⟨l.toArray,ds⟩:Act).eval=ev l:=by
 rw [<- eval_mk]
 rfl
theorem wld_val {n:Nat} {ops:Array Oper} {rest:List Oper} {o:Oper} {Q:Exit->Act->World->Prop} {ds:List Deferred} {v:Value} {w':World} {dd:Nat} (hg:o.guard=none) (hd:o.dst=some dd) (hr:(execOp (ev l) o).run P w = .ok (.value v) w')
  (h:wpListIn Fence.wide n P ops Q rest ⟨(l.set dd v).toArray,ds⟩ w'):wpListIn Fence.wide n P ops Q (o::rest) ⟨l.toArray,ds⟩ w:=by
 unfold wpListIn
 rw [if_pos (by simp [Region.wanted,hg])]
 refine ⟨fun _ _=>trivial,?_⟩
 rw [eval_ds,show Fence.wide.round=none from rfl,Oper.semAt_none,hr,Oper.uponIn_value,hd]
 have e:(⟨l.toArray,ds⟩:Act).put (some dd) v=⟨(l.set dd v).toArray,ds⟩:=by simp [Act.put,List.setIfInBounds_toArray]
 rw [e]
 exact h
theorem wld_skip {n:Nat} {ops:Array Oper} {rest:List Oper} {o:Oper} {Q:Exit->Act->World->Prop} {ds:List Deferred} {w':World} (hg:o.guard=none) (hd:o.dst=none) (hr:(execOp (ev l) o).run P w = .ok .skip w')
  (h:wpListIn Fence.wide n P ops Q rest ⟨l.toArray,ds⟩ w'):wpListIn Fence.wide n P ops Q (o::rest) ⟨l.toArray,ds⟩ w:=by
 unfold wpListIn
 rw [if_pos (by simp [Region.wanted,hg])]
 refine ⟨fun _ _=>trivial,?_⟩
 rw [eval_ds,show Fence.wide.round=none from rfl,Oper.semAt_none,hr,Oper.uponIn_skip,hd]
 exact h
end
section
variable {B0:Nat->Prop} {p0:List Ev.Place} {F:Lx} {pl:List Ev.Place} {own:List (Nat×Ent)} {w w':World}
theorem Sto.put (h:Sto B0 p0 F pl own w) (hB:∀ k,w.heap.size≤k->B0 k) (hp:p0.length≤pl.length) {i:Nat} {e e':Ent} (hg:Ev.get own i=some e) (hf:Fz [plb pl i] w w') (he:EntD pl (lx pl own++F) w' i e'):Sto B0 p0 F pl (pute i e' own) w':=by
 have hr:=h.rel (S:={ fr:=[],nt:=0,up:=[],own:=own,nx:=pl.length,log:=[],ln:=p0.length }) (l:=[]) rfl rfl rfl rfl frD_nil
 have hm:plb pl i ∈ lx pl own:=own_mem (Ev.get_mem hg)
 have hr2:=hr.mod (e':=e') hg ⟨hf,fun k hk=>by simp at hk; rw [hk]; exact hm,Sub.refl _ _,hr.hL.step hf.size⟩ he
 exact (sto_of_rel (fun k hk=>by
  rcases hk with hk | hk
  ·exact h.lo k hk
  ·exact hB k hk) hr2).1
end
theorem tail_wp {B0:Nat->Prop} {p0:List Ev.Place} {F:Lx} {pl:List Ev.Place} {m:List (Int×Int)} {b:Bool} {xs:List Bk} {a:Int} {ws:List Int} {W:World} {l:List Value} {ds:List Deferred} {Q:Exit->Act->World->Prop}
  (hst:Sto B0 p0 F pl (bkOwn m nilV false b xs a ws) W) (hpl:pl.length=8) (hs:Slots p0 l) (hB:∀ k,W.heap.size≤k->B0 k)
  (hQ:∀ W' l',Sto B0 p0 F pl (bkOwn m (.row 6) true b xs a ws) W'->Slots p0 l'->Blw B0 W W'->(∀ k,some k ∈ F->W'.heap[k]? = W.heap[k]?)->Q .ret ⟨l'.toArray,ds⟩ W') :
  bkT.wpIn Fence.wide 2 Try.prog Q ⟨l.toArray,ds⟩ W:=by
 obtain ⟨id,o1,o2,o3,h0,h1,h2,h3⟩:=bkT_eq
 rw [h0]
 obtain ⟨g5,n5,c5,us5,q1,q2,⟨v5,r5,rfl,⟨p6,q4,rfl⟩,rfl⟩,q6⟩:=hst.ent (5,.box 26 [.row 6]) (by simp [bkOwn])
 obtain ⟨g2,n2,c2,us2,t1,t2,⟨v2,r2,rfl,t3,rfl⟩,t4⟩:=hst.ent (2,.box 26 [nilV]) (by simp [bkOwn])
 obtain ⟨g3,n3,c3,us3,u1,u2,⟨v3,r3,rfl,u3,rfl⟩,u4⟩:=hst.ent (3,.box 4 [.d .bool false]) (by simp [bkOwn])
 have pinj:∀ {i:Nat} {g n c g' n' c'},p0[i]? = some ⟨some ⟨g,0,none⟩,n,c⟩->pl[i]? = some ⟨some ⟨g',0,none⟩,n',c'⟩->g=g':=fun h h'=>by
  have:=hst.pre _ _ h
  rw [this] at h'
  cases h'
  rfl
 obtain ⟨g,n,c,e1,e2⟩:=hs.s4
 obtain rfl:=pinj e1 q1
 obtain ⟨g',n',c',e3,e4⟩:=hs.s2
 obtain rfl:=pinj e3 t1
 obtain ⟨g'',n'',c'',e5,e6⟩:=hs.s3
 obtain rfl:=pinj e5 u1
 refine wpIn_seq (wpIn_region_lit (l:=[o1,o2,o3]) ?_)
 rw [h1,h2,h3]
 have hv:(l.set 73 (.slice p6.a p6.n p6.c)).getD 73 undef = .slice p6.a p6.n p6.c:=by
  rw [List.getD_eq_getElem?_getD,List.getElem?_set_self (by rw [hs.len]; decide)]
  rfl
 have hoth:∀ t,t ≠ 73->(l.set 73 (.slice p6.a p6.n p6.c)).getD t undef=l.getD t undef:=fun t ht=>by
  rw [List.getD_eq_getElem?_getD,List.getElem?_set_ne (fun e=>ht e.symm),<- List.getD_eq_getElem?_getD]
 have hs':Slots p0 (l.set 73 (.slice p6.a p6.n p6.c)):=⟨by rw [List.length_set]; exact hs.len,hs.p,by rw [hoth 1 (by decide)]; exact hs.s1,by rw [hoth 2 (by decide)]; exact hs.s2,by rw [hoth 3 (by decide)]; exact hs.s3,by rw [hoth 11 (by decide)]; exact hs.s11,by rw [hoth 4 (by decide)]; exact hs.s4⟩
 refine wld_val (dd:=73) rfl rfl (run_load_box1 (cs:=[.slice p6.a p6.n p6.c]) (T:=26) (dd:=.slice 31) (by kernel_rfl) rfl e2 q2 rfl) ?_
 obtain ⟨W1,w1,w2,w3,w4⟩:=run_store_box (P:=Try.prog) (l:=l.set 73 (.slice p6.a p6.n p6.c)) (w:=W) (d:=none) (ty:=o2.type) (pos:=o2.pos) (af:=o2.after) (gd:=none) (t:=26) (x:=.tmp 2) (y:=.tmp 73) (g:=g') (j:=0) (n:=1) (vs:=[.slice p6.a p6.n p6.c]) (by kernel_rfl) ((hoth 2 (by decide)).trans e4) hv rfl rfl (by simp [Value.oneCell']) t2 (by simp)
 refine wld_skip rfl rfl w1 ?_
 have hst1:Sto B0 p0 F pl (bkOwn m (.row 6) false b xs a ws) W1:=hst.put hB (by rw [hpl,hs.p]; decide) (i:=2) (e:=.box 26 [nilV]) (e':=.box 26 [.row 6]) rfl (by unfold plb; rw [t1]; exact w3) ⟨g',n2,c2,[.slice p6.a p6.n p6.c],t1,by simpa using w4,⟨_,[],rfl,⟨p6,q4,rfl⟩,rfl⟩,by simp [Value.oneCell']⟩
 have hg3:g'' ≠ g':=fun e=>by
  subst e
  have:=hst.pair
  simp [bkOwn,lx,plb,t1,u1,blk] at this
 have u2':Bx W1 g'' [v3] 4:=u2.step w3 (by simp [hg3])
 obtain ⟨W2,x1,x2,x3,x4⟩:=run_store_box (P:=Try.prog) (l:=l.set 73 (.slice p6.a p6.n p6.c)) (w:=W1) (d:=none) (ty:=o3.type) (pos:=o3.pos) (af:=o3.after) (gd:=none) (t:=4) (x:=.tmp 3) (y:=.const (.bool true)) (g:=g'') (j:=0) (n:=1) (vs:=[.bool true]) (by kernel_rfl) ((hoth 3 (by decide)).trans e6) rfl rfl rfl (by simp [Value.oneCell']) u2' (by simp)
 refine wld_skip rfl rfl x1 ?_
 have hst2:Sto B0 p0 F pl (bkOwn m (.row 6) true b xs a ws) W2:=hst1.put (fun k hk=>hB k (by rw [w2] at hk; exact hk)) (by rw [hpl,hs.p]; decide) (i:=3) (e:=.box 4 [.d .bool false]) (e':=.box 4 [.d .bool true]) rfl (by unfold plb; rw [u1]; exact x3) ⟨g'',n3,c3,[.bool true],u1,by simpa using x4,⟨_,[],rfl,⟨[.bool true],rfl,rfl⟩,rfl⟩,by simp [Value.oneCell']⟩
 have m2:some g' ∈ lx pl (bkOwn m nilV false b xs a ws):=by
  have:=own_mem (pl:=pl) (own:=bkOwn m nilV false b xs a ws) (e:=(2,.box 26 [nilV])) (by simp [bkOwn])
  unfold plb at this
  rw [t1] at this
  exact this
 have m3:some g'' ∈ lx pl (bkOwn m nilV false b xs a ws):=by
  have:=own_mem (pl:=pl) (own:=bkOwn m nilV false b xs a ws) (e:=(3,.box 4 [.d .bool false])) (by simp [bkOwn])
  unfold plb at this
  rw [u1] at this
  exact this
 refine wpListIn_nil (wpIn_ret (hQ W2 _ hst2 hs' ?_ fun k hk=>?_))
 ·exact (blw_fz w3 (fun k hk=>by simp at hk; subst hk; exact hst.lo _ m2)).trans (blw_fz x3 (fun k hk=>by simp at hk; subst hk; exact hst.lo _ m3))
 ·have hk2:=hst.far k hk
  rw [x3.block k (by rw [w2]; exact hk2.2) (fun e=>by simp at e; subst e; exact hk2.1 m3),w3.block k hk2.2 (fun e=>by simp at e; subst e; exact hk2.1 m2)]
end Go.Proofs.Lx
end
section
set_option maxRecDepth 100000
namespace Go.Proofs.Lx
open Go Go.Proofs Go.RowKit Ev Sx
def bkAll (m:zE0):List Int->Option (List Bk)->Option (List Bk)
 | [],r=>r
 | z::q,r=>bkAll m q (r.bind fun l=>bkStep m l z)
theorem bkAll_snoc (m:zE0):∀ (ks:List Int) (z:Int) (r:Option (List Bk)),bkAll m (ks++[z]) r=(bkAll m ks r).bind fun l=>bkStep m l z
 | [],_,_=>rfl
 | _::q,z,r=>bkAll_snoc m q z _
theorem bkAll_none (m:zE0):∀ ks:List Int,bkAll m ks none=none
 | []=>rfl
 | _::q=>bkAll_none m q
theorem bkAll_app (m:zE0):∀ (ks qs:List Int) (r:Option (List Bk)),bkAll m (ks++qs) r=bkAll m qs (bkAll m ks r)
 | [],_,_=>rfl
 | _::q,qs,_=>bkAll_app m q qs _
@[reducible] def q2v_:Ev.Sh:=⟨[.mp 0],[.dm (.int .i64) (.int .u16)],[.sl (.pr (.int .i64) (.int .u16))],[.d (.sl (.pr (.int .i64) (.sl (.int .u16)))),.d .bool],[(0,.dm (.int .i64) (.int .u16))],0,[.sl (.pr (.int .i64) (.sl (.int .u16))),.bool,.sl (.pr (.int .i64) (.int .u16))]⟩
def keyOk (e:Int×Int):Bool:=decide (-9223372036854775808≤e.1) && decide (e.1≤9223372036854775807)
def bkRes (m:zE0):List Bk×Bool :=
 if m.length > 64 then ([],false) else match bkAll m (sorted (m.map (·.1))) (some []) with
  | some l=>(l,true)
  | none=>([],false)
def q2i_ (x:As q2v_.ps):Option (As q2v_.rs):=if x.1.all keyOk=true then some ((bkRes x.1).1,(bkRes x.1).2,x.1,()) else none
theorem keyOk_iff {e:Int×Int}:keyOk e=true ↔ inR e.1:=by simp [keyOk,inR]
theorem fin_after {F F':Lx} {w0 W:World} {pl0 pl':List Ev.Place} {m:List (Int×Int)} {own':List (Nat×Ent)} {B1:Nat->Prop} {p1:List Ev.Place} {L:List Bk} {ok:Bool} {us:List Value}
  (hpl:pl0.length=1) (hL:LOk (Bo pl0 [(0,.dm kT uT m)] w0) (lx pl0 [(0,.dm kT uT m)]) F w0) (hpre:∀ p,pl'[0]? = some p->pl0[0]? = some p)
  (hF:∀ k,some k ∈ F->some k ∈ F') (hst:Sto B1 p1 F' pl' own' W) (hm:(0,.dm kT uT m) ∈ own') (hB:Blw (Bo pl0 [(0,.dm kT uT m)] w0) w0 W)
  (hd:DenL pl' (lx pl' own'++F') W [.d (.sl bT) L,.d .bool ok] us):After q2v_ (L,ok,m,()) F w0 pl0 [(0,.dm kT uT m)] W us:=by
 obtain ⟨g,n,c,vs,e1,e2,e3⟩:=hst.ent _ hm
 have e0:=hpre _ e1
 have hlx:lx pl0 [(0,Ent.dm kT uT m)]=[some g]:=by simp [lx,plb,e0,blk]
 have hmem:some g ∈ lx pl' own':=by
  have:=own_mem (pl:=pl') hm
  unfold plb at this
  rw [e1] at this
  exact this
 have hsub:∀ k,some k ∈ lx pl0 [(0,Ent.dm kT uT m)]++F->some k ∈ lx pl' own'++F':=fun k hk=>by
  rcases List.mem_append.1 hk with hk | hk
  ·rw [hlx] at hk
   simp at hk
   subst hk
   exact List.mem_append_left _ hmem
  ·exact List.mem_append_right _ (hF k hk)
 refine ⟨pl0,[.d (.sl bT) L,.d .bool ok],[(0,.dm kT uT m)],rfl,fun _ _ h=>h,hpl,hB,⟨hL.pair,hL.lo,fun k hk=>?_,hL.baseS hB.size,hL.farS hB.size⟩,fun e he=>?_,?_⟩
 ·exact Nat.lt_of_lt_of_le (hL.hi k hk) hB.size
 ·simp at he
  subst he
  exact ⟨g,n,c,vs,e0,e2,e3.ext (Ext.sub (pl:=pl') hsub)⟩
 ·obtain ⟨v,q,h1,⟨cs,h2,h3⟩,v',q',h4,⟨cs',h5,h6⟩,h7⟩:=hd
  exact ⟨v,q,h1,⟨cs,Rp.grow _ h2 (sub_of hsub),h3⟩,v',q',h4,⟨cs',Rp.grow _ h5 (sub_of hsub),h6⟩,h7⟩
theorem fin_res {B1:Nat->Prop} {p1:List Ev.Place} {F':Lx} {pl:List Ev.Place} {S S1:St} {l:List Value} {W:World} {L:List Bk} {ok:Bool} (hb:∀ k,Bo pl S.own W k->B1 k)
  (hst:Sto B1 p1 F' pl S.own W) (hup:S.up=[]) (hnx:S.nx=pl.length) (hln:S.ln=p1.length) (hnt:l.length=S.nt) (hfr:FrD pl (lx pl S.own++F') W S.fr l)
  (hn:nrm Try.prog ⟨[.frb 2],[2,3]⟩ S=some S1) (hr:resK Try.prog S1 Try.f8.results.toList (fun ss=>some ss)=some [.d (.sl bT) L,.d .bool ok]) :
  ∃ pl' us,Sto B1 p1 F' pl' S1.own W∧DenL pl' (lx pl' S1.own++F') W [.d (.sl bT) L,.d .bool ok] us∧∀ R:Ending->World->Prop,R (.returned (retV us)) W->∃ v,(results Try.f8 l.toArray).run Try.prog W = .ok v W∧R (.returned v) W:=by
 have h1:=hst.rel hup hnx hln hnt hfr
 obtain ⟨wr2,pl2,h2⟩:=nrm_ok h1 hn
 obtain ⟨ss,us,h3,h4,h5⟩:=resK_ok h2 hr
 cases h3
 exact ⟨pl2,us,(sto_of_rel hb h2).1,h5,fun R hR=>(ret_post (fn:=Try.f8) (by decide) h4 hR).2⟩
theorem n1_fin (m:zE0):∃ S1,nrm Try.prog ⟨[.frb 2],[2,3]⟩ (bkS1 m)=some S1∧(0,Ent.dm kT uT m) ∈ S1.own∧resK Try.prog S1 Try.f8.results.toList (fun ss=>some ss)=some [.d (.sl bT) [],.d .bool false]:=by
 refine ⟨{ fr:=[(2,.pb 1 0),(3,.pb 2 0)],nt:=74,up:=[],own:=[(0,.dm kT uT m),(1,.box 26 [.d (.sl bT) []]),(2,.box 4 [.d .bool false])],nx:=3,log:=[],ln:=1 },by kernel_rfl,by simp,by kernel_rfl⟩
theorem n2_fin (m:zE0) (b:Bool) (xs:List Bk) (a:Int) (ws:List Int):∃ S1,nrm Try.prog ⟨[.frb 2],[2,3]⟩ (bkSt bkFr 6 m nilV false b xs a ws)=some S1∧(0,Ent.dm kT uT m) ∈ S1.own∧resK Try.prog S1 Try.f8.results.toList (fun ss=>some ss)=some [.d (.sl bT) [],.d .bool false]:=by
 refine ⟨{ fr:=[(2,.pb 2 0),(3,.pb 3 0)],nt:=74,up:=[],own:=[(0,.dm kT uT m),(1,.box 24 [.mp 0]),(2,.box 26 [.d (.sl bT) []]),(3,.box 4 [.d .bool false]),(4,.box 24 [.mp 0]),(5,.box 26 [.row 6]),(6,.rowo bT 31 b xs [.d kT a,.row 7]),(7,.row uT 32 ws)],nx:=8,log:=[],ln:=6 },by kernel_rfl,by simp,by kernel_rfl⟩
theorem n3_fin (m:zE0) (b:Bool) (xs:List Bk) (a:Int) (ws:List Int):∃ S1,nrm Try.prog ⟨[.frb 2],[2,3]⟩ (bkSt bkFr 6 m (.row 6) true b xs a ws)=some S1∧(0,Ent.dm kT uT m) ∈ S1.own∧resK Try.prog S1 Try.f8.results.toList (fun ss=>some ss)=some [.d (.sl bT) (bkX b xs a ws),.d .bool true]:=by
 refine ⟨{ fr:=[(2,.pb 2 0),(3,.pb 3 0)],nt:=74,up:=[],own:=[(0,.dm kT uT m),(1,.box 24 [.mp 0]),(2,.box 26 [.d (.sl bT) (bkX b xs a ws)]),(3,.box 4 [.d .bool true]),(4,.box 24 [.mp 0]),(5,.box 26 [.d (.sl bT) (bkX b xs a ws)])],nx:=6,log:=[],ln:=6 },by kernel_rfl,by simp,by kernel_rfl⟩
end Go.Proofs.Lx
end
