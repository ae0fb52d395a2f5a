/- Proved in the last of these 15 parts (this is part 3): PlanText. Conditions: those of the given statement, and no others. -/
import Derived.Test.YtnamnibaedolaaaGreatDoorPartb
import Derived.ChangeKeysEq
import Derived.Test.YtnamnibaedolaaaGreatDoorParta
import Derived.Lib.UnsafeStr
set_option linter.unusedVariables false
set_option linter.unusedSimpArgs false
set_option linter.unusedSectionVars false
open List renaming replicate → zC, mem_cons_of_mem → zO
open Go.Result renaming andThen_ok → zJ
open Bool renaming and_eq_true → zL
noncomputable section
namespace Ev
open Go Go.RowKit Sx
def BP:SV->Option (List SV)
 | .agg l=>some l
 | .d t x=>if t.agg then unp t x else some [.d t x]
 | .tup _=>none
 | .k v=>if v.oneCell'=true then some [.k v] else none
 | s=>some [s]
def dP(i:Nat)(e:Ent):List (Nat×Ent)->List (Nat×Ent)
 | []=>[]
 | (j,q)::r=>if j=i then (j,e)::r else (j,q)::dP i e r
def jK(i n:Nat)(e:Ent):List (Nat×Ent)->List (Nat×Ent)
 | []=>[]
 | (j,q)::r=>if j=i then (n,e)::r else (j,q)::jK i n e r
section
variable {B:Nat->Prop}{F:Lx}{w0:Bs}{wr:Wr}{pl pl':List Place}{S S':St}{l l':List Value}{ls:List (List Value)}{w w':World}{L L' M:Lx}
theorem oO{u:Value}(h:u.oneCell'=true):u.cells.toList=[u]:=by cases u<;>first | rfl | grind[Value.oneCell']
theorem xw{s:SV}{u:Value}{cs:List SV}(hd:Den pl L w s u)(h:BP s=some cs):DenL pl L w cs u.cells.toList∧∀v∈u.cells.toList,v.oneCell'=true:=by
 have key:u.oneCell'=true->DenL pl L w [s] u.cells.toList∧∀v∈u.cells.toList,v.oneCell'=true:=fun h1=>by rw[oO h1];exact⟨⟨u,[],rfl,hd,rfl⟩,fun v hv=>by simp_all⟩
 cases s with
 | agg l=>cases h;obtain⟨us,h1,h2,rfl⟩:=hd;exact⟨h1,h2⟩
 | d t x =>
  have h:(if t.agg then unp t x else some [.d t x])=some cs:=h;split at h
  ·rename_i ht
   obtain⟨cs',h1,rfl⟩:=hd;have e:((rp t).val cs').cells.toList=cs':=by simp[Rp.val,gI,ht,Value.cells]
   rw[e];exact⟨lS h h1,(rp t).one h1⟩
  ·rename_i ht
   cases h
   exact key (pE hd (fun _ e=>by cases e) (fun _ e=>by cases e) (fun _ e=>by cases e) (fun _ _ e=>by simp_all))
 | tup l=>cases h
 | k v =>
  have h:(if v.oneCell'=true then some [SV.k v] else none)=some cs:=h;split at h
  ·rename_i h1
   cases h
   have hd':u=v:=hd;simp_all
  grind
 | dx t x=>cases h;exact key (pE hd (fun _ e=>by cases e) (fun _ e=>by cases e) (fun _ e=>by cases e) (fun _ _ e=>by cases e))
 | row i=>cases h;exact key (pE hd (fun _ e=>by cases e) (fun _ e=>by cases e) (fun _ e=>by cases e) (fun _ _ e=>by cases e))
 | pb i o=>cases h;exact key (pE hd (fun _ e=>by cases e) (fun _ e=>by cases e) (fun _ e=>by cases e) (fun _ _ e=>by cases e))
 | pra i j sz o m ft k o2=>cases h;exact key (pE hd (fun _ e=>by cases e) (fun _ e=>by cases e) (fun _ e=>by cases e) (fun _ _ e=>by cases e))
 | prw i j sz o=>cases h;exact key (pE hd (fun _ e=>by cases e) (fun _ e=>by cases e) (fun _ e=>by cases e) (fun _ _ e=>by cases e))
 | pe t x=>cases h;exact key (pE hd (fun _ e=>by cases e) (fun _ e=>by cases e) (fun _ e=>by cases e) (fun _ _ e=>by cases e))
 | sd i=>cases h;exact key (pE hd (fun _ e=>by cases e) (fun _ e=>by cases e) (fun _ e=>by cases e) (fun _ _ e=>by cases e))
 | rowz i=>cases h;exact key (pE hd (fun _ e=>by cases e) (fun _ e=>by cases e) (fun _ e=>by cases e) (fun _ _ e=>by cases e))
 | sub i sz lo n=>cases h;exact key (pE hd (fun _ e=>by cases e) (fun _ e=>by cases e) (fun _ e=>by cases e) (fun _ _ e=>by cases e))
 | opb b i o=>cases h;exact key (pE hd (fun _ e=>by cases e) (fun _ e=>by cases e) (fun _ e=>by cases e) (fun _ _ e=>by cases e))
 | mp i=>cases h;exact key (pE hd (fun _ e=>by cases e) (fun _ e=>by cases e) (fun _ e=>by cases e) (fun _ _ e=>by cases e))
 | fn f a b=>cases h;exact key (pE hd (fun _ e=>by cases e) (fun _ e=>by cases e) (fun _ e=>by cases e) (fun _ _ e=>by cases e))
 | ifc t v=>cases h;exact key (pE hd (fun _ e=>by cases e) (fun _ e=>by cases e) (fun _ e=>by cases e) (fun _ _ e=>by cases e))
theorem qF{α:Type}:∀{own:List (Nat×α)} {i:Nat} {e:α},get own i=some e->∃pre post,own=pre++(i,e)::post∧∀x∈pre,x.1≠i
 | (j,q)::own,i,e,h=>by
  unfold get at h;split at h
  ·rename_i hj
   cases h
   subst hj;exact⟨[],own,rfl,by simp⟩
  ·rename_i hj
   obtain⟨pre,post,h1,h2⟩:=qF h;grind
theorem Gp{i:Nat}{e e':Ent}:∀{pre post:List (Nat×Ent)},(∀x∈pre,x.1≠i)->dP i e' (pre++(i,e)::post)=pre++(i,e')::post
 | [],post,_=>by simp[dP]
 | (j,q)::pre,post,h=>by have hj:j≠i:=h _ (List.mem_cons_self ..);show (if j=i then (j,e')::(pre++(i,e)::post) else (j,q)::dP i e' (pre++(i,e)::post))=_;rw[if_neg hj,Gp (fun x hx=>h x (zO _ hx))];rfl
theorem Gq{i n:Nat}{e e':Ent}:∀{pre post:List (Nat×Ent)},(∀x∈pre,x.1≠i)->jK i n e' (pre++(i,e)::post)=pre++(n,e')::post
 | [],post,_=>by simp[jK]
 | (j,q)::pre,post,h=>by have hj:j≠i:=h _ (List.mem_cons_self ..);show (if j=i then (n,e')::(pre++(i,e)::post) else (j,q)::jK i n e' (pre++(i,e)::post))=_;rw[if_neg hj,Gq (fun x hx=>h x (zO _ hx))];rfl
theorem iq{i:Nat}{e:Ent}{pre post:List (Nat×Ent)}:lx pl (pre++(i,e)::post)=lx pl pre++plb pl i::lx pl post:=by grind[lx]
theorem others{pre post:List (Nat×Ent)}{i:Nat}{e:Ent}(hL:LOk B (lx pl (pre++(i,e)::post)) F w){x:Nat×Ent}(hx:x∈pre∨x∈post):∀k,plb pl x.1=some k->some k ∉ [plb pl i]:=fun k hk hm=>by
 simp at hm;have hp:=hL.pair;rw[iq,List.pairwise_append,List.pairwise_cons]at hp;obtain⟨_,⟨h2,_⟩,h4⟩:=hp;rcases hx with hx | hx
 ·have hmem:some k∈lx pl pre:=by rw[<- hk];exact List.mem_map_of_mem (f:=fun e:Nat×Ent=>plb pl e.1) hx
  grind
 ·have hmem:some k∈lx pl post:=by rw[<- hk];exact List.mem_map_of_mem (f:=fun e:Nat×Ent=>plb pl e.1) hx
  grind
theorem Rel.mod(h:Rel B F w0 wr pl S l ls w){i:Nat}{e e':Ent}(hg:get S.own i=some e)(hs:Stp B (lx pl S.own) (lx pl S.own) F [plb pl i] w w')(he:EntD pl (lx pl S.own++F) w' i e') :
  Rel B F w0 wr pl { S with own:=dP i e' S.own,log:=i::S.log } l ls w':=by
 obtain⟨pre,post,h1,h2⟩:=qF hg;have e1:dP i e' S.own=pre++(i,e')::post:=by grind[Gp]
 have e2:lx pl (dP i e' S.own)=lx pl S.own:=by simp_all[iq]
 have hL:=h.hL;rw[h1]at hL;refine h.go (M:=[plb pl i]) (S':={ S with own:=dP i e' S.own,log:=i::S.log }) (by simp_all) (fun _ _ h=>h) h.nx (Nat.le_refl _) rfl rfl rfl (fun j hj=>zO _ hj) (fun x hx=>?_);have hx:x∈dP i e' S.own:=hx;rw[e1]at hx;have key:x∈pre∨x∈post->(x∈S.own∧∀k,plb pl x.1=some k->some k ∉ [plb pl i]):=fun hx=>⟨by grind,others hL hx⟩;rcases List.mem_append.1 hx with hx | hx
 ·simp_all
 ·rcases List.mem_cons.1 hx with hx | hx
  ·subst hx
   refine .inr ⟨.inr ⟨List.mem_cons_self ..,_,get_mem hg,rfl⟩,?_⟩;simp_all
  simp_all
theorem Rel.rep(h:Rel B F w0 wr pl S l ls w){i:Nat}{e e':Ent}{p:Place}{pre post:List (Nat×Ent)}(h1:S.own=pre++(i,e)::post)(h2:∀x∈pre,x.1≠i)
  (hs:Stp B (lx pl pre++plb pl i::lx pl post) (lx pl pre++blk p.a::lx pl post) F [plb pl i] w w')
  (he:EntD (pl++[p]) ((lx pl pre++blk p.a::lx pl post)++F) w' pl.length e') :
  Rel B F w0 wr (pl++[p]) { S with own:=jK i S.nx e' S.own,nx:=S.nx+1,log:=i::S.log } l ls w':=by
 have e1:jK i S.nx e' S.own=pre++(S.nx,e')::post:=by grind[Gq]
 have e2:lx (pl++[p]) (jK i S.nx e' S.own)=lx pl pre++blk p.a::lx pl post:=by
  have a1:∀q:List (Nat×Ent),(∀x∈q,x∈S.own)->lx (pl++[p]) q=lx pl q:=fun q hq=>by unfold lx;exact List.map_congr_left fun x hx=>(h.ent x (hq x hx)).plb (gZ p)
  rw[e1,iq,a1 pre (fun x hx=>by simp_all),a1 post (fun x hx=>by simp_all),h.nx,vB]
 have hL:=h.hL;rw[h1]at hL;have e3:lx pl S.own=lx pl pre++plb pl i::lx pl post:=by rw[h1,iq]
 have hi:Ev.plb (pl++[p]) i=Ev.plb pl i:=(h.ent (i,e) (by simp_all)).plb (gZ p);refine h.go (M:=[plb pl i]) (S':={ S with own:=jK i S.nx e' S.own,nx:=S.nx+1,log:=i::S.log }) (by simp_all) (gZ p) (by simp[h.nx]) (Nat.le_succ _) rfl rfl rfl (fun j hj=>zO _ hj) (fun x hx=>?_);have hx:x∈jK i S.nx e' S.own:=hx;rw[e1]at hx;have key:x∈pre∨x∈post->(x∈S.own∧∀k,plb pl x.1=some k->some k ∉ [plb pl i]):=fun hx=>⟨by grind,others hL hx⟩;rcases List.mem_append.1 hx with hx | hx
 ·simp_all
 ·rcases List.mem_cons.1 hx with hx | hx
  ·subst hx
   refine .inr ⟨.inl (Nat.le_refl _),?_⟩;show EntD (pl++[p]) (lx (pl++[p]) (jK i S.nx e' S.own)++F) w' S.nx e';rw[e2,h.nx];exact he
  simp_all
def pF:List SV->List Nat
 | []=>[]
 | .row j::q=>j::pF q
 | _::q=>pF q
def nR:List Nat->St->St
 | [],S=>S
 | j::q,S=>match EJ S j with
  | some S'=>nR q S'
  | none=>nR q S
theorem Dq{i:Nat}(h:EJ S i=some S'):S'.nt=S.nt:=by grind[EJ]
theorem EK:∀{q:List Nat} {S:St},Rel B F w0 wr pl S l ls w->Rel B F w0 wr pl (nR q S) l ls w∧(nR q S).nt=S.nt
 | [],S,h=>⟨h,rfl⟩
 | j::q,S,h=>by
  unfold nR;split
  ·rename_i S' hf
   obtain⟨a,b⟩:=EK (q:=q) (Ic h hf);exact⟨a,by rw[b,Dq hf]⟩
  ·exact EK h
theorem Rel.told(h:Rel B F w0 wr pl S l ls w){i:Nat}{e e':Ent}(hg:get S.own i=some e)(he:EntD pl (lx pl S.own++F) w i e') :
  Rel B F w0 wr pl { S with own:=dP i e' S.own,log:=i::S.log } l ls w:=by
 have hmem:∀k,some k ∈ [plb pl i]->some k∈lx pl S.own:=fun k hk=>by simp only[List.mem_singleton]at hk;rw[hk];exact List.mem_map_of_mem (f:=fun e:Nat×Ent=>plb pl e.1) (get_mem hg)
 exact h.mod hg ⟨Fz.refl _ _,hmem,Sub.refl _ _,h.hL⟩ he
def clo(S:St)(i:Nat):Option St:=match get S.own i with
 | some (.rowo _ _ _ _ cs0)=>match get (nR (pF cs0) S).own i with
  | some (.rowo t e b xs cs)=>match pk t cs with
   | some (x,[])=>some { nR (pF cs0) S with own:=dP i (.row t e (if b=true then xs++[x] else xs)) (nR (pF cs0) S).own,log:=i::(nR (pF cs0) S).log }
   | _=>none
  | _=>none
 | _=>none
theorem Zg(h:Rel B F w0 wr pl S l ls w){i:Nat}(hf:clo S i=some S'):Rel B F w0 wr pl S' l ls w∧S'.nt=S.nt:=by
 unfold clo at hf;split at hf
 ·rename_i t0 e0 b0 xs0 cs0 hg0
  obtain⟨a,hn⟩:=EK (q:=pF cs0) h;generalize nR (pF cs0) S=S1 at hf a hn;split at hf
  ·rename_i t e b xs cs hg
   split at hf
   ·rename_i x hpk
    cases hf
    refine⟨a.told hg ?_,hn⟩;obtain⟨p,ro,us,h1,h2,h3,h4⟩:=a.ent _ (get_mem hg);refine⟨p,h1,?_⟩
    cases b with
    | false =>
     rw[if_neg Bool.false_ne_true];have h2:Ow (kP t.size) e (lx pl S1.own++F) w p.a p.n p.c (ro++[]):=h2;grind[Y9]
    | true =>
     rw[if_pos rfl];obtain⟨c,v,e1,h5,h6⟩:=kE hpk (h4 rfl);cases h6;rw[List.append_nil]at e1;subst e1;exact Y9 (rs:=ro++[us]) h2 (h3.append ⟨x,[],rfl,h5,rfl⟩)
   grind
  grind
 grind
def frz(S:St)(i:Nat):Option St:=match clo S i with
 | some S'=>EJ S' i
 | none=>EJ S i
theorem Nk(h:Rel B F w0 wr pl S l ls w){i:Nat}(hf:frz S i=some S'):Rel B F w0 wr pl S' l ls w:=by
 unfold frz at hf;split at hf
 ·rename_i S1 h1
  exact Ic (Zg h h1).1 hf
 grind[Ic]
theorem aix{i:Nat}(h:clo S i=some S'):S'.nt=S.nt:=by
 unfold clo at h;split at h
 ·rename_i cs0 _
  have key:∀(q:List Nat) (S:St),(nR q S).nt=S.nt:=fun q=>by
   induction q with
   | nil=>intro S;rfl
   | cons j q ih =>
    grind[nR,Dq]
  grind
 grind
theorem Nl{i:Nat}(h:frz S i=some S'):S'.nt=S.nt:=by
 unfold frz at h;split at h
 ·rename_i S1 h1
  rw[Dq h,aix h1]
 ·exact Dq h
end
section
variable {R:Type}
def Nn(a:St)(d:TypeId)(c:List SV)(b:St->SV->Option R):Option R :=
 b { a with own:=(a.nx,.box d c)::a.own,nx:=a.nx+1 } (.pb a.nx 0)
def BQ(P:Program)(S:St)(t:TypeId)(K:St->SV->Option R):Option R :=
 match (P.info? t).bind (·.zero) with
 | some z=>if z.cells.toList.all Value.oneCell'=true then Nn S t (z.cells.toList.map ofV) K else none
 | none=>none
def Np(S:St)(t:TypeId)(s:SV)(K:St->SV->Option R):Option R :=
 match BP s with
 | some cs=>Nn S t cs K
 | none=>none
def yU(P:Program)(S:St)(t:TypeId)(a s:SV)(K:St->SV->Option R):Option R :=
 match a with
 | .pb i o=>match get S.own i,eG P t,BP s with
  | some (.box T cs),some n,some vs=>if vs.length=n∧o+n≤cs.length then K { S with own:=dP i (.box T (cs.take o++vs++cs.drop (o+n))) S.own,log:=i::S.log } (.k undef) else none
  | _,_,_=>none
 | .prw i j sz o=>match get S.own i,tyc P t with
  | some (.row t0 e xs),some fy=>if sz=t0.size then match toD fy s with
   | some y=>(at? xs j).bind fun x=>match upd t0 o fy y x with
    | some z=>K { S with own:=dP i (.row t0 e (xs.set j.toNat z)) S.own,log:=i::S.log } (.k undef)
    | none=>none
   | none=>none
   else none
  | _,_=>none
 | .pra i j sz o m ft k o2=>match get S.own i,tyc P t with
  | some (.row t0 e xs),some fy=>if sz=t0.size then match toD fy s with
   | some y=>(at? xs j).bind fun x=>match prj t0 o (.ar m ft) x with
    | some ys=>(at? (show List (Vl ft) from ys) k).bind fun z=>match upd ft o2 fy y z with
     | some z'=>match upd t0 o (.ar m ft) (show Vl (.ar m ft) from (show List (Vl ft) from ys).set k.toNat z') x with
      | some x'=>K { S with own:=dP i (.row t0 e (xs.set j.toNat x')) S.own,log:=i::S.log } (.k undef)
      | none=>none
     | none=>none
    | none=>none
   | none=>none
   else none
  | _,_=>none
 | _=>none
def TN{t:Ty}(a:t = .int .u8)(b:List (Vl t)):List Int:=(a ▸ b:List (Vl (.int .u8)))
def TP(own:List (Nat×Ent)):SV->Bool
 | .d (.sl _) _=>true
 | .row i=>match get own i with
  | some (.row _ _ _)=>true
  | _=>false
 | .rowz i=>match get own i with
  | some (.row _ _ _)=>true
  | _=>false
 | .sub _ _ _ _=>true
 | .k (.slice none 0 0)=>true
 | _=>false
def rz(z:Bool)(i:Nat):SV:=if z=true then .rowz i else .row i
def Nq(P:Program)(S:St)(e:TypeId)(z:Bool)(i:Nat)(s:SV)(K:St->SV->Option R):Option R :=
 match get S.own i,iD P e with
 | some (.row t0 e0 xs),some ⟨t1,_⟩=>if e0=e∧t1=t0 then match leaf (.sl t0) s with
  | some ys=>need (small (xs.length+ys.length)) (K { S with own:=jK i S.nx (.row t0 e (xs++ys)) S.own,nx:=S.nx+1,log:=i::S.log } (rz z S.nx))
  | none=>none
  else none
 | _,_=>none
def Nr(P:Program)(S:St)(e:TypeId)(z:Bool)(i:Nat)(b:List UInt8)(K:St->SV->Option R):Option R :=
 match get S.own i,P.info? e with
 | some (.row t0 e0 xs),some j=>if h:e0=e∧t0 = .int .u8∧j.size=1∧j.bytes=1 then match j.zero with
  | some (.int .u8 0)=>need (small ((TN h.2.1 xs).length+b.length)) (K { S with own:=jK i S.nx (.row (.int .u8) e (TN h.2.1 xs++b.map fun b=>(b.toNat:Int))) S.own,nx:=S.nx+1,log:=i::S.log } (rz z S.nx))
  | _=>none
  else none
 | _,_=>none
def Dr(P:Program)(S:St)(e:TypeId)(s1:SV)(K:St->Bool->Nat->Option R):Option R :=
 match s1 with
 | .row i=>K S false i
 | .rowz i=>K S true i
 | .k (.slice none 0 0)=>match iD P e with
  | some ⟨t0,_⟩=>K { S with own:=(S.nx,.row t0 e [])::S.own,nx:=S.nx+1 } false S.nx
  | none=>none
 | _=>none
def Ie(P:Program)(S:St)(t:TypeId)(s1 s2:SV)(K:St->SV->Option R):Option R :=
 match fq P t with
 | some (e,_)=>Dr P S e s1 fun S1 z i=>Nq P S1 e z i s2 K
 | none=>none
def Ns(P:Program)(t:TypeId):Option IntKind:=match P.underlying t with
 | some (.int k)=>some k
 | _=>none
theorem Zh{P:Program}{t:TypeId}{k:IntKind}(h:Ns P t=some k):P.underlying t=some (.int k):=by grind[Ns]
def aa1(P:Program)(S:St)(e:TypeId)(z:Bool)(i:Nat)(m:Int)(K:St->SV->Option R):Option R :=
 match get S.own i,iD P e with
 | some (.row t0 e0 xs),some ⟨t1,zz⟩=>if h:e0=e∧t1=t0∧z=false then need (ge m 1) (need (small (xs.length+m.toNat)) (K { S with own:=jK i S.nx (.row t0 e (xs++zC m.toNat (h.2.1 ▸ zz))) S.own,nx:=S.nx+1,log:=i::S.log } (.row S.nx)))
  else none
 | _,_=>none
def EL(P:Program)(S:St)(t u:TypeId)(s1 s2:SV)(K:St->SV->Option R):Option R :=
 match fq P t,s2 with
 | some (e,_),.d .str b=>if isStr P u=true then Dr P S e s1 fun S1 z i=>Nr P S1 e z i b K else none
 | some (e,_),.d (.int _) m=>match Ns P u with
  | some _=>Dr P S e s1 fun S1 z i=>aa1 P S1 e z i m K
  | none=>none
 | _,_=>none
def My(P:Program)(S:St)(t:TypeId)(s:SV)(lo hi mx:Option Operand)(K:St->SV->Option R):Option R :=
 match fq P t with
 | some (e,_)=>match dZ S lo 0,dZ S hi 1,dZ S mx 1,iD P e with
  | some i,some j,some m,some ⟨t0,_⟩=>if TP S.own s=true∧eqi i 0=true∧eqi j 0=true∧eqi m 0=true then K { S with own:=(S.nx,.row t0 e [])::S.own,nx:=S.nx+1 } (.rowz S.nx) else none
  | _,_,_,_=>none
 | none=>none
def TQ(n m:Int):Bool:=if n=m then true else decide (n≤m)
theorem aa2{n m:Int}(h:TQ n m=true):n≤m:=by unfold TQ at h;grind
def TT(P:Program)(S:St)(t:TypeId)(s1 s2:SV)(K:St->SV->Option R):Option R :=
 match fq P t,s1,s2 with
 | some (e,_),.d (.int _) n,.d (.int _) m=>match iD P e with
  | some ⟨t0,z⟩=>need (ge n 0) (need (TQ n m) (need (small m.toNat) (K { S with own:=(S.nx,.row t0 e (zC n.toNat z))::S.own,nx:=S.nx+1 } (.row S.nx))))
  | none=>none
 | _,_,_=>none
end
section
variable {R:Type}{B:Nat->Prop}{F:Lx}{w0:Bs}{wr:Wr}{pl pl':List Place}{S S':St}{l l':List Value}{ls:List (List Value)}{w w':World}{L L' M:Lx}{P:Program}{d:Option Tmp}{ty:TypeId}{pos:String}{af:Array Edge}{gd:Option (Nat×Bool)}
 {Q:Exit->Act->World->Prop} {KK:List Value->World->Prop} {K:St->SV->Option R} {r:R}
def Hand(c:Nat->Prop)(a:Lx)(j:Bs)(k:Wr)(h:Nat)(b:List Value)(g:List (List Value))(f:Option Tmp)(d:St->SV->Option R)(i:R)(e:List Value->World->Prop):Prop :=
 ∀pl' S' s v w',Rel c a j k pl' S' b g w'->S'.nt=h->Den pl' (lx pl' S'.own++a) w' s v->d S' s=some i->e (st b f v) w'
theorem Es(h:Rel B F w0 wr pl S l ls w){t:TypeId}{cs:List SV}(hv:Nn S t cs K=some r)(hk:Hand B F w0 wr S.nt l ls d K r KK){g:Nat}{us:List Value}(hs:Stp B (lx pl S.own) (some g::lx pl S.own) F [] w w')(hb:Bx w' g us t)
  (hd:DenL pl (lx pl S.own++F) w cs us) (h1:∀v∈us,v.oneCell'=true):KK (st l d (.pointer (some ⟨g,0,none⟩))) w':=by
 have hd':DenL (pl++[⟨some ⟨g,0,none⟩,0,0⟩]) ((some g::lx pl S.own)++F) w' cs us:=hd.ext (Ext.of_stp hs (gZ _));have hr:=h.push ⟨some ⟨g,0,none⟩,0,0⟩ (.box t cs) hs ⟨g,0,0,us,gJ _,hb,hd',h1⟩;refine hk _ _ _ _ w' hr rfl ?_ hv;exact⟨g,0,0,by rw[h.nx];simp,rfl⟩
theorem BR(h:Rel B F w0 wr pl S l ls w){t:TypeId}(hv:BQ P S t K=some r)(hk:Hand B F w0 wr S.nt l ls d K r KK):OW P ⟨d,.alloc t,ty,pos,af,gd⟩ l w KK Q:=by
 unfold BQ at hv;split at hv
 ·rename_i z hz
  split at hv
  ·rename_i h1
   exact qY hz rfl h.hL (fun g w' hS hb=>Es h hv hk hS hb (jX _) (List.all_eq_true.1 h1))
  grind
 grind
theorem Ig(h:Rel B F w0 wr pl S l ls w){t:TypeId}{x:Operand}{s:SV}(hv:Np S t s K=some r)(hx:Den pl (lx pl S.own++F) w s (ev l x))(hk:Hand B F w0 wr S.nt l ls d K r KK):OW P ⟨d,.box t x,ty,pos,af,gd⟩ l w KK Q:=by
 unfold Np at hv;split at hv
 ·rename_i cs hc
  obtain⟨h1,h2⟩:=xw hx hc;exact uK rfl rfl h.hL (fun g w' hS hb=>Es h hv hk hS hb h1 h2)
 grind
theorem xx(h:Rel B F w0 wr pl S l ls w){t:TypeId}{x y:Operand}{a s:SV}(hv:yU P S t a s K=some r)(hx:Den pl (lx pl S.own++F) w a (ev l x))(hy:Den pl (lx pl S.own++F) w s (ev l y))(hk:Hand B F w0 wr S.nt l ls d K r KK):OW P ⟨d,.store t x y,ty,pos,af,gd⟩ l w KK Q:=by
 unfold yU at hv;split at hv
 ·rename_i i o
  split at hv
  ·rename_i T cs n vs hg hn hc
   split at hv
   ·rename_i hb
    obtain⟨g,n1,c1,h1,h2⟩:=hx;obtain⟨g',n',c',us,h3,h4,h5,h6⟩:=h.ent _ (get_mem hg);rw[h1]at h3;cases h3;obtain⟨h7,h8⟩:=xw hy hc;have hpl:plb pl i=some g:=fo h1;have hl1:=h5.len;have hl2:=h7.len;refine LV (vs:=(ev l y).cells.toList) hn h2 rfl rfl (by omega) (List.all_eq_true.2 h8) h.hL h4 (decide_eq_true (by omega)) (by rw[<- hpl];exact List.mem_map_of_mem (f:=fun e:Nat×Ent=>plb pl e.1) (get_mem hg)) rfl (fun w' hS hb'=>?_);have hE:=Ext.of_stp (pl:=pl) (pl':=pl) hS (fun _ _ h=>h);have hr:=h.mod (e':=.box T (cs.take o++vs++cs.drop (o+n))) hg (by simp_all) ⟨g,n1,c1,_,h1,hb',(((h5.ext hE).take o).append (h7.ext hE)).append ((h5.ext hE).drop _),fun v hv=>?_⟩
    ·exact hk pl _ (.k undef) undef w' hr rfl rfl hv
    grind
   grind
  grind
 ·rename_i i j sz o
  split at hv
  ·rename_i t0 e xs fy hg hfy
   split at hv
   ·rename_i hsz
    split at hv
    ·rename_i z hz
     obtain⟨y0,hy0,hv⟩:=bK hv;split at hv
     ·rename_i z' hu
      obtain⟨g,b0,n1,c1,h1,h2⟩:=hx;obtain⟨p,h3,h4⟩:=h.ent _ (get_mem hg);rw[h1]at h3;cases h3;obtain⟨h5,h6,h7⟩:=gY hy0;obtain⟨_,hb0⟩:=h4.addr h7;cases hb0;obtain⟨c,h8,h9⟩:=jo hz hy;have hpl:plb pl i=some g:=fo h1
      have hcells:(ev l y).cells.toList=c:=by
       rw[h9]
       cases ha:fy.agg with
       | true=>simp[Rp.val,gI,ha,Value.cells]
       | false =>
        have hl:=(rp fy).len h8;rw[kC fy ha]at hl;obtain⟨v,rfl⟩:=List.length_eq_one_iff.1 hl;simp only[Rp.val,gI,ha,Bool.false_eq_true,if_false,List.headD_cons];exact oO ((rp fy).one h8 v (by simp))
      refine kF (R:=rp t0) (vs:=c) (b:=g) (i:=j.toNat) (off:=o) (u:=y0) (u':=z') ?_ (by grind[bV]) rfl hcells h.hL h4 h6 ((rp fy).one h8) (fun cs hcs=>oN hu hcs h8) (by rw[<- hpl];exact List.mem_map_of_mem (f:=fun e:Nat×Ent=>plb pl e.1) (get_mem hg)) (fun w' hS hO=>?_)
      ·rw[(rp fy).len h8];exact (gU hfy).size
      ·have hr:=h.mod (e':=.row t0 e (xs.set j.toNat z')) hg (by simp_all) ⟨_,h1,hO⟩
       exact hk pl _ (.k undef) undef w' hr rfl rfl hv
     grind
    grind
   grind
  grind
 ·rename_i i j sz o m ft q o2
  split at hv
  ·rename_i t0 e xs fy hg hfy
   split at hv
   ·rename_i hsz
    split at hv
    ·rename_i z hz
     obtain⟨y0,hy0,hv⟩:=bK hv;split at hv
     ·rename_i ys hpr
      obtain⟨z0,hz0,hv⟩:=bK hv;split at hv
      ·rename_i z1 hu1
       split at hv
       ·rename_i z' hu
        obtain⟨g,b0,n1,c1,h1,h2⟩:=hx;obtain⟨p,h3,h4⟩:=h.ent _ (get_mem hg);rw[h1]at h3;cases h3;obtain⟨h5,h6,h7⟩:=gY hy0;obtain⟨_,hb0⟩:=h4.addr h7;cases hb0;obtain⟨_,hz6,_⟩:=gY hz0;obtain⟨c,h8,h9⟩:=jo hz hy;have hpl:plb pl i=some g:=fo h1
        have hcells:(ev l y).cells.toList=c:=by
         rw[h9]
         cases ha:fy.agg with
         | true=>simp[Rp.val,gI,ha,Value.cells]
         | false =>
          have hl:=(rp fy).len h8;rw[kC fy ha]at hl;obtain⟨v,rfl⟩:=List.length_eq_one_iff.1 hl;simp only[Rp.val,gI,ha,Bool.false_eq_true,if_false,List.headD_cons];exact oO ((rp fy).one h8 v (by simp))
        refine kF (R:=rp t0) (vs:=c) (b:=g) (i:=j.toNat) (off:=o+q.toNat*ft.size+o2) (u:=y0) (u':=z') ?_ (by simp_all[bV,Nat.add_assoc]) rfl hcells h.hL h4 h6 ((rp fy).one h8) (fun cs hcs=>Y8 hpr hz6 hu1 hu hcs h8) (by rw[<- hpl];exact List.mem_map_of_mem (f:=fun e:Nat×Ent=>plb pl e.1) (get_mem hg)) (fun w' hS hO=>?_)
        ·rw[(rp fy).len h8];exact (gU hfy).size
        ·have hr:=h.mod (e':=.row t0 e (xs.set j.toNat z')) hg (by simp_all) ⟨_,h1,hO⟩
         exact hk pl _ (.k undef) undef w' hr rfl rfl hv
       grind
      grind
     grind
    grind
   grind
  grind
 grind
end
end Ev
end
noncomputable section
namespace Ev
open Go Go.RowKit Sx
section
variable {R:Type}{B:Nat->Prop}{F:Lx}{w0:Bs}{wr:Wr}{pl pl':List Place}{S S':St}{l l':List Value}{ls:List (List Value)}{w w':World}{L L' M:Lx}{P:Program}{d:Option Tmp}{ty:TypeId}{pos:String}{af:Array Edge}{gd:Option (Nat×Bool)}
 {Q:Exit->Act->World->Prop} {KK:List Value->World->Prop} {K:St->SV->Option R} {r:R}
theorem q8{t:Ty}{L:Lx}{w:World}{v:Value}{ys:List (Vl t)}(hy:(rp (.sl t)).rel L w [v] ys):∃a n c,v = .slice a n c∧(Rp.slice (rp t)).rel L w [.slice a n c] ys:=by have hy0:=hy;obtain⟨a2,c2,e2,_⟩:=hy0;simp at e2;subst e2;exact⟨_,_,_,rfl,hy⟩
theorem Zi(h:Rel B F w0 wr pl S l ls w){t e:TypeId}{n i:Nat}{p:Place}{x y:Operand}{s:SV}(hel:fq P t=some (e,n)){z0:Bool}(hv:Nq P S e z0 i s K=some r)(hp:pl[i]? = some p)(hx:if z0=true then RowV p (ev l x) else ev l x = .slice p.a p.n p.c)
  (hy:Den pl (lx pl S.own++F) w s (ev l y)) (hk:Hand B F w0 wr S.nt l ls d K r KK):OW P ⟨d,.call ⟨.builtin .append,#[x,y],#[t,t]⟩,ty,pos,af,gd⟩ l w KK Q:=by
 unfold Nq at hv;split at hv
 ·rename_i t0 e0 xs t1 z hg hr
  split at hv
  ·rename_i he
   obtain⟨rfl,rfl⟩:=he;split at hv
   ·rename_i ys hys
    obtain⟨hsm,hv⟩:=bS hv;obtain⟨pre,post,h1,h2⟩:=qF hg;obtain⟨p',h3,h4⟩:=h.ent _ (get_mem hg);rw[hp]at h3;cases h3;have e1:lx pl S.own=lx pl pre++blk p.a::lx pl post:=by grind[iq,fo]
    have hL:=h.hL;have hy':=og (t:=.sl t1) rfl hys hy;rw[e1]at hL h4 hy';have hrow:=gy hr;obtain⟨a2,n2,c2,e2,hy'⟩:=q8 hy'
    cases z0 with
    | true =>
     refine Gm (jE hel).1 hrow hx e2 hL h4 hy' hsm (fun v a' n' c' w' hv' hS hO=>?_);have hpb:=fo hp;have hr2:=h.rep (p:=⟨a',n',c'⟩) (e':=.row t1 e0 (xs++ys)) h1 h2 (by simp_all) ⟨_,gJ _,hO⟩;exact hk _ _ (.rowz S.nx) _ w' hr2 rfl ⟨⟨a',n',c'⟩,by rw[h.nx];simp,hv'⟩ hv
    | false =>
     refine pz (jE hel).1 hrow hx e2 hL h4 hy' hsm (fun a' n' c' w' hS hO=>?_);have hpb:=fo hp;have hr2:=h.rep (p:=⟨a',n',c'⟩) (e':=.row t1 e0 (xs++ys)) h1 h2 (by simp_all) ⟨_,gJ _,hO⟩;exact hk _ _ (.row S.nx) _ w' hr2 rfl ⟨⟨a',n',c'⟩,by rw[h.nx];simp,rfl⟩ hv
   grind
  grind
 grind
theorem Zj(h:Rel B F w0 wr pl S l ls w){t u e:TypeId}{n i:Nat}{p:Place}{x y:Operand}{b:List UInt8}(hel:fq P t=some (e,n))(hu:isStr P u=true){z0:Bool}(hv:Nr P S e z0 i b K=some r)(hp:pl[i]? = some p)(hx:if z0=true then RowV p (ev l x) else ev l x = .slice p.a p.n p.c)
  (hy:ev l y = .string ⟨⟨b⟩⟩) (hk:Hand B F w0 wr S.nt l ls d K r KK):OW P ⟨d,.call ⟨.builtin .append,#[x,y],#[t,u]⟩,ty,pos,af,gd⟩ l w KK Q:=by
 unfold Nr at hv;split at hv
 ·rename_i t0 e0 xs j hg hi
  split at hv
  ·rename_i hc
   split at hv
   ·rename_i hz
    obtain⟨rfl,rfl,hsz,hby⟩:=hc;have hcb:TN (t:=.int .u8) rfl xs=xs:=rfl;rw[hcb]at hv;obtain⟨hsm,hv⟩:=bS hv;obtain⟨pre,post,h1,h2⟩:=qF hg;obtain⟨p',h3,h4⟩:=h.ent _ (get_mem hg);rw[hp]at h3;cases h3;have e1:lx pl S.own=lx pl pre++blk p.a::lx pl post:=by grind[iq,fo]
    have hL:=h.hL;rw[e1]at hL h4
    cases z0 with
    | true =>
     refine Rj (jE hel).1 (gu hu) hi hz hsz hby hx hy hL h4 hsm (fun v a' n' c' w' hv' hS hO=>?_);have hpb:=fo hp;have hr2:=h.rep (p:=⟨a',n',c'⟩) (e':=.row (.int .u8) e0 (xs++b.map fun b=>(b.toNat:Int))) h1 h2 (by simp_all) ⟨_,gJ _,hO⟩;exact hk _ _ (.rowz S.nx) _ w' hr2 rfl ⟨⟨a',n',c'⟩,by rw[h.nx];simp,hv'⟩ hv
    | false =>
     refine uw (jE hel).1 (gu hu) hi hz hsz hby hx hy hL h4 hsm (fun a' n' c' w' hS hO=>?_);have hpb:=fo hp;have hr2:=h.rep (p:=⟨a',n',c'⟩) (e':=.row (.int .u8) e0 (xs++b.map fun b=>(b.toNat:Int))) h1 h2 (by simp_all) ⟨_,gJ _,hO⟩;exact hk _ _ (.row S.nx) _ w' hr2 rfl ⟨⟨a',n',c'⟩,by rw[h.nx];simp,rfl⟩ hv
   grind
  grind
 grind
theorem Rel.nilRow(h:Rel B F w0 wr pl S l ls w)(t0:Ty)(e:TypeId):Rel B F w0 wr (pl++[⟨none,0,0⟩]) { S with own:=(S.nx,.row t0 e [])::S.own,nx:=S.nx+1 } l ls w ∧
  Ext pl (lx pl S.own++F) w (pl++[⟨none,0,0⟩]) (lx (pl++[⟨none,0,0⟩]) ((S.nx,Ent.row t0 e [])::S.own)++F) w:=by
 have hS:Stp B (lx pl S.own) (blk (none:Option Addr)::lx pl S.own) F [] w w:=Stp.none h.hL rfl;have e1:lx (pl++[⟨none,0,0⟩]) ((S.nx,Ent.row t0 e [])::S.own)=blk none::lx pl S.own:=by have:=Dm (gZ ⟨none,0,0⟩) h.ent;unfold lx at this ⊢;rw[List.map_cons,this,h.nx,vB]
 refine⟨h.push ⟨none,0,0⟩ (.row t0 e []) hS ⟨_,gJ _,Ow.nil _ _ _ _⟩,?_⟩;grind[Ext.of_stp,gZ]
theorem Ae{K':St->Bool->Nat->Option R}(h:Rel B F w0 wr pl S l ls w){e:TypeId}{x:Operand}{s1:SV}(hv:Dr P S e s1 K'=some r)(hx:Den pl (lx pl S.own++F) w s1 (ev l x)) :
  ∃pl' S1 z i p,Rel B F w0 wr pl' S1 l ls w∧S1.nt=S.nt∧pl'[i]? = some p∧(if z=true then RowV p (ev l x) else ev l x = .slice p.a p.n p.c)∧K' S1 z i=some r∧∀s u,Den pl (lx pl S.own++F) w s u->Den pl' (lx pl' S1.own++F) w s u:=by
 unfold Dr at hv;split at hv
 ·obtain⟨p,h1,h2⟩:=hx
  grind
 ·obtain⟨p,h1,h2⟩:=hx
  grind
 ·split at hv
  ·rename_i t0 z hr
   obtain⟨h1,h2⟩:=h.nilRow t0 e;have hx:ev l x = .slice none 0 0:=hx;exact⟨_,_,false,S.nx,⟨none,0,0⟩,h1,rfl,by rw[h.nx];simp,hx,hv,fun _ _ hd=>hd.ext h2⟩
  grind
 grind
theorem TU(h:Rel B F w0 wr pl S l ls w){t:TypeId}{x y:Operand}{s1 s2:SV}(hv:Ie P S t s1 s2 K=some r)(hx:Den pl (lx pl S.own++F) w s1 (ev l x))
  (hy:Den pl (lx pl S.own++F) w s2 (ev l y)) (hk:Hand B F w0 wr S.nt l ls d K r KK):OW P ⟨d,.call ⟨.builtin .append,#[x,y],#[t,t]⟩,ty,pos,af,gd⟩ l w KK Q:=by
 grind[Ie,Ae,Zi]
theorem ahe(h:Rel B F w0 wr pl S l ls w){t u e:TypeId}{n i:Nat}{k kn:IntKind}{p:Place}{x y:Operand}{m:Int}(hel:fq P t=some (e,n))(hu:P.underlying u=some (.int kn)){z0:Bool}(hv:aa1 P S e z0 i m K=some r)(hp:pl[i]? = some p)(hx:if z0=true then RowV p (ev l x) else ev l x = .slice p.a p.n p.c)
  (hy:ev l y = .int k m) (hk:Hand B F w0 wr S.nt l ls d K r KK):OW P ⟨d,.call ⟨.builtin .append,#[x,y],#[t,u]⟩,ty,pos,af,gd⟩ l w KK Q:=by
 unfold aa1 at hv;split at hv
 ·rename_i t0 e0 xs t1 z hg hr
  split at hv
  ·rename_i he
   obtain⟨rfl,rfl,rfl⟩:=he;obtain⟨hm,hv⟩:=bS hv;obtain⟨hsm,hv⟩:=bS hv;obtain⟨pre,post,h1,h2⟩:=qF hg;obtain⟨p',h3,h4⟩:=h.ent _ (get_mem hg);rw[hp]at h3;cases h3;have e1:lx pl S.own=lx pl pre++blk p.a::lx pl post:=by grind[iq,fo]
   have hL:=h.hL;rw[e1]at hL h4;have hrow:=gy hr;refine TM (jE hel).1 hu hrow hx hy (by simp_all[ge]) hL h4 hsm (fun a' n' c' w' hS hO=>?_);have hpb:=fo hp;have hr2:=h.rep (p:=⟨a',n',c'⟩) (e':=.row t1 e0 (xs++zC m.toNat z)) h1 h2 (by simp_all) ⟨_,gJ _,hO⟩;exact hk _ _ (.row S.nx) _ w' hr2 rfl ⟨⟨a',n',c'⟩,by rw[h.nx];simp,rfl⟩ hv
  grind
 grind
theorem Rk(h:Rel B F w0 wr pl S l ls w){t u:TypeId}{x y:Operand}{s1 s2:SV}(hv:EL P S t u s1 s2 K=some r)(hx:Den pl (lx pl S.own++F) w s1 (ev l x))
  (hy:Den pl (lx pl S.own++F) w s2 (ev l y)) (hk:Hand B F w0 wr S.nt l ls d K r KK):OW P ⟨d,.call ⟨.builtin .append,#[x,y],#[t,u]⟩,ty,pos,af,gd⟩ l w KK Q:=by
 unfold EL at hv;split at hv
 ·grind[Ae,Zj,jq]
 ·rename_i e n k m hel
  split at hv
  ·rename_i kn hu
   obtain⟨pl',S1,z,i,p,h1,h2,h3,h4,h5,h6⟩:=Ae h hv hx;exact ahe h1 hel (Zh hu) h5 h3 h4 (je hy) (by simp_all)
  grind
 grind
theorem aa3{t e:TypeId}{sz:Nat}{x:Operand}{lo hi mx:Option Operand}{a:Option Addr}{n c:Nat}(ht:P.underlying t=some (.slice e))(hs:eG P e=some sz)(hx:ev l x = .slice a n c)
  (hlo:iX l lo 0 0) (hhi:iX l hi 0 1) (hmx:iX l mx 0 1) (hc:n≤c):(execOp (ev l) ⟨d,.slice t x lo hi mx,ty,pos,af,gd⟩).run P w = .ok (.value (.slice a 0 0)) w:=by
 rcases hhi with ⟨rfl,e1⟩ | ⟨oh,kh,rfl,e1⟩
 ·cases e1
 rcases hmx with ⟨rfl,e2⟩ | ⟨om,km,rfl,e2⟩
 ·cases e2
 have hb:(Instr.sliceBounds true n c (lo.map (ev l)) (some (ev l oh)) (some (ev l om))).run P w = .ok (0,0,0) w:=by
  unfold Instr.sliceBounds;rcases hlo with ⟨rfl,_⟩ | ⟨ol,kl,rfl,e3⟩
  ·simp_all[Instr.sliceBound,asIntOf]
  simp_all[Instr.sliceBound,asIntOf]
 have hsl:(Instr.sliceAt t (ev l x) (lo.map (ev l)) (some (ev l oh)) (some (ev l om))).run P w = .ok (.slice a 0 0) w:=by unfold Instr.sliceAt;simp only[Sem.run_bind,run_underlying ht,zJ];unfold Instr.slice;simp only[Sem.run_bind,run_underlying ht,zJ,hx,hb,run_sizeOf hs,Sem.run_pure];simp
 simp_all[execOp,Sem.run_bind,Option.map_some,zJ,Sem.run_pure]
theorem aa4{s:SV}{u:Value}(h:TP S.own s=true)(he:EntsD pl L w S.own)(hd:Den pl L w s u):∃a n c,u = .slice a n c∧n≤c:=by
 unfold TP at h;split at h
 ·obtain⟨a,c,hsh,hc,_⟩:=jI hd
  grind
 ·split at h
  ·rename_i t e xs hg
   obtain⟨p,h1,h2⟩:=hd;obtain⟨p',h3,h4⟩:=he.get hg;rw[h1]at h3;cases h3;exact⟨_,_,_,h2,by rw[h4.len];exact h4.2.cap_le⟩
  grind
 ·split at h
  ·rename_i t e xs hg
   obtain⟨p,h1,h2⟩:=hd;obtain⟨p',h3,h4⟩:=he.get hg;rw[h1]at h3;cases h3;rcases h2 with h2 | ⟨_,_,_,a,h2⟩
   ·exact⟨_,_,_,h2,by rw[h4.len];exact h4.2.cap_le⟩
   grind
  grind
 ·obtain⟨p,a,c,_,_,_,_,h2,h3,_⟩:=hd
  grind
 ·exact⟨_,_,_,hd,Nat.le_refl _⟩
 grind
theorem Nt(h:Rel B F w0 wr pl S l ls w){t:TypeId}{x:Operand}{s:SV}{lo hi mx:Option Operand}(hv:My P S t s lo hi mx K=some r)(hx:Den pl (lx pl S.own++F) w s (ev l x))(hk:Hand B F w0 wr S.nt l ls d K r KK) :
  OW P ⟨d,.slice t x lo hi mx,ty,pos,af,gd⟩ l w KK Q:=by
 unfold My at hv;split at hv
 ·rename_i e n hel
  split at hv
  ·rename_i i j m t0 z hlo hhi hmx hr
   split at hv
   ·rename_i hc
    obtain⟨hs,hi0,hj0,hm0⟩:=hc;have hi0:i=0:=by simp_all[eqi]
    have hj0:j=0:=by simp_all[eqi]
    have hm0:m=0:=by simp_all[eqi]
    subst hi0 hj0 hm0;obtain⟨a,n',c,hu,hnc⟩:=aa4 hs h.ent hx;have hrun:=aa3 (P:=P) (w:=w) (d:=d) (ty:=ty) (pos:=pos) (af:=af) (gd:=gd) (jE hel).1 (jE hel).2 hu (jJ h.fr hlo) (jJ h.fr hhi) (jJ h.fr hmx) hnc;obtain⟨h1,h2⟩:=h.nilRow t0 e;exact iG hrun (hk _ _ (.rowz S.nx) _ w h1 rfl ⟨⟨none,0,0⟩,by rw[h.nx];simp,.inr ⟨rfl,rfl,rfl,a,rfl⟩⟩ hv)
   grind
  grind
 grind
def aa5(P:Program)(S:St)(t:TypeId)(s:SV)(lo hi:Option Operand)(mx:Operand)(K:St->SV->Option R):Option R :=
 match s with
 | .d (.sl t0) xs=>if BN hi=true then match fq P t,dZ S lo 0,dZ S hi 0,dZ S (some mx) 0 with
   | some (_,n),some i,some j,some m=>if t0.size=n then (cut xs i j).bind fun y=>need (le j m) (need (le m (Int.ofNat xs.length)) (K S (.d (.sl t0) y))) else none
   | _,_,_,_=>none
  else My P S t s lo hi (some mx) K
 | s=>My P S t s lo hi (some mx) K
theorem ahf(h:Rel B F w0 wr pl S l ls w){t:TypeId}{x:Operand}{s:SV}{lo hi:Option Operand}{mx:Operand}(hv:aa5 P S t s lo hi mx K=some r)(hx:Den pl (lx pl S.own++F) w s (Sx.ev l x))(hk:Hand B F w0 wr S.nt l ls d K r KK) :
  OW P ⟨d,.slice t x lo hi (some mx),ty,pos,af,gd⟩ l w KK Q:=by
 unfold aa5 at hv;split at hv
 ·rename_i t0 xs
  split at hv
  ·rename_i hz
   split at hv
   ·rename_i e n i j m hel hlo hhi hmx
    split at hv
    ·rename_i hsz
     obtain⟨y,hy,hv⟩:=bK hv;obtain⟨hjm,hv⟩:=bS hv;obtain⟨hm,hv⟩:=bS hv;have hjm:j≤m:=by simp_all[le]
     have hm:m≤xs.length:=by simp_all[le]
     obtain⟨h1,h2⟩:=jE hel;have hr:=jI hx;obtain⟨a,c,hsh,hr2⟩:=hr;simp at hsh;have hr:=jI hx;rw[hsh]at hr
     have hh:∃o k,hi=some o∧Sx.ev l o = .int k j:=by
      rcases jJ h.fr hhi with ⟨e1,_⟩ | e1
      ·simp_all[BN]
      omega
     have hmm:∃k,Sx.ev l mx = .int k m:=by
      rcases jJ h.fr hmx with ⟨e1,_⟩ | ⟨o,k,e1,e2⟩
      ·cases e1
      simp_all
     obtain⟨a',c',h3,h4⟩:=Bt (d:=d) (ty:=ty) (pos:=pos) (af:=af) (g:=gd) h1 (by simp_all[bV]) hsh hr (jJ h.fr hlo) hh hmm hy hjm hm;exact iG (h4 w) (hk pl S _ _ w h rfl (uq (t:=.sl _) rfl h3) hv)
    grind
   grind
  grind[Nt]
 grind[Nt]
theorem aa6(h:Rel B F w0 wr pl S l ls w){t:TypeId}{x y:Operand}{s1 s2:SV}(hv:TT P S t s1 s2 K=some r)(hx:Den pl (lx pl S.own++F) w s1 (ev l x))
  (hy:Den pl (lx pl S.own++F) w s2 (ev l y)) (hk:Hand B F w0 wr S.nt l ls d K r KK):OW P ⟨d,.makeSlice t x y,ty,pos,af,gd⟩ l w KK Q:=by
 unfold TT at hv;split at hv
 ·rename_i e _ k n k' m hel
  split at hv
  ·rename_i t0 z hr
   obtain⟨h0,hv⟩:=bS hv;obtain⟨hnm,hv⟩:=bS hv;obtain⟨hsm,hv⟩:=bS hv;refine MU (jE hel).1 (gy hr) (je hx) (je hy) h.hL (of_decide_eq_true h0) (aa2 hnm) hsm (fun a n' c w' hS hO=>?_);have hr2:=h.push ⟨a,n',c⟩ (.row t0 e (zC n.toNat z)) hS ⟨_,gJ _,hO⟩;exact hk _ _ (.row S.nx) _ w' hr2 rfl ⟨⟨a,n',c⟩,by rw[h.nx];simp,rfl⟩ hv
  grind
 grind
def Af(place:Nat->Option (Nat×Nat))(cells:List SV):List (Nat×List SV)->Option (List SV)
 | []=>some cells
 | (i,v)::rest=>match place i with
  | none=>none
  | some (off,size)=>if v.length=size∧off+v.length≤cells.length then Af place (cells.take off++v++cells.drop (off+v.length)) rest else none
theorem foldl_set:∀(vs cs:List Value) (off k:Nat),off+k+vs.length≤cs.length ->
  (vs.zipIdx k).foldl (fun (a:Array Value) (x:Value×Nat)=>a.setIfInBounds (off+x.2) x.1) cs.toArray=(cs.take (off+k)++vs++cs.drop (off+k+vs.length)).toArray
 | [],cs,off,k,h=>by simp
 | v::vs,cs,off,k,h=>by
  simp only[List.zipIdx_cons,List.foldl_cons];simp only[List.length_cons]at h;rw[List.setIfInBounds_toArray,foldl_set vs (cs.set (off+k) v) off (k+1) (by rw[List.length_set];omega)]
  congr 1
  rw[List.drop_set_of_lt (by omega)];have e1:(cs.set (off+k) v).take (off+(k+1))=cs.take (off+k)++[v]:=by rw[<- Nat.add_assoc,List.take_add_one,List.take_set_of_le (Nat.le_refl _),List.getElem?_set_self (by omega)];rfl
  rw[e1,List.length_cons];have e2:off+(k+1)+vs.length=off+k+(vs.length+1):=by omega
  rw[e2];simp
def Nu(d:List Place)(c:Lx)(e:World):List (Nat×List SV)->List (Nat×Value)->Prop
 | [],vs=>vs=[]
 | a::q,vs=>∃b r,vs=b::r∧a.1=b.1∧DenL d c e a.2 b.2.cells.toList∧(∀v∈b.2.cells.toList,v.oneCell'=true)∧Nu d c e q r
theorem yV{place:Nat->Option (Nat×Nat)}:∀{parts:List (Nat×List SV)} {vals:List (Nat×Value)} {cs cs':List SV} {us:List Value},Af place cs parts=some cs'->DenL pl L w cs us->(∀v∈us,v.oneCell'=true) ->
  Nu pl L w parts vals ->
  ∃us',Instr.fill place us.toArray vals=some us'.toArray∧DenL pl L w cs' us'∧(∀v∈us',v.oneCell'=true)
 | [],_,cs,cs',us,h,hd,h1,hp=>by cases h;cases hp;exact⟨us,rfl,hd,h1⟩
 | (i,v)::rest,_,cs,cs',us,h,hd,h1,⟨(bi,bv),r,hv,ha,hb,hc,hr⟩=>by
  subst hv;simp only at ha hb hc;subst ha;unfold Af at h;split at h
  ·cases h
  ·rename_i off size hp
   split at h
   ·rename_i hcond
    have l1:=hd.len;have l2:=hb.len;have hsz:bv.cells.size=v.length:=by omega
    have hd':=((hd.take off).append hb).append (hd.drop (off+v.length));have h1':∀z∈us.take off++bv.cells.toList++us.drop (off+v.length),z.oneCell'=true:=fun z hz=>by grind
    obtain⟨us',e1,e2,e3⟩:=yV h hd' h1' hr;refine⟨us',?_,e2,e3⟩;unfold Instr.fill;simp only[hp];rw[if_neg (by grind)];rw[<- e1]
    congr 1
    have:=foldl_set bv.cells.toList us off 0 (by omega);simp only[Nat.add_zero]at this;grind[Array.toList_zipIdx]
   grind
end
end Ev
end
noncomputable section
namespace Ev
open Go Go.RowKit Sx
section
variable {R:Type}{B:Nat->Prop}{F:Lx}{w0:Bs}{wr:Wr}{pl pl':List Place}{S S':St}{l l':List Value}{ls:List (List Value)}{w w':World}{L L' M:Lx}{P:Program}{d:Option Tmp}{ty:TypeId}{pos:String}{af:Array Edge}{gd:Option (Nat×Bool)}
 {Q:Exit->Act->World->Prop} {KK:List Value->World->Prop} {K:St->SV->Option R} {r:R}
def Nv(S:St):List (Nat×Operand)->Option (List (Nat×List SV))
 | []=>some []
 | (i,x)::q=>(opv S x).bind fun s=>(BP s).bind fun c=>(Nv S q).map fun r=>(i,c)::r
theorem Dt(hf:FrD pl L w S.fr l):∀{q:List (Nat×Operand)} {c:List (Nat×List SV)},Nv S q=some c->Nu pl L w c (q.map fun p=>(p.1,ev l p.2))
 | [],c,h=>by cases h;rfl
 | (i,x)::q,c,h=>by obtain⟨s,h1,h⟩:=bK h;obtain⟨cs,h2,h⟩:=bK h;obtain⟨r,h3,rfl⟩:=Option.map_eq_some_iff.1 h;obtain⟨h4,h5⟩:=xw (bf hf h1) h2;exact⟨(i,ev l x),q.map fun p=>(p.1,ev l p.2),rfl,rfl,h4,h5,Dt hf h3⟩
def aa7(P:Program):List Field->Option (List (Nat×Nat))
 | []=>some []
 | f::q=>(eG P f.type).bind fun n=>(aa7 P q).map fun r=>(f.offset,n)::r
theorem RG:∀{fs:List Field} {r:List (Nat×Nat)},aa7 P fs=some r->(fs.mapM fun f=>(do pure (f.offset,<- Go.sizeOf f.type):Sem (Nat×Nat))).run P w = .ok r w
 | [],r,h=>by cases h;rfl
 | f::q,r,h=>by obtain⟨n,h1,h⟩:=bK h;obtain⟨r',h2,rfl⟩:=Option.map_eq_some_iff.1 h;rw[List.mapM_cons];simp only[Sem.run_bind,run_sizeOf h1,zJ,Sem.run_pure,RG h2]
def Zk:List SV->Bool
 | []=>false
 | .k (.slice none 0 0)::_=>true
 | _::q=>Zk q
def shut(P:Program)(t:TypeId)(cs:List SV):SV :=
 match tyc P t with
 | some y=>if y.agg && !Zk cs then (match pk y cs with
  | some (x,[])=>.d y x
  | _=>.agg cs) else .agg cs
 | none=>.agg cs
theorem aa8{t:TypeId}{cs:List SV}{us:List Value}(hd:DenL pl L w cs us)(h1:∀v∈us,v.oneCell'=true):Den pl L w (shut P t cs) (.agg us.toArray):=by
 unfold shut;split
 ·rename_i y hy
  split
  ·rename_i ha
   have ha:=(Bool.and_eq_true_iff.1 ha).1;split
   ·rename_i x hpk
    obtain⟨c,v,e,h3,h4⟩:=kE hpk hd;cases h4;rw[List.append_nil]at e;rw[e];exact⟨c,h3,by simp[Rp.val,gI,ha]⟩
   ·exact⟨us,hd,h1,rfl⟩
  ·exact⟨us,hd,h1,rfl⟩
 ·exact⟨us,hd,h1,rfl⟩
def yX(P:Program)(t:TypeId):Option (List Value):=match (P.info? t).bind (·.zero) with
 | some z=>if z.cells.toList.all Value.oneCell'=true then some z.cells.toList else none
 | none=>none
theorem lU{t:TypeId}{us:List Value}(h:yX P t=some us):∃z,(zeroValue t).run P w = .ok z w∧z.cells=us.toArray∧∀v∈us,v.oneCell'=true:=by
 unfold yX at h;split at h
 ·rename_i z hz
  split at h
  ·rename_i h1
   cases h
   cases hi:P.info? t with
   | none=>simp_all
   | some i =>
    simp[hi]at hz;refine⟨z,by simp_all[zeroValue,typeInfo,Sem.run],by simp,List.all_eq_true.1 h1⟩
  grind
 grind
def Nw(P:Program)(S:St)(t:TypeId)(q:List (Nat×Operand))(KV:SV->List Nat->Option R):Option R :=
 match yX P t,Nv S q with
 | some zs,some c=>match P.underlying t with
  | some (.struct fs)=>match aa7 P fs.toList with
   | some ps=>match Af (ps[·]?) (zs.map ofV) c with
    | some cs=>KV (shut P t cs) []
    | none=>none
   | none=>none
  | some (.array _ e)=>match eG P e with
   | some n=>match Af (fun i=>some (i*n,n)) (zs.map ofV) c with
    | some cs=>KV (.agg cs) []
    | none=>none
   | none=>none
  | _=>none
 | _,_=>none
theorem Zl(hf:FrD pl L w S.fr l){t:TypeId}{q:Array (Nat×Operand)}{KV:SV->List Nat->Option R}(h:Nw P S t q.toList KV=some r) :
  ∃s rd,KV s rd=some r∧Yv P pl L w l ⟨d,.build t q,ty,pos,af,gd⟩ s rd:=by
 unfold Nw at h;split at h
 ·rename_i zs c hz hc
  have hp:=Dt hf hc;have hmap:(q.map fun p=>(p.1,ev l p.2)).toList=q.toList.map fun p=>(p.1,ev l p.2):=by simp
  split at h
  ·rename_i fs hu
   split at h
   ·rename_i ps hps
    split at h
    ·rename_i cs hfill
     have hone:∀v∈zs,v.oneCell'=true:=by obtain⟨_,_,_,h3⟩:=lU (w:=w) hz;exact h3
     obtain⟨us,h1,h2,h3⟩:=yV hfill (jX zs) hone hp;refine⟨_,_,h,Yv.of (aa8 h2 h3) (fun w'=>?_)⟩;obtain⟨z,h4,h5,_⟩:=lU (w:=w') hz;have hm:(fs.mapM fun f=>(do pure (f.offset,<- Go.sizeOf f.type):Sem (Nat×Nat))).run P w' = .ok ps.toArray w':=by have:=RG (w:=w') hps;rw[<- Array.toArray_toList (xs:=fs),List.mapM_toArray];show ((fs.toList.mapM fun f=>(do pure (f.offset,<- Go.sizeOf f.type):Sem (Nat×Nat))) >>= (fun r=>(pure r.toArray:Sem (Array (Nat×Nat))))).run P w'=_;rw[Sem.run_bind,this];rfl
     have hb:(Instr.build t (q.map fun p=>(p.1,ev l p.2))).run P w' = .ok (.agg us.toArray) w':=by
      unfold Instr.build;simp only[Sem.run_bind,h4,zJ,run_underlying hu,hm,hmap,h5];have e:(fun x:Nat=>ps.toArray[x]?)=fun x=>ps[x]?:=by funext x;simp
      rw[e,h1];simp
     have e2:(q.map fun (i,x)=>(i,ev l x))=q.map fun p=>(p.1,ev l p.2):=rfl;simp only[execOp,Sem.run_bind,e2,hb,zJ,Sem.run_pure]
    ·cases h
   ·cases h
  ·rename_i m e hu
   split at h
   ·rename_i n hn
    split at h
    ·rename_i cs hfill
     have hone:∀v∈zs,v.oneCell'=true:=by obtain⟨_,_,_,h3⟩:=lU (w:=w) hz;exact h3
     obtain⟨us,h1,h2,h3⟩:=yV hfill (jX zs) hone hp;refine⟨_,_,h,Yv.of (s:=.agg cs) ⟨us,h2,h3,rfl⟩ (fun w'=>?_)⟩;obtain⟨z,h4,h5,_⟩:=lU (w:=w') hz;have hb:(Instr.build t (q.map fun p=>(p.1,ev l p.2))).run P w' = .ok (.agg us.toArray) w':=by unfold Instr.build;simp only[Sem.run_bind,h4,zJ,run_underlying hu,run_sizeOf hn,hmap,h5,h1,Sem.run_pure]
     have e2:(q.map fun (i,x)=>(i,ev l x))=q.map fun p=>(p.1,ev l p.2):=rfl;simp only[execOp,Sem.run_bind,e2,hb,zJ,Sem.run_pure]
    ·cases h
   ·cases h
  ·cases h
 ·cases h
def pkN(t:Ty):Nat->List SV->Option (List (Vl t))
 | 0,[]=>some []
 | 0,_=>none
 | n+1,l=>(pk t l).bind fun p=>(pkN t n p.2).map fun q=>p.1::q
theorem Ih{t:Ty}:∀{n:Nat} {l:List SV} {us:List Value} {xs:List (Vl t)},pkN t n l=some xs->DenL pl L w l us->RowsOf (rp t) L w us xs∧xs.length=n
 | 0,[],us,xs,h,hd=>by cases h;cases hd;exact⟨rfl,rfl⟩
 | 0,_::_,us,xs,h,hd=>by cases h
 | n+1,l,us,xs,h,hd=>by obtain⟨p,h1,h⟩:=bK h;obtain⟨q,h2,rfl⟩:=Option.map_eq_some_iff.1 h;obtain⟨cs,vs,rfl,h3,h4⟩:=kE (x:=p.1) (r:=p.2) h1 hd;obtain⟨h5,h6⟩:=Ih h2 h4;exact⟨⟨cs,vs,rfl,h3,h5⟩,by grind⟩
def nL(a:List Value)(b:Nat):List Value:=((Array.range b).map (a.toArray[·% a.toArray.size]!)).toList
def aa9(P:Program)(S:St)(t:TypeId)(len:Nat)(q:List (Nat×Operand))(K:St->SV->Option R):Option R :=
 match fq P t with
 | some (e,n)=>match iD P e,yX P e,Nv S q with
  | some ⟨t0,_⟩,some zs,some c=>if len*n≤16777216∧len≤1073741824∧t0.size=n∧(nL zs (len*n)).all Value.oneCell'=true then
    match Af (fun i=>some (i*n,n)) ((nL zs (len*n)).map SV.k) c with
    | some cs=>match pkN t0 len cs with
     | some xs=>K { S with own:=(S.nx,.row t0 e xs)::S.own,nx:=S.nx+1 } (.row S.nx)
     | none=>none
    | none=>none
   else none
  | _,_,_=>none
 | none=>none
theorem Ny:∀l:List Value,DenL pl L w (l.map SV.k) l
 | []=>rfl
 | v::r=>⟨v,r,rfl,rfl,Ny r⟩
theorem ahg(h:Rel B F w0 wr pl S l ls w){t:TypeId}{len:Nat}{q:Array (Nat×Operand)}(hv:aa9 P S t len q.toList K=some r)(hk:Hand B F w0 wr S.nt l ls d K r KK):OW P ⟨d,.buildSlice t len q,ty,pos,af,gd⟩ l w KK Q:=by
 unfold aa9 at hv;split at hv
 ·rename_i e n hel
  split at hv
  ·rename_i t0 z zs c hr hz hc
   split at hv
   ·rename_i hcond
    split at hv
    ·rename_i cs hfill
     split at hv
     ·rename_i xs hxs
      obtain⟨he1,he2⟩:=jE hel;have hp:=Dt h.fr hc;obtain⟨us,h1,h2,h3⟩:=yV hfill (Ny _) (List.all_eq_true.1 hcond.2.2.2) hp;obtain⟨h4,h5⟩:=Ih hxs h2;obtain⟨z',h6,h7,_⟩:=lU (w:=w) hz;have hmap:(q.map fun p=>(p.1,ev l p.2)).toList=q.toList.map fun p=>(p.1,ev l p.2):=by simp
      have hrun:(Instr.buildSlice t len (q.map fun p=>(p.1,ev l p.2))).run P w = .ok (.slice (some ⟨w.heap.size,0,none⟩) len len) (w.alloc (.cells us.toArray e)):=by
       unfold Instr.buildSlice;have hle:¬ len*n > 2 ^ 24:=by omega
       by_cases h0:len*n=0
       ·have hus:us=[]:=by have:=h4.len;rw[h5,bV,hcond.2.2.1,h0]at this;exact List.eq_nil_of_length_eq_zero this
        have e0:(nL zs (len*n))=[]:=by rw[h0];simp[nL]
        rw[e0]at h1;simp only[Sem.run_bind,run_underlying he1,zJ,run_sizeOf he2,h0,if_true,hmap,newRow,newObj];simp only[Nat.not_lt_zero,gt_iff_lt,if_false,Sem.run_pure,zJ];have e1:(Array.range 0).map (fun x=>(#[]:Array Value)[x%(#[]:Array Value).size]!)=([]:List Value).toArray:=by simp
        simp only[show Array.range 0 = #[] from rfl,Sem.run_bind,Sem.run_pure,zJ,Array.map_empty,h1,hus];simp[Sem.run]
       ·have e1:(Array.range (len*n)).map (fun x=>zs.toArray[x%zs.toArray.size]!)=(nL zs (len*n)).toArray:=by simp only[nL,Array.toArray_toList]
        simp only[Sem.run_bind,run_underlying he1,zJ,run_sizeOf he2,if_neg h0,h6,h7,hmap,newRow,newObj];rw[if_neg (by omega)];simp only[Sem.run_bind,h6,zJ,Sem.run_pure,h7,e1,h1];simp[Sem.run]
      have hr2:(execOp (ev l) ⟨d,.buildSlice t len q,ty,pos,af,gd⟩).run P w = .ok (.value (.slice (some ⟨w.heap.size,0,none⟩) len len)) (w.alloc (.cells us.toArray e)):=by have e2:(q.map fun (i,x)=>(i,ev l x))=q.map fun p=>(p.1,ev l p.2):=rfl;simp only[execOp,Sem.run_bind,e2,hrun,zJ,Sem.run_pure]
      refine Y2 rfl h.hL hr2 h4 h5 hcond.2.1 (fun a n' c' w' hS hO=>?_);have hr3:=h.push ⟨a,n',c'⟩ (.row t0 e xs) hS ⟨_,gJ _,hO⟩;exact hk _ _ (.row S.nx) _ w' hr3 rfl ⟨⟨a,n',c'⟩,by rw[h.nx];exact gJ _,rfl⟩ hv
     ·cases hv
    ·cases hv
   ·cases hv
  ·cases hv
 ·cases hv
end
end Ev
end
noncomputable section
namespace Ev
open Go Go.RowKit Sx
mutual
def idS:SV->List Nat
 | .row i=>[i]
 | .sub i _ _ _=>[i]
 | .rowz i=>[i]
 | .sd i=>[i]
 | .pb i _=>[i]
 | .prw i _ _ _=>[i]
 | .pra i _ _ _ _ _ _ _=>[i]
 | .mp i=>[i]
 | .opb _ i _=>[i]
 | .agg l=>idL l
 | .tup l=>idL l
 | .fn _ a b=>idL a++idL b
 | .ifc _ v=>idS v
 | .k _=>[]
 | .d _ _=>[]
 | .dx _ _=>[]
 | .pe _ _=>[]
def idL:List SV->List Nat
 | []=>[]
 | s::q=>idS s++idL q
end
mutual
def iY(f:Nat->Nat):SV->SV
 | .row i=>.row (f i)
 | .sub i sz lo n=>.sub (f i) sz lo n
 | .rowz i=>.rowz (f i)
 | .sd i=>.sd (f i)
 | .pb i o=>.pb (f i) o
 | .prw i a b c=>.prw (f i) a b c
 | .pra i a b c m ft k o2=>.pra (f i) a b c m ft k o2
 | .mp i=>.mp (f i)
 | .opb b i o=>.opb b (f i) o
 | .agg l=>.agg (xX f l)
 | .tup l=>.tup (xX f l)
 | .fn g a b=>.fn g (xX f a) (xX f b)
 | .ifc t v=>.ifc t (iY f v)
 | .k v=>.k v
 | .d t x=>.d t x
 | .dx t x=>.dx t x
 | .pe t x=>.pe t x
def xX(f:Nat->Nat):List SV->List SV
 | []=>[]
 | s::q=>iY f s::xX f q
end
section
variable {pl pl':List Place}{L L':Lx}{w w':World}{f:Nat->Nat}
mutual
theorem Ag:∀{s:SV} {u:Value},(∀i∈idS s,pl'[f i]? = pl[i]?)->Den pl L w s u->Den pl' L w (iY f s) u
 | .k v,u,_,h=>by simp only[iY];exact h
 | .d t x,u,_,h=>by simp only[iY];exact h
 | .dx t x,u,_,h=>by simp only[iY];exact h
 | .sd j,u,hf,⟨p,q,h1,h2⟩=>by simp only[iY];exact⟨p,q,by simp_all[idS],h2⟩
 | .rowz j,u,hf,⟨p,h1,h2⟩=>by simp only[iY];exact⟨p,by simp_all[idS],h2⟩
 | .row j,u,hf,⟨p,h1,h2⟩=>by simp only[iY];exact⟨p,by simp_all[idS],h2⟩
 | .sub i sz lo n,u,hf,⟨p,a,c,h1,h2⟩=>by simp only[iY];exact⟨p,a,c,by simp_all[idS],h2⟩
 | .pb i o,u,hf,⟨g,n,c,h1,h2⟩=>by simp only[iY];exact⟨g,n,c,by simp_all[idS],h2⟩
 | .prw i j sz o,u,hf,⟨g,b,n,c,h1,h2⟩=>by simp only[iY];exact⟨g,b,n,c,by simp_all[idS],h2⟩
 | .pra i j sz o m ft k o2,u,hf,⟨g,b,n,c,h1,h2⟩=>by simp only[iY];exact⟨g,b,n,c,by simp_all[idS],h2⟩
 | .pe t x,u,_,h=>by simp only[iY];exact h
 | .opb b i o,u,hf,⟨h,h'⟩=>by simp only[iY];exact⟨fun hb=>by simp_all[idS],h'⟩
 | .mp i,u,hf,⟨g,n,c,h1,h2⟩=>by simp only[iY];exact⟨g,n,c,by simp_all[idS],h2⟩
 | .agg l,u,hf,⟨us,h1,h2⟩=>by simp only[iY];exact⟨us,jY (fun i hi=>hf i (by simp_all[idS])) h1,h2⟩
 | .tup l,u,hf,⟨us,h1,h2⟩=>by simp only[iY];exact⟨us,jY (fun i hi=>hf i (by simp_all[idS])) h1,h2⟩
 | .fn g a b,u,hf,⟨us,vs,h1,h2,h3⟩=>by simp only[iY];exact⟨us,vs,jY (fun i hi=>hf i (by simp_all[idS,List.mem_append])) h1,jY (fun i hi=>hf i (by simp_all[idS,List.mem_append])) h2,h3⟩
 | .ifc t v,u,hf,⟨u',h1,h2⟩=>by simp only[iY];exact⟨u',Ag (fun i hi=>hf i (by simp_all[idS])) h1,h2⟩
theorem jY:∀{s:List SV} {us:List Value},(∀i∈idL s,pl'[f i]? = pl[i]?)->DenL pl L w s us->DenL pl' L w (xX f s) us
 | [],us,_,h=>h
 | s::q,us,hf,⟨v,vs,h1,h2,h3⟩=>⟨v,vs,h1,Ag (fun i hi=>hf i (by simp_all[idL,List.mem_append])) h2,jY (fun i hi=>hf i (by simp_all[idL,List.mem_append])) h3⟩
end
end
def idM{α:Type}:List (Nat×α×SV)->List Nat
 | []=>[]
 | (_,_,s)::q=>idS s++idM q
def idE:Ent->List Nat
 | .row _ _ _=>[]
 | .box _ cs=>idL cs
 | .dm _ _ _=>[]
 | .sm _ _ es=>idM es
 | .it m _ _=>[m]
 | .itd _ _ _ _=>[]
 | .que _ _ _=>[]
 | .rowo _ _ _ _ cs=>idL cs
 | .rowq _ _ _ cs=>idL cs
def aba{α:Type}(f:Nat->Nat):List (Nat×α×SV)->List (Nat×α×SV)
 | []=>[]
 | (a,b,s)::q=>(a,b,iY f s)::aba f q
def Ii(f:Nat->Nat):Ent->Ent
 | .row t e xs=>.row t e xs
 | .box T cs=>.box T (xX f cs)
 | .dm kt vt xs=>.dm kt vt xs
 | .sm kt cl es=>.sm kt cl (aba f es)
 | .it m cl seen=>.it (f m) cl seen
 | .itd kt vt cur rest=>.itd kt vt cur rest
 | .que t e xs=>.que t e xs
 | .rowo t e b xs cs=>.rowo t e b xs (xX f cs)
 | .rowq e us k cs=>.rowq e us k (xX f cs)
theorem Nz{pl pl':List Place}{L:Lx}{w:World}{f:Nat->Nat}{kt:Ty}:∀{vs:List MapEntry} {xs:List (Nat×Vl kt×SV)},(∀i∈idM xs,pl'[f i]? = pl[i]?)->SmD pl L w vs xs->SmD pl' L w vs (aba f xs)
 | [],_,_,h=>by have h:_=_:=h;subst h;rfl
 | _::_,_,hf,⟨b,q,h1,h2,h3,h4,h5⟩=>by subst h1;exact⟨_,_,rfl,h2,h3,Ag (fun i hi=>hf i (by simp_all[idM,List.mem_append])) h4,Nz (fun i hi=>hf i (by simp_all[idM,List.mem_append])) h5⟩
theorem NA{pl pl':List Place}{L:Lx}{w:World}{f:Nat->Nat}{i:Nat}{e:Ent}(hf:∀j∈idE e,pl'[f j]? = pl[j]?)(hi:pl'[f i]? = pl[i]?)(h:EntD pl L w i e):EntD pl' L w (f i) (Ii f e):=by
 cases e with
 | row t e xs=>obtain⟨p,h2,h3⟩:=h;exact⟨p,by simp_all,h3⟩
 | box T cs=>obtain⟨g,n,c,us,h2,h3,h4,h5⟩:=h;exact⟨g,n,c,us,by simp_all,h3,jY hf h4,h5⟩
 | dm kt vt xs=>obtain⟨g,n,c,us,h2,h3⟩:=h;exact⟨g,n,c,us,by simp_all,h3⟩
 | sm kt cl es=>obtain⟨g,n,c,us,h2,h3,h4⟩:=h;exact⟨g,n,c,us,by simp_all,h3,Nz hf h4⟩
 | que t e xs=>obtain⟨p,h2,h3⟩:=h;exact⟨p,by simp_all,h3⟩
 | itd kt vt cur rest=>obtain⟨g,n,c,b,es,cl,seen,vs,cvs,h2,h3⟩:=h;exact⟨g,n,c,b,es,cl,seen,vs,cvs,by simp_all,h3⟩
 | it m cl seen=>obtain⟨g,n,c,g',n',c',h2,h3,h4⟩:=h;exact⟨g,n,c,g',n',c',by simp_all,by simp_all[idE],h4⟩
 | rowo t e b xs cs=>obtain⟨p,ro,us,h2,h3,h4,h5⟩:=h;exact⟨p,ro,us,by simp_all,h3,h4,fun hb=>jY hf (h5 hb)⟩
 | rowq e us k cs=>obtain⟨g,n,c,u,h1,h2,h3,h4,h5,h6⟩:=h;exact⟨g,n,c,u,by simp_all,h2,h3,h4,h5,jY hf h6⟩
def nodup:List Nat->Bool
 | []=>true
 | i::q=>!q.contains i && nodup q
theorem Ah:∀{q:List Nat},nodup q=true->q.Nodup
 | [],_=>.nil
 | i::q,h=>by simp only[nodup,zL,Bool.not_eq_true']at h;exact List.nodup_cons.2 ⟨by simpa using h.1,Ah h.2⟩
section
variable {B:Nat->Prop}{F:Lx}{pl:List Place}{w:World}
theorem LOk.apart2{own:List (Nat×Ent)}(hL:LOk B (lx pl own) F w){i j:Nat}{e e':Ent}(hi:get own i=some e)(hj:get own j=some e')(hne:i≠j){k:Nat}(hk:plb pl i=some k):plb pl j≠some k:=fun hk'=>by
 obtain⟨pre,post,h1,_⟩:=qF hi;have hx:(j,e')∈pre∨(j,e')∈post:=by have:=get_mem hj;grind
 rw[h1]at hL;exact others hL hx k hk' (by grind)
end
end Ev
end
noncomputable section
namespace Ev
open Go Go.RowKit Sx
abbrev DV:=List ((t:Ty)×Vl t)
@[reducible] def As:List Ty->Type
 | []=>Unit
 | a::r=>Vl a×As r
def qG:(b:List Ty)->As b->DV
 | [],_=>[]
 | a::r,x=>⟨a,x.1⟩::qG r x.2
def NB:(b:List Ty)->DV->Option (As b)
 | [],[]=>some ()
 | a::r,⟨t,x⟩::q=>(fK t a x).bind fun c=>(NB r q).map fun d=>(c,d)
 | _,_=>none
theorem Ij:∀{ps:List Ty} {d:DV} {x:As ps},NB ps d=some x->qG ps x=d
 | [],[],x,h=>rfl
 | a::r,⟨t,y⟩::q,x,h=>by obtain⟨z,h1,h⟩:=bK h;obtain⟨v,h2,rfl⟩:=Option.map_eq_some_iff.1 h;obtain⟨e,h1⟩:=oM h1;subst e;subst h1;show ⟨t,y⟩::qG r v=_;rw[Ij h2]
 | [],_::_,x,h=>by cases h
 | _::_,[],x,h=>by cases h
theorem oq(t:Ty)(x:Vl t):fK t t x=some x:=by unfold fK;simp
inductive TS where
 | d (t:Ty)
 | k (v:Value)
 | row (i:Nat)
 | rowz (i:Nat)
 | sub (i sz:Nat)
 | pb (i o:Nat)
 | opb (i:Nat)
 | mp (i:Nat)
 | pe (t:Ty)
 | fn (f:Fn) (a b:List TS)
 | ifc (t:TypeId) (v:TS)
 | agg (l:List TS)
 | agp (q:List (Ty ⊕ Nat))
inductive SG where
 | d (t:Ty)
 | s (x:TS)
inductive TE where
 | row (t:Ty) (e:TypeId)
 | box (T:TypeId) (cs:List TS)
 | dm (kt vt:Ty)
 | sm (kt:Ty) (cl:Nat) (es:List (Nat×Vl kt×TS))
 | que (t:Ty) (e:TypeId)
 | bsg (T:TypeId) (q:List SG)
def fP:List (Ty ⊕ Nat)->DV->Option (List SV×DV)
 | [],r=>some ([],r)
 | .inl t::q,r=>match r with
  | ⟨t',x⟩::r=>(fK t' t x).bind fun y=>(unp t y).bind fun l=>(fP q r).map fun s=>(l++s.1,s.2)
  | []=>none
 | .inr i::q,r=>(fP q r).map fun s=>(.row i::s.1,s.2)
mutual
def fS:TS->DV->Option (SV×DV)
 | .d t,r=>match r with
  | ⟨t',x⟩::r=>(fK t' t x).map fun y=>(.d t y,r)
  | []=>none
 | .k v,r=>some (.k v,r)
 | .row i,r=>some (.row i,r)
 | .rowz i,r=>some (.rowz i,r)
 | .sub i sz,r=>match r with
  | ⟨t',x⟩::⟨t2,y⟩::r=>(fK t' (.int .i64) x).bind fun a=>(fK t2 (.int .i64) y).map fun b=>(.sub i sz a b,r)
  | _=>none
 | .pb i o,r=>some (.pb i o,r)
 | .opb i,r=>match r with
  | ⟨t',x⟩::r=>(fK t' .bool x).map fun y=>(.opb y i 0,r)
  | []=>none
 | .mp i,r=>some (.mp i,r)
 | .pe t,r=>match r with
  | ⟨t',x⟩::r=>(fK t' t x).map fun y=>(.pe t y,r)
  | []=>none
 | .fn f a b,r=>(fL a r).bind fun p=>(fL b p.2).map fun q=>(.fn f p.1 q.1,q.2)
 | .ifc t v,r=>(fS v r).map fun p=>(.ifc t p.1,p.2)
 | .agg l,r=>(fL l r).map fun p=>(.agg p.1,p.2)
 | .agp q,r=>(fP q r).map fun p=>(.agg p.1,p.2)
def fL:List TS->DV->Option (List SV×DV)
 | [],r=>some ([],r)
 | t::q,r=>(fS t r).bind fun p=>(fL q p.2).map fun s=>(p.1::s.1,s.2)
end
def fM{kt:Ty}:List (Nat×Vl kt×TS)->DV->Option (List (Nat×Vl kt×SV)×DV)
 | [],r=>some ([],r)
 | (b,k,t)::q,r=>(fS t r).bind fun p=>(fM q p.2).map fun s=>((b,k,p.1)::s.1,s.2)
def fG:List SG->DV->Option (List SV×DV)
 | [],r=>some ([],r)
 | .d t::q,r=>match r with
  | ⟨t',x⟩::r=>(fK t' t x).bind fun y=>(unp t y).bind fun l=>(fG q r).map fun s=>(l++s.1,s.2)
  | []=>none
 | .s x::q,r=>(fS x r).bind fun p=>(fG q p.2).map fun s=>(p.1::s.1,s.2)
def fE:TE->DV->Option (Ent×DV)
 | .row t e,r=>match r with
  | ⟨t',x⟩::r=>(fK t' (.sl t) x).map fun y=>(.row t e y,r)
  | []=>none
 | .box T cs,r=>(fL cs r).map fun p=>(.box T p.1,p.2)
 | .dm kt vt,r=>match r with
  | ⟨t',x⟩::r=>(fK t' (.sl (.pr kt vt)) x).map fun y=>(.dm kt vt y,r)
  | []=>none
 | .sm kt cl es,r=>(fM es r).map fun p=>(.sm kt cl p.1,p.2)
 | .que t e,r=>match r with
  | ⟨t',x⟩::r=>(fK t' (.sl t) x).map fun y=>(.que t e y,r)
  | []=>none
 | .bsg T q,r=>(fG q r).map fun p=>(.box T p.1,p.2)
def fEs:List (Nat×TE)->DV->Option (List (Nat×Ent)×DV)
 | [],r=>some ([],r)
 | (i,t)::q,r=>(fE t r).bind fun p=>(fEs q p.2).map fun s=>((i,p.1)::s.1,s.2)
def fA(as:List TS)(es:List (Nat×TE))(d:DV):Option (List SV×List (Nat×Ent)) :=
 (fL as d).bind fun p=>(fEs es p.2).bind fun q=>match q.2 with
  | []=>some (p.1,q.1)
  | _::_=>none
structure Mt where
 bd:List (Nat×Option Nat)
 ds:DV
def bnd(m:Mt)(i j:Nat):Option Mt :=
 match get m.bd i with
 | some j'=>if j'=some j then some m else none
 | none=>some { m with bd:=m.bd++[(i,some j)] }
def TV(m:Mt)(i:Nat):Option Mt :=
 match get m.bd i with
 | some _=>none
 | none=>some { m with bd:=m.bd++[(i,none)] }
def jF(m:Mt)(t:Ty)(x:Vl t):Mt:={ m with ds:=m.ds++[⟨t,x⟩] }
def kEq:Value->Value->Bool
 | .slice none 0 0,.slice none 0 0=>true
 | .pointer none,.pointer none=>true
 | .map none,.map none=>true
 | .nilIface,.nilIface=>true
 | .nilFunc,.nilFunc=>true
 | .tuple ⟨[]⟩,.tuple ⟨[]⟩=>true
 | _,_=>false
theorem aiy{u v:Value}(h:kEq u v=true):u=v:=by unfold kEq at h;grind
def mP:List (Ty ⊕ Nat)->List SV->Mt->Option Mt
 | [],[],m=>some m
 | [],_::_,_=>none
 | .inl t::q,cs,m=>(pk t cs).bind fun p=>mP q p.2 (jF m t p.1)
 | .inr i::q,cs,m=>match cs with
  | .row j::r=>(bnd m i j).bind fun m=>mP q r m
  | _=>none
def abb:Value->Bool
 | .pointer none=>true
 | _=>false
def Gr:Value->Bool
 | .slice none 0 0=>true
 | _=>false
mutual
def mS:TS->SV->Mt->Option Mt
 | .d t,s,m=>(toD t s).map fun x=>jF m t x
 | .k v,s,m=>match s with
  | .k u=>if kEq u v=true then some m else none
  | _=>none
 | .row i,s,m=>match s with
  | .row j=>bnd m i j
  | .k v=>if Gr v=true then TV m i else none
  | _=>none
 | .rowz i,s,m=>match s with
  | .row j=>bnd m i j
  | .rowz j=>bnd m i j
  | .k v=>if Gr v=true then TV m i else none
  | _=>none
 | .sub i sz,s,m=>match s with
  | .sub j sz' lo n=>if sz'=sz then bnd (jF (jF m (.int .i64) lo) (.int .i64) n) i j else none
  | _=>none
 | .pb i o,s,m=>match s with
  | .pb j o'=>if o'=o then bnd m i j else none
  | _=>none
 | .opb i,s,m=>match s with
  | .pb j o'=>if o'=0 then bnd (jF m .bool true) i j else none
  | .opb b j o'=>if o'=0 then bnd (jF m .bool b) i j else none
  | .k v=>if abb v=true then some (jF m .bool false) else none
  | _=>none
 | .mp i,s,m=>match s with
  | .mp j=>bnd m i j
  | _=>none
 | .pe t,s,m=>match s with
  | .pe t' x=>(fK t' t x).map fun y=>jF m t y
  | _=>none
 | .fn f a b,s,m=>match s with
  | .fn f' a' b'=>if f'=f then (mL a a' m).bind fun m=>mL b b' m else none
  | _=>none
 | .ifc t v,s,m=>match s with
  | .ifc t' v'=>if t'=t then mS v v' m else none
  | _=>none
 | .agg l,s,m=>match s with
  | .agg l'=>mL l l' m
  | _=>none
 | .agp q,s,m=>match s with
  | .agg l=>mP q l m
  | _=>none
def mL:List TS->List SV->Mt->Option Mt
 | [],[],m=>some m
 | t::q,s::r,m=>(mS t s m).bind fun m=>mL q r m
 | [],_::_,_=>none
 | _::_,[],_=>none
end
def keq:(t:Ty)->Vl t->Vl t->Bool
 | .int _,x,y=>eqi x y
 | .str,x,y=>eqs x y
 | .bool,x,y=>eqb x y
 | .pr a b,x,y=>keq a x.1 y.1 && keq b x.2 y.2
 | _,_,_=>false
theorem Gs:∀{t:Ty} {x y:Vl t},keq t x y=true->x=y
 | .int _,_,_,h=>by simpa [keq,eqi]using h
 | .bool,_,_,h=>by simpa [keq,eqb]using h
 | .str,_,_,h=>by simpa [keq,eqs]using h
 | .pr a b,x,y,h=>by simp only[keq,zL]at h;exact Prod.ext (Gs h.1) (Gs h.2)
 | .sl _,_,_,h=>by cases h
 | .wr _,_,_,h=>by cases h
 | .un,_,_,h=>by cases h
 | .ar _ _,_,_,h=>by cases h
 | .mp _ _,_,_,h=>by cases h
 | .cl _,_,_,h=>by cases h
def mM{kt:Ty}:List (Nat×Vl kt×TS)->List (Nat×Vl kt×SV)->Mt->Option Mt
 | [],[],m=>some m
 | (b,k,t)::q,(b',k',s)::r,m=>if b'=b∧keq kt k' k=true then (mS t s m).bind fun m=>mM q r m else none
 | [],_::_,_=>none
 | _::_,[],_=>none
def mG:List SG->List SV->Mt->Option Mt
 | [],[],m=>some m
 | [],_::_,_=>none
 | .d t::q,cs,m=>(pk t cs).bind fun p=>mG q p.2 (jF m t p.1)
 | .s x::q,cs,m=>match cs with
  | c::r=>(mS x c m).bind fun m=>mG q r m
  | []=>none
def mE:TE->Ent->Mt->Option Mt
 | .row t e,s,m=>match s with
  | .row t' e' xs=>if e'=e then (fK (.sl t') (.sl t) xs).map fun y=>jF m (.sl t) y else none
  | _=>none
 | .box T cs,s,m=>match s with
  | .box T' cs'=>if T'=T then mL cs cs' m else none
  | _=>none
 | .dm kt vt,s,m=>match s with
  | .dm kt' vt' xs=>(fK (.sl (.pr kt' vt')) (.sl (.pr kt vt)) xs).map fun y=>jF m (.sl (.pr kt vt)) y
  | _=>none
 | .sm kt cl es,s,m=>match s with
  | .sm kt' cl' es'=>if h:kt'=kt then (if cl'=cl then mM es (h ▸ es') m else none) else none
  | _=>none
 | .que t e,s,m=>match s with
  | .que t' e' xs=>if e'=e then (fK (.sl t') (.sl t) xs).map fun y=>jF m (.sl t) y else none
  | .row t' e' xs=>if e'=e then (fK (.sl t') (.sl t) xs).map fun y=>jF m (.sl t) y else none
  | _=>none
 | .bsg T q,s,m=>match s with
  | .box T' cs'=>if T'=T then mG q cs' m else none
  | _=>none
def mEs(own:List (Nat×Ent)):List (Nat×TE)->Mt->Option Mt
 | [],m=>some m
 | (i,te)::q,m=>match get m.bd i with
  | some (some j)=>match get own j with
   | some e=>(mE te e m).bind fun m=>mEs own q m
   | none=>none
  | some none=>match te with
   | .row t _=>mEs own q (jF m (.sl t) [])
   | .que t _=>mEs own q (jF m (.sl t) [])
   | _=>none
  | none=>none
@[reducible] def zC0:Type:=List (Nat×Option Nat)
def mA(d:List TS)(c:List (Nat×TE))(h:List SV)(g:List (Nat×Ent))(e:zC0):Option Mt :=
 (mL d h ⟨e,[]⟩).bind fun f=>(mEs g c f).bind fun a=>if nodup ((a.bd.filter fun b=>(c.map (·.1)).contains b.1).filterMap (·.2))=true∧nodup (c.map (·.1))=true∧a.bd.all (fun b=>decide (get a.bd b.1=some b.2))=true then some a else none
section
variable {pl plT:List Place}{L:Lx}{w:World}
def BdOk(pl plT:List Place)(bd:zC0):Prop:=∀x∈bd,match x.2 with
 | some j=>plT[x.1]? = pl[j]?
 | none=>plT[x.1]? = some ⟨none,0,0⟩
def Grows(a b:Mt)(c:DV):Prop:=b.ds=a.ds++c∧∀x∈a.bd,x∈b.bd
theorem Grows.refl(m:Mt):Grows m m []:=⟨by simp,fun _ h=>h⟩
theorem Grows.trans{m m' m'':Mt}{d d':DV}(h:Grows m m' d)(h':Grows m' m'' d'):Grows m m'' (d++d'):=⟨by rw[h'.1,h.1,List.append_assoc],fun x hx=>h'.2 x (h.2 x hx)⟩
theorem Grows.push(m:Mt)(t:Ty)(x:Vl t):Grows m (jF m t x) [⟨t,x⟩]:=⟨rfl,fun _ h=>h⟩
theorem pG{m m':Mt}{i j:Nat}(h:bnd m i j=some m'):Grows m m' []∧(i,some j)∈m'.bd:=by
 unfold bnd at h;split at h
 ·simp_all[Grows.refl,get_mem]
 ·cases h
  exact⟨⟨by simp,fun x hx=>List.mem_append_left _ hx⟩,by simp⟩
theorem RH{m m':Mt}{i:Nat}(h:TV m i=some m'):Grows m m' []∧(i,none)∈m'.bd:=by
 unfold TV at h;split at h
 ·cases h
 ·cases h
  exact⟨⟨by simp,fun x hx=>List.mem_append_left _ hx⟩,by simp⟩
theorem ahh{v:Value}(h:abb v=true):v = .pointer none:=by grind[abb]
theorem K7{v:Value}(h:Gr v=true):v = .slice none 0 0:=by grind[Gr]
def MOk(c:List Place)(a:Lx)(d:World)(g:TS)(f:SV)(e b:Mt):Prop :=
 ∃dn,Grows e b dn∧∀r,∃s',fS g (dn++r)=some (s',r)∧∀plT,BdOk c plT b.bd->∀u,Den c a d f u->Den plT a d s' u
def amB(c:List Place)(a:Lx)(d:World)(g:List TS)(f:List SV)(e b:Mt):Prop :=
 ∃dn,Grows e b dn∧∀r,∃s',fL g (dn++r)=some (s',r)∧∀plT,BdOk c plT b.bd->∀u,DenL c a d f u->DenL plT a d s' u
theorem BdOk.sub{bd bd':List (Nat×Option Nat)}(h:BdOk pl plT bd')(hs:∀x∈bd,x∈bd'):BdOk pl plT bd:=fun x hx=>h x (hs x hx)
theorem BdOk.at{bd:List (Nat×Option Nat)}(h:BdOk pl plT bd){i j:Nat}(hx:(i,some j)∈bd):plT[i]? = pl[j]?:=h _ hx
theorem ou:∀(t:Ty) (x:Vl t),∃l,unp t x=some l
 | .pr a b,x=>by obtain⟨p,h1⟩:=ou a x.1;obtain⟨q,h2⟩:=ou b x.2;exact⟨p++q,by simp[unp,h1,h2]⟩
 | .wr a,x=>ou a x
 | .cl a,x=>ou a x
 | .un,_=>⟨_,rfl⟩
 | .ar n t,x=>by
  have key:∀(n k:Nat),∃l,M4 (fun k=>unp t ((show List (Vl t) from x).getD k (dfl t))) k n=some l:=by
   intro n
   induction n with
   | zero=>exact fun k=>⟨_,rfl⟩
   | succ n ih =>
    intro k;obtain⟨p,h1⟩:=ou t ((show List (Vl t) from x).getD k (dfl t));obtain⟨q,h2⟩:=ih (k+1);exact⟨p++q,by simp only[M4,h1,h2];rfl⟩
  exact key n 0
 | .int _,_ | .bool,_ | .str,_ | .sl _,_ | .mp _ _,_=>⟨_,rfl⟩
theorem TW:∀{t:List (Ty ⊕ Nat)} {s:List SV} {m m':Mt},mP t s m=some m'->∃dn,Grows m m' dn∧∀r,∃s',fP t (dn++r)=some (s',r)∧∀plT,BdOk pl plT m'.bd->∀us,DenL pl L w s us->DenL plT L w s' us
 | [],[],m,m',h=>by unfold mP at h;cases h;exact⟨[],Grows.refl _,fun r=>⟨_,rfl,fun plT _ u hu=>hu⟩⟩
 | [],_::_,_,_,h=>by unfold mP at h;cases h
 | .inl t::q,cs,m,m',h=>by unfold mP at h;obtain⟨⟨x,cs2⟩,h1,h2⟩:=bK h;obtain⟨d2,g2,k2⟩:=TW h2;obtain⟨l,hl⟩:=ou t x;refine⟨[⟨t,x⟩]++d2,(Grows.push m t x).trans g2,fun r=>?_⟩;obtain⟨s2,e2,f2⟩:=k2 r;refine⟨l++s2,by simp[fP,oq,hl,e2],fun plT hb us hu=>?_⟩;obtain⟨c,vs,rfl,h3,h4⟩:=kE h1 hu;exact (lS hl h3).append (f2 plT hb vs h4)
 | .inr i::q,cs,m,m',h=>by
  unfold mP at h;split at h
  ·rename_i j r
   obtain⟨m1,h1,h2⟩:=bK h;obtain⟨g1,hin⟩:=pG h1;obtain⟨d2,g2,k2⟩:=TW h2;refine⟨[]++d2,g1.trans g2,fun r=>?_⟩;obtain⟨s2,e2,f2⟩:=k2 r;exact⟨.row i::s2,by simp[fP,e2],fun plT hb us ⟨u,vs,h3,⟨p,h4,h6⟩,h5⟩=>⟨u,vs,h3,⟨p,by rw[hb.at (g2.2 _ hin)];exact h4,h6⟩,f2 plT hb vs h5⟩⟩
  ·cases h
mutual
theorem MB:∀{t:TS} {s:SV} {m m':Mt},mS t s m=some m'->MOk pl L w t s m m'
 | .d t,s,m,m',h=>by unfold mS at h;obtain⟨x,h1,rfl⟩:=Option.map_eq_some_iff.1 h;refine⟨_,Grows.push m t x,fun r=>⟨.d t x,by simp[fS,oq],fun plT _ u hu=>?_⟩⟩;obtain⟨cs,h2,h3⟩:=jo h1 hu;exact⟨cs,h2,h3⟩
 | .k v,s,m,m',h=>by
  unfold mS at h;split at h
  ·split at h
   ·rename_i hk
    cases h
    have:=aiy hk;subst this;exact⟨[],Grows.refl _,fun r=>⟨_,rfl,fun plT _ u hu=>hu⟩⟩
   ·cases h
  ·cases h
 | .row i,s,m,m',h=>by
  unfold mS at h;split at h
  ·rename_i j
   obtain⟨h1,h2⟩:=pG h;exact⟨[],h1,fun r=>⟨_,rfl,fun plT hb u ⟨p,h3,h4⟩=>⟨p,by rw[hb.at h2];exact h3,h4⟩⟩⟩
  ·rename_i v
   split at h
   ·rename_i hk
    have:=K7 hk;subst this;obtain⟨h1,h2⟩:=RH h;refine⟨[],h1,fun r=>⟨_,rfl,fun plT hb u hu=>?_⟩⟩;have hu:u = .slice none 0 0:=hu;exact⟨⟨none,0,0⟩,hb _ h2,hu⟩
   ·cases h
  ·cases h
 | .rowz i,s,m,m',h=>by
  unfold mS at h;split at h
  ·rename_i j
   obtain⟨h1,h2⟩:=pG h;exact⟨[],h1,fun r=>⟨_,rfl,fun plT hb u ⟨p,h3,h4⟩=>⟨p,by rw[hb.at h2];exact h3,.inl h4⟩⟩⟩
  ·rename_i j
   obtain⟨h1,h2⟩:=pG h;exact⟨[],h1,fun r=>⟨_,rfl,fun plT hb u ⟨p,h3,h4⟩=>⟨p,by rw[hb.at h2];exact h3,h4⟩⟩⟩
  ·rename_i v
   split at h
   ·rename_i hk
    have:=K7 hk;subst this;obtain⟨h1,h2⟩:=RH h;refine⟨[],h1,fun r=>⟨_,rfl,fun plT hb u hu=>?_⟩⟩;have hu:u = .slice none 0 0:=hu;exact⟨⟨none,0,0⟩,hb _ h2,.inl hu⟩
   ·cases h
  ·cases h
 | .sub i sz,s,m,m',h=>by
  unfold mS at h;split at h
  ·split at h
   ·rename_i j sz' lo n e
    subst e;obtain⟨h1,h2⟩:=pG h;refine⟨_,((Grows.push m (.int .i64) lo).trans (Grows.push _ (.int .i64) n)).trans h1,fun r=>⟨.sub i sz' lo n,by simp[fS,oq],fun plT hb u ⟨p,a,c,h3,h4⟩=>⟨p,a,c,by rw[hb.at h2];exact h3,h4⟩⟩⟩
   ·cases h
  ·cases h
 | .pb i o,s,m,m',h=>by
  unfold mS at h;split at h
  ·split at h
   ·rename_i j o' e
    subst e;obtain⟨h1,h2⟩:=pG h;exact⟨[],h1,fun r=>⟨_,rfl,fun plT hb u ⟨g,n,c,h3,h4⟩=>⟨g,n,c,by rw[hb.at h2];exact h3,h4⟩⟩⟩
   ·cases h
  ·cases h
 | .opb i,s,m,m',h=>by
  unfold mS at h;split at h
  ·split at h
   ·rename_i j o' e
    subst e;obtain⟨h1,h2⟩:=pG h;refine⟨_,(Grows.push m .bool true).trans h1,fun r=>⟨.opb true i 0,by simp[fS,oq],fun plT hb u ⟨g,n,c,h3,h4⟩=>⟨fun _=>⟨g,n,c,by rw[hb.at h2];exact h3,h4⟩,(fun e=>nomatch e)⟩⟩⟩
   ·cases h
  ·split at h
   ·rename_i b j o' e
    subst e;obtain⟨h1,h2⟩:=pG h;refine⟨_,(Grows.push m .bool b).trans h1,fun r=>⟨.opb b i 0,by simp[fS,oq],fun plT hb u ⟨h,h'⟩=>⟨fun hb'=>by obtain⟨g,n,c,h3,h4⟩:=h hb';exact⟨g,n,c,by rw[hb.at h2];exact h3,h4⟩,h'⟩⟩⟩
   ·cases h
  ·split at h
   ·rename_i v hk
    cases h
    have:=ahh hk;subst this;exact⟨_,Grows.push m .bool false,fun r=>⟨.opb false i 0,by simp[fS,oq],fun plT hb u hu=>⟨(fun e=>nomatch e),fun _=>hu⟩⟩⟩
   ·cases h
  ·cases h
 | .mp i,s,m,m',h=>by
  unfold mS at h;split at h
  ·rename_i j
   obtain⟨h1,h2⟩:=pG h;exact⟨[],h1,fun r=>⟨_,rfl,fun plT hb u ⟨g,n,c,h3,h4⟩=>⟨g,n,c,by rw[hb.at h2];exact h3,h4⟩⟩⟩
  ·cases h
 | .pe t,s,m,m',h=>by
  unfold mS at h;split at h
  ·rename_i t' x
   obtain⟨y,h1,rfl⟩:=Option.map_eq_some_iff.1 h;obtain⟨e,h1⟩:=oM h1;subst e;subst h1;exact⟨_,Grows.push m _ _,fun r=>⟨.pe _ x,by simp[fS,oq],fun plT _ u hu=>hu⟩⟩
  ·cases h
 | .fn f a b,s,m,m',h=>by
  unfold mS at h;split at h
  ·split at h
   ·rename_i e
    subst e;obtain⟨m1,h1,h2⟩:=bK h;obtain⟨d1,g1,k1⟩:=Du h1;obtain⟨d2,g2,k2⟩:=Du h2;refine⟨d1++d2,g1.trans g2,fun r=>?_⟩;obtain⟨s1,e1,f1⟩:=k1 (d2++r);obtain⟨s2,e2,f2⟩:=k2 r;refine⟨.fn _ s1 s2,by simp[fS,List.append_assoc,e1,e2],fun plT hb u ⟨us,vs,h3,h4,h5⟩=>⟨us,vs,f1 plT (hb.sub g2.2) us h3,f2 plT hb vs h4,h5⟩⟩
   ·cases h
  ·cases h
 | .ifc t v,s,m,m',h=>by
  unfold mS at h;split at h
  ·split at h
   ·rename_i e
    subst e;obtain⟨d1,g1,k1⟩:=MB h;refine⟨d1,g1,fun r=>?_⟩;obtain⟨s1,e1,f1⟩:=k1 r;exact⟨.ifc _ s1,by simp[fS,e1],fun plT hb u ⟨u',h3,h4⟩=>⟨u',f1 plT hb u' h3,h4⟩⟩
   ·cases h
  ·cases h
 | .agg l,s,m,m',h=>by
  unfold mS at h;split at h
  ·obtain⟨d1,g1,k1⟩:=Du h
   refine⟨d1,g1,fun r=>?_⟩;obtain⟨s1,e1,f1⟩:=k1 r;exact⟨.agg s1,by simp[fS,e1],fun plT hb u ⟨us,h3,h4,h5⟩=>⟨us,f1 plT hb us h3,h4,h5⟩⟩
  ·cases h
 | .agp q,s,m,m',h=>by
  unfold mS at h;split at h
  ·obtain⟨d1,g1,k1⟩:=TW (pl:=pl) (L:=L) (w:=w) h
   refine⟨d1,g1,fun r=>?_⟩;obtain⟨s1,e1,f1⟩:=k1 r;exact⟨.agg s1,by simp[fS,e1],fun plT hb u ⟨us,h3,h4,h5⟩=>⟨us,f1 plT hb us h3,h4,h5⟩⟩
  ·cases h
theorem Du:∀{t:List TS} {s:List SV} {m m':Mt},mL t s m=some m'->amB pl L w t s m m'
 | [],[],m,m',h=>by unfold mL at h;cases h;exact⟨[],Grows.refl _,fun r=>⟨_,rfl,fun plT _ u hu=>hu⟩⟩
 | t::q,s::p,m,m',h=>by unfold mL at h;obtain⟨m1,h1,h2⟩:=bK h;obtain⟨d1,g1,k1⟩:=MB h1;obtain⟨d2,g2,k2⟩:=Du h2;refine⟨d1++d2,g1.trans g2,fun r=>?_⟩;obtain⟨s1,e1,f1⟩:=k1 (d2++r);obtain⟨s2,e2,f2⟩:=k2 r;exact⟨s1::s2,by simp[fL,List.append_assoc,e1,e2],fun plT hb u ⟨v,vs,h3,h4,h5⟩=>⟨v,vs,h3,f1 plT (hb.sub g2.2) v h4,f2 plT hb vs h5⟩⟩
 | [],_::_,_,_,h=>by unfold mL at h;cases h
 | _::_,[],_,_,h=>by unfold mL at h;cases h
end
theorem TX:∀{t:List SG} {s:List SV} {m m':Mt},mG t s m=some m'->∃dn,Grows m m' dn∧∀r,∃s',fG t (dn++r)=some (s',r)∧∀plT,BdOk pl plT m'.bd->∀us,DenL pl L w s us->DenL plT L w s' us
 | [],[],m,m',h=>by unfold mG at h;cases h;exact⟨[],Grows.refl _,fun r=>⟨_,rfl,fun plT _ u hu=>hu⟩⟩
 | [],_::_,_,_,h=>by unfold mG at h;cases h
 | .d t::q,cs,m,m',h=>by unfold mG at h;obtain⟨⟨x,cs2⟩,h1,h2⟩:=bK h;obtain⟨d2,g2,k2⟩:=TX h2;obtain⟨l,hl⟩:=ou t x;refine⟨[⟨t,x⟩]++d2,(Grows.push m t x).trans g2,fun r=>?_⟩;obtain⟨s2,e2,f2⟩:=k2 r;refine⟨l++s2,by simp[fG,oq,hl,e2],fun plT hb us hu=>?_⟩;obtain⟨c,vs,rfl,h3,h4⟩:=kE h1 hu;exact (lS hl h3).append (f2 plT hb vs h4)
 | .s x::q,cs,m,m',h=>by
  unfold mG at h;split at h
  ·obtain⟨m1,h1,h2⟩:=bK h
   obtain⟨d1,g1,k1⟩:=MB (pl:=pl) (L:=L) (w:=w) h1;obtain⟨d2,g2,k2⟩:=TX h2;refine⟨d1++d2,g1.trans g2,fun r=>?_⟩;obtain⟨s1,e1,f1⟩:=k1 (d2++r);obtain⟨s2,e2,f2⟩:=k2 r;exact⟨s1::s2,by simp[fG,List.append_assoc,e1,e2],fun plT hb u ⟨v,vs,h3,h4,h5⟩=>⟨v,vs,h3,f1 plT (hb.sub g2.2) v h4,f2 plT hb vs h5⟩⟩
  ·cases h
end
end Ev
end
noncomputable section
namespace Ev
open Go Go.RowKit Sx
section
variable {pl plT:List Place}{L:Lx}{w:World}
theorem agu{kt:Ty}:∀{t:List (Nat×Vl kt×TS)} {s:List (Nat×Vl kt×SV)} {m m':Mt},mM t s m=some m' ->
  ∃dn,Grows m m' dn∧∀r,∃s',fM t (dn++r)=some (s',r)∧∀plT,BdOk pl plT m'.bd->∀us,SmD pl L w us s->SmD plT L w us s'
 | [],[],m,m',h=>by
  unfold mM at h;cases h;refine⟨[],Grows.refl _,fun r=>⟨_,rfl,fun plT _ us hu=>?_⟩⟩
  cases us with
  | nil=>rfl
  | cons a r=>obtain⟨_,_,e,_⟩:=hu;cases e
 | (b,k,t)::q,(b',k',s)::p,m,m',h=>by
  unfold mM at h;split at h
  ·rename_i hc
   obtain⟨rfl,hk⟩:=hc;have hk:=Gs hk;subst hk;obtain⟨m1,h1,h2⟩:=bK h;obtain⟨d1,g1,k1⟩:=MB (pl:=pl) (L:=L) (w:=w) h1;obtain⟨d2,g2,k2⟩:=agu h2;refine⟨d1++d2,g1.trans g2,fun r=>?_⟩;obtain⟨s1,e1,f1⟩:=k1 (d2++r);obtain⟨s2,e2,f2⟩:=k2 r;refine⟨(b',k',s1)::s2,by simp_all[fM,List.append_assoc],fun plT hb us hu=>?_⟩
   cases us with
   | nil=>cases hu
   | cons a us =>
    obtain⟨x,y,e,h3,h4,h5,h6⟩:=hu;cases e;exact⟨_,_,rfl,h3,h4,f1 plT (hb.sub g2.2) _ h5,f2 plT hb us h6⟩
  grind
 | [],_::_,_,_,h=>by simp_all[mM]
 | _::_,[],_,_,h=>by simp_all[mM]
theorem alW{te:TE}{e:Ent}{m m':Mt}(h:mE te e m=some m') :
  ∃dn,Grows m m' dn∧∀r,∃e',fE te (dn++r)=some (e',r)∧∀plT,BdOk pl plT m'.bd->∀i j,plT[i]? = pl[j]?->EntD pl L w j e->EntD plT L w i e':=by
 cases te with
 | row t ei =>
  simp only[mE]at h;split at h
  ·rename_i t' e' xs
   split at h
   ·rename_i he
    subst he;obtain⟨y,h1,rfl⟩:=Option.map_eq_some_iff.1 h;obtain⟨e,h1⟩:=oM h1;cases e;subst h1;refine⟨_,Grows.push m _ _,fun r=>⟨.row t e' xs,by simp[fE,oq],fun plT _ i j hij ⟨p,h2,h3⟩=>⟨p,by simp_all,h3⟩⟩⟩
   grind
  grind
 | box T cs =>
  simp only[mE]at h;split at h
  ·rename_i T' cs'
   split at h
   ·rename_i he
    subst he;obtain⟨d1,g1,k1⟩:=Du (pl:=pl) (L:=L) (w:=w) h;refine⟨d1,g1,fun r=>?_⟩;obtain⟨s1,e1,f1⟩:=k1 r;exact⟨.box T' s1,by simp[fE,e1],fun plT hb i j hij ⟨g,n,c,us,h2,h3,h4,h5⟩=>⟨g,n,c,us,by simp_all,h3,f1 plT hb us h4,h5⟩⟩
   grind
  grind
 | dm kt vt =>
  simp only[mE]at h;split at h
  ·rename_i kt' vt' xs
   obtain⟨y,h1,rfl⟩:=Option.map_eq_some_iff.1 h;obtain⟨e,h1⟩:=oM h1;cases e;subst h1;exact⟨_,Grows.push m _ _,fun r=>⟨.dm kt vt xs,by simp[fE,oq],fun plT _ i j hij ⟨g,n,c,vs,h2,h3⟩=>⟨g,n,c,vs,by simp_all,h3⟩⟩⟩
  grind
 | sm kt cl es =>
  simp only[mE]at h;split at h
  ·rename_i kt' cl' es'
   split at h
   ·rename_i he
    subst he;split at h
    ·rename_i hc
     subst hc;obtain⟨d1,g1,k1⟩:=agu (pl:=pl) (L:=L) (w:=w) h;refine⟨d1,g1,fun r=>?_⟩;obtain⟨s1,e1,f1⟩:=k1 r;exact⟨.sm _ _ s1,by simp[fE,e1],fun plT hb i j hij ⟨g,n,c,vs,h2,h3,h4⟩=>⟨g,n,c,vs,by simp_all,h3,f1 plT hb _ h4⟩⟩
    grind
   grind
  grind
 | que t ei =>
  simp only[mE]at h;split at h
  ·rename_i t' e' xs
   split at h
   ·rename_i he
    subst he;obtain⟨y,h1,rfl⟩:=Option.map_eq_some_iff.1 h;obtain⟨e,h1⟩:=oM h1;cases e;subst h1;refine⟨_,Grows.push m _ _,fun r=>⟨.que t e' xs,by simp[fE,oq],fun plT _ i j hij ⟨p,h2,h3⟩=>⟨p,by simp_all,h3⟩⟩⟩
   grind
  ·rename_i t' e' xs
   split at h
   ·rename_i he
    subst he;obtain⟨y,h1,rfl⟩:=Option.map_eq_some_iff.1 h;obtain⟨e,h1⟩:=oM h1;cases e;subst h1;refine⟨_,Grows.push m _ _,fun r=>⟨.que t e' xs,by simp[fE,oq],fun plT _ i j hij ⟨p,h2,h3⟩=>⟨p,by simp_all,Oq.of_ow h3⟩⟩⟩
   grind
  grind
 | bsg T q =>
  simp only[mE]at h;split at h
  ·rename_i T' cs'
   split at h
   ·rename_i he
    subst he;obtain⟨d1,g1,k1⟩:=TX (pl:=pl) (L:=L) (w:=w) h;refine⟨d1,g1,fun r=>?_⟩;obtain⟨s1,e1,f1⟩:=k1 r;exact⟨.box T' s1,by simp[fE,e1],fun plT hb i j hij ⟨g,n,c,us,h2,h3,h4,h5⟩=>⟨g,n,c,us,by simp_all,h3,f1 plT hb us h4,h5⟩⟩
   grind
  grind
theorem Gu{own:List (Nat×Ent)}(ho:EntsD pl L w own):∀{es:List (Nat×TE)} {m m':Mt},mEs own es m=some m' ->
  ∃dn,Grows m m' dn∧(∀x∈es,∃b,(x.1,b)∈m'.bd∧∀j,b=some j->∃e,get own j=some e) ∧
   ∀r,∃es',fEs es (dn++r)=some (es',r)∧es'.map (·.1)=es.map (·.1)∧∀plT,BdOk pl plT m'.bd->EntsD plT L w es'
 | [],m,m',h=>by unfold mEs at h;cases h;exact⟨[],Grows.refl _,by simp,fun r=>⟨[],rfl,rfl,fun plT _ e he=>by cases he⟩⟩
 | (i,te)::q,m,m',h=>by
  unfold mEs at h;split at h
  ·rename_i j hg
   split at h
   ·rename_i e he
    obtain⟨m1,h1,h2⟩:=bK h;obtain⟨d1,g1,k1⟩:=alW (pl:=pl) (L:=L) (w:=w) h1;obtain⟨d2,g2,n2,k2⟩:=Gu ho h2;have hin:(i,some j)∈m'.bd:=g2.2 _ (g1.2 _ (get_mem hg));refine⟨d1++d2,g1.trans g2,fun x hx=>?_,fun r=>?_⟩
    ·grind
    ·obtain⟨s1,e1,f1⟩:=k1 (d2++r)
     obtain⟨s2,e2,e3,f2⟩:=k2 r;refine⟨(i,s1)::s2,by simp_all[fEs,List.append_assoc],by grind,fun plT hb x hx=>?_⟩;rcases List.mem_cons.1 hx with hx | hx
     ·subst hx
      exact f1 plT (hb.sub g2.2) i j (hb.at hin) (ho _ (get_mem he))
     ·exact f2 plT hb x hx
   grind
  ·rename_i hg
   split at h
   ·rename_i t e0
    obtain⟨d2,g2,n2,k2⟩:=Gu ho h;have hin:(i,none)∈m'.bd:=g2.2 _ (get_mem hg);refine⟨[⟨.sl t,[]⟩]++d2,(Grows.push m _ _).trans g2,fun x hx=>?_,fun r=>?_⟩
    ·grind
    ·obtain⟨s2,e2,e3,f2⟩:=k2 r
     refine⟨(i,.row t e0 [])::s2,by simp[fEs,fE,oq,e2],by grind,fun plT hb x hx=>?_⟩;rcases List.mem_cons.1 hx with hx | hx
     ·subst hx
      exact⟨⟨none,0,0⟩,hb _ hin,Ow.nil _ _ _ _⟩
     ·exact f2 plT hb x hx
   ·rename_i t e0
    obtain⟨d2,g2,n2,k2⟩:=Gu ho h;have hin:(i,none)∈m'.bd:=g2.2 _ (get_mem hg);refine⟨[⟨.sl t,[]⟩]++d2,(Grows.push m _ _).trans g2,fun x hx=>?_,fun r=>?_⟩
    ·grind
    ·obtain⟨s2,e2,e3,f2⟩:=k2 r
     refine⟨(i,.que t e0 [])::s2,by simp[fEs,fE,oq,e2],by grind,fun plT hb x hx=>?_⟩;rcases List.mem_cons.1 hx with hx | hx
     ·subst hx
      exact⟨⟨none,0,0⟩,hb _ hin,Oq.of_ow (Ow.nil _ _ _ _)⟩
     ·exact f2 plT hb x hx
   grind
  grind
structure MAOk(pl:List Place) (L:Lx) (w:World) (as:List TS) (es:List (Nat×TE)) (ss:List SV) (own:List (Nat×Ent)) (bd:zC0) (m:Mt) (ss':List SV) (own':List (Nat×Ent)):Prop where
 old:∀x∈bd,x∈m.bd
 nos:own'.map (·.1)=es.map (·.1)
 has:∀x∈es,∃b,(x.1,b)∈m.bd∧∀j,b=some j->∃e,get own j=some e
 inj:((m.bd.filter fun x=>(es.map (·.1)).contains x.1).filterMap (·.2)).Nodup
 ids:(es.map (·.1)).Nodup
 fn:∀x∈m.bd,get m.bd x.1=some x.2
 den:∀plT,BdOk pl plT m.bd->(∀us,DenL pl L w ss us->DenL plT L w ss' us)∧EntsD plT L w own'
theorem agv{as:List TS}{es:List (Nat×TE)}{ss:List SV}{own:List (Nat×Ent)}{bd:List (Nat×Option Nat)}{m:Mt}(ho:EntsD pl L w own)(h:mA as es ss own bd=some m) :
  ∃ss' own',fA as es m.ds=some (ss',own')∧MAOk pl L w as es ss own bd m ss' own':=by
 unfold mA at h;obtain⟨m1,h1,h⟩:=bK h;obtain⟨m2,h2,h⟩:=bK h;split at h
 ·rename_i hc
  cases h
  obtain⟨d1,g1,k1⟩:=Du (pl:=pl) (L:=L) (w:=w) h1;obtain⟨d2,g2,n2,k2⟩:=Gu ho h2;obtain⟨s1,e1,f1⟩:=k1 (d2++[]);obtain⟨s2,e2,e3,f2⟩:=k2 [];have hds:m.ds=d1++(d2++[]):=by rw[g2.1,g1.1];simp
  refine⟨s1,s2,?_,⟨fun x hx=>g2.2 x (g1.2 x hx),e3,n2,Ah hc.1,Ah hc.2.1,fun x hx=>by grind,fun plT hb=>⟨fun us hu=>f1 plT (hb.sub g2.2) us hu,f2 plT hb⟩⟩⟩;simp_all[fA,Option.bind_some]
 grind
theorem Zm{α β:Type}{f:α->Option β}:∀{l:List α},(l.filterMap f).Nodup->∀x∈l,∀y∈l,∀b,f x=some b->f y=some b->x=y
 | a::l,hn,x,hx,y,hy,b,h1,h2=>by
  rw[List.filterMap_cons]at hn;have key:∀z∈l,f z=some b->f a≠some b:=fun z hz hzb ha=>by rw[ha]at hn;simp only at hn;exact (List.nodup_cons.1 hn).1 (List.mem_filterMap.2 ⟨z,hz,hzb⟩)
  have hn':(l.filterMap f).Nodup:=by
   split at hn
   ·exact hn
   ·exact (List.nodup_cons.1 hn).2
  rcases List.mem_cons.1 hx with hx' | hx'<;>rcases List.mem_cons.1 hy with hy' | hy'
  ·rw[hx',hy']
  ·rw[hx']at h1;exact absurd h1 (key y hy' h2)
  ·rw[hy']at h2;exact absurd h2 (key x hx' h1)
  ·exact Zm hn' x hx' y hy' b h1 h2
theorem MAOk.pair{B:Nat->Prop}{F:Lx}{as:List TS}{es:List (Nat×TE)}{ss ss':List SV}{own own':List (Nat×Ent)}{bd:List (Nat×Option Nat)}{m:Mt}(h:MAOk pl L w as es ss own bd m ss' own')(hL:LOk B (lx pl own) F w)(hb:BdOk pl plT m.bd) :
  (lx plT own').Pairwise (fun x y=>∀k,x=some k->y≠some k)∧∀k,some k∈lx plT own'->∃x∈own',∃j,(x.1,some j)∈m.bd∧plb pl j=some k∧plb plT x.1=some k∧some k∈lx pl own:=by
 have hin:∀x∈own',∀k,plb plT x.1=some k->∃j,(x.1,some j)∈m.bd∧plb pl j=some k∧(∃e,get own j=some e)∧x.1∈es.map (·.1):=fun x hx k hk=>by
  have hx1:x.1∈es.map (·.1):=by rw[<- h.nos];grind
  obtain⟨y,hy,hxy⟩:=List.mem_map.1 hx1;obtain⟨b,h1,h2⟩:=h.has y hy;rw[hxy]at h1
  cases b with
  | none =>
   have:=hb _ h1;simp only at this;unfold plb at hk;rw[this]at hk;cases hk
  | some j =>
   refine⟨j,h1,?_,h2 j rfl,hx1⟩;unfold plb at hk ⊢;rw[<- hb.at h1];exact hk
 refine⟨?_,fun k hk=>?_⟩
 ·unfold lx
  rw[List.pairwise_map,List.pairwise_iff_getElem];intro i j hi hj hij k hk hk';obtain⟨a,a1,a2,⟨e,a3⟩,a4⟩:=hin _ (List.getElem_mem hi) k hk;obtain⟨b,b1,b2,⟨e',b3⟩,b4⟩:=hin _ (List.getElem_mem hj) k hk';by_cases hab:a=b
  ·subst hab
   have he:=Zm h.inj _ (List.mem_filter.2 ⟨a1,List.contains_iff_mem.2 a4⟩) _ (List.mem_filter.2 ⟨b1,List.contains_iff_mem.2 b4⟩) a rfl rfl;have hids:=h.ids;rw[<- h.nos,List.nodup_iff_pairwise_ne,List.pairwise_map,List.pairwise_iff_getElem]at hids;simp_all
  grind[LOk.apart2]
 ·obtain⟨x,hx,hk'⟩:=List.mem_map.1 hk
  obtain⟨a,a1,a2,⟨e,a3⟩,_⟩:=hin x hx k hk';exact⟨x,hx,a,a1,a2,hk',by rw[<- a2];exact List.mem_map_of_mem (f:=fun e:Nat×Ent=>plb pl e.1) (get_mem a3)⟩
end
end Ev
end
noncomputable section
namespace Ev
open Go Go.RowKit Sx
structure Sh where
 as:List TS
 es:List TE
 ps:List Ty
 ro:List TS
 eo:List (Nat×TE)
 nn:Nat
 rs:List Ty
@[reducible] def shD(p r:List Ty):Sh:=⟨p.map .d,[],p,r.map .d,[],0,r⟩
def en:Nat->List TE->List (Nat×TE)
 | _,[]=>[]
 | n,t::r=>(n,t)::en (n+1) r
structure Ct where
 sh:Sh
 m:As sh.ps->Option (As sh.rs)
def Bo(c:List Place)(b:List (Nat×Ent))(d:World)(a:Nat):Prop:=some a∈lx c b∨d.heap.size≤a
def After(a:Sh)(h:As a.rs)(c:Lx)(e:World)(d:List Place)(f:List (Nat×Ent))(b:World)(g:List Value):Prop :=
 ∃pl' rr own',fA a.ro a.eo (qG a.rs h)=some (rr,own')∧(∀(i:Nat) (p:Place),d[i]? = some p->pl'[i]? = some p)∧pl'.length=a.es.length+a.nn ∧
  Blw (Bo d f e) e b∧LOk (Bo d f e) (lx pl' own') c b∧EntsD pl' (lx pl' own'++c) b own'∧DenL pl' (lx pl' own'++c) b rr g
def pI:List Value->Value
 | [v]=>v
 | l=>.tuple l.toArray
def au(d:Program)(c:World->Prop)(f:FuncId)(a:Ct):Prop:=∀(F:Lx) (w0:World) (pl:List Place) (x:As a.sh.ps) (y:As a.sh.rs) (ss:List SV) (own:List (Nat×Ent)) (vs:List Value),
 a.m x=some y->fA a.sh.as (en 0 a.sh.es) (qG a.sh.ps x)=some (ss,own)->pl.length=a.sh.es.length->(∀b,Blw (Bo pl own w0) w0 b->c b)->LOk (Bo pl own w0) (lx pl own) F w0->EntsD pl (lx pl own++F) w0 own->DenL pl (lx pl own++F) w0 ss vs ->
 Calls d f vs.toArray w0 (fun e b=>∃us,e = .returned (pI us)∧After a.sh y F w0 pl own b us)
def NC:List SV->SV
 | [s]=>s
 | l=>.tup l
def bdj(bd:zC0)(i:Nat):Nat:=match get bd i with
 | some (some j)=>j
 | _=>0
def rho(c:zC0)(b d a:Nat):Nat:=if a<b then bdj c a else d+(a - b)
def Gv(n:Nat):List (Nat×Option Nat)->Bool
 | []=>true
 | (i,b)::q=>b.isSome && decide (i<n) && Gv n q
def Ai:List (Nat×Option Nat)->Nat->Bool
 | [],_=>false
 | (_,some j)::q,i=>if j=i then true else Ai q i
 | (_,none)::q,i=>Ai q i
def rest(a:zC0):List (Nat×Ent)->List (Nat×Ent)
 | []=>[]
 | (i,e)::q=>if Ai a i=true then rest a q else (i,e)::rest a q
def jds:List (Nat×Option Nat)->List Nat
 | []=>[]
 | (_,some j)::q=>j::jds q
 | (_,none)::q=>jds q
def reO(f:Nat->Nat):List (Nat×Ent)->List (Nat×Ent)
 | []=>[]
 | (i,e)::q=>(f i,Ii f e)::reO f q
section
variable {R:Type}{B:Nat->Prop}{F:Lx}{w0:Bs}{wr:Wr}{pl pl':List Place}{S S':St}{l l':List Value}{ls:List (List Value)}{w w':World}{L L' M:Lx}{P:Program}{d:Option Tmp}{ty:TypeId}{pos:String}{af:Array Edge}{gd:Option (Nat×Bool)}
 {Q:Exit->Act->World->Prop} {KK:List Value->World->Prop} {K:St->SV->Option R} {r:R}
theorem ND(q:List Place):∀(i:Nat) (p:Place),pl[i]? = some p->(pl++q)[i]? = some p:=fun i p h=>by grind
theorem NF{ss:List SV}{vs:List Value}(h:DenL pl L w ss vs):Den pl L w (NC ss) (pI vs):=by
 match ss,h with
 | [],h=>cases h;exact⟨[],rfl,rfl⟩
 | [s],⟨v,q,h1,h2,h3⟩=>cases h3;subst h1;exact h2
 | s::t::r,h =>
  have hl:=h.len
  match vs,hl with
  | a::b::q,_=>exact⟨_,h,rfl⟩
theorem Zn:∀(k:Nat) (es:List TE),(en k es).map (·.1)=List.range' k es.length
 | _,[]=>rfl
 | k,t::r=>by simp_all[en,Zn,List.range'_succ]
theorem K9{n:Nat}:∀{bd:List (Nat×Option Nat)},Gv n bd=true->∀x∈bd,(∃j,x.2=some j)∧x.1<n
 | [],_,x,hx=>by cases hx
 | (i,b)::q,h,x,hx=>by
  simp only[Gv,zL,decide_eq_true_eq]at h;rcases List.mem_cons.1 hx with hx | hx
  ·simp_all[Option.isSome_iff_exists]
  ·exact K9 h.2 x hx
theorem Ik:∀{bd:List (Nat×Option Nat)} {j:Nat},Ai bd j=true ↔ ∃i,(i,some j)∈bd
 | [],j=>by simp[Ai]
 | (i,none)::q,j=>by simp_all[Ai,Ik]
 | (i,some k)::q,j=>by
  unfold Ai;split
  ·simp_all
  ·rename_i e
   rw[Ik];grind
theorem vD{bd:List (Nat×Option Nat)}:∀{own:List (Nat×Ent)} {x:Nat×Ent},x∈rest bd own↔x∈own∧Ai bd x.1=false
 | [],x=>by simp[rest]
 | (i,e)::q,x=>by
  unfold rest;split
  ·rename_i h
   rw[vD,List.mem_cons];constructor
   ·rintro⟨a,b⟩;exact⟨.inr a,b⟩
   ·rintro⟨a | a,b⟩
    ·subst a;rw[h]at b;cases b
    ·exact⟨a,b⟩
  ·rename_i h
   rw[List.mem_cons,vD,List.mem_cons];constructor
   ·rintro (a | ⟨a,b⟩)
    ·subst a;exact⟨.inl rfl,by simpa using h⟩
    ·exact⟨.inr a,b⟩
   ·rintro⟨a | a,b⟩
    ·exact .inl a
    ·exact .inr ⟨a,b⟩
theorem Aj{bd:List (Nat×Option Nat)}:∀own:List (Nat×Ent),List.Sublist (rest bd own) own
 | []=>.slnil
 | (i,e)::q=>by
  unfold rest;split
  ·exact .cons _ (Aj q)
  ·exact .cons_cons _ (Aj q)
theorem Il:∀{bd:List (Nat×Option Nat)} {i j:Nat},(i,some j)∈bd->j∈jds bd
 | (_,some _)::q,i,j,h=>by
  rcases List.mem_cons.1 h with h | h
  ·cases h;exact List.mem_cons_self ..
  ·exact zO _ (Il h)
 | (_,none)::q,i,j,h=>by
  rcases List.mem_cons.1 h with h | h
  ·cases h
  ·exact Il (bd:=q) h
theorem RI{f:Nat->Nat}:∀{own:List (Nat×Ent)} {x:Nat×Ent},x∈reO f own->∃y∈own,x=(f y.1,Ii f y.2)
 | (i,e)::q,x,h=>by
  rcases List.mem_cons.1 h with h | h
  ·exact⟨(i,e),List.mem_cons_self ..,h⟩
  ·obtain⟨y,hy,h2⟩:=RI h
   exact⟨y,zO _ hy,h2⟩
theorem Zo{f:Nat->Nat}{q:List Place}(hf:∀i,q[f i]? = pl[i]?):∀own:List (Nat×Ent),lx q (reO f own)=lx pl own
 | []=>rfl
 | (i,e)::r=>by show plb q (f i)::lx q (reO f r)=plb pl i::lx pl r;rw[Zo hf r];unfold plb;rw[hf i]
theorem Zp(pl:List Place)(a b:List (Nat×Ent)):lx pl (a++b)=lx pl a++lx pl b:=by grind[lx]
theorem aiz{own:List (Nat×Ent)}{k:Nat}(h:some k∈lx pl own):∃x∈own,plb pl x.1=some k:=List.mem_map.1 h
theorem aiA{own:List (Nat×Ent)}{x:Nat×Ent}(hx:x∈own){k:Nat}(hk:plb pl x.1=some k):some k∈lx pl own:=by rw[<- hk];exact List.mem_map_of_mem (f:=fun e:Nat×Ent=>plb pl e.1) hx
def NG(a:Ct)(b:St)(c:Mt)(e:St->SV->Option R):Option R :=
 if Gv a.sh.es.length c.bd=true then (NB a.sh.ps c.ds).bind fun f=>(a.m f).bind fun g=>(fA a.sh.ro a.sh.eo (qG a.sh.rs g)).bind fun d =>
  e { b with own:=reO (rho c.bd a.sh.es.length b.nx) d.2++rest c.bd b.own,nx:=b.nx+a.sh.nn,log:=jds c.bd++b.log } (NC (xX (rho c.bd a.sh.es.length b.nx) d.1))
 else none
def Gw(b:Nat->Prop)(a:Lx)(i:Bs)(j:Wr)(g:Nat)(e:List Value)(f:List (List Value))(c:St->SV->Option R)(h:R)(d:Value->World->Prop):Prop :=
 ∀pl' S' s v w',Rel b a i j pl' S' e f w'->S'.nt=g->Den pl' (lx pl' S'.own++a) w' s v->c S' s=some h->d v w'
theorem gV{L L':Lx}(h:∀k,some k∈L'->some k∈L):Sub w L' L:=fun k hk=>.inl (h k hk)
theorem Ext.sub{L L':Lx}(h:∀k,some k∈L'->some k∈L):Ext pl L w pl L' w:=⟨fun _ _ h=>h,by intro α R cs x hr;exact R.grow hr (gV h),by intro α R b o x hr;exact hr.grow (gV h)⟩
theorem EntsD.sub{L L':Lx}(h:∀k,some k∈L'->some k∈L){own:List (Nat×Ent)}(he:EntsD pl L w own):EntsD pl L' w own:=fun e hm=>(he e hm).ext (Ext.sub h) (fun _ _=>rfl) (fun _ _ _ _ _ ho=>ho.grow (gV h))
theorem Im{f:FuncId}{ct:Ct}(hct:au P w0.I f ct)(h:Rel B F w0 wr pl S l ls w){ss:List SV}{vs:List Value}(hd:DenL pl (lx pl S.own++F) w ss vs){mt:Mt}
  (hm:mA ct.sh.as (en 0 ct.sh.es) ss S.own []=some mt) (hv:NG ct S mt K=some r) {KV:Value->World->Prop}
  (hk:Gw B F w0 wr S.nt l ls K r KV):Calls P f vs.toArray w (fun e w'=>∃v,e = .returned v∧KV v w'):=by
 unfold NG at hv;split at hv
 ·rename_i hlent
  have hlent:=K9 hlent;obtain⟨x,hx,hv⟩:=bK hv;obtain⟨y,hy,hv⟩:=bK hv;obtain⟨p,hp,hv⟩:=bK hv;obtain⟨ss',own',hfA,mo⟩:=agv (w:=w) (L:=lx pl S.own++F) (pl:=pl) h.ent hm;rw[<- Ij hx]at hfA;generalize hn:ct.sh.es.length=n at *
  have hids:∀i,i<n->∃j e,(i,some j)∈mt.bd∧get S.own j=some e∧get mt.bd i=some (some j):=fun i hi=>by
   have:i∈(en 0 ct.sh.es).map (·.1):=by simp_all[Zn,List.mem_range']
   obtain⟨z,hz,hz1⟩:=List.mem_map.1 this;obtain⟨b,h1,h2⟩:=mo.has z hz;rw[hz1]at h1;obtain⟨⟨j,hj⟩,_⟩:=hlent _ h1;simp only at hj;subst hj;obtain⟨e,he⟩:=h2 j rfl;exact⟨j,e,h1,he,mo.fn _ h1⟩
  have hbj:∀i j,(i,some j)∈mt.bd->bdj mt.bd i=j:=fun i j hm=>by unfold bdj;rw[mo.fn _ hm]
  have hplace:∀i j,(i,some j)∈mt.bd->∃q e,pl[j]? = some q∧(j,e)∈S.own:=fun i j hm=>by
   obtain⟨_,hi⟩:=hlent _ hm;obtain⟨j',e,h1,h2,_⟩:=hids i hi;have:j'=j:=by grind
   subst this;obtain⟨q,hq⟩:=(h.ent _ (get_mem h2)).place;exact⟨q,e,hq,get_mem h2⟩
  let pin:List Place:=(List.range n).map fun i=>(pl[bdj mt.bd i]?).getD ⟨none,0,0⟩
  have hpin:∀i j,(i,some j)∈mt.bd->pin[i]? = pl[j]?:=fun i j hm=>by grind
  have hb:BdOk pl pin mt.bd:=fun z hz=>by grind
  obtain⟨hd',he'⟩:=mo.den pin hb;obtain⟨hpair,hmem⟩:=mo.pair h.hL hb;have hrest:∀k,some k∈lx pl (rest mt.bd S.own)->some k∈lx pl S.own:=fun k hk=>(yS (Aj _)).subset hk
  have hapart:∀k,some k∈lx pin own'->some k∈lx pl (rest mt.bd S.own)->False:=fun k h1 h2=>by
   obtain⟨z,hz,j,hj,hjk,_⟩:=hmem k h1;obtain⟨u,hu,huk⟩:=aiz h2;obtain⟨hu1,hu2⟩:=vD.1 hu;obtain⟨_,hi⟩:=hlent _ hj;obtain⟨j',e,a1,a2,_⟩:=hids _ hi;have hjj:j'=j:=by grind
   subst hjj;have hne:j'≠u.1:=fun e=>by grind[Ai,Ik]
   obtain⟨pre,post,q1,q2⟩:=qF a2;have hx:u∈pre∨u∈post:=by grind
   have hL:=h.hL;rw[q1]at hL;exact others hL hx k huk (by grind)
  have hsub:∀k,some k∈lx pin own'++(lx pl (rest mt.bd S.own)++F)->some k∈lx pl S.own++F:=fun k hk=>by grind
  have hLin:LOk (Bo pin own' w) (lx pin own') (lx pl (rest mt.bd S.own)++F) w:=by
   refine⟨hpair,fun k hk=>.inl hk,fun k hk=>?_,fun k hk=>.inr hk,fun k hk=>?_⟩
   ·obtain⟨_,_,_,_,_,_,h4⟩:=hmem k hk
    exact h.hL.hi k h4
   ·have hlt:k<w.heap.size:=by
     rcases List.mem_append.1 hk with hk | hk
     ·exact h.hL.hi k (hrest k hk)
     ·exact (h.hL.far k hk).2
    refine⟨fun hB=>?_,hlt⟩;rcases hB with hB | hB
    ·rcases List.mem_append.1 hk with hk | hk
     ·simp_all
     ·obtain⟨_,_,_,_,_,_,h4⟩:=hmem k hB
      exact (h.hL.far k hk).1 (h.hL.lo k h4)
    ·omega
  have hinv:∀w',Blw (Bo pin own' w) w w'->w0.I w':=fun w' hw=>h.hI w' (h.hB.trans ⟨hw.os,hw.tape,hw.output,hw.size,fun k hk hn=>hw.block k hk (fun hb=>hn (by
   rcases hb with hb | hb
   ·obtain⟨_,_,_,_,_,_,h4⟩:=hmem k hb
    exact h.hL.lo k h4
   omega))⟩)
  refine (hct (lx pl (rest mt.bd S.own)++F) w pin x y ss' own' vs hy hfA (by grind) hinv hLin (he'.sub hsub) ((hd' vs hd).ext (Ext.sub hsub))).mono fun e w' he=>?_;obtain⟨us,rfl,pl',rr,own2,hf2,hpl,hlen,hblw,hL2,hE2,hD2⟩:=he;rw[hf2]at hp;cases hp;rw[hn]at hlen;refine⟨_,rfl,?_⟩
  have hrho:∀i,(pl++pl'.drop n)[rho mt.bd n S.nx i]? = pl'[i]?:=fun i=>by
   unfold rho;split
   ·grind
   ·rename_i hi
    rw[List.getElem?_append_right (by rw[h.nx];omega),h.nx,List.getElem?_drop];simp_all
  have hlx1:lx (pl++pl'.drop n) (reO (rho mt.bd n S.nx) own2)=lx pl' own2:=Zo hrho own2;have hlx2:lx (pl++pl'.drop n) (rest mt.bd S.own)=lx pl (rest mt.bd S.own):=by unfold lx;exact List.map_congr_left fun e he=>(h.ent e (vD.1 he).1).plb (ND _)
  have hlx:lx (pl++pl'.drop n) (reO (rho mt.bd n S.nx) own2++rest mt.bd S.own)=lx pl' own2++lx pl (rest mt.bd S.own):=by simp_all[Zp]
  have hM:∀k,some k∈lx pin own'->some k∈lx pl S.own:=fun k hk=>by grind
  have hfz:Fz (lx pin own') w w':=hblw.fz (fun k hk hB=>by
   rcases hB with hB | hB
   ·exact hB
   ·omega)
  have hS:Stp B (lx pl S.own) (lx (pl++pl'.drop n) (reO (rho mt.bd n S.nx) own2++rest mt.bd S.own)) F (lx pin own') w w':=by
   rw[hlx];refine⟨hfz,hM,fun k hk=>?_,?_,fun k hk=>?_,fun k hk=>?_,h.hL.baseS hfz.size,h.hL.farS hfz.size⟩
   ·rw[List.append_assoc]at hk
    rcases List.mem_append.1 hk with hk | hk
    ·rcases hL2.lo k hk with hB | hB
     ·simp_all
     omega
    simp_all
   ·rw[List.pairwise_append]
    refine⟨hL2.pair,h.hL.pair.sublist (yS (Aj _)),fun a ha b hb k e e'=>?_⟩;subst e e';exact (hL2.far k (List.mem_append_left _ hb)).1 (hL2.lo k ha)
   ·rcases List.mem_append.1 hk with hk | hk
    ·rcases hL2.lo k hk with hB | hB
     ·exact h.hL.lo k (hM k hB)
     ·exact h.hL.base k hB
    ·exact h.hL.lo k (hrest k hk)
   ·rcases List.mem_append.1 hk with hk | hk
    ·exact hL2.hi k hk
    ·exact Nat.lt_of_lt_of_le (h.hL.hi k (hrest k hk)) hfz.size
  have hLsub:∀k,some k∈lx (pl++pl'.drop n) (reO (rho mt.bd n S.nx) own2++rest mt.bd S.own)++F->some k∈lx pl' own2++(lx pl (rest mt.bd S.own)++F):=fun k hk=>by simp_all
  have hrel:=h.go (M:=lx pin own') (pl':=pl++pl'.drop n) (S':={ S with own:=reO (rho mt.bd n S.nx) own2++rest mt.bd S.own,nx:=S.nx+ct.sh.nn,log:=jds mt.bd++S.log }) hS (ND _)
   (by simp[h.nx,hlen]) (Nat.le_add_right _ _) rfl rfl rfl (fun i hi=>List.mem_append_right _ hi) (fun e he=>by
    have he:e∈reO (rho mt.bd n S.nx) own2++rest mt.bd S.own:=he;rcases List.mem_append.1 he with he | he
    ·obtain⟨z,hz,rfl⟩:=RI he
     refine .inr ⟨?_,?_⟩
     ·show S.nx≤rho mt.bd n S.nx z.1∨(rho mt.bd n S.nx z.1∈jds mt.bd++S.log∧∃q∈S.own,q.1=rho mt.bd n S.nx z.1)
      unfold rho;split
      ·rename_i hi
       obtain⟨j,e,a1,a2,a3⟩:=hids _ hi;rw[hbj _ j a1];exact .inr ⟨List.mem_append_left _ (Il a1),_,get_mem a2,rfl⟩
      omega
     ·have:=(hE2 z hz).ext (Ext.sub hLsub) (fun _ _=>rfl) (fun _ _ _ _ _ ho=>ho.grow (gV hLsub))
      grind[NA]
    grind[vD,aiA])
  exact hk _ _ _ _ w' hrel rfl (NF (jY (fun j _=>hrho j) (hD2.ext (Ext.sub hLsub)))) hv
 grind
end
end Ev
end
noncomputable section
namespace Ev
open Go Go.RowKit Sx
structure Cl(R:Type) where
 run:FuncId->List SV->St->(St->SV->Option R)->Option R
 eq:R->R->Bool
def Ak{R:Type}(e:Program)(d:World->Prop)(c:Cl R):Prop:=(∀a b,c.eq a b=true->a=b)∧∀(B:Nat->Prop) (F:Lx) (w0:Bs) (wr:Wr) (pl:List Place) (S:St) (l:List Value) (ls:List (List Value)) (w:World) (f:FuncId) (ss:List SV) (vs:List Value) (K:St->SV->Option R) (r:R) (KV:Value->World->Prop),w0.I=d ->
 Rel B F w0 wr pl S l ls w->DenL pl (lx pl S.own++F) w ss vs->c.run f ss S K=some r->Gw B F w0 wr S.nt l ls K r KV->Calls e f vs.toArray w (fun g h=>∃v,g = .returned v∧KV v h)
abbrev Env:=FuncId->List Ct
def iK(b:Program)(a:World->Prop)(c:Env):Prop:=∀f ct,ct∈c f->au b a f ct
def cts:List (Nat×Ct)->Env
 | [],_=>[]
 | (g,ct)::q,f=>if g=f then ct::cts q f else cts q f
theorem bN{P:Program}{I:World->Prop}:iK P I (cts []):=fun f ct h=>by cases h
theorem av{P:Program}{I:World->Prop}{f:FuncId}{ct:Ct}{l:List (Nat×Ct)}(h:au P I f ct)(hl:iK P I (cts l)):iK P I (cts ((f,ct)::l)):=fun g c hg=>by
 unfold cts at hg;split at hg
 ·rename_i e
  subst e;rcases List.mem_cons.1 hg with hg | hg
  ·simp_all
  ·exact hl _ c hg
 ·exact hl g c hg
def NH(P:Program)(f:FuncId):Bool:=match P.funcs[f]? with
 | some fn => !(fn.name == "runtime.NumGoroutine") && fn.body.isSome
 | none=>false
theorem RJ {P : Program} {f : FuncId} (h : NH P f = true) : ∃ fn, P.funcs[f]? = some fn ∧ (fn.name == "runtime.NumGoroutine") = false ∧ fn.body.isNone = false := by
 unfold NH at h;split at h
 ·simp_all
 grind
mutual
def TY:SV->List Nat
 | .row i=>[i]
 | .sub i _ _ _=>[i]
 | .rowz i=>[i]
 | .agg l=>vE l
 | .tup l=>vE l
 | .fn _ a b=>vE a++vE b
 | .ifc _ v=>TY v
 | _=>[]
def vE:List SV->List Nat
 | []=>[]
 | s::q=>TY s++vE q
end
abbrev Wn:=List (Nat×Nat)×List Nat
def wP:List (Ty ⊕ Nat)->List SV->Wn->Wn
 | .inl t::q,cs,m=>wP q (cs.drop t.size) (m.1,m.2++vE (cs.take t.size))
 | .inr i::q,cs,m=>match cs with
  | .row j::r=>wP q r ((i,j)::m.1,m.2)
  | _=>m
 | [],_,m=>m
mutual
def wS:TS->SV->Wn->Wn
 | .d _,s,m=>(m.1,m.2++TY s)
 | .row i,s,m=>match s with
  | .row j=>((i,j)::m.1,m.2)
  | _=>m
 | .rowz i,s,m=>match s with
  | .row j=>((i,j)::m.1,m.2)
  | .rowz j=>((i,j)::m.1,m.2)
  | _=>m
 | .sub i _,s,m=>match s with
  | .sub j _ _ _=>((i,j)::m.1,m.2)
  | _=>m
 | .pb i _,s,m=>match s with
  | .pb j _=>((i,j)::m.1,m.2)
  | _=>m
 | .opb i,s,m=>match s with
  | .pb j _=>((i,j)::m.1,m.2)
  | .opb _ j _=>((i,j)::m.1,m.2)
  | _=>m
 | .mp i,s,m=>match s with
  | .mp j=>((i,j)::m.1,m.2)
  | _=>m
 | .fn _ a b,s,m=>match s with
  | .fn _ a' b'=>wL b b' (wL a a' m)
  | _=>m
 | .ifc _ t,s,m=>match s with
  | .ifc _ v=>wS t v m
  | _=>m
 | .agg l,s,m=>match s with
  | .agg l'=>wL l l' m
  | _=>m
 | .k _,_,m=>m
 | .pe _,_,m=>m
 | .agp q,s,m=>match s with
  | .agg l=>wP q l m
  | _=>m
def wL:List TS->List SV->Wn->Wn
 | t::q,s::r,m=>wL q r (wS t s m)
 | _,_,m=>m
end
def wM{kt kt':Ty}:List (Nat×Vl kt×TS)->List (Nat×Vl kt'×SV)->Wn->Wn
 | (_,_,t)::q,(_,_,s)::r,m=>wM q r (wS t s m)
 | _,_,m=>m
def wG:List SG->List SV->Wn->Wn
 | .d t::q,cs,m=>wG q (cs.drop t.size) (m.1,m.2++vE (cs.take t.size))
 | .s x::q,cs,m=>match cs with
  | c::r=>wG q r (wS x c m)
  | []=>m
 | [],_,m=>m
def wE:TE->Ent->Wn->Wn
 | .box _ cs,.box _ cs',m=>wL cs cs' m
 | .bsg _ q,.box _ cs',m=>wG q cs' m
 | .sm _ _ es,.sm _ _ es',m=>wM es es' m
 | _,_,m=>m
def wEs(own:List (Nat×Ent)):List (Nat×TE)->Wn->Wn
 | [],m=>m
 | (i,t)::q,m=>match get m.1 i with
  | some j=>match get own j with
   | some e=>wEs own q (wE t e m)
   | none=>wEs own q m
  | none=>wEs own q m
def wnt(a:List TS)(c:List (Nat×TE))(e:List SV)(d:List (Nat×Ent))(b:List (Nat×Nat)):List Nat:=(wEs d c (wL a e (b,[]))).2
def kX:List Nat->St->St
 | [],S=>S
 | i::q,S=>match frz S i with
  | some S'=>kX q S'
  | none=>kX q S
def BS(S:St):List Operand->Option (List SV)
 | []=>some []
 | x::q=>(opv S x).bind fun s=>(BS S q).map fun r=>s::r
abbrev Gt:=St->Option (FuncId×List SV)
def MC(P:Program)(x:Operand)(args:List Operand):Gt:=fun S=>match opv S x,BS S args with
 | some (.fn (.func f) a b),some ss=>if NH P f=true then some (f,a++ss++b) else none
 | _,_=>none
section
variable {R:Type}
def orE(a b:Option R):Option R:=match b with
 | none=>a
 | some r=>some (match a with
  | none=>r
  | some x=>x)
theorem NI{a b:Option R}{r:R}(h:orE a b=some r):a=some r∨b=some r:=by unfold orE at h;grind
def NJ(g:Gt)(S:St)(K:St->SV->Option R):List Ct->Option R
 | []=>none
 | ct::q=>match g S with
  | some (_,ss)=>match g (kX (wnt ct.sh.as (en 0 ct.sh.es) ss S.own []) S) with
   | some (_,ss1)=>match mA ct.sh.as (en 0 ct.sh.es) ss1 (kX (wnt ct.sh.as (en 0 ct.sh.es) ss S.own []) S).own []with
    | some mt=>orE (NG ct (kX (wnt ct.sh.as (en 0 ct.sh.es) ss S.own []) S) mt K) (NJ g S K q)
    | none=>NJ g S K q
   | none=>none
  | none=>none
def NK(cl:Cl R)(g:Gt)(S:St)(K:St->SV->Option R):List Ct->Option R
 | []=>match g S with
  | some (f,ss)=>cl.run f ss S K
  | none=>none
 | ct::q=>match g S with
  | some (_,ss)=>match g (kX (wnt ct.sh.as (en 0 ct.sh.es) ss S.own []) S) with
   | some (_,ss1)=>match mA ct.sh.as (en 0 ct.sh.es) ss1 (kX (wnt ct.sh.as (en 0 ct.sh.es) ss S.own []) S).own []with
    | some mt=>orE (NG ct (kX (wnt ct.sh.as (en 0 ct.sh.es) ss S.own []) S) mt K) (NJ g S K q)
    | none=>NK cl g S K q
   | none=>none
  | none=>none
def NL(g:Gt)(S:St)(K:St->SV->Option R):List Ct->Option R
 | []=>none
 | ct::q=>match g S with
  | some (_,ss)=>match wnt ct.sh.as (en 0 ct.sh.es) ss S.own []with
   | []=>match mA ct.sh.as (en 0 ct.sh.es) ss S.own []with
    | some mt=>NG ct S mt K
    | none=>NL g S K q
   | _::_=>NL g S K q
  | none=>none
def onT(env:Env)(f:FuncId):Bool:=match env (7000000+f) with
 | []=>false
 | _=>true
def Gx(env:Env)(cl:Cl R)(g:Gt)(S:St)(K:St->SV->Option R):Option R :=
 match g S with
 | some (f,_)=>if onT env f=true then NL g S K (env f) else NK cl g S K (env f)
 | none=>none
end
section
variable {R:Type}{B:Nat->Prop}{F:Lx}{w0:Bs}{wr:Wr}{pl pl':List Place}{S S':St}{l l':List Value}{ls:List (List Value)}{w w':World}{L L' M:Lx}{P:Program}{d:Option Tmp}{ty:TypeId}{pos:String}{af:Array Edge}{gd:Option (Nat×Bool)}
 {Q:Exit->Act->World->Prop} {KK:List Value->World->Prop} {K:St->SV->Option R} {r:R}
theorem qH(hf:FrD pl L w S.fr l):∀{q:List Operand} {ss:List SV},BS S q=some ss->DenL pl L w ss (q.map (ev l))
 | [],ss,h=>by cases h;rfl
 | x::q,ss,h=>by obtain⟨s,h1,h⟩:=bK h;obtain⟨r,h2,rfl⟩:=Option.map_eq_some_iff.1 h;exact⟨_,_,rfl,bf hf h1,qH hf h2⟩
theorem uP:∀{q:List Nat} {S:St},Rel B F w0 wr pl S l ls w->Rel B F w0 wr pl (kX q S) l ls w∧(kX q S).nt=S.nt
 | [],S,h=>⟨h,rfl⟩
 | i::q,S,h=>by
  unfold kX;split
  ·rename_i S' hf
   obtain⟨h1,h2⟩:=uP (q:=q) (Nk h hf);exact⟨h1,by rw[h2,Nl hf]⟩
  ·exact uP h
def Io(P:Program)(l:List Value)(o:Oper)(w:World)(g:Gt):Prop :=
 ∀(pl:List Place) (L:Lx) (S:St) (f:FuncId) (ss:List SV),FrD pl L w S.fr l->g S=some (f,ss)->∃vs,DenL pl L w ss vs∧(execOp (ev l) o).run P w = .ok (.enter f vs.toArray) w
theorem Zq{f:FuncId}{x:Operand}{args:List Operand}{ts:Array TypeId}{as bs:List Value}(hf:NH P f=true)(hx:ev l x = .func (.func f) as.toArray bs.toArray) :
  (execOp (ev l) ⟨d,.call ⟨.value x,args.toArray,ts⟩,ty,pos,af,gd⟩).run P w = .ok (.enter f (as++args.map (ev l)++bs).toArray) w:=by
 obtain ⟨fn,h1,h2,h3⟩:=RJ hf;have hn' : fn.name ≠ "runtime.NumGoroutine" := by simp_all
 have hb':fn.body≠none:=by grind
 simp[execOp,resolve,hx,Deferred.ofValue,invoke,callFunc,h1,hn',hb']
theorem NM{x:Operand}{args:Array Operand}{ts:Array TypeId}:Io P l ⟨d,.call ⟨.value x,args,ts⟩,ty,pos,af,gd⟩ w (MC P x args.toList):=fun pl L S f ss hf hg=>by
 unfold MC at hg;split at hg
 ·rename_i f' a b ss' h1 h2
  split at hg
  case isFalse=>cases hg
  rename_i hfn;cases hg;obtain⟨as,bs,h3,h4,h5⟩:=bf hf h1;have hrun:=Zq (P:=P) (w:=w) (d:=d) (ty:=ty) (pos:=pos) (af:=af) (gd:=gd) (args:=args.toList) (ts:=ts) hfn h5;rw[Array.toArray_toList]at hrun;exact⟨_,(h3.append (qH hf h2)).append h4,hrun⟩
 grind
variable {op:Op}
theorem Ip{o:Oper}{g:Gt}(hg:Io P l o w g)(h:Rel B F w0 wr pl S l ls w){f:FuncId}{vs:List Value}(hr:(execOp (ev l) o).run P w = .ok (.enter f vs.toArray) w)
  {KV:Value->World->Prop} (hk:Gw B F w0 wr S.nt l ls K r KV) :
  ∀{q:List Ct},(∀ct∈q,au P w0.I f ct)->NJ g S K q=some r->Calls P f vs.toArray w (fun e w'=>∃v,e = .returned v∧KV v w')
 | [],_,hv=>by cases hv
 | ct::q,hq,hv=>by
  unfold NJ at hv;split at hv
  ·rename_i f0 ss hs
   split at hv
   ·rename_i f' ss1 hs1
    split at hv
    ·rename_i mt hmt
     rcases NI hv with hv | hv
     ·obtain⟨h1,h2⟩:=uP (q:=wnt ct.sh.as (en 0 ct.sh.es) ss S.own []) h
      obtain⟨us,h3,h4⟩:=hg pl _ _ f' ss1 h1.fr hs1;rw[hr]at h4;cases h4;exact Im (hq ct (List.mem_cons_self ..)) h1 h3 hmt hv (by rw[h2];exact hk)
     ·exact Ip hg h hr hk (fun ct hc=>hq ct (zO _ hc)) hv
    ·exact Ip hg h hr hk (fun ct hc=>hq ct (zO _ hc)) hv
   ·cases hv
  ·cases hv
theorem Iq{o:Oper}{g:Gt}(hg:Io P l o w g)(h:Rel B F w0 wr pl S l ls w){f:FuncId}{vs:List Value}(hr:(execOp (ev l) o).run P w = .ok (.enter f vs.toArray) w)
  {KV:Value->World->Prop} (hk:Gw B F w0 wr S.nt l ls K r KV) :
  ∀{q:List Ct},(∀ct∈q,au P w0.I f ct)->NL g S K q=some r->Calls P f vs.toArray w (fun e w'=>∃v,e = .returned v∧KV v w')
 | [],_,hv=>by cases hv
 | ct::q,hq,hv=>by
  unfold NL at hv;split at hv
  ·rename_i f0 ss hs
   split at hv
   ·split at hv
    ·rename_i mt hmt
     obtain⟨us,h3,h4⟩:=hg pl _ S f0 ss h.fr hs;rw[hr]at h4;cases h4;exact Im (hq ct (List.mem_cons_self ..)) h h3 hmt hv hk
    ·exact Iq hg h hr hk (fun ct hc=>hq ct (zO _ hc)) hv
   ·exact Iq hg h hr hk (fun ct hc=>hq ct (zO _ hc)) hv
  ·cases hv
theorem RN{cl:Cl R}(hcl:Ak P w0.I cl){o:Oper}{g:Gt}(hg:Io P l o w g)(h:Rel B F w0 wr pl S l ls w){f:FuncId}{vs:List Value}(hr:(execOp (ev l) o).run P w = .ok (.enter f vs.toArray) w)
  {KV:Value->World->Prop} (hk:Gw B F w0 wr S.nt l ls K r KV) :
  ∀{q:List Ct},(∀ct∈q,au P w0.I f ct)->NK cl g S K q=some r->Calls P f vs.toArray w (fun e w'=>∃v,e = .returned v∧KV v w')
 | [],_,hv=>by
  unfold NK at hv;split at hv
  ·rename_i f' ss hs
   obtain⟨us,h1,h2⟩:=hg pl _ S f' ss h.fr hs;rw[hr]at h2;cases h2;exact hcl.2 _ _ _ _ _ _ _ _ _ _ _ _ _ _ _ rfl h h1 hv hk
  ·cases hv
 | ct::q,hq,hv=>by
  unfold NK at hv;split at hv
  ·rename_i f0 ss hs
   split at hv
   ·rename_i f' ss1 hs1
    split at hv
    ·rename_i mt hmt
     rcases NI hv with hv | hv
     ·obtain⟨h1,h2⟩:=uP (q:=wnt ct.sh.as (en 0 ct.sh.es) ss S.own []) h
      obtain⟨us,h3,h4⟩:=hg pl _ _ f' ss1 h1.fr hs1;rw[hr]at h4;cases h4;exact Im (hq ct (List.mem_cons_self ..)) h1 h3 hmt hv (by rw[h2];exact hk)
     ·exact Ip hg h hr hk (fun ct hc=>hq ct (zO _ hc)) hv
    ·exact RN hcl hg h hr hk (fun ct hc=>hq ct (zO _ hc)) hv
   ·cases hv
  ·cases hv
theorem EM{env:Env}{cl:Cl R}(henv:iK P w0.I env)(hcl:Ak P w0.I cl)(h:Rel B F w0 wr pl S l ls w){g:Gt}(hg:Io P l ⟨d,op,ty,pos,af,gd⟩ w g)
  (hv:Gx env cl g S K=some r) (hk:Hand B F w0 wr S.nt l ls d K r KK):OW P ⟨d,op,ty,pos,af,gd⟩ l w KK Q:=by
 unfold Gx at hv;split at hv
 ·rename_i f ss hs
  obtain⟨vs,h1,h2⟩:=hg pl _ S f ss h.fr hs
  have hc:Calls P f vs.toArray w (fun e w''=>∃v,e = .returned v∧KK (st l d v) w''):=by
   split at hv
   ·exact Iq hg h h2 (fun pl' S' s v w' a1 a2 a3 a4=>hk pl' S' s v w' a1 a2 a3 a4) (fun ct hct=>henv f ct hct) hv
   ·exact RN hcl hg h h2 (fun pl' S' s v w' a1 a2 a3 a4=>hk pl' S' s v w' a1 a2 a3 a4) (fun ct hct=>henv f ct hct) hv
  exact aaG (R:=fun v w''=>KK (st l d v) w'') h2 hc (fun v w'' hR=>hR)
 grind
end
end Ev
end
noncomputable section
namespace Ev
open Go Go.RowKit Sx
section
variable {R:Type}{pl:List Place}{L:Lx}{w:World}{P:Program}{l:List Value}
def isInt(P:Program)(t:TypeId):Bool:=match P.underlying t with
 | some (.int _)=>true
 | _=>false
theorem abd{t:TypeId}(h:isInt P t=true):∃k,P.underlying t=some (.int k):=by grind[isInt]
def NN(P:Program)(t:TypeId)(a b:SV):Option Bool :=
 match a,b with
 | .d (.int k) x,.d (.int k') y=>if k=k'∧isInt P t=true then some (eqi x y) else none
 | .d .bool p,.d .bool q=>if isBool P t=true then some (eqb p q) else none
 | .d .str s,.d .str q=>if isStr P t=true then some (eqs s q) else none
 | _,_=>none
def T3(P:Program)(g:TypeId->List SV->List SV->Option Bool)(as bs:List SV):List Field->Option Bool
 | []=>some true
 | f :: r => if (f.name == "_") = true then none else match eG P f.type with
  | some n=>(g f.type ((as.drop f.offset).take n) ((bs.drop f.offset).take n)).bind fun r1=>(T3 P g as bs r).map fun r2=>r1 && r2
  | none=>none
def isStruct(P:Program)(t:TypeId):Bool:=match P.underlying t with
 | some (.struct _)=>true
 | _=>false
def abe(e:TypeId->List SV->List SV->Option Bool)(d:TypeId)(a:Nat)(b c:List SV):Nat->Nat->Option Bool
 | _,0=>some true
 | i,n+1=>(e d ((b.drop (i*a)).take a) ((c.drop (i*a)).take a)).bind fun f=>(abe e d a b c (i+1) n).map fun g=>f && g
def eqT(P:Program):Nat->TypeId->List SV->List SV->Option Bool
 | 0,_,_,_=>none
 | d+1,t,as,bs=>if isStruct P t=true then (if P.stoodInHeld t=false then T3 P (eqT P d) as bs (P.fieldsOf t).toList else none)
  else match qD P t with
  | some (n,e,sz)=>abe (eqT P d) e sz as bs 0 n
  | none=>match as,bs with
   | [a],[b]=>NN P t a b
   | _,_=>none
def T4(a:Program)(c:Nat)(b:TypeId)(e f:List Value)(d:Bool):Prop :=
 (∃dd,a.underlying b=some dd∧nY dd=true∧∀w,(Op.equalIn c b (.agg e.toArray) (.agg f.toArray)).run a w = .ok d w) ∨
 (∃dd u v,a.underlying b=some dd∧nY dd=false∧e=[u]∧f=[v]∧∀w,(Op.equalIn c b u v).run a w = .ok d w)
theorem xY{t:TypeId}(h:isStruct P t=true):P.underlying t=some (.struct (P.fieldsOf t)):=by grind[isStruct,Program.fieldsOf]
theorem Zr{t:TypeId}{a b:SV}{r:Bool}{u v:Value}{d:Nat}(h:NN P t a b=some r)(ha:Den pl L w a u)(hb:Den pl L w b v):T4 P (d+1) t [u] [v] r:=by
 unfold NN at h;split at h
 ·split at h
  ·rename_i hk
   cases h
   obtain⟨rfl,hk⟩:=hk;obtain⟨k',hk'⟩:=abd hk;rw[je ha,je hb];exact .inr ⟨_,_,_,hk',rfl,rfl,rfl,eq_int hk'⟩
  grind
 ·split at h
  ·rename_i hk
   cases h
   rw[jC ha,jC hb];exact .inr ⟨_,_,_,BJ hk,rfl,rfl,rfl,Rx (BJ hk)⟩
  grind
 ·split at h
  ·rename_i hk
   cases h
   rw[jq ha,jq hb];exact .inr ⟨_,_,_,gu hk,rfl,rfl,rfl,Y5 (gu hk)⟩
  grind
 grind
theorem take1{us:List Value}{o n:Nat}{u:Value}(h:(us.drop o).take n=[u]):us[o]? = some u:=by
 have h1:((us.drop o).take n)[0]? = some u:=by grind
 grind
theorem RO{d:Nat}{g:TypeId->List SV->List SV->Option Bool}(hg:∀t as bs us vs r,g t as bs=some r->DenL pl L w as us->DenL pl L w bs vs->T4 P d t us vs r){as bs:List SV}{us vs:List Value}(ha:DenL pl L w as us)(hb:DenL pl L w bs vs) :
  ∀ {fs : List Field} {r : Bool}, T3 P g as bs fs = some r -> AllEq P d us.toArray vs.toArray (fs.map fun f => (f.name == "_", f.type, f.offset)) r
 | [],r,h=>by cases h;exact .nil
 | f::q,r,h=>by
  unfold T3 at h;split at h
  ·cases h
  ·rename_i hn
   split at h
   ·rename_i n hs
    obtain ⟨r1,h1,h⟩:=bK h;obtain ⟨r2,h2,rfl⟩:=Option.map_eq_some_iff.1 h;have ih:=RO hg ha hb h2;have hn : (f.name == "_") = false := by simp_all
    rw[List.map_cons,hn];rcases hg _ _ _ _ _ _ h1 ((ha.drop f.offset).take n) ((hb.drop f.offset).take n) with ⟨dd,e1,e2,e3⟩ | ⟨dd,u,v,e1,e2,e3,e4,e5⟩
    ·exact .cons (zH e1 e2 hs (by simp)) (zH e1 e2 hs (by simp)) e3 ih
    ·exact .cons (iV e1 e2 (by grind[take1])) (iV e1 e2 (by grind[take1])) e5 ih
   grind
theorem RP{d:Nat}{e:TypeId}{c:Nat}{xs ys:Array Value}:∀{n i:Nat} {r:Bool} (_:AllEq P d xs ys ((List.range' i n).map fun j=>(false,e,j*c)) r),∀w,(Op.eqItems d e c xs ys (List.range' i n)).run P w = .ok r w
 | 0,_,_,h,w=>by cases h;simp[Op.eqItems]
 | n+1,i,r,h,w=>by
  rw[List.range'_succ,List.map_cons]at h;rw[List.range'_succ]
  cases h with
  | cons ha hb he h2 =>
   rename_i r1 r2;have ih:=RP h2;simp only[Op.eqItems,Sem.run_bind,ha,hb,he,zJ];cases r1<;>simp[ih]
theorem RQ{d:Nat}{g:TypeId->List SV->List SV->Option Bool}(hg:∀t as bs us vs r,g t as bs=some r->DenL pl L w as us->DenL pl L w bs vs->T4 P d t us vs r){as bs:List SV}{us vs:List Value}(ha:DenL pl L w as us)(hb:DenL pl L w bs vs){e:TypeId}{sz:Nat}(hs:eG P e=some sz) :
  ∀{n i:Nat} {r:Bool},abe g e sz as bs i n=some r->AllEq P d us.toArray vs.toArray ((List.range' i n).map fun j=>(false,e,j*sz)) r
 | 0,_,r,h=>by cases h;exact .nil
 | n+1,i,r,h=>by
  obtain⟨r1,h1,h⟩:=bK h;obtain⟨r2,h2,rfl⟩:=Option.map_eq_some_iff.1 h;have ih:=RQ hg ha hb hs h2;rw[List.range'_succ,List.map_cons];rcases hg _ _ _ _ _ _ h1 ((ha.drop (i*sz)).take sz) ((hb.drop (i*sz)).take sz) with ⟨dd,e1,e2,e3⟩ | ⟨dd,u,v,e1,e2,e3,e4,e5⟩
  ·exact .cons (zH e1 e2 hs (by simp[List.extract_eq_take_drop])) (zH e1 e2 hs (by simp[List.extract_eq_take_drop])) e3 ih
  ·exact .cons (iV e1 e2 (by simpa using take1 e3)) (iV e1 e2 (by simpa using take1 e4)) e5 ih
theorem NP:∀{d:Nat} {t:TypeId} {as bs:List SV} {us vs:List Value} {r:Bool},eqT P d t as bs=some r->DenL pl L w as us->DenL pl L w bs vs->T4 P d t us vs r
 | 0,_,_,_,_,_,_,h,_,_=>by cases h
 | d+1,t,as,bs,us,vs,r,h,ha,hb=>by
  unfold eqT at h;split at h
  ·rename_i hs
   split at h
   ·rename_i hh
    have h1:=RO (d:=d) (fun t as bs us vs r h a b=>NP h a b) ha hb h;exact .inl ⟨_,xY hs,rfl,KU (xY hs) hh rfl h1⟩
   grind
  ·split at h
   ·rename_i n e sz har
    obtain⟨h1,h2⟩:=qE har;obtain⟨i,hi,hc⟩:=qX h2;have h3:=RQ (d:=d) (fun t as bs us vs r h a b=>NP h a b) ha hb h2 h;refine .inl ⟨_,h1,rfl,fun w=>?_⟩;rw[run_equalIn_array w d us.toArray vs.toArray h1 hi,List.range_eq_range'];grind[Program.cellsOf,RP]
   ·split at h
    ·obtain⟨u,us',rfl,h1,h2⟩:=ha
     obtain⟨v,vs',rfl,h3,h4⟩:=hb;cases h2;cases h4;grind[Zr]
    grind
def T6:SV->Option (List SV)
 | .agg l=>some l
 | .d t x=>if t.agg=true then unp t x else none
 | _=>none
theorem RS{s:SV}{u:Value}{cs:List SV}(hd:Den pl L w s u)(h:T6 s=some cs):∃us:List Value,u = .agg us.toArray∧DenL pl L w cs us:=by
 unfold T6 at h;split at h
 ·cases h
  obtain⟨us,h1,_,h2⟩:=hd;simp_all
 ·split at h
  ·rename_i t x ht
   obtain⟨us,h1,h2⟩:=hd;grind[lS,Rp.val,gI]
  grind
 grind
def aiB:SV->Bool
 | .agg _=>true
 | .d t _=>t.agg
 | _=>false
def qEq(P:Program)(op:BinOp)(t:TypeId)(a b:SV)(K:SV->List Nat->Option R):Option R :=
 match T6 a,T6 b with
 | some as,some bs=>if P.eqGuardType P.depth t=false∧(isStruct P t || (qD P t).isSome)=true then match eqT P 10000 t as bs with
  | some r=>match op with
   | .eql=>K (.d .bool r) []
   | .neq=>K (.d .bool (!r)) []
   | _=>none
  | none=>none else none
 | _,_=>none
theorem aiC{op:BinOp}{t:TypeId}{a b:SV}{K:SV->List Nat->Option R}{r:R}(h:qEq P op t a b K=some r){d:Option Tmp}{ty u:TypeId}{pos:String}{af:Array Edge}{g:Option (Nat×Bool)}{x y:Operand}
  (hx:Den pl L w a (ev l x)) (hy:Den pl L w b (ev l y)):∃s rd,K s rd=some r∧Yv P pl L w l ⟨d,.binOp op t x y u,ty,pos,af,g⟩ s rd:=by
 unfold qEq at h;split at h
 ·rename_i as bs h1 h2
  split at h
  ·rename_i hc
   split at h
   ·rename_i r' hr
    obtain⟨us,e1,e2⟩:=RS hx h1;obtain⟨vs,e3,e4⟩:=RS hy h2
    have hE:∀w,(Op.equalIn 10000 t (.agg us.toArray) (.agg vs.toArray)).run P w = .ok r' w:=by
     rcases NP hr e2 e4 with ⟨_,_,_,h⟩ | ⟨dd,_,_,h1,h2,_⟩
     ·exact h
     ·rcases Bool.or_eq_true_iff.1 hc.2 with hs | hs
      ·rw[xY hs]at h1;cases h1;cases h2
      ·obtain⟨⟨n,e,sz⟩,har⟩:=Option.isSome_iff_exists.1 hs
       rw[(qE har).1]at h1;cases h1;cases h2
    split at h
    ·exact⟨_,_,h,Yv.of (gq _) (fun w'=>Tx e1 e3 hc.1 hE)⟩
    ·exact⟨_,_,h,Yv.of (gq _) (fun w'=>Tz e1 e3 hc.1 hE)⟩
    grind
   grind
  grind
 grind
end
end Ev
end
noncomputable section
namespace Ev
open Go Go.RowKit Sx
def eqL{α:Type}(f:α->α->Bool):List α->List α->Bool
 | [],[]=>true
 | a::r,b::q=>f a b && eqL f r q
 | _,_=>false
def eqV:(t:Ty)->Vl t->Vl t->Bool
 | .int _,x,y=>eqi x y
 | .bool,x,y=>eqb x y
 | .str,x,y=>eqs x y
 | .sl t,x,y=>eqL (eqV t) x y
 | .pr a b,x,y=>eqV a x.1 y.1 && eqV b x.2 y.2
 | .wr a,x,y=>eqV a x y
 | .cl a,x,y=>eqV a x y
 | .un,_,_=>true
 | .ar _ t,x,y=>eqL (eqV t) x y
 | .mp k v,x,y=>eqL (fun a b=>eqV k a.1 b.1 && eqV v a.2 b.2) x y
theorem BU{α:Type}{f:α->α->Bool}(h:∀a b,f a b=true->a=b):∀{x y:List α},eqL f x y=true->x=y
 | [],[],_=>rfl
 | a::r,b::q,e=>by simp only[eqL,zL]at e;rw[h a b e.1,BU h e.2]
 | [],_::_,e=>by cases e
 | _::_,[],e=>by cases e
theorem nM:∀(t:Ty) (x y:Vl t),eqV t x y=true->x=y
 | .int _,x,y,h=>by simpa [eqV,eqi]using h
 | .bool,x,y,h=>by simpa [eqV,eqb]using h
 | .str,x,y,h=>by simpa [eqV,eqs]using h
 | .sl t,x,y,h=>BU (nM t) h
 | .pr a b,x,y,h=>by simp only[eqV,zL]at h;exact Prod.ext (nM a _ _ h.1) (nM b _ _ h.2)
 | .wr a,x,y,h=>nM a x y h
 | .cl a,x,y,h=>nM a x y h
 | .un,_,_,_=>rfl
 | .ar _ t,x,y,h=>BU (nM t) h
 | .mp k v,x,y,h=>BU (fun a b h=>by
   simp only[zL]at h
   exact Prod.ext (nM k _ _ h.1) (nM v _ _ h.2)) h
section
variable {R:Type}{B:Nat->Prop}{F:Lx}{w0:Bs}{wr:Wr}{pl pl':List Place}{S S':St}{l l':List Value}{ls:List (List Value)}{w w':World}{L L' M:Lx}{P:Program}{d:Option Tmp}{ty:TypeId}{pos:String}{af:Array Edge}{gd:Option (Nat×Bool)}
 {Q:Exit->Act->World->Prop} {KK:List Value->World->Prop} {K:St->SV->Option R} {r:R}
def Gy(P:Program)(T:TypeId)(s:SV):Option ((t:Ty)×List (Vl t)) :=
 match qD P T with
 | some (m,e,n)=>match iD P e with
  | some ⟨t0,_⟩=>if t0.size=n∧m≤1073741824 then (match s with
   | .d (.ar m' t1) xs=>if m'=m then (fK (.sl t1) (.sl t0) xs).map fun ys=>⟨t0,ys⟩ else none
   | .agg cs=>(pkN t0 m cs).map fun ys=>⟨t0,ys⟩
   | _=>none) else none
  | none=>none
 | none=>none
def Gz(a:St)(d:TypeId)(b:Ty)(e:List (Vl b))(c:St->SV->Option R):Option R :=
 c { a with own:=(a.nx,.row b d e)::a.own,nx:=a.nx+1 } (.pb a.nx 0)
theorem EN{T:TypeId}{s:SV}{t0:Ty}{xs:List (Vl t0)}{u:Value}(h:Gy P T s=some ⟨t0,xs⟩)(hd:Den pl L w s u):∃us:List Value,u = .agg us.toArray∧RowsOf (rp t0) L w us xs∧(∀v∈us,v.oneCell'=true)∧xs.length≤1073741824∧0<t0.size:=by
 unfold Gy at h;split at h
 ·rename_i m e n har
  split at h
  ·rename_i t1 z hr
   have hpos:0<t1.size:=by have:=(gy hr).pos;grind[bV]
   split at h
   ·rename_i hc
    split at h
    ·rename_i m' t2 ys
     split at h
     ·rename_i hm
      subst hm;obtain⟨zs,h1,h2⟩:=Option.map_eq_some_iff.1 h;obtain⟨e1,h1⟩:=oM h1;cases e1;subst h1;cases h2;obtain⟨cs,⟨h3,h4⟩,h5⟩:=hd;have hle:m'≤1073741824:=hc.2;rw[<- h3]at hle;exact⟨cs,by simp_all[Rp.val,gI,Ty.agg],h4,h4.one,hle,hpos⟩
     grind
    ·obtain⟨zs,h1,h2⟩:=Option.map_eq_some_iff.1 h
     cases h2
     obtain⟨us,h3,h4,h5⟩:=hd;grind[Ih]
    grind
   grind
  grind
 grind
theorem GA{t:Ty}{T:TypeId}{w:World}{g:Nat}{cs:List Value}{xs:List (Vl t)}(hb:Bx w g cs T)(hr:RowsOf (rp t) L w cs xs)(hl:xs.length≤1073741824):Ow (rp t) T L w (some ⟨g,0,none⟩) xs.length xs.length xs :=
 ⟨rfl,cs,⟨hr.len,.inr ⟨g,xs.length,cs.toArray,rfl,Nat.zero_le _,hb,Nat.le_refl _,by grind[maxLen],by rw[List.size_toArray];exact hr.len,by rw[<- hr.len];simp⟩⟩,hr⟩
theorem xZ(h:Rel B F w0 wr pl S l ls w){T:TypeId}{t:Ty}{xs:List (Vl t)}{us:List Value}(hv:Gz S T t xs K=some r)(hk:Hand B F w0 wr S.nt l ls d K r KK){g:Nat}(hs:Stp B (lx pl S.own) (some g::lx pl S.own) F [] w w')(hb:Bx w' g us T)
  (hr:RowsOf (rp t) (lx pl S.own++F) w us xs) (hl:xs.length≤1073741824):KK (st l d (.pointer (some ⟨g,0,none⟩))) w':=by
 have hr':RowsOf (rp t) ((some g::lx pl S.own)++F) w' us xs:=hr.step hs.hf (fun k hk=>List.mem_append_left _ (hs.hM k hk)) hs.hs;have hrel:=h.push ⟨some ⟨g,0,none⟩,xs.length,xs.length⟩ (.row t T xs) hs ⟨_,gJ _,GA hb hr' hl⟩;refine hk _ _ _ _ w' hrel rfl ?_ hv;exact⟨g,_,_,by rw[h.nx];exact gJ _,rfl⟩
def hasAr:Ty->Bool
 | .ar _ _=>true
 | .pr a b=>hasAr a || hasAr b
 | .wr a=>hasAr a
 | _=>false
def Dv(S:St)(T:TypeId)(t:Ty)(x:Vl t)(K:St->SV->Option R):Option R :=
 K { S with own:=(S.nx,.row t T [x])::S.own,nx:=S.nx+1 } (.prw S.nx 0 t.size 0)
theorem pJ(h:Rel B F w0 wr pl S l ls w){T:TypeId}{t:Ty}{x:Vl t}{us:List Value}(hv:Dv S T t x K=some r)(hk:Hand B F w0 wr S.nt l ls d K r KK){g:Nat}(hs:Stp B (lx pl S.own) (some g::lx pl S.own) F [] w w')(hb:Bx w' g us T)
  (hr:(rp t).rel (lx pl S.own++F) w us x):KK (st l d (.pointer (some ⟨g,0,none⟩))) w':=by
 have hr0:RowsOf (rp t) (lx pl S.own++F) w us [x]:=⟨us,[],by simp,hr,rfl⟩;have hr':RowsOf (rp t) ((some g::lx pl S.own)++F) w' us [x]:=hr0.step hs.hf (fun k hk=>List.mem_append_left _ (hs.hM k hk)) hs.hs;have hrel:=h.push ⟨some ⟨g,0,none⟩,[x].length,[x].length⟩ (.row t T [x]) hs ⟨_,gJ _,GA hb hr' (by simp)⟩;refine hk _ _ _ _ w' hrel rfl ?_ hv;exact⟨g,0,_,_,by rw[h.nx];exact gJ _,by simp⟩
theorem q9{ty:Ty}{s:SV}{x:Vl ty}{u:Value}{L:Lx}(hz:toD ty s=some x)(hd:Den pl L w s u):(rp ty).rel L w u.cells.toList x:=by
 obtain⟨c,h8,h9⟩:=jo hz hd
 have:u.cells.toList=c:=by
  rw[h9]
  cases ha:ty.agg with
  | true=>simp[Rp.val,gI,ha,Value.cells]
  | false =>
   have hl:=(rp ty).len h8;rw[kC ty ha]at hl;obtain⟨v,rfl⟩:=List.length_eq_one_iff.1 hl;simp only[Rp.val,gI,ha,Bool.false_eq_true,if_false,List.headD_cons];exact oO ((rp ty).one h8 v (by simp))
 simp_all
def yY(P:Program)(S:St)(t:TypeId)(K:St->SV->Option R):Option R :=
 match tyc P t with
 | some ty=>if hasAr ty=true then match (P.info? t).bind (·.zero) with
   | some (.agg ⟨cs⟩)=>if cs.all Value.oneCell'=true then (match toD ty (.agg (cs.map ofV)) with
    | some x=>Dv S t ty x K
    | none=>none) else none
   | _=>none
  else BQ P S t K
 | none=>BQ P S t K
theorem Al(h:Rel B F w0 wr pl S l ls w){t:TypeId}(hv:yY P S t K=some r)(hk:Hand B F w0 wr S.nt l ls d K r KK):OW P ⟨d,.alloc t,ty,pos,af,gd⟩ l w KK Q:=by
 unfold yY at hv;split at hv
 ·split at hv
  ·split at hv
   ·rename_i cs hz
    split at hv
    ·rename_i hone
     split at hv
     ·rename_i x hx
      have hone:=List.all_eq_true.1 hone;have h1:=q9 (pl:=pl) (L:=lx pl S.own++F) (w:=w) (u:=.agg cs.toArray) hx ⟨cs,jX cs,hone,rfl⟩;exact qY hz rfl h.hL (fun g w' hS hb=>pJ h hv hk hS hb h1)
     grind
    grind
   grind
  grind[BR]
 grind[BR]
def T7(P:Program)(S:St)(t:TypeId)(s:SV)(K:St->SV->Option R):Option R :=
 match tyc P t with
 | some ty=>if hasAr ty=true then match toD ty s with
   | some x=>Dv S t ty x K
   | none=>none
  else Np S t s K
 | none=>Np S t s K
theorem abf(h:Rel B F w0 wr pl S l ls w){t:TypeId}{x:Operand}{s:SV}(hv:T7 P S t s K=some r)(hx:Den pl (lx pl S.own++F) w s (ev l x))(hk:Hand B F w0 wr S.nt l ls d K r KK):OW P ⟨d,.box t x,ty,pos,af,gd⟩ l w KK Q:=by
 unfold T7 at hv;split at hv
 ·split at hv
  ·split at hv
   ·rename_i z hz
    exact uK rfl rfl h.hL (fun g w' hS hb=>pJ h hv hk hS hb (q9 hz hx))
   grind
  grind[Ig]
 grind[Ig]
def T8(P:Program)(S:St)(t:TypeId)(s:SV)(K:St->SV->Option R):Option R :=
 match tyc P t with
 | some ty=>match toD ty s with
  | some x=>K { S with nx:=S.nx+1 } (.pe ty x)
  | none=>none
 | none=>none
theorem abg(h:Rel B F w0 wr pl S l ls w){t:TypeId}{x:Operand}{s:SV}(hv:T8 P S t s K=some r)(hx:Den pl (lx pl S.own++F) w s (ev l x))(hk:Hand B F w0 wr S.nt l ls d K r KK):OW P ⟨d,.box t x,ty,pos,af,gd⟩ l w KK Q:=by
 unfold T8 at hv;split at hv
 ·rename_i t0 _
  split at hv
  ·rename_i z hz
   refine uK rfl rfl h.hL (fun g w' hs hb=>?_);have hr:=q9 hz hx;have hr0:RowsOf (rp t0) (lx pl S.own++F) w (ev l x).cells.toList [z]:=⟨_,[],by simp,hr,rfl⟩;have hr':RowsOf (rp t0) ((some g::lx pl S.own)++F) w' (ev l x).cells.toList [z]:=hr0.step hs.hf (fun k hk=>List.mem_append_left _ (hs.hM k hk)) hs.hs;have hO:=GA hb hr' (by simp);have hrel:=h.push ⟨some ⟨g,0,none⟩,[z].length,[z].length⟩ (.row t0 t [z]) hs ⟨_,gJ _,hO⟩;have e1:lx (pl++[(⟨some ⟨g,0,none⟩,[z].length,[z].length⟩:Place)]) S.own=lx pl S.own:=Dm (gZ _) h.ent;have hL:=hrel.hL;have e2:lx (pl++[(⟨some ⟨g,0,none⟩,[z].length,[z].length⟩:Place)]) ((S.nx,Ent.row t0 t [z])::S.own)=[]++some g::lx pl S.own:=by unfold lx at e1 ⊢;rw[List.map_cons,e1,h.nx,vB];rfl
   rw[e2]at hL;have hd:=hrel.drop (own':=S.own) (List.sublist_cons_self _ _);refine hk _ _ (.pe t0 z) _ w' hd rfl ⟨g,0,rfl,?_⟩ hv;show El (rp t0) (lx (pl++[_]) S.own++F) w' g 0 z;rw[e1];obtain⟨g',e3,he⟩:=aiq (L':=lx pl S.own++F) (i:=0) hO (u7 w' [] (lx pl S.own) F (some g)) (fun k hk=>hL.gone k hk) rfl;simp_all
  grind
 grind
def Ir(P:Program)(S:St)(t:TypeId)(K:St->SV->Option R):Option R :=
 match qD P t with
 | some (m,_)=>match (P.info? t).bind (·.zero) with
  | some (.agg ⟨cs⟩)=>match Gy P t (.agg (cs.map ofV)) with
   | some ⟨t0,xs⟩=>if cs.all Value.oneCell'=true then (match xs.head? with
    | some z=>if eqL (eqV t0) xs (zC m z)=true then Gz S t t0 (zC m z) K else none
    | none=>Gz S t t0 xs K) else none
   | none=>yY P S t K
  | _=>yY P S t K
 | none=>yY P S t K
theorem T9(h:Rel B F w0 wr pl S l ls w){t:TypeId}(hv:Ir P S t K=some r)(hk:Hand B F w0 wr S.nt l ls d K r KK):OW P ⟨d,.alloc t,ty,pos,af,gd⟩ l w KK Q:=by
 unfold Ir at hv;split at hv
 ·split at hv
  ·rename_i cs hz
   split at hv
   ·rename_i t0 xs ha
    split at hv
    ·rename_i hone
     have hone:=List.all_eq_true.1 hone;obtain⟨us,h1,h2,h3,h4,_⟩:=EN (pl:=pl) (L:=lx pl S.own++F) (w:=w) (u:=.agg cs.toArray) ha ⟨cs,jX cs,hone,rfl⟩;have:us=cs:=by simp_all
     subst this;split at hv
     ·split at hv
      ·rename_i z _ he
       have:=BU (nM t0) he;rw[<- this]at hv;exact qY hz rfl h.hL (fun g w' hS hb=>xZ h hv hk hS hb h2 h4)
      grind
     ·exact qY hz rfl h.hL (fun g w' hS hb=>xZ h hv hk hS hb h2 h4)
    grind
   grind[Al]
  grind[Al]
 grind[Al]
def Ua(P:Program)(S:St)(t:TypeId)(s:SV)(K:St->SV->Option R):Option R :=
 match Gy P t s with
 | some ⟨t0,xs⟩=>Gz S t t0 xs K
 | none=>T7 P S t s K
theorem abh(h:Rel B F w0 wr pl S l ls w){t:TypeId}{x:Operand}{s:SV}(hv:Ua P S t s K=some r)(hx:Den pl (lx pl S.own++F) w s (ev l x))(hk:Hand B F w0 wr S.nt l ls d K r KK):OW P ⟨d,.box t x,ty,pos,af,gd⟩ l w KK Q:=by
 unfold Ua at hv;split at hv
 ·rename_i t0 xs ha
  obtain⟨us,h1,h2,h3,h4,_⟩:=EN ha hx;exact uK h1 rfl h.hL (fun g w' hS hb=>xZ h hv hk hS hb h2 h4)
 grind[abf]
def NQ(P:Program)(S:St)(t u:TypeId)(s:SV)(K:St->SV->Option R):Option R :=
 match s,vC P u with
 | .d .str b,some _=>if isStr P t=true then K S (.d (.sl (.int .u8)) (b.map fun c=>(c.toNat:Int))) else none
 | _,_=>none
theorem Zs(h:Rel B F w0 wr pl S l ls w){t u:TypeId}{x:Operand}{s:SV}(hv:NQ P S t u s K=some r)(hx:Den pl (lx pl S.own++F) w s (ev l x))(hk:Hand B F w0 wr S.nt l ls d K r KK) :
  OW P ⟨d,.convert t u x,ty,pos,af,gd⟩ l w KK Q:=by
 unfold NQ at hv;split at hv
 ·rename_i b e hu
  split at hv
  ·rename_i ht
   obtain⟨h1,h2⟩:=xu hu;have hx:=jq hx;have hrun:=Lib.run_convert_string_bytes (P:=P) w t u e ⟨⟨b⟩⟩ (gu ht) h1 h2;have hf:Fz [] w (Lib.bytesWorld w e ⟨⟨b⟩⟩):=⟨rfl,rfl,rfl,by grind[Lib.bytesWorld_size],fun k hk _=>Lib.bytesWorld_at_old w e _ k hk⟩;refine iG (v:=.slice (some ⟨w.heap.size,0,none⟩) b.length (grownCap w b.length 0 e)) (w':=Lib.bytesWorld w e ⟨⟨b⟩⟩) ?_ (hk pl S _ _ _ (h.call hf) rfl ?_ hv)
   ·have hrun2:(convert t u (ev l x)).run P w = .ok (.slice (some ⟨w.heap.size,0,none⟩) b.length (grownCap w b.length 0 e)) (Lib.bytesWorld w e ⟨⟨b⟩⟩):=by rw[hx];exact hrun
    simp_all[execOp,Sem.run_bind,zJ,Sem.run_pure]
   ·refine uq (t:=.sl (.int .u8)) rfl ⟨some ⟨w.heap.size,0,none⟩,grownCap w b.length 0 e,by simp,by simp_all[List.length_map,grownCap_ge],fun _=>⟨w.heap.size,0,rfl,fun i y hy=>?_⟩⟩
    have hi:i<b.length:=by grind
    refine⟨by grind[Lib.bytesWorld_size],fun hm=>?_,[.int .u8 y],rfl,fun j v hj=>?_⟩
    ·have:=h.hL.lt w.heap.size hm
     omega
    ·have hj0:j=0:=by grind
     subst hj0;simp at hj;subst hj;have hc:=Lib.bytesWorld_cell w e ⟨⟨b⟩⟩ i hi;grind[rp,u8,bV,Ty.size,Option.map_eq_some_iff]
  grind
 grind
end
end Ev
end
noncomputable section
namespace Ev
open Go Go.RowKit Sx
theorem RowsOf.take{α:Type}{R:Rp α}{L:Lx}{w:World}:∀{xs:List α} {cells:List Value} (k:Nat),RowsOf R L w cells xs->RowsOf R L w (cells.take (k*R.size)) (xs.take k)
 | [],cells,k,h=>by have h:cells=[]:=h;simp_all
 | x::xs,cells,0,h=>by simp;rfl
 | x::xs,cells,k+1,⟨c,rest,e,h1,h2⟩=>by subst e;refine⟨c,rest.take (k*R.size),?_,h1,RowsOf.take k h2⟩;rw[Nat.succ_mul,List.take_append,R.len h1,List.take_of_length_le (by rw[R.len h1];omega),show k*R.size+R.size - R.size=k*R.size by omega]
theorem RowsOf.drop{α:Type}{R:Rp α}{L:Lx}{w:World}:∀{xs:List α} {cells:List Value} (k:Nat),RowsOf R L w cells xs->RowsOf R L w (cells.drop (k*R.size)) (xs.drop k)
 | [],cells,k,h=>by have h:cells=[]:=h;simp_all
 | x::xs,cells,0,h=>by simp_all
 | x::xs,cells,k+1,⟨c,rest,e,h1,h2⟩=>by subst e;have:=RowsOf.drop k h2;rw[Nat.succ_mul,List.drop_append,R.len h1,List.drop_of_length_le (by rw[R.len h1];omega),show k*R.size+R.size - R.size=k*R.size by omega];simp_all
section
variable {R:Type}{B:Nat->Prop}{F:Lx}{w0:Bs}{wr:Wr}{pl pl':List Place}{S S':St}{l l':List Value}{ls:List (List Value)}{w w':World}{L L' M:Lx}{P:Program}{d:Option Tmp}{ty:TypeId}{pos:String}{af:Array Edge}{gd:Option (Nat×Bool)}
 {Q:Exit->Act->World->Prop} {KK:List Value->World->Prop} {K:St->SV->Option R} {r:R}
theorem NR{α:Type}{Rr:Rp α}{own F:Lx}{e:TypeId}{b n c lo:Nat}{xs ys:List α}{vs:List Value}(hL:LOk B own F w)(hm:some b∈own)(hown:Ow Rr e (own++F) w (some ⟨b,0,none⟩) n c xs)(hy:RowsOf Rr (own++F) w vs ys)(hle:lo+ys.length≤xs.length) :
  ∃w',(storeCells ⟨b,lo*Rr.size,none⟩ vs).run P w = .ok () w'∧Stp B own own F [some b] w w'∧Ow Rr e (own++F) w' (some ⟨b,0,none⟩) n c (xs.take lo++ys++xs.drop (lo+ys.length)):=by
 obtain⟨rfl,cells,hr1,hr2⟩:=hown;rcases hr1.2 with ⟨hv',_⟩ | ⟨g,cap,cur,hv',_,hg,hnc,hcm,hcs,htk⟩
 ·grind
 ·simp at hv'
  obtain⟨rfl,rfl⟩:=hv';have hcl:cells.length=xs.length*Rr.size:=hr1.1;have hvl:=hy.len;have hcur:xs.length*Rr.size≤cur.size:=by grind
  have hmul:lo*Rr.size+ys.length*Rr.size≤xs.length*Rr.size:=by rw[<- Nat.add_mul];exact Nat.mul_le_mul_right _ hle
  have hst:=run_storeCells_at P b (lo*Rr.size) e vs 0 cur w hg (by omega) hy.one;simp only[Nat.add_zero]at hst
  have hf:Fz [some b] w (w.setRow b (cur.toList.take (lo*Rr.size)++vs++cur.toList.drop (lo*Rr.size+vs.length)).toArray) :=
   ⟨rfl,rfl,rfl,by simp,fun k hk hn=>setRow_other w b k _ (fun e=>hn (by simp[e]))⟩
  have hS:Stp B own own F [some b] w _:=Stp.store hL hm hf;have hrow:RowsOf Rr (own++F) w (cells.take (lo*Rr.size)++vs++cells.drop ((lo+ys.length)*Rr.size)) (xs.take lo++ys++xs.drop (lo+ys.length)):=((RowsOf.take lo hr2).append hy).append (RowsOf.drop _ hr2);have hnl:(xs.take lo++ys++xs.drop (lo+ys.length)).length=xs.length:=by grind
  refine⟨_,hst,hS,hnl.symm,_,⟨by grind,.inr ⟨b,c,_,by rfl,Nat.zero_le _,setRow_heap w b cur _ e (0,0) hg,by omega,hcm,?_,?_⟩⟩,hrow.step hf (fun k hk=>List.mem_append_left _ (hS.hM k hk)) hS.hs⟩
  ·grind
  ·rw[hnl]
   have hcurl:cur.toList=cells++cur.toList.drop (xs.length*Rr.size):=by grind[List.take_append_drop]
   have e4:cur.toList.take (lo*Rr.size)=cells.take (lo*Rr.size):=by grind
   have e5:cur.toList.drop (lo*Rr.size+vs.length)=cells.drop ((lo+ys.length)*Rr.size)++cur.toList.drop (xs.length*Rr.size):=by
    conv=>lhs;rw[hcurl]
    rw[hvl,<- Nat.add_mul,List.drop_append_of_le_length (by grind)]
   rw[e4,e5];show List.take _ (cells.take (lo*Rr.size)++vs++(cells.drop ((lo+ys.length)*Rr.size)++cur.toList.drop (xs.length*Rr.size)))=_;rw[<- List.append_assoc];have:=hrow.len;grind
def cpy{α:Type}(b:List α)(a:Int)(c:List α):List α:=b.take a.toNat++c++b.drop (a.toNat+c.length)
def Ub(own:List (Nat×Ent))(n:Nat)(s:SV):Option (Nat×Int×Int) :=
 match nz s with
 | .rowz i=>match get own i with
  | some (.row _ _ xs)=>some (i,0,xs.length)
  | _=>none
 | .sub i sz lo m=>if sz=n then some (i,lo,m) else none
 | _=>none
def yZ(P:Program)(S:St)(t:TypeId)(a s:SV)(K:St->SV->Option R):Option R :=
 match a with
 | .pb i o=>match get S.own i with
  | some (.row t0 e xs)=>if o=0 then (match Gy P t s,eG P t with
   | some ⟨t1,ys⟩,some n=>(fK (.sl t1) (.sl t0) ys).bind fun zs:List (Vl t0)=>need (eqi (xs.length:Int) (zs.length:Int)) (need (eqi (n:Int) ((zs.length*t0.size:Nat):Int)) (K { S with own:=dP i (.row t0 e zs) S.own,log:=i::S.log } (.k undef)))
   | _,_=>none) else none
  | _=>yU P S t a s K
 | _=>yU P S t a s K
theorem Am(h:Rel B F w0 wr pl S l ls w){t:TypeId}{x y:Operand}{a s:SV}(hv:yZ P S t a s K=some r)(hx:Den pl (lx pl S.own++F) w a (ev l x))(hy:Den pl (lx pl S.own++F) w s (ev l y))(hk:Hand B F w0 wr S.nt l ls d K r KK):OW P ⟨d,.store t x y,ty,pos,af,gd⟩ l w KK Q:=by
 unfold yZ at hv;split at hv
 ·rename_i i o
  split at hv
  ·rename_i t0 e xs hg
   split at hv
   ·rename_i ho
    subst ho;split at hv
    ·rename_i t1 ys n ha hn
     obtain⟨zs,hz,hv⟩:=bK hv;obtain⟨e1,hz⟩:=oM hz;cases e1;subst hz;obtain⟨hl,hv⟩:=bS hv;obtain⟨hsz,hv⟩:=bS hv;have hl:(xs.length:Int)=(ys.length:Int):=by simp_all[eqi]
     have hsz:(n:Int)=((ys.length*t0.size:Nat):Int):=by simp_all[eqi]
     obtain⟨us,h1,h2,h3,h4,_⟩:=EN ha hy;obtain⟨g,n1,c1,p1,p2⟩:=hx;obtain⟨p',p3,p4⟩:=h.ent _ (get_mem hg);rw[p1]at p3;cases p3;have hpl:plb pl i=some g:=fo p1;obtain⟨w',hst,hS,hO⟩:=NR (P:=P) (lo:=0) h.hL (by rw[<- hpl];exact List.mem_map_of_mem (f:=fun e:Nat×Ent=>plb pl e.1) (get_mem hg)) p4 h2 (by omega);have hul:=h2.len;rw[bV]at hul;have hrow:[].append ys++xs.drop ys.length=ys:=by show ys++xs.drop ys.length=ys;grind[List.drop_of_length_le]
     have hO':Ow (rp t0) e (lx pl S.own++F) w' (some ⟨g,0,none⟩) n1 c1 ys:=by simp_all[List.take_zero,List.nil_append,Nat.zero_add,List.drop_of_length_le,List.append_nil]
     have hr:=h.mod (e':=.row t0 e ys) hg (by simp_all) ⟨_,p1,hO'⟩;refine yM (w':=w') ?_ (hk pl _ (.k undef) undef w' hr rfl rfl hv);have hsize:(ev l y).cells.size=n:=by grind[Value.cells]
     have hcl:(ev l y).cells.toList=us:=by simp_all[Value.cells]
     simp only[Nat.zero_mul]at hst;simp only[execOp,p2,Instr.storeAt,Instr.sureAddr,storeVar,Sem.run_bind,Sem.run_pure,zJ,run_sizeOf hn,hsize,ne_eq,not_true_eq_false,if_false,hcl,hst]
    grind
   grind
  grind[xx]
 grind[xx]
def Uc(P:Program)(S:St)(t:TypeId)(s1 s2:SV)(K:St->SV->Option R):Option R :=
 match fq P t with
 | some (_,n)=>match Ub S.own n s1 with
  | some (i,lo,m)=>match get S.own i with
   | some (.row t0 e0 xs)=>match leaf (.sl t0) s2 with
    | some zs=>if t0.size=n then need (le (lo+m) xs.length) (K { S with own:=dP i (.row t0 e0 (cpy xs lo (zs.take m.toNat))) S.own,log:=i::S.log } (.d (.int .i64) ((zs.take m.toNat).length:Int))) else none
    | none=>none
   | _=>none
  | none=>none
 | none=>none
theorem abj{own:List (Nat×Ent)}(he:EntsD pl L w own){n i:Nat}{s:SV}{lo m:Int}{u:Value}(h:Ub own n s=some (i,lo,m))(hd:Den pl L w s u):0≤lo∧0≤m∧∃p a c,pl[i]? = some p∧u = .slice a m.toNat c∧(m≠0->∃g o,p.a=some ⟨g,o,none⟩∧a=some ⟨g,o+lo.toNat*n,none⟩):=by
 replace hd:=yP hd
 unfold Ub at h;generalize nz s=s at h hd;split at h
 ·split at h
  ·rename_i i' _ _ xs hg
   cases h
   obtain⟨p,h1,h2⟩:=hd;obtain⟨p',h3,h4⟩:=he.get hg;rw[h1]at h3;cases h3;have hlen:=h4.len;refine⟨Int.le_refl _,by omega,p,?_⟩;rcases h2 with h2 | ⟨q1,q2,q3,a,h2⟩
   ·refine⟨p.a,p.c,h1,by simp_all,fun hne=>?_⟩
    obtain⟨g,hg⟩:=h4.addr (i:=0) (by omega);simp_all
   simp_all
  grind
 ·split at h
  ·rename_i hs
   cases h
   subst hs;obtain⟨p,a,c,h1,h2,h3,_,h4,_,h5,_⟩:=hd;exact⟨h2,h3,p,a,c,h1,h4,fun hne=>(h5 (by omega)).2⟩
  grind
 grind
theorem abk(h:Rel B F w0 wr pl S l ls w){t t':TypeId}{x y:Operand}{s1 s2:SV}(hv:Uc P S t s1 s2 K=some r)(hx:Den pl (lx pl S.own++F) w s1 (ev l x))(hy:Den pl (lx pl S.own++F) w s2 (ev l y))(hk:Hand B F w0 wr S.nt l ls d K r KK) :
  OW P ⟨d,.call ⟨.builtin .copy,#[x,y],#[t,t']⟩,ty,pos,af,gd⟩ l w KK Q:=by
 unfold Uc at hv;split at hv
 ·rename_i e n hel
  obtain⟨he1,he2⟩:=jE hel;split at hv
  ·rename_i i lo m hdst
   split at hv
   ·rename_i t0 e0 xs hg
    split at hv
    ·rename_i zs hzs
     split at hv
     ·rename_i hsz
      obtain⟨hle,hv⟩:=bS hv;have hle:lo+m≤(xs.length:Int):=of_decide_eq_true hle;obtain⟨h0,hm0,p,a,c,hp,hu,ha⟩:=abj h.ent hdst hx;obtain⟨p',hp',hO⟩:=h.ent _ (get_mem hg);rw[hp]at hp';cases hp';obtain⟨a2,n2,c2,hu2,hsl⟩:=q8 (og (t:=.sl t0) rfl hzs hy);have hn2:=wY hsl;subst hn2;have hmin:Nat.min zs.length m.toNat=(zs.take m.toNat).length:=by grind
      have hread:∃vs,(Builtin.firstCells n (Nat.min zs.length m.toNat) (.slice a2 zs.length c2)).run P w = .ok vs.toArray w∧RowsOf (rp t0) (lx pl S.own++F) w vs (zs.take m.toNat):=by
       rw[hmin];by_cases hz:zs=[]
       ·subst hz
        refine⟨[],?_,by simp;rfl⟩;cases a2<;>simp[Builtin.firstCells,loadCells,loadCellsFrom]
       ·obtain⟨b,o,cells,rfl,_,h3,h4⟩:=lN hsl hz
        have ht:=RowsOf.take m.toNat h3;refine⟨_,?_,ht⟩;have hl:=ht.len;grind[run_loadCells_list,rp,List.getElem?_eq_some_iff,List.length_take,List.getElem?_take_of_lt,bV,Builtin.firstCells]
      obtain⟨vs,hvs1,hvs2⟩:=hread;have hlen0:(Builtin.lenOf (.slice a2 zs.length c2)).run P w = .ok zs.length w:=rfl
      have hfin:∀w',(∀a0,a=some a0->(storeCells a0 vs).run P w = .ok () w')->(a=none->w'=w)->(execOp (ev l) ⟨d,.call ⟨.builtin .copy,#[x,y],#[t,t']⟩,ty,pos,af,gd⟩).run P w = .ok (.value (.int .i64 ((zs.take m.toNat).length:Int))) w':=fun w' hs1 hs2=>by
       have hb:(Builtin.copy_ #[t,t'] ty #[ev l x,ev l y]).run P w = .ok (.int .i64 ((zs.take m.toNat).length:Int)) w':=by
        have hvs1':(Builtin.firstCells n (min m.toNat zs.length) (.slice a2 zs.length c2)).run P w = .ok vs.toArray w:=by simp_all
        unfold Builtin.copy_;rw[hu,hu2]
        cases a with
        | none =>
         have:=hs2 rfl;subst this;simp[run_underlying he1,hlen0,run_sizeOf he2,hvs1',goInt,hmin]
        | some a0=>simp[run_underlying he1,hlen0,run_sizeOf he2,hvs1',hs1 a0 rfl,goInt,hmin]
       simp_all[execOp,resolve,invoke,builtin,Sem.run_bind,Sem.run_pure,zJ,List.map_toArray,List.map_cons,List.map_nil]
      by_cases hm:m=0
      ·subst hm
       have hnil:zs.take (0:Int).toNat=[]:=by simp
       have hvs0:vs=[]:=by rw[hnil]at hvs2;exact hvs2
       subst hvs0;have hcpy:cpy xs lo (zs.take (0:Int).toNat)=xs:=by unfold cpy;simp
       rw[hcpy]at hv;refine iG (hfin w (fun a0 _=>by rfl) (fun _=>rfl)) ?_
       have hr:=h.mod (e':=.row t0 e0 xs) hg (w':=w) ⟨Fz.refl _ _,fun k hk=>by
        simp at hk;rw[hk]
        exact List.mem_map_of_mem (f:=fun e:Nat×Ent=>plb pl e.1) (get_mem hg),Sub.refl _ _,h.hL⟩ ⟨p,hp,hO⟩
       exact hk pl _ _ _ w hr rfl (dM _ _) hv
      ·obtain⟨g,o,hga,rfl⟩:=ha hm
       obtain⟨_,hb0⟩:=hO.addr (i:=0) (by omega);rw[hga]at hb0;cases hb0;rw[Nat.zero_add]at hu hfin;obtain⟨pa,pn,pc⟩:=p;simp only at hga hO;subst hga
       have hmem:some g∈lx pl S.own:=by
        have:plb pl i=some g:=by rw[fo hp];rfl
        rw[<- this];exact List.mem_map_of_mem (f:=fun e:Nat×Ent=>plb pl e.1) (get_mem hg)
       obtain⟨w',hst,hS,hO'⟩:=NR (P:=P) (lo:=lo.toNat) h.hL hmem hO hvs2 (by grind);rw[bV,hsz]at hst;refine iG (hfin w' (fun a0 e=>by simp_all) (fun e=>by cases e)) ?_;have hpl:plb pl i=some g:=by rw[fo hp];rfl
       have hr:=h.mod (e':=.row t0 e0 (cpy xs lo (zs.take m.toNat))) hg (by simp_all) ⟨_,hp,hO'⟩;exact hk pl _ _ _ w' hr rfl (dM _ _) hv
     grind
    grind
   grind
  grind
 grind
end
end Ev
end
