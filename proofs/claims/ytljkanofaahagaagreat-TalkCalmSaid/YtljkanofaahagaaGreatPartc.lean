/- Proved in the last of these 16 parts (this is part 3): TalkCalm. Conditions: those of the given statement, and no others. -/
import Derived.Test.YtljkanofaahagaaGreatPartb
import Derived.ChangeKeysEq
import Derived.Test.YtljkanofaahagaaGreatParta
import Derived.Lib.UnsafeStr
import Derived.Maps.RangeRun
import Derived.ArgAppend
set_option linter.unusedVariables false
set_option linter.unusedSimpArgs false
set_option linter.unusedSectionVars false
open List renaming replicate → zE, mem_cons_of_mem → zT
open Go.Result renaming andThen_ok → zL
open Bool renaming and_eq_true → zO
noncomputable section
namespace Ev
open Go Go.RowKit Sx
section
variable {R:Type}{B:Nat->Prop}{F:Lx}{w0:Bs}{wr:Wr}{pl pl':List Place}{S S':St}{l l':List Value}{ls:List (List Value)}{w w':World}{L L' M:Lx}{P:Program}{d:Option Tmp}{ty:TypeId}{pos:String}{af:Array Edge}{gd:Option (Nat×Bool)}
 {Q:Exit->Act->World->Prop} {KK:List Value->World->Prop} {K:St->SV->Option R} {r:R}
def UW(S:St):List (Nat×Operand)->Option (List (Nat×List SV))
 | []=>some []
 | (i,x)::q=>(opv S x).bind fun s=>(Gv s).bind fun c=>(UW S q).map fun r=>(i,c)::r
theorem Ik(hf:FrD pl L w S.fr l):∀{q:List (Nat×Operand)} {c:List (Nat×List SV)},UW S q=some c->Nl pl L w c (q.map fun p=>(p.1,ev l p.2))
 | [],c,h=>by cases h;rfl
 | (i,x)::q,c,h=>by obtain⟨s,h1,h⟩:=iD h;obtain⟨cs,h2,h⟩:=iD h;obtain⟨r,h3,rfl⟩:=Option.map_eq_some_iff.1 h;obtain⟨h4,h5⟩:=Bt (gz hf h1) h2;exact⟨(i,ev l x),q.map fun p=>(p.1,ev l p.2),rfl,rfl,h4,h5,Ik hf h3⟩
def ae5(P:Program):List Field->Option (List (Nat×Nat))
 | []=>some []
 | f::q=>(jX P f.type).bind fun n=>(ae5 P q).map fun r=>(f.offset,n)::r
theorem Tm:∀{fs:List Field} {r:List (Nat×Nat)},ae5 P fs=some r->(fs.mapM fun f=>(do pure (f.offset,<- Go.sizeOf f.type):Sem (Nat×Nat))).run P w = .ok r w
 | [],r,h=>by cases h;rfl
 | f::q,r,h=>by obtain⟨n,h1,h⟩:=iD h;obtain⟨r',h2,rfl⟩:=Option.map_eq_some_iff.1 h;rw[List.mapM_cons];simp only[Sem.run_bind,mH h1,zL,Sem.run_pure,Tm h2]
def acX:List SV->Bool
 | []=>false
 | .k (.slice none 0 0)::_=>true
 | _::q=>acX q
def shut(P:Program)(t:TypeId)(cs:List SV):SV :=
 match tyc P t with
 | some y=>if y.agg && !acX cs then (match pk y cs with
  | some (x,[])=>.d y x
  | _=>.agg cs) else .agg cs
 | none=>.agg cs
theorem ae6{t:TypeId}{cs:List SV}{us:List Value}(hd:DenL pl L w cs us)(h1:∀v∈us,v.oneCell'=true):Den pl L w (shut P t cs) (.agg us.toArray):=by
 unfold shut;split
 ·rename_i y hy
  split
  ·rename_i ha
   have ha:=(Bool.and_eq_true_iff.1 ha).1;split
   ·rename_i x hpk
    obtain⟨c,v,e,h3,h4⟩:=oG hpk hd;cases h4;rw[List.append_nil]at e;rw[e];exact⟨c,h3,by simp[Rp.val,iQ,ha]⟩
   ·exact⟨us,hd,h1,rfl⟩
  ·exact⟨us,hd,h1,rfl⟩
 ·exact⟨us,hd,h1,rfl⟩
def DJ(P:Program)(t:TypeId):Option (List Value):=match (P.info? t).bind (·.zero) with
 | some z=>if z.cells.toList.all Value.oneCell'=true then some z.cells.toList else none
 | none=>none
theorem rM{t:TypeId}{us:List Value}(h:DJ P t=some us):∃z,(zeroValue t).run P w = .ok z w∧z.cells=us.toArray∧∀v∈us,v.oneCell'=true:=by
 unfold DJ at h;split at h
 ·rename_i z hz
  split at h
  ·rename_i h1
   cases h
   cases hi:P.info? t with
   | none=>simp_all
   | some i =>
    simp[hi]at hz;refine⟨z,by simp_all[zeroValue,typeInfo,Sem.run],by simp,List.all_eq_true.1 h1⟩
  grind
 grind
def Nn(P:Program)(S:St)(t:TypeId)(q:List (Nat×Operand))(KV:SV->List Nat->Option R):Option R :=
 match DJ P t,UW S q with
 | some zs,some c=>match P.underlying t with
  | some (.struct fs)=>match ae5 P fs.toList with
   | some ps=>match DF (ps[·]?) (zs.map ofV) c with
    | some cs=>KV (shut P t cs) []
    | none=>none
   | none=>none
  | some (.array _ e)=>match jX P e with
   | some n=>match DF (fun i=>some (i*n,n)) (zs.map ofV) c with
    | some cs=>KV (.agg cs) []
    | none=>none
   | none=>none
  | _=>none
 | _,_=>none
theorem acY(hf:FrD pl L w S.fr l){t:TypeId}{q:Array (Nat×Operand)}{KV:SV->List Nat->Option R}(h:Nn P S t q.toList KV=some r) :
  ∃s rd,KV s rd=some r∧Yv P pl L w l ⟨d,.build t q,ty,pos,af,gd⟩ s rd:=by
 unfold Nn at h;split at h
 ·rename_i zs c hz hc
  have hp:=Ik hf hc;have hmap:(q.map fun p=>(p.1,ev l p.2)).toList=q.toList.map fun p=>(p.1,ev l p.2):=by simp
  split at h
  ·rename_i fs hu
   split at h
   ·rename_i ps hps
    split at h
    ·rename_i cs hfill
     have hone:∀v∈zs,v.oneCell'=true:=by obtain⟨_,_,_,h3⟩:=rM (w:=w) hz;exact h3
     obtain⟨us,h1,h2,h3⟩:=DI hfill (pO zs) hone hp;refine⟨_,_,h,Yv.of (ae6 h2 h3) (fun w'=>?_)⟩;obtain⟨z,h4,h5,_⟩:=rM (w:=w') hz;have hm:(fs.mapM fun f=>(do pure (f.offset,<- Go.sizeOf f.type):Sem (Nat×Nat))).run P w' = .ok ps.toArray w':=by have:=Tm (w:=w') hps;rw[<- Array.toArray_toList (xs:=fs),List.mapM_toArray];show ((fs.toList.mapM fun f=>(do pure (f.offset,<- Go.sizeOf f.type):Sem (Nat×Nat))) >>= (fun r=>(pure r.toArray:Sem (Array (Nat×Nat))))).run P w'=_;rw[Sem.run_bind,this];rfl
     have hb:(Instr.build t (q.map fun p=>(p.1,ev l p.2))).run P w' = .ok (.agg us.toArray) w':=by
      unfold Instr.build;simp only[Sem.run_bind,h4,zL,run_underlying hu,hm,hmap,h5];have e:(fun x:Nat=>ps.toArray[x]?)=fun x=>ps[x]?:=by funext x;simp
      rw[e,h1];simp
     have e2:(q.map fun (i,x)=>(i,ev l x))=q.map fun p=>(p.1,ev l p.2):=rfl;simp only[execOp,Sem.run_bind,e2,hb,zL,Sem.run_pure]
    ·cases h
   ·cases h
  ·rename_i m e hu
   split at h
   ·rename_i n hn
    split at h
    ·rename_i cs hfill
     have hone:∀v∈zs,v.oneCell'=true:=by obtain⟨_,_,_,h3⟩:=rM (w:=w) hz;exact h3
     obtain⟨us,h1,h2,h3⟩:=DI hfill (pO zs) hone hp;refine⟨_,_,h,Yv.of (s:=.agg cs) ⟨us,h2,h3,rfl⟩ (fun w'=>?_)⟩;obtain⟨z,h4,h5,_⟩:=rM (w:=w') hz;have hb:(Instr.build t (q.map fun p=>(p.1,ev l p.2))).run P w' = .ok (.agg us.toArray) w':=by unfold Instr.build;simp only[Sem.run_bind,h4,zL,run_underlying hu,mH hn,hmap,h5,h1,Sem.run_pure]
     have e2:(q.map fun (i,x)=>(i,ev l x))=q.map fun p=>(p.1,ev l p.2):=rfl;simp only[execOp,Sem.run_bind,e2,hb,zL,Sem.run_pure]
    ·cases h
   ·cases h
  ·cases h
 ·cases h
def pkN(t:Ty):Nat->List SV->Option (List (Vl t))
 | 0,[]=>some []
 | 0,_=>none
 | n+1,l=>(pk t l).bind fun p=>(pkN t n p.2).map fun q=>p.1::q
theorem Il{t:Ty}:∀{n:Nat} {l:List SV} {us:List Value} {xs:List (Vl t)},pkN t n l=some xs->DenL pl L w l us->RowsOf (rp t) L w us xs∧xs.length=n
 | 0,[],us,xs,h,hd=>by cases h;cases hd;exact⟨rfl,rfl⟩
 | 0,_::_,us,xs,h,hd=>by cases h
 | n+1,l,us,xs,h,hd=>by obtain⟨p,h1,h⟩:=iD h;obtain⟨q,h2,rfl⟩:=Option.map_eq_some_iff.1 h;obtain⟨cs,vs,rfl,h3,h4⟩:=oG (x:=p.1) (r:=p.2) h1 hd;obtain⟨h5,h6⟩:=Il h2 h4;exact⟨⟨cs,vs,rfl,h3,h5⟩,by grind⟩
def yQ(zs:List Value)(m:Nat):List Value:=((Array.range m).map (zs.toArray[·% zs.toArray.size]!)).toList
def ae7(P:Program)(S:St)(t:TypeId)(len:Nat)(q:List (Nat×Operand))(K:St->SV->Option R):Option R :=
 match lX P t with
 | some (e,n)=>match ny P e,DJ P e,UW S q with
  | some ⟨t0,_⟩,some zs,some c=>if len*n≤16777216∧len≤1073741824∧t0.size=n∧(yQ zs (len*n)).all Value.oneCell'=true then
    match DF (fun i=>some (i*n,n)) ((yQ zs (len*n)).map SV.k) c with
    | some cs=>match pkN t0 len cs with
     | some xs=>K { S with own:=(S.nx,.row t0 e xs)::S.own,nx:=S.nx+1 } (.row S.nx)
     | none=>none
    | none=>none
   else none
  | _,_,_=>none
 | none=>none
theorem acZ:∀l:List Value,DenL pl L w (l.map SV.k) l
 | []=>rfl
 | v::r=>⟨v,r,rfl,rfl,acZ r⟩
theorem arZ(h:Rel B F w0 wr pl S l ls w){t:TypeId}{len:Nat}{q:Array (Nat×Operand)}(hv:ae7 P S t len q.toList K=some r)(hk:Hand B F w0 wr S.nt l ls d K r KK):OW P ⟨d,.buildSlice t len q,ty,pos,af,gd⟩ l w KK Q:=by
 unfold ae7 at hv;split at hv
 ·rename_i e n hel
  split at hv
  ·rename_i t0 z zs c hr hz hc
   split at hv
   ·rename_i hcond
    split at hv
    ·rename_i cs hfill
     split at hv
     ·rename_i xs hxs
      obtain⟨he1,he2⟩:=jD hel;have hp:=Ik h.fr hc;obtain⟨us,h1,h2,h3⟩:=DI hfill (acZ _) (List.all_eq_true.1 hcond.2.2.2) hp;obtain⟨h4,h5⟩:=Il hxs h2;obtain⟨z',h6,h7,_⟩:=rM (w:=w) hz;have hmap:(q.map fun p=>(p.1,ev l p.2)).toList=q.toList.map fun p=>(p.1,ev l p.2):=by simp
      have hrun:(Instr.buildSlice t len (q.map fun p=>(p.1,ev l p.2))).run P w = .ok (.slice (some ⟨w.heap.size,0,none⟩) len len) (w.alloc (.cells us.toArray e)):=by
       unfold Instr.buildSlice;have hle:¬ len*n > 2 ^ 24:=by omega
       by_cases h0:len*n=0
       ·have hus:us=[]:=by have:=h4.len;rw[h5,jc,hcond.2.2.1,h0]at this;exact List.eq_nil_of_length_eq_zero this
        have e0:(yQ zs (len*n))=[]:=by rw[h0];simp[yQ]
        rw[e0]at h1;simp only[Sem.run_bind,run_underlying he1,zL,mH he2,h0,if_true,hmap,newRow,newObj];simp only[Nat.not_lt_zero,gt_iff_lt,if_false,Sem.run_pure,zL];have e1:(Array.range 0).map (fun x=>(#[]:Array Value)[x%(#[]:Array Value).size]!)=([]:List Value).toArray:=by simp
        simp only[show Array.range 0 = #[] from rfl,Sem.run_bind,Sem.run_pure,zL,Array.map_empty,h1,hus];simp[Sem.run]
       ·have e1:(Array.range (len*n)).map (fun x=>zs.toArray[x%zs.toArray.size]!)=(yQ zs (len*n)).toArray:=by simp only[yQ,Array.toArray_toList]
        simp only[Sem.run_bind,run_underlying he1,zL,mH he2,if_neg h0,h6,h7,hmap,newRow,newObj];rw[if_neg (by omega)];simp only[Sem.run_bind,h6,zL,Sem.run_pure,h7,e1,h1];simp[Sem.run]
      have hr2:(execOp (ev l) ⟨d,.buildSlice t len q,ty,pos,af,gd⟩).run P w = .ok (.value (.slice (some ⟨w.heap.size,0,none⟩) len len)) (w.alloc (.cells us.toArray e)):=by have e2:(q.map fun (i,x)=>(i,ev l x))=q.map fun p=>(p.1,ev l p.2):=rfl;simp only[execOp,Sem.run_bind,e2,hrun,zL,Sem.run_pure]
      refine atd rfl h.hL hr2 h4 h5 hcond.2.1 (fun a n' c' w' hS hO=>?_);have hr3:=h.push ⟨a,n',c'⟩ (.row t0 e xs) hS ⟨_,jF _,hO⟩;exact hk _ _ (.row S.nx) _ w' hr3 rfl ⟨⟨a,n',c'⟩,by rw[h.nx];exact jF _,rfl⟩ hv
     ·cases hv
    ·cases hv
   ·cases hv
  ·cases hv
 ·cases hv
end
end Ev
end
noncomputable section
namespace Ev
open Go Go.RowKit Sx
mutual
def idS:SV->List Nat
 | .row i=>[i]
 | .sub i _ _ _=>[i]
 | .rowz i=>[i]
 | .sd i=>[i]
 | .pb i _=>[i]
 | .prw i _ _ _=>[i]
 | .pra i _ _ _ _ _ _ _=>[i]
 | .mp i=>[i]
 | .opb _ i _=>[i]
 | .agg l=>idL l
 | .tup l=>idL l
 | .fn _ a b=>idL a++idL b
 | .ifc _ v=>idS v
 | .k _=>[]
 | .d _ _=>[]
 | .dx _ _=>[]
 | .pe _ _=>[]
def idL:List SV->List Nat
 | []=>[]
 | s::q=>idS s++idL q
end
mutual
def lZ(f:Nat->Nat):SV->SV
 | .row i=>.row (f i)
 | .sub i sz lo n=>.sub (f i) sz lo n
 | .rowz i=>.rowz (f i)
 | .sd i=>.sd (f i)
 | .pb i o=>.pb (f i) o
 | .prw i a b c=>.prw (f i) a b c
 | .pra i a b c m ft k o2=>.pra (f i) a b c m ft k o2
 | .mp i=>.mp (f i)
 | .opb b i o=>.opb b (f i) o
 | .agg l=>.agg (xX f l)
 | .tup l=>.tup (xX f l)
 | .fn g a b=>.fn g (xX f a) (xX f b)
 | .ifc t v=>.ifc t (lZ f v)
 | .k v=>.k v
 | .d t x=>.d t x
 | .dx t x=>.dx t x
 | .pe t x=>.pe t x
def xX(f:Nat->Nat):List SV->List SV
 | []=>[]
 | s::q=>lZ f s::xX f q
end
section
variable {pl pl':List Place}{L L':Lx}{w w':World}{f:Nat->Nat}
mutual
theorem zy:∀{s:SV} {u:Value},(∀i∈idS s,pl'[f i]? = pl[i]?)->Den pl L w s u->Den pl' L w (lZ f s) u
 | .k v,u,_,h=>by simp only[lZ];exact h
 | .d t x,u,_,h=>by simp only[lZ];exact h
 | .dx t x,u,_,h=>by simp only[lZ];exact h
 | .sd j,u,hf,⟨p,q,h1,h2⟩=>by simp only[lZ];exact⟨p,q,by simp_all[idS],h2⟩
 | .rowz j,u,hf,⟨p,h1,h2⟩=>by simp only[lZ];exact⟨p,by simp_all[idS],h2⟩
 | .row j,u,hf,⟨p,h1,h2⟩=>by simp only[lZ];exact⟨p,by simp_all[idS],h2⟩
 | .sub i sz lo n,u,hf,⟨p,a,c,h1,h2⟩=>by simp only[lZ];exact⟨p,a,c,by simp_all[idS],h2⟩
 | .pb i o,u,hf,⟨g,n,c,h1,h2⟩=>by simp only[lZ];exact⟨g,n,c,by simp_all[idS],h2⟩
 | .prw i j sz o,u,hf,⟨g,b,n,c,h1,h2⟩=>by simp only[lZ];exact⟨g,b,n,c,by simp_all[idS],h2⟩
 | .pra i j sz o m ft k o2,u,hf,⟨g,b,n,c,h1,h2⟩=>by simp only[lZ];exact⟨g,b,n,c,by simp_all[idS],h2⟩
 | .pe t x,u,_,h=>by simp only[lZ];exact h
 | .opb b i o,u,hf,⟨h,h'⟩=>by simp only[lZ];exact⟨fun hb=>by simp_all[idS],h'⟩
 | .mp i,u,hf,⟨g,n,c,h1,h2⟩=>by simp only[lZ];exact⟨g,n,c,by simp_all[idS],h2⟩
 | .agg l,u,hf,⟨us,h1,h2⟩=>by simp only[lZ];exact⟨us,nY (fun i hi=>hf i (by simp_all[idS])) h1,h2⟩
 | .tup l,u,hf,⟨us,h1,h2⟩=>by simp only[lZ];exact⟨us,nY (fun i hi=>hf i (by simp_all[idS])) h1,h2⟩
 | .fn g a b,u,hf,⟨us,vs,h1,h2,h3⟩=>by simp only[lZ];exact⟨us,vs,nY (fun i hi=>hf i (by simp_all[idS,List.mem_append])) h1,nY (fun i hi=>hf i (by simp_all[idS,List.mem_append])) h2,h3⟩
 | .ifc t v,u,hf,⟨u',h1,h2⟩=>by simp only[lZ];exact⟨u',zy (fun i hi=>hf i (by simp_all[idS])) h1,h2⟩
theorem nY:∀{s:List SV} {us:List Value},(∀i∈idL s,pl'[f i]? = pl[i]?)->DenL pl L w s us->DenL pl' L w (xX f s) us
 | [],us,_,h=>h
 | s::q,us,hf,⟨v,vs,h1,h2,h3⟩=>⟨v,vs,h1,zy (fun i hi=>hf i (by simp_all[idL,List.mem_append])) h2,nY (fun i hi=>hf i (by simp_all[idL,List.mem_append])) h3⟩
end
end
def idM{α:Type}:List (Nat×α×SV)->List Nat
 | []=>[]
 | (_,_,s)::q=>idS s++idM q
def idE:Ent->List Nat
 | .row _ _ _=>[]
 | .box _ cs=>idL cs
 | .dm _ _ _=>[]
 | .sm _ _ es=>idM es
 | .it m _ _=>[m]
 | .itd _ _ _ _=>[]
 | .que _ _ _=>[]
 | .rowo _ _ _ _ cs=>idL cs
 | .rowq _ _ _ cs=>idL cs
def ae8{α:Type}(f:Nat->Nat):List (Nat×α×SV)->List (Nat×α×SV)
 | []=>[]
 | (a,b,s)::q=>(a,b,lZ f s)::ae8 f q
def Im(f:Nat->Nat):Ent->Ent
 | .row t e xs=>.row t e xs
 | .box T cs=>.box T (xX f cs)
 | .dm kt vt xs=>.dm kt vt xs
 | .sm kt cl es=>.sm kt cl (ae8 f es)
 | .it m cl seen=>.it (f m) cl seen
 | .itd kt vt cur rest=>.itd kt vt cur rest
 | .que t e xs=>.que t e xs
 | .rowo t e b xs cs=>.rowo t e b xs (xX f cs)
 | .rowq e us k cs=>.rowq e us k (xX f cs)
theorem Np{pl pl':List Place}{L:Lx}{w:World}{f:Nat->Nat}{kt:Ty}:∀{vs:List MapEntry} {xs:List (Nat×Vl kt×SV)},(∀i∈idM xs,pl'[f i]? = pl[i]?)->SmD pl L w vs xs->SmD pl' L w vs (ae8 f xs)
 | [],_,_,h=>by have h:_=_:=h;subst h;rfl
 | _::_,_,hf,⟨b,q,h1,h2,h3,h4,h5⟩=>by subst h1;exact⟨_,_,rfl,h2,h3,zy (fun i hi=>hf i (by simp_all[idM,List.mem_append])) h4,Np (fun i hi=>hf i (by simp_all[idM,List.mem_append])) h5⟩
theorem Nq{pl pl':List Place}{L:Lx}{w:World}{f:Nat->Nat}{i:Nat}{e:Ent}(hf:∀j∈idE e,pl'[f j]? = pl[j]?)(hi:pl'[f i]? = pl[i]?)(h:EntD pl L w i e):EntD pl' L w (f i) (Im f e):=by
 cases e with
 | row t e xs=>obtain⟨p,h2,h3⟩:=h;exact⟨p,by simp_all,h3⟩
 | box T cs=>obtain⟨g,n,c,us,h2,h3,h4,h5⟩:=h;exact⟨g,n,c,us,by simp_all,h3,nY hf h4,h5⟩
 | dm kt vt xs=>obtain⟨g,n,c,us,h2,h3⟩:=h;exact⟨g,n,c,us,by simp_all,h3⟩
 | sm kt cl es=>obtain⟨g,n,c,us,h2,h3,h4⟩:=h;exact⟨g,n,c,us,by simp_all,h3,Np hf h4⟩
 | que t e xs=>obtain⟨p,h2,h3⟩:=h;exact⟨p,by simp_all,h3⟩
 | itd kt vt cur rest=>obtain⟨g,n,c,b,es,cl,seen,vs,cvs,h2,h3⟩:=h;exact⟨g,n,c,b,es,cl,seen,vs,cvs,by simp_all,h3⟩
 | it m cl seen=>obtain⟨g,n,c,g',n',c',h2,h3,h4⟩:=h;exact⟨g,n,c,g',n',c',by simp_all,by simp_all[idE],h4⟩
 | rowo t e b xs cs=>obtain⟨p,ro,us,h2,h3,h4,h5⟩:=h;exact⟨p,ro,us,by simp_all,h3,h4,fun hb=>nY hf (h5 hb)⟩
 | rowq e us k cs=>obtain⟨g,n,c,u,h1,h2,h3,h4,h5,h6⟩:=h;exact⟨g,n,c,u,by simp_all,h2,h3,h4,h5,nY hf h6⟩
def nodup:List Nat->Bool
 | []=>true
 | i::q=>!q.contains i && nodup q
theorem zU:∀{q:List Nat},nodup q=true->q.Nodup
 | [],_=>.nil
 | i::q,h=>by simp only[nodup,zO,Bool.not_eq_true']at h;exact List.nodup_cons.2 ⟨by simpa using h.1,zU h.2⟩
section
variable {B:Nat->Prop}{F:Lx}{pl:List Place}{w:World}
theorem LOk.apart2{own:List (Nat×Ent)}(hL:LOk B (lx pl own) F w){i j:Nat}{e e':Ent}(hi:get own i=some e)(hj:get own j=some e')(hne:i≠j){k:Nat}(hk:plb pl i=some k):plb pl j≠some k:=fun hk'=>by
 obtain⟨pre,post,h1,_⟩:=lu hi;have hx:(j,e')∈pre∨(j,e')∈post:=by have:=iI hj;grind
 rw[h1]at hL;exact others hL hx k hk' (by grind)
end
end Ev
end
noncomputable section
namespace Ev
open Go Go.RowKit Sx
abbrev DV:=List ((t:Ty)×Vl t)
@[reducible] def As:List Ty->Type
 | []=>Unit
 | a::r=>Vl a×As r
def sP:(ps:List Ty)->As ps->DV
 | [],_=>[]
 | a::r,x=>⟨a,x.1⟩::sP r x.2
def Nr:(ps:List Ty)->DV->Option (As ps)
 | [],[]=>some ()
 | a::r,⟨t,x⟩::q=>(ji t a x).bind fun y=>(Nr r q).map fun z=>(y,z)
 | _,_=>none
theorem Io:∀{ps:List Ty} {d:DV} {x:As ps},Nr ps d=some x->sP ps x=d
 | [],[],x,h=>rfl
 | a::r,⟨t,y⟩::q,x,h=>by obtain⟨z,h1,h⟩:=iD h;obtain⟨v,h2,rfl⟩:=Option.map_eq_some_iff.1 h;obtain⟨e,h1⟩:=qC h1;subst e;subst h1;show ⟨t,y⟩::sP r v=_;rw[Io h2]
 | [],_::_,x,h=>by cases h
 | _::_,[],x,h=>by cases h
theorem qR(t:Ty)(x:Vl t):ji t t x=some x:=by unfold ji;simp
inductive TS where
 | d (t:Ty)
 | k (v:Value)
 | row (i:Nat)
 | rowz (i:Nat)
 | sub (i sz:Nat)
 | pb (i o:Nat)
 | opb (i:Nat)
 | mp (i:Nat)
 | pe (t:Ty)
 | fn (f:Fn) (a b:List TS)
 | ifc (t:TypeId) (v:TS)
 | agg (l:List TS)
 | agp (q:List (Ty ⊕ Nat))
inductive SG where
 | d (t:Ty)
 | s (x:TS)
inductive TE where
 | row (t:Ty) (e:TypeId)
 | box (T:TypeId) (cs:List TS)
 | dm (kt vt:Ty)
 | sm (kt:Ty) (cl:Nat) (es:List (Nat×Vl kt×TS))
 | que (t:Ty) (e:TypeId)
 | bsg (T:TypeId) (q:List SG)
def fP:List (Ty ⊕ Nat)->DV->Option (List SV×DV)
 | [],r=>some ([],r)
 | .inl t::q,r=>match r with
  | ⟨t',x⟩::r=>(ji t' t x).bind fun y=>(unp t y).bind fun l=>(fP q r).map fun s=>(l++s.1,s.2)
  | []=>none
 | .inr i::q,r=>(fP q r).map fun s=>(.row i::s.1,s.2)
mutual
def fS:TS->DV->Option (SV×DV)
 | .d t,r=>match r with
  | ⟨t',x⟩::r=>(ji t' t x).map fun y=>(.d t y,r)
  | []=>none
 | .k v,r=>some (.k v,r)
 | .row i,r=>some (.row i,r)
 | .rowz i,r=>some (.rowz i,r)
 | .sub i sz,r=>match r with
  | ⟨t',x⟩::⟨t2,y⟩::r=>(ji t' (.int .i64) x).bind fun a=>(ji t2 (.int .i64) y).map fun b=>(.sub i sz a b,r)
  | _=>none
 | .pb i o,r=>some (.pb i o,r)
 | .opb i,r=>match r with
  | ⟨t',x⟩::r=>(ji t' .bool x).map fun y=>(.opb y i 0,r)
  | []=>none
 | .mp i,r=>some (.mp i,r)
 | .pe t,r=>match r with
  | ⟨t',x⟩::r=>(ji t' t x).map fun y=>(.pe t y,r)
  | []=>none
 | .fn f a b,r=>(fL a r).bind fun p=>(fL b p.2).map fun q=>(.fn f p.1 q.1,q.2)
 | .ifc t v,r=>(fS v r).map fun p=>(.ifc t p.1,p.2)
 | .agg l,r=>(fL l r).map fun p=>(.agg p.1,p.2)
 | .agp q,r=>(fP q r).map fun p=>(.agg p.1,p.2)
def fL:List TS->DV->Option (List SV×DV)
 | [],r=>some ([],r)
 | t::q,r=>(fS t r).bind fun p=>(fL q p.2).map fun s=>(p.1::s.1,s.2)
end
def fM{kt:Ty}:List (Nat×Vl kt×TS)->DV->Option (List (Nat×Vl kt×SV)×DV)
 | [],r=>some ([],r)
 | (b,k,t)::q,r=>(fS t r).bind fun p=>(fM q p.2).map fun s=>((b,k,p.1)::s.1,s.2)
def fG:List SG->DV->Option (List SV×DV)
 | [],r=>some ([],r)
 | .d t::q,r=>match r with
  | ⟨t',x⟩::r=>(ji t' t x).bind fun y=>(unp t y).bind fun l=>(fG q r).map fun s=>(l++s.1,s.2)
  | []=>none
 | .s x::q,r=>(fS x r).bind fun p=>(fG q p.2).map fun s=>(p.1::s.1,s.2)
def fE:TE->DV->Option (Ent×DV)
 | .row t e,r=>match r with
  | ⟨t',x⟩::r=>(ji t' (.sl t) x).map fun y=>(.row t e y,r)
  | []=>none
 | .box T cs,r=>(fL cs r).map fun p=>(.box T p.1,p.2)
 | .dm kt vt,r=>match r with
  | ⟨t',x⟩::r=>(ji t' (.sl (.pr kt vt)) x).map fun y=>(.dm kt vt y,r)
  | []=>none
 | .sm kt cl es,r=>(fM es r).map fun p=>(.sm kt cl p.1,p.2)
 | .que t e,r=>match r with
  | ⟨t',x⟩::r=>(ji t' (.sl t) x).map fun y=>(.que t e y,r)
  | []=>none
 | .bsg T q,r=>(fG q r).map fun p=>(.box T p.1,p.2)
def fEs:List (Nat×TE)->DV->Option (List (Nat×Ent)×DV)
 | [],r=>some ([],r)
 | (i,t)::q,r=>(fE t r).bind fun p=>(fEs q p.2).map fun s=>((i,p.1)::s.1,s.2)
def fA(as:List TS)(es:List (Nat×TE))(d:DV):Option (List SV×List (Nat×Ent)) :=
 (fL as d).bind fun p=>(fEs es p.2).bind fun q=>match q.2 with
  | []=>some (p.1,q.1)
  | _::_=>none
structure Mt where
 bd:List (Nat×Option Nat)
 ds:DV
def bnd(m:Mt)(i j:Nat):Option Mt :=
 match get m.bd i with
 | some j'=>if j'=some j then some m else none
 | none=>some { m with bd:=m.bd++[(i,some j)] }
def UX(m:Mt)(i:Nat):Option Mt :=
 match get m.bd i with
 | some _=>none
 | none=>some { m with bd:=m.bd++[(i,none)] }
def nA(m:Mt)(t:Ty)(x:Vl t):Mt:={ m with ds:=m.ds++[⟨t,x⟩] }
def kEq:Value->Value->Bool
 | .slice none 0 0,.slice none 0 0=>true
 | .pointer none,.pointer none=>true
 | .map none,.map none=>true
 | .nilIface,.nilIface=>true
 | .nilFunc,.nilFunc=>true
 | .tuple ⟨[]⟩,.tuple ⟨[]⟩=>true
 | _,_=>false
theorem atr{u v:Value}(h:kEq u v=true):u=v:=by unfold kEq at h;grind
def mP:List (Ty ⊕ Nat)->List SV->Mt->Option Mt
 | [],[],m=>some m
 | [],_::_,_=>none
 | .inl t::q,cs,m=>(pk t cs).bind fun p=>mP q p.2 (nA m t p.1)
 | .inr i::q,cs,m=>match cs with
  | .row j::r=>(bnd m i j).bind fun m=>mP q r m
  | _=>none
def ae9:Value->Bool
 | .pointer none=>true
 | _=>false
def Gz:Value->Bool
 | .slice none 0 0=>true
 | _=>false
mutual
def mS:TS->SV->Mt->Option Mt
 | .d t,s,m=>(toD t s).map fun x=>nA m t x
 | .k v,s,m=>match s with
  | .k u=>if kEq u v=true then some m else none
  | _=>none
 | .row i,s,m=>match s with
  | .row j=>bnd m i j
  | .k v=>if Gz v=true then UX m i else none
  | _=>none
 | .rowz i,s,m=>match s with
  | .row j=>bnd m i j
  | .rowz j=>bnd m i j
  | .k v=>if Gz v=true then UX m i else none
  | _=>none
 | .sub i sz,s,m=>match s with
  | .sub j sz' lo n=>if sz'=sz then bnd (nA (nA m (.int .i64) lo) (.int .i64) n) i j else none
  | _=>none
 | .pb i o,s,m=>match s with
  | .pb j o'=>if o'=o then bnd m i j else none
  | _=>none
 | .opb i,s,m=>match s with
  | .pb j o'=>if o'=0 then bnd (nA m .bool true) i j else none
  | .opb b j o'=>if o'=0 then bnd (nA m .bool b) i j else none
  | .k v=>if ae9 v=true then some (nA m .bool false) else none
  | _=>none
 | .mp i,s,m=>match s with
  | .mp j=>bnd m i j
  | _=>none
 | .pe t,s,m=>match s with
  | .pe t' x=>(ji t' t x).map fun y=>nA m t y
  | _=>none
 | .fn f a b,s,m=>match s with
  | .fn f' a' b'=>if f'=f then (mL a a' m).bind fun m=>mL b b' m else none
  | _=>none
 | .ifc t v,s,m=>match s with
  | .ifc t' v'=>if t'=t then mS v v' m else none
  | _=>none
 | .agg l,s,m=>match s with
  | .agg l'=>mL l l' m
  | _=>none
 | .agp q,s,m=>match s with
  | .agg l=>mP q l m
  | _=>none
def mL:List TS->List SV->Mt->Option Mt
 | [],[],m=>some m
 | t::q,s::r,m=>(mS t s m).bind fun m=>mL q r m
 | [],_::_,_=>none
 | _::_,[],_=>none
end
def keq:(t:Ty)->Vl t->Vl t->Bool
 | .int _,x,y=>eqi x y
 | .str,x,y=>eqs x y
 | .bool,x,y=>eqb x y
 | .pr a b,x,y=>keq a x.1 y.1 && keq b x.2 y.2
 | _,_,_=>false
theorem GA:∀{t:Ty} {x y:Vl t},keq t x y=true->x=y
 | .int _,_,_,h=>by simpa [keq,eqi]using h
 | .bool,_,_,h=>by simpa [keq,eqb]using h
 | .str,_,_,h=>by simpa [keq,eqs]using h
 | .pr a b,x,y,h=>by simp only[keq,zO]at h;exact Prod.ext (GA h.1) (GA h.2)
 | .sl _,_,_,h=>by cases h
 | .wr _,_,_,h=>by cases h
 | .un,_,_,h=>by cases h
 | .ar _ _,_,_,h=>by cases h
 | .mp _ _,_,_,h=>by cases h
def mM{kt:Ty}:List (Nat×Vl kt×TS)->List (Nat×Vl kt×SV)->Mt->Option Mt
 | [],[],m=>some m
 | (b,k,t)::q,(b',k',s)::r,m=>if b'=b∧keq kt k' k=true then (mS t s m).bind fun m=>mM q r m else none
 | [],_::_,_=>none
 | _::_,[],_=>none
def mG:List SG->List SV->Mt->Option Mt
 | [],[],m=>some m
 | [],_::_,_=>none
 | .d t::q,cs,m=>(pk t cs).bind fun p=>mG q p.2 (nA m t p.1)
 | .s x::q,cs,m=>match cs with
  | c::r=>(mS x c m).bind fun m=>mG q r m
  | []=>none
def mE:TE->Ent->Mt->Option Mt
 | .row t e,s,m=>match s with
  | .row t' e' xs=>if e'=e then (ji (.sl t') (.sl t) xs).map fun y=>nA m (.sl t) y else none
  | _=>none
 | .box T cs,s,m=>match s with
  | .box T' cs'=>if T'=T then mL cs cs' m else none
  | _=>none
 | .dm kt vt,s,m=>match s with
  | .dm kt' vt' xs=>(ji (.sl (.pr kt' vt')) (.sl (.pr kt vt)) xs).map fun y=>nA m (.sl (.pr kt vt)) y
  | _=>none
 | .sm kt cl es,s,m=>match s with
  | .sm kt' cl' es'=>if h:kt'=kt then (if cl'=cl then mM es (h ▸ es') m else none) else none
  | _=>none
 | .que t e,s,m=>match s with
  | .que t' e' xs=>if e'=e then (ji (.sl t') (.sl t) xs).map fun y=>nA m (.sl t) y else none
  | .row t' e' xs=>if e'=e then (ji (.sl t') (.sl t) xs).map fun y=>nA m (.sl t) y else none
  | _=>none
 | .bsg T q,s,m=>match s with
  | .box T' cs'=>if T'=T then mG q cs' m else none
  | _=>none
def mEs(own:List (Nat×Ent)):List (Nat×TE)->Mt->Option Mt
 | [],m=>some m
 | (i,te)::q,m=>match get m.bd i with
  | some (some j)=>match get own j with
   | some e=>(mE te e m).bind fun m=>mEs own q m
   | none=>none
  | some none=>match te with
   | .row t _=>mEs own q (nA m (.sl t) [])
   | .que t _=>mEs own q (nA m (.sl t) [])
   | _=>none
  | none=>none
@[reducible] def zC0:Type:=List (Nat×Option Nat)
def mA(as:List TS)(es:List (Nat×TE))(ss:List SV)(own:List (Nat×Ent))(bd:zC0):Option Mt :=
 (mL as ss ⟨bd,[]⟩).bind fun m=>(mEs own es m).bind fun m'=>if nodup ((m'.bd.filter fun x=>(es.map (·.1)).contains x.1).filterMap (·.2))=true∧nodup (es.map (·.1))=true∧m'.bd.all (fun x=>decide (get m'.bd x.1=some x.2))=true then some m' else none
section
variable {pl plT:List Place}{L:Lx}{w:World}
def BdOk(pl plT:List Place)(bd:zC0):Prop:=∀x∈bd,match x.2 with
 | some j=>plT[x.1]? = pl[j]?
 | none=>plT[x.1]? = some ⟨none,0,0⟩
def Grows(m m':Mt)(dn:DV):Prop:=m'.ds=m.ds++dn∧∀x∈m.bd,x∈m'.bd
theorem Grows.refl(m:Mt):Grows m m []:=⟨by simp,fun _ h=>h⟩
theorem Grows.trans{m m' m'':Mt}{d d':DV}(h:Grows m m' d)(h':Grows m' m'' d'):Grows m m'' (d++d'):=⟨by rw[h'.1,h.1,List.append_assoc],fun x hx=>h'.2 x (h.2 x hx)⟩
theorem Grows.push(m:Mt)(t:Ty)(x:Vl t):Grows m (nA m t x) [⟨t,x⟩]:=⟨rfl,fun _ h=>h⟩
theorem rO{m m':Mt}{i j:Nat}(h:bnd m i j=some m'):Grows m m' []∧(i,some j)∈m'.bd:=by
 unfold bnd at h;split at h
 ·simp_all[Grows.refl,iI]
 ·cases h
  exact⟨⟨by simp,fun x hx=>List.mem_append_left _ hx⟩,by simp⟩
theorem Tn{m m':Mt}{i:Nat}(h:UX m i=some m'):Grows m m' []∧(i,none)∈m'.bd:=by
 unfold UX at h;split at h
 ·cases h
 ·cases h
  exact⟨⟨by simp,fun x hx=>List.mem_append_left _ hx⟩,by simp⟩
theorem ar0{v:Value}(h:ae9 v=true):v = .pointer none:=by grind[ae9]
theorem KZ{v:Value}(h:Gz v=true):v = .slice none 0 0:=by grind[Gz]
def MOk(pl:List Place)(L:Lx)(w:World)(t:TS)(s:SV)(m m':Mt):Prop :=
 ∃dn,Grows m m' dn∧∀r,∃s',fS t (dn++r)=some (s',r)∧∀plT,BdOk pl plT m'.bd->∀u,Den pl L w s u->Den plT L w s' u
def aE1(pl:List Place)(L:Lx)(w:World)(t:List TS)(s:List SV)(m m':Mt):Prop :=
 ∃dn,Grows m m' dn∧∀r,∃s',fL t (dn++r)=some (s',r)∧∀plT,BdOk pl plT m'.bd->∀u,DenL pl L w s u->DenL plT L w s' u
theorem BdOk.sub{bd bd':List (Nat×Option Nat)}(h:BdOk pl plT bd')(hs:∀x∈bd,x∈bd'):BdOk pl plT bd:=fun x hx=>h x (hs x hx)
theorem BdOk.at{bd:List (Nat×Option Nat)}(h:BdOk pl plT bd){i j:Nat}(hx:(i,some j)∈bd):plT[i]? = pl[j]?:=h _ hx
theorem sQ:∀(t:Ty) (x:Vl t),∃l,unp t x=some l
 | .pr a b,x=>by obtain⟨p,h1⟩:=sQ a x.1;obtain⟨q,h2⟩:=sQ b x.2;exact⟨p++q,by simp[unp,h1,h2]⟩
 | .wr a,x=>sQ a x
 | .un,_=>⟨_,rfl⟩
 | .ar n t,x=>by
  have key:∀(n k:Nat),∃l,MR (fun k=>unp t ((show List (Vl t) from x).getD k (dfl t))) k n=some l:=by
   intro n
   induction n with
   | zero=>exact fun k=>⟨_,rfl⟩
   | succ n ih =>
    intro k;obtain⟨p,h1⟩:=sQ t ((show List (Vl t) from x).getD k (dfl t));obtain⟨q,h2⟩:=ih (k+1);exact⟨p++q,by simp only[MR,h1,h2];rfl⟩
  exact key n 0
 | .int _,_ | .bool,_ | .str,_ | .sl _,_ | .mp _ _,_=>⟨_,rfl⟩
theorem UY:∀{t:List (Ty ⊕ Nat)} {s:List SV} {m m':Mt},mP t s m=some m'->∃dn,Grows m m' dn∧∀r,∃s',fP t (dn++r)=some (s',r)∧∀plT,BdOk pl plT m'.bd->∀us,DenL pl L w s us->DenL plT L w s' us
 | [],[],m,m',h=>by unfold mP at h;cases h;exact⟨[],Grows.refl _,fun r=>⟨_,rfl,fun plT _ u hu=>hu⟩⟩
 | [],_::_,_,_,h=>by unfold mP at h;cases h
 | .inl t::q,cs,m,m',h=>by unfold mP at h;obtain⟨⟨x,cs2⟩,h1,h2⟩:=iD h;obtain⟨d2,g2,k2⟩:=UY h2;obtain⟨l,hl⟩:=sQ t x;refine⟨[⟨t,x⟩]++d2,(Grows.push m t x).trans g2,fun r=>?_⟩;obtain⟨s2,e2,f2⟩:=k2 r;refine⟨l++s2,by simp[fP,qR,hl,e2],fun plT hb us hu=>?_⟩;obtain⟨c,vs,rfl,h3,h4⟩:=oG h1 hu;exact (rA hl h3).append (f2 plT hb vs h4)
 | .inr i::q,cs,m,m',h=>by
  unfold mP at h;split at h
  ·rename_i j r
   obtain⟨m1,h1,h2⟩:=iD h;obtain⟨g1,hin⟩:=rO h1;obtain⟨d2,g2,k2⟩:=UY h2;refine⟨[]++d2,g1.trans g2,fun r=>?_⟩;obtain⟨s2,e2,f2⟩:=k2 r;exact⟨.row i::s2,by simp[fP,e2],fun plT hb us ⟨u,vs,h3,⟨p,h4,h6⟩,h5⟩=>⟨u,vs,h3,⟨p,by rw[hb.at (g2.2 _ hin)];exact h4,h6⟩,f2 plT hb vs h5⟩⟩
  ·cases h
mutual
theorem Ma:∀{t:TS} {s:SV} {m m':Mt},mS t s m=some m'->MOk pl L w t s m m'
 | .d t,s,m,m',h=>by unfold mS at h;obtain⟨x,h1,rfl⟩:=Option.map_eq_some_iff.1 h;refine⟨_,Grows.push m t x,fun r=>⟨.d t x,by simp[fS,qR],fun plT _ u hu=>?_⟩⟩;obtain⟨cs,h2,h3⟩:=ql h1 hu;exact⟨cs,h2,h3⟩
 | .k v,s,m,m',h=>by
  unfold mS at h;split at h
  ·split at h
   ·rename_i hk
    cases h
    have:=atr hk;subst this;exact⟨[],Grows.refl _,fun r=>⟨_,rfl,fun plT _ u hu=>hu⟩⟩
   ·cases h
  ·cases h
 | .row i,s,m,m',h=>by
  unfold mS at h;split at h
  ·rename_i j
   obtain⟨h1,h2⟩:=rO h;exact⟨[],h1,fun r=>⟨_,rfl,fun plT hb u ⟨p,h3,h4⟩=>⟨p,by rw[hb.at h2];exact h3,h4⟩⟩⟩
  ·rename_i v
   split at h
   ·rename_i hk
    have:=KZ hk;subst this;obtain⟨h1,h2⟩:=Tn h;refine⟨[],h1,fun r=>⟨_,rfl,fun plT hb u hu=>?_⟩⟩;have hu:u = .slice none 0 0:=hu;exact⟨⟨none,0,0⟩,hb _ h2,hu⟩
   ·cases h
  ·cases h
 | .rowz i,s,m,m',h=>by
  unfold mS at h;split at h
  ·rename_i j
   obtain⟨h1,h2⟩:=rO h;exact⟨[],h1,fun r=>⟨_,rfl,fun plT hb u ⟨p,h3,h4⟩=>⟨p,by rw[hb.at h2];exact h3,.inl h4⟩⟩⟩
  ·rename_i j
   obtain⟨h1,h2⟩:=rO h;exact⟨[],h1,fun r=>⟨_,rfl,fun plT hb u ⟨p,h3,h4⟩=>⟨p,by rw[hb.at h2];exact h3,h4⟩⟩⟩
  ·rename_i v
   split at h
   ·rename_i hk
    have:=KZ hk;subst this;obtain⟨h1,h2⟩:=Tn h;refine⟨[],h1,fun r=>⟨_,rfl,fun plT hb u hu=>?_⟩⟩;have hu:u = .slice none 0 0:=hu;exact⟨⟨none,0,0⟩,hb _ h2,.inl hu⟩
   ·cases h
  ·cases h
 | .sub i sz,s,m,m',h=>by
  unfold mS at h;split at h
  ·split at h
   ·rename_i j sz' lo n e
    subst e;obtain⟨h1,h2⟩:=rO h;refine⟨_,((Grows.push m (.int .i64) lo).trans (Grows.push _ (.int .i64) n)).trans h1,fun r=>⟨.sub i sz' lo n,by simp[fS,qR],fun plT hb u ⟨p,a,c,h3,h4⟩=>⟨p,a,c,by rw[hb.at h2];exact h3,h4⟩⟩⟩
   ·cases h
  ·cases h
 | .pb i o,s,m,m',h=>by
  unfold mS at h;split at h
  ·split at h
   ·rename_i j o' e
    subst e;obtain⟨h1,h2⟩:=rO h;exact⟨[],h1,fun r=>⟨_,rfl,fun plT hb u ⟨g,n,c,h3,h4⟩=>⟨g,n,c,by rw[hb.at h2];exact h3,h4⟩⟩⟩
   ·cases h
  ·cases h
 | .opb i,s,m,m',h=>by
  unfold mS at h;split at h
  ·split at h
   ·rename_i j o' e
    subst e;obtain⟨h1,h2⟩:=rO h;refine⟨_,(Grows.push m .bool true).trans h1,fun r=>⟨.opb true i 0,by simp[fS,qR],fun plT hb u ⟨g,n,c,h3,h4⟩=>⟨fun _=>⟨g,n,c,by rw[hb.at h2];exact h3,h4⟩,(fun e=>nomatch e)⟩⟩⟩
   ·cases h
  ·split at h
   ·rename_i b j o' e
    subst e;obtain⟨h1,h2⟩:=rO h;refine⟨_,(Grows.push m .bool b).trans h1,fun r=>⟨.opb b i 0,by simp[fS,qR],fun plT hb u ⟨h,h'⟩=>⟨fun hb'=>by obtain⟨g,n,c,h3,h4⟩:=h hb';exact⟨g,n,c,by rw[hb.at h2];exact h3,h4⟩,h'⟩⟩⟩
   ·cases h
  ·split at h
   ·rename_i v hk
    cases h
    have:=ar0 hk;subst this;exact⟨_,Grows.push m .bool false,fun r=>⟨.opb false i 0,by simp[fS,qR],fun plT hb u hu=>⟨(fun e=>nomatch e),fun _=>hu⟩⟩⟩
   ·cases h
  ·cases h
 | .mp i,s,m,m',h=>by
  unfold mS at h;split at h
  ·rename_i j
   obtain⟨h1,h2⟩:=rO h;exact⟨[],h1,fun r=>⟨_,rfl,fun plT hb u ⟨g,n,c,h3,h4⟩=>⟨g,n,c,by rw[hb.at h2];exact h3,h4⟩⟩⟩
  ·cases h
 | .pe t,s,m,m',h=>by
  unfold mS at h;split at h
  ·rename_i t' x
   obtain⟨y,h1,rfl⟩:=Option.map_eq_some_iff.1 h;obtain⟨e,h1⟩:=qC h1;subst e;subst h1;exact⟨_,Grows.push m _ _,fun r=>⟨.pe _ x,by simp[fS,qR],fun plT _ u hu=>hu⟩⟩
  ·cases h
 | .fn f a b,s,m,m',h=>by
  unfold mS at h;split at h
  ·split at h
   ·rename_i e
    subst e;obtain⟨m1,h1,h2⟩:=iD h;obtain⟨d1,g1,k1⟩:=DK h1;obtain⟨d2,g2,k2⟩:=DK h2;refine⟨d1++d2,g1.trans g2,fun r=>?_⟩;obtain⟨s1,e1,f1⟩:=k1 (d2++r);obtain⟨s2,e2,f2⟩:=k2 r;refine⟨.fn _ s1 s2,by simp[fS,List.append_assoc,e1,e2],fun plT hb u ⟨us,vs,h3,h4,h5⟩=>⟨us,vs,f1 plT (hb.sub g2.2) us h3,f2 plT hb vs h4,h5⟩⟩
   ·cases h
  ·cases h
 | .ifc t v,s,m,m',h=>by
  unfold mS at h;split at h
  ·split at h
   ·rename_i e
    subst e;obtain⟨d1,g1,k1⟩:=Ma h;refine⟨d1,g1,fun r=>?_⟩;obtain⟨s1,e1,f1⟩:=k1 r;exact⟨.ifc _ s1,by simp[fS,e1],fun plT hb u ⟨u',h3,h4⟩=>⟨u',f1 plT hb u' h3,h4⟩⟩
   ·cases h
  ·cases h
 | .agg l,s,m,m',h=>by
  unfold mS at h;split at h
  ·obtain⟨d1,g1,k1⟩:=DK h
   refine⟨d1,g1,fun r=>?_⟩;obtain⟨s1,e1,f1⟩:=k1 r;exact⟨.agg s1,by simp[fS,e1],fun plT hb u ⟨us,h3,h4,h5⟩=>⟨us,f1 plT hb us h3,h4,h5⟩⟩
  ·cases h
 | .agp q,s,m,m',h=>by
  unfold mS at h;split at h
  ·obtain⟨d1,g1,k1⟩:=UY (pl:=pl) (L:=L) (w:=w) h
   refine⟨d1,g1,fun r=>?_⟩;obtain⟨s1,e1,f1⟩:=k1 r;exact⟨.agg s1,by simp[fS,e1],fun plT hb u ⟨us,h3,h4,h5⟩=>⟨us,f1 plT hb us h3,h4,h5⟩⟩
  ·cases h
theorem DK:∀{t:List TS} {s:List SV} {m m':Mt},mL t s m=some m'->aE1 pl L w t s m m'
 | [],[],m,m',h=>by unfold mL at h;cases h;exact⟨[],Grows.refl _,fun r=>⟨_,rfl,fun plT _ u hu=>hu⟩⟩
 | t::q,s::p,m,m',h=>by unfold mL at h;obtain⟨m1,h1,h2⟩:=iD h;obtain⟨d1,g1,k1⟩:=Ma h1;obtain⟨d2,g2,k2⟩:=DK h2;refine⟨d1++d2,g1.trans g2,fun r=>?_⟩;obtain⟨s1,e1,f1⟩:=k1 (d2++r);obtain⟨s2,e2,f2⟩:=k2 r;exact⟨s1::s2,by simp[fL,List.append_assoc,e1,e2],fun plT hb u ⟨v,vs,h3,h4,h5⟩=>⟨v,vs,h3,f1 plT (hb.sub g2.2) v h4,f2 plT hb vs h5⟩⟩
 | [],_::_,_,_,h=>by unfold mL at h;cases h
 | _::_,[],_,_,h=>by unfold mL at h;cases h
end
theorem UZ:∀{t:List SG} {s:List SV} {m m':Mt},mG t s m=some m'->∃dn,Grows m m' dn∧∀r,∃s',fG t (dn++r)=some (s',r)∧∀plT,BdOk pl plT m'.bd->∀us,DenL pl L w s us->DenL plT L w s' us
 | [],[],m,m',h=>by unfold mG at h;cases h;exact⟨[],Grows.refl _,fun r=>⟨_,rfl,fun plT _ u hu=>hu⟩⟩
 | [],_::_,_,_,h=>by unfold mG at h;cases h
 | .d t::q,cs,m,m',h=>by unfold mG at h;obtain⟨⟨x,cs2⟩,h1,h2⟩:=iD h;obtain⟨d2,g2,k2⟩:=UZ h2;obtain⟨l,hl⟩:=sQ t x;refine⟨[⟨t,x⟩]++d2,(Grows.push m t x).trans g2,fun r=>?_⟩;obtain⟨s2,e2,f2⟩:=k2 r;refine⟨l++s2,by simp[fG,qR,hl,e2],fun plT hb us hu=>?_⟩;obtain⟨c,vs,rfl,h3,h4⟩:=oG h1 hu;exact (rA hl h3).append (f2 plT hb vs h4)
 | .s x::q,cs,m,m',h=>by
  unfold mG at h;split at h
  ·obtain⟨m1,h1,h2⟩:=iD h
   obtain⟨d1,g1,k1⟩:=Ma (pl:=pl) (L:=L) (w:=w) h1;obtain⟨d2,g2,k2⟩:=UZ h2;refine⟨d1++d2,g1.trans g2,fun r=>?_⟩;obtain⟨s1,e1,f1⟩:=k1 (d2++r);obtain⟨s2,e2,f2⟩:=k2 r;exact⟨s1::s2,by simp[fG,List.append_assoc,e1,e2],fun plT hb u ⟨v,vs,h3,h4,h5⟩=>⟨v,vs,h3,f1 plT (hb.sub g2.2) v h4,f2 plT hb vs h5⟩⟩
  ·cases h
end
end Ev
end
noncomputable section
namespace Ev
open Go Go.RowKit Sx
section
variable {pl plT:List Place}{L:Lx}{w:World}
theorem aoX{kt:Ty}:∀{t:List (Nat×Vl kt×TS)} {s:List (Nat×Vl kt×SV)} {m m':Mt},mM t s m=some m' ->
  ∃dn,Grows m m' dn∧∀r,∃s',fM t (dn++r)=some (s',r)∧∀plT,BdOk pl plT m'.bd->∀us,SmD pl L w us s->SmD plT L w us s'
 | [],[],m,m',h=>by
  unfold mM at h;cases h;refine⟨[],Grows.refl _,fun r=>⟨_,rfl,fun plT _ us hu=>?_⟩⟩
  cases us with
  | nil=>rfl
  | cons a r=>obtain⟨_,_,e,_⟩:=hu;cases e
 | (b,k,t)::q,(b',k',s)::p,m,m',h=>by
  unfold mM at h;split at h
  ·rename_i hc
   obtain⟨rfl,hk⟩:=hc;have hk:=GA hk;subst hk;obtain⟨m1,h1,h2⟩:=iD h;obtain⟨d1,g1,k1⟩:=Ma (pl:=pl) (L:=L) (w:=w) h1;obtain⟨d2,g2,k2⟩:=aoX h2;refine⟨d1++d2,g1.trans g2,fun r=>?_⟩;obtain⟨s1,e1,f1⟩:=k1 (d2++r);obtain⟨s2,e2,f2⟩:=k2 r;refine⟨(b',k',s1)::s2,by simp_all[fM,List.append_assoc],fun plT hb us hu=>?_⟩
   cases us with
   | nil=>cases hu
   | cons a us =>
    obtain⟨x,y,e,h3,h4,h5,h6⟩:=hu;cases e;exact⟨_,_,rfl,h3,h4,f1 plT (hb.sub g2.2) _ h5,f2 plT hb us h6⟩
  grind
 | [],_::_,_,_,h=>by simp_all[mM]
 | _::_,[],_,_,h=>by simp_all[mM]
theorem avH{te:TE}{e:Ent}{m m':Mt}(h:mE te e m=some m') :
  ∃dn,Grows m m' dn∧∀r,∃e',fE te (dn++r)=some (e',r)∧∀plT,BdOk pl plT m'.bd->∀i j,plT[i]? = pl[j]?->EntD pl L w j e->EntD plT L w i e':=by
 cases te with
 | row t ei =>
  simp only[mE]at h;split at h
  ·rename_i t' e' xs
   split at h
   ·rename_i he
    subst he;obtain⟨y,h1,rfl⟩:=Option.map_eq_some_iff.1 h;obtain⟨e,h1⟩:=qC h1;cases e;subst h1;refine⟨_,Grows.push m _ _,fun r=>⟨.row t e' xs,by simp[fE,qR],fun plT _ i j hij ⟨p,h2,h3⟩=>⟨p,by simp_all,h3⟩⟩⟩
   grind
  grind
 | box T cs =>
  simp only[mE]at h;split at h
  ·rename_i T' cs'
   split at h
   ·rename_i he
    subst he;obtain⟨d1,g1,k1⟩:=DK (pl:=pl) (L:=L) (w:=w) h;refine⟨d1,g1,fun r=>?_⟩;obtain⟨s1,e1,f1⟩:=k1 r;exact⟨.box T' s1,by simp[fE,e1],fun plT hb i j hij ⟨g,n,c,us,h2,h3,h4,h5⟩=>⟨g,n,c,us,by simp_all,h3,f1 plT hb us h4,h5⟩⟩
   grind
  grind
 | dm kt vt =>
  simp only[mE]at h;split at h
  ·rename_i kt' vt' xs
   obtain⟨y,h1,rfl⟩:=Option.map_eq_some_iff.1 h;obtain⟨e,h1⟩:=qC h1;cases e;subst h1;exact⟨_,Grows.push m _ _,fun r=>⟨.dm kt vt xs,by simp[fE,qR],fun plT _ i j hij ⟨g,n,c,vs,h2,h3⟩=>⟨g,n,c,vs,by simp_all,h3⟩⟩⟩
  grind
 | sm kt cl es =>
  simp only[mE]at h;split at h
  ·rename_i kt' cl' es'
   split at h
   ·rename_i he
    subst he;split at h
    ·rename_i hc
     subst hc;obtain⟨d1,g1,k1⟩:=aoX (pl:=pl) (L:=L) (w:=w) h;refine⟨d1,g1,fun r=>?_⟩;obtain⟨s1,e1,f1⟩:=k1 r;exact⟨.sm _ _ s1,by simp[fE,e1],fun plT hb i j hij ⟨g,n,c,vs,h2,h3,h4⟩=>⟨g,n,c,vs,by simp_all,h3,f1 plT hb _ h4⟩⟩
    grind
   grind
  grind
 | que t ei =>
  simp only[mE]at h;split at h
  ·rename_i t' e' xs
   split at h
   ·rename_i he
    subst he;obtain⟨y,h1,rfl⟩:=Option.map_eq_some_iff.1 h;obtain⟨e,h1⟩:=qC h1;cases e;subst h1;refine⟨_,Grows.push m _ _,fun r=>⟨.que t e' xs,by simp[fE,qR],fun plT _ i j hij ⟨p,h2,h3⟩=>⟨p,by simp_all,h3⟩⟩⟩
   grind
  ·rename_i t' e' xs
   split at h
   ·rename_i he
    subst he;obtain⟨y,h1,rfl⟩:=Option.map_eq_some_iff.1 h;obtain⟨e,h1⟩:=qC h1;cases e;subst h1;refine⟨_,Grows.push m _ _,fun r=>⟨.que t e' xs,by simp[fE,qR],fun plT _ i j hij ⟨p,h2,h3⟩=>⟨p,by simp_all,Oq.of_ow h3⟩⟩⟩
   grind
  grind
 | bsg T q =>
  simp only[mE]at h;split at h
  ·rename_i T' cs'
   split at h
   ·rename_i he
    subst he;obtain⟨d1,g1,k1⟩:=UZ (pl:=pl) (L:=L) (w:=w) h;refine⟨d1,g1,fun r=>?_⟩;obtain⟨s1,e1,f1⟩:=k1 r;exact⟨.box T' s1,by simp[fE,e1],fun plT hb i j hij ⟨g,n,c,us,h2,h3,h4,h5⟩=>⟨g,n,c,us,by simp_all,h3,f1 plT hb us h4,h5⟩⟩
   grind
  grind
theorem GB{own:List (Nat×Ent)}(ho:EntsD pl L w own):∀{es:List (Nat×TE)} {m m':Mt},mEs own es m=some m' ->
  ∃dn,Grows m m' dn∧(∀x∈es,∃b,(x.1,b)∈m'.bd∧∀j,b=some j->∃e,get own j=some e) ∧
   ∀r,∃es',fEs es (dn++r)=some (es',r)∧es'.map (·.1)=es.map (·.1)∧∀plT,BdOk pl plT m'.bd->EntsD plT L w es'
 | [],m,m',h=>by unfold mEs at h;cases h;exact⟨[],Grows.refl _,by simp,fun r=>⟨[],rfl,rfl,fun plT _ e he=>by cases he⟩⟩
 | (i,te)::q,m,m',h=>by
  unfold mEs at h;split at h
  ·rename_i j hg
   split at h
   ·rename_i e he
    obtain⟨m1,h1,h2⟩:=iD h;obtain⟨d1,g1,k1⟩:=avH (pl:=pl) (L:=L) (w:=w) h1;obtain⟨d2,g2,n2,k2⟩:=GB ho h2;have hin:(i,some j)∈m'.bd:=g2.2 _ (g1.2 _ (iI hg));refine⟨d1++d2,g1.trans g2,fun x hx=>?_,fun r=>?_⟩
    ·grind
    ·obtain⟨s1,e1,f1⟩:=k1 (d2++r)
     obtain⟨s2,e2,e3,f2⟩:=k2 r;refine⟨(i,s1)::s2,by simp_all[fEs,List.append_assoc],by grind,fun plT hb x hx=>?_⟩;rcases List.mem_cons.1 hx with hx | hx
     ·subst hx
      exact f1 plT (hb.sub g2.2) i j (hb.at hin) (ho _ (iI he))
     ·exact f2 plT hb x hx
   grind
  ·rename_i hg
   split at h
   ·rename_i t e0
    obtain⟨d2,g2,n2,k2⟩:=GB ho h;have hin:(i,none)∈m'.bd:=g2.2 _ (iI hg);refine⟨[⟨.sl t,[]⟩]++d2,(Grows.push m _ _).trans g2,fun x hx=>?_,fun r=>?_⟩
    ·grind
    ·obtain⟨s2,e2,e3,f2⟩:=k2 r
     refine⟨(i,.row t e0 [])::s2,by simp[fEs,fE,qR,e2],by grind,fun plT hb x hx=>?_⟩;rcases List.mem_cons.1 hx with hx | hx
     ·subst hx
      exact⟨⟨none,0,0⟩,hb _ hin,Ow.nil _ _ _ _⟩
     ·exact f2 plT hb x hx
   ·rename_i t e0
    obtain⟨d2,g2,n2,k2⟩:=GB ho h;have hin:(i,none)∈m'.bd:=g2.2 _ (iI hg);refine⟨[⟨.sl t,[]⟩]++d2,(Grows.push m _ _).trans g2,fun x hx=>?_,fun r=>?_⟩
    ·grind
    ·obtain⟨s2,e2,e3,f2⟩:=k2 r
     refine⟨(i,.que t e0 [])::s2,by simp[fEs,fE,qR,e2],by grind,fun plT hb x hx=>?_⟩;rcases List.mem_cons.1 hx with hx | hx
     ·subst hx
      exact⟨⟨none,0,0⟩,hb _ hin,Oq.of_ow (Ow.nil _ _ _ _)⟩
     ·exact f2 plT hb x hx
   grind
  grind
structure MAOk(pl:List Place) (L:Lx) (w:World) (as:List TS) (es:List (Nat×TE)) (ss:List SV) (own:List (Nat×Ent)) (bd:zC0) (m:Mt) (ss':List SV) (own':List (Nat×Ent)):Prop where
 old:∀x∈bd,x∈m.bd
 nos:own'.map (·.1)=es.map (·.1)
 has:∀x∈es,∃b,(x.1,b)∈m.bd∧∀j,b=some j->∃e,get own j=some e
 inj:((m.bd.filter fun x=>(es.map (·.1)).contains x.1).filterMap (·.2)).Nodup
 ids:(es.map (·.1)).Nodup
 fn:∀x∈m.bd,get m.bd x.1=some x.2
 den:∀plT,BdOk pl plT m.bd->(∀us,DenL pl L w ss us->DenL plT L w ss' us)∧EntsD plT L w own'
theorem aoY{as:List TS}{es:List (Nat×TE)}{ss:List SV}{own:List (Nat×Ent)}{bd:List (Nat×Option Nat)}{m:Mt}(ho:EntsD pl L w own)(h:mA as es ss own bd=some m) :
  ∃ss' own',fA as es m.ds=some (ss',own')∧MAOk pl L w as es ss own bd m ss' own':=by
 unfold mA at h;obtain⟨m1,h1,h⟩:=iD h;obtain⟨m2,h2,h⟩:=iD h;split at h
 ·rename_i hc
  cases h
  obtain⟨d1,g1,k1⟩:=DK (pl:=pl) (L:=L) (w:=w) h1;obtain⟨d2,g2,n2,k2⟩:=GB ho h2;obtain⟨s1,e1,f1⟩:=k1 (d2++[]);obtain⟨s2,e2,e3,f2⟩:=k2 [];have hds:m.ds=d1++(d2++[]):=by rw[g2.1,g1.1];simp
  refine⟨s1,s2,?_,⟨fun x hx=>g2.2 x (g1.2 x hx),e3,n2,zU hc.1,zU hc.2.1,fun x hx=>by grind,fun plT hb=>⟨fun us hu=>f1 plT (hb.sub g2.2) us hu,f2 plT hb⟩⟩⟩;simp_all[fA,Option.bind_some]
 grind
theorem ac0{α β:Type}{f:α->Option β}:∀{l:List α},(l.filterMap f).Nodup->∀x∈l,∀y∈l,∀b,f x=some b->f y=some b->x=y
 | a::l,hn,x,hx,y,hy,b,h1,h2=>by
  rw[List.filterMap_cons]at hn;have key:∀z∈l,f z=some b->f a≠some b:=fun z hz hzb ha=>by rw[ha]at hn;simp only at hn;exact (List.nodup_cons.1 hn).1 (List.mem_filterMap.2 ⟨z,hz,hzb⟩)
  have hn':(l.filterMap f).Nodup:=by
   split at hn
   ·exact hn
   ·exact (List.nodup_cons.1 hn).2
  rcases List.mem_cons.1 hx with hx' | hx'<;>rcases List.mem_cons.1 hy with hy' | hy'
  ·rw[hx',hy']
  ·rw[hx']at h1;exact absurd h1 (key y hy' h2)
  ·rw[hy']at h2;exact absurd h2 (key x hx' h1)
  ·exact ac0 hn' x hx' y hy' b h1 h2
theorem MAOk.pair{B:Nat->Prop}{F:Lx}{as:List TS}{es:List (Nat×TE)}{ss ss':List SV}{own own':List (Nat×Ent)}{bd:List (Nat×Option Nat)}{m:Mt}(h:MAOk pl L w as es ss own bd m ss' own')(hL:LOk B (lx pl own) F w)(hb:BdOk pl plT m.bd) :
  (lx plT own').Pairwise (fun x y=>∀k,x=some k->y≠some k)∧∀k,some k∈lx plT own'->∃x∈own',∃j,(x.1,some j)∈m.bd∧plb pl j=some k∧plb plT x.1=some k∧some k∈lx pl own:=by
 have hin:∀x∈own',∀k,plb plT x.1=some k->∃j,(x.1,some j)∈m.bd∧plb pl j=some k∧(∃e,get own j=some e)∧x.1∈es.map (·.1):=fun x hx k hk=>by
  have hx1:x.1∈es.map (·.1):=by rw[<- h.nos];grind
  obtain⟨y,hy,hxy⟩:=List.mem_map.1 hx1;obtain⟨b,h1,h2⟩:=h.has y hy;rw[hxy]at h1
  cases b with
  | none =>
   have:=hb _ h1;simp only at this;unfold plb at hk;rw[this]at hk;cases hk
  | some j =>
   refine⟨j,h1,?_,h2 j rfl,hx1⟩;unfold plb at hk ⊢;rw[<- hb.at h1];exact hk
 refine⟨?_,fun k hk=>?_⟩
 ·unfold lx
  rw[List.pairwise_map,List.pairwise_iff_getElem];intro i j hi hj hij k hk hk';obtain⟨a,a1,a2,⟨e,a3⟩,a4⟩:=hin _ (List.getElem_mem hi) k hk;obtain⟨b,b1,b2,⟨e',b3⟩,b4⟩:=hin _ (List.getElem_mem hj) k hk';by_cases hab:a=b
  ·subst hab
   have he:=ac0 h.inj _ (List.mem_filter.2 ⟨a1,List.contains_iff_mem.2 a4⟩) _ (List.mem_filter.2 ⟨b1,List.contains_iff_mem.2 b4⟩) a rfl rfl;have hids:=h.ids;rw[<- h.nos,List.nodup_iff_pairwise_ne,List.pairwise_map,List.pairwise_iff_getElem]at hids;simp_all
  grind[LOk.apart2]
 ·obtain⟨x,hx,hk'⟩:=List.mem_map.1 hk
  obtain⟨a,a1,a2,⟨e,a3⟩,_⟩:=hin x hx k hk';exact⟨x,hx,a,a1,a2,hk',by rw[<- a2];exact List.mem_map_of_mem (f:=fun e:Nat×Ent=>plb pl e.1) (iI a3)⟩
end
end Ev
end
noncomputable section
namespace Ev
open Go Go.RowKit Sx
structure Sh where
 as:List TS
 es:List TE
 ps:List Ty
 ro:List TS
 eo:List (Nat×TE)
 nn:Nat
 rs:List Ty
def en:Nat->List TE->List (Nat×TE)
 | _,[]=>[]
 | n,t::r=>(n,t)::en (n+1) r
structure Ct where
 sh:Sh
 m:As sh.ps->Option (As sh.rs)
def Bo(pl:List Place)(own:List (Nat×Ent))(w:World)(k:Nat):Prop:=some k∈lx pl own∨w.heap.size≤k
def After(sh:Sh)(y:As sh.rs)(F:Lx)(w0:World)(pl:List Place)(own:List (Nat×Ent))(w':World)(us:List Value):Prop :=
 ∃pl' rr own',fA sh.ro sh.eo (sP sh.rs y)=some (rr,own')∧(∀(i:Nat) (p:Place),pl[i]? = some p->pl'[i]? = some p)∧pl'.length=sh.es.length+sh.nn ∧
  Blw (Bo pl own w0) w0 w'∧LOk (Bo pl own w0) (lx pl' own') F w'∧EntsD pl' (lx pl' own'++F) w' own'∧DenL pl' (lx pl' own'++F) w' rr us
def Ns:List Value->Value
 | [v]=>v
 | l=>.tuple l.toArray
def au(P:Program)(I:World->Prop)(f:FuncId)(ct:Ct):Prop:=∀(F:Lx) (w0:World) (pl:List Place) (x:As ct.sh.ps) (y:As ct.sh.rs) (ss:List SV) (own:List (Nat×Ent)) (vs:List Value),
 ct.m x=some y->fA ct.sh.as (en 0 ct.sh.es) (sP ct.sh.ps x)=some (ss,own)->pl.length=ct.sh.es.length->(∀w',Blw (Bo pl own w0) w0 w'->I w')->LOk (Bo pl own w0) (lx pl own) F w0->EntsD pl (lx pl own++F) w0 own->DenL pl (lx pl own++F) w0 ss vs ->
 Calls P f vs.toArray w0 (fun e w'=>∃us,e = .returned (Ns us)∧After ct.sh y F w0 pl own w' us)
def Nt:List SV->SV
 | [s]=>s
 | l=>.tup l
def bdj(bd:zC0)(i:Nat):Nat:=match get bd i with
 | some (some j)=>j
 | _=>0
def rho(bd:zC0)(n nx i:Nat):Nat:=if i<n then bdj bd i else nx+(i - n)
def GD(n:Nat):List (Nat×Option Nat)->Bool
 | []=>true
 | (i,b)::q=>b.isSome && decide (i<n) && GD n q
def z8:List (Nat×Option Nat)->Nat->Bool
 | [],_=>false
 | (_,some j)::q,i=>if j=i then true else z8 q i
 | (_,none)::q,i=>z8 q i
def rest(bd:zC0):List (Nat×Ent)->List (Nat×Ent)
 | []=>[]
 | (i,e)::q=>if z8 bd i=true then rest bd q else (i,e)::rest bd q
def jds:List (Nat×Option Nat)->List Nat
 | []=>[]
 | (_,some j)::q=>j::jds q
 | (_,none)::q=>jds q
def reO(f:Nat->Nat):List (Nat×Ent)->List (Nat×Ent)
 | []=>[]
 | (i,e)::q=>(f i,Im f e)::reO f q
section
variable {R:Type}{B:Nat->Prop}{F:Lx}{w0:Bs}{wr:Wr}{pl pl':List Place}{S S':St}{l l':List Value}{ls:List (List Value)}{w w':World}{L L' M:Lx}{P:Program}{d:Option Tmp}{ty:TypeId}{pos:String}{af:Array Edge}{gd:Option (Nat×Bool)}
 {Q:Exit->Act->World->Prop} {KK:List Value->World->Prop} {K:St->SV->Option R} {r:R}
theorem Nu(q:List Place):∀(i:Nat) (p:Place),pl[i]? = some p->(pl++q)[i]? = some p:=fun i p h=>by grind
theorem Nv{ss:List SV}{vs:List Value}(h:DenL pl L w ss vs):Den pl L w (Nt ss) (Ns vs):=by
 match ss,h with
 | [],h=>cases h;exact⟨[],rfl,rfl⟩
 | [s],⟨v,q,h1,h2,h3⟩=>cases h3;subst h1;exact h2
 | s::t::r,h =>
  have hl:=h.len
  match vs,hl with
  | a::b::q,_=>exact⟨_,h,rfl⟩
theorem ac1:∀(k:Nat) (es:List TE),(en k es).map (·.1)=List.range' k es.length
 | _,[]=>rfl
 | k,t::r=>by simp_all[en,ac1,List.range'_succ]
theorem K6{n:Nat}:∀{bd:List (Nat×Option Nat)},GD n bd=true->∀x∈bd,(∃j,x.2=some j)∧x.1<n
 | [],_,x,hx=>by cases hx
 | (i,b)::q,h,x,hx=>by
  simp only[GD,zO,decide_eq_true_eq]at h;rcases List.mem_cons.1 hx with hx | hx
  ·simp_all[Option.isSome_iff_exists]
  ·exact K6 h.2 x hx
theorem Ip:∀{bd:List (Nat×Option Nat)} {j:Nat},z8 bd j=true ↔ ∃i,(i,some j)∈bd
 | [],j=>by simp[z8]
 | (i,none)::q,j=>by simp_all[z8,Ip]
 | (i,some k)::q,j=>by
  unfold z8;split
  ·simp_all
  ·rename_i e
   rw[Ip];grind
theorem vZ{bd:List (Nat×Option Nat)}:∀{own:List (Nat×Ent)} {x:Nat×Ent},x∈rest bd own↔x∈own∧z8 bd x.1=false
 | [],x=>by simp[rest]
 | (i,e)::q,x=>by
  unfold rest;split
  ·rename_i h
   rw[vZ,List.mem_cons];constructor
   ·rintro⟨a,b⟩;exact⟨.inr a,b⟩
   ·rintro⟨a | a,b⟩
    ·subst a;rw[h]at b;cases b
    ·exact⟨a,b⟩
  ·rename_i h
   rw[List.mem_cons,vZ,List.mem_cons];constructor
   ·rintro (a | ⟨a,b⟩)
    ·subst a;exact⟨.inl rfl,by simpa using h⟩
    ·exact⟨.inr a,b⟩
   ·rintro⟨a | a,b⟩
    ·exact .inl a
    ·exact .inr ⟨a,b⟩
theorem Aa{bd:List (Nat×Option Nat)}:∀own:List (Nat×Ent),List.Sublist (rest bd own) own
 | []=>.slnil
 | (i,e)::q=>by
  unfold rest;split
  ·exact .cons _ (Aa q)
  ·exact .cons_cons _ (Aa q)
theorem Iq:∀{bd:List (Nat×Option Nat)} {i j:Nat},(i,some j)∈bd->j∈jds bd
 | (_,some _)::q,i,j,h=>by
  rcases List.mem_cons.1 h with h | h
  ·cases h;exact List.mem_cons_self ..
  ·exact zT _ (Iq h)
 | (_,none)::q,i,j,h=>by
  rcases List.mem_cons.1 h with h | h
  ·cases h
  ·exact Iq (bd:=q) h
theorem Tp{f:Nat->Nat}:∀{own:List (Nat×Ent)} {x:Nat×Ent},x∈reO f own->∃y∈own,x=(f y.1,Im f y.2)
 | (i,e)::q,x,h=>by
  rcases List.mem_cons.1 h with h | h
  ·exact⟨(i,e),List.mem_cons_self ..,h⟩
  ·obtain⟨y,hy,h2⟩:=Tp h
   exact⟨y,zT _ hy,h2⟩
theorem ac2{f:Nat->Nat}{q:List Place}(hf:∀i,q[f i]? = pl[i]?):∀own:List (Nat×Ent),lx q (reO f own)=lx pl own
 | []=>rfl
 | (i,e)::r=>by show plb q (f i)::lx q (reO f r)=plb pl i::lx pl r;rw[ac2 hf r];unfold plb;rw[hf i]
theorem ac3(pl:List Place)(a b:List (Nat×Ent)):lx pl (a++b)=lx pl a++lx pl b:=by grind[lx]
theorem att{own:List (Nat×Ent)}{k:Nat}(h:some k∈lx pl own):∃x∈own,plb pl x.1=some k:=List.mem_map.1 h
theorem atu{own:List (Nat×Ent)}{x:Nat×Ent}(hx:x∈own){k:Nat}(hk:plb pl x.1=some k):some k∈lx pl own:=by rw[<- hk];exact List.mem_map_of_mem (f:=fun e:Nat×Ent=>plb pl e.1) hx
def Nw(ct:Ct)(S:St)(mt:Mt)(K:St->SV->Option R):Option R :=
 if GD ct.sh.es.length mt.bd=true then (Nr ct.sh.ps mt.ds).bind fun x=>(ct.m x).bind fun y=>(fA ct.sh.ro ct.sh.eo (sP ct.sh.rs y)).bind fun p =>
  K { S with own:=reO (rho mt.bd ct.sh.es.length S.nx) p.2++rest mt.bd S.own,nx:=S.nx+ct.sh.nn,log:=jds mt.bd++S.log } (Nt (xX (rho mt.bd ct.sh.es.length S.nx) p.1))
 else none
def GG(B:Nat->Prop)(F:Lx)(w0:Bs)(wr:Wr)(n:Nat)(l:List Value)(ls:List (List Value))(K:St->SV->Option R)(r:R)(KV:Value->World->Prop):Prop :=
 ∀pl' S' s v w',Rel B F w0 wr pl' S' l ls w'->S'.nt=n->Den pl' (lx pl' S'.own++F) w' s v->K S' s=some r->KV v w'
theorem GH{L L':Lx}(h:∀k,some k∈L'->some k∈L):Sub w L' L:=fun k hk=>.inl (h k hk)
theorem Ext.sub{L L':Lx}(h:∀k,some k∈L'->some k∈L):Ext pl L w pl L' w:=⟨fun _ _ h=>h,by intro α R cs x hr;exact R.grow hr (GH h),by intro α R b o x hr;exact hr.grow (GH h)⟩
theorem EntsD.sub{L L':Lx}(h:∀k,some k∈L'->some k∈L){own:List (Nat×Ent)}(he:EntsD pl L w own):EntsD pl L' w own:=fun e hm=>(he e hm).ext (Ext.sub h) (fun _ _=>rfl) (fun _ _ _ _ _ ho=>ho.grow (GH h))
theorem Ir{f:FuncId}{ct:Ct}(hct:au P w0.I f ct)(h:Rel B F w0 wr pl S l ls w){ss:List SV}{vs:List Value}(hd:DenL pl (lx pl S.own++F) w ss vs){mt:Mt}
  (hm:mA ct.sh.as (en 0 ct.sh.es) ss S.own []=some mt) (hv:Nw ct S mt K=some r) {KV:Value->World->Prop}
  (hk:GG B F w0 wr S.nt l ls K r KV):Calls P f vs.toArray w (fun e w'=>∃v,e = .returned v∧KV v w'):=by
 unfold Nw at hv;split at hv
 ·rename_i hlent
  have hlent:=K6 hlent;obtain⟨x,hx,hv⟩:=iD hv;obtain⟨y,hy,hv⟩:=iD hv;obtain⟨p,hp,hv⟩:=iD hv;obtain⟨ss',own',hfA,mo⟩:=aoY (w:=w) (L:=lx pl S.own++F) (pl:=pl) h.ent hm;rw[<- Io hx]at hfA;generalize hn:ct.sh.es.length=n at *
  have hids:∀i,i<n->∃j e,(i,some j)∈mt.bd∧get S.own j=some e∧get mt.bd i=some (some j):=fun i hi=>by
   have:i∈(en 0 ct.sh.es).map (·.1):=by simp_all[ac1,List.mem_range']
   obtain⟨z,hz,hz1⟩:=List.mem_map.1 this;obtain⟨b,h1,h2⟩:=mo.has z hz;rw[hz1]at h1;obtain⟨⟨j,hj⟩,_⟩:=hlent _ h1;simp only at hj;subst hj;obtain⟨e,he⟩:=h2 j rfl;exact⟨j,e,h1,he,mo.fn _ h1⟩
  have hbj:∀i j,(i,some j)∈mt.bd->bdj mt.bd i=j:=fun i j hm=>by unfold bdj;rw[mo.fn _ hm]
  have hplace:∀i j,(i,some j)∈mt.bd->∃q e,pl[j]? = some q∧(j,e)∈S.own:=fun i j hm=>by
   obtain⟨_,hi⟩:=hlent _ hm;obtain⟨j',e,h1,h2,_⟩:=hids i hi;have:j'=j:=by grind
   subst this;obtain⟨q,hq⟩:=(h.ent _ (iI h2)).place;exact⟨q,e,hq,iI h2⟩
  let pin:List Place:=(List.range n).map fun i=>(pl[bdj mt.bd i]?).getD ⟨none,0,0⟩
  have hpin:∀i j,(i,some j)∈mt.bd->pin[i]? = pl[j]?:=fun i j hm=>by grind
  have hb:BdOk pl pin mt.bd:=fun z hz=>by grind
  obtain⟨hd',he'⟩:=mo.den pin hb;obtain⟨hpair,hmem⟩:=mo.pair h.hL hb;have hrest:∀k,some k∈lx pl (rest mt.bd S.own)->some k∈lx pl S.own:=fun k hk=>(M9 (Aa _)).subset hk
  have hapart:∀k,some k∈lx pin own'->some k∈lx pl (rest mt.bd S.own)->False:=fun k h1 h2=>by
   obtain⟨z,hz,j,hj,hjk,_⟩:=hmem k h1;obtain⟨u,hu,huk⟩:=att h2;obtain⟨hu1,hu2⟩:=vZ.1 hu;obtain⟨_,hi⟩:=hlent _ hj;obtain⟨j',e,a1,a2,_⟩:=hids _ hi;have hjj:j'=j:=by grind
   subst hjj;have hne:j'≠u.1:=fun e=>by grind[z8,Ip]
   obtain⟨pre,post,q1,q2⟩:=lu a2;have hx:u∈pre∨u∈post:=by grind
   have hL:=h.hL;rw[q1]at hL;exact others hL hx k huk (by grind)
  have hsub:∀k,some k∈lx pin own'++(lx pl (rest mt.bd S.own)++F)->some k∈lx pl S.own++F:=fun k hk=>by grind
  have hLin:LOk (Bo pin own' w) (lx pin own') (lx pl (rest mt.bd S.own)++F) w:=by
   refine⟨hpair,fun k hk=>.inl hk,fun k hk=>?_,fun k hk=>.inr hk,fun k hk=>?_⟩
   ·obtain⟨_,_,_,_,_,_,h4⟩:=hmem k hk
    exact h.hL.hi k h4
   ·have hlt:k<w.heap.size:=by
     rcases List.mem_append.1 hk with hk | hk
     ·exact h.hL.hi k (hrest k hk)
     ·exact (h.hL.far k hk).2
    refine⟨fun hB=>?_,hlt⟩;rcases hB with hB | hB
    ·rcases List.mem_append.1 hk with hk | hk
     ·simp_all
     ·obtain⟨_,_,_,_,_,_,h4⟩:=hmem k hB
      exact (h.hL.far k hk).1 (h.hL.lo k h4)
    ·omega
  have hinv:∀w',Blw (Bo pin own' w) w w'->w0.I w':=fun w' hw=>h.hI w' (h.hB.trans ⟨hw.os,hw.tape,hw.output,hw.size,fun k hk hn=>hw.block k hk (fun hb=>hn (by
   rcases hb with hb | hb
   ·obtain⟨_,_,_,_,_,_,h4⟩:=hmem k hb
    exact h.hL.lo k h4
   omega))⟩)
  refine (hct (lx pl (rest mt.bd S.own)++F) w pin x y ss' own' vs hy hfA (by grind) hinv hLin (he'.sub hsub) ((hd' vs hd).ext (Ext.sub hsub))).mono fun e w' he=>?_;obtain⟨us,rfl,pl',rr,own2,hf2,hpl,hlen,hblw,hL2,hE2,hD2⟩:=he;rw[hf2]at hp;cases hp;rw[hn]at hlen;refine⟨_,rfl,?_⟩
  have hrho:∀i,(pl++pl'.drop n)[rho mt.bd n S.nx i]? = pl'[i]?:=fun i=>by
   unfold rho;split
   ·grind
   ·rename_i hi
    rw[List.getElem?_append_right (by rw[h.nx];omega),h.nx,List.getElem?_drop];simp_all
  have hlx1:lx (pl++pl'.drop n) (reO (rho mt.bd n S.nx) own2)=lx pl' own2:=ac2 hrho own2;have hlx2:lx (pl++pl'.drop n) (rest mt.bd S.own)=lx pl (rest mt.bd S.own):=by unfold lx;exact List.map_congr_left fun e he=>(h.ent e (vZ.1 he).1).plb (Nu _)
  have hlx:lx (pl++pl'.drop n) (reO (rho mt.bd n S.nx) own2++rest mt.bd S.own)=lx pl' own2++lx pl (rest mt.bd S.own):=by simp_all[ac3]
  have hM:∀k,some k∈lx pin own'->some k∈lx pl S.own:=fun k hk=>by grind
  have hfz:Fz (lx pin own') w w':=hblw.fz (fun k hk hB=>by
   rcases hB with hB | hB
   ·exact hB
   ·omega)
  have hS:Stp B (lx pl S.own) (lx (pl++pl'.drop n) (reO (rho mt.bd n S.nx) own2++rest mt.bd S.own)) F (lx pin own') w w':=by
   rw[hlx];refine⟨hfz,hM,fun k hk=>?_,?_,fun k hk=>?_,fun k hk=>?_,h.hL.baseS hfz.size,h.hL.farS hfz.size⟩
   ·rw[List.append_assoc]at hk
    rcases List.mem_append.1 hk with hk | hk
    ·rcases hL2.lo k hk with hB | hB
     ·simp_all
     omega
    simp_all
   ·rw[List.pairwise_append]
    refine⟨hL2.pair,h.hL.pair.sublist (M9 (Aa _)),fun a ha b hb k e e'=>?_⟩;subst e e';exact (hL2.far k (List.mem_append_left _ hb)).1 (hL2.lo k ha)
   ·rcases List.mem_append.1 hk with hk | hk
    ·rcases hL2.lo k hk with hB | hB
     ·exact h.hL.lo k (hM k hB)
     ·exact h.hL.base k hB
    ·exact h.hL.lo k (hrest k hk)
   ·rcases List.mem_append.1 hk with hk | hk
    ·exact hL2.hi k hk
    ·exact Nat.lt_of_lt_of_le (h.hL.hi k (hrest k hk)) hfz.size
  have hLsub:∀k,some k∈lx (pl++pl'.drop n) (reO (rho mt.bd n S.nx) own2++rest mt.bd S.own)++F->some k∈lx pl' own2++(lx pl (rest mt.bd S.own)++F):=fun k hk=>by simp_all
  have hrel:=h.go (M:=lx pin own') (pl':=pl++pl'.drop n) (S':={ S with own:=reO (rho mt.bd n S.nx) own2++rest mt.bd S.own,nx:=S.nx+ct.sh.nn,log:=jds mt.bd++S.log }) hS (Nu _)
   (by simp[h.nx,hlen]) (Nat.le_add_right _ _) rfl rfl rfl (fun i hi=>List.mem_append_right _ hi) (fun e he=>by
    have he:e∈reO (rho mt.bd n S.nx) own2++rest mt.bd S.own:=he;rcases List.mem_append.1 he with he | he
    ·obtain⟨z,hz,rfl⟩:=Tp he
     refine .inr ⟨?_,?_⟩
     ·show S.nx≤rho mt.bd n S.nx z.1∨(rho mt.bd n S.nx z.1∈jds mt.bd++S.log∧∃q∈S.own,q.1=rho mt.bd n S.nx z.1)
      unfold rho;split
      ·rename_i hi
       obtain⟨j,e,a1,a2,a3⟩:=hids _ hi;rw[hbj _ j a1];exact .inr ⟨List.mem_append_left _ (Iq a1),_,iI a2,rfl⟩
      omega
     ·have:=(hE2 z hz).ext (Ext.sub hLsub) (fun _ _=>rfl) (fun _ _ _ _ _ ho=>ho.grow (GH hLsub))
      grind[Nq]
    grind[vZ,atu])
  exact hk _ _ _ _ w' hrel rfl (Nv (nY (fun j _=>hrho j) (hD2.ext (Ext.sub hLsub)))) hv
 grind
end
end Ev
end
noncomputable section
namespace Ev
open Go Go.RowKit Sx
structure Cl(R:Type) where
 run:FuncId->List SV->St->(St->SV->Option R)->Option R
 eq:R->R->Bool
def Ab{R:Type}(P:Program)(I:World->Prop)(cl:Cl R):Prop:=(∀a b,cl.eq a b=true->a=b)∧∀(B:Nat->Prop) (F:Lx) (w0:Bs) (wr:Wr) (pl:List Place) (S:St) (l:List Value) (ls:List (List Value)) (w:World) (f:FuncId) (ss:List SV) (vs:List Value) (K:St->SV->Option R) (r:R) (KV:Value->World->Prop),w0.I=I ->
 Rel B F w0 wr pl S l ls w->DenL pl (lx pl S.own++F) w ss vs->cl.run f ss S K=some r->GG B F w0 wr S.nt l ls K r KV->Calls P f vs.toArray w (fun e w'=>∃v,e = .returned v∧KV v w')
abbrev Env:=FuncId->List Ct
def o9(P:Program)(I:World->Prop)(env:Env):Prop:=∀f ct,ct∈env f->au P I f ct
def cts:List (Nat×Ct)->Env
 | [],_=>[]
 | (g,ct)::q,f=>if g=f then ct::cts q f else cts q f
theorem bq{P:Program}{I:World->Prop}:o9 P I (cts []):=fun f ct h=>by cases h
theorem aj{P:Program}{I:World->Prop}{f:FuncId}{ct:Ct}{l:List (Nat×Ct)}(h:au P I f ct)(hl:o9 P I (cts l)):o9 P I (cts ((f,ct)::l)):=fun g c hg=>by
 unfold cts at hg;split at hg
 ·rename_i e
  subst e;rcases List.mem_cons.1 hg with hg | hg
  ·simp_all
  ·exact hl _ c hg
 ·exact hl g c hg
def Ny(P:Program)(f:FuncId):Bool:=match P.funcs[f]? with
 | some fn => !(fn.name == "runtime.NumGoroutine") && fn.body.isSome
 | none=>false
theorem Tq {P : Program} {f : FuncId} (h : Ny P f = true) : ∃ fn, P.funcs[f]? = some fn ∧ (fn.name == "runtime.NumGoroutine") = false ∧ fn.body.isNone = false := by
 unfold Ny at h;split at h
 ·simp_all
 grind
mutual
def U0:SV->List Nat
 | .row i=>[i]
 | .sub i _ _ _=>[i]
 | .rowz i=>[i]
 | .agg l=>wm l
 | .tup l=>wm l
 | .fn _ a b=>wm a++wm b
 | .ifc _ v=>U0 v
 | _=>[]
def wm:List SV->List Nat
 | []=>[]
 | s::q=>U0 s++wm q
end
abbrev Wn:=List (Nat×Nat)×List Nat
def wP:List (Ty ⊕ Nat)->List SV->Wn->Wn
 | .inl t::q,cs,m=>wP q (cs.drop t.size) (m.1,m.2++wm (cs.take t.size))
 | .inr i::q,cs,m=>match cs with
  | .row j::r=>wP q r ((i,j)::m.1,m.2)
  | _=>m
 | [],_,m=>m
mutual
def wS:TS->SV->Wn->Wn
 | .d _,s,m=>(m.1,m.2++U0 s)
 | .row i,s,m=>match s with
  | .row j=>((i,j)::m.1,m.2)
  | _=>m
 | .rowz i,s,m=>match s with
  | .row j=>((i,j)::m.1,m.2)
  | .rowz j=>((i,j)::m.1,m.2)
  | _=>m
 | .sub i _,s,m=>match s with
  | .sub j _ _ _=>((i,j)::m.1,m.2)
  | _=>m
 | .pb i _,s,m=>match s with
  | .pb j _=>((i,j)::m.1,m.2)
  | _=>m
 | .opb i,s,m=>match s with
  | .pb j _=>((i,j)::m.1,m.2)
  | .opb _ j _=>((i,j)::m.1,m.2)
  | _=>m
 | .mp i,s,m=>match s with
  | .mp j=>((i,j)::m.1,m.2)
  | _=>m
 | .fn _ a b,s,m=>match s with
  | .fn _ a' b'=>wL b b' (wL a a' m)
  | _=>m
 | .ifc _ t,s,m=>match s with
  | .ifc _ v=>wS t v m
  | _=>m
 | .agg l,s,m=>match s with
  | .agg l'=>wL l l' m
  | _=>m
 | .k _,_,m=>m
 | .pe _,_,m=>m
 | .agp q,s,m=>match s with
  | .agg l=>wP q l m
  | _=>m
def wL:List TS->List SV->Wn->Wn
 | t::q,s::r,m=>wL q r (wS t s m)
 | _,_,m=>m
end
def wM{kt kt':Ty}:List (Nat×Vl kt×TS)->List (Nat×Vl kt'×SV)->Wn->Wn
 | (_,_,t)::q,(_,_,s)::r,m=>wM q r (wS t s m)
 | _,_,m=>m
def wG:List SG->List SV->Wn->Wn
 | .d t::q,cs,m=>wG q (cs.drop t.size) (m.1,m.2++wm (cs.take t.size))
 | .s x::q,cs,m=>match cs with
  | c::r=>wG q r (wS x c m)
  | []=>m
 | [],_,m=>m
def wE:TE->Ent->Wn->Wn
 | .box _ cs,.box _ cs',m=>wL cs cs' m
 | .bsg _ q,.box _ cs',m=>wG q cs' m
 | .sm _ _ es,.sm _ _ es',m=>wM es es' m
 | _,_,m=>m
def wEs(own:List (Nat×Ent)):List (Nat×TE)->Wn->Wn
 | [],m=>m
 | (i,t)::q,m=>match get m.1 i with
  | some j=>match get own j with
   | some e=>wEs own q (wE t e m)
   | none=>wEs own q m
  | none=>wEs own q m
def wnt(as:List TS)(es:List (Nat×TE))(ss:List SV)(own:List (Nat×Ent))(bd:List (Nat×Nat)):List Nat:=(wEs own es (wL as ss (bd,[]))).2
def pQ:List Nat->St->St
 | [],S=>S
 | i::q,S=>match frz S i with
  | some S'=>pQ q S'
  | none=>pQ q S
def Bz(S:St):List Operand->Option (List SV)
 | []=>some []
 | x::q=>(opv S x).bind fun s=>(Bz S q).map fun r=>s::r
abbrev Gt:=St->Option (FuncId×List SV)
def Mb(P:Program)(x:Operand)(args:List Operand):Gt:=fun S=>match opv S x,Bz S args with
 | some (.fn (.func f) a b),some ss=>if Ny P f=true then some (f,a++ss++b) else none
 | _,_=>none
section
variable {R:Type}
def orE(a b:Option R):Option R:=match b with
 | none=>a
 | some r=>some (match a with
  | none=>r
  | some x=>x)
theorem Nz{a b:Option R}{r:R}(h:orE a b=some r):a=some r∨b=some r:=by unfold orE at h;grind
def NA(g:Gt)(S:St)(K:St->SV->Option R):List Ct->Option R
 | []=>none
 | ct::q=>match g S with
  | some (_,ss)=>match g (pQ (wnt ct.sh.as (en 0 ct.sh.es) ss S.own []) S) with
   | some (_,ss1)=>match mA ct.sh.as (en 0 ct.sh.es) ss1 (pQ (wnt ct.sh.as (en 0 ct.sh.es) ss S.own []) S).own []with
    | some mt=>orE (Nw ct (pQ (wnt ct.sh.as (en 0 ct.sh.es) ss S.own []) S) mt K) (NA g S K q)
    | none=>NA g S K q
   | none=>none
  | none=>none
def NB(cl:Cl R)(g:Gt)(S:St)(K:St->SV->Option R):List Ct->Option R
 | []=>match g S with
  | some (f,ss)=>cl.run f ss S K
  | none=>none
 | ct::q=>match g S with
  | some (_,ss)=>match g (pQ (wnt ct.sh.as (en 0 ct.sh.es) ss S.own []) S) with
   | some (_,ss1)=>match mA ct.sh.as (en 0 ct.sh.es) ss1 (pQ (wnt ct.sh.as (en 0 ct.sh.es) ss S.own []) S).own []with
    | some mt=>orE (Nw ct (pQ (wnt ct.sh.as (en 0 ct.sh.es) ss S.own []) S) mt K) (NA g S K q)
    | none=>NB cl g S K q
   | none=>none
  | none=>none
def NC(g:Gt)(S:St)(K:St->SV->Option R):List Ct->Option R
 | []=>none
 | ct::q=>match g S with
  | some (_,ss)=>match wnt ct.sh.as (en 0 ct.sh.es) ss S.own []with
   | []=>match mA ct.sh.as (en 0 ct.sh.es) ss S.own []with
    | some mt=>Nw ct S mt K
    | none=>NC g S K q
   | _::_=>NC g S K q
  | none=>none
def onT(env:Env)(f:FuncId):Bool:=match env (7000000+f) with
 | []=>false
 | _=>true
def GI(env:Env)(cl:Cl R)(g:Gt)(S:St)(K:St->SV->Option R):Option R :=
 match g S with
 | some (f,_)=>if onT env f=true then NC g S K (env f) else NB cl g S K (env f)
 | none=>none
end
section
variable {R:Type}{B:Nat->Prop}{F:Lx}{w0:Bs}{wr:Wr}{pl pl':List Place}{S S':St}{l l':List Value}{ls:List (List Value)}{w w':World}{L L' M:Lx}{P:Program}{d:Option Tmp}{ty:TypeId}{pos:String}{af:Array Edge}{gd:Option (Nat×Bool)}
 {Q:Exit->Act->World->Prop} {KK:List Value->World->Prop} {K:St->SV->Option R} {r:R}
theorem wo(hf:FrD pl L w S.fr l):∀{q:List Operand} {ss:List SV},Bz S q=some ss->DenL pl L w ss (q.map (ev l))
 | [],ss,h=>by cases h;rfl
 | x::q,ss,h=>by obtain⟨s,h1,h⟩:=iD h;obtain⟨r,h2,rfl⟩:=Option.map_eq_some_iff.1 h;exact⟨_,_,rfl,gz hf h1,wo hf h2⟩
theorem vL:∀{q:List Nat} {S:St},Rel B F w0 wr pl S l ls w->Rel B F w0 wr pl (pQ q S) l ls w∧(pQ q S).nt=S.nt
 | [],S,h=>⟨h,rfl⟩
 | i::q,S,h=>by
  unfold pQ;split
  ·rename_i S' hf
   obtain⟨h1,h2⟩:=vL (q:=q) (Nb h hf);exact⟨h1,by rw[h2,Nc hf]⟩
  ·exact vL h
def Iu(P:Program)(l:List Value)(o:Oper)(w:World)(g:Gt):Prop :=
 ∀(pl:List Place) (L:Lx) (S:St) (f:FuncId) (ss:List SV),FrD pl L w S.fr l->g S=some (f,ss)->∃vs,DenL pl L w ss vs∧(execOp (ev l) o).run P w = .ok (.enter f vs.toArray) w
theorem ac4{f:FuncId}{x:Operand}{args:List Operand}{ts:Array TypeId}{as bs:List Value}(hf:Ny P f=true)(hx:ev l x = .func (.func f) as.toArray bs.toArray) :
  (execOp (ev l) ⟨d,.call ⟨.value x,args.toArray,ts⟩,ty,pos,af,gd⟩).run P w = .ok (.enter f (as++args.map (ev l)++bs).toArray) w:=by
 obtain ⟨fn,h1,h2,h3⟩:=Tq hf;have hn' : fn.name ≠ "runtime.NumGoroutine" := by simp_all
 have hb':fn.body≠none:=by grind
 simp[execOp,resolve,hx,Deferred.ofValue,invoke,callFunc,h1,hn',hb']
theorem ND{x:Operand}{args:Array Operand}{ts:Array TypeId}:Iu P l ⟨d,.call ⟨.value x,args,ts⟩,ty,pos,af,gd⟩ w (Mb P x args.toList):=fun pl L S f ss hf hg=>by
 unfold Mb at hg;split at hg
 ·rename_i f' a b ss' h1 h2
  split at hg
  case isFalse=>cases hg
  rename_i hfn;cases hg;obtain⟨as,bs,h3,h4,h5⟩:=gz hf h1;have hrun:=ac4 (P:=P) (w:=w) (d:=d) (ty:=ty) (pos:=pos) (af:=af) (gd:=gd) (args:=args.toList) (ts:=ts) hfn h5;rw[Array.toArray_toList]at hrun;exact⟨_,(h3.append (wo hf h2)).append h4,hrun⟩
 grind
variable {op:Op}
theorem Iv{o:Oper}{g:Gt}(hg:Iu P l o w g)(h:Rel B F w0 wr pl S l ls w){f:FuncId}{vs:List Value}(hr:(execOp (ev l) o).run P w = .ok (.enter f vs.toArray) w)
  {KV:Value->World->Prop} (hk:GG B F w0 wr S.nt l ls K r KV) :
  ∀{q:List Ct},(∀ct∈q,au P w0.I f ct)->NA g S K q=some r->Calls P f vs.toArray w (fun e w'=>∃v,e = .returned v∧KV v w')
 | [],_,hv=>by cases hv
 | ct::q,hq,hv=>by
  unfold NA at hv;split at hv
  ·rename_i f0 ss hs
   split at hv
   ·rename_i f' ss1 hs1
    split at hv
    ·rename_i mt hmt
     rcases Nz hv with hv | hv
     ·obtain⟨h1,h2⟩:=vL (q:=wnt ct.sh.as (en 0 ct.sh.es) ss S.own []) h
      obtain⟨us,h3,h4⟩:=hg pl _ _ f' ss1 h1.fr hs1;rw[hr]at h4;cases h4;exact Ir (hq ct (List.mem_cons_self ..)) h1 h3 hmt hv (by rw[h2];exact hk)
     ·exact Iv hg h hr hk (fun ct hc=>hq ct (zT _ hc)) hv
    ·exact Iv hg h hr hk (fun ct hc=>hq ct (zT _ hc)) hv
   ·cases hv
  ·cases hv
theorem Iw{o:Oper}{g:Gt}(hg:Iu P l o w g)(h:Rel B F w0 wr pl S l ls w){f:FuncId}{vs:List Value}(hr:(execOp (ev l) o).run P w = .ok (.enter f vs.toArray) w)
  {KV:Value->World->Prop} (hk:GG B F w0 wr S.nt l ls K r KV) :
  ∀{q:List Ct},(∀ct∈q,au P w0.I f ct)->NC g S K q=some r->Calls P f vs.toArray w (fun e w'=>∃v,e = .returned v∧KV v w')
 | [],_,hv=>by cases hv
 | ct::q,hq,hv=>by
  unfold NC at hv;split at hv
  ·rename_i f0 ss hs
   split at hv
   ·split at hv
    ·rename_i mt hmt
     obtain⟨us,h3,h4⟩:=hg pl _ S f0 ss h.fr hs;rw[hr]at h4;cases h4;exact Ir (hq ct (List.mem_cons_self ..)) h h3 hmt hv hk
    ·exact Iw hg h hr hk (fun ct hc=>hq ct (zT _ hc)) hv
   ·exact Iw hg h hr hk (fun ct hc=>hq ct (zT _ hc)) hv
  ·cases hv
theorem Tt{cl:Cl R}(hcl:Ab P w0.I cl){o:Oper}{g:Gt}(hg:Iu P l o w g)(h:Rel B F w0 wr pl S l ls w){f:FuncId}{vs:List Value}(hr:(execOp (ev l) o).run P w = .ok (.enter f vs.toArray) w)
  {KV:Value->World->Prop} (hk:GG B F w0 wr S.nt l ls K r KV) :
  ∀{q:List Ct},(∀ct∈q,au P w0.I f ct)->NB cl g S K q=some r->Calls P f vs.toArray w (fun e w'=>∃v,e = .returned v∧KV v w')
 | [],_,hv=>by
  unfold NB at hv;split at hv
  ·rename_i f' ss hs
   obtain⟨us,h1,h2⟩:=hg pl _ S f' ss h.fr hs;rw[hr]at h2;cases h2;exact hcl.2 _ _ _ _ _ _ _ _ _ _ _ _ _ _ _ rfl h h1 hv hk
  ·cases hv
 | ct::q,hq,hv=>by
  unfold NB at hv;split at hv
  ·rename_i f0 ss hs
   split at hv
   ·rename_i f' ss1 hs1
    split at hv
    ·rename_i mt hmt
     rcases Nz hv with hv | hv
     ·obtain⟨h1,h2⟩:=vL (q:=wnt ct.sh.as (en 0 ct.sh.es) ss S.own []) h
      obtain⟨us,h3,h4⟩:=hg pl _ _ f' ss1 h1.fr hs1;rw[hr]at h4;cases h4;exact Ir (hq ct (List.mem_cons_self ..)) h1 h3 hmt hv (by rw[h2];exact hk)
     ·exact Iv hg h hr hk (fun ct hc=>hq ct (zT _ hc)) hv
    ·exact Tt hcl hg h hr hk (fun ct hc=>hq ct (zT _ hc)) hv
   ·cases hv
  ·cases hv
theorem EW{env:Env}{cl:Cl R}(henv:o9 P w0.I env)(hcl:Ab P w0.I cl)(h:Rel B F w0 wr pl S l ls w){g:Gt}(hg:Iu P l ⟨d,op,ty,pos,af,gd⟩ w g)
  (hv:GI env cl g S K=some r) (hk:Hand B F w0 wr S.nt l ls d K r KK):OW P ⟨d,op,ty,pos,af,gd⟩ l w KK Q:=by
 unfold GI at hv;split at hv
 ·rename_i f ss hs
  obtain⟨vs,h1,h2⟩:=hg pl _ S f ss h.fr hs
  have hc:Calls P f vs.toArray w (fun e w''=>∃v,e = .returned v∧KK (st l d v) w''):=by
   split at hv
   ·exact Iw hg h h2 (fun pl' S' s v w' a1 a2 a3 a4=>hk pl' S' s v w' a1 a2 a3 a4) (fun ct hct=>henv f ct hct) hv
   ·exact Tt hcl hg h h2 (fun pl' S' s v w' a1 a2 a3 a4=>hk pl' S' s v w' a1 a2 a3 a4) (fun ct hct=>henv f ct hct) hv
  exact aeG (R:=fun v w''=>KK (st l d v) w'') h2 hc (fun v w'' hR=>hR)
 grind
end
end Ev
end
noncomputable section
namespace Ev
open Go Go.RowKit Sx
section
variable {R:Type}{pl:List Place}{L:Lx}{w:World}{P:Program}{l:List Value}
def isInt(P:Program)(t:TypeId):Bool:=match P.underlying t with
 | some (.int _)=>true
 | _=>false
theorem afa{t:TypeId}(h:isInt P t=true):∃k,P.underlying t=some (.int k):=by grind[isInt]
def NF(P:Program)(t:TypeId)(a b:SV):Option Bool :=
 match a,b with
 | .d (.int k) x,.d (.int k') y=>if k=k'∧isInt P t=true then some (eqi x y) else none
 | .d .bool p,.d .bool q=>if isBool P t=true then some (eqb p q) else none
 | .d .str s,.d .str q=>if isStr P t=true then some (eqs s q) else none
 | _,_=>none
def U1(P:Program)(g:TypeId->List SV->List SV->Option Bool)(as bs:List SV):List Field->Option Bool
 | []=>some true
 | f :: r => if (f.name == "_") = true then none else match jX P f.type with
  | some n=>(g f.type ((as.drop f.offset).take n) ((bs.drop f.offset).take n)).bind fun r1=>(U1 P g as bs r).map fun r2=>r1 && r2
  | none=>none
def isStruct(P:Program)(t:TypeId):Bool:=match P.underlying t with
 | some (.struct _)=>true
 | _=>false
def afb(g:TypeId->List SV->List SV->Option Bool)(e:TypeId)(sz:Nat)(as bs:List SV):Nat->Nat->Option Bool
 | _,0=>some true
 | i,n+1=>(g e ((as.drop (i*sz)).take sz) ((bs.drop (i*sz)).take sz)).bind fun r1=>(afb g e sz as bs (i+1) n).map fun r2=>r1 && r2
def eqT(P:Program):Nat->TypeId->List SV->List SV->Option Bool
 | 0,_,_,_=>none
 | d+1,t,as,bs=>if isStruct P t=true then (if P.stoodInHeld t=false then U1 P (eqT P d) as bs (P.fieldsOf t).toList else none)
  else match sN P t with
  | some (n,e,sz)=>afb (eqT P d) e sz as bs 0 n
  | none=>match as,bs with
   | [a],[b]=>NF P t a b
   | _,_=>none
def U2(P:Program)(d:Nat)(t:TypeId)(us vs:List Value)(r:Bool):Prop :=
 (∃dd,P.underlying t=some dd∧vT dd=true∧∀w,(Op.equalIn d t (.agg us.toArray) (.agg vs.toArray)).run P w = .ok r w) ∨
 (∃dd u v,P.underlying t=some dd∧vT dd=false∧us=[u]∧vs=[v]∧∀w,(Op.equalIn d t u v).run P w = .ok r w)
theorem xY{t:TypeId}(h:isStruct P t=true):P.underlying t=some (.struct (P.fieldsOf t)):=by grind[isStruct,Program.fieldsOf]
theorem ac5{t:TypeId}{a b:SV}{r:Bool}{u v:Value}{d:Nat}(h:NF P t a b=some r)(ha:Den pl L w a u)(hb:Den pl L w b v):U2 P (d+1) t [u] [v] r:=by
 unfold NF at h;split at h
 ·split at h
  ·rename_i hk
   cases h
   obtain⟨rfl,hk⟩:=hk;obtain⟨k',hk'⟩:=afa hk;rw[jC ha,jC hb];exact .inr ⟨_,_,_,hk',rfl,rfl,rfl,eq_int hk'⟩
  grind
 ·split at h
  ·rename_i hk
   cases h
   rw[mZ ha,mZ hb];exact .inr ⟨_,_,_,Bn hk,rfl,rfl,rfl,Ta (Bn hk)⟩
  grind
 ·split at h
  ·rename_i hk
   cases h
   rw[qm ha,qm hb];exact .inr ⟨_,_,_,kT hk,rfl,rfl,rfl,acM (kT hk)⟩
  grind
 grind
theorem take1{us:List Value}{o n:Nat}{u:Value}(h:(us.drop o).take n=[u]):us[o]? = some u:=by
 have h1:((us.drop o).take n)[0]? = some u:=by grind
 grind
theorem Tv{d:Nat}{g:TypeId->List SV->List SV->Option Bool}(hg:∀t as bs us vs r,g t as bs=some r->DenL pl L w as us->DenL pl L w bs vs->U2 P d t us vs r){as bs:List SV}{us vs:List Value}(ha:DenL pl L w as us)(hb:DenL pl L w bs vs) :
  ∀ {fs : List Field} {r : Bool}, U1 P g as bs fs = some r -> AllEq P d us.toArray vs.toArray (fs.map fun f => (f.name == "_", f.type, f.offset)) r
 | [],r,h=>by cases h;exact .nil
 | f::q,r,h=>by
  unfold U1 at h;split at h
  ·cases h
  ·rename_i hn
   split at h
   ·rename_i n hs
    obtain ⟨r1,h1,h⟩:=iD h;obtain ⟨r2,h2,rfl⟩:=Option.map_eq_some_iff.1 h;have ih:=Tv hg ha hb h2;have hn : (f.name == "_") = false := by simp_all
    rw[List.map_cons,hn];rcases hg _ _ _ _ _ _ h1 ((ha.drop f.offset).take n) ((hb.drop f.offset).take n) with ⟨dd,e1,e2,e3⟩ | ⟨dd,u,v,e1,e2,e3,e4,e5⟩
    ·exact .cons (zi e1 e2 hs (by simp)) (zi e1 e2 hs (by simp)) e3 ih
    ·exact .cons (lV e1 e2 (by grind[take1])) (lV e1 e2 (by grind[take1])) e5 ih
   grind
theorem Tw{d:Nat}{e:TypeId}{c:Nat}{xs ys:Array Value}:∀{n i:Nat} {r:Bool} (_:AllEq P d xs ys ((List.range' i n).map fun j=>(false,e,j*c)) r),∀w,(Op.eqItems d e c xs ys (List.range' i n)).run P w = .ok r w
 | 0,_,_,h,w=>by cases h;simp[Op.eqItems]
 | n+1,i,r,h,w=>by
  rw[List.range'_succ,List.map_cons]at h;rw[List.range'_succ]
  cases h with
  | cons ha hb he h2 =>
   rename_i r1 r2;have ih:=Tw h2;simp only[Op.eqItems,Sem.run_bind,ha,hb,he,zL];cases r1<;>simp[ih]
theorem Tx{d:Nat}{g:TypeId->List SV->List SV->Option Bool}(hg:∀t as bs us vs r,g t as bs=some r->DenL pl L w as us->DenL pl L w bs vs->U2 P d t us vs r){as bs:List SV}{us vs:List Value}(ha:DenL pl L w as us)(hb:DenL pl L w bs vs){e:TypeId}{sz:Nat}(hs:jX P e=some sz) :
  ∀{n i:Nat} {r:Bool},afb g e sz as bs i n=some r->AllEq P d us.toArray vs.toArray ((List.range' i n).map fun j=>(false,e,j*sz)) r
 | 0,_,r,h=>by cases h;exact .nil
 | n+1,i,r,h=>by
  obtain⟨r1,h1,h⟩:=iD h;obtain⟨r2,h2,rfl⟩:=Option.map_eq_some_iff.1 h;have ih:=Tx hg ha hb hs h2;rw[List.range'_succ,List.map_cons];rcases hg _ _ _ _ _ _ h1 ((ha.drop (i*sz)).take sz) ((hb.drop (i*sz)).take sz) with ⟨dd,e1,e2,e3⟩ | ⟨dd,u,v,e1,e2,e3,e4,e5⟩
  ·exact .cons (zi e1 e2 hs (by simp[List.extract_eq_take_drop])) (zi e1 e2 hs (by simp[List.extract_eq_take_drop])) e3 ih
  ·exact .cons (lV e1 e2 (by simpa using take1 e3)) (lV e1 e2 (by simpa using take1 e4)) e5 ih
theorem NG:∀{d:Nat} {t:TypeId} {as bs:List SV} {us vs:List Value} {r:Bool},eqT P d t as bs=some r->DenL pl L w as us->DenL pl L w bs vs->U2 P d t us vs r
 | 0,_,_,_,_,_,_,h,_,_=>by cases h
 | d+1,t,as,bs,us,vs,r,h,ha,hb=>by
  unfold eqT at h;split at h
  ·rename_i hs
   split at h
   ·rename_i hh
    have h1:=Tv (d:=d) (fun t as bs us vs r h a b=>NG h a b) ha hb h;exact .inl ⟨_,xY hs,rfl,KT (xY hs) hh rfl h1⟩
   grind
  ·split at h
   ·rename_i n e sz har
    obtain⟨h1,h2⟩:=sO har;obtain⟨i,hi,hc⟩:=uD h2;have h3:=Tx (d:=d) (fun t as bs us vs r h a b=>NG h a b) ha hb h2 h;refine .inl ⟨_,h1,rfl,fun w=>?_⟩;rw[run_equalIn_array w d us.toArray vs.toArray h1 hi,List.range_eq_range'];grind[Program.cellsOf,Tw]
   ·split at h
    ·obtain⟨u,us',rfl,h1,h2⟩:=ha
     obtain⟨v,vs',rfl,h3,h4⟩:=hb;cases h2;cases h4;grind[ac5]
    grind
def U3:SV->Option (List SV)
 | .agg l=>some l
 | .d t x=>if t.agg=true then unp t x else none
 | _=>none
theorem Tz{s:SV}{u:Value}{cs:List SV}(hd:Den pl L w s u)(h:U3 s=some cs):∃us:List Value,u = .agg us.toArray∧DenL pl L w cs us:=by
 unfold U3 at h;split at h
 ·cases h
  obtain⟨us,h1,_,h2⟩:=hd;simp_all
 ·split at h
  ·rename_i t x ht
   obtain⟨us,h1,h2⟩:=hd;grind[rA,Rp.val,iQ]
  grind
 grind
def atv:SV->Bool
 | .agg _=>true
 | .d t _=>t.agg
 | _=>false
def qEq(P:Program)(op:BinOp)(t:TypeId)(a b:SV)(K:SV->List Nat->Option R):Option R :=
 match U3 a,U3 b with
 | some as,some bs=>if P.eqGuardType P.depth t=false∧(isStruct P t || (sN P t).isSome)=true then match eqT P 10000 t as bs with
  | some r=>match op with
   | .eql=>K (.d .bool r) []
   | .neq=>K (.d .bool (!r)) []
   | _=>none
  | none=>none else none
 | _,_=>none
theorem atw{op:BinOp}{t:TypeId}{a b:SV}{K:SV->List Nat->Option R}{r:R}(h:qEq P op t a b K=some r){d:Option Tmp}{ty u:TypeId}{pos:String}{af:Array Edge}{g:Option (Nat×Bool)}{x y:Operand}
  (hx:Den pl L w a (ev l x)) (hy:Den pl L w b (ev l y)):∃s rd,K s rd=some r∧Yv P pl L w l ⟨d,.binOp op t x y u,ty,pos,af,g⟩ s rd:=by
 unfold qEq at h;split at h
 ·rename_i as bs h1 h2
  split at h
  ·rename_i hc
   split at h
   ·rename_i r' hr
    obtain⟨us,e1,e2⟩:=Tz hx h1;obtain⟨vs,e3,e4⟩:=Tz hy h2
    have hE:∀w,(Op.equalIn 10000 t (.agg us.toArray) (.agg vs.toArray)).run P w = .ok r' w:=by
     rcases NG hr e2 e4 with ⟨_,_,_,h⟩ | ⟨dd,_,_,h1,h2,_⟩
     ·exact h
     ·rcases Bool.or_eq_true_iff.1 hc.2 with hs | hs
      ·rw[xY hs]at h1;cases h1;cases h2
      ·obtain⟨⟨n,e,sz⟩,har⟩:=Option.isSome_iff_exists.1 hs
       rw[(sO har).1]at h1;cases h1;cases h2
    split at h
    ·exact⟨_,_,h,Yv.of (nV _) (fun w'=>UE e1 e3 hc.1 hE)⟩
    ·exact⟨_,_,h,Yv.of (nV _) (fun w'=>UF e1 e3 hc.1 hE)⟩
    grind
   grind
  grind
 grind
end
end Ev
end
noncomputable section
namespace Ev
open Go Go.RowKit Sx
def eqL{α:Type}(f:α->α->Bool):List α->List α->Bool
 | [],[]=>true
 | a::r,b::q=>f a b && eqL f r q
 | _,_=>false
def eqV:(t:Ty)->Vl t->Vl t->Bool
 | .int _,x,y=>eqi x y
 | .bool,x,y=>eqb x y
 | .str,x,y=>eqs x y
 | .sl t,x,y=>eqL (eqV t) x y
 | .pr a b,x,y=>eqV a x.1 y.1 && eqV b x.2 y.2
 | .wr a,x,y=>eqV a x y
 | .un,_,_=>true
 | .ar _ t,x,y=>eqL (eqV t) x y
 | .mp k v,x,y=>eqL (fun a b=>eqV k a.1 b.1 && eqV v a.2 b.2) x y
theorem BA{α:Type}{f:α->α->Bool}(h:∀a b,f a b=true->a=b):∀{x y:List α},eqL f x y=true->x=y
 | [],[],_=>rfl
 | a::r,b::q,e=>by simp only[eqL,zO]at e;rw[h a b e.1,BA h e.2]
 | [],_::_,e=>by cases e
 | _::_,[],e=>by cases e
theorem rP:∀(t:Ty) (x y:Vl t),eqV t x y=true->x=y
 | .int _,x,y,h=>by simpa [eqV,eqi]using h
 | .bool,x,y,h=>by simpa [eqV,eqb]using h
 | .str,x,y,h=>by simpa [eqV,eqs]using h
 | .sl t,x,y,h=>BA (rP t) h
 | .pr a b,x,y,h=>by simp only[eqV,zO]at h;exact Prod.ext (rP a _ _ h.1) (rP b _ _ h.2)
 | .wr a,x,y,h=>rP a x y h
 | .un,_,_,_=>rfl
 | .ar _ t,x,y,h=>BA (rP t) h
 | .mp k v,x,y,h=>BA (fun a b h=>by
   simp only[zO]at h
   exact Prod.ext (rP k _ _ h.1) (rP v _ _ h.2)) h
section
variable {R:Type}{B:Nat->Prop}{F:Lx}{w0:Bs}{wr:Wr}{pl pl':List Place}{S S':St}{l l':List Value}{ls:List (List Value)}{w w':World}{L L' M:Lx}{P:Program}{d:Option Tmp}{ty:TypeId}{pos:String}{af:Array Edge}{gd:Option (Nat×Bool)}
 {Q:Exit->Act->World->Prop} {KK:List Value->World->Prop} {K:St->SV->Option R} {r:R}
def GJ(P:Program)(T:TypeId)(s:SV):Option ((t:Ty)×List (Vl t)) :=
 match sN P T with
 | some (m,e,n)=>match ny P e with
  | some ⟨t0,_⟩=>if t0.size=n∧m≤1073741824 then (match s with
   | .d (.ar m' t1) xs=>if m'=m then (ji (.sl t1) (.sl t0) xs).map fun ys=>⟨t0,ys⟩ else none
   | .agg cs=>(pkN t0 m cs).map fun ys=>⟨t0,ys⟩
   | _=>none) else none
  | none=>none
 | none=>none
def GK(S:St)(T:TypeId)(t:Ty)(xs:List (Vl t))(K:St->SV->Option R):Option R :=
 K { S with own:=(S.nx,.row t T xs)::S.own,nx:=S.nx+1 } (.pb S.nx 0)
theorem EX{T:TypeId}{s:SV}{t0:Ty}{xs:List (Vl t0)}{u:Value}(h:GJ P T s=some ⟨t0,xs⟩)(hd:Den pl L w s u):∃us:List Value,u = .agg us.toArray∧RowsOf (rp t0) L w us xs∧(∀v∈us,v.oneCell'=true)∧xs.length≤1073741824∧0<t0.size:=by
 unfold GJ at h;split at h
 ·rename_i m e n har
  split at h
  ·rename_i t1 z hr
   have hpos:0<t1.size:=by have:=(pP hr).pos;grind[jc]
   split at h
   ·rename_i hc
    split at h
    ·rename_i m' t2 ys
     split at h
     ·rename_i hm
      subst hm;obtain⟨zs,h1,h2⟩:=Option.map_eq_some_iff.1 h;obtain⟨e1,h1⟩:=qC h1;cases e1;subst h1;cases h2;obtain⟨cs,⟨h3,h4⟩,h5⟩:=hd;have hle:m'≤1073741824:=hc.2;rw[<- h3]at hle;exact⟨cs,by simp_all[Rp.val,iQ,Ty.agg],h4,h4.one,hle,hpos⟩
     grind
    ·obtain⟨zs,h1,h2⟩:=Option.map_eq_some_iff.1 h
     cases h2
     obtain⟨us,h3,h4,h5⟩:=hd;grind[Il]
    grind
   grind
  grind
 grind
theorem NH{t:Ty}{T:TypeId}{w:World}{g:Nat}{cs:List Value}{xs:List (Vl t)}(hb:Bx w g cs T)(hr:RowsOf (rp t) L w cs xs)(hl:xs.length≤1073741824):Ow (rp t) T L w (some ⟨g,0,none⟩) xs.length xs.length xs :=
 ⟨rfl,cs,⟨hr.len,.inr ⟨g,xs.length,cs.toArray,rfl,Nat.zero_le _,hb,Nat.le_refl _,by grind[maxLen],by rw[List.size_toArray];exact hr.len,by rw[<- hr.len];simp⟩⟩,hr⟩
theorem xZ(h:Rel B F w0 wr pl S l ls w){T:TypeId}{t:Ty}{xs:List (Vl t)}{us:List Value}(hv:GK S T t xs K=some r)(hk:Hand B F w0 wr S.nt l ls d K r KK){g:Nat}(hs:Stp B (lx pl S.own) (some g::lx pl S.own) F [] w w')(hb:Bx w' g us T)
  (hr:RowsOf (rp t) (lx pl S.own++F) w us xs) (hl:xs.length≤1073741824):KK (st l d (.pointer (some ⟨g,0,none⟩))) w':=by
 have hr':RowsOf (rp t) ((some g::lx pl S.own)++F) w' us xs:=hr.step hs.hf (fun k hk=>List.mem_append_left _ (hs.hM k hk)) hs.hs;have hrel:=h.push ⟨some ⟨g,0,none⟩,xs.length,xs.length⟩ (.row t T xs) hs ⟨_,jF _,NH hb hr' hl⟩;refine hk _ _ _ _ w' hrel rfl ?_ hv;exact⟨g,_,_,by rw[h.nx];exact jF _,rfl⟩
def hasAr:Ty->Bool
 | .ar _ _=>true
 | .pr a b=>hasAr a || hasAr b
 | .wr a=>hasAr a
 | _=>false
def U4(S:St)(T:TypeId)(t:Ty)(x:Vl t)(K:St->SV->Option R):Option R :=
 K { S with own:=(S.nx,.row t T [x])::S.own,nx:=S.nx+1 } (.prw S.nx 0 t.size 0)
theorem GL(h:Rel B F w0 wr pl S l ls w){T:TypeId}{t:Ty}{x:Vl t}{us:List Value}(hv:U4 S T t x K=some r)(hk:Hand B F w0 wr S.nt l ls d K r KK){g:Nat}(hs:Stp B (lx pl S.own) (some g::lx pl S.own) F [] w w')(hb:Bx w' g us T)
  (hr:(rp t).rel (lx pl S.own++F) w us x):KK (st l d (.pointer (some ⟨g,0,none⟩))) w':=by
 have hr0:RowsOf (rp t) (lx pl S.own++F) w us [x]:=⟨us,[],by simp,hr,rfl⟩;have hr':RowsOf (rp t) ((some g::lx pl S.own)++F) w' us [x]:=hr0.step hs.hf (fun k hk=>List.mem_append_left _ (hs.hM k hk)) hs.hs;have hrel:=h.push ⟨some ⟨g,0,none⟩,[x].length,[x].length⟩ (.row t T [x]) hs ⟨_,jF _,NH hb hr' (by simp)⟩;refine hk _ _ _ _ w' hrel rfl ?_ hv;exact⟨g,0,_,_,by rw[h.nx];exact jF _,by simp⟩
theorem BD{ty:Ty}{s:SV}{x:Vl ty}{u:Value}{L:Lx}(hz:toD ty s=some x)(hd:Den pl L w s u):(rp ty).rel L w u.cells.toList x:=by
 obtain⟨c,h8,h9⟩:=ql hz hd
 have:u.cells.toList=c:=by
  rw[h9]
  cases ha:ty.agg with
  | true=>simp[Rp.val,iQ,ha,Value.cells]
  | false =>
   have hl:=(rp ty).len h8;rw[vV ty ha]at hl;obtain⟨v,rfl⟩:=List.length_eq_one_iff.1 hl;simp only[Rp.val,iQ,ha,Bool.false_eq_true,if_false,List.headD_cons];exact xA ((rp ty).one h8 v (by simp))
 simp_all
def yR(P:Program)(S:St)(t:TypeId)(K:St->SV->Option R):Option R :=
 match tyc P t with
 | some ty=>if hasAr ty=true then match (P.info? t).bind (·.zero) with
   | some (.agg ⟨cs⟩)=>if cs.all Value.oneCell'=true then (match toD ty (.agg (cs.map ofV)) with
    | some x=>U4 S t ty x K
    | none=>none) else none
   | _=>none
  else Bu P S t K
 | none=>Bu P S t K
theorem Ac(h:Rel B F w0 wr pl S l ls w){t:TypeId}(hv:yR P S t K=some r)(hk:Hand B F w0 wr S.nt l ls d K r KK):OW P ⟨d,.alloc t,ty,pos,af,gd⟩ l w KK Q:=by
 unfold yR at hv;split at hv
 ·split at hv
  ·split at hv
   ·rename_i cs hz
    split at hv
    ·rename_i hone
     split at hv
     ·rename_i x hx
      have hone:=List.all_eq_true.1 hone;have h1:=BD (pl:=pl) (L:=lx pl S.own++F) (w:=w) (u:=.agg cs.toArray) hx ⟨cs,pO cs,hone,rfl⟩;exact xw hz rfl h.hL (fun g w' hS hb=>GL h hv hk hS hb h1)
     grind
    grind
   grind
  grind[Bv]
 grind[Bv]
def U5(P:Program)(S:St)(t:TypeId)(s:SV)(K:St->SV->Option R):Option R :=
 match tyc P t with
 | some ty=>if hasAr ty=true then match toD ty s with
   | some x=>U4 S t ty x K
   | none=>none
  else Ng S t s K
 | none=>Ng S t s K
theorem afc(h:Rel B F w0 wr pl S l ls w){t:TypeId}{x:Operand}{s:SV}(hv:U5 P S t s K=some r)(hx:Den pl (lx pl S.own++F) w s (ev l x))(hk:Hand B F w0 wr S.nt l ls d K r KK):OW P ⟨d,.box t x,ty,pos,af,gd⟩ l w KK Q:=by
 unfold U5 at hv;split at hv
 ·split at hv
  ·split at hv
   ·rename_i z hz
    exact Du rfl rfl h.hL (fun g w' hS hb=>GL h hv hk hS hb (BD hz hx))
   grind
  grind[Ij]
 grind[Ij]
def U6(P:Program)(S:St)(t:TypeId)(s:SV)(K:St->SV->Option R):Option R :=
 match tyc P t with
 | some ty=>match toD ty s with
  | some x=>K { S with nx:=S.nx+1 } (.pe ty x)
  | none=>none
 | none=>none
theorem afd(h:Rel B F w0 wr pl S l ls w){t:TypeId}{x:Operand}{s:SV}(hv:U6 P S t s K=some r)(hx:Den pl (lx pl S.own++F) w s (ev l x))(hk:Hand B F w0 wr S.nt l ls d K r KK):OW P ⟨d,.box t x,ty,pos,af,gd⟩ l w KK Q:=by
 unfold U6 at hv;split at hv
 ·rename_i t0 _
  split at hv
  ·rename_i z hz
   refine Du rfl rfl h.hL (fun g w' hs hb=>?_);have hr:=BD hz hx;have hr0:RowsOf (rp t0) (lx pl S.own++F) w (ev l x).cells.toList [z]:=⟨_,[],by simp,hr,rfl⟩;have hr':RowsOf (rp t0) ((some g::lx pl S.own)++F) w' (ev l x).cells.toList [z]:=hr0.step hs.hf (fun k hk=>List.mem_append_left _ (hs.hM k hk)) hs.hs;have hO:=NH hb hr' (by simp);have hrel:=h.push ⟨some ⟨g,0,none⟩,[z].length,[z].length⟩ (.row t0 t [z]) hs ⟨_,jF _,hO⟩;have e1:lx (pl++[(⟨some ⟨g,0,none⟩,[z].length,[z].length⟩:Place)]) S.own=lx pl S.own:=Dw (mK _) h.ent;have hL:=hrel.hL;have e2:lx (pl++[(⟨some ⟨g,0,none⟩,[z].length,[z].length⟩:Place)]) ((S.nx,Ent.row t0 t [z])::S.own)=[]++some g::lx pl S.own:=by unfold lx at e1 ⊢;rw[List.map_cons,e1,h.nx,vY];rfl
   rw[e2]at hL;have hd:=hrel.drop (own':=S.own) (List.sublist_cons_self _ _);refine hk _ _ (.pe t0 z) _ w' hd rfl ⟨g,0,rfl,?_⟩ hv;show El (rp t0) (lx (pl++[_]) S.own++F) w' g 0 z;rw[e1];obtain⟨g',e3,he⟩:=ate (L':=lx pl S.own++F) (i:=0) hO (MI w' [] (lx pl S.own) F (some g)) (fun k hk=>hL.gone k hk) rfl;simp_all
  grind
 grind
def Iy(P:Program)(S:St)(t:TypeId)(K:St->SV->Option R):Option R :=
 match sN P t with
 | some (m,_)=>match (P.info? t).bind (·.zero) with
  | some (.agg ⟨cs⟩)=>match GJ P t (.agg (cs.map ofV)) with
   | some ⟨t0,xs⟩=>if cs.all Value.oneCell'=true then (match xs.head? with
    | some z=>if eqL (eqV t0) xs (zE m z)=true then GK S t t0 (zE m z) K else none
    | none=>GK S t t0 xs K) else none
   | none=>yR P S t K
  | _=>yR P S t K
 | none=>yR P S t K
theorem U7(h:Rel B F w0 wr pl S l ls w){t:TypeId}(hv:Iy P S t K=some r)(hk:Hand B F w0 wr S.nt l ls d K r KK):OW P ⟨d,.alloc t,ty,pos,af,gd⟩ l w KK Q:=by
 unfold Iy at hv;split at hv
 ·split at hv
  ·rename_i cs hz
   split at hv
   ·rename_i t0 xs ha
    split at hv
    ·rename_i hone
     have hone:=List.all_eq_true.1 hone;obtain⟨us,h1,h2,h3,h4,_⟩:=EX (pl:=pl) (L:=lx pl S.own++F) (w:=w) (u:=.agg cs.toArray) ha ⟨cs,pO cs,hone,rfl⟩;have:us=cs:=by simp_all
     subst this;split at hv
     ·split at hv
      ·rename_i z _ he
       have:=BA (rP t0) he;rw[<- this]at hv;exact xw hz rfl h.hL (fun g w' hS hb=>xZ h hv hk hS hb h2 h4)
      grind
     ·exact xw hz rfl h.hL (fun g w' hS hb=>xZ h hv hk hS hb h2 h4)
    grind
   grind[Ac]
  grind[Ac]
 grind[Ac]
def U8(P:Program)(S:St)(t:TypeId)(s:SV)(K:St->SV->Option R):Option R :=
 match GJ P t s with
 | some ⟨t0,xs⟩=>GK S t t0 xs K
 | none=>U5 P S t s K
theorem afe(h:Rel B F w0 wr pl S l ls w){t:TypeId}{x:Operand}{s:SV}(hv:U8 P S t s K=some r)(hx:Den pl (lx pl S.own++F) w s (ev l x))(hk:Hand B F w0 wr S.nt l ls d K r KK):OW P ⟨d,.box t x,ty,pos,af,gd⟩ l w KK Q:=by
 unfold U8 at hv;split at hv
 ·rename_i t0 xs ha
  obtain⟨us,h1,h2,h3,h4,_⟩:=EX ha hx;exact Du h1 rfl h.hL (fun g w' hS hb=>xZ h hv hk hS hb h2 h4)
 grind[afc]
def NI(P:Program)(S:St)(t u:TypeId)(s:SV)(K:St->SV->Option R):Option R:=none
theorem ac6(h:Rel B F w0 wr pl S l ls w){t u:TypeId}{x:Operand}{s:SV}(hv:NI P S t u s K=some r)(hx:Den pl (lx pl S.own++F) w s (ev l x))(hk:Hand B F w0 wr S.nt l ls d K r KK) :
  OW P ⟨d,.convert t u x,ty,pos,af,gd⟩ l w KK Q:=by
 unfold NI at hv;cases hv
end
end Ev
end
noncomputable section
namespace Ev
open Go Go.RowKit Sx
theorem RowsOf.take{α:Type}{R:Rp α}{L:Lx}{w:World}:∀{xs:List α} {cells:List Value} (k:Nat),RowsOf R L w cells xs->RowsOf R L w (cells.take (k*R.size)) (xs.take k)
 | [],cells,k,h=>by have h:cells=[]:=h;simp_all
 | x::xs,cells,0,h=>by simp;rfl
 | x::xs,cells,k+1,⟨c,rest,e,h1,h2⟩=>by subst e;refine⟨c,rest.take (k*R.size),?_,h1,RowsOf.take k h2⟩;rw[Nat.succ_mul,List.take_append,R.len h1,List.take_of_length_le (by rw[R.len h1];omega),show k*R.size+R.size - R.size=k*R.size by omega]
theorem RowsOf.drop{α:Type}{R:Rp α}{L:Lx}{w:World}:∀{xs:List α} {cells:List Value} (k:Nat),RowsOf R L w cells xs->RowsOf R L w (cells.drop (k*R.size)) (xs.drop k)
 | [],cells,k,h=>by have h:cells=[]:=h;simp_all
 | x::xs,cells,0,h=>by simp_all
 | x::xs,cells,k+1,⟨c,rest,e,h1,h2⟩=>by subst e;have:=RowsOf.drop k h2;rw[Nat.succ_mul,List.drop_append,R.len h1,List.drop_of_length_le (by rw[R.len h1];omega),show k*R.size+R.size - R.size=k*R.size by omega];simp_all
section
variable {R:Type}{B:Nat->Prop}{F:Lx}{w0:Bs}{wr:Wr}{pl pl':List Place}{S S':St}{l l':List Value}{ls:List (List Value)}{w w':World}{L L' M:Lx}{P:Program}{d:Option Tmp}{ty:TypeId}{pos:String}{af:Array Edge}{gd:Option (Nat×Bool)}
 {Q:Exit->Act->World->Prop} {KK:List Value->World->Prop} {K:St->SV->Option R} {r:R}
theorem NJ{α:Type}{Rr:Rp α}{own F:Lx}{e:TypeId}{b n c lo:Nat}{xs ys:List α}{vs:List Value}(hL:LOk B own F w)(hm:some b∈own)(hown:Ow Rr e (own++F) w (some ⟨b,0,none⟩) n c xs)(hy:RowsOf Rr (own++F) w vs ys)(hle:lo+ys.length≤xs.length) :
  ∃w',(storeCells ⟨b,lo*Rr.size,none⟩ vs).run P w = .ok () w'∧Stp B own own F [some b] w w'∧Ow Rr e (own++F) w' (some ⟨b,0,none⟩) n c (xs.take lo++ys++xs.drop (lo+ys.length)):=by
 obtain⟨rfl,cells,hr1,hr2⟩:=hown;rcases hr1.2 with ⟨hv',_⟩ | ⟨g,cap,cur,hv',_,hg,hnc,hcm,hcs,htk⟩
 ·grind
 ·simp at hv'
  obtain⟨rfl,rfl⟩:=hv';have hcl:cells.length=xs.length*Rr.size:=hr1.1;have hvl:=hy.len;have hcur:xs.length*Rr.size≤cur.size:=by grind
  have hmul:lo*Rr.size+ys.length*Rr.size≤xs.length*Rr.size:=by rw[<- Nat.add_mul];exact Nat.mul_le_mul_right _ hle
  have hst:=run_storeCells_at P b (lo*Rr.size) e vs 0 cur w hg (by omega) hy.one;simp only[Nat.add_zero]at hst
  have hf:Fz [some b] w (w.setRow b (cur.toList.take (lo*Rr.size)++vs++cur.toList.drop (lo*Rr.size+vs.length)).toArray) :=
   ⟨rfl,rfl,rfl,by simp,fun k hk hn=>setRow_other w b k _ (fun e=>hn (by simp[e]))⟩
  have hS:Stp B own own F [some b] w _:=Stp.store hL hm hf;have hrow:RowsOf Rr (own++F) w (cells.take (lo*Rr.size)++vs++cells.drop ((lo+ys.length)*Rr.size)) (xs.take lo++ys++xs.drop (lo+ys.length)):=((RowsOf.take lo hr2).append hy).append (RowsOf.drop _ hr2);have hnl:(xs.take lo++ys++xs.drop (lo+ys.length)).length=xs.length:=by grind
  refine⟨_,hst,hS,hnl.symm,_,⟨by grind,.inr ⟨b,c,_,by rfl,Nat.zero_le _,setRow_heap w b cur _ e (0,0) hg,by omega,hcm,?_,?_⟩⟩,hrow.step hf (fun k hk=>List.mem_append_left _ (hS.hM k hk)) hS.hs⟩
  ·grind
  ·rw[hnl]
   have hcurl:cur.toList=cells++cur.toList.drop (xs.length*Rr.size):=by grind[List.take_append_drop]
   have e4:cur.toList.take (lo*Rr.size)=cells.take (lo*Rr.size):=by grind
   have e5:cur.toList.drop (lo*Rr.size+vs.length)=cells.drop ((lo+ys.length)*Rr.size)++cur.toList.drop (xs.length*Rr.size):=by
    conv=>lhs;rw[hcurl]
    rw[hvl,<- Nat.add_mul,List.drop_append_of_le_length (by grind)]
   rw[e4,e5];show List.take _ (cells.take (lo*Rr.size)++vs++(cells.drop ((lo+ys.length)*Rr.size)++cur.toList.drop (xs.length*Rr.size)))=_;rw[<- List.append_assoc];have:=hrow.len;grind
def cpy{α:Type}(xs:List α)(lo:Int)(ys:List α):List α:=xs.take lo.toNat++ys++xs.drop (lo.toNat+ys.length)
def U9(own:List (Nat×Ent))(n:Nat)(s:SV):Option (Nat×Int×Int) :=
 match nz s with
 | .rowz i=>match get own i with
  | some (.row _ _ xs)=>some (i,0,xs.length)
  | _=>none
 | .sub i sz lo m=>if sz=n then some (i,lo,m) else none
 | _=>none
def yS(P:Program)(S:St)(t:TypeId)(a s:SV)(K:St->SV->Option R):Option R :=
 match a with
 | .pb i o=>match get S.own i with
  | some (.row t0 e xs)=>if o=0 then (match GJ P t s,jX P t with
   | some ⟨t1,ys⟩,some n=>(ji (.sl t1) (.sl t0) ys).bind fun zs:List (Vl t0)=>need (eqi (xs.length:Int) (zs.length:Int)) (need (eqi (n:Int) ((zs.length*t0.size:Nat):Int)) (K { S with own:=kK i (.row t0 e zs) S.own,log:=i::S.log } (.k undef)))
   | _,_=>none) else none
  | _=>yP P S t a s K
 | _=>yP P S t a s K
theorem Ad(h:Rel B F w0 wr pl S l ls w){t:TypeId}{x y:Operand}{a s:SV}(hv:yS P S t a s K=some r)(hx:Den pl (lx pl S.own++F) w a (ev l x))(hy:Den pl (lx pl S.own++F) w s (ev l y))(hk:Hand B F w0 wr S.nt l ls d K r KK):OW P ⟨d,.store t x y,ty,pos,af,gd⟩ l w KK Q:=by
 unfold yS at hv;split at hv
 ·rename_i i o
  split at hv
  ·rename_i t0 e xs hg
   split at hv
   ·rename_i ho
    subst ho;split at hv
    ·rename_i t1 ys n ha hn
     obtain⟨zs,hz,hv⟩:=iD hv;obtain⟨e1,hz⟩:=qC hz;cases e1;subst hz;obtain⟨hl,hv⟩:=iZ hv;obtain⟨hsz,hv⟩:=iZ hv;have hl:(xs.length:Int)=(ys.length:Int):=by simp_all[eqi]
     have hsz:(n:Int)=((ys.length*t0.size:Nat):Int):=by simp_all[eqi]
     obtain⟨us,h1,h2,h3,h4,_⟩:=EX ha hy;obtain⟨g,n1,c1,p1,p2⟩:=hx;obtain⟨p',p3,p4⟩:=h.ent _ (iI hg);rw[p1]at p3;cases p3;have hpl:plb pl i=some g:=iF p1;obtain⟨w',hst,hS,hO⟩:=NJ (P:=P) (lo:=0) h.hL (by rw[<- hpl];exact List.mem_map_of_mem (f:=fun e:Nat×Ent=>plb pl e.1) (iI hg)) p4 h2 (by omega);have hul:=h2.len;rw[jc]at hul;have hrow:[].append ys++xs.drop ys.length=ys:=by show ys++xs.drop ys.length=ys;grind[List.drop_of_length_le]
     have hO':Ow (rp t0) e (lx pl S.own++F) w' (some ⟨g,0,none⟩) n1 c1 ys:=by simp_all[List.take_zero,List.nil_append,Nat.zero_add,List.drop_of_length_le,List.append_nil]
     have hr:=h.mod (e':=.row t0 e ys) hg (by simp_all) ⟨_,p1,hO'⟩;refine yJ (w':=w') ?_ (hk pl _ (.k undef) undef w' hr rfl rfl hv);have hsize:(ev l y).cells.size=n:=by grind[Value.cells]
     have hcl:(ev l y).cells.toList=us:=by simp_all[Value.cells]
     simp only[Nat.zero_mul]at hst;simp only[execOp,p2,Instr.storeAt,Instr.sureAddr,storeVar,Sem.run_bind,Sem.run_pure,zL,mH hn,hsize,ne_eq,not_true_eq_false,if_false,hcl,hst]
    grind
   grind
  grind[xB]
 grind[xB]
def Va(P:Program)(S:St)(t:TypeId)(s1 s2:SV)(K:St->SV->Option R):Option R :=
 match lX P t with
 | some (_,n)=>match U9 S.own n s1 with
  | some (i,lo,m)=>match get S.own i with
   | some (.row t0 e0 xs)=>match leaf (.sl t0) s2 with
    | some zs=>if t0.size=n then need (le (lo+m) xs.length) (K { S with own:=kK i (.row t0 e0 (cpy xs lo (zs.take m.toNat))) S.own,log:=i::S.log } (.d (.int .i64) ((zs.take m.toNat).length:Int))) else none
    | none=>none
   | _=>none
  | none=>none
 | none=>none
theorem aff{own:List (Nat×Ent)}(he:EntsD pl L w own){n i:Nat}{s:SV}{lo m:Int}{u:Value}(h:U9 own n s=some (i,lo,m))(hd:Den pl L w s u):0≤lo∧0≤m∧∃p a c,pl[i]? = some p∧u = .slice a m.toNat c∧(m≠0->∃g o,p.a=some ⟨g,o,none⟩∧a=some ⟨g,o+lo.toNat*n,none⟩):=by
 replace hd:=yL hd
 unfold U9 at h;generalize nz s=s at h hd;split at h
 ·split at h
  ·rename_i i' _ _ xs hg
   cases h
   obtain⟨p,h1,h2⟩:=hd;obtain⟨p',h3,h4⟩:=he.get hg;rw[h1]at h3;cases h3;have hlen:=h4.len;refine⟨Int.le_refl _,by omega,p,?_⟩;rcases h2 with h2 | ⟨q1,q2,q3,a,h2⟩
   ·refine⟨p.a,p.c,h1,by simp_all,fun hne=>?_⟩
    obtain⟨g,hg⟩:=h4.addr (i:=0) (by omega);simp_all
   simp_all
  grind
 ·split at h
  ·rename_i hs
   cases h
   subst hs;obtain⟨p,a,c,h1,h2,h3,_,h4,_,h5,_⟩:=hd;exact⟨h2,h3,p,a,c,h1,h4,fun hne=>(h5 (by omega)).2⟩
  grind
 grind
theorem afg(h:Rel B F w0 wr pl S l ls w){t t':TypeId}{x y:Operand}{s1 s2:SV}(hv:Va P S t s1 s2 K=some r)(hx:Den pl (lx pl S.own++F) w s1 (ev l x))(hy:Den pl (lx pl S.own++F) w s2 (ev l y))(hk:Hand B F w0 wr S.nt l ls d K r KK) :
  OW P ⟨d,.call ⟨.builtin .copy,#[x,y],#[t,t']⟩,ty,pos,af,gd⟩ l w KK Q:=by
 unfold Va at hv;split at hv
 ·rename_i e n hel
  obtain⟨he1,he2⟩:=jD hel;split at hv
  ·rename_i i lo m hdst
   split at hv
   ·rename_i t0 e0 xs hg
    split at hv
    ·rename_i zs hzs
     split at hv
     ·rename_i hsz
      obtain⟨hle,hv⟩:=iZ hv;have hle:lo+m≤(xs.length:Int):=of_decide_eq_true hle;obtain⟨h0,hm0,p,a,c,hp,hu,ha⟩:=aff h.ent hdst hx;obtain⟨p',hp',hO⟩:=h.ent _ (iI hg);rw[hp]at hp';cases hp';obtain⟨a2,n2,c2,hu2,hsl⟩:=Bw (vX (t:=.sl t0) rfl hzs hy);have hn2:=Bi hsl;subst hn2;have hmin:Nat.min zs.length m.toNat=(zs.take m.toNat).length:=by grind
      have hread:∃vs,(Builtin.firstCells n (Nat.min zs.length m.toNat) (.slice a2 zs.length c2)).run P w = .ok vs.toArray w∧RowsOf (rp t0) (lx pl S.own++F) w vs (zs.take m.toNat):=by
       rw[hmin];by_cases hz:zs=[]
       ·subst hz
        refine⟨[],?_,by simp;rfl⟩;cases a2<;>simp[Builtin.firstCells,loadCells,loadCellsFrom]
       ·obtain⟨b,o,cells,rfl,_,h3,h4⟩:=uY hsl hz
        have ht:=RowsOf.take m.toNat h3;refine⟨_,?_,ht⟩;have hl:=ht.len;grind[run_loadCells_list,rp,List.getElem?_eq_some_iff,List.length_take,List.getElem?_take_of_lt,jc,Builtin.firstCells]
      obtain⟨vs,hvs1,hvs2⟩:=hread;have hlen0:(Builtin.lenOf (.slice a2 zs.length c2)).run P w = .ok zs.length w:=rfl
      have hfin:∀w',(∀a0,a=some a0->(storeCells a0 vs).run P w = .ok () w')->(a=none->w'=w)->(execOp (ev l) ⟨d,.call ⟨.builtin .copy,#[x,y],#[t,t']⟩,ty,pos,af,gd⟩).run P w = .ok (.value (.int .i64 ((zs.take m.toNat).length:Int))) w':=fun w' hs1 hs2=>by
       have hb:(Builtin.copy_ #[t,t'] ty #[ev l x,ev l y]).run P w = .ok (.int .i64 ((zs.take m.toNat).length:Int)) w':=by
        have hvs1':(Builtin.firstCells n (min m.toNat zs.length) (.slice a2 zs.length c2)).run P w = .ok vs.toArray w:=by simp_all
        unfold Builtin.copy_;rw[hu,hu2]
        cases a with
        | none =>
         have:=hs2 rfl;subst this;simp[run_underlying he1,hlen0,mH he2,hvs1',goInt,hmin]
        | some a0=>simp[run_underlying he1,hlen0,mH he2,hvs1',hs1 a0 rfl,goInt,hmin]
       simp_all[execOp,resolve,invoke,builtin,Sem.run_bind,Sem.run_pure,zL,List.map_toArray,List.map_cons,List.map_nil]
      by_cases hm:m=0
      ·subst hm
       have hnil:zs.take (0:Int).toNat=[]:=by simp
       have hvs0:vs=[]:=by rw[hnil]at hvs2;exact hvs2
       subst hvs0;have hcpy:cpy xs lo (zs.take (0:Int).toNat)=xs:=by unfold cpy;simp
       rw[hcpy]at hv;refine kZ (hfin w (fun a0 _=>by rfl) (fun _=>rfl)) ?_
       have hr:=h.mod (e':=.row t0 e0 xs) hg (w':=w) ⟨Fz.refl _ _,fun k hk=>by
        simp at hk;rw[hk]
        exact List.mem_map_of_mem (f:=fun e:Nat×Ent=>plb pl e.1) (iI hg),Sub.refl _ _,h.hL⟩ ⟨p,hp,hO⟩
       exact hk pl _ _ _ w hr rfl (jA _ _) hv
      ·obtain⟨g,o,hga,rfl⟩:=ha hm
       obtain⟨_,hb0⟩:=hO.addr (i:=0) (by omega);rw[hga]at hb0;cases hb0;rw[Nat.zero_add]at hu hfin;obtain⟨pa,pn,pc⟩:=p;simp only at hga hO;subst hga
       have hmem:some g∈lx pl S.own:=by
        have:plb pl i=some g:=by rw[iF hp];rfl
        rw[<- this];exact List.mem_map_of_mem (f:=fun e:Nat×Ent=>plb pl e.1) (iI hg)
       obtain⟨w',hst,hS,hO'⟩:=NJ (P:=P) (lo:=lo.toNat) h.hL hmem hO hvs2 (by grind);rw[jc,hsz]at hst;refine kZ (hfin w' (fun a0 e=>by simp_all) (fun e=>by cases e)) ?_;have hpl:plb pl i=some g:=by rw[iF hp];rfl
       have hr:=h.mod (e':=.row t0 e0 (cpy xs lo (zs.take m.toNat))) hg (by simp_all) ⟨_,hp,hO'⟩;exact hk pl _ _ _ w' hr rfl (jA _ _) hv
     grind
    grind
   grind
  grind
 grind
end
end Ev
end
noncomputable section
namespace Ev
open Go Go.RowKit Sx
section
variable {R:Type}{B:Nat->Prop}{F:Lx}{w0:Bs}{wr:Wr}{pl pl':List Place}{S S':St}{l l':List Value}{ls:List (List Value)}{w w':World}{L L' M:Lx}{P:Program}{d:Option Tmp}{ty:TypeId}{pos:String}{af:Array Edge}{gd:Option (Nat×Bool)}
 {Q:Exit->Act->World->Prop} {KK:List Value->World->Prop} {K:St->SV->Option R} {r:R}
def lSD(P:Program)(S:St)(ty:TypeId)(s:SV)(K:St->SV->Option R):Option R:=none
theorem atx(h:Rel B F w0 wr pl S l ls w){x:Operand}{ts:Array TypeId}{s:SV}(hv:lSD P S ty s K=some r)(hx:Den pl (lx pl S.own++F) w s (ev l x))(hk:Hand B F w0 wr S.nt l ls d K r KK) :
  OW P ⟨d,.call ⟨.builtin .unsafeSliceData,#[x],ts⟩,ty,pos,af,gd⟩ l w KK Q:=by
 unfold lSD at hv;cases hv
def lUS(P:Program)(S:St)(pt:TypeId)(s n:SV)(K:St->SV->Option R):Option R:=none
theorem Fz.freeze(w:World)(a:Addr)(n:Nat):Fz [some a.block] w (w.freeze a n):=by
 refine⟨?_,?_,?_,?_,fun k hk hn=>?_⟩
 ·grind[World.freeze]
 ·grind[World.freeze]
 ·grind[World.freeze]
 ·grind[World.freeze]
 grind[World.freeze]
theorem aty(h:Rel B F w0 wr pl S l ls w){x y:Operand}{pt it:TypeId}{s n:SV}(hv:lUS P S pt s n K=some r)(hx:Den pl (lx pl S.own++F) w s (ev l x))(hy:Den pl (lx pl S.own++F) w n (ev l y))(hk:Hand B F w0 wr S.nt l ls d K r KK) :
  OW P ⟨d,.call ⟨.builtin .unsafeString,#[x,y],#[pt,it]⟩,ty,pos,af,gd⟩ l w KK Q:=by
 unfold lUS at hv;cases hv
inductive Xk where
 | ibs
 | noesc
 | cnt
def nmI:String:=match Extern.BytealgIndexByte.rows with
 | _::x::_=>x.1
 | _ => ""
def nmN:String:=match Extern.AbiNoEscape.rows with
 | x::_=>x.1
 | _ => ""
def nmC:String:=match Extern.BytealgCount.rows with
 | _::x::_=>x.1
 | _ => ""
def xk(P:Program)(f:FuncId):Option Xk:=match P.funcs[f]? with
 | some fn => if fn.body.isNone = true ∧ fn.origin = "" then (if fn.name = nmI then some .ibs else if fn.name = nmN then some .noesc else if fn.name = nmC then some .cnt else none) else none
 | none=>none
def afh(k:Xk)(S:St)(args:List SV)(K:St->SV->Option R):Option R:=none
theorem ar1(h:Rel B F w0 wr pl S l ls w){f:FuncId}{args:Array Operand}{ts:Array TypeId}{k:Xk}{ss:List SV}(hf:xk P f=some k)(hs:Bz S args.toList=some ss)(hv:afh k S ss K=some r)(hk:Hand B F w0 wr S.nt l ls d K r KK) :
  OW P ⟨d,.call ⟨.value (.func f),args,ts⟩,ty,pos,af,gd⟩ l w KK Q:=by
 unfold afh at hv;cases hv
def mth(P:Program)(t:TypeId)(name:String):Option FuncId :=
 match P.info? t,P.underlying t with
 | some ti,some dd=>match ti.methods.find? (·.name == name) with
  | some m=>if m.path.isEmpty=true then match m.func with
   | some (f,ptr)=>match dd with
    | .pointer _=>if ptr=true then some f else none
    | _=>if ptr=false then some f else none
   | none=>none
   else none
  | none=>none
 | _,_=>none
theorem Vb{t:TypeId}{v:Value}{name:String}{f:FuncId}{n:Nat}(h:mth P t name=some f):(method (n+1) t v name).run P w = .ok (f,v) w:=by
 unfold mth at h;split at h
 ·rename_i ti dd h1 h2
  split at h
  ·rename_i m hm
   split at h
   ·rename_i hp
    split at h
    ·rename_i f' ptr hfn
     have hpath:m.path = #[]:=by simpa using hp
     have hti:(typeInfo t).run P w = .ok ti w:=by simp[typeInfo,h1,Sem.run]
     split at h
     ·rename_i e
      split at h
      ·rename_i hptr
       cases h
       subst hptr;simp[method,hti,hm,hpath,follow,hfn,receiverAt,run_underlying h2,Go.Place.get,Sem.run_pure]
      ·cases h
     ·rename_i hnp
      split at h
      ·rename_i hptr
       cases h
       subst hptr
       have hr:∀wr,(receiverAt t (.val v) false wr).run P w = .ok v w:=fun wr=>by
        cases dd with
        | pointer e=>exact absurd rfl (hnp e)
        | _=>simp[receiverAt,run_underlying h2,Go.Place.get,Sem.run_pure]
       simp[method,hti,hm,hpath,follow,hfn,hr,Sem.run_pure]
      ·cases h
    ·cases h
   ·cases h
  ·cases h
 ·cases h
def afi(P:Program)(x:Operand)(name:String)(args:List Operand):Gt:=fun S=>match opv S x,Bz S args with
 | some (.ifc t v),some ss=>match mth P t name with
  | some f=>if Ny P f=true then some (f,v::ss) else none
  | none=>none
 | _,_=>none
theorem ar2{x:Operand}{name:String}{args:Array Operand}{ts:Array TypeId}:Iu P l ⟨d,.call ⟨.invoke x name,args,ts⟩,ty,pos,af,gd⟩ w (afi P x name args.toList):=fun pl L S f ss hf hg=>by
 unfold afi at hg;split at hg
 ·rename_i t v ss' h1 h2
  split at hg
  ·rename_i f' hm
   split at hg
   ·rename_i hfn
    cases hg
    obtain ⟨u,h3,h4⟩:=gz hf h1;have h5:=wo hf h2;refine ⟨u::args.toList.map (ev l),⟨u,_,rfl,h3,h5⟩,?_⟩;obtain ⟨fn,q1,q2,q3⟩:=Tq hfn;have hn' : fn.name ≠ "runtime.NumGoroutine" := by simp_all
    have hb':fn.body≠none:=by grind
    have hcall:∀as,(callFunc f as).run P w = .ok (.enter f as) w:=fun as=>by simp_all[callFunc]
    have hmr:=Vb (P:=P) (w:=w) (v:=u) (n:=P.types.size+Made.depth - 1) hm;have hdep:P.types.size+Made.depth - 1+1=P.types.size+Made.depth:=by rfl
    rw[hdep]at hmr;have e1:(#[Value.iface t u]++args.map (ev l)).extract 1 (#[Value.iface t u]++args.map (ev l)).size=args.map (ev l):=by simp
    have e2:#[u]++args.map (ev l)=(u::args.toList.map (ev l)).toArray:=Array.ext' (by simp)
    have hinv:(invoke (.fn (.method name) #[]) (#[Value.iface t u]++args.map (ev l))).run P w = .ok (.enter f (u::args.toList.map (ev l)).toArray) w:=by
     have h0:(#[Value.iface t u]++args.map (ev l))[0]? = some (.iface t u):=by simp_all[Array.getElem?_append_left]
     unfold invoke;simp only[h0,e1];simp_all[callMethod,Sem.run_bind,run_program,zL]
    simp_all[execOp,resolve,Sem.run_bind,Sem.run_pure,zL]
   grind
  grind
 grind
end
end Ev
end
noncomputable section
namespace Ev
open Go Go.RowKit Sx Go.MapKept
def x9(kt:Ty){V:Type}:List (Vl kt×V)->Vl kt->Option V
 | [],_=>none
 | (a,b)::r,k=>if keq kt a k=true then some b else x9 kt r k
def Iz(kt:Ty){V:Type}:List (Vl kt×V)->Vl kt->V->List (Vl kt×V)
 | [],k,v=>[(k,v)]
 | (a,b)::r,k,v=>if keq kt a k=true then (a,v)::r else (a,b)::Iz kt r k v
def vk:Ty->Bool
 | .int _=>true
 | .str=>true
 | .bool=>true
 | _=>false
def rQ:Ty->Bool
 | .pr a b=>vk a && rQ b
 | .int _=>true
 | .str=>true
 | .bool=>true
 | _=>false
def Ae:Ty->Bool
 | .int _=>true
 | .str=>true
 | .pr a b=>vk a && rQ b
 | _=>false
theorem DL:∀{t:Ty},vk t=true->rQ t=true
 | .int _,_=>rfl
 | .str,_=>rfl
 | .bool,_=>rfl
theorem ac7:∀{t:Ty},Ae t=true->rQ t=true
 | .int _,_=>rfl
 | .str,_=>rfl
 | .pr _ _,h=>h
theorem NK:∀{t:Ty},rQ t=true->∀x:Vl t,keq t x x=true
 | .int _,_,x=>by simp[keq,eqi]
 | .str,_,x=>by simp[keq,eqs]
 | .bool,_,x=>by simp[keq,eqb]
 | .pr a b,h,x=>by simp_all[vk,rQ,zO,keq,NK,DL,Bool.and_self]
theorem sS{t:Ty}(ht:Ae t=true)(x y:Vl t):keq t x y=true↔x=y :=
 ⟨GA,fun h=>by simp_all[NK,ac7]⟩
theorem nQ:∀{t:Ty},vk t=true->∀x:Vl t,∃v,iJ t x=[v]
 | .int _,_,_=>⟨_,rfl⟩
 | .str,_,_=>⟨_,rfl⟩
 | .bool,_,_=>⟨_,rfl⟩
theorem EY:∀{t:Ty},rQ t=true->∀x y:Vl t,iJ t x=iJ t y->x=y
 | .int _,_,x,y,h=>by simpa [iJ]using h
 | .str,_,x,y,h=>by simpa [iJ,xV]using h
 | .bool,_,x,y,h=>by simpa [iJ]using h
 | .pr a b,hb,x,y,h=>by have hb:(vk a && rQ b)=true:=hb;rw[zO]at hb;obtain⟨u,hu⟩:=nQ hb.1 x.1;obtain⟨v,hv⟩:=nQ hb.1 y.1;have h:iJ a x.1++iJ b x.2=iJ a y.1++iJ b y.2:=h;rw[hu,hv]at h;simp only[List.cons_append,List.nil_append,List.cons.injEq]at h;exact Prod.ext (EY (DL hb.1) _ _ (by rw[hu,hv,h.1])) (EY hb.2 _ _ h.2)
theorem Af:∀{t:Ty},rQ t=true->∀x:Vl t,∀v∈iJ t x,∃d,IsKey d v
 | .int k,_,x,v,h=>⟨.int k,by simp[iJ]at h;subst h;rfl⟩
 | .str,_,x,v,h=>⟨.string,by simp[iJ,xV]at h;subst h;trivial⟩
 | .bool,_,x,v,h=>⟨.bool,by simp[iJ]at h;subst h;trivial⟩
 | .pr a b,hb,x,v,h=>by
  have hb:(vk a && rQ b)=true:=hb;rw[zO]at hb;rcases List.mem_append.1 (show v∈iJ a x.1++iJ b x.2 from h) with h | h
  ·exact Af (DL hb.1) _ _ h
  ·exact Af hb.2 _ _ h
def DN(P:Program)(t:TypeId)(y:Ty):Bool:=match P.underlying t with
 | some (.int k)=>match y with
  | .int k'=>decide (k'=k)
  | _=>false
 | some .string=>match y with
  | .str=>true
  | _=>false
 | some .bool=>match y with
  | .bool=>true
  | _=>false
 | _=>false
theorem Ag{P:Program}{t:TypeId}{y:Ty}(h:DN P t y=true):∃dd,P.underlying t=some dd∧vT dd=false∧vk y=true ∧
  (∀(x:Vl y) (v:Value),iJ y x=[v]->∀e n w,(Instr.checkKey e (n+1) t v).run P w = .ok () w) ∧
  ∀(x x':Vl y) (v v':Value),iJ y x=[v]->iJ y x'=[v']->∀d,∃r,(∀w,(Op.equalIn (d+1) t v v').run P w = .ok r w)∧(r=true↔x=x'):=by
 unfold DN at h;split at h
 ·rename_i k hk
  split at h
  ·rename_i k'
   have:k'=k:=of_decide_eq_true h;subst this;refine⟨_,hk,rfl,rfl,fun x v hv e n w=>?_,fun x x' v v' hv hv' d=>?_⟩
   ·have hv:[Value.int k' x]=[v]:=hv
    cases hv
    exact run_checkKey (k:=.int k' x) hk rfl e n
   ·have hv:[Value.int k' x]=[v]:=hv
    have hv':[Value.int k' x']=[v']:=hv';cases hv;cases hv';simp_all[eq_int,eqi]
  grind
 ·rename_i hk
  split at h
  ·refine⟨_,hk,rfl,rfl,fun x v hv e n w=>?_,fun x x' v v' hv hv' d=>?_⟩
   ·have hv:[xV x]=[v]:=hv
    cases hv
    exact run_checkKey (k:=xV x) hk trivial e n
   ·have hv:[xV x]=[v]:=hv
    have hv':[xV x']=[v']:=hv';cases hv;cases hv';exact⟨_,acM hk,by simp[eqs]⟩
  grind
 ·rename_i hk
  split at h
  ·refine⟨_,hk,rfl,rfl,fun x v hv e n w=>?_,fun x x' v v' hv hv' d=>?_⟩
   ·have hv:[Value.bool x]=[v]:=hv
    cases hv
    exact run_checkKey (k:=Value.bool x) hk trivial e n
   ·have hv:[Value.bool x]=[v]:=hv
    have hv':[Value.bool x']=[v']:=hv';cases hv;cases hv';simp_all[Ta,eqb]
  grind
 grind
def rC(P:Program):Nat->List Field->Ty->Bool
 | _,[],_=>false
 | off, f :: q, y => decide (f.name ≠ "_") && (decide (f.offset = off) && match y, q with
  | .pr a b,q=>DN P f.type a && rC P (off+1) q b
  | y,[]=>DN P f.type y
  | _,_=>false)
theorem drop_one{us:List Value}{off:Nat}{v:Value}{r:List Value}(h:us.drop off=v::r):us[off]? = some v∧us.drop (off+1)=r:=by
 constructor
 ·have:=congrArg (·[0]?) h
  grind
 ·rw[<- List.drop_drop,h]
  rfl
theorem BF {P : Program} {off : Nat} {f : Field} {q : List Field} {y : Ty} (h : rC P off (f :: q) y = true) : f.name ≠ "_" ∧ f.offset = off ∧
  ((∃a b,y = .pr a b∧DN P f.type a=true∧rC P (off+1) q b=true)∨(q=[]∧DN P f.type y=true)):=by
 unfold rC at h;grind
theorem GM{P:Program}{d:Nat}{xs ys:Array Value}:∀(fs:List Field) (off:Nat) (y:Ty) (x x':Vl y),rC P off fs y=true->xs.toList.drop off=iJ y x->ys.toList.drop off=iJ y x' ->
  ∃ r, AllEq P (d + 1) xs ys (fs.map fun f => (f.name == "_", f.type, f.offset)) r ∧ (r = true ↔ x = x')
 | [],_,_,_,_,h,_,_=>by cases h
 | f::q,off,y,x,x',h,hx,hy=>by
  obtain ⟨h1,h2,h3⟩:=BF h;have h1 : (f.name == "_") = false := by simp_all
  rw[List.map_cons,h1,h2];rcases h3 with ⟨a,b,rfl,h4,h5⟩ | ⟨rfl,h4⟩
  ·obtain⟨dd,e1,e2,e3,_,e5⟩:=Ag h4
   obtain⟨u,hu⟩:=nQ e3 x.1;obtain⟨v,hv⟩:=nQ e3 x'.1;have hx:xs.toList.drop off=iJ a x.1++iJ b x.2:=hx;have hy:ys.toList.drop off=iJ a x'.1++iJ b x'.2:=hy;rw[hu]at hx;rw[hv]at hy;obtain⟨g1,g2⟩:=drop_one hx;obtain⟨g3,g4⟩:=drop_one hy;obtain⟨r,i1,i2⟩:=GM (d:=d) q (off+1) b x.2 x'.2 h5 g2 g4;obtain⟨r0,j1,j2⟩:=e5 x.1 x'.1 u v hu hv d;refine⟨r0 && r,.cons (lV e1 e2 (by simp_all)) (lV e1 e2 (by simp_all)) j1 i1,?_⟩;grind
  ·obtain⟨dd,e1,e2,e3,_,e5⟩:=Ag h4
   obtain⟨u,hu⟩:=nQ e3 x;obtain⟨v,hv⟩:=nQ e3 x';rw[hu]at hx;rw[hv]at hy;obtain⟨g1,g2⟩:=drop_one hx;obtain⟨g3,g4⟩:=drop_one hy;obtain⟨r0,j1,j2⟩:=e5 x x' u v hu hv d;refine⟨r0 && true,.cons (lV e1 e2 (by simp_all)) (lV e1 e2 (by simp_all)) j1 .nil,?_⟩;simp_all
theorem Vd{P:Program}{kt:TypeId}{fs:Array Field}{y:Ty}(hs:P.underlying kt=some (.struct fs))(hf:rC P 0 fs.toList y=true)(x:Vl y)(e:Bool)(w:World):(Instr.checkKey e 10000 kt (.agg (iJ y x).toArray)).run P w = .ok () w:=by
 rw[show (10000:Nat)=9998+1+1 from rfl,Instr.checkKey];simp only[Sem.run_bind,run_underlying hs,zL];rw[<- Array.forIn_toList];have hx:(iJ y x).toArray.toList.drop 0=iJ y x:=rfl;generalize (iJ y x).toArray=us at hx;generalize fs.toList=L at hf;generalize 0=off at hf hx
 induction L generalizing off y with
 | nil=>simp
 | cons f L ih =>
  obtain⟨h1,h2,h3⟩:=BF hf;rcases h3 with ⟨a,b,rfl,h4,h5⟩ | ⟨rfl,h4⟩
  ·obtain⟨dd,e1,e2,e3,e4,_⟩:=Ag h4
   obtain⟨u,hu⟩:=nQ e3 x.1;have hx:us.toList.drop off=iJ a x.1++iJ b x.2:=hx;rw[hu]at hx;obtain⟨g1,g2⟩:=drop_one hx;have p1:=lV e1 e2 (xs:=us) (off:=f.offset) (v:=u) (by simp_all) w;have p2:=e4 x.1 u hu e 9998 w;simp only[List.forIn_cons,Sem.run_bind,h1,ne_eq,not_false_eq_true,if_true,zL,p1,p2,Sem.run_pure];exact ih x.2 (off+1) h5 g2
  ·obtain⟨dd,e1,e2,e3,e4,_⟩:=Ag h4
   obtain⟨u,hu⟩:=nQ e3 x;rw[hu]at hx;obtain⟨g1,g2⟩:=drop_one hx;have p1:=lV e1 e2 (xs:=us) (off:=f.offset) (v:=u) (by simp_all) w;have p2:=e4 x u hu e 9998 w;simp_all
theorem aoZ{P:Program}{kt:TypeId}{K:Type}{kv:K->Value}(heq:∀a b,∃r:Bool,(∀w,(Op.equal kt (kv a) (kv b)).run P w = .ok r w)∧(r=true↔a=b))(hinj:∀a b,kv a=kv b->a=b)(w:World)(k:K):∀(es:List MapEntry) (i:Nat),(∀x∈es,∃a,x.key=kv a) ->
  ((Instr.findAsking kt (kv k) es i).run P w = .ok none w∧∀x∈es,x.key≠kv k)∨∃j e,(Instr.findAsking kt (kv k) es i).run P w = .ok (some (i+j,e.val)) w∧es[j]? = some e∧e.key=kv k
 | [],i,_=>.inl ⟨by rfl,by simp⟩
 | e::es,i,h=>by
  obtain⟨a,ha⟩:=h e (by simp);obtain⟨r,h1,h2⟩:=heq k a;unfold Instr.findAsking;rw[Sem.run_bind,ha,h1,zL];by_cases hr:r=true
  ·have:=h2.1 hr
   subst this;refine .inr ⟨0,e,?_,rfl,ha⟩;simp_all
  ·have hne:k≠a:=fun e=>hr (h2.2 e)
   rw[if_neg hr];rcases aoZ heq hinj w k es (i+1) (fun x hx=>h x (zT _ hx)) with ⟨q1,q2⟩ | ⟨j,e',q1,q2,q3⟩
   ·grind
   ·exact .inr ⟨j+1,e',by grind,by simp_all,q3⟩
theorem K7:∀{l:List Value},(∀v∈l,∃d,IsKey d v)->∀n,((l.zip l).all fun x=>Instr.sameBits n x.1 x.2)=true
 | [],_,_=>rfl
 | v::l,h,n=>by obtain⟨d,hd⟩:=h v (by simp);rw[List.zip_cons_cons,List.all_cons,sameBits_self hd,K7 (fun u hu=>h u (zT _ hu)) n];rfl
theorem Kp.fields{P:Program}{kt:TypeId}{fs:Array Field}{a b:Ty}(hs:P.underlying kt=some (.struct fs))(hp:P.stoodInHeld kt=false)(hf:rC P 0 fs.toList (.pr a b)=true)(hb:rQ (.pr a b)=true):Kp P kt (jw (.pr a b)):=by
 have hinj:∀x y:Vl (.pr a b),jw (.pr a b) x=jw (.pr a b) y->x=y:=fun x y h=>by have h:Value.agg (iJ (.pr a b) x).toArray=Value.agg (iJ (.pr a b) y).toArray:=h;grind[Value.agg.injEq,EY]
 have heq:∀x y:Vl (.pr a b),∃r:Bool,(∀w,(Op.equal kt (jw (.pr a b) x) (jw (.pr a b) y)).run P w = .ok r w)∧(r=true↔x=y):=fun x y=>by
  obtain⟨r,h1,h2⟩:=GM (P:=P) (d:=9998) (xs:=(iJ (.pr a b) x).toArray) (ys:=(iJ (.pr a b) y).toArray) fs.toList 0 (.pr a b) x y hf rfl rfl;have hst:P.underlying kt=some (.struct (P.fieldsOf kt)):=by simp_all[Program.fieldsOf]
  have hfo:P.fieldsOf kt=fs:=by simp_all
  exact⟨r,fun w=>KT (d:=9999) hst hp (by rw[hfo]) h1 w,h2⟩
 refine⟨hinj,fun w e k=>Vd hs hf k e w,fun w k es h=>?_,fun w k=>?_⟩
 ·rcases aoZ heq hinj w k es 0 h with ⟨q1,q2⟩ | ⟨j,e,q1,q2,q3⟩
  ·refine .inl ⟨?_,q2⟩
   cases es with
   | nil=>simp[Instr.findKey,run_underlying hs,Instr.findNow,Sem.run_pure]
   | cons x es=>simp[Instr.findKey,run_underlying hs,Instr.findNow,Instr.sameNow,q1]
  ·refine .inr ⟨j,e,?_,q2,q3⟩
   rw[Nat.zero_add]at q1
   cases es with
   | nil=>grind
   | cons x es=>simp[Instr.findKey,run_underlying hs,Instr.findNow,Instr.sameNow,q1]
 ·have:Instr.sameBits 10000 (jw (.pr a b) k) (jw (.pr a b) k)=true:=by show Instr.sameBits (9999+1) (Value.agg (iJ (.pr a b) k).toArray) (Value.agg (iJ (.pr a b) k).toArray)=true;simp only[Instr.sameBits,beq_self_eq_true,Bool.true_and];exact K7 (Af hb k) 9999
  unfold Instr.keyThatStays;rw[if_pos this];rfl
def BG(P:Program)(kt:TypeId)(t:Ty):Bool:=match P.underlying kt with
 | some (.int k)=>match t with
  | .int k'=>decide (k'=k)
  | _=>false
 | some .string=>match t with
  | .str=>true
  | _=>false
 | some (.struct fs)=>match t with
  | .pr a b=>rQ (.pr a b) && (decide (P.stoodInHeld kt=false) && rC P 0 fs.toList (.pr a b))
  | _=>false
 | _=>false
theorem vM{P:Program}{kt:TypeId}{t:Ty}(h:BG P kt t=true):Ae t=true∧Nonempty (Kp P kt (jw t)):=by
 unfold BG at h;split at h
 ·rename_i k hk
  split at h
  ·rename_i k'
   have:k'=k:=of_decide_eq_true h;subst this;exact⟨rfl,⟨Kp.int hk⟩⟩
  grind
 ·rename_i hk
  split at h
  ·exact⟨rfl,⟨Kp.str hk⟩⟩
  grind
 ·rename_i fs hk
  split at h
  ·rename_i a b
   rw[zO,zO,decide_eq_true_eq]at h;exact⟨h.1,⟨Kp.fields hk h.2.1 h.2.2 h.1⟩⟩
  grind
 grind
section
variable {kt vt:Ty}{L:Lx}{w:World}[DecidableEq (Vl kt)]
theorem EZ(ht:Ae kt=true)(k:Vl kt):∀{vs:List (Vl kt×Value)} {xs:List (Vl kt×Vl vt)},DmD L w vs xs ->
  (x9 kt xs k=none∧lI vs k=none)∨∃y v cs,x9 kt xs k=some y∧lI vs k=some v∧(rp vt).rel L w cs y∧v=(rp vt).val cs
 | [],xs,h=>by have h:xs=[]:=h;subst h;exact .inl ⟨rfl,rfl⟩
 | a::r,xs,⟨b,q,h1,h2,⟨cs,h3,h4⟩,h5⟩=>by
  subst h1;obtain⟨a1,a2⟩:=a;obtain⟨b1,b2⟩:=b;simp only at h2 h3 h4;subst h2;by_cases hk:a1=k
  ·refine .inr ⟨b2,a2,cs,?_,?_,h3,h4⟩
   ·simp_all[x9,if_pos,sS]
   simp_all[lI,if_pos]
  ·have hk':¬ keq kt a1 k=true:=fun e=>hk ((sS ht _ _).1 e)
   rcases EZ ht k h5 with ⟨q1,q2⟩ | ⟨y,v,cs',q1,q2,q3⟩
   ·simp_all[x9,if_neg,lI]
   ·exact .inr ⟨y,v,cs',by simp_all[x9,if_neg],by simp_all[lI,if_neg],q3⟩
theorem NL(ht:Ae kt=true)(k:Vl kt){y:Vl vt}{cs:List Value}(hy:(rp vt).rel L w cs y):∀{vs:List (Vl kt×Value)} {xs:List (Vl kt×Vl vt)},DmD L w vs xs->DmD L w (vU vs k ((rp vt).val cs)) (Iz kt xs k y)
 | [],xs,h=>by have h:xs=[]:=h;subst h;exact⟨_,_,rfl,rfl,⟨cs,hy,rfl⟩,rfl⟩
 | a::r,xs,⟨b,q,h1,h2,⟨cs',h3,h4⟩,h5⟩=>by
  subst h1;obtain⟨a1,a2⟩:=a;obtain⟨b1,b2⟩:=b;simp only at h2 h3 h4;subst h2;by_cases hk:a1=k
  ·unfold vU Iz
   rw[if_pos hk,if_pos ((sS ht _ _).2 hk)];exact⟨_,_,rfl,rfl,⟨cs,hy,rfl⟩,h5⟩
  ·have hk':¬ keq kt a1 k=true:=fun e=>hk ((sS ht _ _).1 e)
   unfold vU Iz;rw[if_neg hk,if_neg hk'];exact⟨_,_,rfl,rfl,⟨cs',h3,h4⟩,NL ht k hy h5⟩
end
theorem DmD.len{kt vt:Ty}{L:Lx}{w:World}:∀{vs:List (Vl kt×Value)} {xs:List (Vl kt×Vl vt)},DmD L w vs xs->vs.length=xs.length
 | [],xs,h=>by have h:xs=[]:=h;subst h;rfl
 | a::r,xs,⟨b,q,h1,h2,h3,h5⟩=>by subst h1;simp[DmD.len h5]
def afj:Value->SV
 | .agg ⟨cs⟩=>.agg (cs.map ofV)
 | v=>ofV v
section
variable {R:Type}{B:Nat->Prop}{F:Lx}{w0:Bs}{wr:Wr}{pl pl':List Place}{S S':St}{l l':List Value}{ls:List (List Value)}{w w':World}{L L' M:Lx}{P:Program}{d:Option Tmp}{ty:TypeId}{pos:String}{af:Array Edge}{gd:Option (Nat×Bool)}
 {Q:Exit->Act->World->Prop} {KK:List Value->World->Prop} {K:St->SV->Option R} {r:R}
def DR(P:Program)(t:TypeId):Option SV:=match (P.info? t).bind (·.zero) with
 | some z=>if z.cells.toList.all Value.oneCell'=true then some (afj z) else none
 | none=>none
theorem afk{v:Value}(h:∀u∈v.cells.toList,u.oneCell'=true):Den pl L w (afj v) v:=by
 unfold afj;split
 ·exact⟨_,pO _,h,rfl⟩
 ·exact Ic v
theorem Ah{t:TypeId}{s:SV}(h:DR P t=some s):∃z,(P.info? t).bind (·.zero)=some z∧∀(pl:List Place) (L:Lx) (w:World),Den pl L w s z:=by grind[DR,afk,List.all_eq_true]
def mapOf(P:Program)(t:TypeId):Option (TypeId×TypeId):=match P.underlying t with
 | some (.map k e)=>some (k,e)
 | _=>none
theorem NM{t k e:TypeId}(h:mapOf P t=some (k,e)):P.underlying t=some (.map k e):=by grind[mapOf]
def ac8(P:Program)(t:TypeId):Bool:=match P.underlying t with
 | some (.int _)=>true
 | some .string=>true
 | _=>false
def okS(ok:Bool)(s:SV)(b:Bool):SV:=if ok=true then .tup [s,.d .bool b] else s
def lkS(kt:Ty)(k:Vl kt)(ok:Bool)(z:SV)(K:SV->Option R):List (Nat×Vl kt×SV)->Option R
 | []=>K (okS ok z false)
 | (_,a,s)::r=>if keq kt a k=true then K (okS ok s true) else lkS kt k ok z K r
@[reducible] def gdV(vt:Ty)(o:Option (Vl vt))(z:Vl vt):Vl vt:=o.getD z
@[reducible] def isV(vt:Ty)(o:Option (Vl vt)):Bool:=o.isSome
def Ve(P:Program)(own:List (Nat×Ent))(t:TypeId)(m k:SV)(ok:Bool)(K:SV->List Nat->Option R):Option R :=
 match mapOf P t with
 | some (ktid,et)=>match m with
  | .mp i=>match get own i with
   | some (.dm kt vt xs)=>match DR P et,toD kt k with
    | some zs,some y=>match toD vt zs with
     | some z=>if BG P ktid kt=true then K (okS ok (.d vt (gdV vt (x9 kt xs y) z)) (isV vt (x9 kt xs y))) [i] else none
     | none=>none
    | _,_=>none
   | some (.sm kt _ es)=>match DR P et,toD kt k with
    | some zs,some y=>if BG P ktid kt=true then lkS kt y ok zs (fun s=>K s [i]) es else none
    | _,_=>none
   | _=>none
  | .k (.map none)=>match DR P et with
   | some zs=>if ac8 P ktid=true then K (okS ok zs false) [] else none
   | none=>none
  | .d (.mp kt vt) xs=>match DR P et,toD kt k with
   | some zs,some y=>match toD vt zs with
    | some z=>if BG P ktid kt=true then K (okS ok (.d vt (gdV vt (x9 kt xs y) z)) (isV vt (x9 kt xs y))) [] else none
    | none=>none
   | _,_=>none
  | _=>none
 | none=>none
theorem sU{ok:Bool}{s:SV}{v:Value}(b:Bool)(h:Den pl L w s v):Den pl L w (okS ok s b) (if ok then .tuple #[v,.bool b] else v):=by
 unfold okS
 cases ok with
 | true=>exact⟨[v,.bool b],⟨_,_,rfl,h,⟨_,_,rfl,nV b,rfl⟩⟩,rfl⟩
 | false=>exact h
theorem E4:∀{t:Ty},rQ t=true->∀{x:Vl t} {cs:List Value},(rp t).rel L w cs x->cs=iJ t x
 | .int _,_,_,_,h=>h
 | .str,_,_,_,h=>h
 | .bool,_,_,_,h=>h
 | .pr a b,hb,x,cs,h=>by have hb:(vk a && rQ b)=true:=hb;rw[zO]at hb;obtain⟨c1,c2,e,h1,h2⟩:=h;rw[e,E4 (DL hb.1) h1,E4 hb.2 h2];rfl
theorem yT{kt:Ty}(ht:Ae kt=true){s:SV}{y:Vl kt}{u:Value}(h:toD kt s=some y)(hd:Den pl L w s u):u=jw kt y:=by obtain⟨cs,h1,h2⟩:=ql h hd;have h3:=E4 (ac7 ht) h1;subst h3;rw[h2];cases kt<;>simp[Ae]at ht<;>rfl
def smL{kt:Ty}(vs:List MapEntry)(es:List (Nat×Vl kt×SV)):List (Vl kt×Value):=(es.zip vs).map fun p=>(p.1.2.1,p.2.val)
theorem NN{kt:Ty}:∀{vs:List MapEntry} {es:List (Nat×Vl kt×SV)},SmD pl L w vs es->vs.map (fun e=>(e.key,e.val))=(smL vs es).map (fun x=>(jw kt x.1,x.2))∧vs.length=es.length
 | [],es,h=>by have h:es=[]:=h;subst h;exact⟨rfl,rfl⟩
 | a::r,es,⟨b,q,h1,h2,h3,h4,h5⟩=>by subst h1;obtain⟨i1,i2⟩:=NN h5;simp_all[jw,smL]
theorem ac9{kt:Ty}[DecidableEq (Vl kt)](ht:Ae kt=true){k:Vl kt}{ok:Bool}{z:SV}{zv:Value}(hz:Den pl L w z zv){K:SV->Option R}:∀{vs:List MapEntry} {es:List (Nat×Vl kt×SV)},SmD pl L w vs es->lkS kt k ok z K es=some r ->
  ∃s,K s=some r∧Den pl L w s (if ok then .tuple #[(lI (smL vs es) k).getD zv,.bool (lI (smL vs es) k).isSome] else (lI (smL vs es) k).getD zv)
 | [],es,h,hv=>by have h:es=[]:=h;subst h;exact⟨_,hv,sU false hz⟩
 | a::q,es,⟨b,q',h1,h2,h3,h4,h5⟩,hv=>by
  subst h1;obtain⟨b0,b1,b2⟩:=b;unfold lkS at hv;have e1:smL (a::q) ((b0,b1,b2)::q')=(b1,a.val)::smL q q':=rfl;rw[e1];by_cases hk:b1=k
  ·rw[if_pos ((sS ht _ _).2 hk)]at hv
   refine⟨_,hv,?_⟩;simp_all[lI,if_pos,sU]
  ·rw[if_neg (fun e=>hk ((sS ht _ _).1 e))]at hv
   obtain⟨s,i1,i2⟩:=ac9 ht hz h5 hv;refine⟨s,i1,?_⟩;simp_all[lI,if_neg]
theorem afl{own:List (Nat×Ent)}(he:EntsD pl L w own){t:TypeId}{x y:Operand}{ok:Bool}{m k:SV}{K:SV->List Nat->Option R}(h:Ve P own t m k ok K=some r)(hx:Den pl L w m (ev l x))(hy:Den pl L w k (ev l y)) :
  ∃s' rd,K s' rd=some r∧Yv P pl L w l ⟨d,.lookup t x y ok,ty,pos,af,gd⟩ s' rd:=by
 unfold Ve at h;split at h
 ·rename_i ktid et hmap
  have hmap:=NM hmap;split at h
  ·rename_i i
   split at h
   ·rename_i kt vt xs hg
    split at h
    ·rename_i zs y' hz hyk
     split at h
     ·rename_i z hzz
      split at h
      ·rename_i hkk
       obtain⟨ht,⟨D⟩⟩:=vM hkk;obtain⟨zv,hz1,hz2⟩:=Ah hz;obtain⟨g,n,c,vs,h1,h2,h3⟩:=he.get hg;obtain⟨g',n',c',h4,hu⟩:=hx;rw[h1]at h4;cases h4;have hkey:=yT ht hyk hy
       letI:DecidableEq (Vl kt):=fun a b=>Classical.propDecidable (a=b)
       refine⟨_,_,h,(if ok then .tuple #[(lI vs y').getD zv,.bool (lI vs y').isSome] else (lI vs y').getD zv),?_,fun w' hF hrd=>?_⟩
       ·obtain⟨zc,hzc1,hzc2⟩:=ql hzz (hz2 pl L w)
        rcases EZ ht y' h3 with ⟨q1,q2⟩ | ⟨yy,v,cs,q1,q2,q3,q4⟩
        ·rw[q1,q2]
         exact sU false ⟨zc,hzc1,hzc2⟩
        ·rw[q1,q2]
         exact sU true ⟨cs,q3,q4⟩
       ·have hM:MapIs (jw kt) (fun v:Value=>v) w' g vs:=by obtain⟨es,cl,q1,q2⟩:=h2;exact⟨es,cl,by rw[hrd i (by simp) g (by rw[iF h1];rfl)];exact q1,q2⟩
        grind[EO]
      grind
     grind
    grind
   ·rename_i kt cl es hg
    split at h
    ·rename_i zs y' hz hyk
     split at h
     ·rename_i hkk
      obtain⟨ht,⟨D⟩⟩:=vM hkk;obtain⟨zv,hz1,hz2⟩:=Ah hz;obtain⟨g,n,c,vs,h1,h2,h3⟩:=he.get hg;obtain⟨g',n',c',h4,hu⟩:=hx;rw[h1]at h4;cases h4;have hkey:=yT ht hyk hy
      letI:DecidableEq (Vl kt):=fun a b=>Classical.propDecidable (a=b)
      obtain⟨s,i1,i2⟩:=ac9 ht (hz2 pl L w) h3 h;refine⟨s,_,i1,_,i2,fun w' hF hrd=>?_⟩
      have hM:MapIs (jw kt) (fun v:Value=>v) w' g (smL vs.toList es) :=
       ⟨vs,cl,by rw[hrd i (by simp) g (by rw[iF h1];rfl)];grind,(NN h3).1,h2.2⟩
      grind[EO]
     grind
    grind
   grind
  ·split at h
   ·rename_i zs hz
    split at h
    ·rename_i hkt
     obtain⟨zv,hz1,hz2⟩:=Ah hz;refine⟨_,_,h,Yv.of (sU false (hz2 pl L w)) (fun w'=>?_)⟩
     have hzz:(zeroValue et).run P w' = .ok zv w':=by
      cases hinf:P.info? et with
      | none=>simp_all
      | some i=>simp_all[zeroValue,typeInfo,Sem.run]
     have hx:ev l x = .map none:=hx;unfold ac8 at hkt;split at hkt
     ·rename_i k' hk'
      have hck0:∀n v,(Instr.checkKey true (n+1) ktid v).run P w' = .ok () w':=fun n v=>by simp[Instr.checkKey,run_underlying hk']
      have hck:∀v,(Instr.checkKey true 10000 ktid v).run P w' = .ok () w':=hck0 9999;simp_all[Instr.findKey,run_underlying,Instr.findNow,Sem.run_pure,execOp,Instr.lookup,Result.andThen]
     ·rename_i hk'
      have hck0:∀n v,(Instr.checkKey true (n+1) ktid v).run P w' = .ok () w':=fun n v=>by simp[Instr.checkKey,run_underlying hk']
      have hck:∀v,(Instr.checkKey true 10000 ktid v).run P w' = .ok () w':=hck0 9999;simp_all[Instr.findKey,run_underlying,Instr.findNow,Sem.run_pure,execOp,Instr.lookup,Result.andThen]
     simp_all
    grind
   grind
  ·rename_i kt vt xs
   split at h
   ·rename_i zs y' hz hyk
    split at h
    ·rename_i z hzz
     split at h
     ·rename_i hkk
      obtain⟨ht,⟨D⟩⟩:=vM hkk;obtain⟨zv,hz1,hz2⟩:=Ah hz;obtain⟨cs0,⟨g,vs,rfl,hg1,hg2,h2,h3⟩,hu⟩:=hx;have h3:DmD L w vs xs:=DmD.iff.1 h3;have hu:ev l x = .map (some g):=hu;have hkey:=yT ht hyk hy
      letI:DecidableEq (Vl kt):=fun a b=>Classical.propDecidable (a=b)
      refine⟨_,_,h,(if ok then .tuple #[(lI vs y').getD zv,.bool (lI vs y').isSome] else (lI vs y').getD zv),?_,fun w' hF hrd=>?_⟩
      ·obtain⟨zc,hzc1,hzc2⟩:=ql hzz (hz2 pl L w)
       rcases EZ ht y' h3 with ⟨q1,q2⟩ | ⟨yy,v,cs,q1,q2,q3,q4⟩
       ·rw[q1,q2]
        exact sU false ⟨zc,hzc1,hzc2⟩
       ·rw[q1,q2]
        exact sU true ⟨cs,q3,q4⟩
      ·have hM:MapIs (jw kt) (fun v:Value=>v) w' g vs:=by obtain⟨es,cl,q1,q2⟩:=h2;exact⟨es,cl,(hF.block g hg2 hg1).trans q1,q2⟩
       grind[EO]
     grind
    grind
   grind
  grind
 grind
def E5(P:Program)(S:St)(t:TypeId)(K:St->SV->Option R):Option R :=
 match mapOf P t with
 | some (kt,et)=>match tyc P kt with
  | some k=>if BG P kt k=true then (match tyc P et with
   | some v=>K { S with own:=(S.nx,.dm k v [])::S.own,nx:=S.nx+1 } (.mp S.nx)
   | none=>K { S with own:=(S.nx,.sm k 0 [])::S.own,nx:=S.nx+1 } (.mp S.nx)) else none
  | none=>none
 | none=>none
theorem SH(h:Rel B F w0 wr pl S l ls w){t:TypeId}(hv:E5 P S t K=some r)(hk:Hand B F w0 wr S.nt l ls d K r KK):OW P ⟨d,.makeMap t none,ty,pos,af,gd⟩ l w KK Q:=by
 unfold E5 at hv;split at hv
 ·split at hv
  ·rename_i k hkt
   split at hv
   ·rename_i hkk
    obtain⟨ht,⟨D⟩⟩:=vM hkk;have hrun:(execOp (Sx.ev l) ⟨d,.makeMap t none,ty,pos,af,gd⟩).run P w = .ok (.value (.map (some w.heap.size))) (w.alloc (.map #[] 0)):=rfl;have hS:Stp B (lx pl S.own) (some w.heap.size::lx pl S.own) F [] w (w.alloc (.map #[] 0)):=Stp.new h.hL (Fz.alloc _ _ _) rfl (by simp);split at hv
    ·rename_i v hvt
     have hr:=h.push ⟨some ⟨w.heap.size,0,none⟩,0,0⟩ (.dm k v []) hS ⟨w.heap.size,0,0,[],jF _,⟨#[],0,KS w _,rfl,stamped_empty 0⟩,rfl⟩;exact kZ hrun (hk _ _ (.mp S.nx) _ _ hr rfl ⟨w.heap.size,0,0,by rw[h.nx];simp,rfl⟩ hv)
    ·have hr:=h.push ⟨some ⟨w.heap.size,0,none⟩,0,0⟩ (.sm k 0 []) hS ⟨w.heap.size,0,0,#[],jF _,⟨KS w _,stamped_empty 0⟩,rfl⟩
     exact kZ hrun (hk _ _ (.mp S.nx) _ _ hr rfl ⟨w.heap.size,0,0,by rw[h.nx];simp,rfl⟩ hv)
   grind
  grind
 grind
def Mc{kt:Ty}(k:Vl kt):List (Nat×Vl kt×SV)->Bool
 | []=>true
 | (_,a,_)::r=>!keq kt a k && Mc k r
def DT(P:Program)(S:St)(t:TypeId)(m k x:SV)(K:St->SV->Option R):Option R :=
 match mapOf P t with
 | some (ktid,_)=>match m with
  | .mp i=>match get S.own i with
   | some (.dm kt vt xs)=>match toD kt k,toD vt x with
    | some a,some b=>if BG P ktid kt=true then K { S with own:=kK i (.dm kt vt (Iz kt xs a b)) S.own,log:=i::S.log } (.k undef) else none
    | _,_=>none
   | some (.sm kt cl es)=>match toD kt k with
    | some a=>if BG P ktid kt=true∧Mc a es=true then K { S with own:=kK i (.sm kt (cl+1) (es++[(cl,a,x)])) S.own,log:=i::S.log } (.k undef) else none
    | none=>none
   | _=>none
  | _=>none
 | none=>none
theorem TB{i:Nat}{e:Ent}{g n c:Nat}(hg:get S.own i=some e)(h1:pl[i]? = some ⟨some ⟨g,0,none⟩,n,c⟩):plb pl i=some g∧some g∈lx pl S.own:=by have hpl:plb pl i=some g:=iF h1;exact⟨hpl,by rw[<- hpl];exact List.mem_map_of_mem (f:=fun e:Nat×Ent=>plb pl e.1) (iI hg)⟩
theorem SmD.app{kt:Ty}{b:Nat×Vl kt×SV}{a:MapEntry}(h1:a.born=b.1)(h2:a.key=jw kt b.2.1)(h3:Den pl L w b.2.2 a.val):∀{vs:List MapEntry} {es:List (Nat×Vl kt×SV)},SmD pl L w vs es->SmD pl L w (vs++[a]) (es++[b])
 | [],es,h=>by have h:es=[]:=h;subst h;exact⟨b,[],rfl,h1,h2,h3,rfl⟩
 | v::vs,es,⟨b',q,e1,e2,e3,e4,e5⟩=>by subst e1;exact⟨b',_,rfl,e2,e3,e4,SmD.app h1 h2 h3 e5⟩
theorem NP{kt:Ty}(ht:Ae kt=true)(hinj:∀a b,jw kt a=jw kt b->a=b){k:Vl kt}:∀{vs:List MapEntry} {es:List (Nat×Vl kt×SV)},SmD pl L w vs es->Mc k es=true->∀x∈vs,x.key≠jw kt k
 | [],es,h,_,x,hx=>by cases hx
 | v::vs,es,⟨b',q,e1,e2,e3,e4,e5⟩,hn,x,hx=>by
  subst e1;obtain⟨b0,b1,b2⟩:=b';simp only[Mc,zO,Bool.not_eq_true']at hn;rcases List.mem_cons.1 hx with hx | hx
  ·subst hx
   intro he;rw[e3]at he;have:=(sS ht b1 k).2 (hinj _ _ he);rw[hn.1]at this;cases this
  ·exact NP ht hinj e5 hn.2 x hx
theorem GN(h:Rel B F w0 wr pl S l ls w){t:TypeId}{x i y:Operand}{m k v:SV}{op:Op}(ho:op = .mapUpdate t x i y∨op = .insert t x i y)(hv:DT P S t m k v K=some r)(hx:Den pl (lx pl S.own++F) w m (ev l x))(hi:Den pl (lx pl S.own++F) w k (ev l i))(hy:Den pl (lx pl S.own++F) w v (ev l y))
  (hk:Hand B F w0 wr S.nt l ls d K r KK):OW P ⟨d,op,ty,pos,af,gd⟩ l w KK Q:=by
 unfold DT at hv;split at hv
 ·rename_i ktid et hmap
  have hmap:=NM hmap;split at hv
  ·rename_i j
   split at hv
   ·rename_i kt vt xs hg
    split at hv
    ·rename_i a b ha hb
     split at hv
     ·rename_i hkk
      obtain⟨ht,⟨D⟩⟩:=vM hkk
      letI:DecidableEq (Vl kt):=fun a b=>Classical.propDecidable (a=b)
      obtain⟨g,n,c,vs,h1,h2,h3⟩:=h.ent _ (iI hg);obtain⟨g',n',c',h4,hu⟩:=hx;rw[h1]at h4;cases h4;obtain⟨hpl,hmem⟩:=TB hg h1;obtain⟨cs,hc1,hc2⟩:=ql hb hy;refine acL D hmap (vv:=fun v:Value=>v) hu (yT ht ha hi) hc2 h.hL h2 hmem ho (fun w' hS hM=>?_);have hE:=Ext.of_stp (pl:=pl) (pl':=pl) hS (fun _ _ h=>h);have hr:=h.mod (e':=.dm kt vt (Iz kt xs a b)) hg (by simp_all) ⟨g,n,c,_,h1,hM,NL ht a (hE.rel _ hc1) (h3.ext hE)⟩;exact hk pl _ (.k undef) undef w' hr rfl rfl hv
     grind
    grind
   ·rename_i kt cl es hg
    split at hv
    ·rename_i a ha
     split at hv
     ·rename_i hkk
      obtain⟨hkk,hno⟩:=hkk;obtain⟨ht,⟨D⟩⟩:=vM hkk;obtain⟨g,n,c,vs,h1,⟨h2,h2s⟩,h3⟩:=h.ent _ (iI hg);obtain⟨g',n',c',h4,hu⟩:=hx;rw[h1]at h4;cases h4;obtain⟨hpl,hmem⟩:=TB hg h1;have hkey:=yT ht ha hi
      have hkeys:∀e∈vs.toList,∃a,e.key=jw kt a:=fun e he=>by
       letI:DecidableEq (Vl kt):=fun a b=>Classical.propDecidable (a=b)
       exact MP (vv:=fun v:Value=>v) (NN h3).1 e he
      have hne:=NP ht D.inj h3 hno
      have hfn:(Instr.findKey ktid (jw kt a) vs.toList).run P w = .ok none w:=by
       rcases D.fnd w a vs.toList hkeys with ⟨q1,q2⟩ | ⟨jj,e0,q1,q2,q3⟩
       ·exact q1
       grind
      have hrun:(Instr.mapUpdate t (.map (some g)) (jw kt a) (ev l y)).run P w = .ok () { w with heap:=w.heap.setIfInBounds g (.map (vs.push ⟨jw kt a,ev l y,cl⟩) (cl+1)) }:=by simp[Instr.mapUpdate,run_underlying hmap,MapKept.run_getObj_map h2,D.chk,hfn,MapKept.run_setObj_map _ h2,Result.andThen]
      have hf:Fz [some g] w { w with heap:=w.heap.setIfInBounds g (.map (vs.push ⟨jw kt a,ev l y,cl⟩) (cl+1)) }:=Fz.setobj w g _;have hS:Stp B (lx pl S.own) (lx pl S.own) F [some g] w { w with heap:=w.heap.setIfInBounds g (.map (vs.push ⟨jw kt a,ev l y,cl⟩) (cl+1)) }:=Stp.store h.hL hmem hf;have hE:=Ext.of_stp (pl:=pl) (pl':=pl) hS (fun _ _ h=>h)
      have hr:=h.mod (e':=.sm kt (cl+1) (es++[(cl,a,v)])) hg (by rw[hpl];exact hS) ⟨g,n,c,vs.push ⟨jw kt a,ev l y,cl⟩,h1,⟨(heap_set h2).1,stamped_push h2s hne⟩,by
       rw[Array.toList_push]
       exact SmD.app rfl rfl (hy.ext hE) (h3.ext hE)⟩
      refine yJ (w':={ w with heap:=w.heap.setIfInBounds g (.map (vs.push ⟨jw kt a,ev l y,cl⟩) (cl+1)) }) ?_ (hk pl _ (.k undef) undef _ hr rfl rfl hv);rcases ho with rfl | rfl<;>simp[execOp,hu,hkey,hrun]
     grind
    grind
   grind
  grind
 grind
def IB(P:Program)(S:St)(t:TypeId)(m k:SV)(K:St->SV->Option R):Option R:=none
theorem Vf(h:Rel B F w0 wr pl S l ls w){t t':TypeId}{x i:Operand}{m k:SV}(hv:IB P S t m k K=some r)(hx:Den pl (lx pl S.own++F) w m (ev l x))(hi:Den pl (lx pl S.own++F) w k (ev l i))(hk:Hand B F w0 wr S.nt l ls d K r KK) :
  OW P ⟨d,.call ⟨.builtin .delete,#[x,i],#[t,t']⟩,ty,pos,af,gd⟩ l w KK Q:=by
 unfold IB at hv;cases hv
def DU(P:Program)(own:List (Nat×Ent))(t:TypeId)(m:SV)(K:SV->List Nat->Option R):Option R:=none
theorem GQ{own:List (Nat×Ent)}(he:EntsD pl L w own){t:TypeId}{x:Operand}{m:SV}{K:SV->List Nat->Option R}(h:DU P own t m K=some r)(hx:Den pl L w m (ev l x)) :
  ∃s' rd,K s' rd=some r∧Yv P pl L w l ⟨d,.call { callee:=.builtin .len,args:=#[x],argTypes:=#[t] },ty,pos,af,gd⟩ s' rd:=by
 unfold DU at h;cases h
end
end Ev
end
noncomputable section
namespace Ev
open Go Go.RowKit Sx Go.MapKept
section
variable {R:Type}
def E6(eq:R->R->Bool):Option R->List (Option R)->Option R
 | a,[]=>a
 | a,b::q=>match a,E6 eq b q with
  | some x,some y=>if eq x y=true then some x else none
  | _,_=>none
def amb(eq:R->R->Bool):List (Option R)->Option R
 | []=>none
 | a::q=>E6 eq a q
theorem TC{eq:R->R->Bool}(heq:∀a b,eq a b=true->a=b){r:R}:∀{q:List (Option R)} {a:Option R},E6 eq a q=some r->∀x∈a::q,x=some r
 | [],a,h,x,hx=>by simp only[List.mem_singleton]at hx;subst hx;exact h
 | b::q,a,h,x,hx=>by
  unfold E6 at h
  cases a with
  | none=>cases h
  | some u =>
   cases hq:E6 eq b q with
   | none=>rw[hq]at h;cases h
   | some v =>
    rw[hq]at h;simp only at h;split at h
    ·rename_i he
     cases h
     have:=heq _ _ he;subst this;rcases List.mem_cons.1 hx with hx | hx
     ·exact hx
     ·exact TC heq hq x hx
    ·cases h
theorem ada{eq:R->R->Bool}(heq:∀a b,eq a b=true->a=b){r:R}:∀{l:List (Option R)},amb eq l=some r->∀x∈l,x=some r
 | [],h,x,hx=>by cases hx
 | a::q,h,x,hx=>TC heq h x hx
end
section
variable {R:Type}{B:Nat->Prop}{F:Lx}{w0:Bs}{wr:Wr}{pl pl':List Place}{S S':St}{l l':List Value}{ls:List (List Value)}{w w':World}{L L' M:Lx}{P:Program}{d:Option Tmp}{ty:TypeId}{pos:String}{af:Array Edge}{gd:Option (Nat×Bool)}
 {Q:Exit->Act->World->Prop} {KK:List Value->World->Prop} {K:St->SV->Option R} {r:R}
theorem SmD.back{kt:Ty}:∀{vs:List MapEntry} {es:List (Nat×Vl kt×SV)},SmD pl L w vs es->∀b∈es,∃x∈vs,x.born=b.1∧x.key=jw kt b.2.1∧Den pl L w b.2.2 x.val
 | [],es,h,b,hb=>by have h:es=[]:=h;subst h;cases hb
 | v::vs,es,⟨b',q,e1,e2,e3,e4,e5⟩,b,hb=>by
  subst e1;rcases List.mem_cons.1 hb with hb | hb
  ·subst hb;exact⟨v,List.mem_cons_self ..,e2,e3,e4⟩
  ·obtain⟨x,h1,h2⟩:=SmD.back e5 b hb
   exact⟨x,zT _ h1,h2⟩
end
end Ev
end
noncomputable section
namespace Ev
open Go Go.RowKit Sx
section
variable {R:Type}{B:Nat->Prop}{F:Lx}{w0:Bs}{wr:Wr}{pl pl':List Place}{S S':St}{l l':List Value}{ls:List (List Value)}{w w':World}{L L' M:Lx}{P:Program}{d:Option Tmp}{ty:TypeId}{pos:String}{af:Array Edge}{gd:Option (Nat×Bool)}
 {Q:Exit->Act->World->Prop} {KK:List Value->World->Prop} {K:St->SV->Option R} {r:R}
def NQ(own:List (Nat×Ent))(i:Nat):Bool:=match get own i with
 | some (.rowo _ _ _ _ _)=>true
 | _=>false
def isO(own:List (Nat×Ent)):SV->Bool
 | .row k=>NQ own k
 | _=>false
def Vg(P:Program)(own:List (Nat×Ent))(t:TypeId)(s:SV)(K:SV->List Nat->Option R):Option R:=none
theorem afm{own:List (Nat×Ent)}(he:EntsD pl L w own){t:TypeId}{x:Operand}{s:SV}{K:SV->List Nat->Option R}(h:Vg P own t s K=some r)(hx:Den pl L w s (ev l x)) :
  ∃s' rd,K s' rd=some r∧Yv P pl L w l ⟨d,.call { callee:=.builtin .len,args:=#[x],argTypes:=#[t] },ty,pos,af,gd⟩ s' rd:=by
 unfold Vg at h;cases h
def IC(P:Program)(own:List (Nat×Ent))(t:TypeId)(s i:SV)(K:SV->List Nat->Option R):Option R:=none
theorem Vh{own:List (Nat×Ent)}(he:EntsD pl L w own){t:TypeId}{x y:Operand}{s i:SV}{K:SV->List Nat->Option R}(h:IC P own t s i K=some r)(hx:Den pl L w s (ev l x))(hi:Den pl L w i (ev l y)) :
  ∃s' rd,K s' rd=some r∧Yv P pl L w l ⟨d,.indexAddr t x y,ty,pos,af,gd⟩ s' rd:=by
 unfold IC at h;cases h
def NR(P:Program)(own:List (Nat×Ent))(t:TypeId)(s:SV)(K:SV->List Nat->Option R):Option R:=none
theorem adb{own:List (Nat×Ent)}(he:EntsD pl L w own){t:TypeId}{x:Operand}{s:SV}{K:SV->List Nat->Option R}(h:NR P own t s K=some r)(hx:Den pl L w s (ev l x)) :
  ∃s' rd,K s' rd=some r∧Yv P pl L w l ⟨d,.load t x,ty,pos,af,gd⟩ s' rd:=by
 unfold NR at h;cases h
def IE(P:Program)(S:St)(t:TypeId)(a s:SV)(K:St->SV->Option R):Option R:=none
theorem Vi(h:Rel B F w0 wr pl S l ls w){t:TypeId}{x y:Operand}{a s:SV}(hv:IE P S t a s K=some r)(hx:Den pl (lx pl S.own++F) w a (ev l x))(hy:Den pl (lx pl S.own++F) w s (ev l y))
  (hk:Hand B F w0 wr S.nt l ls d K r KK):OW P ⟨d,.store t x y,ty,pos,af,gd⟩ l w KK Q:=by
 unfold IE at hv;cases hv
def Vj(P:Program)(S:St)(t:TypeId)(len:Nat)(q:List (Nat×Operand))(K:St->SV->Option R):Option R:=none
theorem afn(h:Rel B F w0 wr pl S l ls w){t:TypeId}{len:Nat}{q:Array (Nat×Operand)}(hv:Vj P S t len q.toList K=some r)(hk:Hand B F w0 wr S.nt l ls d K r KK):OW P ⟨d,.buildSlice t len q,ty,pos,af,gd⟩ l w KK Q:=by unfold Vj at hv;cases hv
def Vk(P:Program)(S:St)(t:TypeId)(s1 s2:SV)(K:St->SV->Option R):Option R:=none
theorem afo(h:Rel B F w0 wr pl S l ls w){t:TypeId}{x y:Operand}{s1 s2:SV}(hv:Vk P S t s1 s2 K=some r)(hx:Den pl (lx pl S.own++F) w s1 (ev l x))
  (hy:Den pl (lx pl S.own++F) w s2 (ev l y)) (hk:Hand B F w0 wr S.nt l ls d K r KK):OW P ⟨d,.call ⟨.builtin .append,#[x,y],#[t,t]⟩,ty,pos,af,gd⟩ l w KK Q:=by
 unfold Vk at hv;cases hv
end
end Ev
end
noncomputable section
namespace Sx
open Go Go.RowKit
section
variable {P:Program}{l:List Value}{w:World}{d:Option Tmp}{ty:TypeId}{pos:String}{af:Array Edge}{gd:Option (Nat×Bool)}
 {Q:Exit->Act->World->Prop} {K:List Value->World->Prop} {α:Type} {R:Rp α}
end
end Sx
namespace Ev
open Go Go.RowKit Sx
section
variable {P:Program}{R:Type}{B:Nat->Prop}{F:Lx}{w0:Bs}{wr:Wr}{pl:List Place}{S:St}{l:List Value}{ls:List (List Value)}{w:World}{r:R}{K:St->SV->Option R}
 {d:Option Tmp} {ty:TypeId} {pos:String} {af:Array Edge} {gd:Option (Nat×Bool)} {KK:List Value->World->Prop} {Q:Exit->Act->World->Prop}
def Vm(P:Program)(S:St)(t:TypeId)(s:SV)(lo hi:Option Operand)(mx:Operand)(K:St->SV->Option R):Option R:=none
def Vn(P:Program)(S:St)(t:TypeId)(s1 s2:SV)(K:St->SV->Option R):Option R:=none
theorem afp(h:Rel B F w0 wr pl S l ls w){t:TypeId}{x:Operand}{s:SV}{lo hi:Option Operand}{mx:Operand}(hv:Vm P S t s lo hi mx K=some r)(hx:Den pl (lx pl S.own++F) w s (Sx.ev l x))(hk:Hand B F w0 wr S.nt l ls d K r KK) :
  OW P ⟨d,.slice t x lo hi (some mx),ty,pos,af,gd⟩ l w KK Q:=by
 unfold Vm at hv;cases hv
theorem afq(h:Rel B F w0 wr pl S l ls w){t:TypeId}{x y:Operand}{s1 s2:SV}(hv:Vn P S t s1 s2 K=some r)(hx:Den pl (lx pl S.own++F) w s1 (ev l x))
  (hy:Den pl (lx pl S.own++F) w s2 (ev l y)) (hk:Hand B F w0 wr S.nt l ls d K r KK):OW P ⟨d,.call ⟨.builtin .append,#[x,y],#[t,t]⟩,ty,pos,af,gd⟩ l w KK Q:=by
 unfold Vn at hv;cases hv
end
end Ev
end
noncomputable section
namespace Ev
open Go Go.RowKit Sx
section
variable {R:Type}{P:Program}{pl:List Place}{L:Lx}{w:World}{l:List Value}{d:Option Tmp}{ty:TypeId}{pos:String}{af:Array Edge}{gd:Option (Nat×Bool)}{r:R}
def atz(own:List (Nat×Ent))(i:Nat):Bool:=match get own i with
 | some (.rowq _ _ _ _)=>true
 | _=>false
def IG(P:Program)(own:List (Nat×Ent))(t:TypeId)(s i:SV)(K:SV->List Nat->Option R):Option R:=none
theorem Vo{own:List (Nat×Ent)}(he:EntsD pl L w own){t:TypeId}{x y:Operand}{s i:SV}{K:SV->List Nat->Option R}(h:IG P own t s i K=some r)(hx:Den pl L w s (ev l x))(hi:Den pl L w i (ev l y)) :
  ∃s' rd,K s' rd=some r∧Yv P pl L w l ⟨d,.indexAddr t x y,ty,pos,af,gd⟩ s' rd:=by
 unfold IG at h;cases h
def NS(P:Program)(own:List (Nat×Ent))(t:TypeId)(s:SV)(K:SV->List Nat->Option R):Option R:=none
theorem ade{own:List (Nat×Ent)}(he:EntsD pl L w own){t:TypeId}{x:Operand}{s:SV}{K:SV->List Nat->Option R}(h:NS P own t s K=some r)(hx:Den pl L w s (ev l x)) :
  ∃s' rd,K s' rd=some r∧Yv P pl L w l ⟨d,.load t x,ty,pos,af,gd⟩ s' rd:=by
 unfold NS at h;cases h
end
end Ev
end
