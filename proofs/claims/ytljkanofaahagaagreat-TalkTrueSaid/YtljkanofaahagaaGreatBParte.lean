/- Proved in the last of these 16 parts (this is part 5): TalkTrue. Conditions: those of the given statement, and no others. -/
import Derived.Test.YtljkanofaahagaaGreatBPartd
import Derived.Test.YtljkanofaahagaaGreatBParta
import Derived.Test.YtljkanofaahagaaGreatProg
set_option linter.unusedVariables false
set_option linter.unusedSimpArgs false
set_option linter.unusedSectionVars false
open Option renaming bind → zC, bind_some → zD, none → zH
open List renaming replicate → zE, length → zG, getD → zJ, getElem?_eq_getElem → zV
open Int renaming ofNat → zF, toNat → zI
open Go.Value renaming slice → zK
noncomputable section
namespace Rw
open Go Ev Sx Go.RowKit
def dgo(g:TypeId->Option Ty)(P:Program):Nat->List Field->Option (List Ty)
 | _,[]=>some []
 | off,f::r=>(g f.type).bind fun a=>if f.offset=off∧P.cellsOf f.type=a.size then (dgo g P (off+a.size) r).map fun q=>a::q else none
def AY:List Ty->Nat
 | []=>0
 | a::r=>a.size+AY r
def dty(P:Program):Nat->TypeId->Option Ty
 | 0,_=>none
 | n+1,t=>match P.underlying t with
  | some (.int k)=>some (.int k)
  | some .bool=>some .bool
  | some .string=>some .str
  | some (.slice e)=>(dty P n e).bind fun y=>if P.cellsOf e=y.size∧y.size≠0 then some (.sl y) else none
  | some (.struct fs)=>(dgo (dty P n) P 0 fs.toList).bind fun l=>if P.cellsOf t=AY l then some (tV l) else none
  | _=>none
def okV:(t:Ty)->Vl t->Prop
 | .int k,x=>(Lit.int k x).wf=true
 | .bool,_=>True
 | .str,x=>x.length≤maxLen
 | .sl t,xs=>xs.length≤maxLen∧∀x∈xs,okV t x
 | .pr a b,x=>okV a x.1∧okV b x.2
 | .wr a,x=>okV a x
 | .un,_=>True
 | .ar n t,xs=>xs.length=n∧∀x∈xs,okV t x
 | .mp _ _,_=>True
section
variable {H:Type}{enc:TypeId×Value->H}{P:Program}{w:World}{base:Nat}{sp:Nat->Bool}{held:Bool}
theorem asa{t:Ty}{L:Lx}{cs:List Value}{x:Vl t}(h:(rp t).rel L w cs x):cs.length=t.size:=by rw[(rp t).len h,iN]
def aqV(w:World)(cs:List Value)(off:Nat)(a:Ty):Prop:=∃v:Vl a,(rp a).rel [] w ((cs.drop off).take a.size) v∧okV a v
def yV(w:World)(cs:List Value):Nat->List Ty->Prop
 | _,[]=>True
 | off,a::r=>aqV w cs off a∧yV w cs (off+a.size) r
theorem ab3{cs:List Value}:∀(r:List Ty) (a:Ty) (off:Nat),yV w cs off (a::r)->off+a.size+AY r=cs.length->∃v:Vl (tV.prs a r),(rp (tV.prs a r)).rel [] w (cs.drop off) v∧okV (tV.prs a r) v
 | [],a,off,⟨⟨v,h1,h2⟩,_⟩,hl=>by have:(cs.drop off).take a.size=cs.drop off:=List.take_of_length_le (by simp[AY]at hl ⊢;omega);rw[this]at h1;exact⟨v,h1,h2⟩
 | b::r,a,off,⟨⟨v,h1,h2⟩,h3⟩,hl=>by obtain⟨u,h4,h5⟩:=ab3 r b (off+a.size) h3 (by simp[AY]at hl ⊢;omega);refine⟨(v,u),⟨(cs.drop off).take a.size,cs.drop (off+a.size),?_,h1,h4⟩,h2,h5⟩;rw[<- List.drop_drop];exact (List.take_append_drop _ _).symm
theorem asb{cs:List Value}:∀(l:List Ty),yV w cs 0 l->AY l=cs.length->∃v:Vl (tV l),(rp (tV l)).rel [] w cs v∧okV (tV l) v
 | [],_,hl=>⟨(),(by show cs=[];exact List.eq_nil_of_length_eq_zero hl.symm),trivial⟩
 | [a],⟨⟨v,h1,h2⟩,_⟩,hl=>by
  have:(cs.drop 0).take a.size=cs:=by rw[List.drop_zero];exact List.take_of_length_le (by simp[AY]at hl;omega)
  rw[this]at h1;exact⟨v,h1,h2⟩
 | a::b::r,h,hl=>ab3 (b::r) a 0 h (by simp[AY]at hl ⊢;omega)
theorem ab4{g:TypeId->Option Ty}{cs:List Value}(ih:∀t y n c x,g t=some y->DataW.trod enc P w base sp held n t c=some x->∃v:Vl y,(rp y).rel [] w c v∧okV y v)(n:Nat) :
  ∀(fs:List Field) (off:Nat) (l:List Ty),dgo g P off fs=some l->(∀f∈fs,∃x,DataW.trod enc P w base sp held n f.type ((cs.drop f.offset).take (P.cellsOf f.type))=some x)->yV w cs off l
 | [],off,l,h,_=>by cases h;trivial
 | f::r,off,l,h,hx=>by
  obtain⟨a,h1,h⟩:=Option.bind_eq_some_iff.1 h;split at h
  ·rename_i hc
   obtain⟨q,h2,rfl⟩:=Option.map_eq_some_iff.1 h;obtain⟨x,h3⟩:=hx f (List.mem_cons_self ..);obtain⟨v,h4,h5⟩:=ih _ _ _ _ _ h1 h3;rw[hc.1,hc.2]at h4;exact⟨⟨v,h4,h5⟩,ab4 ih n r _ _ h2 fun f hf=>hx f (List.mem_cons_of_mem _ hf)⟩
  ·cases h
theorem aek{a:Addr}{n:Nat}{cs:List Value}(h:w.cells? base a n=some cs):cs.length=n∧∀j v,cs[j]? = some v->w.cell? (a.add j)=some v:=by
 unfold World.cells? at h;split at h
 ·have hl:cs.length=n:=by simpa using mapM_some_length h
  refine⟨hl,fun j v hj=>?_⟩;have hjl:j<n:=by rw[<- hl];exact (List.getElem?_eq_some_iff.1 hj).1
  have:=mapM_some_get h j j (by simp[hjl]);rw[this,hj]
 ·cases h
theorem Uk{a:Addr}{v:Value}(h:w.cell? a=some v):a.spot=none∧a.block<w.heap.size:=by
 unfold World.cell? at h;split at h
 ·rename_i hb
  split at h
  ·cases h
  ·rename_i hs
   exact⟨by simpa using hs,(Array.getElem?_eq_some_iff.1 hb).1⟩
 ·cases h
theorem add_plain(b o n:Nat):(⟨b,o,none⟩:Addr).add n=⟨b,o+n,none⟩:=by
 unfold Addr.add;split
 ·rename_i h;subst h;rfl
 ·rfl
theorem add_zero(a:Addr):a.add 0=a:=by unfold Addr.add;rw[if_pos rfl]
theorem GR:∀(m:Nat) (t:TypeId) (y:Ty) (n:Nat) (cs:List Value) (x:DataW H×List MemPlace),dty P m t=some y->DataW.trod enc P w base sp held n t cs=some x->∃v:Vl y,(rp y).rel [] w cs v∧okV y v
 | 0,_,_,_,_,_,h,_=>by cases h
 | m+1,t,y,n,cs,x,h,hx=>by
  unfold dty at h;split at h
  ·rename_i k ht
   cases h
   obtain⟨z,rfl,_,hw⟩:=DataW.trod_int ht hx;exact⟨z,rfl,hw⟩
  ·rename_i ht
   cases h
   obtain⟨b,rfl,_⟩:=DataW.trod_bool ht hx;exact⟨b,rfl,trivial⟩
  ·rename_i ht
   cases h
   obtain⟨⟨⟨s⟩⟩,rfl,_,hs⟩:=DataW.trod_string ht hx;exact⟨s,rfl,hs⟩
  ·rename_i e ht
   obtain⟨y',h1,h⟩:=Option.bind_eq_some_iff.1 h;split at h
   ·rename_i hc
    cases h
    rcases DataW.trod_slice ht hx with ⟨rfl,_⟩ | ⟨a,len,cap,elems,rest,n',_,rfl,_,_,hlc,hcm,hel,hat,_⟩
    ·exact⟨[],vT _ _ _ _ _,by simp,fun x hx=>by cases hx⟩
    ·have each:∀i:Fin len,∃v:Vl y',(∃c,(rp y').rel [] w c v∧c.length=y'.size∧∀j u,c[j]? = some u->w.cell? ((a.add (i.1*P.cellsOf e)).add j)=some u)∧okV y' v:=fun i=>by have hi:=hat i.1 i.2;have:∃z,elems[i.1]? = some z:=⟨_,zV (by rw[hel];exact i.2)⟩;obtain⟨z,hz⟩:=this;rw[hz]at hi;obtain⟨c,hc1,hc2⟩:=Option.bind_eq_some_iff.1 hi;obtain⟨v,hv1,hv2⟩:=GR m e y' n' c z h1 hc2;exact⟨v,⟨c,hv1,asa hv1,(aek hc1).2⟩,hv2⟩
     refine⟨List.ofFn fun i=>Classical.choose (each i),⟨some a,cap,by simp,by simp;omega,fun hne=>?_⟩,by simp;omega,fun v hv=>?_⟩
     ·have hlen:0<len:=by
       rcases Nat.eq_zero_or_pos len with h0 | h0
       ·subst h0;simp at hne
       ·exact h0
      obtain⟨⟨c,_,hcl,hcc⟩,_⟩:=Classical.choose_spec (each ⟨0,hlen⟩);have hpos:0<c.length:=by have:=hc.2;omega
      have h0:=Uk (hcc 0 c[0] (zV hpos));rw[show (⟨0,hlen⟩:Fin len).1*P.cellsOf e=0 from Nat.zero_mul _,add_zero,add_zero]at h0;obtain⟨b,o,s⟩:=a;obtain⟨hs,hb⟩:=h0;have hs:s=none:=hs;subst hs;refine⟨b,o,rfl,fun i x hi=>?_⟩;have hil:i<len:=by have:=(List.getElem?_eq_some_iff.1 hi).1;simpa using this
      have hxe:x=Classical.choose (each ⟨i,hil⟩):=by rw[List.getElem?_ofFn,dif_pos hil]at hi;exact (Option.some.inj hi).symm
      obtain⟨⟨c,hc1,_,hc3⟩,_⟩:=Classical.choose_spec (each ⟨i,hil⟩);subst hxe;refine⟨hb,by simp,c,hc1,fun j v hj=>?_⟩;have:=hc3 j v hj;rw[iN,<- hc.1];rw[add_plain,add_plain]at this;exact this
     ·obtain⟨i,rfl⟩:=List.mem_ofFn.1 hv
      exact (Classical.choose_spec (each i)).2
   ·cases h
  ·rename_i fs ht
   obtain⟨l,h1,h⟩:=Option.bind_eq_some_iff.1 h;split at h
   ·rename_i hc
    cases h
    obtain⟨xs,n',_,_,hl,hxl,hf⟩:=DataW.trod_struct ht hx;refine asb l ?_ (by rw[hl,hc]);refine ab4 (fun t y n c x h1 h2=>GR m t y n c x h1 h2) n' fs.toList 0 l h1 fun f hfm=>?_;obtain⟨i,hi,rfl⟩:=List.getElem_of_mem hfm;have hi':i<fs.size:=by simpa using hi
    have:=hf i fs[i] (Array.getElem?_eq_getElem hi');rw[zV (by omega)]at this;exact⟨_,this⟩
   ·cases h
  ·cases h
theorem asc{t:TypeId}{y:Ty}{m:Nat}{v:Value}{d:DataW H}{ps:List MemPlace}{r:Reach}{b':Nat}{w':World}(hd:dty P (m+1) t=some y)(ho:Value.okWide P w' r b' t v)(h:DataW.Trod enc P w base sp held t v d ps):∃x:Vl y,Den [] [] w (.d y x) v∧okV y x:=by
 obtain⟨n,hn⟩:=h;obtain⟨x,h1,h2⟩:=GR (m+1) t y n _ _ hd hn;refine⟨x,⟨v.cells.toList,h1,?_⟩,h2⟩;have one:∀u:Value,v=u->u.cells = #[u]->y.agg=false->v=(rp y).val v.cells.toList:=fun u e hc ha=>by subst e;simp[Rp.val,iG,ha,hc]
 unfold dty at hd;split at hd
 ·rename_i k ht
  cases hd
  obtain⟨z,rfl⟩:=Go.WideShapes.okWide_int ht ho;exact one _ rfl rfl rfl
 ·rename_i ht
  cases hd
  obtain⟨b,hb,_⟩:=DataW.trod_bool ht hn;have:∃b,v = .bool b:=by simp only[Value.okWide,ht,Cell.okWide]at ho;cases v<;>simp_all[Cell.ok]
  obtain⟨b,rfl⟩:=this;exact one _ rfl rfl rfl
 ·rename_i ht
  cases hd
  obtain⟨s,rfl⟩:=Go.WideShapes.okWide_string ht ho;exact one _ rfl rfl rfl
 ·rename_i e ht
  obtain⟨y',h3,hd⟩:=Option.bind_eq_some_iff.1 hd;split at hd
  ·cases hd
   obtain⟨a,len,cap,rfl⟩:=Go.WideShapes.okWide_slice ht ho;exact one _ rfl rfl rfl
  ·cases hd
 ·rename_i fs ht
  obtain⟨l,h3,hd⟩:=Option.bind_eq_some_iff.1 hd;split at hd
  ·cases hd
   simp only[Value.okWide,ht]at ho;obtain⟨cs,rfl,_,_⟩:=ho
   have ha:(tV l).agg=true:=by
    match l with
    | []=>rfl
    | [a]=>rfl
    | a::b::q=>rfl
   simp[Rp.val,iG,ha,Value.cells]
  ·cases hd
 ·cases hd
end
end Rw
end
noncomputable section
namespace Rw
open Go Ev Sx Go.RowKit
theorem ael{W W':World}(h:Blw (Bo [] [] W) W W'):Below W.heap.size W W' :=
 ⟨h.os,h.tape,h.output,h.size,fun k hk=>h.block k hk (by
  rintro (h | h)
  ·cases h
  ·omega)⟩
theorem aDv(W:World):LOk (Bo [] [] W) (lx [] []) [] W:=⟨.nil,fun k h=>(by cases h),fun k h=>(by cases h),fun k h=>.inr h,fun k h=>(by cases h)⟩
theorem ab5{P:Program}{f:FuncId}{ts:List TS}{ps:List Ty}{m:As ps->Option (Bool×Unit)}(h:ak P (fun _=>True) f ⟨⟨ts,[],ps,[.d .bool],[],0,[.bool]⟩,m⟩){x:As ps}(hm:m x=some (true,())){ss:List SV}(hA:fA ts [] (rA ps x)=some (ss,[])){vs:List Value}{W:World}(hd:DenL [] [] W ss vs) :
  Calls P f vs.toArray W (fun e W'=>∃v,e = .returned v∧v = .bool true∧Below W.heap.size W W'):=by
 refine (h [] W [] x (true,()) ss [] vs hm hA rfl (fun _ _=>trivial) (aDv W) (fun e he=>by cases he) hd).mono fun e w' he=>?_;obtain⟨us,rfl,pl',rr,own',h1,_,_,h4,_,_,h7⟩:=he;have h1:some ([SV.d .bool true],([]:List (Nat×Ent)))=some (rr,own'):=h1;cases h1;obtain⟨v,q,rfl,h8,h9⟩:=h7;cases h9;exact⟨_,rfl,mq h8,ael h4⟩
def okA:(ps:List Ty)->As ps->Prop
 | [],_=>True
 | a::r,x=>okV a x.1∧okA r x.2
def dS:(ps:List Ty)->As ps->List SV
 | [],_=>[]
 | a::r,x=>.d a x.1::dS r x.2
theorem ase:∀(ps:List Ty) (x:As ps),fL (ps.map TS.d) (rA ps x)=some (dS ps x,[])
 | [],_=>rfl
 | a::r,x=>by show (fS (.d a) (⟨a,x.1⟩::rA r x.2)).bind _=_;unfold fS;simp only[qb,Option.map_some,zD];rw[ase r x.2];rfl
theorem aDw(ps:List Ty)(x:As ps):fA (ps.map TS.d) [] (rA ps x)=some (dS ps x,[]):=by unfold fA;rw[ase,zD];rfl
def aem(P:Program):List TypeId->Option (List Ty)
 | []=>some []
 | t::r=>(dty P 13 t).bind fun y=>(aem P r).map fun q=>y::q
theorem RO{P:Program}{H:Type}{enc:TypeId×Value->H}{W:World}{b0:Nat}{sp:Nat->Bool}{held:Bool}:∀{ts:List TypeId} {ps:List Ty} {vs:List Value} {ds:List (DataW H)} {p:List MemPlace},aem P ts=some ps ->
  (∀(j:Nat) t v,ts[j]? = some t->vs[j]? = some v->∃r b w',Value.okWide P w' r b t v)->DataW.TrodAll enc P W b0 sp held ts vs ds p->∃x:As ps,okA ps x∧DenL [] [] W (dS ps x) vs
 | [],ps,vs,ds,p,h,_,hA=>by
  cases h
  cases vs with
  | nil=>exact⟨(),trivial,rfl⟩
  | cons v vs=>cases ds<;>exact absurd hA (by simp[DataW.TrodAll])
 | t::ts,ps,vs,ds,p,h,ho,hA=>by
  obtain⟨y,h1,h⟩:=Option.bind_eq_some_iff.1 h;obtain⟨q,h2,rfl⟩:=Option.map_eq_some_iff.1 h
  match vs,ds,hA with
  | v::vs,d::ds,hA =>
   obtain⟨p1,p2,h3,h4,_⟩:=hA;obtain⟨r,b,w',h5⟩:=ho 0 t v rfl rfl;obtain⟨x,hx1,hx2⟩:=asc h1 h5 h3;obtain⟨xs,hy1,hy2⟩:=RO h2 (fun j t v ht hv=>ho (j+1) t v ht hv) h4;exact⟨(x,xs),⟨hx2,hy1⟩,v,vs,rfl,hx1,hy2⟩
  | [],_,hA=>exact absurd hA (by simp[DataW.TrodAll])
  | _::_,[],hA=>exact absurd hA (by simp[DataW.TrodAll])
theorem aqW{P:Program}{f:FuncId}{ps:List Ty}{m:As ps->Option (Bool×Unit)}(h:ak P (fun _=>True) f ⟨⟨ps.map TS.d,[],ps,[.d .bool],[],0,[.bool]⟩,m⟩)(law:∀x,okA ps x->m x=some (true,()))
  {ts:Array TypeId} (ht:aem P ts.toList=some ps) {H:Type} {enc:TypeId×Value->H} {W:World} {b0:Nat} {sp:Nat->Bool} {held:Bool} {args:Array Value} {ds:List (DataW H)} {p:List MemPlace}
  (hval:∀(j:Nat) t v,ts[j]? = some t->args[j]? = some v->∃r b w',Value.okWide P w' r b t v) (hA:DataW.TrodAll enc P W b0 sp held ts.toList args.toList ds p) :
  Calls P f args W (fun e W'=>∃v,e = .returned v∧v = .bool true∧Below W.heap.size W W'):=by
 obtain⟨x,h1,h2⟩:=RO ht (fun j t v h3 h4=>hval j t v (by simpa using h3) (by simpa using h4)) hA;have:=ab5 h (law x h1) (aDw ps x) h2;simpa using this
end Rw
end
noncomputable section
namespace Go.Proofs.Lx
open Go Ev Sx
abbrev ay:=Int×List Int
abbrev nA:=Int×List Bool×List ay
abbrev TLs:=Int×Int
abbrev TAg:=List Int×TLs×Int×Int×Int×nA×Int
abbrev TSl:=Int×Int×TAg×List Bool
abbrev zSt:nA:=(0,[false,false,false,false,false,false,false,false],[(0,[]),(0,[]),(0,[]),(0,[]),(0,[]),(0,[]),(0,[]),(0,[])])
abbrev AZ:TAg:=([],(0,0),0,0,0,zSt,0)
abbrev zSl:TSl:=(0,0,AZ,[])
abbrev gH(a:TAg):TAg:=(a.1,a.2.1,a.2.2.1,a.2.2.2.1,a.2.2.2.2.1,(a.2.2.2.2.2.1.1,[a.2.2.2.2.2.1.2.1.getD 0 false,a.2.2.2.2.2.1.2.1.getD 1 false,a.2.2.2.2.2.1.2.1.getD 2 false,a.2.2.2.2.2.1.2.1.getD 3 false,a.2.2.2.2.2.1.2.1.getD 4 false,a.2.2.2.2.2.1.2.1.getD 5 false,a.2.2.2.2.2.1.2.1.getD 6 false,a.2.2.2.2.2.1.2.1.getD 7 false],[a.2.2.2.2.2.1.2.2.getD 0 (0,[]),a.2.2.2.2.2.1.2.2.getD 1 (0,[]),a.2.2.2.2.2.1.2.2.getD 2 (0,[]),a.2.2.2.2.2.1.2.2.getD 3 (0,[]),a.2.2.2.2.2.1.2.2.getD 4 (0,[]),a.2.2.2.2.2.1.2.2.getD 5 (0,[]),a.2.2.2.2.2.1.2.2.getD 6 (0,[]),a.2.2.2.2.2.1.2.2.getD 7 (0,[])]),a.2.2.2.2.2.2)
end Go.Proofs.Lx
end
noncomputable section
namespace Go.Proofs.Lx
open Go Ev Sx
abbrev aDx:=Int×Int×Int×Int×List Int×List Bool
abbrev TPo:=Int×Int×Int×Int×Bool×aDx×Int×Int×Int
abbrev TTk:=TPo×Int×Int×List ay×Int×Int×Int×Int×Int
@[reducible] def aB:Ty:=.sl (.int .u16)
@[reducible] def cP:Ty:=.pr (.int .i64) aB
@[reducible] def fJ(t:TTk)(r:List SV):List SV :=
 .d (.int .u8) t.1.1::.d (.int .u8) t.1.2.1::.d (.int .i64) t.1.2.2.1::.d (.int .i64) t.1.2.2.2.1::.d .bool t.1.2.2.2.2.1::.d (.int .u8) t.1.2.2.2.2.2.1.1::.d (.int .u16) t.1.2.2.2.2.2.1.2.1::.d (.int .u16) t.1.2.2.2.2.2.1.2.2.1::.d (.int .u16) t.1.2.2.2.2.2.1.2.2.2.1::.d aB t.1.2.2.2.2.2.1.2.2.2.2.1::.d (.sl .bool) t.1.2.2.2.2.2.1.2.2.2.2.2::.d (.int .u16) t.1.2.2.2.2.2.2.1::.d (.int .i64) t.1.2.2.2.2.2.2.2.1::.d (.int .i64) t.1.2.2.2.2.2.2.2.2 ::
 .d (.int .u16) t.2.1::.d (.int .u32) t.2.2.1::.d (.sl cP) t.2.2.2.1::.d (.int .u8) t.2.2.2.2.1::.d (.int .u8) t.2.2.2.2.2.1::.d (.int .i64) t.2.2.2.2.2.2.1::.d (.int .i64) t.2.2.2.2.2.2.2.1::.d (.int .u8) t.2.2.2.2.2.2.2.2::r
@[reducible] def slC(s:TSl)(r:List SV):List SV :=
 .d (.int .u8) s.1::.d (.int .u8) s.2.1::.d aB s.2.2.1.1::.d (.int .u16) s.2.2.1.2.1.1::.d (.int .i64) s.2.2.1.2.1.2::.d (.int .u8) s.2.2.1.2.2.1::.d (.int .u32) s.2.2.1.2.2.2.1::.d (.int .u32) s.2.2.1.2.2.2.2.1::.d (.int .u32) s.2.2.1.2.2.2.2.2.1.1 ::
 .d .bool (zJ s.2.2.1.2.2.2.2.2.1.2.1 0 false)::.d .bool (zJ s.2.2.1.2.2.2.2.2.1.2.1 1 false)::.d .bool (zJ s.2.2.1.2.2.2.2.2.1.2.1 2 false)::.d .bool (zJ s.2.2.1.2.2.2.2.2.1.2.1 3 false)::.d .bool (zJ s.2.2.1.2.2.2.2.2.1.2.1 4 false)::.d .bool (zJ s.2.2.1.2.2.2.2.2.1.2.1 5 false)::.d .bool (zJ s.2.2.1.2.2.2.2.2.1.2.1 6 false)::.d .bool (zJ s.2.2.1.2.2.2.2.2.1.2.1 7 false) ::
 .d (.int .i64) (zJ s.2.2.1.2.2.2.2.2.1.2.2 0 (0,[])).1::.d aB (zJ s.2.2.1.2.2.2.2.2.1.2.2 0 (0,[])).2::.d (.int .i64) (zJ s.2.2.1.2.2.2.2.2.1.2.2 1 (0,[])).1::.d aB (zJ s.2.2.1.2.2.2.2.2.1.2.2 1 (0,[])).2 ::
 .d (.int .i64) (zJ s.2.2.1.2.2.2.2.2.1.2.2 2 (0,[])).1::.d aB (zJ s.2.2.1.2.2.2.2.2.1.2.2 2 (0,[])).2::.d (.int .i64) (zJ s.2.2.1.2.2.2.2.2.1.2.2 3 (0,[])).1::.d aB (zJ s.2.2.1.2.2.2.2.2.1.2.2 3 (0,[])).2 ::
 .d (.int .i64) (zJ s.2.2.1.2.2.2.2.2.1.2.2 4 (0,[])).1::.d aB (zJ s.2.2.1.2.2.2.2.2.1.2.2 4 (0,[])).2::.d (.int .i64) (zJ s.2.2.1.2.2.2.2.2.1.2.2 5 (0,[])).1::.d aB (zJ s.2.2.1.2.2.2.2.2.1.2.2 5 (0,[])).2 ::
 .d (.int .i64) (zJ s.2.2.1.2.2.2.2.2.1.2.2 6 (0,[])).1::.d aB (zJ s.2.2.1.2.2.2.2.2.1.2.2 6 (0,[])).2::.d (.int .i64) (zJ s.2.2.1.2.2.2.2.2.1.2.2 7 (0,[])).1::.d aB (zJ s.2.2.1.2.2.2.2.2.1.2.2 7 (0,[])).2::.d (.int .i64) s.2.2.1.2.2.2.2.2.2::.d (.sl .bool) s.2.2.2::r
@[reducible] def iE(s:TSl):TSl:=(s.1,s.2.1,gH s.2.2.1,s.2.2.2)
@[reducible] def aen:Ty:=.pr (.int .i64) aB
@[reducible] def fC:Ty:=.pr (.int .u16) (.pr aB (.sl .bool))
@[reducible] def dY:Ty:=.pr (.int .u16) fC
@[reducible] def dH:Ty:=.pr (.int .u16) dY
@[reducible] def eF:Ty:=.pr (.int .i64) (.int .i64)
@[reducible] def dA:Ty:=.pr .bool (.pr (.pr (.int .u8) dH) (.pr (.int .u16) eF))
@[reducible] def cV:Ty:=.pr (.int .i64) dA
@[reducible] def cS:Ty:=.pr (.int .i64) cV
@[reducible] def cK:Ty:=.pr (.int .u8) cS
@[reducible] def cF:Ty:=.pr (.int .u8) cK
@[reducible] def eT:Ty:=.pr (.int .i64) (.pr (.int .i64) (.int .u8))
@[reducible] def dR:Ty:=.pr (.int .u8) eT
@[reducible] def dC:Ty:=.pr (.int .u8) dR
@[reducible] def aDy:Ty:=.pr cF (.pr (.int .u16) (.pr (.int .u32) (.pr (.sl aen) dC)))
@[reducible] def bH:Ty:=.pr (.int .u16) (.int .i64)
@[reducible] def aDz:Ty:=.pr (.int .u8) (.pr (.int .u8) (.pr (.pr aB (.pr bH (.pr (.int .u8) (.pr (.int .u32) (.pr (.int .u32) (.pr (.pr (.int .u32) (.pr (.ar 8 .bool) (.ar 8 aen))) (.int .i64))))))) (.sl .bool)))
@[reducible] def prG(k:Nat):TE:=.bsg 48 [.d aDy,.d aDz,.s (.row k),.d (.int .u32),.d (.int .u32),.d (.sl (.sl aen))]
end Go.Proofs.Lx
end
noncomputable section
open Go Go.Proofs Ev Sx
set_option maxRecDepth 100000
namespace Go.Proofs.Lx
abbrev kF:Ty:=dH
@[reducible] def bA:Ty:=.pr (.int .u8) kF
abbrev rG:Ty:=(.pr (.int .u8) (.pr (.int .i64) (.pr (.int .i64) (.pr .bool (.pr bA (.pr (.int .u16) eF))))))
abbrev bq:Ty:=cP
abbrev u6:Ty:=(.pr bH (.pr (.int .u8) (.pr (.int .u32) (.pr (.int .u32) (.pr (.pr (.int .u32) (.pr (.ar 8 .bool) (.ar 8 bq))) (.int .i64))))))
abbrev mR:Ty:=(.pr (.int .u16) (.pr (.int .u32) (.pr (.sl bq) dC)))
abbrev vY:Type:=(Int×Int×Int×Int×List Int×List Bool)
abbrev M5:Type:=(Int×Int×Int×Int×Bool×vY×Int×Int×Int)
abbrev pq:Type:=(Int×List Bool×List (Int×List Int))
abbrev jN:Type:=(List Int×(Int×Int)×Int×Int×Int×pq×Int)
abbrev nC:Ty:=(.pr (.int .u8) (.pr (.sl .bool) (.pr aB (.pr (.int .u16) (.int .u16)))))
abbrev C4:Ty:=(.pr (.int .i64) (.pr .bool (.pr .bool .bool)))
@[reducible] def bQ:Ty:=.pr (.int .i64) C4
abbrev fU:Ty:=(.sl bQ)
abbrev cr:Type:=(Int×Int×Bool×Bool×Bool)
abbrev kU:Type:=(Int×Int×Int×Int×Bool×(Int×Int×Int×Int×Unit×Unit)×Int×Int×Int)
abbrev C5:Ty:=(.pr (.int .u8) (.pr (.int .u32) (.pr (.int .u16) (.int .u32))))
abbrev aEl:Type:=(Int×Int×List Bool×List Int×Int×Int)
@[reducible] def aJ:Ty:=.sl (.int .u8)
@[reducible] def dZ:Ty:=.pr .bool aJ
abbrev gX:Ty:=dZ
abbrev C6:Ty:=(.pr (.sl .bool) (.pr aB aB))
abbrev KI:Type:=(Int×Int×(Unit×(Int×Int)×Int×Int×Int×(Int×List Bool×List (Int×Unit))×Int)×Unit)
abbrev aEm:Type:=(List Bool×List Bool×List Int×List Int)
abbrev C8:Ty:=(.pr (.int .u8) aJ)
abbrev FM:Ty:=(.pr (.int .u16) (.pr (.int .u32) (.int .u32)))
abbrev tZ:Ty:=(.pr (.int .i64) (.pr (.int .i64) (.pr .bool .bool)))
abbrev jr:Type:=M5×Int×Int×List (Int×List Int)×Int×Int×Int×Int×Int
abbrev jy:Type:=Int×Int×jN×List Bool
@[reducible] def aK:List Ty:=[.sl (.int .u16)]
@[reducible] def anE:Sh:=⟨[.d aB],[],aK,[.d aB],[],0,aK⟩
@[reducible] def bM:Type:=As aK
def Ul(l:List Int):Option bM :=
 some (List.take 64 l++List.drop (0+zG (List.take 64 l)) (zE 64 0),())
def KJ(x:As aK):Option bM:=Ul x.1
theorem auh:ak Tryz.prog (fun _=>True) 17 ⟨anE,KJ⟩:=ctn av 6 fun J x=>by kernel_rfl
@[reducible] def eD:List Ty:=[.int .u8,.int .u8,.int .i64,.int .i64]
@[reducible] def aui:Sh:=⟨[.d (.int .u8),.d (.int .u8),.d (.int .i64),.d (.int .i64)],[],eD,[.d (.bool)],[],0,[.bool]⟩
@[reducible] def aE:Type:=As [.bool]
def aeo(unit link timeout retries:Int):Option aE :=
 if ge unit 1=true then if le unit 247=true then if eqi link 1=true then if ge timeout 1=true then if le timeout 100000=true then if ge retries 0=true then some (le retries 1000,()) else some (false,()) else some (false,()) else some (false,()) else if eqi link 2=true then if ge timeout 1=true then if le timeout 100000=true then if ge retries 0=true then some (le retries 1000,()) else some (false,()) else some (false,()) else some (false,()) else some (false,()) else some (false,()) else some (false,())
def Um(x:As eD):Option aE:=aeo x.1 x.2.1 x.2.2.1 x.2.2.2.1
theorem auj:ak Tryz.prog (fun _=>True) 122 ⟨aui,Um⟩:=ctn av 6 fun J x=>by kernel_rfl
@[reducible] def aC:Ty:=.pr (.int .u8) rG
@[reducible] def anF:Sh:=⟨[.d (.int .u8),.d (.int .u8),.d (.int .i64),.d (.int .i64)],[],eD,[.d aC,.d (.int .i64)],[],0,[.pr (.int .u8) rG,.int .i64]⟩
def Un(unit link timeout retries:Int):Option (As [.pr (.int .u8) rG,.int .i64]) :=
 zC (Um (unit,link,timeout,retries,())) fun y=>if (!y.1)=true then some ((0,0,0,0,false,(0,0,0,0,[],[]),0,0,0),2,()) else some ((unit,link,timeout,retries,false,(0,0,0,0,[],[]),0,0,0),0,())
def KL(x:As eD):Option (As [.pr (.int .u8) rG,.int .i64]):=Un x.1 x.2.1 x.2.2.1 x.2.2.2.1
theorem auk:ak Tryz.prog (fun _=>True) 67 ⟨anF,KL⟩:=ctn (aj auj av) 6 fun J x=>by kernel_rfl
@[reducible] def aX:Ty:=.pr aC mR
@[reducible] def eQ:List Ty:=[.pr aC mR,.int .i64]
@[reducible] def Uo:Sh:=⟨[.d (.int .u8),.d (.int .u8),.d (.int .u16),.d (.int .i64),.d (.int .i64)],[],[.int .u8,.int .u8,.int .u16,.int .i64,.int .i64],[.d aX,.d (.int .i64)],[],0,eQ⟩
def aep:Env:=(cts [(67,(⟨anF,KL⟩:Ct))])
def aer:List (Nat×Hint):=[(14,⟨[],[2,10,12,27]⟩)]
@[reducible] def zE0:Type:=Int×Int×Int×Int×Bool×vY×Int×Int×Int
def Up(owner:Int)(t27:Bool)(t10:kU×Int×Int×Unit×Int×Int×Int×Int×Int)(p:zE0):St:=⟨[(2,d6 owner),(10,.pb 0 0),(12,.pb 1 0),(27,dB t27)],32,[],[(0,.box 33 [d8 t10.1.1,d8 t10.1.2.1,dI t10.1.2.2.1,dI t10.1.2.2.2.1,dB t10.1.2.2.2.2.1,d8 t10.1.2.2.2.2.2.1.1,d6 t10.1.2.2.2.2.2.1.2.1,d6 t10.1.2.2.2.2.2.1.2.2.1,d6 t10.1.2.2.2.2.2.1.2.2.2.1,.k (zK zH 0 0),.k (zK zH 0 0),d6 t10.1.2.2.2.2.2.2.1,dI t10.1.2.2.2.2.2.2.2.1,dI t10.1.2.2.2.2.2.2.2.2,d6 t10.2.1,d2 t10.2.2.1,.k (zK zH 0 0),d8 t10.2.2.2.2.1,d8 t10.2.2.2.2.2.1,dI t10.2.2.2.2.2.2.1,dI t10.2.2.2.2.2.2.2.1,d8 t10.2.2.2.2.2.2.2.2]),(1,.box 29 [d8 p.1,d8 p.2.1,dI p.2.2.1,dI p.2.2.2.1,dB p.2.2.2.2.1,d8 p.2.2.2.2.2.1.1,d6 p.2.2.2.2.2.1.2.1,d6 p.2.2.2.2.2.1.2.2.1,d6 p.2.2.2.2.2.1.2.2.2.1,dW p.2.2.2.2.2.1.2.2.2.2.1,.d (.sl .bool) p.2.2.2.2.2.1.2.2.2.2.2,d6 p.2.2.2.2.2.2.1,dI p.2.2.2.2.2.2.2.1,dI p.2.2.2.2.2.2.2.2])],2,[],0⟩
def anG(owner:Int)(t27:Bool)(t10:kU×Int×Int×Unit×Int×Int×Int×Int×Int)(p:zE0):Option (As eQ) :=
 if t27=true then some (((0,0,0,0,false,(0,0,0,0,[],[]),0,0,0),0,0,[],0,0,0,0,0),2,()) else some ((p,owner,0,[],0,0,0,0,0),0,())
def Uq(j1:Int->Bool->kU×Int×Int×Unit×Int×Int×Int×Int×Int->Int×Int×Int×Int×Bool×vY×Int×Int×Int->Option (As eQ))(unit link owner timeout retries:Int):Option (As eQ) :=
 zC (KL (unit,link,timeout,retries,())) fun y=>if nei y.2.1 0=true then j1 owner true ((0,0,0,0,false,(0,0,0,0,(),()),0,0,0),0,0,(),0,0,0,0,0) y.1 else j1 owner (eqi owner 0) ((0,0,0,0,false,(0,0,0,0,(),()),0,0,0),0,0,(),0,0,0,0,0) y.1
def Ur:=anG
def Ut(x:As [.int .u8,.int .u8,.int .u16,.int .i64,.int .i64]):Option (As eQ):=Uq Ur x.1 x.2.1 x.2.2.1 x.2.2.2.1 x.2.2.2.2.1
@[reducible] def zp(e:Env)(h:List (Nat×Hint))(n:Nat)(s:Sh):=pfn Tryz.prog e 6 18446744073709551616 (Ev.get h) n s
@[reducible] def zj(e:Env)(h:List (Nat×Hint))(n:Nat)(s:Sh):=jfn Tryz.prog e 6 18446744073709551616 (Ev.get h) n s
abbrev pEf:=zp aep aer 28 Uo
theorem aul{J a b c d}:pEf J 14 [] (Up a b c d)=anG a b c d:=by kernel_rfl
abbrev pEe:=zj aep aer 28 Uo
theorem aum:C (pEe 14 []) Up=Ur:=gNC (by decide) fun _=>aul
theorem aun:ak Tryz.prog (fun _=>True) 28 ⟨Uo,Ut⟩:=zcc (env:=aep) (d:=6) (hs:=Ev.get aer) (aj auk av) (fun J x=>Uq (C (J 14 []) Up) x.1 x.2.1 x.2.2.1 x.2.2.2.1 x.2.2.2.2.1) (fun _ _=>by kernel_rfl) fun _=>by rw[aum]<;>rfl
@[reducible] def asf:Sh:=⟨[.d (.int .u8),.d (.int .u8)],[],[.int .u8,.int .u8],[.d (.bool)],[],0,[.bool]⟩
def M6(unit link:Int):Option aE :=
 if ge unit 1=true then if le unit 247=true then if eqi link 1=true then some (true,()) else some (eqi link 2,()) else some (false,()) else some (false,())
def GU(x:As [.int .u8,.int .u8]):Option aE:=M6 x.1 x.2.1
theorem asg:ak Tryz.prog (fun _=>True) 86 ⟨asf,GU⟩:=ctn av 6 fun J x=>by kernel_rfl
@[reducible] def GV:Sh:=⟨[.d aB],[],aK,[.d aB],[],0,aK⟩
def aes(s:List Int):Option bM :=
 if eqi (zF (zG s)) 0=true then amb (au GV.rs) [some ([],()),need (small (0+zG s)) (some (s,()))] else need (small (0+zG s)) (some (s,()))
def mZ(x:As aK):Option bM:=aes x.1
theorem A7:ak Tryz.prog (fun _=>True) 45 ⟨GV,mZ⟩:=ctn av 6 fun J x=>by kernel_rfl
@[reducible] def Uu:Sh:=⟨[.d aB],[],aK,[.row 0],[(0,.row (.int .u16) 25)],1,aK⟩
def aet(s:List Int):Option bM :=
 if eqi (zF (zG s)) 0=true then amb (au Uu.rs) [some ([],()),need (small (0+zG s)) (some (s,()))] else need (small (0+zG s)) (some (s,()))
def Eb(x:As aK):Option bM:=aet x.1
theorem ash:ak Tryz.prog (fun _=>True) 45 ⟨Uu,Eb⟩:=ctn av 6 fun J x=>by kernel_rfl
@[reducible] def bS:List Ty:=[.sl (.int .u16),.int .i64]
@[reducible] def aH:Ty:=.pr aB u6
@[reducible] def cD:List Ty:=[.pr aB u6,.int .i64]
@[reducible] def auo:Sh:=⟨[.d aB,.d (.int .i64)],[],bS,[.d aH,.d (.int .i64)],[],0,cD⟩
def aeu(bank:List Int)(ticks:Int):Option (As cD) :=
 if nei (zF (zG bank)) 64=true then some (AZ,21,()) else if lt ticks 1=true then some (AZ,2,()) else zC (mZ (bank,())) fun y=>some ((y.1,(0,0),0,0,0,zSt,ticks),0,())
def Uv(x:As bS):Option (As cD):=aeu x.1 x.2.1
theorem aup:ak Tryz.prog (fun _=>True) 92 ⟨auo,Uv⟩:=ctn (aj A7 av) 6 fun J x=>by kernel_rfl
@[reducible] def aD:Ty:=.pr aH (.sl .bool)
@[reducible] def aA:Ty:=.pr (.int .u8) aD
@[reducible] def bB:Ty:=.pr (.int .u8) aA
@[reducible] def anH:Sh:=⟨[.d (.int .u8),.d (.int .u8),.d aB,.d (.int .i64)],[],[.int .u8,.int .u8,.sl (.int .u16),.int .i64],[.d bB,.d (.int .i64)],[],0,[.pr (.int .u8) aA,.int .i64]⟩
def aev(unit link:Int)(bank:List Int)(ticks:Int):Option (As [.pr (.int .u8) aA,.int .i64]) :=
 zC (GU (unit,link,())) fun y=>if (!y.1)=true then some (zSl,2,()) else zC (Uv (bank,ticks,())) fun y=>if nei y.2.1 0=true then some (zSl,y.2.1,()) else some ((unit,link,(gH y.1),[false,false,false,false,false,false,false,false,false,false,false,false,false,false,false,false]),0,())
def KM(x:As [.int .u8,.int .u8,.sl (.int .u16),.int .i64]):Option (As [.pr (.int .u8) aA,.int .i64]):=aev x.1 x.2.1 x.2.2.1 x.2.2.2.1
theorem auq:ak Tryz.prog (fun _=>True) 42 ⟨anH,KM⟩:=ctn (aj asg (aj aup av)) 6 fun J x=>by kernel_rfl
@[reducible] def Uw:Sh:=⟨[.d (.sl bq),.d (.int .i64)],[],[.sl bq,.int .i64],[.d (.sl bq)],[],0,[.sl bq]⟩
def Ux:Env:=(cts [])
def Uy:List (Nat×Hint):=[(58,⟨[.row 5 38],[5,14,15,16]⟩),(7475,⟨[],[5,7,8,14,15,16]⟩)]
@[reducible] def zE1:Type:=List (Int×List Int)
def GX(t14:zE1)(t15 t16:Int)(out:zE1):St:=⟨[(5,.row 0),(14,.d (.sl bq) t14),(15,dI t15),(16,dI t16)],45,[],[(0,.row bq 38 out)],1,[],0⟩
def Uz(at':Int)(t14:zE1)(t15 t16:Int)(out:zE1)(x:Int×List Int):St:=⟨[(5,.row 0),(7,.pb 1 0),(8,dI at'),(14,.d (.sl bq) t14),(15,dI t15),(16,dI t16)],45,[],[(0,.row bq 38 out),(1,.box 38 [dI x.1,dW x.2])],2,[],0⟩
@[reducible] def cR:Type:=As [.sl bq]
@[reducible] def zE2:Type:=List (Int×List Int)->Int->Int->List (Int×List Int)->Option cR
def GY(j2:Int->List (Int×List Int)->Int->Int->List (Int×List Int)->Int×List Int->Option cR)(self1:zE2)(t14:zE1)(t15 t16:Int)(out:zE1):Option cR :=
 if lt t16 t15=true then zC (at? t14 t16) fun y=>if lt (rem y.1 64) 0=true then j2 (add .i64 (rem y.1 64) 64) t14 t15 t16 out y else j2 (rem y.1 64) t14 t15 t16 out y else some (out,())
def UA(self1:zE2)(at':Int)(t14:zE1)(t15 t16:Int)(out:zE1)(x:Int×List Int):Option cR :=
 zC (cut x.2 0 (if lt (Sx.sub .i64 64 at') (if lt 14 (zF (zG x.2))=true then 14 else zF (zG x.2))=true then Sx.sub .i64 64 at' else if lt 14 (zF (zG x.2))=true then 14 else zF (zG x.2))) fun y=>need (small (0+zG y)) (need (small (zG out+Nat.succ 0)) (self1 t14 t15 (add .i64 t16 1) (out++[(at',y)])))
def UB(j1:zE2)(l:zE1)(most:Int):Option cR :=
 zC (cut l 0 (if lt most (zF (zG l))=true then most else zF (zG l))) fun y=>j1 y (zF (zG y)) 0 []
def M7(u1:zE2):=UA u1
def GZ(t14:zE1)(t15 t16:Int)(out:zE1):Option cR :=
 cu (fun self s=>GY (M7 (fun t14 t15 t16 out=>self (t14,t15,t16,out))) (fun t14 t15 t16 out=>self (t14,t15,t16,out)) s.1 s.2.1 s.2.2.1 s.2.2.2) 18446744073709551616 (t14,t15,t16,out)
def KN(x:As [.sl bq,.int .i64]):Option cR:=UB GZ x.1 x.2.1
abbrev pBv:=zp Ux Uy 43 Uw
theorem aur{J w1 a b c d e f}:pBv J 7475 [w1] (Uz a b c d e f)=UA (C w1 GX) a b c d e f:=by kernel_rfl
theorem aus{J w1 a b c d}:pBv J 58 [w1] (GX a b c d)=GY (C (J 7475 [w1]) Uz) (C w1 GX) a b c d:=by kernel_rfl
abbrev pBu:=zj Ux Uy 43 Uw
theorem aut{w1}:C (pBu 7475 [w1]) Uz=M7 (C w1 GX):=gNC (by decide) fun _=>aur
theorem auu:C (pBu 58 []) GX=GZ:=gLC (by decide) (by kernel_rfl) (fun _=>by unfold GZ;rfl) fun _ _=>aus.trans (by rw[aut]<;>kernel_rfl)
theorem auv:ak Tryz.prog (fun _=>True) 43 ⟨Uw,KN⟩:=zcc (env:=Ux) (d:=6) (hs:=Ev.get Uy) av (fun J x=>UB (C (J 58 []) GX) x.1 x.2.1) (fun _ _=>by kernel_rfl) fun _=>by rw[auu]<;>rfl
@[reducible] def cC:Ty:=.sl (.sl bq)
@[reducible] def aT:List Ty:=[.pr aC mR,.pr (.int .u8) aA,.int .u32,.int .u32,.sl (.sl bq),.bool,.sl gX]
@[reducible] def M8:Sh:=⟨[.d (.int .u8),.d (.int .u8),.d (.int .u8),.d aB,.d cC],[],[.int .u8,.int .u8,.int .u8,.sl (.int .u16),.sl (.sl bq)],[.agp [.inl aX,.inl bB,.inr 0,.inl (.int .u32),.inl (.int .u32),.inl cC],.d .bool],[(0,.que gX 63)],1,aT⟩
def aew:Env:=(cts [(1000048,Ev.gU),(9000046,Ev.gU),(9999999,Ev.gU),(17,(⟨anE,KJ⟩:Ct)),(28,(⟨Uo,Ut⟩:Ct)),(42,(⟨anH,KM⟩:Ct)),(43,(⟨Uw,KN⟩:Ct))])
def aex:List (Nat×Hint):=[(31,⟨[],[10,12,13,14,15,16,67,68,71,72,73,76,77,78]⟩),(250,⟨[.rwb 16 60 31],[10,12,13,14,15,16,49,50,51]⟩)]
@[reducible] def aG:Type:=List (Int×List Int)
@[reducible] def zE3:Type:=List aG
@[reducible] def zE4:Type:=(kU×Int×Int×Unit×Int×Int×Int×Int×Int)×KI×Unit×Int×Int×Unit
@[reducible] def zE5:Type:=List (Bool×List Int)
def UC(e s f:Int)(t49:zE3)(t50 t51:Int)(t10:zE4)(t:jr)(s_2:List (jy))(p:(jr)×(jy)×Unit×Int×Int×Unit)(o:zE5)(o_2:zE3):St:=⟨[(10,.pb 0 0),(12,.pb 1 0),(13,dI e),(14,.prw 2 s 35 0),(15,dI f),(16,.pb 3 0),(49,.d cC t49),(50,dI t50),(51,dI t51)],80,[],[(0,.box 48 [d8 t10.1.1.1,d8 t10.1.1.2.1,dI t10.1.1.2.2.1,dI t10.1.1.2.2.2.1,dB t10.1.1.2.2.2.2.1,d8 t10.1.1.2.2.2.2.2.1.1,d6 t10.1.1.2.2.2.2.2.1.2.1,d6 t10.1.1.2.2.2.2.2.1.2.2.1,d6 t10.1.1.2.2.2.2.2.1.2.2.2.1,.k (zK zH 0 0),.k (zK zH 0 0),d6 t10.1.1.2.2.2.2.2.2.1,dI t10.1.1.2.2.2.2.2.2.2.1,dI t10.1.1.2.2.2.2.2.2.2.2,d6 t10.1.2.1,d2 t10.1.2.2.1,.k (zK zH 0 0),d8 t10.1.2.2.2.2.1,d8 t10.1.2.2.2.2.2.1,dI t10.1.2.2.2.2.2.2.1,dI t10.1.2.2.2.2.2.2.2.1,d8 t10.1.2.2.2.2.2.2.2.2,d8 t10.2.1.1,d8 t10.2.1.2.1,.k (zK zH 0 0),d6 t10.2.1.2.2.1.2.1.1,dI t10.2.1.2.2.1.2.1.2,d8 t10.2.1.2.2.1.2.2.1,d2 t10.2.1.2.2.1.2.2.2.1,d2 t10.2.1.2.2.1.2.2.2.2.1,d2 t10.2.1.2.2.1.2.2.2.2.2.1.1,dB (zJ t10.2.1.2.2.1.2.2.2.2.2.1.2.1 0 false),dB (zJ t10.2.1.2.2.1.2.2.2.2.2.1.2.1 1 false),dB (zJ t10.2.1.2.2.1.2.2.2.2.2.1.2.1 2 false),dB (zJ t10.2.1.2.2.1.2.2.2.2.2.1.2.1 3 false),dB (zJ t10.2.1.2.2.1.2.2.2.2.2.1.2.1 4 false),dB (zJ t10.2.1.2.2.1.2.2.2.2.2.1.2.1 5 false),dB (zJ t10.2.1.2.2.1.2.2.2.2.2.1.2.1 6 false),dB (zJ t10.2.1.2.2.1.2.2.2.2.2.1.2.1 7 false),dI (zJ t10.2.1.2.2.1.2.2.2.2.2.1.2.2 0 (0,())).1,.k (zK zH 0 0),dI (zJ t10.2.1.2.2.1.2.2.2.2.2.1.2.2 1 (0,())).1,.k (zK zH 0 0),dI (zJ t10.2.1.2.2.1.2.2.2.2.2.1.2.2 2 (0,())).1,.k (zK zH 0 0),dI (zJ t10.2.1.2.2.1.2.2.2.2.2.1.2.2 3 (0,())).1,.k (zK zH 0 0),dI (zJ t10.2.1.2.2.1.2.2.2.2.2.1.2.2 4 (0,())).1,.k (zK zH 0 0),dI (zJ t10.2.1.2.2.1.2.2.2.2.2.1.2.2 5 (0,())).1,.k (zK zH 0 0),dI (zJ t10.2.1.2.2.1.2.2.2.2.2.1.2.2 6 (0,())).1,.k (zK zH 0 0),dI (zJ t10.2.1.2.2.1.2.2.2.2.2.1.2.2 7 (0,())).1,.k (zK zH 0 0),dI t10.2.1.2.2.1.2.2.2.2.2.2,.k (zK zH 0 0),.k (zK zH 0 0),d2 t10.2.2.2.1,d2 t10.2.2.2.2.1,.k (zK zH 0 0)]),(1,.box 33 (fJ t [])),(2,.row bB 45 s_2),(3,.box 48 (fJ p.1 (slC p.2.1 [.row 4,d2 p.2.2.2.1,d2 p.2.2.2.2.1,.row 5]))),(4,.que gX 63 o),(5,.row (.sl bq) 31 o_2)],6,[],0⟩
def aey(e s f:Int)(t10:zE4)(t:jr)(s_2:List (jy))(p:(jr)×(jy)×Unit×Int×Int×Unit)(o:zE5)(o_2:zE3):St:=⟨[(10,.pb 0 0),(12,.pb 1 0),(13,dI e),(14,.prw 2 s 35 0),(15,dI f),(16,.pb 3 0)],80,[],[(0,.box 48 [d8 t10.1.1.1,d8 t10.1.1.2.1,dI t10.1.1.2.2.1,dI t10.1.1.2.2.2.1,dB t10.1.1.2.2.2.2.1,d8 t10.1.1.2.2.2.2.2.1.1,d6 t10.1.1.2.2.2.2.2.1.2.1,d6 t10.1.1.2.2.2.2.2.1.2.2.1,d6 t10.1.1.2.2.2.2.2.1.2.2.2.1,.k (zK zH 0 0),.k (zK zH 0 0),d6 t10.1.1.2.2.2.2.2.2.1,dI t10.1.1.2.2.2.2.2.2.2.1,dI t10.1.1.2.2.2.2.2.2.2.2,d6 t10.1.2.1,d2 t10.1.2.2.1,.k (zK zH 0 0),d8 t10.1.2.2.2.2.1,d8 t10.1.2.2.2.2.2.1,dI t10.1.2.2.2.2.2.2.1,dI t10.1.2.2.2.2.2.2.2.1,d8 t10.1.2.2.2.2.2.2.2.2,d8 t10.2.1.1,d8 t10.2.1.2.1,.k (zK zH 0 0),d6 t10.2.1.2.2.1.2.1.1,dI t10.2.1.2.2.1.2.1.2,d8 t10.2.1.2.2.1.2.2.1,d2 t10.2.1.2.2.1.2.2.2.1,d2 t10.2.1.2.2.1.2.2.2.2.1,d2 t10.2.1.2.2.1.2.2.2.2.2.1.1,dB (zJ t10.2.1.2.2.1.2.2.2.2.2.1.2.1 0 false),dB (zJ t10.2.1.2.2.1.2.2.2.2.2.1.2.1 1 false),dB (zJ t10.2.1.2.2.1.2.2.2.2.2.1.2.1 2 false),dB (zJ t10.2.1.2.2.1.2.2.2.2.2.1.2.1 3 false),dB (zJ t10.2.1.2.2.1.2.2.2.2.2.1.2.1 4 false),dB (zJ t10.2.1.2.2.1.2.2.2.2.2.1.2.1 5 false),dB (zJ t10.2.1.2.2.1.2.2.2.2.2.1.2.1 6 false),dB (zJ t10.2.1.2.2.1.2.2.2.2.2.1.2.1 7 false),dI (zJ t10.2.1.2.2.1.2.2.2.2.2.1.2.2 0 (0,())).1,.k (zK zH 0 0),dI (zJ t10.2.1.2.2.1.2.2.2.2.2.1.2.2 1 (0,())).1,.k (zK zH 0 0),dI (zJ t10.2.1.2.2.1.2.2.2.2.2.1.2.2 2 (0,())).1,.k (zK zH 0 0),dI (zJ t10.2.1.2.2.1.2.2.2.2.2.1.2.2 3 (0,())).1,.k (zK zH 0 0),dI (zJ t10.2.1.2.2.1.2.2.2.2.2.1.2.2 4 (0,())).1,.k (zK zH 0 0),dI (zJ t10.2.1.2.2.1.2.2.2.2.2.1.2.2 5 (0,())).1,.k (zK zH 0 0),dI (zJ t10.2.1.2.2.1.2.2.2.2.2.1.2.2 6 (0,())).1,.k (zK zH 0 0),dI (zJ t10.2.1.2.2.1.2.2.2.2.2.1.2.2 7 (0,())).1,.k (zK zH 0 0),dI t10.2.1.2.2.1.2.2.2.2.2.2,.k (zK zH 0 0),.k (zK zH 0 0),d2 t10.2.2.2.1,d2 t10.2.2.2.2.1,.k (zK zH 0 0)]),(1,.box 33 (fJ t [])),(2,.row bB 45 s_2),(3,.box 48 (fJ p.1 (slC p.2.1 [.row 4,d2 p.2.2.2.1,d2 p.2.2.2.2.1,.row 5]))),(4,.que gX 63 o),(5,.row (.sl bq) 31 o_2)],6,[],0⟩
def G4(j2:Int->Int->Int->(kU×Int×Int×Unit×Int×Int×Int×Int×Int)×KI×Unit×Int×Int×Unit->jr->List (jy)->(jr)×(jy)×Unit×Int×Int×Unit->List (Bool×List Int)->List aG->Option (As aT))(self1:Int->Int->Int->List aG->Int->Int->(kU×Int×Int×Unit×Int×Int×Int×Int×Int)×KI×Unit×Int×Int×Unit->jr->List (jy)->(jr)×(jy)×Unit×Int×Int×Unit->List (Bool×List Int)->List aG->Option (As aT))(e s f:Int)(t49:zE3)(t50 t51:Int)(t10:zE4)(t:jr)(s_2:List (jy))(p:(jr)×(jy)×Unit×Int×Int×Unit)(o:zE5)(o_2:zE3):Option (As aT) :=
 if lt t51 t50=true then zC (at? t49 t51) fun y=>zC (KN (y,4,())) fun y=>need (small (zG o_2+Nat.succ 0)) (self1 e s f t49 t50 (add .i64 t51 1) (((t10.1.1.1,t10.1.1.2.1,t10.1.1.2.2.1,t10.1.1.2.2.2.1,t10.1.1.2.2.2.2.1,(t10.1.1.2.2.2.2.2.1.1,t10.1.1.2.2.2.2.2.1.2.1,t10.1.1.2.2.2.2.2.1.2.2.1,t10.1.1.2.2.2.2.2.1.2.2.2.1,(),()),t10.1.1.2.2.2.2.2.2),t10.1.2),(t10.2.1.1,t10.2.1.2.1,((),t10.2.1.2.2.1.2.1,t10.2.1.2.2.1.2.2.1,t10.2.1.2.2.1.2.2.2.1,t10.2.1.2.2.1.2.2.2.2.1,(t10.2.1.2.2.1.2.2.2.2.2.1.1,t10.2.1.2.2.1.2.2.2.2.2.1.2.1,[((zJ t10.2.1.2.2.1.2.2.2.2.2.1.2.2 0 (0,())).1,()),((zJ t10.2.1.2.2.1.2.2.2.2.2.1.2.2 1 (0,())).1,()),((zJ t10.2.1.2.2.1.2.2.2.2.2.1.2.2 2 (0,())).1,()),((zJ t10.2.1.2.2.1.2.2.2.2.2.1.2.2 3 (0,())).1,()),((zJ t10.2.1.2.2.1.2.2.2.2.2.1.2.2 4 (0,())).1,()),((zJ t10.2.1.2.2.1.2.2.2.2.2.1.2.2 5 (0,())).1,()),((zJ t10.2.1.2.2.1.2.2.2.2.2.1.2.2 6 (0,())).1,()),((zJ t10.2.1.2.2.1.2.2.2.2.2.1.2.2 7 (0,())).1,())]),t10.2.1.2.2.1.2.2.2.2.2.2),()),(),t10.2.2.2.1,t10.2.2.2.2.1,()) t s_2 (p.1,p.2.1,(),p.2.2.2.1,p.2.2.2.2.1,()) o (o_2++[y.1])) else j2 e s f (((t10.1.1.1,t10.1.1.2.1,t10.1.1.2.2.1,t10.1.1.2.2.2.1,t10.1.1.2.2.2.2.1,(t10.1.1.2.2.2.2.2.1.1,t10.1.1.2.2.2.2.2.1.2.1,t10.1.1.2.2.2.2.2.1.2.2.1,t10.1.1.2.2.2.2.2.1.2.2.2.1,(),()),t10.1.1.2.2.2.2.2.2),t10.1.2),(t10.2.1.1,t10.2.1.2.1,((),t10.2.1.2.2.1.2.1,t10.2.1.2.2.1.2.2.1,t10.2.1.2.2.1.2.2.2.1,t10.2.1.2.2.1.2.2.2.2.1,(t10.2.1.2.2.1.2.2.2.2.2.1.1,t10.2.1.2.2.1.2.2.2.2.2.1.2.1,[((zJ t10.2.1.2.2.1.2.2.2.2.2.1.2.2 0 (0,())).1,()),((zJ t10.2.1.2.2.1.2.2.2.2.2.1.2.2 1 (0,())).1,()),((zJ t10.2.1.2.2.1.2.2.2.2.2.1.2.2 2 (0,())).1,()),((zJ t10.2.1.2.2.1.2.2.2.2.2.1.2.2 3 (0,())).1,()),((zJ t10.2.1.2.2.1.2.2.2.2.2.1.2.2 4 (0,())).1,()),((zJ t10.2.1.2.2.1.2.2.2.2.2.1.2.2 5 (0,())).1,()),((zJ t10.2.1.2.2.1.2.2.2.2.2.1.2.2 6 (0,())).1,()),((zJ t10.2.1.2.2.1.2.2.2.2.2.1.2.2 7 (0,())).1,())]),t10.2.1.2.2.1.2.2.2.2.2.2),()),(),t10.2.2.2.1,t10.2.2.2.2.1,()) t s_2 (p.1,p.2.1,(),p.2.2.2.1,p.2.2.2.2.1,()) o o_2
def UD(e s f:Int)(t10:zE4)(t:jr)(s_2:List (jy))(p:(jr)×(jy)×Unit×Int×Int×Unit)(o:zE5)(o_2:zE3):Option (As aT) :=
 if eqi e 0=true then if eqi f 0=true then if eqi t.2.1 7=true then zC (at? s_2 s) fun y=>some (p.1,(iE p.2.1),p.2.2.2.1,p.2.2.2.2.1,o_2,eqi y.1 9,o,()) else some (p.1,(iE p.2.1),p.2.2.2.1,p.2.2.2.2.1,o_2,false,o,()) else some (p.1,(iE p.2.1),p.2.2.2.1,p.2.2.2.2.1,o_2,false,o,()) else some (p.1,(iE p.2.1),p.2.2.2.1,p.2.2.2.2.1,o_2,false,o,())
def UE(j1:Int->Int->Int->List aG->Int->Int->(kU×Int×Int×Unit×Int×Int×Int×Int×Int)×KI×Unit×Int×Int×Unit->jr->List (jy)->(jr)×(jy)×Unit×Int×Int×Unit->List (Bool×List Int)->List aG->Option (As aT))(link timeout retries:Int)(bank:List Int)(plan:zE3):Option (As aT) :=
 zC (Ut (9,add .u8 1 (rem link 2),7,add .i64 1 (cvt .i64 (rem timeout 10)),cvt .i64 (rem retries 4),())) fun y=>zC (KJ (bank,())) fun y_1=>zC (KM (9,add .u8 1 (rem link 2),y_1.1,40,())) fun y_2=>zC (cut plan 0 (if lt 6 (zF (zG plan))=true then 6 else zF (zG plan))) fun y_3=>j1 y.2.1 0 y_2.2.1 y_3 (zF (zG y_3)) 0 (((0,0,0,0,false,(0,0,0,0,(),()),0,0,0),0,0,(),0,0,0,0,0),(0,0,((),(0,0),0,0,0,(0,[false,false,false,false,false,false,false,false],[(0,()),(0,()),(0,()),(0,()),(0,()),(0,()),(0,()),(0,())]),0),()),(),0,0,()) y.1 [y_2.1] (y.1,y_2.1,(),0,0,()) [] []
def UF:=UD
def G5(e s f:Int)(t49:zE3)(t50 t51:Int)(t10:zE4)(t:jr)(s_2:List (jy))(p:(jr)×(jy)×Unit×Int×Int×Unit)(o:zE5)(o_2:zE3):Option (As aT) :=
 cu (fun self s=>G4 (UF) (fun e s f t49 t50 t51 t10 t s_2 p o o_2=>self (e,s,f,t49,t50,t51,t10,t,s_2,p,o,o_2)) s.1 s.2.1 s.2.2.1 s.2.2.2.1 s.2.2.2.2.1 s.2.2.2.2.2.1 s.2.2.2.2.2.2.1 s.2.2.2.2.2.2.2.1 s.2.2.2.2.2.2.2.2.1 s.2.2.2.2.2.2.2.2.2.1 s.2.2.2.2.2.2.2.2.2.2.1 s.2.2.2.2.2.2.2.2.2.2.2) 18446744073709551616 (e,s,f,t49,t50,t51,t10,t,s_2,p,o,o_2)
def G6(x:As [.int .u8,.int .u8,.int .u8,.sl (.int .u16),.sl (.sl bq)]):Option (As aT):=UE G5 x.1 x.2.1 x.2.2.1 x.2.2.2.1 x.2.2.2.2.1
abbrev pBd:=zp aew aex 9 M8
theorem auw{J a b c d e f g h i}:pBd J 31 [] (aey a b c d e f g h i)=UD a b c d e f g h i:=by kernel_rfl
theorem auy{J w1 a b c d e f g h i j k l}:pBd J 250 [w1] (UC a b c d e f g h i j k l)=G4 (C (J 31 []) aey) (C w1 UC) a b c d e f g h i j k l:=by kernel_rfl
abbrev pBc:=zj aew aex 9 M8
theorem auz:C (pBc 31 []) aey=UF:=gNC (by decide) fun _=>auw
theorem auA:C (pBc 250 []) UC=G5:=gLC (by decide) (by kernel_rfl) (fun _=>by unfold G5;rfl) fun _ _=>auy.trans (by rw[auz]<;>kernel_rfl)
theorem anI:ak Tryz.prog (fun _=>True) 9 ⟨M8,G6⟩:=zcc (env:=aew) (d:=6) (hs:=Ev.get aex) (aj Ev.gq (aj Ev.gq (aj Ev.gq (aj auh (aj aun (aj auq (aj auv av))))))) (fun J x=>UE (C (J 250 []) UC) x.1 x.2.1 x.2.2.1 x.2.2.2.1 x.2.2.2.2.1) (fun _ _=>by kernel_rfl) fun _=>by rw[auA]<;>rfl
@[reducible] def eN:List Ty:=[.sl (.int .u8),.pr aC mR,.pr (.int .u8) aA,.int .u32,.int .u32,.sl (.sl bq),.sl gX]
@[reducible] def aL:List Ty:=[.pr aC mR,.pr (.int .u8) aA,.int .u32,.int .u32,.sl (.sl bq),.sl gX]
@[reducible] def G7:Sh:=⟨[.pb 0 0,.d aJ],[(prG 1),.que gX 63],eN,[],[(0,(prG 2)),(2,.que gX 63)],1,aL⟩
def aez:Env:=(cts [(1000048,Ev.gU),(9000046,Ev.gU),(9999999,Ev.gU)])
def aeA:List (Nat×Hint):=[(1,⟨[],[0,1,14]⟩)]
def aeB(b:List Int)(t14:Bool)(p:(jr)×(jy)×Unit×Int×Int×List aG)(o:zE5):St:=⟨[(0,.pb 0 0),(1,dL b),(14,dB t14)],26,[],[(0,.box 48 (fJ p.1 (slC p.2.1 [.row 1,d2 p.2.2.2.1,d2 p.2.2.2.2.1,.d cC p.2.2.2.2.2]))),(1,.que gX 63 o)],2,[],2⟩
@[reducible] def eU:Type:=As aL
def G8(b:List Int)(t14:Bool)(p:(jr)×(jy)×Unit×Int×Int×List aG)(o:zE5):Option eU :=
 if t14=true then need (small (zG o+Nat.succ 0)) (some (p.1,(iE p.2.1),p.2.2.2.1,p.2.2.2.2.1,p.2.2.2.2.2,o++[(false,b)],())) else some (p.1,(iE p.2.1),p.2.2.2.1,p.2.2.2.2.1,p.2.2.2.2.2,o,())
def UG(j1:List Int->Bool->(jr)×(jy)×Unit×Int×Int×List aG->List (Bool×List Int)->Option eU)(p:List Int)(b:jr)(p_2:jy)(b_2 v:Int)(v_2:zE3)(v_3:zE5):Option eU :=
 if gt (zF (zG p)) 0=true then j1 p (lt (zF (zG v_3)) 12) (b,p_2,(),b_2,v,v_2) v_3 else j1 p false (b,p_2,(),b_2,v,v_2) v_3
def M9:=G8
def A8(x:As eN):Option eU:=UG M9 x.1 x.2.1 x.2.2.1 x.2.2.2.1 x.2.2.2.2.1 x.2.2.2.2.2.1 x.2.2.2.2.2.2.1
abbrev pBl:=zp aez aeA 20 G7
theorem auB{J a b c d}:pBl J 1 [] (aeB a b c d)=G8 a b c d:=by kernel_rfl
abbrev pBk:=zj aez aeA 20 G7
theorem auC:C (pBk 1 []) aeB=M9:=gNC (by decide) fun _=>auB
theorem aeC:ak Tryz.prog (fun _=>True) 20 ⟨G7,A8⟩:=zcc (env:=aez) (d:=6) (hs:=Ev.get aeA) (aj Ev.gq (aj Ev.gq (aj Ev.gq av))) (fun J x=>UG (C (J 1 []) aeB) x.1 x.2.1 x.2.2.1 x.2.2.2.1 x.2.2.2.2.1 x.2.2.2.2.2.1 x.2.2.2.2.2.2.1) (fun _ _=>by kernel_rfl) fun _=>by rw[auC]<;>rfl
@[reducible] def UH:Sh:=⟨[.d (.sl bq)],[],[.sl bq],[.d (.sl bq)],[],0,[.sl bq]⟩
def aeD:Env:=(cts [(45,(⟨GV,mZ⟩:Ct))])
def aeE:List (Nat×Hint):=[(58,⟨[.row 3 38],[3,6,7,8]⟩)]
def UI(t6:zE1)(t7 t8:Int)(r:zE1):St:=⟨[(3,.row 0),(6,.d (.sl bq) t6),(7,dI t7),(8,dI t8)],22,[],[(0,.row bq 38 r)],1,[],0⟩
def G9(self1:zE2)(t6:zE1)(t7 t8:Int)(r:zE1):Option cR :=
 if lt t8 t7=true then zC (at? t6 t8) fun y=>zC (mZ (y.2,())) fun y_1=>need (small (zG r+Nat.succ 0)) (self1 t6 t7 (add .i64 t8 1) (r++[(y.1,y_1.1)])) else some (r,())
def anJ(j1:zE2)(l:zE1):Option cR :=
 j1 l (zF (zG l)) 0 []
def Na(t6:zE1)(t7 t8:Int)(r:zE1):Option cR :=
 cu (fun self s=>G9 (fun t6 t7 t8 r=>self (t6,t7,t8,r)) s.1 s.2.1 s.2.2.1 s.2.2.2) 18446744073709551616 (t6,t7,t8,r)
def Nb(x:As [.sl bq]):Option cR:=anJ Na x.1
abbrev pEn:=zp aeD aeE 65 UH
theorem auD{J w1 a b c d}:pEn J 58 [w1] (UI a b c d)=G9 (C w1 UI) a b c d:=by kernel_rfl
abbrev pEm:=zj aeD aeE 65 UH
theorem auE:C (pEm 58 []) UI=Na:=gLC (by decide) (by kernel_rfl) (fun _=>by unfold Na;rfl) fun _ _=>auD.trans (by kernel_rfl)
theorem anK:ak Tryz.prog (fun _=>True) 65 ⟨UH,Nb⟩:=zcc (env:=aeD) (d:=6) (hs:=Ev.get aeE) (aj A7 av) (fun J x=>anJ (C (J 58 []) UI) x.1) (fun _ _=>by kernel_rfl) fun _=>by rw[auE]<;>rfl
@[reducible] def aeF:Sh:=⟨[.d (.sl .bool)],[],[.sl .bool],[.d (.sl .bool)],[],0,[.sl .bool]⟩
@[reducible] def dK:Type:=As [.sl .bool]
def aeG(s:List Bool):Option dK :=
 if eqi (zF (zG s)) 0=true then amb (au aeF.rs) [some ([],()),need (small (0+zG s)) (some (s,()))] else need (small (0+zG s)) (some (s,()))
def A9(x:As [.sl .bool]):Option dK:=aeG x.1
theorem aeH:ak Tryz.prog (fun _=>True) 113 ⟨aeF,A9⟩:=ctn av 6 fun J x=>by kernel_rfl
@[reducible] def UJ:Sh:=⟨[.d (.sl (.bool))],[],[.sl (.bool)],[.row 0],[(0,.row (.bool) 4)],1,[.sl (.bool)]⟩
def aeI(s:List Bool):Option dK :=
 if eqi (zF (zG s)) 0=true then amb (au UJ.rs) [some ([],()),need (small (0+zG s)) (some (s,()))] else need (small (0+zG s)) (some (s,()))
def Ec(x:As [.sl .bool]):Option dK:=aeI x.1
theorem asi:ak Tryz.prog (fun _=>True) 113 ⟨UJ,Ec⟩:=ctn av 6 fun J x=>by kernel_rfl
@[reducible] def aN:List Ty:=[.pr aC mR]
@[reducible] def anL:Sh:=⟨[.d aX],[],aN,[.d aX],[],0,aN⟩
@[reducible] def bR:Type:=As aN
def UK(t:jr):Option bR :=
 zC (mZ (t.1.2.2.2.2.2.1.2.2.2.2.1,())) fun y=>zC (A9 (t.1.2.2.2.2.2.1.2.2.2.2.2,())) fun y_1=>zC (Nb (t.2.2.2.1,())) fun y_2=>some (((t.1.1,t.1.2.1,t.1.2.2.1,t.1.2.2.2.1,t.1.2.2.2.2.1,(t.1.2.2.2.2.2.1.1,t.1.2.2.2.2.2.1.2.1,t.1.2.2.2.2.2.1.2.2.1,t.1.2.2.2.2.2.1.2.2.2.1,y.1,y_1.1),t.1.2.2.2.2.2.2),t.2.1,t.2.2.1,y_2.1,t.2.2.2.2),())
def Ed(x:As aN):Option bR:=UK x.1
theorem UL:ak Tryz.prog (fun _=>True) 54 ⟨anL,Ed⟩:=ctn (aj A7 (aj anK (aj aeH av))) 6 fun J x=>by kernel_rfl
@[reducible] def UM:Sh:=⟨[.d (.int .u8)],[],[.int .u8],[.d (.pr (.int .i64) tZ),.d (.bool)],[],0,[.pr (.int .i64) tZ,.bool]⟩
def auF(f:Int):Option (As [.pr (.int .i64) tZ,.bool]) :=
 some (Ev.gdV (.pr (.int .i64) tZ) (if eqi 1 f=true then some (2000,0,0,false,false) else if eqi 2 f=true then some (2000,0,0,false,false) else if eqi 3 f=true then some (125,0,0,false,false) else if eqi 4 f=true then some (125,0,0,false,false) else if eqi 5 f=true then some (0,1,0,false,false) else if eqi 6 f=true then some (0,0,1,false,false) else if eqi 15 f=true then some (1968,1968,0,false,true) else if eqi 16 f=true then some (123,0,123,false,true) else if eqi 23 f=true then some (125,0,121,true,false) else zH) (0,0,0,false,false),Ev.isV (.pr (.int .i64) tZ) (if eqi 1 f=true then some (2000,0,0,false,false) else if eqi 2 f=true then some (2000,0,0,false,false) else if eqi 3 f=true then some (125,0,0,false,false) else if eqi 4 f=true then some (125,0,0,false,false) else if eqi 5 f=true then some (0,1,0,false,false) else if eqi 6 f=true then some (0,0,1,false,false) else if eqi 15 f=true then some (1968,1968,0,false,true) else if eqi 16 f=true then some (123,0,123,false,true) else if eqi 23 f=true then some (125,0,121,true,false) else zH),())
def yX(x:As [.int .u8]):Option (As [.pr (.int .i64) tZ,.bool]):=auF x.1
theorem UN:ak Tryz.prog (fun _=>True) 106 ⟨UM,yX⟩:=ctn av 6 fun J x=>by kernel_rfl
@[reducible] def bZ:List Ty:=[.int .i64,.int .i64]
@[reducible] def anM:Sh:=⟨[.d (.int .i64),.d (.int .i64)],[],bZ,[.d (.bool)],[],0,[.bool]⟩
def aeJ(n most:Int):Option aE :=
 if eqi most 0=true then some (eqi n 0,()) else if ge n 1=true then some (le n most,()) else some (false,())
def He(x:As bZ):Option aE:=aeJ x.1 x.2.1
theorem auG:ak Tryz.prog (fun _=>True) 162 ⟨anM,He⟩:=ctn av 6 fun J x=>by kernel_rfl
@[reducible] def aW:List Ty:=[.pr (.int .u8) kF]
@[reducible] def Ee:Sh:=⟨[.d bA],[],aW,[.d (.bool)],[],0,[.bool]⟩
def aeK:Env:=(cts [(106,(⟨UM,yX⟩:Ct)),(162,(⟨anM,He⟩:Ct))])
def aeL:List (Nat×Hint):=[(30,⟨[],[1,3,47,52,53,54,55,56,57,58,59,60,61,62]⟩),(14,⟨[],[1,3,22,31,32,33,34,35,36,37,40,41,42,43,44,45,46,52,53,54,55,56,57,58,59,60,61,62]⟩)]
def aeM(t22:Bool)(a a_2 a_3 a_4:Int)(a_5:List Int)(a_6:List Bool)(s s_2 s_3:Int)(s_4 s_5:Bool):St:=⟨[(1,.pb 0 0),(3,.pb 1 0),(22,dB t22)],64,[],[(0,.box 27 [d8 a,d6 a_2,d6 a_3,d6 a_4,dW a_5,.d (.sl .bool) a_6]),(1,.box 151 [dI s,dI s_2,dI s_3,dB s_4,dB s_5])],2,[],0⟩
def aeN(t47:Bool)(a a_2 a_3 a_4:Int)(a_5:List Int)(a_6:List Bool)(s s_2 s_3:Int)(s_4 s_5:Bool):St:=⟨[(1,.pb 0 0),(3,.pb 1 0),(47,dB t47)],64,[],[(0,.box 27 [d8 a,d6 a_2,d6 a_3,d6 a_4,dW a_5,.d (.sl .bool) a_6]),(1,.box 151 [dI s,dI s_2,dI s_3,dB s_4,dB s_5])],2,[],0⟩
@[reducible] def zE6:Type:=Bool->Int->Int->Int->Int->List Int->List Bool->Int->Int->Int->Bool->Bool->Option aE
def aeO(j2:zE6)(t22:Bool)(a a_2 a_3 a_4:Int)(a_5:List Int)(a_6:List Bool)(s s_2 s_3:Int)(s_4 s_5:Bool):Option aE :=
 if t22=true then some (false,()) else zC (He (cvt .i64 a_3,s,())) fun y=>if (!y.1)=true then j2 true a a_2 a_3 a_4 a_5 a_6 s s_2 s_3 s_4 s_5 else zC (He (zF (zG a_6),s_2,())) fun y=>if (!y.1)=true then j2 true a a_2 a_3 a_4 a_5 a_6 s s_2 s_3 s_4 s_5 else zC (He (zF (zG a_5),s_3,())) fun y=>j2 (!y.1) a a_2 a_3 a_4 a_5 a_6 s s_2 s_3 s_4 s_5
def aeP(t47:Bool)(a a_2 a_3 a_4:Int)(a_5:List Int)(a_6:List Bool)(s s_2 s_3:Int)(s_4 s_5:Bool):Option aE :=
 if t47=true then some (false,()) else if (!s_5)=true then some (true,()) else some (eqi (add .i64 (zF (zG a_6)) (zF (zG a_5))) (cvt .i64 a_3),())
@[reducible] def zE7:Type:=Int×Int×Int×Int×List Int×List Bool
def UO(j1:zE6)(a:zE7):Option aE :=
 zC (yX (a.1,())) fun y=>if (!y.2.1)=true then j1 true a.1 a.2.1 a.2.2.1 a.2.2.2.1 a.2.2.2.2.1 a.2.2.2.2.2 y.1.1 y.1.2.1 y.1.2.2.1 y.1.2.2.2.1 y.1.2.2.2.2 else if (!y.1.2.2.2.1)=true then j1 (nei a.2.2.2.1 0) a.1 a.2.1 a.2.2.1 a.2.2.2.1 a.2.2.2.2.1 a.2.2.2.2.2 y.1.1 y.1.2.1 y.1.2.2.1 y.1.2.2.2.1 y.1.2.2.2.2 else j1 false a.1 a.2.1 a.2.2.1 a.2.2.2.1 a.2.2.2.2.1 a.2.2.2.2.2 y.1.1 y.1.2.1 y.1.2.2.1 y.1.2.2.2.1 y.1.2.2.2.2
def UQ:=aeP
def Nc:=aeO (UQ)
def vg(x:As aW):Option aE:=UO Nc x.1
abbrev pAv:=zp aeK aeL 105 Ee
theorem auH{J a b c d e f g h i j k l}:pAv J 30 [] (aeN a b c d e f g h i j k l)=aeP a b c d e f g h i j k l:=by kernel_rfl
theorem auI{J a b c d e f g h i j k l}:pAv J 14 [] (aeM a b c d e f g h i j k l)=aeO (C (J 30 []) aeN) a b c d e f g h i j k l:=by kernel_rfl
abbrev pAu:=zj aeK aeL 105 Ee
theorem auJ:C (pAu 30 []) aeN=UQ:=gNC (by decide) fun _=>auH
theorem auK:C (pAu 14 []) aeM=Nc:=gNC (by decide) fun _=>auI.trans (by rw[auJ]<;>kernel_rfl)
theorem Nf:ak Tryz.prog (fun _=>True) 105 ⟨Ee,vg⟩:=zcc (env:=aeK) (d:=6) (hs:=Ev.get aeL) (aj UN (aj auG av)) (fun J x=>UO (C (J 14 []) aeM) x.1) (fun _ _=>by kernel_rfl) fun _=>by rw[auK]<;>rfl
@[reducible] def auL:Sh:=⟨[.d bA],[],aW,[.d bA],[],0,aW⟩
@[reducible] def dT:Type:=As aW
def aeQ(a:zE7):Option dT :=
 zC (mZ (a.2.2.2.2.1,())) fun y=>zC (A9 (a.2.2.2.2.2,())) fun y_1=>some ((a.1,a.2.1,a.2.2.1,a.2.2.2.1,y.1,y_1.1),())
def UR(x:As aW):Option dT:=aeQ x.1
theorem anN:ak Tryz.prog (fun _=>True) 170 ⟨auL,UR⟩:=ctn (aj A7 (aj aeH av)) 6 fun J x=>by kernel_rfl
@[reducible] def cA:List Ty:=[.pr (.int .u8) rG]
@[reducible] def anO:Sh:=⟨[.d aC],[],cA,[.d aC],[],0,cA⟩
def US(p:zE0):Option (As cA) :=
 zC (UR (p.2.2.2.2.2.1,())) fun y=>some ((p.1,p.2.1,p.2.2.1,p.2.2.2.1,p.2.2.2.2.1,y.1,p.2.2.2.2.2.2),())
def yY(x:As cA):Option (As cA):=US x.1
theorem UT:ak Tryz.prog (fun _=>True) 114 ⟨anO,yY⟩:=ctn (aj anN av) 6 fun J x=>by kernel_rfl
@[reducible] def eR:List Ty:=[.sl (.int .u16),.sl (.int .u8)]
@[reducible] def aI:List Ty:=[.sl (.int .u8)]
@[reducible] def UU:Sh:=⟨[.row 0,.d aB],[.row (.int .u8) 5],eR,[.row 1],[(1,.row (.int .u8) 5)],1,aI⟩
def aeR:Env:=(cts [])
def aeS:List (Nat×Hint):=[(26,⟨[.unl 0],[0,7,8,9]⟩)]
def UW(t7:List Int)(t8 t9:Int)(out:List Int):St:=⟨[(0,.row 1),(7,dW t7),(8,dI t8),(9,dI t9)],23,[],[(1,.row (.int .u8) 5 out)],2,[],1⟩
@[reducible] def bU:Type:=As aI
@[reducible] def zE8:Type:=List Int->Int->Int->List Int->Option bU
def Hf(self1:zE8)(t7:List Int)(t8 t9:Int)(out:List Int):Option bU :=
 if lt t9 t8=true then zC (at? t7 t9) fun y=>need (small (zG out+Nat.succ (Nat.succ 0))) (self1 t7 t8 (add .i64 t9 1) (out++[cvt .u8 (Sx.shr .u16 y 8),cvt .u8 y])) else some (out,())
def UX(j1:zE8)(out l:List Int):Option bU :=
 j1 out (zF (zG out)) 0 l
def Ng(t7:List Int)(t8 t9:Int)(out:List Int):Option bU :=
 cu (fun self s=>Hf (fun t7 t8 t9 out=>self (t7,t8,t9,out)) s.1 s.2.1 s.2.2.1 s.2.2.2) 18446744073709551616 (t7,t8,t9,out)
def nW(x:As eR):Option bU:=UX Ng x.1 x.2.1
abbrev pA1:=zp aeR aeS 107 UU
theorem auM{J w1 a b c d}:pA1 J 26 [w1] (UW a b c d)=Hf (C w1 UW) a b c d:=by kernel_rfl
abbrev pA0:=zj aeR aeS 107 UU
theorem auN:C (pA0 26 []) UW=Ng:=gLC (by decide) (by kernel_rfl) (fun _=>by unfold Ng;rfl) fun _ _=>auM.trans (by kernel_rfl)
theorem auO:ak Tryz.prog (fun _=>True) 107 ⟨UU,nW⟩:=zcc (env:=aeR) (d:=6) (hs:=Ev.get aeS) av (fun J x=>UX (C (J 26 []) UW) x.1 x.2.1) (fun _ _=>by kernel_rfl) fun _=>by rw[auN]<;>rfl
@[reducible] def UY:Sh:=⟨[.d (.sl .bool)],[],[.sl .bool],[.d aJ],[],0,aI⟩
def aeT:Env:=(cts [])
def aeU:List (Nat×Hint):=[(7,⟨[],[0,3]⟩),(250,⟨[],[4,18,19,20]⟩)]
def UZ(bits:List Bool)(n:Int):St:=⟨[(0,.d (.sl .bool) bits),(3,dI n)],38,[],[],0,[],0⟩
def U0(t18:List Bool)(t19 t20:Int)(out:List Int):St:=⟨[(4,.row 0),(18,.d (.sl .bool) t18),(19,dI t19),(20,dI t20)],38,[],[(0,.row (.int .u8) 5 out)],1,[],0⟩
@[reducible] def zE9:Type:=List Bool->Int->Int->List Int->Option bU
def U1(j2:zE9)(bits:List Bool)(n:Int):Option bU :=
 need (ge n 0) (need (Ev.jC n n) (need (small (zI n)) (j2 bits (zF (zG bits)) 0 (zE (zI n) 0))))
def Hg(self2:zE9)(t18:List Bool)(t19 t20:Int)(out:List Int):Option bU :=
 if lt t20 t19=true then zC (at? t18 t20) fun y=>if y=true then zC (at? out (quo .i64 t20 8)) fun x=>zC (at? out (quo .i64 t20 8)) fun y=>need (ge (rem t20 8) 0) (zC (at? out (quo .i64 t20 8)) fun x=>zC (at? out (quo .i64 t20 8)) fun x=>self2 t18 t19 (add .i64 t20 1) (List.set out (zI (quo .i64 t20 8)) (Sx.bor .u8 y (Sx.shl .u8 1 (rem t20 8))))) else self2 t18 t19 (add .i64 t20 1) out else some (out,())
def U2(j1:List Bool->Int->Option bU)(bits:List Bool):Option bU :=
 if gt (rem (zF (zG bits)) 8) 0=true then j1 bits (add .i64 (quo .i64 (zF (zG bits)) 8) 1) else j1 bits (quo .i64 (zF (zG bits)) 8)
def U3(t18:List Bool)(t19 t20:Int)(out:List Int):Option bU :=
 cu (fun self s=>Hg (fun t18 t19 t20 out=>self (t18,t19,t20,out)) s.1 s.2.1 s.2.2.1 s.2.2.2) 18446744073709551616 (t18,t19,t20,out)
def Nh:=U1 (U3)
def Hl(x:As [.sl .bool]):Option bU:=U2 Nh x.1
abbrev pAr:=zp aeT aeU 108 UY
theorem auP{J w2 a b c d}:pAr J 250 [w2] (U0 a b c d)=Hg (C w2 U0) a b c d:=by kernel_rfl
theorem auQ{J a b}:pAr J 7 [] (UZ a b)=U1 (C (J 250 []) U0) a b:=by kernel_rfl
abbrev pAq:=zj aeT aeU 108 UY
theorem auR:C (pAq 250 []) U0=U3:=gLC (by decide) (by kernel_rfl) (fun _=>by unfold U3;rfl) fun _ _=>auP.trans (by kernel_rfl)
theorem auS:C (pAq 7 []) UZ=Nh:=gNC (by decide) fun _=>auQ.trans (by rw[auR]<;>kernel_rfl)
theorem anP:ak Tryz.prog (fun _=>True) 108 ⟨UY,Hl⟩:=zcc (env:=aeT) (d:=6) (hs:=Ev.get aeU) av (fun J x=>U2 (C (J 7 []) UZ) x.1) (fun _ _=>by kernel_rfl) fun _=>by rw[auS]<;>rfl
@[reducible] def aU:List Ty:=[.sl (.int .u8),.int .i64]
@[reducible] def U4:Sh:=⟨[.d bA],[],aW,[.d aJ,.d (.int .i64)],[],0,aU⟩
def aeV:Env:=(cts [(105,(⟨Ee,vg⟩:Ct)),(106,(⟨UM,yX⟩:Ct)),(107,(⟨UU,nW⟩:Ct)),(108,(⟨UY,Hl⟩:Ct))])
def aeW:List (Nat×Hint):=[(31,⟨[],[1,4,6,48,49,50,51]⟩),(63,⟨[],[1,4,6,48,49,50,51]⟩),(127,⟨[],[6]⟩),(508,⟨[],[1,4,6,43]⟩)]
def aeX(a a_2 a_3 a_4:Int)(a_5:List Int)(a_6:List Bool)(s s_2 s_3:Int)(s_4 s_5:Bool)(out:List Int):St:=⟨[(1,.pb 0 0),(4,.pb 1 0),(6,.row 2)],102,[],[(0,.box 27 [d8 a,d6 a_2,d6 a_3,d6 a_4,dW a_5,.d (.sl .bool) a_6]),(1,.box 151 [dI s,dI s_2,dI s_3,dB s_4,dB s_5]),(2,.row (.int .u8) 5 out)],3,[],0⟩
def aeY(a a_2 a_3 a_4:Int)(a_5:List Int)(a_6:List Bool)(s s_2 s_3:Int)(s_4 s_5:Bool)(out:List Int):St:=⟨[(1,.pb 0 0),(4,.pb 1 0),(6,.row 2)],102,[],[(0,.box 27 [d8 a,d6 a_2,d6 a_3,d6 a_4,dW a_5,.d (.sl .bool) a_6]),(1,.box 151 [dI s,dI s_2,dI s_3,dB s_4,dB s_5]),(2,.row (.int .u8) 5 out)],3,[],0⟩
def aeZ(t43:Bool)(a a_2 a_3 a_4:Int)(a_5:List Int)(a_6:List Bool)(s s_2 s_3:Int)(s_4 s_5:Bool)(out:List Int):St:=⟨[(1,.pb 0 0),(4,.pb 1 0),(6,.row 2),(43,dB t43)],102,[],[(0,.box 27 [d8 a,d6 a_2,d6 a_3,d6 a_4,dW a_5,.d (.sl .bool) a_6]),(1,.box 151 [dI s,dI s_2,dI s_3,dB s_4,dB s_5]),(2,.row (.int .u8) 5 out)],3,[],0⟩
def ae0(out:List Int):St:=⟨[(6,.row 0)],102,[],[(0,.row (.int .u8) 5 out)],1,[],0⟩
@[reducible] def cU:Type:=As aU
@[reducible] def asj:Type:=Int->Int->Int->Int->List Int->List Bool->Int->Int->Int->Bool->Bool->List Int->Option cU
def anQ(j2:asj)(a a_2 a_3 a_4:Int)(a_5:List Int)(a_6:List Bool)(s s_2 s_3:Int)(s_4 s_5:Bool)(out:List Int):Option cU :=
 if s_4=true then zC (nW ([a_4,cvt .u16 (zF (zG a_5))],out,())) fun y=>j2 a a_2 a_3 a_4 a_5 a_6 s s_2 s_3 s_4 s_5 y.1 else j2 a a_2 a_3 a_4 a_5 a_6 s s_2 s_3 s_4 s_5 out
def anR(j3:Bool->Int->Int->Int->Int->List Int->List Bool->Int->Int->Int->Bool->Bool->List Int->Option cU)(a a_2 a_3 a_4:Int)(a_5:List Int)(a_6:List Bool)(s s_2 s_3:Int)(s_4 s_5:Bool)(out:List Int):Option cU :=
 if eqi a 5=true then zC (at? a_6 0) fun y=>j3 y a a_2 a_3 a_4 a_5 a_6 s s_2 s_3 s_4 s_5 out else j3 false a a_2 a_3 a_4 a_5 a_6 s s_2 s_3 s_4 s_5 out
def anS(j4:List Int->Option cU)(t43:Bool)(a a_2 a_3 a_4:Int)(a_5:List Int)(a_6:List Bool)(s s_2 s_3:Int)(s_4 s_5:Bool)(out:List Int):Option cU :=
 if t43=true then zC (nW ([65280],out,())) fun y=>j4 y.1 else if eqi a 5=true then zC (nW ([0],out,())) fun y=>j4 y.1 else if eqi a 6=true then zC (nW (a_5,out,())) fun y=>j4 y.1 else if gt s_2 0=true then zC (Hl (a_6,())) fun y=>need (small (zG out+Nat.succ 0)) (need (small (zG (out++[cvt .u8 (zF (zG y.1))])+zG y.1)) (j4 (out++[cvt .u8 (zF (zG y.1))]++y.1))) else if gt s_3 0=true then need (small (zG out+Nat.succ 0)) (zC (nW (a_5,out++[cvt .u8 (mul .i64 2 (zF (zG a_5)))],())) fun y=>j4 y.1) else j4 out
def anT(out:List Int):Option cU :=
 some (out,0,())
def U5(j1:asj)(a:zE7):Option cU :=
 zC (vg (a,())) fun y=>if (!y.1)=true then some ([],12,()) else zC (yX (a.1,())) fun y=>zC (nW ([a.2.1],[a.1],())) fun y_1=>if gt y.1.1 0=true then zC (nW ([a.2.2.1],y_1.1,())) fun y_2=>j1 a.1 a.2.1 a.2.2.1 a.2.2.2.1 a.2.2.2.2.1 a.2.2.2.2.2 y.1.1 y.1.2.1 y.1.2.2.1 y.1.2.2.2.1 y.1.2.2.2.2 y_2.1 else j1 a.1 a.2.1 a.2.2.1 a.2.2.2.1 a.2.2.2.2.1 a.2.2.2.2.2 y.1.1 y.1.2.1 y.1.2.2.1 y.1.2.2.2.1 y.1.2.2.2.2 y_1.1
def anU:=anT
def anV:=anS (anU)
def anW:=anR (anV)
def Ba:=anQ (anW)
def Eg(x:As aW):Option cU:=U5 Ba x.1
abbrev pAp:=zp aeV aeW 50 U4
theorem auT{J a}:pAp J 127 [] (ae0 a)=anT a:=by kernel_rfl
theorem auU{J a b c d e f g h i j k l m}:pAp J 508 [] (aeZ a b c d e f g h i j k l m)=anS (C (J 127 []) ae0) a b c d e f g h i j k l m:=by kernel_rfl
theorem auV{J a b c d e f g h i j k l}:pAp J 63 [] (aeY a b c d e f g h i j k l)=anR (C (J 508 []) aeZ) a b c d e f g h i j k l:=by kernel_rfl
theorem auW{J a b c d e f g h i j k l}:pAp J 31 [] (aeX a b c d e f g h i j k l)=anQ (C (J 63 []) aeY) a b c d e f g h i j k l:=by kernel_rfl
abbrev pAo:=zj aeV aeW 50 U4
theorem auX:C (pAo 127 []) ae0=anU:=gNC (by decide) fun _=>auT
theorem auY:C (pAo 508 []) aeZ=anV:=gNC (by decide) fun _=>auU.trans (by rw[auX]<;>kernel_rfl)
theorem auZ:C (pAo 63 []) aeY=anW:=gNC (by decide) fun _=>auV.trans (by rw[auY]<;>kernel_rfl)
theorem au0:C (pAo 31 []) aeX=Ba:=gNC (by decide) fun _=>auW.trans (by rw[auZ]<;>kernel_rfl)
theorem ae1:ak Tryz.prog (fun _=>True) 50 ⟨U4,Eg⟩:=zcc (env:=aeV) (d:=6) (hs:=Ev.get aeW) (aj Nf (aj UN (aj auO (aj anP av)))) (fun J x=>U5 (C (J 31 []) aeX) x.1) (fun _ _=>by kernel_rfl) fun _=>by rw[au0]<;>rfl
@[reducible] def U6:Sh:=⟨[.d (.pr (.int .u16) C8)],[],[.pr (.int .u16) C8],[.d aJ,.d (.int .i64)],[],0,aU⟩
def ae2:Env:=(cts [])
def ae3:List (Nat×Hint):=[(14,⟨[],[1,4,14]⟩)]
def ae4(n:Int)(t14:Bool)(x:Int×Int×List Int):St:=⟨[(1,.pb 0 0),(4,dI n),(14,dB t14)],37,[],[(0,.box 129 [d6 x.1,d8 x.2.1,dL x.2.2])],1,[],0⟩
def U7(n:Int)(t14:Bool)(x:Int×Int×List Int):Option cU :=
 if t14=true then some ([],2,()) else need (Ev.jC 0 (add .i64 7 n)) (need (small (zI (add .i64 7 n))) (need (small (0+Nat.succ (Nat.succ (Nat.succ (Nat.succ (Nat.succ (Nat.succ (Nat.succ 0)))))))) (need (small (Nat.succ (Nat.succ (Nat.succ (Nat.succ (Nat.succ (Nat.succ (Nat.succ 0))))))+zG x.2.2)) (some (cvt .u8 (Sx.shr .u16 x.1 8)::cvt .u8 x.1::0::0::0::cvt .u8 (add .i64 n 1)::x.2.1::x.2.2,0,())))))
def U8(j1:Int->Bool->Int×Int×List Int->Option cU)(x:Int×Int×List Int):Option cU :=
 if lt (zF (zG x.2.2)) 1=true then j1 (zF (zG x.2.2)) true x else j1 (zF (zG x.2.2)) (gt (zF (zG x.2.2)) 253) x
def ae5:=U7
def Ni(x:As [.pr (.int .u16) C8]):Option cU:=U8 ae5 x.1
abbrev pB1:=zp ae2 ae3 100 U6
theorem au1{J a b c}:pB1 J 14 [] (ae4 a b c)=U7 a b c:=by kernel_rfl
abbrev pB0:=zj ae2 ae3 100 U6
theorem au2:C (pB0 14 []) ae4=ae5:=gNC (by decide) fun _=>au1
theorem anX:ak Tryz.prog (fun _=>True) 100 ⟨U6,Ni⟩:=zcc (env:=ae2) (d:=6) (hs:=Ev.get ae3) av (fun J x=>U8 (C (J 14 []) ae4) x.1) (fun _ _=>by kernel_rfl) fun _=>by rw[au2]<;>rfl
@[reducible] def dP:List Ty:=[.un,.int .u8,.int .u16,.pr (.int .u8) kF]
@[reducible] def au3:Sh:=⟨[.d (.un),.d (.int .u8),.d (.int .u16),.d bA],[],dP,[.d aJ],[],0,aI⟩
def ae6(v:Unit)(unit tx:Int)(a:zE7):Option bU :=
 zC (Eg (a,())) fun y=>if nei y.2.1 0=true then some ([],()) else zC (Ni ((tx,unit,y.1),())) fun y=>if nei y.2.1 0=true then some ([],()) else some (y.1,())
def ae7(x:As dP):Option bU:=ae6 x.1 x.2.1 x.2.2.1 x.2.2.2.1
theorem au4:ak Tryz.prog (fun _=>True) 338 ⟨au3,ae7⟩:=ctn (aj ae1 (aj anX av)) 6 fun J x=>by kernel_rfl
@[reducible] def au5:Sh:=⟨[.d (.un),.d (.int .u16)],[],[.un,.int .u16],[.d (.int .u16)],[],0,[.int .u16]⟩
@[reducible] def eC:Type:=As [.int .u16]
def au6(v:Unit)(tx:Int):Option eC :=
 some (add .u16 tx 1,())
def ae8(x:As [.un,.int .u16]):Option eC:=au6 x.1 x.2.1
theorem au7:ak Tryz.prog (fun _=>True) 339 ⟨au5,ae8⟩:=ctn av 6 fun J x=>by kernel_rfl
@[reducible] def U9:Sh:=⟨[],[],[],[.d (.ar 16 (.int .u16))],[],0,[.ar 16 (.int .u16)]⟩
def ae9:Env:=(cts [])
def afa:List (Nat×Hint):=[(58,⟨[],[0,1,5]⟩),(7475,⟨[],[0,1,2,3,5]⟩),(59802,⟨[],[0,1,2,3,5,10]⟩)]
def Bb(t5:Int)(t0 t:List Int):St:=⟨[(0,.pb 0 0),(1,.pb 1 0),(5,dI t5)],26,[],[(0,.row (.int .u16) 213 t0),(1,.row (.int .u16) 213 t)],2,[],0⟩
def Va(i x t5 t10:Int)(t0 t:List Int):St:=⟨[(0,.pb 0 0),(1,.pb 1 0),(2,dI i),(3,d6 x),(5,dI t5),(10,dI t10)],26,[],[(0,.row (.int .u16) 213 t0),(1,.row (.int .u16) 213 t)],2,[],0⟩
def afb(i x t5:Int)(t0 t:List Int):St:=⟨[(0,.pb 0 0),(1,.pb 1 0),(2,dI i),(3,d6 x),(5,dI t5)],26,[],[(0,.row (.int .u16) 213 t0),(1,.row (.int .u16) 213 t)],2,[],0⟩
@[reducible] def asl:Type:=Int->Int->Int->Int->List Int->List Int->Option (As [.ar 16 (.int .u16)])
@[reducible] def Ho:Type:=Int->List Int->List Int->Option (As [.ar 16 (.int .u16)])
def anY(j2:asl)(self1:Ho)(t5:Int)(t0 t:List Int):Option (As [.ar 16 (.int .u16)]) :=
 if lt t5 16=true then j2 t5 (cvt .u16 t5) t5 0 t0 t else need (eqi (zF (zG t)) 16) (need (eqi (zF (zG t0)) (zF (zG t))) (need (eqi 16 (zF (zG t*1))) (need (eqi (zF (zG t)) 16) (need (eqi (zF (zG t)) 16) (some (t,()))))))
def anZ(j3:Int->Int->Int->List Int->List Int->Option (As [.ar 16 (.int .u16)]))(self1:Ho)(self2:asl)(i x t5 t10:Int)(t0 t:List Int):Option (As [.ar 16 (.int .u16)]) :=
 if lt t10 4=true then if eqi (Sx.kZ .u16 x 1) 1=true then self2 i (Sx.iI .u16 (Sx.shr .u16 x 1) 40961) t5 (add .i64 t10 1) t0 t else self2 i (Sx.shr .u16 x 1) t5 (add .i64 t10 1) t0 t else j3 i x t5 t0 t
def an0(self1:Ho)(i x t5:Int)(t0 t:List Int):Option (As [.ar 16 (.int .u16)]) :=
 need (lt i 16) (zC (at? t i) fun x_1=>zC (at? t i) fun x_2=>self1 (add .i64 t5 1) t0 (List.set t (zI i) x))
def an1(j1:Ho):Option (As [.ar 16 (.int .u16)]) :=
 j1 0 (zE 16 0) (zE 16 0)
def an2(u1:Ho):=an0 u1
def afc(u1:Ho)(i x t5 t10:Int)(t0 t:List Int):Option (As [.ar 16 (.int .u16)]) :=
 cu (fun self s=>anZ (an2 u1) u1 (fun i x t5 t10 t0 t=>self (i,x,t5,t10,t0,t)) s.1 s.2.1 s.2.2.1 s.2.2.2.1 s.2.2.2.2.1 s.2.2.2.2.2) 18446744073709551616 (i,x,t5,t10,t0,t)
def afd(t5:Int)(t0 t:List Int):Option (As [.ar 16 (.int .u16)]) :=
 cu (fun self s=>anY (afc (fun t5 t0 t=>self (t5,t0,t))) (fun t5 t0 t=>self (t5,t0,t)) s.1 s.2.1 s.2.2) 18446744073709551616 (t5,t0,t)
def Vb(x:As []):Option (As [.ar 16 (.int .u16)]):=an1 afd
abbrev pBb:=zp ae9 afa 156 U9
theorem au8{J w1 a b c d e}:pBb J 7475 [w1] (afb a b c d e)=an0 (C w1 Bb) a b c d e:=by kernel_rfl
theorem au9{J w1 w2 a b c d e f}:pBb J 59802 [w1,w2] (Va a b c d e f)=anZ (C (J 7475 [w1]) afb) (C w1 Bb) (C w2 Va) a b c d e f:=by kernel_rfl
theorem ava{J w1 a b c}:pBb J 58 [w1] (Bb a b c)=anY (C (J 59802 [w1]) Va) (C w1 Bb) a b c:=by kernel_rfl
abbrev pBa:=zj ae9 afa 156 U9
theorem avb{w1}:C (pBa 7475 [w1]) afb=an2 (C w1 Bb):=gNC (by decide) fun _=>au8
theorem avc{w1}:C (pBa 59802 [w1]) Va=afc (C w1 Bb):=gLC (by decide) (by kernel_rfl) (fun _=>by unfold afc;rfl) fun _ _=>au9.trans (by rw[avb]<;>kernel_rfl)
theorem avd:C (pBa 58 []) Bb=afd:=gLC (by decide) (by kernel_rfl) (fun _=>by unfold afd;rfl) fun _ _=>ava.trans (by rw[avc]<;>kernel_rfl)
theorem ave:ak Tryz.prog (fun _=>True) 156 ⟨U9,Vb⟩:=zcc (env:=ae9) (d:=6) (hs:=Ev.get afa) av (fun J x=>an1 (C (J 58 []) Bb)) (fun _ _=>by kernel_rfl) fun _=>by rw[avd]<;>rfl
@[reducible] def an3:Sh:=⟨[.pb 0 0,.d (.int .u16),.d (.int .u8)],[.row (.int .u16) 213],[.int .u16,.int .u8,.sl (.int .u16)],[.d (.int .u16)],[(0,.row (.int .u16) 213)],0,[.int .u16,.sl (.int .u16)]⟩
def Vd(t sum:Int)(c:List Int):Option (As [.int .u16,.sl (.int .u16)]) :=
 need (lt (Sx.kZ .u16 (Sx.iI .u16 t (cvt .u16 sum)) 15) 16) (zC (at? c (Sx.kZ .u16 (Sx.iI .u16 t (cvt .u16 sum)) 15)) fun x=>zC (at? c (Sx.kZ .u16 (Sx.iI .u16 t (cvt .u16 sum)) 15)) fun y=>need (lt (Sx.kZ .u16 (Sx.iI .u16 (Sx.shr .u16 (Sx.iI .u16 t (cvt .u16 sum)) 4) y) 15) 16) (zC (at? c (Sx.kZ .u16 (Sx.iI .u16 (Sx.shr .u16 (Sx.iI .u16 t (cvt .u16 sum)) 4) y) 15)) fun x=>zC (at? c (Sx.kZ .u16 (Sx.iI .u16 (Sx.shr .u16 (Sx.iI .u16 t (cvt .u16 sum)) 4) y) 15)) fun y_1=>some (Sx.iI .u16 (Sx.shr .u16 (Sx.iI .u16 (Sx.shr .u16 (Sx.iI .u16 t (cvt .u16 sum)) 4) y) 4) y_1,c,())))
def KO(x:As [.int .u16,.int .u8,.sl (.int .u16)]):Option (As [.int .u16,.sl (.int .u16)]):=Vd x.1 x.2.1 x.2.2.1
theorem avf:ak Tryz.prog (fun _=>True) 157 ⟨an3,KO⟩:=ctn av 6 fun J x=>by kernel_rfl
@[reducible] def afe:Sh:=⟨[.d aJ],[],aI,[.d (.int .u16)],[],0,[.int .u16]⟩
def Ve:Env:=(cts [(156,(⟨U9,Vb⟩:Ct)),(157,(⟨an3,KO⟩:Ct))])
def Vf:List (Nat×Hint):=[(122,⟨[],[0,3,4,8,9]⟩)]
def Vg(b:List Int)(sum t8 t9:Int)(t:List Int):St:=⟨[(0,dL b),(3,.pb 0 0),(4,d6 sum),(8,dI t8),(9,dI t9)],20,[],[(0,.row (.int .u16) 213 t)],1,[],0⟩
@[reducible] def asn:Type:=List Int->Int->Int->Int->List Int->Option eC
def Hq(self1:asn)(b:List Int)(sum t8 t9:Int)(t:List Int):Option eC :=
 if lt t9 t8=true then zC (at? b t9) fun y=>zC (KO (sum,y,t,())) fun y=>self1 b y.1 t8 (add .i64 t9 1) y.2.1 else some (sum,())
def Vh(j1:asn)(b:List Int):Option eC :=
 zC (Vb ()) fun y=>need (eqi 16 (zF (zG y.1))) (need (eqi 16 (zF (zG y.1*1))) (j1 b 65535 (zF (zG b)) 0 y.1))
def Nj(b:List Int)(sum t8 t9:Int)(t:List Int):Option eC :=
 cu (fun self s=>Hq (fun b sum t8 t9 t=>self (b,sum,t8,t9,t)) s.1 s.2.1 s.2.2.1 s.2.2.2.1 s.2.2.2.2) 18446744073709551616 (b,sum,t8,t9,t)
def KP(x:As aI):Option eC:=Vh Nj x.1
abbrev pA9:=zp Ve Vf 97 afe
theorem avg{J w1 a b c d e}:pA9 J 122 [w1] (Vg a b c d e)=Hq (C w1 Vg) a b c d e:=by kernel_rfl
abbrev pA8:=zj Ve Vf 97 afe
theorem avh:C (pA8 122 []) Vg=Nj:=gLC (by decide) (by kernel_rfl) (fun _=>by unfold Nj;rfl) fun _ _=>avg.trans (by kernel_rfl)
theorem an4:ak Tryz.prog (fun _=>True) 97 ⟨afe,KP⟩:=zcc (env:=Ve) (d:=6) (hs:=Ev.get Vf) (aj ave (aj avf av)) (fun J x=>Vh (C (J 122 []) Vg) x.1) (fun _ _=>by kernel_rfl) fun _=>by rw[avh]<;>rfl
@[reducible] def Vi:Sh:=⟨[.d aJ],[],aI,[.d aJ],[],0,aI⟩
def Vj(b:List Int):Option bU :=
 zC (KP (b,())) fun y=>need (Ev.jC 0 (add .i64 (zF (zG b)) 2)) (need (small (zI (add .i64 (zF (zG b)) 2))) (need (small (0+zG b)) (need (small (zG b+Nat.succ (Nat.succ 0))) (some (b++[cvt .u8 y.1,cvt .u8 (Sx.shr .u16 y.1 8)],())))))
def Bc(x:As aI):Option bU:=Vj x.1
theorem an5:ak Tryz.prog (fun _=>True) 47 ⟨Vi,Bc⟩:=ctn (aj an4 av) 6 fun J x=>by kernel_rfl
@[reducible] def aff:Sh:=⟨[.d (.int .u8)],[],[.int .u8],[.d (.bool)],[],0,[.bool]⟩
def Nk(unit:Int):Option aE :=
 if ge unit 1=true then some (le unit 247,()) else some (false,())
def Eh(x:As [.int .u8]):Option aE:=Nk x.1
theorem an6:ak Tryz.prog (fun _=>True) 160 ⟨aff,Eh⟩:=ctn av 6 fun J x=>by kernel_rfl
@[reducible] def fH:List Ty:=[.int .u8,.sl (.int .u8)]
@[reducible] def Vk:Sh:=⟨[.d (.int .u8),.d aJ],[],fH,[.d aJ,.d (.int .i64)],[],0,aU⟩
def afg:Env:=(cts [(47,(⟨Vi,Bc⟩:Ct)),(160,(⟨aff,Eh⟩:Ct))])
def afh:List (Nat×Hint):=[(6,⟨[],[0,1,18]⟩)]
def afi(unit:Int)(pdu:List Int)(t18:Bool):St:=⟨[(0,d8 unit),(1,dL pdu),(18,dB t18)],24,[],[],0,[],0⟩
def Vm(unit:Int)(pdu:List Int)(t18:Bool):Option cU :=
 if t18=true then some ([],2,()) else need (small (Nat.succ 0+zG pdu)) (zC (Bc (unit::pdu,())) fun y=>some (y.1,0,()))
def Vn(j1:Int->List Int->Bool->Option cU)(unit:Int)(pdu:List Int):Option cU :=
 zC (Eh (unit,())) fun y=>if (!y.1)=true then j1 unit pdu true else if lt (zF (zG pdu)) 1=true then j1 unit pdu true else j1 unit pdu (gt (zF (zG pdu)) 253)
def afj:=Vm
def Nl(x:As fH):Option cU:=Vn afj x.1 x.2.1
abbrev pC7:=zp afg afh 102 Vk
theorem avi{J a b c}:pC7 J 6 [] (afi a b c)=Vm a b c:=by kernel_rfl
abbrev pC6:=zj afg afh 102 Vk
theorem avj:C (pC6 6 []) afi=afj:=gNC (by decide) fun _=>avi
theorem an7:ak Tryz.prog (fun _=>True) 102 ⟨Vk,Nl⟩:=zcc (env:=afg) (d:=6) (hs:=Ev.get afh) (aj an5 (aj an6 av)) (fun J x=>Vn (C (J 6 []) afi) x.1 x.2.1) (fun _ _=>by kernel_rfl) fun _=>by rw[avj]<;>rfl
@[reducible] def avk:Sh:=⟨[.d (.int .u8),.d bA],[],[.int .u8,.pr (.int .u8) kF],[.d aJ,.d (.int .i64)],[],0,aU⟩
def Vo(unit:Int)(a:zE7):Option cU :=
 zC (Eg (a,())) fun y=>if nei y.2.1 0=true then some ([],y.2.1,()) else zC (Nl (unit,y.1,())) fun y=>some (y.1,y.2.1,())
def Vp(x:As [.int .u8,.pr (.int .u8) kF]):Option cU:=Vo x.1 x.2.1
theorem avl:ak Tryz.prog (fun _=>True) 344 ⟨avk,Vp⟩:=ctn (aj ae1 (aj an7 av)) 6 fun J x=>by kernel_rfl
@[reducible] def avm:Sh:=⟨[.d (.un),.d (.int .u8),.d (.int .u16),.d bA],[],dP,[.d aJ],[],0,aI⟩
def afk(v:Unit)(unit tx:Int)(a:zE7):Option bU :=
 zC (Vp (unit,a,())) fun y=>if nei y.2.1 0=true then some ([],()) else some (y.1,())
def afl(x:As dP):Option bU:=afk x.1 x.2.1 x.2.2.1 x.2.2.2.1
theorem avn:ak Tryz.prog (fun _=>True) 341 ⟨avm,afl⟩:=ctn (aj avl av) 6 fun J x=>by kernel_rfl
@[reducible] def avo:Sh:=⟨[.d (.un),.d (.int .u16)],[],[.un,.int .u16],[.d (.int .u16)],[],0,[.int .u16]⟩
def avp(v:Unit)(tx:Int):Option eC :=
 some (tx,())
def afm(x:As [.un,.int .u16]):Option eC:=avp x.1 x.2.1
theorem avq:ak Tryz.prog (fun _=>True) 342 ⟨avo,afm⟩:=ctn av 6 fun J x=>by kernel_rfl
@[reducible] def dM:List Ty:=[.pr (.int .u8) rG,.sl (.int .u8)]
@[reducible] def avr:Sh:=⟨[.d aC],[],cA,[.d aC,.d aJ],[],0,dM⟩
def afn(p:zE0):Option (As dM) :=
 if eqi p.2.1 2=true then zC (ae8 ((),p.2.2.2.2.2.2.1,())) fun y=>zC (ae7 ((),p.1,y.1,p.2.2.2.2.2.1,())) fun y_1=>some ((p.1,p.2.1,p.2.2.1,p.2.2.2.1,p.2.2.2.2.1,p.2.2.2.2.2.1,y.1,p.2.2.1,p.2.2.2.2.2.2.2.2),y_1.1,()) else zC (afm ((),p.2.2.2.2.2.2.1,())) fun y=>zC (afl ((),p.1,y.1,p.2.2.2.2.2.1,())) fun y_1=>some ((p.1,p.2.1,p.2.2.1,p.2.2.2.1,p.2.2.2.2.1,p.2.2.2.2.2.1,y.1,p.2.2.1,p.2.2.2.2.2.2.2.2),y_1.1,())
def KQ(x:As cA):Option (As dM):=afn x.1
theorem an8:ak Tryz.prog (fun _=>True) 115 ⟨avr,KQ⟩:=ctn (aj au4 (aj au7 (aj avn (aj avq av)))) 6 fun J x=>by kernel_rfl
@[reducible] def eV:List Ty:=[.pr (.int .u8) rG,.sl (.int .u8),.int .i64]
@[reducible] def an9:Sh:=⟨[.d aC,.d bA],[],[.pr (.int .u8) rG,.pr (.int .u8) kF],[.d aC,.d aJ,.d (.int .i64)],[],0,eV⟩
def afo(p:zE0)(a:zE7):Option (As eV) :=
 if p.2.2.2.2.1=true then zC (yY (p,())) fun y=>some (y.1,[],30,()) else zC (vg (a,())) fun y=>if (!y.1)=true then zC (yY (p,())) fun y=>some (y.1,[],12,()) else zC (UR (a,())) fun y=>zC (KQ ((p.1,p.2.1,p.2.2.1,p.2.2.2.1,true,y.1,p.2.2.2.2.2.2.1,p.2.2.2.2.2.2.2.1,p.2.2.2.1),())) fun y=>some (y.1,y.2.1,0,())
def Hr(x:As [.pr (.int .u8) rG,.pr (.int .u8) kF]):Option (As eV):=afo x.1 x.2.1
theorem avs:ak Tryz.prog (fun _=>True) 116 ⟨an9,Hr⟩:=ctn (aj Nf (aj UT (aj an8 (aj anN av)))) 6 fun J x=>by kernel_rfl
@[reducible] def cB:List Ty:=[.pr (.int .i64) aB]
@[reducible] def Ht:Sh:=⟨[.d bq],[],cB,[.d (.bool)],[],0,[.bool]⟩
def afp(x:Int×List Int):Option aE :=
 if le (zF (zG x.2)) 14=true then if ge x.1 0=true then if lt x.1 64=true then some (le (add .i64 x.1 (zF (zG x.2))) 64,()) else some (false,()) else some (false,()) else some (false,())
def qK(x:As cB):Option aE:=afp x.1
theorem Ei:ak Tryz.prog (fun _=>True) 26 ⟨Ht,qK⟩:=ctn av 6 fun J x=>by kernel_rfl
@[reducible] def Nn:Sh:=⟨[.d bq],[],cB,[.d aB],[],0,aK⟩
def afq:Env:=(cts [(26,(⟨Ht,qK⟩:Ct))])
def afr:List (Nat×Hint):=[(7,⟨[],[3]⟩),(60,⟨[],[3]⟩)]
def afs(l:List Int):St:=⟨[(3,.row 0)],28,[],[(0,.row (.int .u16) 25 l)],1,[],0⟩
def Vq(l:List Int):St:=⟨[(3,.row 0)],28,[],[(0,.row (.int .u16) 25 l)],1,[],0⟩
@[reducible] def aft:Type:=List Int->Option bM
def aso(j2:aft)(l:List Int):Option bM :=
 j2 l
def Vr(self2:aft)(l:List Int):Option bM :=
 if lt (zF (zG l)) 16=true then need (small (zG l+1)) (self2 (l++[0])) else some (l,())
def Vs(j1:aft)(x:Int×List Int):Option bM :=
 zC (qK (x,())) fun y=>if y.1=true then need (small (0+Nat.succ (Nat.succ 0))) (need (small (Nat.succ (Nat.succ 0)+zG x.2)) (j1 (cvt .u16 x.1::cvt .u16 (zF (zG x.2))::x.2))) else j1 (zE 0 0)
def Np(l:List Int):Option bM :=
 cu (fun self s=>Vr (fun l=>self (l)) s) 18446744073709551616 (l)
def Vt:=aso (Np)
def Ej(x:As cB):Option bM:=Vs Vt x.1
abbrev pD9:=zp afq afr 267 Nn
theorem avt{J w2 a}:pD9 J 60 [w2] (Vq a)=Vr (C w2 Vq) a:=by kernel_rfl
theorem avu{J a}:pD9 J 7 [] (afs a)=aso (C (J 60 []) Vq) a:=by kernel_rfl
abbrev pD8:=zj afq afr 267 Nn
theorem avv:C (pD8 60 []) Vq=Np:=gLC (by decide) (by kernel_rfl) (fun _=>by unfold Np;rfl) fun _ _=>avt.trans (by kernel_rfl)
theorem avw:C (pD8 7 []) afs=Vt:=gNC (by decide) fun _=>avu.trans (by rw[avv]<;>kernel_rfl)
theorem afu:ak Tryz.prog (fun _=>True) 267 ⟨Nn,Ej⟩:=zcc (env:=afq) (d:=6) (hs:=Ev.get afr) (aj Ei av) (fun J x=>Vs (C (J 7 []) afs) x.1) (fun _ _=>by kernel_rfl) fun _=>by rw[avw]<;>rfl
@[reducible] def aoa:Sh:=⟨[.d (.int .u32)],[],[.int .u32],[.d (.int .u32)],[],0,[.int .u32]⟩
@[reducible] def aQ:Type:=As [.int .u32]
def afv(sum:Int):Option aQ :=
 if eqi (Sx.kZ .u32 sum 1) 1=true then some (Sx.iI .u32 (Sx.shr .u32 sum 1) 3988292384,()) else some (Sx.shr .u32 sum 1,())
def Nq(x:As [.int .u32]):Option aQ:=afv x.1
theorem avx:ak Tryz.prog (fun _=>True) 301 ⟨aoa,Nq⟩:=ctn av 6 fun J x=>by kernel_rfl
@[reducible] def Vu:Sh:=⟨[.d (.int .u32),.d (.int .u8)],[],[.int .u32,.int .u8],[.d (.int .u32)],[],0,[.int .u32]⟩
def Vv:Env:=(cts [(301,(⟨aoa,Nq⟩:Ct))])
def Vw:List (Nat×Hint):=[(58,⟨[],[0,9]⟩)]
def Vx(sum t9:Int):St:=⟨[(0,d2 sum),(9,dI t9)],15,[],[],0,[],0⟩
def Nr(self1:Int->Int->Option aQ)(sum t9:Int):Option aQ :=
 if lt t9 8=true then zC (Nq (sum,())) fun y=>self1 y.1 (add .i64 t9 1) else some (sum,())
def aob(j1:Int->Int->Option aQ)(sum b:Int):Option aQ :=
 j1 (Sx.iI .u32 sum (cvt .u32 b)) 0
def Ns(sum t9:Int):Option aQ :=
 cu (fun self s=>Nr (fun sum t9=>self (sum,t9)) s.1 s.2) 18446744073709551616 (sum,t9)
def KR(x:As [.int .u32,.int .u8]):Option aQ:=aob Ns x.1 x.2.1
abbrev pEb:=zp Vv Vw 298 Vu
theorem avy{J w1 a b}:pEb J 58 [w1] (Vx a b)=Nr (C w1 Vx) a b:=by kernel_rfl
abbrev pEa:=zj Vv Vw 298 Vu
theorem avz:C (pEa 58 []) Vx=Ns:=gLC (by decide) (by kernel_rfl) (fun _=>by unfold Ns;rfl) fun _ _=>avy.trans (by kernel_rfl)
theorem avA:ak Tryz.prog (fun _=>True) 298 ⟨Vu,KR⟩:=zcc (env:=Vv) (d:=6) (hs:=Ev.get Vw) (aj avx av) (fun J x=>aob (C (J 58 []) Vx) x.1 x.2.1) (fun _ _=>by kernel_rfl) fun _=>by rw[avz]<;>rfl
end Go.Proofs.Lx
end
