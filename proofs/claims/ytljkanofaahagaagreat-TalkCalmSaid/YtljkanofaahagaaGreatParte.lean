/- Proved in the last of these 16 parts (this is part 5): TalkCalm. Conditions: those of the given statement, and no others. -/
import Derived.Test.YtljkanofaahagaaGreatPartd
import Derived.Test.YtljkanofaahagaaGreatParta
import Derived.Test.YtljkanofaahagaaGreatProg
set_option linter.unusedVariables false
set_option linter.unusedSimpArgs false
set_option linter.unusedSectionVars false
open Option renaming bind → zC, bind_some → zD, none → zH
open List renaming replicate → zE, length → zG, getD → zJ, getElem?_eq_getElem → zV
open Int renaming ofNat → zF, toNat → zI
open Go.Value renaming slice → zK
noncomputable section
namespace Rw
open Go Ev Sx Go.RowKit
def dgo(g:TypeId->Option Ty)(P:Program):Nat->List Field->Option (List Ty)
 | _,[]=>some []
 | off,f::r=>(g f.type).bind fun a=>if f.offset=off∧P.cellsOf f.type=a.size then (dgo g P (off+a.size) r).map fun q=>a::q else none
def BQ:List Ty->Nat
 | []=>0
 | a::r=>a.size+BQ r
def dty(P:Program):Nat->TypeId->Option Ty
 | 0,_=>none
 | n+1,t=>match P.underlying t with
  | some (.int k)=>some (.int k)
  | some .bool=>some .bool
  | some .string=>some .str
  | some (.slice e)=>(dty P n e).bind fun y=>if P.cellsOf e=y.size∧y.size≠0 then some (.sl y) else none
  | some (.struct fs)=>(dgo (dty P n) P 0 fs.toList).bind fun l=>if P.cellsOf t=BQ l then some (u6 l) else none
  | _=>none
def okV:(t:Ty)->Vl t->Prop
 | .int k,x=>(Lit.int k x).wf=true
 | .bool,_=>True
 | .str,x=>x.length≤maxLen
 | .sl t,xs=>xs.length≤maxLen∧∀x∈xs,okV t x
 | .pr a b,x=>okV a x.1∧okV b x.2
 | .wr a,x=>okV a x
 | .un,_=>True
 | .ar n t,xs=>xs.length=n∧∀x∈xs,okV t x
 | .mp _ _,_=>True
section
variable {H:Type}{enc:TypeId×Value->H}{P:Program}{w:World}{base:Nat}{sp:Nat->Bool}{held:Bool}
theorem atE{t:Ty}{L:Lx}{cs:List Value}{x:Vl t}(h:(rp t).rel L w cs x):cs.length=t.size:=by rw[(rp t).len h,jc]
def ash(w:World)(cs:List Value)(off:Nat)(a:Ty):Prop:=∃v:Vl a,(rp a).rel [] w ((cs.drop off).take a.size) v∧okV a v
def Ak(w:World)(cs:List Value):Nat->List Ty->Prop
 | _,[]=>True
 | off,a::r=>ash w cs off a∧Ak w cs (off+a.size) r
theorem adk{cs:List Value}:∀(r:List Ty) (a:Ty) (off:Nat),Ak w cs off (a::r)->off+a.size+BQ r=cs.length->∃v:Vl (u6.prs a r),(rp (u6.prs a r)).rel [] w (cs.drop off) v∧okV (u6.prs a r) v
 | [],a,off,⟨⟨v,h1,h2⟩,_⟩,hl=>by have:(cs.drop off).take a.size=cs.drop off:=List.take_of_length_le (by simp[BQ]at hl ⊢;omega);rw[this]at h1;exact⟨v,h1,h2⟩
 | b::r,a,off,⟨⟨v,h1,h2⟩,h3⟩,hl=>by obtain⟨u,h4,h5⟩:=adk r b (off+a.size) h3 (by simp[BQ]at hl ⊢;omega);refine⟨(v,u),⟨(cs.drop off).take a.size,cs.drop (off+a.size),?_,h1,h4⟩,h2,h5⟩;rw[<- List.drop_drop];exact (List.take_append_drop _ _).symm
theorem atF{cs:List Value}:∀(l:List Ty),Ak w cs 0 l->BQ l=cs.length->∃v:Vl (u6 l),(rp (u6 l)).rel [] w cs v∧okV (u6 l) v
 | [],_,hl=>⟨(),(by show cs=[];exact List.eq_nil_of_length_eq_zero hl.symm),trivial⟩
 | [a],⟨⟨v,h1,h2⟩,_⟩,hl=>by
  have:(cs.drop 0).take a.size=cs:=by rw[List.drop_zero];exact List.take_of_length_le (by simp[BQ]at hl;omega)
  rw[this]at h1;exact⟨v,h1,h2⟩
 | a::b::r,h,hl=>adk (b::r) a 0 h (by simp[BQ]at hl ⊢;omega)
theorem adl{g:TypeId->Option Ty}{cs:List Value}(ih:∀t y n c x,g t=some y->DataW.trod enc P w base sp held n t c=some x->∃v:Vl y,(rp y).rel [] w c v∧okV y v)(n:Nat) :
  ∀(fs:List Field) (off:Nat) (l:List Ty),dgo g P off fs=some l->(∀f∈fs,∃x,DataW.trod enc P w base sp held n f.type ((cs.drop f.offset).take (P.cellsOf f.type))=some x)->Ak w cs off l
 | [],off,l,h,_=>by cases h;trivial
 | f::r,off,l,h,hx=>by
  obtain⟨a,h1,h⟩:=Option.bind_eq_some_iff.1 h;split at h
  ·rename_i hc
   obtain⟨q,h2,rfl⟩:=Option.map_eq_some_iff.1 h;obtain⟨x,h3⟩:=hx f (List.mem_cons_self ..);obtain⟨v,h4,h5⟩:=ih _ _ _ _ _ h1 h3;rw[hc.1,hc.2]at h4;exact⟨⟨v,h4,h5⟩,adl ih n r _ _ h2 fun f hf=>hx f (List.mem_cons_of_mem _ hf)⟩
  ·cases h
theorem afE{a:Addr}{n:Nat}{cs:List Value}(h:w.cells? base a n=some cs):cs.length=n∧∀j v,cs[j]? = some v->w.cell? (a.add j)=some v:=by
 unfold World.cells? at h;split at h
 ·have hl:cs.length=n:=by simpa using mapM_some_length h
  refine⟨hl,fun j v hj=>?_⟩;have hjl:j<n:=by rw[<- hl];exact (List.getElem?_eq_some_iff.1 hj).1
  have:=mapM_some_get h j j (by simp[hjl]);rw[this,hj]
 ·cases h
theorem VQ{a:Addr}{v:Value}(h:w.cell? a=some v):a.spot=none∧a.block<w.heap.size:=by
 unfold World.cell? at h;split at h
 ·rename_i hb
  split at h
  ·cases h
  ·rename_i hs
   exact⟨by simpa using hs,(Array.getElem?_eq_some_iff.1 hb).1⟩
 ·cases h
theorem add_plain(b o n:Nat):(⟨b,o,none⟩:Addr).add n=⟨b,o+n,none⟩:=by
 unfold Addr.add;split
 ·rename_i h;subst h;rfl
 ·rfl
theorem add_zero(a:Addr):a.add 0=a:=by unfold Addr.add;rw[if_pos rfl]
theorem IV:∀(m:Nat) (t:TypeId) (y:Ty) (n:Nat) (cs:List Value) (x:DataW H×List MemPlace),dty P m t=some y->DataW.trod enc P w base sp held n t cs=some x->∃v:Vl y,(rp y).rel [] w cs v∧okV y v
 | 0,_,_,_,_,_,h,_=>by cases h
 | m+1,t,y,n,cs,x,h,hx=>by
  unfold dty at h;split at h
  ·rename_i k ht
   cases h
   obtain⟨z,rfl,_,hw⟩:=DataW.trod_int ht hx;exact⟨z,rfl,hw⟩
  ·rename_i ht
   cases h
   obtain⟨b,rfl,_⟩:=DataW.trod_bool ht hx;exact⟨b,rfl,trivial⟩
  ·rename_i ht
   cases h
   obtain⟨⟨⟨s⟩⟩,rfl,_,hs⟩:=DataW.trod_string ht hx;exact⟨s,rfl,hs⟩
  ·rename_i e ht
   obtain⟨y',h1,h⟩:=Option.bind_eq_some_iff.1 h;split at h
   ·rename_i hc
    cases h
    rcases DataW.trod_slice ht hx with ⟨rfl,_⟩ | ⟨a,len,cap,elems,rest,n',_,rfl,_,_,hlc,hcm,hel,hat,_⟩
    ·exact⟨[],xu _ _ _ _ _,by simp,fun x hx=>by cases hx⟩
    ·have each:∀i:Fin len,∃v:Vl y',(∃c,(rp y').rel [] w c v∧c.length=y'.size∧∀j u,c[j]? = some u->w.cell? ((a.add (i.1*P.cellsOf e)).add j)=some u)∧okV y' v:=fun i=>by have hi:=hat i.1 i.2;have:∃z,elems[i.1]? = some z:=⟨_,zV (by rw[hel];exact i.2)⟩;obtain⟨z,hz⟩:=this;rw[hz]at hi;obtain⟨c,hc1,hc2⟩:=Option.bind_eq_some_iff.1 hi;obtain⟨v,hv1,hv2⟩:=IV m e y' n' c z h1 hc2;exact⟨v,⟨c,hv1,atE hv1,(afE hc1).2⟩,hv2⟩
     refine⟨List.ofFn fun i=>Classical.choose (each i),⟨some a,cap,by simp,by simp;omega,fun hne=>?_⟩,by simp;omega,fun v hv=>?_⟩
     ·have hlen:0<len:=by
       rcases Nat.eq_zero_or_pos len with h0 | h0
       ·subst h0;simp at hne
       ·exact h0
      obtain⟨⟨c,_,hcl,hcc⟩,_⟩:=Classical.choose_spec (each ⟨0,hlen⟩);have hpos:0<c.length:=by have:=hc.2;omega
      have h0:=VQ (hcc 0 c[0] (zV hpos));rw[show (⟨0,hlen⟩:Fin len).1*P.cellsOf e=0 from Nat.zero_mul _,add_zero,add_zero]at h0;obtain⟨b,o,s⟩:=a;obtain⟨hs,hb⟩:=h0;have hs:s=none:=hs;subst hs;refine⟨b,o,rfl,fun i x hi=>?_⟩;have hil:i<len:=by have:=(List.getElem?_eq_some_iff.1 hi).1;simpa using this
      have hxe:x=Classical.choose (each ⟨i,hil⟩):=by rw[List.getElem?_ofFn,dif_pos hil]at hi;exact (Option.some.inj hi).symm
      obtain⟨⟨c,hc1,_,hc3⟩,_⟩:=Classical.choose_spec (each ⟨i,hil⟩);subst hxe;refine⟨hb,by simp,c,hc1,fun j v hj=>?_⟩;have:=hc3 j v hj;rw[jc,<- hc.1];rw[add_plain,add_plain]at this;exact this
     ·obtain⟨i,rfl⟩:=List.mem_ofFn.1 hv
      exact (Classical.choose_spec (each i)).2
   ·cases h
  ·rename_i fs ht
   obtain⟨l,h1,h⟩:=Option.bind_eq_some_iff.1 h;split at h
   ·rename_i hc
    cases h
    obtain⟨xs,n',_,_,hl,hxl,hf⟩:=DataW.trod_struct ht hx;refine atF l ?_ (by rw[hl,hc]);refine adl (fun t y n c x h1 h2=>IV m t y n c x h1 h2) n' fs.toList 0 l h1 fun f hfm=>?_;obtain⟨i,hi,rfl⟩:=List.getElem_of_mem hfm;have hi':i<fs.size:=by simpa using hi
    have:=hf i fs[i] (Array.getElem?_eq_getElem hi');rw[zV (by omega)]at this;exact⟨_,this⟩
   ·cases h
  ·cases h
theorem atG{t:TypeId}{y:Ty}{m:Nat}{v:Value}{d:DataW H}{ps:List MemPlace}{r:Reach}{b':Nat}{w':World}(hd:dty P (m+1) t=some y)(ho:Value.okWide P w' r b' t v)(h:DataW.Trod enc P w base sp held t v d ps):∃x:Vl y,Den [] [] w (.d y x) v∧okV y x:=by
 obtain⟨n,hn⟩:=h;obtain⟨x,h1,h2⟩:=IV (m+1) t y n _ _ hd hn;refine⟨x,⟨v.cells.toList,h1,?_⟩,h2⟩;have one:∀u:Value,v=u->u.cells = #[u]->y.agg=false->v=(rp y).val v.cells.toList:=fun u e hc ha=>by subst e;simp[Rp.val,iQ,ha,hc]
 unfold dty at hd;split at hd
 ·rename_i k ht
  cases hd
  obtain⟨z,rfl⟩:=Go.WideShapes.okWide_int ht ho;exact one _ rfl rfl rfl
 ·rename_i ht
  cases hd
  obtain⟨b,hb,_⟩:=DataW.trod_bool ht hn;have:∃b,v = .bool b:=by simp only[Value.okWide,ht,Cell.okWide]at ho;cases v<;>simp_all[Cell.ok]
  obtain⟨b,rfl⟩:=this;exact one _ rfl rfl rfl
 ·rename_i ht
  cases hd
  obtain⟨s,rfl⟩:=Go.WideShapes.okWide_string ht ho;exact one _ rfl rfl rfl
 ·rename_i e ht
  obtain⟨y',h3,hd⟩:=Option.bind_eq_some_iff.1 hd;split at hd
  ·cases hd
   obtain⟨a,len,cap,rfl⟩:=Go.WideShapes.okWide_slice ht ho;exact one _ rfl rfl rfl
  ·cases hd
 ·rename_i fs ht
  obtain⟨l,h3,hd⟩:=Option.bind_eq_some_iff.1 hd;split at hd
  ·cases hd
   simp only[Value.okWide,ht]at ho;obtain⟨cs,rfl,_,_⟩:=ho
   have ha:(u6 l).agg=true:=by
    match l with
    | []=>rfl
    | [a]=>rfl
    | a::b::q=>rfl
   simp[Rp.val,iQ,ha,Value.cells]
  ·cases hd
 ·cases hd
end
end Rw
end
noncomputable section
namespace Rw
open Go Ev Sx Go.RowKit
theorem afF{W W':World}(h:Blw (Bo [] [] W) W W'):Below W.heap.size W W' :=
 ⟨h.os,h.tape,h.output,h.size,fun k hk=>h.block k hk (by
  rintro (h | h)
  ·cases h
  ·omega)⟩
theorem aE8(W:World):LOk (Bo [] [] W) (lx [] []) [] W:=⟨.nil,fun k h=>(by cases h),fun k h=>(by cases h),fun k h=>.inr h,fun k h=>(by cases h)⟩
theorem adn{P:Program}{f:FuncId}{ts:List TS}{ps:List Ty}{m:As ps->Option (Bool×Unit)}(h:au P (fun _=>True) f ⟨⟨ts,[],ps,[.d .bool],[],0,[.bool]⟩,m⟩){x:As ps}(hm:m x=some (true,())){ss:List SV}(hA:fA ts [] (sP ps x)=some (ss,[])){vs:List Value}{W:World}(hd:DenL [] [] W ss vs) :
  Calls P f vs.toArray W (fun e W'=>∃v,e = .returned v∧v = .bool true∧Below W.heap.size W W'):=by
 refine (h [] W [] x (true,()) ss [] vs hm hA rfl (fun _ _=>trivial) (aE8 W) (fun e he=>by cases he) hd).mono fun e w' he=>?_;obtain⟨us,rfl,pl',rr,own',h1,_,_,h4,_,_,h7⟩:=he;have h1:some ([SV.d .bool true],([]:List (Nat×Ent)))=some (rr,own'):=h1;cases h1;obtain⟨v,q,rfl,h8,h9⟩:=h7;cases h9;exact⟨_,rfl,mZ h8,afF h4⟩
def okA:(ps:List Ty)->As ps->Prop
 | [],_=>True
 | a::r,x=>okV a x.1∧okA r x.2
def dS:(ps:List Ty)->As ps->List SV
 | [],_=>[]
 | a::r,x=>.d a x.1::dS r x.2
theorem atH:∀(ps:List Ty) (x:As ps),fL (ps.map TS.d) (sP ps x)=some (dS ps x,[])
 | [],_=>rfl
 | a::r,x=>by show (fS (.d a) (⟨a,x.1⟩::sP r x.2)).bind _=_;unfold fS;simp only[qR,Option.map_some,zD];rw[atH r x.2];rfl
theorem aE9(ps:List Ty)(x:As ps):fA (ps.map TS.d) [] (sP ps x)=some (dS ps x,[]):=by unfold fA;rw[atH,zD];rfl
def afG(P:Program):List TypeId->Option (List Ty)
 | []=>some []
 | t::r=>(dty P 13 t).bind fun y=>(afG P r).map fun q=>y::q
theorem TT{P:Program}{H:Type}{enc:TypeId×Value->H}{W:World}{b0:Nat}{sp:Nat->Bool}{held:Bool}:∀{ts:List TypeId} {ps:List Ty} {vs:List Value} {ds:List (DataW H)} {p:List MemPlace},afG P ts=some ps ->
  (∀(j:Nat) t v,ts[j]? = some t->vs[j]? = some v->∃r b w',Value.okWide P w' r b t v)->DataW.TrodAll enc P W b0 sp held ts vs ds p->∃x:As ps,okA ps x∧DenL [] [] W (dS ps x) vs
 | [],ps,vs,ds,p,h,_,hA=>by
  cases h
  cases vs with
  | nil=>exact⟨(),trivial,rfl⟩
  | cons v vs=>cases ds<;>exact absurd hA (by simp[DataW.TrodAll])
 | t::ts,ps,vs,ds,p,h,ho,hA=>by
  obtain⟨y,h1,h⟩:=Option.bind_eq_some_iff.1 h;obtain⟨q,h2,rfl⟩:=Option.map_eq_some_iff.1 h
  match vs,ds,hA with
  | v::vs,d::ds,hA =>
   obtain⟨p1,p2,h3,h4,_⟩:=hA;obtain⟨r,b,w',h5⟩:=ho 0 t v rfl rfl;obtain⟨x,hx1,hx2⟩:=atG h1 h5 h3;obtain⟨xs,hy1,hy2⟩:=TT h2 (fun j t v ht hv=>ho (j+1) t v ht hv) h4;exact⟨(x,xs),⟨hx2,hy1⟩,v,vs,rfl,hx1,hy2⟩
  | [],_,hA=>exact absurd hA (by simp[DataW.TrodAll])
  | _::_,[],hA=>exact absurd hA (by simp[DataW.TrodAll])
theorem asi{P:Program}{f:FuncId}{ps:List Ty}{m:As ps->Option (Bool×Unit)}(h:au P (fun _=>True) f ⟨⟨ps.map TS.d,[],ps,[.d .bool],[],0,[.bool]⟩,m⟩)(law:∀x,okA ps x->m x=some (true,()))
  {ts:Array TypeId} (ht:afG P ts.toList=some ps) {H:Type} {enc:TypeId×Value->H} {W:World} {b0:Nat} {sp:Nat->Bool} {held:Bool} {args:Array Value} {ds:List (DataW H)} {p:List MemPlace}
  (hval:∀(j:Nat) t v,ts[j]? = some t->args[j]? = some v->∃r b w',Value.okWide P w' r b t v) (hA:DataW.TrodAll enc P W b0 sp held ts.toList args.toList ds p) :
  Calls P f args W (fun e W'=>∃v,e = .returned v∧v = .bool true∧Below W.heap.size W W'):=by
 obtain⟨x,h1,h2⟩:=TT ht (fun j t v h3 h4=>hval j t v (by simpa using h3) (by simpa using h4)) hA;have:=adn h (law x h1) (aE9 ps x) h2;simpa using this
end Rw
end
noncomputable section
namespace Go.Proofs.Lx
open Go Ev Sx
abbrev bn:=Int×List Int
abbrev nZ:=Int×List Bool×List bn
abbrev TLs:=Int×Int
abbrev TAg:=List Int×TLs×Int×Int×Int×nZ×Int
abbrev TSl:=Int×Int×TAg×List Bool
abbrev zSt:nZ:=(0,[false,false,false,false,false,false,false,false],[(0,[]),(0,[]),(0,[]),(0,[]),(0,[]),(0,[]),(0,[]),(0,[])])
abbrev BR:TAg:=([],(0,0),0,0,0,zSt,0)
abbrev zSl:TSl:=(0,0,BR,[])
abbrev jT(a:TAg):TAg:=(a.1,a.2.1,a.2.2.1,a.2.2.2.1,a.2.2.2.2.1,(a.2.2.2.2.2.1.1,[a.2.2.2.2.2.1.2.1.getD 0 false,a.2.2.2.2.2.1.2.1.getD 1 false,a.2.2.2.2.2.1.2.1.getD 2 false,a.2.2.2.2.2.1.2.1.getD 3 false,a.2.2.2.2.2.1.2.1.getD 4 false,a.2.2.2.2.2.1.2.1.getD 5 false,a.2.2.2.2.2.1.2.1.getD 6 false,a.2.2.2.2.2.1.2.1.getD 7 false],[a.2.2.2.2.2.1.2.2.getD 0 (0,[]),a.2.2.2.2.2.1.2.2.getD 1 (0,[]),a.2.2.2.2.2.1.2.2.getD 2 (0,[]),a.2.2.2.2.2.1.2.2.getD 3 (0,[]),a.2.2.2.2.2.1.2.2.getD 4 (0,[]),a.2.2.2.2.2.1.2.2.getD 5 (0,[]),a.2.2.2.2.2.1.2.2.getD 6 (0,[]),a.2.2.2.2.2.1.2.2.getD 7 (0,[])]),a.2.2.2.2.2.2)
end Go.Proofs.Lx
end
noncomputable section
namespace Go.Proofs.Lx
open Go Ev Sx
abbrev aFa:=Int×Int×Int×Int×List Int×List Bool
abbrev TPo:=Int×Int×Int×Int×Bool×aFa×Int×Int×Int
abbrev TTk:=TPo×Int×Int×List bn×Int×Int×Int×Int×Int
@[reducible] def aB:Ty:=.sl (.int .u16)
@[reducible] def dY:Ty:=.pr (.int .i64) aB
@[reducible] def gD(t:TTk)(r:List SV):List SV :=
 .d (.int .u8) t.1.1::.d (.int .u8) t.1.2.1::.d (.int .i64) t.1.2.2.1::.d (.int .i64) t.1.2.2.2.1::.d .bool t.1.2.2.2.2.1::.d (.int .u8) t.1.2.2.2.2.2.1.1::.d (.int .u16) t.1.2.2.2.2.2.1.2.1::.d (.int .u16) t.1.2.2.2.2.2.1.2.2.1::.d (.int .u16) t.1.2.2.2.2.2.1.2.2.2.1::.d aB t.1.2.2.2.2.2.1.2.2.2.2.1::.d (.sl .bool) t.1.2.2.2.2.2.1.2.2.2.2.2::.d (.int .u16) t.1.2.2.2.2.2.2.1::.d (.int .i64) t.1.2.2.2.2.2.2.2.1::.d (.int .i64) t.1.2.2.2.2.2.2.2.2 ::
 .d (.int .u16) t.2.1::.d (.int .u32) t.2.2.1::.d (.sl dY) t.2.2.2.1::.d (.int .u8) t.2.2.2.2.1::.d (.int .u8) t.2.2.2.2.2.1::.d (.int .i64) t.2.2.2.2.2.2.1::.d (.int .i64) t.2.2.2.2.2.2.2.1::.d (.int .u8) t.2.2.2.2.2.2.2.2::r
@[reducible] def slC(s:TSl)(r:List SV):List SV :=
 .d (.int .u8) s.1::.d (.int .u8) s.2.1::.d aB s.2.2.1.1::.d (.int .u16) s.2.2.1.2.1.1::.d (.int .i64) s.2.2.1.2.1.2::.d (.int .u8) s.2.2.1.2.2.1::.d (.int .u32) s.2.2.1.2.2.2.1::.d (.int .u32) s.2.2.1.2.2.2.2.1::.d (.int .u32) s.2.2.1.2.2.2.2.2.1.1 ::
 .d .bool (zJ s.2.2.1.2.2.2.2.2.1.2.1 0 false)::.d .bool (zJ s.2.2.1.2.2.2.2.2.1.2.1 1 false)::.d .bool (zJ s.2.2.1.2.2.2.2.2.1.2.1 2 false)::.d .bool (zJ s.2.2.1.2.2.2.2.2.1.2.1 3 false)::.d .bool (zJ s.2.2.1.2.2.2.2.2.1.2.1 4 false)::.d .bool (zJ s.2.2.1.2.2.2.2.2.1.2.1 5 false)::.d .bool (zJ s.2.2.1.2.2.2.2.2.1.2.1 6 false)::.d .bool (zJ s.2.2.1.2.2.2.2.2.1.2.1 7 false) ::
 .d (.int .i64) (zJ s.2.2.1.2.2.2.2.2.1.2.2 0 (0,[])).1::.d aB (zJ s.2.2.1.2.2.2.2.2.1.2.2 0 (0,[])).2::.d (.int .i64) (zJ s.2.2.1.2.2.2.2.2.1.2.2 1 (0,[])).1::.d aB (zJ s.2.2.1.2.2.2.2.2.1.2.2 1 (0,[])).2 ::
 .d (.int .i64) (zJ s.2.2.1.2.2.2.2.2.1.2.2 2 (0,[])).1::.d aB (zJ s.2.2.1.2.2.2.2.2.1.2.2 2 (0,[])).2::.d (.int .i64) (zJ s.2.2.1.2.2.2.2.2.1.2.2 3 (0,[])).1::.d aB (zJ s.2.2.1.2.2.2.2.2.1.2.2 3 (0,[])).2 ::
 .d (.int .i64) (zJ s.2.2.1.2.2.2.2.2.1.2.2 4 (0,[])).1::.d aB (zJ s.2.2.1.2.2.2.2.2.1.2.2 4 (0,[])).2::.d (.int .i64) (zJ s.2.2.1.2.2.2.2.2.1.2.2 5 (0,[])).1::.d aB (zJ s.2.2.1.2.2.2.2.2.1.2.2 5 (0,[])).2 ::
 .d (.int .i64) (zJ s.2.2.1.2.2.2.2.2.1.2.2 6 (0,[])).1::.d aB (zJ s.2.2.1.2.2.2.2.2.1.2.2 6 (0,[])).2::.d (.int .i64) (zJ s.2.2.1.2.2.2.2.2.1.2.2 7 (0,[])).1::.d aB (zJ s.2.2.1.2.2.2.2.2.1.2.2 7 (0,[])).2::.d (.int .i64) s.2.2.1.2.2.2.2.2.2::.d (.sl .bool) s.2.2.2::r
@[reducible] def gW(s:TSl):TSl:=(s.1,s.2.1,jT s.2.2.1,s.2.2.2)
@[reducible] def afH:Ty:=.pr (.int .i64) aB
@[reducible] def eE:Ty:=.pr (.int .u16) (.pr aB (.sl .bool))
@[reducible] def dC:Ty:=.pr (.int .u16) eE
@[reducible] def cP:Ty:=.pr (.int .u16) dC
@[reducible] def dP:Ty:=.pr (.int .i64) (.int .i64)
@[reducible] def bZ:Ty:=.pr (.pr (.int .u8) cP) (.pr (.int .u16) dP)
@[reducible] def bU:Ty:=.pr .bool bZ
@[reducible] def bN:Ty:=.pr (.int .i64) bU
@[reducible] def bH:Ty:=.pr (.int .i64) bN
@[reducible] def bG:Ty:=.pr (.int .u8) bH
@[reducible] def bC:Ty:=.pr (.int .u8) bG
@[reducible] def fH:Ty:=.pr (.int .i64) (.int .u8)
@[reducible] def dQ:Ty:=.pr (.int .i64) fH
@[reducible] def cZ:Ty:=.pr (.int .u8) dQ
@[reducible] def cJ:Ty:=.pr (.int .u8) cZ
@[reducible] def aFb:Ty:=.pr bC (.pr (.int .u16) (.pr (.int .u32) (.pr (.sl afH) cJ)))
@[reducible] def bK:Ty:=.pr (.int .u16) (.int .i64)
@[reducible] def aFc:Ty:=.pr (.int .u8) (.pr (.int .u8) (.pr (.pr aB (.pr bK (.pr (.int .u8) (.pr (.int .u32) (.pr (.int .u32) (.pr (.pr (.int .u32) (.pr (.ar 8 .bool) (.ar 8 afH))) (.int .i64))))))) (.sl .bool)))
@[reducible] def prG(k:Nat):TE:=.bsg 48 [.d aFb,.d aFc,.s (.row k),.d (.int .u32),.d (.int .u32),.d (.sl (.sl afH))]
end Go.Proofs.Lx
end
noncomputable section
open Go Go.Proofs Ev Sx
set_option maxRecDepth 100000
namespace Go.Proofs.Lx
abbrev lC:Ty:=cP
@[reducible] def bA:Ty:=.pr (.int .u8) lC
abbrev sW:Ty:=(.pr (.int .u8) (.pr (.int .i64) (.pr (.int .i64) (.pr .bool (.pr bA (.pr (.int .u16) dP))))))
abbrev d9:Ty:=dY
abbrev wC:Ty:=(.pr bK (.pr (.int .u8) (.pr (.int .u32) (.pr (.int .u32) (.pr (.pr (.int .u32) (.pr (.ar 8 .bool) (.ar 8 d9))) (.int .i64))))))
abbrev nE:Ty:=(.pr (.int .u16) (.pr (.int .u32) (.pr (.sl d9) cJ)))
abbrev xC:Type:=(Int×Int×Int×Int×List Int×List Bool)
abbrev Oi:Type:=(Int×Int×Int×Int×Bool×xC×Int×Int×Int)
abbrev qp:Type:=(Int×List Bool×List (Int×List Int))
abbrev kL:Type:=(List Int×(Int×Int)×Int×Int×Int×qp×Int)
abbrev og:Ty:=(.pr (.int .u8) (.pr (.sl .bool) (.pr aB (.pr (.int .u16) (.int .u16)))))
abbrev D5:Ty:=(.pr (.int .i64) (.pr .bool (.pr .bool .bool)))
@[reducible] def bT:Ty:=.pr (.int .i64) D5
abbrev gI:Ty:=(.sl bT)
abbrev dz:Type:=(Int×Int×Bool×Bool×Bool)
abbrev lN:Type:=(Int×Int×Int×Int×Bool×(Int×Int×Int×Int×Unit×Unit)×Int×Int×Int)
abbrev D6:Ty:=(.pr (.int .u8) (.pr (.int .u32) (.pr (.int .u16) (.int .u32))))
abbrev aF1:Type:=(Int×Int×List Bool×List Int×Int×Int)
@[reducible] def aL:Ty:=.sl (.int .u8)
abbrev iy:Ty:=(.pr .bool aL)
abbrev D7:Ty:=(.pr (.sl .bool) (.pr aB aB))
abbrev Me:Type:=(Int×Int×(Unit×(Int×Int)×Int×Int×Int×(Int×List Bool×List (Int×Unit))×Int)×Unit)
abbrev aF2:Type:=(List Bool×List Bool×List Int×List Int)
abbrev D8:Ty:=(.pr (.int .u8) aL)
abbrev GY:Ty:=(.pr (.int .u16) (.pr (.int .u32) (.int .u32)))
abbrev vo:Ty:=(.pr (.int .i64) (.pr (.int .i64) (.pr .bool .bool)))
abbrev jH:Type:=Oi×Int×Int×List (Int×List Int)×Int×Int×Int×Int×Int
abbrev jP:Type:=Int×Int×kL×List Bool
@[reducible] def aJ:List Ty:=[.sl (.int .u16)]
@[reducible] def ao3:Sh:=⟨[.d aB],[],aJ,[.d aB],[],0,aJ⟩
@[reducible] def bY:Type:=As aJ
def VR(l:List Int):Option bY :=
 some (List.take 64 l++List.drop (0+zG (List.take 64 l)) (zE 64 0),())
def Mf(x:As aJ):Option bY:=VR x.1
theorem avJ:au Tryz.prog (fun _=>True) 17 ⟨ao3,Mf⟩:=ctn bq 6 fun J x=>by kernel_rfl
@[reducible] def eH:List Ty:=[.int .u8,.int .u8,.int .i64,.int .i64]
@[reducible] def avK:Sh:=⟨[.d (.int .u8),.d (.int .u8),.d (.int .i64),.d (.int .i64)],[],eH,[.d (.bool)],[],0,[.bool]⟩
@[reducible] def aF:Type:=As [.bool]
def afI(unit link timeout retries:Int):Option aF :=
 if ge unit 1=true then if le unit 247=true then if eqi link 1=true then if ge timeout 1=true then if le timeout 100000=true then if ge retries 0=true then some (le retries 1000,()) else some (false,()) else some (false,()) else some (false,()) else if eqi link 2=true then if ge timeout 1=true then if le timeout 100000=true then if ge retries 0=true then some (le retries 1000,()) else some (false,()) else some (false,()) else some (false,()) else some (false,()) else some (false,()) else some (false,())
def VT(x:As eH):Option aF:=afI x.1 x.2.1 x.2.2.1 x.2.2.2.1
theorem avL:au Tryz.prog (fun _=>True) 122 ⟨avK,VT⟩:=ctn bq 6 fun J x=>by kernel_rfl
@[reducible] def aC:Ty:=.pr (.int .u8) sW
@[reducible] def ao4:Sh:=⟨[.d (.int .u8),.d (.int .u8),.d (.int .i64),.d (.int .i64)],[],eH,[.d aC,.d (.int .i64)],[],0,[.pr (.int .u8) sW,.int .i64]⟩
def afJ(unit link timeout retries:Int):Option (As [.pr (.int .u8) sW,.int .i64]) :=
 zC (VT (unit,link,timeout,retries,())) fun y=>if (!y.1)=true then some ((0,0,0,0,false,(0,0,0,0,[],[]),0,0,0),2,()) else some ((unit,link,timeout,retries,false,(0,0,0,0,[],[]),0,0,0),0,())
def Mg(x:As eH):Option (As [.pr (.int .u8) sW,.int .i64]):=afJ x.1 x.2.1 x.2.2.1 x.2.2.2.1
theorem avM:au Tryz.prog (fun _=>True) 67 ⟨ao4,Mg⟩:=ctn (aj avL bq) 6 fun J x=>by kernel_rfl
@[reducible] def aX:Ty:=.pr aC nE
@[reducible] def eS:List Ty:=[.pr aC nE,.int .i64]
@[reducible] def VU:Sh:=⟨[.d (.int .u8),.d (.int .u8),.d (.int .u16),.d (.int .i64),.d (.int .i64)],[],[.int .u8,.int .u8,.int .u16,.int .i64,.int .i64],[.d aX,.d (.int .i64)],[],0,eS⟩
def afK:Env:=(cts [(67,(⟨ao4,Mg⟩:Ct))])
def afL:List (Nat×Hint):=[(14,⟨[],[2,10,12,27]⟩)]
@[reducible] def zE0:Type:=Int×Int×Int×Int×Bool×xC×Int×Int×Int
def VW(owner:Int)(t27:Bool)(t10:lN×Int×Int×Unit×Int×Int×Int×Int×Int)(p:zE0):St:=⟨[(2,d6 owner),(10,.pb 0 0),(12,.pb 1 0),(27,dB t27)],32,[],[(0,.box 33 [d8 t10.1.1,d8 t10.1.2.1,dI t10.1.2.2.1,dI t10.1.2.2.2.1,dB t10.1.2.2.2.2.1,d8 t10.1.2.2.2.2.2.1.1,d6 t10.1.2.2.2.2.2.1.2.1,d6 t10.1.2.2.2.2.2.1.2.2.1,d6 t10.1.2.2.2.2.2.1.2.2.2.1,.k (zK zH 0 0),.k (zK zH 0 0),d6 t10.1.2.2.2.2.2.2.1,dI t10.1.2.2.2.2.2.2.2.1,dI t10.1.2.2.2.2.2.2.2.2,d6 t10.2.1,d2 t10.2.2.1,.k (zK zH 0 0),d8 t10.2.2.2.2.1,d8 t10.2.2.2.2.2.1,dI t10.2.2.2.2.2.2.1,dI t10.2.2.2.2.2.2.2.1,d8 t10.2.2.2.2.2.2.2.2]),(1,.box 29 [d8 p.1,d8 p.2.1,dI p.2.2.1,dI p.2.2.2.1,dB p.2.2.2.2.1,d8 p.2.2.2.2.2.1.1,d6 p.2.2.2.2.2.1.2.1,d6 p.2.2.2.2.2.1.2.2.1,d6 p.2.2.2.2.2.1.2.2.2.1,dW p.2.2.2.2.2.1.2.2.2.2.1,.d (.sl .bool) p.2.2.2.2.2.1.2.2.2.2.2,d6 p.2.2.2.2.2.2.1,dI p.2.2.2.2.2.2.2.1,dI p.2.2.2.2.2.2.2.2])],2,[],0⟩
def ao5(owner:Int)(t27:Bool)(t10:lN×Int×Int×Unit×Int×Int×Int×Int×Int)(p:zE0):Option (As eS) :=
 if t27=true then some (((0,0,0,0,false,(0,0,0,0,[],[]),0,0,0),0,0,[],0,0,0,0,0),2,()) else some ((p,owner,0,[],0,0,0,0,0),0,())
def VX(j1:Int->Bool->lN×Int×Int×Unit×Int×Int×Int×Int×Int->Int×Int×Int×Int×Bool×xC×Int×Int×Int->Option (As eS))(unit link owner timeout retries:Int):Option (As eS) :=
 zC (Mg (unit,link,timeout,retries,())) fun y=>if nei y.2.1 0=true then j1 owner true ((0,0,0,0,false,(0,0,0,0,(),()),0,0,0),0,0,(),0,0,0,0,0) y.1 else j1 owner (eqi owner 0) ((0,0,0,0,false,(0,0,0,0,(),()),0,0,0),0,0,(),0,0,0,0,0) y.1
def afM:=ao5
def VY(x:As [.int .u8,.int .u8,.int .u16,.int .i64,.int .i64]):Option (As eS):=VX afM x.1 x.2.1 x.2.2.1 x.2.2.2.1 x.2.2.2.2.1
@[reducible] def zp(e:Env)(h:List (Nat×Hint))(n:Nat)(s:Sh):=pfn Tryz.prog e 6 18446744073709551616 (Ev.get h) n s
@[reducible] def zj(e:Env)(h:List (Nat×Hint))(n:Nat)(s:Sh):=jfn Tryz.prog e 6 18446744073709551616 (Ev.get h) n s
abbrev pEd:=zp afK afL 28 VU
theorem avN{J a b c d}:pEd J 14 [] (VW a b c d)=ao5 a b c d:=by kernel_rfl
abbrev pEc:=zj afK afL 28 VU
theorem avO:C (pEc 14 []) VW=afM:=gNC (by decide) fun _=>avN
theorem avP:au Tryz.prog (fun _=>True) 28 ⟨VU,VY⟩:=zcc (env:=afK) (d:=6) (hs:=Ev.get afL) (aj avM bq) (fun J x=>VX (C (J 14 []) VW) x.1 x.2.1 x.2.2.1 x.2.2.2.1 x.2.2.2.2.1) (fun _ _=>by kernel_rfl) fun _=>by rw[avO]<;>rfl
@[reducible] def avQ:Sh:=⟨[.d (.int .u8),.d (.int .u8)],[],[.int .u8,.int .u8],[.d (.bool)],[],0,[.bool]⟩
def afN(unit link:Int):Option aF :=
 if ge unit 1=true then if le unit 247=true then if eqi link 1=true then some (true,()) else some (eqi link 2,()) else some (false,()) else some (false,())
def VZ(x:As [.int .u8,.int .u8]):Option aF:=afN x.1 x.2.1
theorem avR:au Tryz.prog (fun _=>True) 86 ⟨avQ,VZ⟩:=ctn bq 6 fun J x=>by kernel_rfl
@[reducible] def IW:Sh:=⟨[.d aB],[],aJ,[.d aB],[],0,aJ⟩
def afO(s:List Int):Option bY :=
 if eqi (zF (zG s)) 0=true then amb (ay IW.rs) [some ([],()),need (small (0+zG s)) (some (s,()))] else need (small (0+zG s)) (some (s,()))
def nR(x:As aJ):Option bY:=afO x.1
theorem BS:au Tryz.prog (fun _=>True) 45 ⟨IW,nR⟩:=ctn bq 6 fun J x=>by kernel_rfl
@[reducible] def V2:Sh:=⟨[.d aB],[],aJ,[.row 0],[(0,.row (.int .u16) 25)],1,aJ⟩
def afP(s:List Int):Option bY :=
 if eqi (zF (zG s)) 0=true then amb (ay V2.rs) [some ([],()),need (small (0+zG s)) (some (s,()))] else need (small (0+zG s)) (some (s,()))
def Fa(x:As aJ):Option bY:=afP x.1
theorem atI:au Tryz.prog (fun _=>True) 45 ⟨V2,Fa⟩:=ctn bq 6 fun J x=>by kernel_rfl
@[reducible] def bW:List Ty:=[.sl (.int .u16),.int .i64]
@[reducible] def aH:Ty:=.pr aB wC
@[reducible] def cK:List Ty:=[.pr aB wC,.int .i64]
@[reducible] def avS:Sh:=⟨[.d aB,.d (.int .i64)],[],bW,[.d aH,.d (.int .i64)],[],0,cK⟩
def afQ(bank:List Int)(ticks:Int):Option (As cK) :=
 if nei (zF (zG bank)) 64=true then some (BR,21,()) else if lt ticks 1=true then some (BR,2,()) else zC (nR (bank,())) fun y=>some ((y.1,(0,0),0,0,0,zSt,ticks),0,())
def V3(x:As bW):Option (As cK):=afQ x.1 x.2.1
theorem avT:au Tryz.prog (fun _=>True) 92 ⟨avS,V3⟩:=ctn (aj BS bq) 6 fun J x=>by kernel_rfl
@[reducible] def aD:Ty:=.pr aH (.sl .bool)
@[reducible] def aA:Ty:=.pr (.int .u8) aD
@[reducible] def bB:Ty:=.pr (.int .u8) aA
@[reducible] def ao6:Sh:=⟨[.d (.int .u8),.d (.int .u8),.d aB,.d (.int .i64)],[],[.int .u8,.int .u8,.sl (.int .u16),.int .i64],[.d bB,.d (.int .i64)],[],0,[.pr (.int .u8) aA,.int .i64]⟩
def afR(unit link:Int)(bank:List Int)(ticks:Int):Option (As [.pr (.int .u8) aA,.int .i64]) :=
 zC (VZ (unit,link,())) fun y=>if (!y.1)=true then some (zSl,2,()) else zC (V3 (bank,ticks,())) fun y=>if nei y.2.1 0=true then some (zSl,y.2.1,()) else some ((unit,link,(jT y.1),[false,false,false,false,false,false,false,false,false,false,false,false,false,false,false,false]),0,())
def V4(x:As [.int .u8,.int .u8,.sl (.int .u16),.int .i64]):Option (As [.pr (.int .u8) aA,.int .i64]):=afR x.1 x.2.1 x.2.2.1 x.2.2.2.1
theorem avU:au Tryz.prog (fun _=>True) 42 ⟨ao6,V4⟩:=ctn (aj avR (aj avT bq)) 6 fun J x=>by kernel_rfl
@[reducible] def V5:Sh:=⟨[.d (.sl d9),.d (.int .i64)],[],[.sl d9,.int .i64],[.d (.sl d9)],[],0,[.sl d9]⟩
def afS:Env:=(cts [])
def afT:List (Nat×Hint):=[(58,⟨[.row 5 38],[5,14,15,16]⟩),(7475,⟨[],[5,7,8,14,15,16]⟩)]
@[reducible] def zE1:Type:=List (Int×List Int)
def IX(t14:zE1)(t15 t16:Int)(out:zE1):St:=⟨[(5,.row 0),(14,.d (.sl d9) t14),(15,dI t15),(16,dI t16)],45,[],[(0,.row d9 38 out)],1,[],0⟩
def V6(at':Int)(t14:zE1)(t15 t16:Int)(out:zE1)(x:Int×List Int):St:=⟨[(5,.row 0),(7,.pb 1 0),(8,dI at'),(14,.d (.sl d9) t14),(15,dI t15),(16,dI t16)],45,[],[(0,.row d9 38 out),(1,.box 38 [dI x.1,dW x.2])],2,[],0⟩
@[reducible] def cX:Type:=As [.sl d9]
@[reducible] def zE2:Type:=List (Int×List Int)->Int->Int->List (Int×List Int)->Option cX
def IY(j2:Int->List (Int×List Int)->Int->Int->List (Int×List Int)->Int×List Int->Option cX)(self1:zE2)(t14:zE1)(t15 t16:Int)(out:zE1):Option cX :=
 if lt t16 t15=true then zC (at? t14 t16) fun y=>if lt (rem y.1 64) 0=true then j2 (add .i64 (rem y.1 64) 64) t14 t15 t16 out y else j2 (rem y.1 64) t14 t15 t16 out y else some (out,())
def V7(self1:zE2)(at':Int)(t14:zE1)(t15 t16:Int)(out:zE1)(x:Int×List Int):Option cX :=
 zC (cut x.2 0 (if lt (Sx.sub .i64 64 at') (if lt 14 (zF (zG x.2))=true then 14 else zF (zG x.2))=true then Sx.sub .i64 64 at' else if lt 14 (zF (zG x.2))=true then 14 else zF (zG x.2))) fun y=>need (small (0+zG y)) (need (small (zG out+Nat.succ 0)) (self1 t14 t15 (add .i64 t16 1) (out++[(at',y)])))
def V8(j1:zE2)(l:zE1)(most:Int):Option cX :=
 zC (cut l 0 (if lt most (zF (zG l))=true then most else zF (zG l))) fun y=>j1 y (zF (zG y)) 0 []
def Oj(u1:zE2):=V7 u1
def IZ(t14:zE1)(t15 t16:Int)(out:zE1):Option cX :=
 cu (fun self s=>IY (Oj (fun t14 t15 t16 out=>self (t14,t15,t16,out))) (fun t14 t15 t16 out=>self (t14,t15,t16,out)) s.1 s.2.1 s.2.2.1 s.2.2.2) 18446744073709551616 (t14,t15,t16,out)
def Mh(x:As [.sl d9,.int .i64]):Option cX:=V8 IZ x.1 x.2.1
abbrev pBx:=zp afS afT 43 V5
theorem avV{J w1 a b c d e f}:pBx J 7475 [w1] (V6 a b c d e f)=V7 (C w1 IX) a b c d e f:=by kernel_rfl
theorem avW{J w1 a b c d}:pBx J 58 [w1] (IX a b c d)=IY (C (J 7475 [w1]) V6) (C w1 IX) a b c d:=by kernel_rfl
abbrev pBw:=zj afS afT 43 V5
theorem avX{w1}:C (pBw 7475 [w1]) V6=Oj (C w1 IX):=gNC (by decide) fun _=>avV
theorem avY:C (pBw 58 []) IX=IZ:=gLC (by decide) (by kernel_rfl) (fun _=>by unfold IZ;rfl) fun _ _=>avW.trans (by rw[avX]<;>kernel_rfl)
theorem avZ:au Tryz.prog (fun _=>True) 43 ⟨V5,Mh⟩:=zcc (env:=afS) (d:=6) (hs:=Ev.get afT) bq (fun J x=>V8 (C (J 58 []) IX) x.1 x.2.1) (fun _ _=>by kernel_rfl) fun _=>by rw[avY]<;>rfl
@[reducible] def cE:Ty:=.sl (.sl d9)
@[reducible] def aT:List Ty:=[.pr aC nE,.pr (.int .u8) aA,.int .u32,.int .u32,.sl (.sl d9),.bool,.sl iy]
@[reducible] def Ol:Sh:=⟨[.d (.int .u8),.d (.int .u8),.d (.int .u8),.d aB,.d cE],[],[.int .u8,.int .u8,.int .u8,.sl (.int .u16),.sl (.sl d9)],[.agp [.inl aX,.inl bB,.inr 0,.inl (.int .u32),.inl (.int .u32),.inl cE],.d .bool],[(0,.que iy 63)],1,aT⟩
def afU:Env:=(cts [(1000048,Ev.iw),(9000046,Ev.iw),(9999999,Ev.iw),(17,(⟨ao3,Mf⟩:Ct)),(28,(⟨VU,VY⟩:Ct)),(42,(⟨ao6,V4⟩:Ct)),(43,(⟨V5,Mh⟩:Ct))])
def afV:List (Nat×Hint):=[(31,⟨[],[10,12,13,14,15,16,67,68,71,72,73,76,77,78]⟩),(250,⟨[.rwb 16 60 31],[10,12,13,14,15,16,49,50,51]⟩)]
@[reducible] def aG:Type:=List (Int×List Int)
@[reducible] def zE3:Type:=List aG
@[reducible] def zE4:Type:=(lN×Int×Int×Unit×Int×Int×Int×Int×Int)×Me×Unit×Int×Int×Unit
@[reducible] def zE5:Type:=List (Bool×List Int)
def V9(e s f:Int)(t49:zE3)(t50 t51:Int)(t10:zE4)(t:jH)(s_2:List (jP))(p:(jH)×(jP)×Unit×Int×Int×Unit)(o:zE5)(o_2:zE3):St:=⟨[(10,.pb 0 0),(12,.pb 1 0),(13,dI e),(14,.prw 2 s 35 0),(15,dI f),(16,.pb 3 0),(49,.d cE t49),(50,dI t50),(51,dI t51)],80,[],[(0,.box 48 [d8 t10.1.1.1,d8 t10.1.1.2.1,dI t10.1.1.2.2.1,dI t10.1.1.2.2.2.1,dB t10.1.1.2.2.2.2.1,d8 t10.1.1.2.2.2.2.2.1.1,d6 t10.1.1.2.2.2.2.2.1.2.1,d6 t10.1.1.2.2.2.2.2.1.2.2.1,d6 t10.1.1.2.2.2.2.2.1.2.2.2.1,.k (zK zH 0 0),.k (zK zH 0 0),d6 t10.1.1.2.2.2.2.2.2.1,dI t10.1.1.2.2.2.2.2.2.2.1,dI t10.1.1.2.2.2.2.2.2.2.2,d6 t10.1.2.1,d2 t10.1.2.2.1,.k (zK zH 0 0),d8 t10.1.2.2.2.2.1,d8 t10.1.2.2.2.2.2.1,dI t10.1.2.2.2.2.2.2.1,dI t10.1.2.2.2.2.2.2.2.1,d8 t10.1.2.2.2.2.2.2.2.2,d8 t10.2.1.1,d8 t10.2.1.2.1,.k (zK zH 0 0),d6 t10.2.1.2.2.1.2.1.1,dI t10.2.1.2.2.1.2.1.2,d8 t10.2.1.2.2.1.2.2.1,d2 t10.2.1.2.2.1.2.2.2.1,d2 t10.2.1.2.2.1.2.2.2.2.1,d2 t10.2.1.2.2.1.2.2.2.2.2.1.1,dB (zJ t10.2.1.2.2.1.2.2.2.2.2.1.2.1 0 false),dB (zJ t10.2.1.2.2.1.2.2.2.2.2.1.2.1 1 false),dB (zJ t10.2.1.2.2.1.2.2.2.2.2.1.2.1 2 false),dB (zJ t10.2.1.2.2.1.2.2.2.2.2.1.2.1 3 false),dB (zJ t10.2.1.2.2.1.2.2.2.2.2.1.2.1 4 false),dB (zJ t10.2.1.2.2.1.2.2.2.2.2.1.2.1 5 false),dB (zJ t10.2.1.2.2.1.2.2.2.2.2.1.2.1 6 false),dB (zJ t10.2.1.2.2.1.2.2.2.2.2.1.2.1 7 false),dI (zJ t10.2.1.2.2.1.2.2.2.2.2.1.2.2 0 (0,())).1,.k (zK zH 0 0),dI (zJ t10.2.1.2.2.1.2.2.2.2.2.1.2.2 1 (0,())).1,.k (zK zH 0 0),dI (zJ t10.2.1.2.2.1.2.2.2.2.2.1.2.2 2 (0,())).1,.k (zK zH 0 0),dI (zJ t10.2.1.2.2.1.2.2.2.2.2.1.2.2 3 (0,())).1,.k (zK zH 0 0),dI (zJ t10.2.1.2.2.1.2.2.2.2.2.1.2.2 4 (0,())).1,.k (zK zH 0 0),dI (zJ t10.2.1.2.2.1.2.2.2.2.2.1.2.2 5 (0,())).1,.k (zK zH 0 0),dI (zJ t10.2.1.2.2.1.2.2.2.2.2.1.2.2 6 (0,())).1,.k (zK zH 0 0),dI (zJ t10.2.1.2.2.1.2.2.2.2.2.1.2.2 7 (0,())).1,.k (zK zH 0 0),dI t10.2.1.2.2.1.2.2.2.2.2.2,.k (zK zH 0 0),.k (zK zH 0 0),d2 t10.2.2.2.1,d2 t10.2.2.2.2.1,.k (zK zH 0 0)]),(1,.box 33 (gD t [])),(2,.row bB 45 s_2),(3,.box 48 (gD p.1 (slC p.2.1 [.row 4,d2 p.2.2.2.1,d2 p.2.2.2.2.1,.row 5]))),(4,.que iy 63 o),(5,.row (.sl d9) 31 o_2)],6,[],0⟩
def afW(e s f:Int)(t10:zE4)(t:jH)(s_2:List (jP))(p:(jH)×(jP)×Unit×Int×Int×Unit)(o:zE5)(o_2:zE3):St:=⟨[(10,.pb 0 0),(12,.pb 1 0),(13,dI e),(14,.prw 2 s 35 0),(15,dI f),(16,.pb 3 0)],80,[],[(0,.box 48 [d8 t10.1.1.1,d8 t10.1.1.2.1,dI t10.1.1.2.2.1,dI t10.1.1.2.2.2.1,dB t10.1.1.2.2.2.2.1,d8 t10.1.1.2.2.2.2.2.1.1,d6 t10.1.1.2.2.2.2.2.1.2.1,d6 t10.1.1.2.2.2.2.2.1.2.2.1,d6 t10.1.1.2.2.2.2.2.1.2.2.2.1,.k (zK zH 0 0),.k (zK zH 0 0),d6 t10.1.1.2.2.2.2.2.2.1,dI t10.1.1.2.2.2.2.2.2.2.1,dI t10.1.1.2.2.2.2.2.2.2.2,d6 t10.1.2.1,d2 t10.1.2.2.1,.k (zK zH 0 0),d8 t10.1.2.2.2.2.1,d8 t10.1.2.2.2.2.2.1,dI t10.1.2.2.2.2.2.2.1,dI t10.1.2.2.2.2.2.2.2.1,d8 t10.1.2.2.2.2.2.2.2.2,d8 t10.2.1.1,d8 t10.2.1.2.1,.k (zK zH 0 0),d6 t10.2.1.2.2.1.2.1.1,dI t10.2.1.2.2.1.2.1.2,d8 t10.2.1.2.2.1.2.2.1,d2 t10.2.1.2.2.1.2.2.2.1,d2 t10.2.1.2.2.1.2.2.2.2.1,d2 t10.2.1.2.2.1.2.2.2.2.2.1.1,dB (zJ t10.2.1.2.2.1.2.2.2.2.2.1.2.1 0 false),dB (zJ t10.2.1.2.2.1.2.2.2.2.2.1.2.1 1 false),dB (zJ t10.2.1.2.2.1.2.2.2.2.2.1.2.1 2 false),dB (zJ t10.2.1.2.2.1.2.2.2.2.2.1.2.1 3 false),dB (zJ t10.2.1.2.2.1.2.2.2.2.2.1.2.1 4 false),dB (zJ t10.2.1.2.2.1.2.2.2.2.2.1.2.1 5 false),dB (zJ t10.2.1.2.2.1.2.2.2.2.2.1.2.1 6 false),dB (zJ t10.2.1.2.2.1.2.2.2.2.2.1.2.1 7 false),dI (zJ t10.2.1.2.2.1.2.2.2.2.2.1.2.2 0 (0,())).1,.k (zK zH 0 0),dI (zJ t10.2.1.2.2.1.2.2.2.2.2.1.2.2 1 (0,())).1,.k (zK zH 0 0),dI (zJ t10.2.1.2.2.1.2.2.2.2.2.1.2.2 2 (0,())).1,.k (zK zH 0 0),dI (zJ t10.2.1.2.2.1.2.2.2.2.2.1.2.2 3 (0,())).1,.k (zK zH 0 0),dI (zJ t10.2.1.2.2.1.2.2.2.2.2.1.2.2 4 (0,())).1,.k (zK zH 0 0),dI (zJ t10.2.1.2.2.1.2.2.2.2.2.1.2.2 5 (0,())).1,.k (zK zH 0 0),dI (zJ t10.2.1.2.2.1.2.2.2.2.2.1.2.2 6 (0,())).1,.k (zK zH 0 0),dI (zJ t10.2.1.2.2.1.2.2.2.2.2.1.2.2 7 (0,())).1,.k (zK zH 0 0),dI t10.2.1.2.2.1.2.2.2.2.2.2,.k (zK zH 0 0),.k (zK zH 0 0),d2 t10.2.2.2.1,d2 t10.2.2.2.2.1,.k (zK zH 0 0)]),(1,.box 33 (gD t [])),(2,.row bB 45 s_2),(3,.box 48 (gD p.1 (slC p.2.1 [.row 4,d2 p.2.2.2.1,d2 p.2.2.2.2.1,.row 5]))),(4,.que iy 63 o),(5,.row (.sl d9) 31 o_2)],6,[],0⟩
def I1(j2:Int->Int->Int->(lN×Int×Int×Unit×Int×Int×Int×Int×Int)×Me×Unit×Int×Int×Unit->jH->List (jP)->(jH)×(jP)×Unit×Int×Int×Unit->List (Bool×List Int)->List aG->Option (As aT))(self1:Int->Int->Int->List aG->Int->Int->(lN×Int×Int×Unit×Int×Int×Int×Int×Int)×Me×Unit×Int×Int×Unit->jH->List (jP)->(jH)×(jP)×Unit×Int×Int×Unit->List (Bool×List Int)->List aG->Option (As aT))(e s f:Int)(t49:zE3)(t50 t51:Int)(t10:zE4)(t:jH)(s_2:List (jP))(p:(jH)×(jP)×Unit×Int×Int×Unit)(o:zE5)(o_2:zE3):Option (As aT) :=
 if lt t51 t50=true then zC (at? t49 t51) fun y=>zC (Mh (y,4,())) fun y=>need (small (zG o_2+Nat.succ 0)) (self1 e s f t49 t50 (add .i64 t51 1) (((t10.1.1.1,t10.1.1.2.1,t10.1.1.2.2.1,t10.1.1.2.2.2.1,t10.1.1.2.2.2.2.1,(t10.1.1.2.2.2.2.2.1.1,t10.1.1.2.2.2.2.2.1.2.1,t10.1.1.2.2.2.2.2.1.2.2.1,t10.1.1.2.2.2.2.2.1.2.2.2.1,(),()),t10.1.1.2.2.2.2.2.2),t10.1.2),(t10.2.1.1,t10.2.1.2.1,((),t10.2.1.2.2.1.2.1,t10.2.1.2.2.1.2.2.1,t10.2.1.2.2.1.2.2.2.1,t10.2.1.2.2.1.2.2.2.2.1,(t10.2.1.2.2.1.2.2.2.2.2.1.1,t10.2.1.2.2.1.2.2.2.2.2.1.2.1,[((zJ t10.2.1.2.2.1.2.2.2.2.2.1.2.2 0 (0,())).1,()),((zJ t10.2.1.2.2.1.2.2.2.2.2.1.2.2 1 (0,())).1,()),((zJ t10.2.1.2.2.1.2.2.2.2.2.1.2.2 2 (0,())).1,()),((zJ t10.2.1.2.2.1.2.2.2.2.2.1.2.2 3 (0,())).1,()),((zJ t10.2.1.2.2.1.2.2.2.2.2.1.2.2 4 (0,())).1,()),((zJ t10.2.1.2.2.1.2.2.2.2.2.1.2.2 5 (0,())).1,()),((zJ t10.2.1.2.2.1.2.2.2.2.2.1.2.2 6 (0,())).1,()),((zJ t10.2.1.2.2.1.2.2.2.2.2.1.2.2 7 (0,())).1,())]),t10.2.1.2.2.1.2.2.2.2.2.2),()),(),t10.2.2.2.1,t10.2.2.2.2.1,()) t s_2 (p.1,p.2.1,(),p.2.2.2.1,p.2.2.2.2.1,()) o (o_2++[y.1])) else j2 e s f (((t10.1.1.1,t10.1.1.2.1,t10.1.1.2.2.1,t10.1.1.2.2.2.1,t10.1.1.2.2.2.2.1,(t10.1.1.2.2.2.2.2.1.1,t10.1.1.2.2.2.2.2.1.2.1,t10.1.1.2.2.2.2.2.1.2.2.1,t10.1.1.2.2.2.2.2.1.2.2.2.1,(),()),t10.1.1.2.2.2.2.2.2),t10.1.2),(t10.2.1.1,t10.2.1.2.1,((),t10.2.1.2.2.1.2.1,t10.2.1.2.2.1.2.2.1,t10.2.1.2.2.1.2.2.2.1,t10.2.1.2.2.1.2.2.2.2.1,(t10.2.1.2.2.1.2.2.2.2.2.1.1,t10.2.1.2.2.1.2.2.2.2.2.1.2.1,[((zJ t10.2.1.2.2.1.2.2.2.2.2.1.2.2 0 (0,())).1,()),((zJ t10.2.1.2.2.1.2.2.2.2.2.1.2.2 1 (0,())).1,()),((zJ t10.2.1.2.2.1.2.2.2.2.2.1.2.2 2 (0,())).1,()),((zJ t10.2.1.2.2.1.2.2.2.2.2.1.2.2 3 (0,())).1,()),((zJ t10.2.1.2.2.1.2.2.2.2.2.1.2.2 4 (0,())).1,()),((zJ t10.2.1.2.2.1.2.2.2.2.2.1.2.2 5 (0,())).1,()),((zJ t10.2.1.2.2.1.2.2.2.2.2.1.2.2 6 (0,())).1,()),((zJ t10.2.1.2.2.1.2.2.2.2.2.1.2.2 7 (0,())).1,())]),t10.2.1.2.2.1.2.2.2.2.2.2),()),(),t10.2.2.2.1,t10.2.2.2.2.1,()) t s_2 (p.1,p.2.1,(),p.2.2.2.1,p.2.2.2.2.1,()) o o_2
def Wd(e s f:Int)(t10:zE4)(t:jH)(s_2:List (jP))(p:(jH)×(jP)×Unit×Int×Int×Unit)(o:zE5)(o_2:zE3):Option (As aT) :=
 if eqi e 0=true then if eqi f 0=true then if eqi t.2.1 7=true then zC (at? s_2 s) fun y=>some (p.1,(gW p.2.1),p.2.2.2.1,p.2.2.2.2.1,o_2,eqi y.1 9,o,()) else some (p.1,(gW p.2.1),p.2.2.2.1,p.2.2.2.2.1,o_2,false,o,()) else some (p.1,(gW p.2.1),p.2.2.2.1,p.2.2.2.2.1,o_2,false,o,()) else some (p.1,(gW p.2.1),p.2.2.2.1,p.2.2.2.2.1,o_2,false,o,())
def Wh(j1:Int->Int->Int->List aG->Int->Int->(lN×Int×Int×Unit×Int×Int×Int×Int×Int)×Me×Unit×Int×Int×Unit->jH->List (jP)->(jH)×(jP)×Unit×Int×Int×Unit->List (Bool×List Int)->List aG->Option (As aT))(link timeout retries:Int)(bank:List Int)(plan:zE3):Option (As aT) :=
 zC (VY (9,add .u8 1 (rem link 2),7,add .i64 1 (cvt .i64 (rem timeout 10)),cvt .i64 (rem retries 4),())) fun y=>zC (Mf (bank,())) fun y_1=>zC (V4 (9,add .u8 1 (rem link 2),y_1.1,40,())) fun y_2=>zC (cut plan 0 (if lt 6 (zF (zG plan))=true then 6 else zF (zG plan))) fun y_3=>j1 y.2.1 0 y_2.2.1 y_3 (zF (zG y_3)) 0 (((0,0,0,0,false,(0,0,0,0,(),()),0,0,0),0,0,(),0,0,0,0,0),(0,0,((),(0,0),0,0,0,(0,[false,false,false,false,false,false,false,false],[(0,()),(0,()),(0,()),(0,()),(0,()),(0,()),(0,()),(0,())]),0),()),(),0,0,()) y.1 [y_2.1] (y.1,y_2.1,(),0,0,()) [] []
def Wi:=Wd
def I4(e s f:Int)(t49:zE3)(t50 t51:Int)(t10:zE4)(t:jH)(s_2:List (jP))(p:(jH)×(jP)×Unit×Int×Int×Unit)(o:zE5)(o_2:zE3):Option (As aT) :=
 cu (fun self s=>I1 (Wi) (fun e s f t49 t50 t51 t10 t s_2 p o o_2=>self (e,s,f,t49,t50,t51,t10,t,s_2,p,o,o_2)) s.1 s.2.1 s.2.2.1 s.2.2.2.1 s.2.2.2.2.1 s.2.2.2.2.2.1 s.2.2.2.2.2.2.1 s.2.2.2.2.2.2.2.1 s.2.2.2.2.2.2.2.2.1 s.2.2.2.2.2.2.2.2.2.1 s.2.2.2.2.2.2.2.2.2.2.1 s.2.2.2.2.2.2.2.2.2.2.2) 18446744073709551616 (e,s,f,t49,t50,t51,t10,t,s_2,p,o,o_2)
def I5(x:As [.int .u8,.int .u8,.int .u8,.sl (.int .u16),.sl (.sl d9)]):Option (As aT):=Wh I4 x.1 x.2.1 x.2.2.1 x.2.2.2.1 x.2.2.2.2.1
abbrev pBb:=zp afU afV 9 Ol
theorem av0{J a b c d e f g h i}:pBb J 31 [] (afW a b c d e f g h i)=Wd a b c d e f g h i:=by kernel_rfl
theorem av1{J w1 a b c d e f g h i j k l}:pBb J 250 [w1] (V9 a b c d e f g h i j k l)=I1 (C (J 31 []) afW) (C w1 V9) a b c d e f g h i j k l:=by kernel_rfl
abbrev pBa:=zj afU afV 9 Ol
theorem av2:C (pBa 31 []) afW=Wi:=gNC (by decide) fun _=>av0
theorem av3:C (pBa 250 []) V9=I4:=gLC (by decide) (by kernel_rfl) (fun _=>by unfold I4;rfl) fun _ _=>av1.trans (by rw[av2]<;>kernel_rfl)
theorem ao7:au Tryz.prog (fun _=>True) 9 ⟨Ol,I5⟩:=zcc (env:=afU) (d:=6) (hs:=Ev.get afV) (aj Ev.gJ (aj Ev.gJ (aj Ev.gJ (aj avJ (aj avP (aj avU (aj avZ bq))))))) (fun J x=>Wh (C (J 250 []) V9) x.1 x.2.1 x.2.2.1 x.2.2.2.1 x.2.2.2.2.1) (fun _ _=>by kernel_rfl) fun _=>by rw[av3]<;>rfl
@[reducible] def eR:List Ty:=[.sl (.int .u8),.pr aC nE,.pr (.int .u8) aA,.int .u32,.int .u32,.sl (.sl d9),.sl iy]
@[reducible] def aK:List Ty:=[.pr aC nE,.pr (.int .u8) aA,.int .u32,.int .u32,.sl (.sl d9),.sl iy]
@[reducible] def Fb:Sh:=⟨[.pb 0 0,.d aL],[(prG 1),.que iy 63],eR,[],[(0,(prG 2)),(2,.que iy 63)],1,aK⟩
def afX:Env:=(cts [(1000048,Ev.iw),(9000046,Ev.iw),(9999999,Ev.iw)])
def afY:List (Nat×Hint):=[(1,⟨[],[0,1,14]⟩)]
def afZ(b:List Int)(t14:Bool)(p:(jH)×(jP)×Unit×Int×Int×List aG)(o:zE5):St:=⟨[(0,.pb 0 0),(1,dL b),(14,dB t14)],26,[],[(0,.box 48 (gD p.1 (slC p.2.1 [.row 1,d2 p.2.2.2.1,d2 p.2.2.2.2.1,.d cE p.2.2.2.2.2]))),(1,.que iy 63 o)],2,[],2⟩
@[reducible] def eV:Type:=As aK
def I6(b:List Int)(t14:Bool)(p:(jH)×(jP)×Unit×Int×Int×List aG)(o:zE5):Option eV :=
 if t14=true then need (small (zG o+Nat.succ 0)) (some (p.1,(gW p.2.1),p.2.2.2.1,p.2.2.2.2.1,p.2.2.2.2.2,o++[(false,b)],())) else some (p.1,(gW p.2.1),p.2.2.2.1,p.2.2.2.2.1,p.2.2.2.2.2,o,())
def Wj(j1:List Int->Bool->(jH)×(jP)×Unit×Int×Int×List aG->List (Bool×List Int)->Option eV)(p:List Int)(b:jH)(p_2:jP)(b_2 v:Int)(v_2:zE3)(v_3:zE5):Option eV :=
 if gt (zF (zG p)) 0=true then j1 p (lt (zF (zG v_3)) 12) (b,p_2,(),b_2,v,v_2) v_3 else j1 p false (b,p_2,(),b_2,v,v_2) v_3
def Om:=I6
def yc(x:As eR):Option eV:=Wj Om x.1 x.2.1 x.2.2.1 x.2.2.2.1 x.2.2.2.2.1 x.2.2.2.2.2.1 x.2.2.2.2.2.2.1
abbrev pBl:=zp afX afY 20 Fb
theorem av4{J a b c d}:pBl J 1 [] (afZ a b c d)=I6 a b c d:=by kernel_rfl
abbrev pBk:=zj afX afY 20 Fb
theorem av5:C (pBk 1 []) afZ=Om:=gNC (by decide) fun _=>av4
theorem Wk:au Tryz.prog (fun _=>True) 20 ⟨Fb,yc⟩:=zcc (env:=afX) (d:=6) (hs:=Ev.get afY) (aj Ev.gJ (aj Ev.gJ (aj Ev.gJ bq))) (fun J x=>Wj (C (J 1 []) afZ) x.1 x.2.1 x.2.2.1 x.2.2.2.1 x.2.2.2.2.1 x.2.2.2.2.2.1 x.2.2.2.2.2.2.1) (fun _ _=>by kernel_rfl) fun _=>by rw[av5]<;>rfl
@[reducible] def Wl:Sh:=⟨[.d (.sl d9)],[],[.sl d9],[.d (.sl d9)],[],0,[.sl d9]⟩
def af0:Env:=(cts [(45,(⟨IW,nR⟩:Ct))])
def af2:List (Nat×Hint):=[(58,⟨[.row 3 38],[3,6,7,8]⟩)]
def Wm(t6:zE1)(t7 t8:Int)(r:zE1):St:=⟨[(3,.row 0),(6,.d (.sl d9) t6),(7,dI t7),(8,dI t8)],22,[],[(0,.row d9 38 r)],1,[],0⟩
def I7(self1:zE2)(t6:zE1)(t7 t8:Int)(r:zE1):Option cX :=
 if lt t8 t7=true then zC (at? t6 t8) fun y=>zC (nR (y.2,())) fun y_1=>need (small (zG r+Nat.succ 0)) (self1 t6 t7 (add .i64 t8 1) (r++[(y.1,y_1.1)])) else some (r,())
def ao8(j1:zE2)(l:zE1):Option cX :=
 j1 l (zF (zG l)) 0 []
def Oo(t6:zE1)(t7 t8:Int)(r:zE1):Option cX :=
 cu (fun self s=>I7 (fun t6 t7 t8 r=>self (t6,t7,t8,r)) s.1 s.2.1 s.2.2.1 s.2.2.2) 18446744073709551616 (t6,t7,t8,r)
def Ot(x:As [.sl d9]):Option cX:=ao8 Oo x.1
abbrev pEl:=zp af0 af2 65 Wl
theorem av6{J w1 a b c d}:pEl J 58 [w1] (Wm a b c d)=I7 (C w1 Wm) a b c d:=by kernel_rfl
abbrev pEk:=zj af0 af2 65 Wl
theorem av7:C (pEk 58 []) Wm=Oo:=gLC (by decide) (by kernel_rfl) (fun _=>by unfold Oo;rfl) fun _ _=>av6.trans (by kernel_rfl)
theorem ao9:au Tryz.prog (fun _=>True) 65 ⟨Wl,Ot⟩:=zcc (env:=af0) (d:=6) (hs:=Ev.get af2) (aj BS bq) (fun J x=>ao8 (C (J 58 []) Wm) x.1) (fun _ _=>by kernel_rfl) fun _=>by rw[av7]<;>rfl
@[reducible] def af3:Sh:=⟨[.d (.sl .bool)],[],[.sl .bool],[.d (.sl .bool)],[],0,[.sl .bool]⟩
@[reducible] def dN:Type:=As [.sl .bool]
def af4(s:List Bool):Option dN :=
 if eqi (zF (zG s)) 0=true then amb (ay af3.rs) [some ([],()),need (small (0+zG s)) (some (s,()))] else need (small (0+zG s)) (some (s,()))
def BU(x:As [.sl .bool]):Option dN:=af4 x.1
theorem af5:au Tryz.prog (fun _=>True) 113 ⟨af3,BU⟩:=ctn bq 6 fun J x=>by kernel_rfl
@[reducible] def Wo:Sh:=⟨[.d (.sl (.bool))],[],[.sl (.bool)],[.row 0],[(0,.row (.bool) 4)],1,[.sl (.bool)]⟩
def af6(s:List Bool):Option dN :=
 if eqi (zF (zG s)) 0=true then amb (ay Wo.rs) [some ([],()),need (small (0+zG s)) (some (s,()))] else need (small (0+zG s)) (some (s,()))
def Fe(x:As [.sl .bool]):Option dN:=af6 x.1
theorem atJ:au Tryz.prog (fun _=>True) 113 ⟨Wo,Fe⟩:=ctn bq 6 fun J x=>by kernel_rfl
@[reducible] def aN:List Ty:=[.pr aC nE]
@[reducible] def apa:Sh:=⟨[.d aX],[],aN,[.d aX],[],0,aN⟩
@[reducible] def bV:Type:=As aN
def Wp(t:jH):Option bV :=
 zC (nR (t.1.2.2.2.2.2.1.2.2.2.2.1,())) fun y=>zC (BU (t.1.2.2.2.2.2.1.2.2.2.2.2,())) fun y_1=>zC (Ot (t.2.2.2.1,())) fun y_2=>some (((t.1.1,t.1.2.1,t.1.2.2.1,t.1.2.2.2.1,t.1.2.2.2.2.1,(t.1.2.2.2.2.2.1.1,t.1.2.2.2.2.2.1.2.1,t.1.2.2.2.2.2.1.2.2.1,t.1.2.2.2.2.2.1.2.2.2.1,y.1,y_1.1),t.1.2.2.2.2.2.2),t.2.1,t.2.2.1,y_2.1,t.2.2.2.2),())
def Fg(x:As aN):Option bV:=Wp x.1
theorem Wq:au Tryz.prog (fun _=>True) 54 ⟨apa,Fg⟩:=ctn (aj BS (aj ao9 (aj af5 bq))) 6 fun J x=>by kernel_rfl
@[reducible] def Ws:Sh:=⟨[.d (.int .u8)],[],[.int .u8],[.d (.pr (.int .i64) vo),.d (.bool)],[],0,[.pr (.int .i64) vo,.bool]⟩
def av8(f:Int):Option (As [.pr (.int .i64) vo,.bool]) :=
 some (Ev.gdV (.pr (.int .i64) vo) (if eqi 1 f=true then some (2000,0,0,false,false) else if eqi 2 f=true then some (2000,0,0,false,false) else if eqi 3 f=true then some (125,0,0,false,false) else if eqi 4 f=true then some (125,0,0,false,false) else if eqi 5 f=true then some (0,1,0,false,false) else if eqi 6 f=true then some (0,0,1,false,false) else if eqi 15 f=true then some (1968,1968,0,false,true) else if eqi 16 f=true then some (123,0,123,false,true) else if eqi 23 f=true then some (125,0,121,true,false) else zH) (0,0,0,false,false),Ev.isV (.pr (.int .i64) vo) (if eqi 1 f=true then some (2000,0,0,false,false) else if eqi 2 f=true then some (2000,0,0,false,false) else if eqi 3 f=true then some (125,0,0,false,false) else if eqi 4 f=true then some (125,0,0,false,false) else if eqi 5 f=true then some (0,1,0,false,false) else if eqi 6 f=true then some (0,0,1,false,false) else if eqi 15 f=true then some (1968,1968,0,false,true) else if eqi 16 f=true then some (123,0,123,false,true) else if eqi 23 f=true then some (125,0,121,true,false) else zH),())
def Al(x:As [.int .u8]):Option (As [.pr (.int .i64) vo,.bool]):=av8 x.1
theorem Wt:au Tryz.prog (fun _=>True) 106 ⟨Ws,Al⟩:=ctn bq 6 fun J x=>by kernel_rfl
@[reducible] def cG:List Ty:=[.int .i64,.int .i64]
@[reducible] def apb:Sh:=⟨[.d (.int .i64),.d (.int .i64)],[],cG,[.d (.bool)],[],0,[.bool]⟩
def af7(n most:Int):Option aF :=
 if eqi most 0=true then some (eqi n 0,()) else if ge n 1=true then some (le n most,()) else some (false,())
def I8(x:As cG):Option aF:=af7 x.1 x.2.1
theorem av9:au Tryz.prog (fun _=>True) 162 ⟨apb,I8⟩:=ctn bq 6 fun J x=>by kernel_rfl
@[reducible] def aW:List Ty:=[.pr (.int .u8) lC]
@[reducible] def Fh:Sh:=⟨[.d bA],[],aW,[.d (.bool)],[],0,[.bool]⟩
def af8:Env:=(cts [(106,(⟨Ws,Al⟩:Ct)),(162,(⟨apb,I8⟩:Ct))])
def af9:List (Nat×Hint):=[(30,⟨[],[1,3,47,52,53,54,55,56,57,58,59,60,61,62]⟩),(14,⟨[],[1,3,22,31,32,33,34,35,36,37,40,41,42,43,44,45,46,52,53,54,55,56,57,58,59,60,61,62]⟩)]
def aga(t22:Bool)(a a_2 a_3 a_4:Int)(a_5:List Int)(a_6:List Bool)(s s_2 s_3:Int)(s_4 s_5:Bool):St:=⟨[(1,.pb 0 0),(3,.pb 1 0),(22,dB t22)],64,[],[(0,.box 27 [d8 a,d6 a_2,d6 a_3,d6 a_4,dW a_5,.d (.sl .bool) a_6]),(1,.box 151 [dI s,dI s_2,dI s_3,dB s_4,dB s_5])],2,[],0⟩
def agb(t47:Bool)(a a_2 a_3 a_4:Int)(a_5:List Int)(a_6:List Bool)(s s_2 s_3:Int)(s_4 s_5:Bool):St:=⟨[(1,.pb 0 0),(3,.pb 1 0),(47,dB t47)],64,[],[(0,.box 27 [d8 a,d6 a_2,d6 a_3,d6 a_4,dW a_5,.d (.sl .bool) a_6]),(1,.box 151 [dI s,dI s_2,dI s_3,dB s_4,dB s_5])],2,[],0⟩
@[reducible] def zE6:Type:=Bool->Int->Int->Int->Int->List Int->List Bool->Int->Int->Int->Bool->Bool->Option aF
def agc(j2:zE6)(t22:Bool)(a a_2 a_3 a_4:Int)(a_5:List Int)(a_6:List Bool)(s s_2 s_3:Int)(s_4 s_5:Bool):Option aF :=
 if t22=true then some (false,()) else zC (I8 (cvt .i64 a_3,s,())) fun y=>if (!y.1)=true then j2 true a a_2 a_3 a_4 a_5 a_6 s s_2 s_3 s_4 s_5 else zC (I8 (zF (zG a_6),s_2,())) fun y=>if (!y.1)=true then j2 true a a_2 a_3 a_4 a_5 a_6 s s_2 s_3 s_4 s_5 else zC (I8 (zF (zG a_5),s_3,())) fun y=>j2 (!y.1) a a_2 a_3 a_4 a_5 a_6 s s_2 s_3 s_4 s_5
def age(t47:Bool)(a a_2 a_3 a_4:Int)(a_5:List Int)(a_6:List Bool)(s s_2 s_3:Int)(s_4 s_5:Bool):Option aF :=
 if t47=true then some (false,()) else if (!s_5)=true then some (true,()) else some (eqi (add .i64 (zF (zG a_6)) (zF (zG a_5))) (cvt .i64 a_3),())
@[reducible] def zE7:Type:=Int×Int×Int×Int×List Int×List Bool
def Wu(j1:zE6)(a:zE7):Option aF :=
 zC (Al (a.1,())) fun y=>if (!y.2.1)=true then j1 true a.1 a.2.1 a.2.2.1 a.2.2.2.1 a.2.2.2.2.1 a.2.2.2.2.2 y.1.1 y.1.2.1 y.1.2.2.1 y.1.2.2.2.1 y.1.2.2.2.2 else if (!y.1.2.2.2.1)=true then j1 (nei a.2.2.2.1 0) a.1 a.2.1 a.2.2.1 a.2.2.2.1 a.2.2.2.2.1 a.2.2.2.2.2 y.1.1 y.1.2.1 y.1.2.2.1 y.1.2.2.2.1 y.1.2.2.2.2 else j1 false a.1 a.2.1 a.2.2.1 a.2.2.2.1 a.2.2.2.2.1 a.2.2.2.2.2 y.1.1 y.1.2.1 y.1.2.2.1 y.1.2.2.2.1 y.1.2.2.2.2
def Wv:=age
def Ou:=agc (Wv)
def wD(x:As aW):Option aF:=Wu Ou x.1
abbrev pAt:=zp af8 af9 105 Fh
theorem awc{J a b c d e f g h i j k l}:pAt J 30 [] (agb a b c d e f g h i j k l)=age a b c d e f g h i j k l:=by kernel_rfl
theorem awd{J a b c d e f g h i j k l}:pAt J 14 [] (aga a b c d e f g h i j k l)=agc (C (J 30 []) agb) a b c d e f g h i j k l:=by kernel_rfl
abbrev pAs:=zj af8 af9 105 Fh
theorem awe:C (pAs 30 []) agb=Wv:=gNC (by decide) fun _=>awc
theorem awf:C (pAs 14 []) aga=Ou:=gNC (by decide) fun _=>awd.trans (by rw[awe]<;>kernel_rfl)
theorem Ov:au Tryz.prog (fun _=>True) 105 ⟨Fh,wD⟩:=zcc (env:=af8) (d:=6) (hs:=Ev.get af9) (aj Wt (aj av9 bq)) (fun J x=>Wu (C (J 14 []) aga) x.1) (fun _ _=>by kernel_rfl) fun _=>by rw[awf]<;>rfl
@[reducible] def awg:Sh:=⟨[.d bA],[],aW,[.d bA],[],0,aW⟩
@[reducible] def dZ:Type:=As aW
def agf(a:zE7):Option dZ :=
 zC (nR (a.2.2.2.2.1,())) fun y=>zC (BU (a.2.2.2.2.2,())) fun y_1=>some ((a.1,a.2.1,a.2.2.1,a.2.2.2.1,y.1,y_1.1),())
def Ww(x:As aW):Option dZ:=agf x.1
theorem apc:au Tryz.prog (fun _=>True) 170 ⟨awg,Ww⟩:=ctn (aj BS (aj af5 bq)) 6 fun J x=>by kernel_rfl
@[reducible] def cH:List Ty:=[.pr (.int .u8) sW]
@[reducible] def apd:Sh:=⟨[.d aC],[],cH,[.d aC],[],0,cH⟩
def Wx(p:zE0):Option (As cH) :=
 zC (Ww (p.2.2.2.2.2.1,())) fun y=>some ((p.1,p.2.1,p.2.2.1,p.2.2.2.1,p.2.2.2.2.1,y.1,p.2.2.2.2.2.2),())
def Am(x:As cH):Option (As cH):=Wx x.1
theorem Wy:au Tryz.prog (fun _=>True) 114 ⟨apd,Am⟩:=ctn (aj apc bq) 6 fun J x=>by kernel_rfl
@[reducible] def eT:List Ty:=[.sl (.int .u16),.sl (.int .u8)]
@[reducible] def aI:List Ty:=[.sl (.int .u8)]
@[reducible] def Wz:Sh:=⟨[.row 0,.d aB],[.row (.int .u8) 5],eT,[.row 1],[(1,.row (.int .u8) 5)],1,aI⟩
def agh:Env:=(cts [])
def agi:List (Nat×Hint):=[(26,⟨[.unl 0],[0,7,8,9]⟩)]
def WA(t7:List Int)(t8 t9:Int)(out:List Int):St:=⟨[(0,.row 1),(7,dW t7),(8,dI t8),(9,dI t9)],23,[],[(1,.row (.int .u8) 5 out)],2,[],1⟩
@[reducible] def cA:Type:=As aI
@[reducible] def zE8:Type:=List Int->Int->Int->List Int->Option cA
def I9(self1:zE8)(t7:List Int)(t8 t9:Int)(out:List Int):Option cA :=
 if lt t9 t8=true then zC (at? t7 t9) fun y=>need (small (zG out+Nat.succ (Nat.succ 0))) (self1 t7 t8 (add .i64 t9 1) (out++[cvt .u8 (Sx.shr .u16 y 8),cvt .u8 y])) else some (out,())
def WB(j1:zE8)(out l:List Int):Option cA :=
 j1 out (zF (zG out)) 0 l
def Ox(t7:List Int)(t8 t9:Int)(out:List Int):Option cA :=
 cu (fun self s=>I9 (fun t7 t8 t9 out=>self (t7,t8,t9,out)) s.1 s.2.1 s.2.2.1 s.2.2.2) 18446744073709551616 (t7,t8,t9,out)
def oV(x:As eT):Option cA:=WB Ox x.1 x.2.1
abbrev pAz:=zp agh agi 107 Wz
theorem awh{J w1 a b c d}:pAz J 26 [w1] (WA a b c d)=I9 (C w1 WA) a b c d:=by kernel_rfl
abbrev pAy:=zj agh agi 107 Wz
theorem awi:C (pAy 26 []) WA=Ox:=gLC (by decide) (by kernel_rfl) (fun _=>by unfold Ox;rfl) fun _ _=>awh.trans (by kernel_rfl)
theorem awj:au Tryz.prog (fun _=>True) 107 ⟨Wz,oV⟩:=zcc (env:=agh) (d:=6) (hs:=Ev.get agi) bq (fun J x=>WB (C (J 26 []) WA) x.1 x.2.1) (fun _ _=>by kernel_rfl) fun _=>by rw[awi]<;>rfl
@[reducible] def WC:Sh:=⟨[.d (.sl .bool)],[],[.sl .bool],[.d aL],[],0,aI⟩
def agj:Env:=(cts [])
def agk:List (Nat×Hint):=[(7,⟨[],[0,3]⟩),(250,⟨[],[4,18,19,20]⟩)]
def WE(bits:List Bool)(n:Int):St:=⟨[(0,.d (.sl .bool) bits),(3,dI n)],38,[],[],0,[],0⟩
def WG(t18:List Bool)(t19 t20:Int)(out:List Int):St:=⟨[(4,.row 0),(18,.d (.sl .bool) t18),(19,dI t19),(20,dI t20)],38,[],[(0,.row (.int .u8) 5 out)],1,[],0⟩
@[reducible] def zE9:Type:=List Bool->Int->Int->List Int->Option cA
def WH(j2:zE9)(bits:List Bool)(n:Int):Option cA :=
 need (ge n 0) (need (Ev.jR n n) (need (small (zI n)) (j2 bits (zF (zG bits)) 0 (zE (zI n) 0))))
def Ja(self2:zE9)(t18:List Bool)(t19 t20:Int)(out:List Int):Option cA :=
 if lt t20 t19=true then zC (at? t18 t20) fun y=>if y=true then zC (at? out (quo .i64 t20 8)) fun x=>zC (at? out (quo .i64 t20 8)) fun y=>need (ge (rem t20 8) 0) (zC (at? out (quo .i64 t20 8)) fun x=>zC (at? out (quo .i64 t20 8)) fun x=>self2 t18 t19 (add .i64 t20 1) (List.set out (zI (quo .i64 t20 8)) (Sx.bor .u8 y (Sx.shl .u8 1 (rem t20 8))))) else self2 t18 t19 (add .i64 t20 1) out else some (out,())
def WI(j1:List Bool->Int->Option cA)(bits:List Bool):Option cA :=
 if gt (rem (zF (zG bits)) 8) 0=true then j1 bits (add .i64 (quo .i64 (zF (zG bits)) 8) 1) else j1 bits (quo .i64 (zF (zG bits)) 8)
def WJ(t18:List Bool)(t19 t20:Int)(out:List Int):Option cA :=
 cu (fun self s=>Ja (fun t18 t19 t20 out=>self (t18,t19,t20,out)) s.1 s.2.1 s.2.2.1 s.2.2.2) 18446744073709551616 (t18,t19,t20,out)
def Oy:=WH (WJ)
def Jb(x:As [.sl .bool]):Option cA:=WI Oy x.1
abbrev pAp:=zp agj agk 108 WC
theorem awk{J w2 a b c d}:pAp J 250 [w2] (WG a b c d)=Ja (C w2 WG) a b c d:=by kernel_rfl
theorem awl{J a b}:pAp J 7 [] (WE a b)=WH (C (J 250 []) WG) a b:=by kernel_rfl
abbrev pAo:=zj agj agk 108 WC
theorem awm:C (pAo 250 []) WG=WJ:=gLC (by decide) (by kernel_rfl) (fun _=>by unfold WJ;rfl) fun _ _=>awk.trans (by kernel_rfl)
theorem awn:C (pAo 7 []) WE=Oy:=gNC (by decide) fun _=>awl.trans (by rw[awm]<;>kernel_rfl)
theorem ape:au Tryz.prog (fun _=>True) 108 ⟨WC,Jb⟩:=zcc (env:=agj) (d:=6) (hs:=Ev.get agk) bq (fun J x=>WI (C (J 7 []) WE) x.1) (fun _ _=>by kernel_rfl) fun _=>by rw[awn]<;>rfl
@[reducible] def aU:List Ty:=[.sl (.int .u8),.int .i64]
@[reducible] def WK:Sh:=⟨[.d bA],[],aW,[.d aL,.d (.int .i64)],[],0,aU⟩
def agl:Env:=(cts [(105,(⟨Fh,wD⟩:Ct)),(106,(⟨Ws,Al⟩:Ct)),(107,(⟨Wz,oV⟩:Ct)),(108,(⟨WC,Jb⟩:Ct))])
def agm:List (Nat×Hint):=[(31,⟨[],[1,4,6,48,49,50,51]⟩),(63,⟨[],[1,4,6,48,49,50,51]⟩),(127,⟨[],[6]⟩),(508,⟨[],[1,4,6,43]⟩)]
def agn(a a_2 a_3 a_4:Int)(a_5:List Int)(a_6:List Bool)(s s_2 s_3:Int)(s_4 s_5:Bool)(out:List Int):St:=⟨[(1,.pb 0 0),(4,.pb 1 0),(6,.row 2)],102,[],[(0,.box 27 [d8 a,d6 a_2,d6 a_3,d6 a_4,dW a_5,.d (.sl .bool) a_6]),(1,.box 151 [dI s,dI s_2,dI s_3,dB s_4,dB s_5]),(2,.row (.int .u8) 5 out)],3,[],0⟩
def agq(a a_2 a_3 a_4:Int)(a_5:List Int)(a_6:List Bool)(s s_2 s_3:Int)(s_4 s_5:Bool)(out:List Int):St:=⟨[(1,.pb 0 0),(4,.pb 1 0),(6,.row 2)],102,[],[(0,.box 27 [d8 a,d6 a_2,d6 a_3,d6 a_4,dW a_5,.d (.sl .bool) a_6]),(1,.box 151 [dI s,dI s_2,dI s_3,dB s_4,dB s_5]),(2,.row (.int .u8) 5 out)],3,[],0⟩
def agr(t43:Bool)(a a_2 a_3 a_4:Int)(a_5:List Int)(a_6:List Bool)(s s_2 s_3:Int)(s_4 s_5:Bool)(out:List Int):St:=⟨[(1,.pb 0 0),(4,.pb 1 0),(6,.row 2),(43,dB t43)],102,[],[(0,.box 27 [d8 a,d6 a_2,d6 a_3,d6 a_4,dW a_5,.d (.sl .bool) a_6]),(1,.box 151 [dI s,dI s_2,dI s_3,dB s_4,dB s_5]),(2,.row (.int .u8) 5 out)],3,[],0⟩
def ags(out:List Int):St:=⟨[(6,.row 0)],102,[],[(0,.row (.int .u8) 5 out)],1,[],0⟩
@[reducible] def dA:Type:=As aU
@[reducible] def atL:Type:=Int->Int->Int->Int->List Int->List Bool->Int->Int->Int->Bool->Bool->List Int->Option dA
def apf(j2:atL)(a a_2 a_3 a_4:Int)(a_5:List Int)(a_6:List Bool)(s s_2 s_3:Int)(s_4 s_5:Bool)(out:List Int):Option dA :=
 if s_4=true then zC (oV ([a_4,cvt .u16 (zF (zG a_5))],out,())) fun y=>j2 a a_2 a_3 a_4 a_5 a_6 s s_2 s_3 s_4 s_5 y.1 else j2 a a_2 a_3 a_4 a_5 a_6 s s_2 s_3 s_4 s_5 out
def apg(j3:Bool->Int->Int->Int->Int->List Int->List Bool->Int->Int->Int->Bool->Bool->List Int->Option dA)(a a_2 a_3 a_4:Int)(a_5:List Int)(a_6:List Bool)(s s_2 s_3:Int)(s_4 s_5:Bool)(out:List Int):Option dA :=
 if eqi a 5=true then zC (at? a_6 0) fun y=>j3 y a a_2 a_3 a_4 a_5 a_6 s s_2 s_3 s_4 s_5 out else j3 false a a_2 a_3 a_4 a_5 a_6 s s_2 s_3 s_4 s_5 out
def aph(j4:List Int->Option dA)(t43:Bool)(a a_2 a_3 a_4:Int)(a_5:List Int)(a_6:List Bool)(s s_2 s_3:Int)(s_4 s_5:Bool)(out:List Int):Option dA :=
 if t43=true then zC (oV ([65280],out,())) fun y=>j4 y.1 else if eqi a 5=true then zC (oV ([0],out,())) fun y=>j4 y.1 else if eqi a 6=true then zC (oV (a_5,out,())) fun y=>j4 y.1 else if gt s_2 0=true then zC (Jb (a_6,())) fun y=>need (small (zG out+Nat.succ 0)) (need (small (zG (out++[cvt .u8 (zF (zG y.1))])+zG y.1)) (j4 (out++[cvt .u8 (zF (zG y.1))]++y.1))) else if gt s_3 0=true then need (small (zG out+Nat.succ 0)) (zC (oV (a_5,out++[cvt .u8 (mul .i64 2 (zF (zG a_5)))],())) fun y=>j4 y.1) else j4 out
def apj(out:List Int):Option dA :=
 some (out,0,())
def WM(j1:atL)(a:zE7):Option dA :=
 zC (wD (a,())) fun y=>if (!y.1)=true then some ([],12,()) else zC (Al (a.1,())) fun y=>zC (oV ([a.2.1],[a.1],())) fun y_1=>if gt y.1.1 0=true then zC (oV ([a.2.2.1],y_1.1,())) fun y_2=>j1 a.1 a.2.1 a.2.2.1 a.2.2.2.1 a.2.2.2.2.1 a.2.2.2.2.2 y.1.1 y.1.2.1 y.1.2.2.1 y.1.2.2.2.1 y.1.2.2.2.2 y_2.1 else j1 a.1 a.2.1 a.2.2.1 a.2.2.2.1 a.2.2.2.2.1 a.2.2.2.2.2 y.1.1 y.1.2.1 y.1.2.2.1 y.1.2.2.2.1 y.1.2.2.2.2 y_1.1
def apk:=apj
def apl:=aph (apk)
def apm:=apg (apl)
def BV:=apf (apm)
def Fj(x:As aW):Option dA:=WM BV x.1
abbrev pAn:=zp agl agm 50 WK
theorem awo{J a}:pAn J 127 [] (ags a)=apj a:=by kernel_rfl
theorem awp{J a b c d e f g h i j k l m}:pAn J 508 [] (agr a b c d e f g h i j k l m)=aph (C (J 127 []) ags) a b c d e f g h i j k l m:=by kernel_rfl
theorem awq{J a b c d e f g h i j k l}:pAn J 63 [] (agq a b c d e f g h i j k l)=apg (C (J 508 []) agr) a b c d e f g h i j k l:=by kernel_rfl
theorem awr{J a b c d e f g h i j k l}:pAn J 31 [] (agn a b c d e f g h i j k l)=apf (C (J 63 []) agq) a b c d e f g h i j k l:=by kernel_rfl
abbrev pAm:=zj agl agm 50 WK
theorem aws:C (pAm 127 []) ags=apk:=gNC (by decide) fun _=>awo
theorem awt:C (pAm 508 []) agr=apl:=gNC (by decide) fun _=>awp.trans (by rw[aws]<;>kernel_rfl)
theorem awu:C (pAm 63 []) agq=apm:=gNC (by decide) fun _=>awq.trans (by rw[awt]<;>kernel_rfl)
theorem awv:C (pAm 31 []) agn=BV:=gNC (by decide) fun _=>awr.trans (by rw[awu]<;>kernel_rfl)
theorem agt:au Tryz.prog (fun _=>True) 50 ⟨WK,Fj⟩:=zcc (env:=agl) (d:=6) (hs:=Ev.get agm) (aj Ov (aj Wt (aj awj (aj ape bq)))) (fun J x=>WM (C (J 31 []) agn) x.1) (fun _ _=>by kernel_rfl) fun _=>by rw[awv]<;>rfl
@[reducible] def WN:Sh:=⟨[.d (.pr (.int .u16) D8)],[],[.pr (.int .u16) D8],[.d aL,.d (.int .i64)],[],0,aU⟩
def agu:Env:=(cts [])
def agv:List (Nat×Hint):=[(14,⟨[],[1,4,14]⟩)]
def agw(n:Int)(t14:Bool)(x:Int×Int×List Int):St:=⟨[(1,.pb 0 0),(4,dI n),(14,dB t14)],37,[],[(0,.box 129 [d6 x.1,d8 x.2.1,dL x.2.2])],1,[],0⟩
def WO(n:Int)(t14:Bool)(x:Int×Int×List Int):Option dA :=
 if t14=true then some ([],2,()) else need (Ev.jR 0 (add .i64 7 n)) (need (small (zI (add .i64 7 n))) (need (small (0+Nat.succ (Nat.succ (Nat.succ (Nat.succ (Nat.succ (Nat.succ (Nat.succ 0)))))))) (need (small (Nat.succ (Nat.succ (Nat.succ (Nat.succ (Nat.succ (Nat.succ (Nat.succ 0))))))+zG x.2.2)) (some (cvt .u8 (Sx.shr .u16 x.1 8)::cvt .u8 x.1::0::0::0::cvt .u8 (add .i64 n 1)::x.2.1::x.2.2,0,())))))
def WQ(j1:Int->Bool->Int×Int×List Int->Option dA)(x:Int×Int×List Int):Option dA :=
 if lt (zF (zG x.2.2)) 1=true then j1 (zF (zG x.2.2)) true x else j1 (zF (zG x.2.2)) (gt (zF (zG x.2.2)) 253) x
def agx:=WO
def Oz(x:As [.pr (.int .u16) D8]):Option dA:=WQ agx x.1
abbrev pB1:=zp agu agv 100 WN
theorem aww{J a b c}:pB1 J 14 [] (agw a b c)=WO a b c:=by kernel_rfl
abbrev pB0:=zj agu agv 100 WN
theorem awx:C (pB0 14 []) agw=agx:=gNC (by decide) fun _=>aww
theorem apn:au Tryz.prog (fun _=>True) 100 ⟨WN,Oz⟩:=zcc (env:=agu) (d:=6) (hs:=Ev.get agv) bq (fun J x=>WQ (C (J 14 []) agw) x.1) (fun _ _=>by kernel_rfl) fun _=>by rw[awx]<;>rfl
@[reducible] def dV:List Ty:=[.un,.int .u8,.int .u16,.pr (.int .u8) lC]
@[reducible] def awy:Sh:=⟨[.d (.un),.d (.int .u8),.d (.int .u16),.d bA],[],dV,[.d aL],[],0,aI⟩
def agy(v:Unit)(unit tx:Int)(a:zE7):Option cA :=
 zC (Fj (a,())) fun y=>if nei y.2.1 0=true then some ([],()) else zC (Oz ((tx,unit,y.1),())) fun y=>if nei y.2.1 0=true then some ([],()) else some (y.1,())
def agz(x:As dV):Option cA:=agy x.1 x.2.1 x.2.2.1 x.2.2.2.1
theorem awz:au Tryz.prog (fun _=>True) 338 ⟨awy,agz⟩:=ctn (aj agt (aj apn bq)) 6 fun J x=>by kernel_rfl
@[reducible] def awC:Sh:=⟨[.d (.un),.d (.int .u16)],[],[.un,.int .u16],[.d (.int .u16)],[],0,[.int .u16]⟩
@[reducible] def eG:Type:=As [.int .u16]
def awD(v:Unit)(tx:Int):Option eG :=
 some (add .u16 tx 1,())
def agA(x:As [.un,.int .u16]):Option eG:=awD x.1 x.2.1
theorem awE:au Tryz.prog (fun _=>True) 339 ⟨awC,agA⟩:=ctn bq 6 fun J x=>by kernel_rfl
@[reducible] def WR:Sh:=⟨[],[],[],[.d (.ar 16 (.int .u16))],[],0,[.ar 16 (.int .u16)]⟩
def agB:Env:=(cts [])
def agC:List (Nat×Hint):=[(58,⟨[],[0,1,5]⟩),(7475,⟨[],[0,1,2,3,5]⟩),(59802,⟨[],[0,1,2,3,5,10]⟩)]
def BX(t5:Int)(t0 t:List Int):St:=⟨[(0,.pb 0 0),(1,.pb 1 0),(5,dI t5)],26,[],[(0,.row (.int .u16) 213 t0),(1,.row (.int .u16) 213 t)],2,[],0⟩
def WS(i x t5 t10:Int)(t0 t:List Int):St:=⟨[(0,.pb 0 0),(1,.pb 1 0),(2,dI i),(3,d6 x),(5,dI t5),(10,dI t10)],26,[],[(0,.row (.int .u16) 213 t0),(1,.row (.int .u16) 213 t)],2,[],0⟩
def agD(i x t5:Int)(t0 t:List Int):St:=⟨[(0,.pb 0 0),(1,.pb 1 0),(2,dI i),(3,d6 x),(5,dI t5)],26,[],[(0,.row (.int .u16) 213 t0),(1,.row (.int .u16) 213 t)],2,[],0⟩
@[reducible] def atM:Type:=Int->Int->Int->Int->List Int->List Int->Option (As [.ar 16 (.int .u16)])
@[reducible] def Jc:Type:=Int->List Int->List Int->Option (As [.ar 16 (.int .u16)])
def apo(j2:atM)(self1:Jc)(t5:Int)(t0 t:List Int):Option (As [.ar 16 (.int .u16)]) :=
 if lt t5 16=true then j2 t5 (cvt .u16 t5) t5 0 t0 t else need (eqi (zF (zG t)) 16) (need (eqi (zF (zG t0)) (zF (zG t))) (need (eqi 16 (zF (zG t*1))) (need (eqi (zF (zG t)) 16) (need (eqi (zF (zG t)) 16) (some (t,()))))))
def apq(j3:Int->Int->Int->List Int->List Int->Option (As [.ar 16 (.int .u16)]))(self1:Jc)(self2:atM)(i x t5 t10:Int)(t0 t:List Int):Option (As [.ar 16 (.int .u16)]) :=
 if lt t10 4=true then if eqi (Sx.lW .u16 x 1) 1=true then self2 i (Sx.iU .u16 (Sx.shr .u16 x 1) 40961) t5 (add .i64 t10 1) t0 t else self2 i (Sx.shr .u16 x 1) t5 (add .i64 t10 1) t0 t else j3 i x t5 t0 t
def apr(self1:Jc)(i x t5:Int)(t0 t:List Int):Option (As [.ar 16 (.int .u16)]) :=
 need (lt i 16) (zC (at? t i) fun x_1=>zC (at? t i) fun x_2=>self1 (add .i64 t5 1) t0 (List.set t (zI i) x))
def aps(j1:Jc):Option (As [.ar 16 (.int .u16)]) :=
 j1 0 (zE 16 0) (zE 16 0)
def apt(u1:Jc):=apr u1
def agE(u1:Jc)(i x t5 t10:Int)(t0 t:List Int):Option (As [.ar 16 (.int .u16)]) :=
 cu (fun self s=>apq (apt u1) u1 (fun i x t5 t10 t0 t=>self (i,x,t5,t10,t0,t)) s.1 s.2.1 s.2.2.1 s.2.2.2.1 s.2.2.2.2.1 s.2.2.2.2.2) 18446744073709551616 (i,x,t5,t10,t0,t)
def agF(t5:Int)(t0 t:List Int):Option (As [.ar 16 (.int .u16)]) :=
 cu (fun self s=>apo (agE (fun t5 t0 t=>self (t5,t0,t))) (fun t5 t0 t=>self (t5,t0,t)) s.1 s.2.1 s.2.2) 18446744073709551616 (t5,t0,t)
def WT(x:As []):Option (As [.ar 16 (.int .u16)]):=aps agF
abbrev pA9:=zp agB agC 156 WR
theorem awF{J w1 a b c d e}:pA9 J 7475 [w1] (agD a b c d e)=apr (C w1 BX) a b c d e:=by kernel_rfl
theorem awG{J w1 w2 a b c d e f}:pA9 J 59802 [w1,w2] (WS a b c d e f)=apq (C (J 7475 [w1]) agD) (C w1 BX) (C w2 WS) a b c d e f:=by kernel_rfl
theorem awH{J w1 a b c}:pA9 J 58 [w1] (BX a b c)=apo (C (J 59802 [w1]) WS) (C w1 BX) a b c:=by kernel_rfl
abbrev pA8:=zj agB agC 156 WR
theorem awI{w1}:C (pA8 7475 [w1]) agD=apt (C w1 BX):=gNC (by decide) fun _=>awF
theorem awJ{w1}:C (pA8 59802 [w1]) WS=agE (C w1 BX):=gLC (by decide) (by kernel_rfl) (fun _=>by unfold agE;rfl) fun _ _=>awG.trans (by rw[awI]<;>kernel_rfl)
theorem awK:C (pA8 58 []) BX=agF:=gLC (by decide) (by kernel_rfl) (fun _=>by unfold agF;rfl) fun _ _=>awH.trans (by rw[awJ]<;>kernel_rfl)
theorem awL:au Tryz.prog (fun _=>True) 156 ⟨WR,WT⟩:=zcc (env:=agB) (d:=6) (hs:=Ev.get agC) bq (fun J x=>aps (C (J 58 []) BX)) (fun _ _=>by kernel_rfl) fun _=>by rw[awK]<;>rfl
@[reducible] def apu:Sh:=⟨[.pb 0 0,.d (.int .u16),.d (.int .u8)],[.row (.int .u16) 213],[.int .u16,.int .u8,.sl (.int .u16)],[.d (.int .u16)],[(0,.row (.int .u16) 213)],0,[.int .u16,.sl (.int .u16)]⟩
def WU(t sum:Int)(c:List Int):Option (As [.int .u16,.sl (.int .u16)]) :=
 need (lt (Sx.lW .u16 (Sx.iU .u16 t (cvt .u16 sum)) 15) 16) (zC (at? c (Sx.lW .u16 (Sx.iU .u16 t (cvt .u16 sum)) 15)) fun x=>zC (at? c (Sx.lW .u16 (Sx.iU .u16 t (cvt .u16 sum)) 15)) fun y=>need (lt (Sx.lW .u16 (Sx.iU .u16 (Sx.shr .u16 (Sx.iU .u16 t (cvt .u16 sum)) 4) y) 15) 16) (zC (at? c (Sx.lW .u16 (Sx.iU .u16 (Sx.shr .u16 (Sx.iU .u16 t (cvt .u16 sum)) 4) y) 15)) fun x=>zC (at? c (Sx.lW .u16 (Sx.iU .u16 (Sx.shr .u16 (Sx.iU .u16 t (cvt .u16 sum)) 4) y) 15)) fun y_1=>some (Sx.iU .u16 (Sx.shr .u16 (Sx.iU .u16 (Sx.shr .u16 (Sx.iU .u16 t (cvt .u16 sum)) 4) y) 4) y_1,c,())))
def Mi(x:As [.int .u16,.int .u8,.sl (.int .u16)]):Option (As [.int .u16,.sl (.int .u16)]):=WU x.1 x.2.1 x.2.2.1
theorem awM:au Tryz.prog (fun _=>True) 157 ⟨apu,Mi⟩:=ctn bq 6 fun J x=>by kernel_rfl
@[reducible] def agG:Sh:=⟨[.d aL],[],aI,[.d (.int .u16)],[],0,[.int .u16]⟩
def agH:Env:=(cts [(156,(⟨WR,WT⟩:Ct)),(157,(⟨apu,Mi⟩:Ct))])
def agI:List (Nat×Hint):=[(122,⟨[],[0,3,4,8,9]⟩)]
def WV(b:List Int)(sum t8 t9:Int)(t:List Int):St:=⟨[(0,dL b),(3,.pb 0 0),(4,d6 sum),(8,dI t8),(9,dI t9)],20,[],[(0,.row (.int .u16) 213 t)],1,[],0⟩
@[reducible] def atN:Type:=List Int->Int->Int->Int->List Int->Option eG
def Jd(self1:atN)(b:List Int)(sum t8 t9:Int)(t:List Int):Option eG :=
 if lt t9 t8=true then zC (at? b t9) fun y=>zC (Mi (sum,y,t,())) fun y=>self1 b y.1 t8 (add .i64 t9 1) y.2.1 else some (sum,())
def WW(j1:atN)(b:List Int):Option eG :=
 zC (WT ()) fun y=>need (eqi 16 (zF (zG y.1))) (need (eqi 16 (zF (zG y.1*1))) (j1 b 65535 (zF (zG b)) 0 y.1))
def OA(b:List Int)(sum t8 t9:Int)(t:List Int):Option eG :=
 cu (fun self s=>Jd (fun b sum t8 t9 t=>self (b,sum,t8,t9,t)) s.1 s.2.1 s.2.2.1 s.2.2.2.1 s.2.2.2.2) 18446744073709551616 (b,sum,t8,t9,t)
def Mj(x:As aI):Option eG:=WW OA x.1
abbrev pA7:=zp agH agI 97 agG
theorem awN{J w1 a b c d e}:pA7 J 122 [w1] (WV a b c d e)=Jd (C w1 WV) a b c d e:=by kernel_rfl
abbrev pA6:=zj agH agI 97 agG
theorem awO:C (pA6 122 []) WV=OA:=gLC (by decide) (by kernel_rfl) (fun _=>by unfold OA;rfl) fun _ _=>awN.trans (by kernel_rfl)
theorem apv:au Tryz.prog (fun _=>True) 97 ⟨agG,Mj⟩:=zcc (env:=agH) (d:=6) (hs:=Ev.get agI) (aj awL (aj awM bq)) (fun J x=>WW (C (J 122 []) WV) x.1) (fun _ _=>by kernel_rfl) fun _=>by rw[awO]<;>rfl
@[reducible] def WX:Sh:=⟨[.d aL],[],aI,[.d aL],[],0,aI⟩
def WZ(b:List Int):Option cA :=
 zC (Mj (b,())) fun y=>need (Ev.jR 0 (add .i64 (zF (zG b)) 2)) (need (small (zI (add .i64 (zF (zG b)) 2))) (need (small (0+zG b)) (need (small (zG b+Nat.succ (Nat.succ 0))) (some (b++[cvt .u8 y.1,cvt .u8 (Sx.shr .u16 y.1 8)],())))))
def BZ(x:As aI):Option cA:=WZ x.1
theorem apw:au Tryz.prog (fun _=>True) 47 ⟨WX,BZ⟩:=ctn (aj apv bq) 6 fun J x=>by kernel_rfl
@[reducible] def agJ:Sh:=⟨[.d (.int .u8)],[],[.int .u8],[.d (.bool)],[],0,[.bool]⟩
def OB(unit:Int):Option aF :=
 if ge unit 1=true then some (le unit 247,()) else some (false,())
def Fp(x:As [.int .u8]):Option aF:=OB x.1
theorem apx:au Tryz.prog (fun _=>True) 160 ⟨agJ,Fp⟩:=ctn bq 6 fun J x=>by kernel_rfl
@[reducible] def fN:List Ty:=[.int .u8,.sl (.int .u8)]
@[reducible] def W9:Sh:=⟨[.d (.int .u8),.d aL],[],fN,[.d aL,.d (.int .i64)],[],0,aU⟩
def agL:Env:=(cts [(47,(⟨WX,BZ⟩:Ct)),(160,(⟨agJ,Fp⟩:Ct))])
def agM:List (Nat×Hint):=[(6,⟨[],[0,1,18]⟩)]
def agN(unit:Int)(pdu:List Int)(t18:Bool):St:=⟨[(0,d8 unit),(1,dL pdu),(18,dB t18)],24,[],[],0,[],0⟩
def Xa(unit:Int)(pdu:List Int)(t18:Bool):Option dA :=
 if t18=true then some ([],2,()) else need (small (Nat.succ 0+zG pdu)) (zC (BZ (unit::pdu,())) fun y=>some (y.1,0,()))
def Xb(j1:Int->List Int->Bool->Option dA)(unit:Int)(pdu:List Int):Option dA :=
 zC (Fp (unit,())) fun y=>if (!y.1)=true then j1 unit pdu true else if lt (zF (zG pdu)) 1=true then j1 unit pdu true else j1 unit pdu (gt (zF (zG pdu)) 253)
def agO:=Xa
def OC(x:As fN):Option dA:=Xb agO x.1 x.2.1
abbrev pC7:=zp agL agM 102 W9
theorem awP{J a b c}:pC7 J 6 [] (agN a b c)=Xa a b c:=by kernel_rfl
abbrev pC6:=zj agL agM 102 W9
theorem awQ:C (pC6 6 []) agN=agO:=gNC (by decide) fun _=>awP
theorem apy:au Tryz.prog (fun _=>True) 102 ⟨W9,OC⟩:=zcc (env:=agL) (d:=6) (hs:=Ev.get agM) (aj apw (aj apx bq)) (fun J x=>Xb (C (J 6 []) agN) x.1 x.2.1) (fun _ _=>by kernel_rfl) fun _=>by rw[awQ]<;>rfl
@[reducible] def awR:Sh:=⟨[.d (.int .u8),.d bA],[],[.int .u8,.pr (.int .u8) lC],[.d aL,.d (.int .i64)],[],0,aU⟩
def Xc(unit:Int)(a:zE7):Option dA :=
 zC (Fj (a,())) fun y=>if nei y.2.1 0=true then some ([],y.2.1,()) else zC (OC (unit,y.1,())) fun y=>some (y.1,y.2.1,())
def Xd(x:As [.int .u8,.pr (.int .u8) lC]):Option dA:=Xc x.1 x.2.1
theorem awS:au Tryz.prog (fun _=>True) 344 ⟨awR,Xd⟩:=ctn (aj agt (aj apy bq)) 6 fun J x=>by kernel_rfl
@[reducible] def awT:Sh:=⟨[.d (.un),.d (.int .u8),.d (.int .u16),.d bA],[],dV,[.d aL],[],0,aI⟩
def agQ(v:Unit)(unit tx:Int)(a:zE7):Option cA :=
 zC (Xd (unit,a,())) fun y=>if nei y.2.1 0=true then some ([],()) else some (y.1,())
def agR(x:As dV):Option cA:=agQ x.1 x.2.1 x.2.2.1 x.2.2.2.1
theorem awU:au Tryz.prog (fun _=>True) 341 ⟨awT,agR⟩:=ctn (aj awS bq) 6 fun J x=>by kernel_rfl
@[reducible] def awV:Sh:=⟨[.d (.un),.d (.int .u16)],[],[.un,.int .u16],[.d (.int .u16)],[],0,[.int .u16]⟩
def awW(v:Unit)(tx:Int):Option eG :=
 some (tx,())
def agS(x:As [.un,.int .u16]):Option eG:=awW x.1 x.2.1
theorem awX:au Tryz.prog (fun _=>True) 342 ⟨awV,agS⟩:=ctn bq 6 fun J x=>by kernel_rfl
@[reducible] def dO:List Ty:=[.pr (.int .u8) sW,.sl (.int .u8)]
@[reducible] def awY:Sh:=⟨[.d aC],[],cH,[.d aC,.d aL],[],0,dO⟩
def agT(p:zE0):Option (As dO) :=
 if eqi p.2.1 2=true then zC (agA ((),p.2.2.2.2.2.2.1,())) fun y=>zC (agz ((),p.1,y.1,p.2.2.2.2.2.1,())) fun y_1=>some ((p.1,p.2.1,p.2.2.1,p.2.2.2.1,p.2.2.2.2.1,p.2.2.2.2.2.1,y.1,p.2.2.1,p.2.2.2.2.2.2.2.2),y_1.1,()) else zC (agS ((),p.2.2.2.2.2.2.1,())) fun y=>zC (agR ((),p.1,y.1,p.2.2.2.2.2.1,())) fun y_1=>some ((p.1,p.2.1,p.2.2.1,p.2.2.2.1,p.2.2.2.2.1,p.2.2.2.2.2.1,y.1,p.2.2.1,p.2.2.2.2.2.2.2.2),y_1.1,())
def Xe(x:As cH):Option (As dO):=agT x.1
theorem apz:au Tryz.prog (fun _=>True) 115 ⟨awY,Xe⟩:=ctn (aj awz (aj awE (aj awU (aj awX bq)))) 6 fun J x=>by kernel_rfl
@[reducible] def eW:List Ty:=[.pr (.int .u8) sW,.sl (.int .u8),.int .i64]
@[reducible] def apA:Sh:=⟨[.d aC,.d bA],[],[.pr (.int .u8) sW,.pr (.int .u8) lC],[.d aC,.d aL,.d (.int .i64)],[],0,eW⟩
def agU(p:zE0)(a:zE7):Option (As eW) :=
 if p.2.2.2.2.1=true then zC (Am (p,())) fun y=>some (y.1,[],30,()) else zC (wD (a,())) fun y=>if (!y.1)=true then zC (Am (p,())) fun y=>some (y.1,[],12,()) else zC (Ww (a,())) fun y=>zC (Xe ((p.1,p.2.1,p.2.2.1,p.2.2.2.1,true,y.1,p.2.2.2.2.2.2.1,p.2.2.2.2.2.2.2.1,p.2.2.2.1),())) fun y=>some (y.1,y.2.1,0,())
def Je(x:As [.pr (.int .u8) sW,.pr (.int .u8) lC]):Option (As eW):=agU x.1 x.2.1
theorem awZ:au Tryz.prog (fun _=>True) 116 ⟨apA,Je⟩:=ctn (aj Ov (aj Wy (aj apz (aj apc bq)))) 6 fun J x=>by kernel_rfl
@[reducible] def cI:List Ty:=[.pr (.int .i64) aB]
@[reducible] def OD:Sh:=⟨[.d d9],[],cI,[.d (.bool)],[],0,[.bool]⟩
def agV(x:Int×List Int):Option aF :=
 if le (zF (zG x.2)) 14=true then if ge x.1 0=true then if lt x.1 64=true then some (le (add .i64 x.1 (zF (zG x.2))) 64,()) else some (false,()) else some (false,()) else some (false,())
def sZ(x:As cI):Option aF:=agV x.1
theorem Jf:au Tryz.prog (fun _=>True) 26 ⟨OD,sZ⟩:=ctn bq 6 fun J x=>by kernel_rfl
@[reducible] def OE:Sh:=⟨[.d d9],[],cI,[.d aB],[],0,aJ⟩
def agW:Env:=(cts [(26,(⟨OD,sZ⟩:Ct))])
def agX:List (Nat×Hint):=[(7,⟨[],[3]⟩),(60,⟨[],[3]⟩)]
def agY(l:List Int):St:=⟨[(3,.row 0)],28,[],[(0,.row (.int .u16) 25 l)],1,[],0⟩
def Xf(l:List Int):St:=⟨[(3,.row 0)],28,[],[(0,.row (.int .u16) 25 l)],1,[],0⟩
@[reducible] def agZ:Type:=List Int->Option bY
def atO(j2:agZ)(l:List Int):Option bY :=
 j2 l
def Xg(self2:agZ)(l:List Int):Option bY :=
 if lt (zF (zG l)) 16=true then need (small (zG l+1)) (self2 (l++[0])) else some (l,())
def Xh(j1:agZ)(x:Int×List Int):Option bY :=
 zC (sZ (x,())) fun y=>if y.1=true then need (small (0+Nat.succ (Nat.succ 0))) (need (small (Nat.succ (Nat.succ 0)+zG x.2)) (j1 (cvt .u16 x.1::cvt .u16 (zF (zG x.2))::x.2))) else j1 (zE 0 0)
def OG(l:List Int):Option bY :=
 cu (fun self s=>Xg (fun l=>self (l)) s) 18446744073709551616 (l)
def Xi:=atO (OG)
def Fq(x:As cI):Option bY:=Xh Xi x.1
abbrev pD7:=zp agW agX 267 OE
theorem aw0{J w2 a}:pD7 J 60 [w2] (Xf a)=Xg (C w2 Xf) a:=by kernel_rfl
theorem aw1{J a}:pD7 J 7 [] (agY a)=atO (C (J 60 []) Xf) a:=by kernel_rfl
abbrev pD6:=zj agW agX 267 OE
theorem aw2:C (pD6 60 []) Xf=OG:=gLC (by decide) (by kernel_rfl) (fun _=>by unfold OG;rfl) fun _ _=>aw0.trans (by kernel_rfl)
theorem aw3:C (pD6 7 []) agY=Xi:=gNC (by decide) fun _=>aw1.trans (by rw[aw2]<;>kernel_rfl)
theorem ag0:au Tryz.prog (fun _=>True) 267 ⟨OE,Fq⟩:=zcc (env:=agW) (d:=6) (hs:=Ev.get agX) (aj Jf bq) (fun J x=>Xh (C (J 7 []) agY) x.1) (fun _ _=>by kernel_rfl) fun _=>by rw[aw3]<;>rfl
@[reducible] def apB:Sh:=⟨[.d (.int .u32)],[],[.int .u32],[.d (.int .u32)],[],0,[.int .u32]⟩
@[reducible] def aQ:Type:=As [.int .u32]
def ag1(sum:Int):Option aQ :=
 if eqi (Sx.lW .u32 sum 1) 1=true then some (Sx.iU .u32 (Sx.shr .u32 sum 1) 3988292384,()) else some (Sx.shr .u32 sum 1,())
def OH(x:As [.int .u32]):Option aQ:=ag1 x.1
theorem aw4:au Tryz.prog (fun _=>True) 301 ⟨apB,OH⟩:=ctn bq 6 fun J x=>by kernel_rfl
@[reducible] def Xj:Sh:=⟨[.d (.int .u32),.d (.int .u8)],[],[.int .u32,.int .u8],[.d (.int .u32)],[],0,[.int .u32]⟩
def ag2:Env:=(cts [(301,(⟨apB,OH⟩:Ct))])
def ag3:List (Nat×Hint):=[(58,⟨[],[0,9]⟩)]
def Xl(sum t9:Int):St:=⟨[(0,d2 sum),(9,dI t9)],15,[],[],0,[],0⟩
def OI(self1:Int->Int->Option aQ)(sum t9:Int):Option aQ :=
 if lt t9 8=true then zC (OH (sum,())) fun y=>self1 y.1 (add .i64 t9 1) else some (sum,())
def apC(j1:Int->Int->Option aQ)(sum b:Int):Option aQ :=
 j1 (Sx.iU .u32 sum (cvt .u32 b)) 0
def OJ(sum t9:Int):Option aQ :=
 cu (fun self s=>OI (fun sum t9=>self (sum,t9)) s.1 s.2) 18446744073709551616 (sum,t9)
def Mk(x:As [.int .u32,.int .u8]):Option aQ:=apC OJ x.1 x.2.1
abbrev pD9:=zp ag2 ag3 298 Xj
theorem aw5{J w1 a b}:pD9 J 58 [w1] (Xl a b)=OI (C w1 Xl) a b:=by kernel_rfl
abbrev pD8:=zj ag2 ag3 298 Xj
theorem aw6:C (pD8 58 []) Xl=OJ:=gLC (by decide) (by kernel_rfl) (fun _=>by unfold OJ;rfl) fun _ _=>aw5.trans (by kernel_rfl)
theorem aw7:au Tryz.prog (fun _=>True) 298 ⟨Xj,Mk⟩:=zcc (env:=ag2) (d:=6) (hs:=Ev.get ag3) (aj aw4 bq) (fun J x=>apC (C (J 58 []) Xl) x.1 x.2.1) (fun _ _=>by kernel_rfl) fun _=>by rw[aw6]<;>rfl
end Go.Proofs.Lx
end
