/- Proved in the last of these 15 parts (this is part 5): TalkEnds. Conditions: those of the given statement, and no others. -/
import Derived.Test.YtljkanofaahagaaGreatCPartd
import Derived.Test.YtljkanofaahagaaGreatCParta
import Derived.Test.YtljkanofaahagaaGreatProg
set_option linter.unusedVariables false
set_option linter.unusedSimpArgs false
set_option linter.unusedSectionVars false
open Option renaming bind → zC, bind_some → zD, none → zH
open List renaming replicate → zE, length → zG, getD → zJ, getElem?_eq_getElem → zV
open Int renaming ofNat → zF, toNat → zI
open Go.Value renaming slice → zK
noncomputable section
namespace Rw
open Go Ev Sx Go.RowKit
def dgo(g:TypeId->Option Ty)(P:Program):Nat->List Field->Option (List Ty)
 | _,[]=>some []
 | off,f::r=>(g f.type).bind fun a=>if f.offset=off∧P.cellsOf f.type=a.size then (dgo g P (off+a.size) r).map fun q=>a::q else none
def zw:List Ty->Nat
 | []=>0
 | a::r=>a.size+zw r
def dty(P:Program):Nat->TypeId->Option Ty
 | 0,_=>none
 | n+1,t=>match P.underlying t with
  | some (.int k)=>some (.int k)
  | some .bool=>some .bool
  | some .string=>some .str
  | some (.slice e)=>(dty P n e).bind fun y=>if P.cellsOf e=y.size∧y.size≠0 then some (.sl y) else none
  | some (.struct fs)=>(dgo (dty P n) P 0 fs.toList).bind fun l=>if P.cellsOf t=zw l then some (rZ l) else none
  | _=>none
def okV:(t:Ty)->Vl t->Prop
 | .int k,x=>(Lit.int k x).wf=true
 | .bool,_=>True
 | .str,x=>x.length≤maxLen
 | .sl t,xs=>xs.length≤maxLen∧∀x∈xs,okV t x
 | .pr a b,x=>okV a x.1∧okV b x.2
 | .wr a,x=>okV a x
 | .un,_=>True
 | .ar n t,xs=>xs.length=n∧∀x∈xs,okV t x
 | .mp _ _,_=>True
section
variable {H:Type}{enc:TypeId×Value->H}{P:Program}{w:World}{base:Nat}{sp:Nat->Bool}{held:Bool}
theorem apg{t:Ty}{L:Lx}{cs:List Value}{x:Vl t}(h:(rp t).rel L w cs x):cs.length=t.size:=by rw[(rp t).len h,gX]
def an1(w:World)(cs:List Value)(off:Nat)(a:Ty):Prop:=∃v:Vl a,(rp a).rel [] w ((cs.drop off).take a.size) v∧okV a v
def xO(w:World)(cs:List Value):Nat->List Ty->Prop
 | _,[]=>True
 | off,a::r=>an1 w cs off a∧xO w cs (off+a.size) r
theorem ZQ{cs:List Value}:∀(r:List Ty) (a:Ty) (off:Nat),xO w cs off (a::r)->off+a.size+zw r=cs.length->∃v:Vl (rZ.prs a r),(rp (rZ.prs a r)).rel [] w (cs.drop off) v∧okV (rZ.prs a r) v
 | [],a,off,⟨⟨v,h1,h2⟩,_⟩,hl=>by have:(cs.drop off).take a.size=cs.drop off:=List.take_of_length_le (by simp[zw]at hl ⊢;omega);rw[this]at h1;exact⟨v,h1,h2⟩
 | b::r,a,off,⟨⟨v,h1,h2⟩,h3⟩,hl=>by obtain⟨u,h4,h5⟩:=ZQ r b (off+a.size) h3 (by simp[zw]at hl ⊢;omega);refine⟨(v,u),⟨(cs.drop off).take a.size,cs.drop (off+a.size),?_,h1,h4⟩,h2,h5⟩;rw[<- List.drop_drop];exact (List.take_append_drop _ _).symm
theorem aph{cs:List Value}:∀(l:List Ty),xO w cs 0 l->zw l=cs.length->∃v:Vl (rZ l),(rp (rZ l)).rel [] w cs v∧okV (rZ l) v
 | [],_,hl=>⟨(),(by show cs=[];exact List.eq_nil_of_length_eq_zero hl.symm),trivial⟩
 | [a],⟨⟨v,h1,h2⟩,_⟩,hl=>by
  have:(cs.drop 0).take a.size=cs:=by rw[List.drop_zero];exact List.take_of_length_le (by simp[zw]at hl;omega)
  rw[this]at h1;exact⟨v,h1,h2⟩
 | a::b::r,h,hl=>ZQ (b::r) a 0 h (by simp[zw]at hl ⊢;omega)
theorem ZR{g:TypeId->Option Ty}{cs:List Value}(ih:∀t y n c x,g t=some y->DataW.trod enc P w base sp held n t c=some x->∃v:Vl y,(rp y).rel [] w c v∧okV y v)(n:Nat) :
  ∀(fs:List Field) (off:Nat) (l:List Ty),dgo g P off fs=some l->(∀f∈fs,∃x,DataW.trod enc P w base sp held n f.type ((cs.drop f.offset).take (P.cellsOf f.type))=some x)->xO w cs off l
 | [],off,l,h,_=>by cases h;trivial
 | f::r,off,l,h,hx=>by
  obtain⟨a,h1,h⟩:=Option.bind_eq_some_iff.1 h;split at h
  ·rename_i hc
   obtain⟨q,h2,rfl⟩:=Option.map_eq_some_iff.1 h;obtain⟨x,h3⟩:=hx f (List.mem_cons_self ..);obtain⟨v,h4,h5⟩:=ih _ _ _ _ _ h1 h3;rw[hc.1,hc.2]at h4;exact⟨⟨v,h4,h5⟩,ZR ih n r _ _ h2 fun f hf=>hx f (List.mem_cons_of_mem _ hf)⟩
  ·cases h
theorem ab7{a:Addr}{n:Nat}{cs:List Value}(h:w.cells? base a n=some cs):cs.length=n∧∀j v,cs[j]? = some v->w.cell? (a.add j)=some v:=by
 unfold World.cells? at h;split at h
 ·have hl:cs.length=n:=by simpa using mapM_some_length h
  refine⟨hl,fun j v hj=>?_⟩;have hjl:j<n:=by rw[<- hl];exact (List.getElem?_eq_some_iff.1 hj).1
  have:=mapM_some_get h j j (by simp[hjl]);rw[this,hj]
 ·cases h
theorem SA{a:Addr}{v:Value}(h:w.cell? a=some v):a.spot=none∧a.block<w.heap.size:=by
 unfold World.cell? at h;split at h
 ·rename_i hb
  split at h
  ·cases h
  ·rename_i hs
   exact⟨by simpa using hs,(Array.getElem?_eq_some_iff.1 hb).1⟩
 ·cases h
theorem add_plain(b o n:Nat):(⟨b,o,none⟩:Addr).add n=⟨b,o+n,none⟩:=by
 unfold Addr.add;split
 ·rename_i h;subst h;rfl
 ·rfl
theorem add_zero(a:Addr):a.add 0=a:=by unfold Addr.add;rw[if_pos rfl]
theorem FO:∀(m:Nat) (t:TypeId) (y:Ty) (n:Nat) (cs:List Value) (x:DataW H×List MemPlace),dty P m t=some y->DataW.trod enc P w base sp held n t cs=some x->∃v:Vl y,(rp y).rel [] w cs v∧okV y v
 | 0,_,_,_,_,_,h,_=>by cases h
 | m+1,t,y,n,cs,x,h,hx=>by
  unfold dty at h;split at h
  ·rename_i k ht
   cases h
   obtain⟨z,rfl,_,hw⟩:=DataW.trod_int ht hx;exact⟨z,rfl,hw⟩
  ·rename_i ht
   cases h
   obtain⟨b,rfl,_⟩:=DataW.trod_bool ht hx;exact⟨b,rfl,trivial⟩
  ·rename_i ht
   cases h
   obtain⟨⟨⟨s⟩⟩,rfl,_,hs⟩:=DataW.trod_string ht hx;exact⟨s,rfl,hs⟩
  ·rename_i e ht
   obtain⟨y',h1,h⟩:=Option.bind_eq_some_iff.1 h;split at h
   ·rename_i hc
    cases h
    rcases DataW.trod_slice ht hx with ⟨rfl,_⟩ | ⟨a,len,cap,elems,rest,n',_,rfl,_,_,hlc,hcm,hel,hat,_⟩
    ·exact⟨[],uN _ _ _ _ _,by simp,fun x hx=>by cases hx⟩
    ·have each:∀i:Fin len,∃v:Vl y',(∃c,(rp y').rel [] w c v∧c.length=y'.size∧∀j u,c[j]? = some u->w.cell? ((a.add (i.1*P.cellsOf e)).add j)=some u)∧okV y' v:=fun i=>by have hi:=hat i.1 i.2;have:∃z,elems[i.1]? = some z:=⟨_,zV (by rw[hel];exact i.2)⟩;obtain⟨z,hz⟩:=this;rw[hz]at hi;obtain⟨c,hc1,hc2⟩:=Option.bind_eq_some_iff.1 hi;obtain⟨v,hv1,hv2⟩:=FO m e y' n' c z h1 hc2;exact⟨v,⟨c,hv1,apg hv1,(ab7 hc1).2⟩,hv2⟩
     refine⟨List.ofFn fun i=>Classical.choose (each i),⟨some a,cap,by simp,by simp;omega,fun hne=>?_⟩,by simp;omega,fun v hv=>?_⟩
     ·have hlen:0<len:=by
       rcases Nat.eq_zero_or_pos len with h0 | h0
       ·subst h0;simp at hne
       ·exact h0
      obtain⟨⟨c,_,hcl,hcc⟩,_⟩:=Classical.choose_spec (each ⟨0,hlen⟩);have hpos:0<c.length:=by have:=hc.2;omega
      have h0:=SA (hcc 0 c[0] (zV hpos));rw[show (⟨0,hlen⟩:Fin len).1*P.cellsOf e=0 from Nat.zero_mul _,add_zero,add_zero]at h0;obtain⟨b,o,s⟩:=a;obtain⟨hs,hb⟩:=h0;have hs:s=none:=hs;subst hs;refine⟨b,o,rfl,fun i x hi=>?_⟩;have hil:i<len:=by have:=(List.getElem?_eq_some_iff.1 hi).1;simpa using this
      have hxe:x=Classical.choose (each ⟨i,hil⟩):=by rw[List.getElem?_ofFn,dif_pos hil]at hi;exact (Option.some.inj hi).symm
      obtain⟨⟨c,hc1,_,hc3⟩,_⟩:=Classical.choose_spec (each ⟨i,hil⟩);subst hxe;refine⟨hb,by simp,c,hc1,fun j v hj=>?_⟩;have:=hc3 j v hj;rw[gX,<- hc.1];rw[add_plain,add_plain]at this;exact this
     ·obtain⟨i,rfl⟩:=List.mem_ofFn.1 hv
      exact (Classical.choose_spec (each i)).2
   ·cases h
  ·rename_i fs ht
   obtain⟨l,h1,h⟩:=Option.bind_eq_some_iff.1 h;split at h
   ·rename_i hc
    cases h
    obtain⟨xs,n',_,_,hl,hxl,hf⟩:=DataW.trod_struct ht hx;refine aph l ?_ (by rw[hl,hc]);refine ZR (fun t y n c x h1 h2=>FO m t y n c x h1 h2) n' fs.toList 0 l h1 fun f hfm=>?_;obtain⟨i,hi,rfl⟩:=List.getElem_of_mem hfm;have hi':i<fs.size:=by simpa using hi
    have:=hf i fs[i] (Array.getElem?_eq_getElem hi');rw[zV (by omega)]at this;exact⟨_,this⟩
   ·cases h
  ·cases h
theorem apj{t:TypeId}{y:Ty}{m:Nat}{v:Value}{d:DataW H}{ps:List MemPlace}{r:Reach}{b':Nat}{w':World}(hd:dty P (m+1) t=some y)(ho:Value.okWide P w' r b' t v)(h:DataW.Trod enc P w base sp held t v d ps):∃x:Vl y,Den [] [] w (.d y x) v∧okV y x:=by
 obtain⟨n,hn⟩:=h;obtain⟨x,h1,h2⟩:=FO (m+1) t y n _ _ hd hn;refine⟨x,⟨v.cells.toList,h1,?_⟩,h2⟩;have one:∀u:Value,v=u->u.cells = #[u]->y.agg=false->v=(rp y).val v.cells.toList:=fun u e hc ha=>by subst e;simp[Rp.val,gH,ha,hc]
 unfold dty at hd;split at hd
 ·rename_i k ht
  cases hd
  obtain⟨z,rfl⟩:=Go.WideShapes.okWide_int ht ho;exact one _ rfl rfl rfl
 ·rename_i ht
  cases hd
  obtain⟨b,hb,_⟩:=DataW.trod_bool ht hn;have:∃b,v = .bool b:=by simp only[Value.okWide,ht,Cell.okWide]at ho;cases v<;>simp_all[Cell.ok]
  obtain⟨b,rfl⟩:=this;exact one _ rfl rfl rfl
 ·rename_i ht
  cases hd
  obtain⟨s,rfl⟩:=Go.WideShapes.okWide_string ht ho;exact one _ rfl rfl rfl
 ·rename_i e ht
  obtain⟨y',h3,hd⟩:=Option.bind_eq_some_iff.1 hd;split at hd
  ·cases hd
   obtain⟨a,len,cap,rfl⟩:=Go.WideShapes.okWide_slice ht ho;exact one _ rfl rfl rfl
  ·cases hd
 ·rename_i fs ht
  obtain⟨l,h3,hd⟩:=Option.bind_eq_some_iff.1 hd;split at hd
  ·cases hd
   simp only[Value.okWide,ht]at ho;obtain⟨cs,rfl,_,_⟩:=ho
   have ha:(rZ l).agg=true:=by
    match l with
    | []=>rfl
    | [a]=>rfl
    | a::b::q=>rfl
   simp[Rp.val,gH,ha,Value.cells]
  ·cases hd
 ·cases hd
end
end Rw
end
noncomputable section
namespace Rw
open Go Ev Sx Go.RowKit
theorem ab8{W W':World}(h:Blw (Bo [] [] W) W W'):Below W.heap.size W W' :=
 ⟨h.os,h.tape,h.output,h.size,fun k hk=>h.block k hk (by
  rintro (h | h)
  ·cases h
  ·omega)⟩
theorem aAi(W:World):LOk (Bo [] [] W) (lx [] []) [] W:=⟨.nil,fun k h=>(by cases h),fun k h=>(by cases h),fun k h=>.inr h,fun k h=>(by cases h)⟩
theorem ZS{P:Program}{f:FuncId}{ts:List TS}{ps:List Ty}{m:As ps->Option (Bool×Unit)}(h:ak P (fun _=>True) f ⟨⟨ts,[],ps,[.d .bool],[],0,[.bool]⟩,m⟩){x:As ps}(hm:m x=some (true,())){ss:List SV}(hA:fA ts [] (qo ps x)=some (ss,[])){vs:List Value}{W:World}(hd:DenL [] [] W ss vs) :
  Calls P f vs.toArray W (fun e W'=>∃v,e = .returned v∧v = .bool true∧Below W.heap.size W W'):=by
 refine (h [] W [] x (true,()) ss [] vs hm hA rfl (fun _ _=>trivial) (aAi W) (fun e he=>by cases he) hd).mono fun e w' he=>?_;obtain⟨us,rfl,pl',rr,own',h1,_,_,h4,_,_,h7⟩:=he;have h1:some ([SV.d .bool true],([]:List (Nat×Ent)))=some (rr,own'):=h1;cases h1;obtain⟨v,q,rfl,h8,h9⟩:=h7;cases h9;exact⟨_,rfl,lq h8,ab8 h4⟩
def okA:(ps:List Ty)->As ps->Prop
 | [],_=>True
 | a::r,x=>okV a x.1∧okA r x.2
def dS:(ps:List Ty)->As ps->List SV
 | [],_=>[]
 | a::r,x=>.d a x.1::dS r x.2
theorem apk:∀(ps:List Ty) (x:As ps),fL (ps.map TS.d) (qo ps x)=some (dS ps x,[])
 | [],_=>rfl
 | a::r,x=>by show (fS (.d a) (⟨a,x.1⟩::qo r x.2)).bind _=_;unfold fS;simp only[oL,Option.map_some,zD];rw[apk r x.2];rfl
theorem aAj(ps:List Ty)(x:As ps):fA (ps.map TS.d) [] (qo ps x)=some (dS ps x,[]):=by unfold fA;rw[apk,zD];rfl
def ab9(P:Program):List TypeId->Option (List Ty)
 | []=>some []
 | t::r=>(dty P 13 t).bind fun y=>(ab9 P r).map fun q=>y::q
theorem Qo{P:Program}{H:Type}{enc:TypeId×Value->H}{W:World}{b0:Nat}{sp:Nat->Bool}{held:Bool}:∀{ts:List TypeId} {ps:List Ty} {vs:List Value} {ds:List (DataW H)} {p:List MemPlace},ab9 P ts=some ps ->
  (∀(j:Nat) t v,ts[j]? = some t->vs[j]? = some v->∃r b w',Value.okWide P w' r b t v)->DataW.TrodAll enc P W b0 sp held ts vs ds p->∃x:As ps,okA ps x∧DenL [] [] W (dS ps x) vs
 | [],ps,vs,ds,p,h,_,hA=>by
  cases h
  cases vs with
  | nil=>exact⟨(),trivial,rfl⟩
  | cons v vs=>cases ds<;>exact absurd hA (by simp[DataW.TrodAll])
 | t::ts,ps,vs,ds,p,h,ho,hA=>by
  obtain⟨y,h1,h⟩:=Option.bind_eq_some_iff.1 h;obtain⟨q,h2,rfl⟩:=Option.map_eq_some_iff.1 h
  match vs,ds,hA with
  | v::vs,d::ds,hA =>
   obtain⟨p1,p2,h3,h4,_⟩:=hA;obtain⟨r,b,w',h5⟩:=ho 0 t v rfl rfl;obtain⟨x,hx1,hx2⟩:=apj h1 h5 h3;obtain⟨xs,hy1,hy2⟩:=Qo h2 (fun j t v ht hv=>ho (j+1) t v ht hv) h4;exact⟨(x,xs),⟨hx2,hy1⟩,v,vs,rfl,hx1,hy2⟩
  | [],_,hA=>exact absurd hA (by simp[DataW.TrodAll])
  | _::_,[],hA=>exact absurd hA (by simp[DataW.TrodAll])
theorem an2{P:Program}{f:FuncId}{ps:List Ty}{m:As ps->Option (Bool×Unit)}(h:ak P (fun _=>True) f ⟨⟨ps.map TS.d,[],ps,[.d .bool],[],0,[.bool]⟩,m⟩)(law:∀x,okA ps x->m x=some (true,()))
  {ts:Array TypeId} (ht:ab9 P ts.toList=some ps) {H:Type} {enc:TypeId×Value->H} {W:World} {b0:Nat} {sp:Nat->Bool} {held:Bool} {args:Array Value} {ds:List (DataW H)} {p:List MemPlace}
  (hval:∀(j:Nat) t v,ts[j]? = some t->args[j]? = some v->∃r b w',Value.okWide P w' r b t v) (hA:DataW.TrodAll enc P W b0 sp held ts.toList args.toList ds p) :
  Calls P f args W (fun e W'=>∃v,e = .returned v∧v = .bool true∧Below W.heap.size W W'):=by
 obtain⟨x,h1,h2⟩:=Qo ht (fun j t v h3 h4=>hval j t v (by simpa using h3) (by simpa using h4)) hA;have:=ZS h (law x h1) (aAj ps x) h2;simpa using this
end Rw
end
noncomputable section
namespace Go.Proofs.Lx
open Go Ev Sx
abbrev bn:=Int×List Int
abbrev l9:=Int×List Bool×List bn
abbrev TLs:=Int×Int
abbrev TAg:=List Int×TLs×Int×Int×Int×l9×Int
abbrev TSl:=Int×Int×TAg×List Bool
abbrev zSt:l9:=(0,[false,false,false,false,false,false,false,false],[(0,[]),(0,[]),(0,[]),(0,[]),(0,[]),(0,[]),(0,[]),(0,[])])
abbrev zx:TAg:=([],(0,0),0,0,0,zSt,0)
abbrev zSl:TSl:=(0,0,zx,[])
abbrev iY(a:TAg):TAg:=(a.1,a.2.1,a.2.2.1,a.2.2.2.1,a.2.2.2.2.1,(a.2.2.2.2.2.1.1,[a.2.2.2.2.2.1.2.1.getD 0 false,a.2.2.2.2.2.1.2.1.getD 1 false,a.2.2.2.2.2.1.2.1.getD 2 false,a.2.2.2.2.2.1.2.1.getD 3 false,a.2.2.2.2.2.1.2.1.getD 4 false,a.2.2.2.2.2.1.2.1.getD 5 false,a.2.2.2.2.2.1.2.1.getD 6 false,a.2.2.2.2.2.1.2.1.getD 7 false],[a.2.2.2.2.2.1.2.2.getD 0 (0,[]),a.2.2.2.2.2.1.2.2.getD 1 (0,[]),a.2.2.2.2.2.1.2.2.getD 2 (0,[]),a.2.2.2.2.2.1.2.2.getD 3 (0,[]),a.2.2.2.2.2.1.2.2.getD 4 (0,[]),a.2.2.2.2.2.1.2.2.getD 5 (0,[]),a.2.2.2.2.2.1.2.2.getD 6 (0,[]),a.2.2.2.2.2.1.2.2.getD 7 (0,[])]),a.2.2.2.2.2.2)
end Go.Proofs.Lx
end
noncomputable section
namespace Go.Proofs.Lx
open Go Ev Sx
abbrev aAk:=Int×Int×Int×Int×List Int×List Bool
abbrev TPo:=Int×Int×Int×Int×Bool×aAk×Int×Int×Int
abbrev TTk:=TPo×Int×Int×List bn×Int×Int×Int×Int×Int
@[reducible] def aC:Ty:=.sl (.int .u16)
@[reducible] def eY(t:TTk)(r:List SV):List SV :=
 .d (.int .u8) t.1.1::.d (.int .u8) t.1.2.1::.d (.int .i64) t.1.2.2.1::.d (.int .i64) t.1.2.2.2.1::.d .bool t.1.2.2.2.2.1::.d (.int .u8) t.1.2.2.2.2.2.1.1::.d (.int .u16) t.1.2.2.2.2.2.1.2.1::.d (.int .u16) t.1.2.2.2.2.2.1.2.2.1::.d (.int .u16) t.1.2.2.2.2.2.1.2.2.2.1::.d aC t.1.2.2.2.2.2.1.2.2.2.2.1::.d (.sl .bool) t.1.2.2.2.2.2.1.2.2.2.2.2::.d (.int .u16) t.1.2.2.2.2.2.2.1::.d (.int .i64) t.1.2.2.2.2.2.2.2.1::.d (.int .i64) t.1.2.2.2.2.2.2.2.2 ::
 .d (.int .u16) t.2.1::.d (.int .u32) t.2.2.1::.d (.sl (.pr (.int .i64) aC)) t.2.2.2.1::.d (.int .u8) t.2.2.2.2.1::.d (.int .u8) t.2.2.2.2.2.1::.d (.int .i64) t.2.2.2.2.2.2.1::.d (.int .i64) t.2.2.2.2.2.2.2.1::.d (.int .u8) t.2.2.2.2.2.2.2.2::r
@[reducible] def slC(s:TSl)(r:List SV):List SV :=
 .d (.int .u8) s.1::.d (.int .u8) s.2.1::.d aC s.2.2.1.1::.d (.int .u16) s.2.2.1.2.1.1::.d (.int .i64) s.2.2.1.2.1.2::.d (.int .u8) s.2.2.1.2.2.1::.d (.int .u32) s.2.2.1.2.2.2.1::.d (.int .u32) s.2.2.1.2.2.2.2.1::.d (.int .u32) s.2.2.1.2.2.2.2.2.1.1 ::
 .d .bool (zJ s.2.2.1.2.2.2.2.2.1.2.1 0 false)::.d .bool (zJ s.2.2.1.2.2.2.2.2.1.2.1 1 false)::.d .bool (zJ s.2.2.1.2.2.2.2.2.1.2.1 2 false)::.d .bool (zJ s.2.2.1.2.2.2.2.2.1.2.1 3 false)::.d .bool (zJ s.2.2.1.2.2.2.2.2.1.2.1 4 false)::.d .bool (zJ s.2.2.1.2.2.2.2.2.1.2.1 5 false)::.d .bool (zJ s.2.2.1.2.2.2.2.2.1.2.1 6 false)::.d .bool (zJ s.2.2.1.2.2.2.2.2.1.2.1 7 false) ::
 .d (.int .i64) (zJ s.2.2.1.2.2.2.2.2.1.2.2 0 (0,[])).1::.d aC (zJ s.2.2.1.2.2.2.2.2.1.2.2 0 (0,[])).2::.d (.int .i64) (zJ s.2.2.1.2.2.2.2.2.1.2.2 1 (0,[])).1::.d aC (zJ s.2.2.1.2.2.2.2.2.1.2.2 1 (0,[])).2 ::
 .d (.int .i64) (zJ s.2.2.1.2.2.2.2.2.1.2.2 2 (0,[])).1::.d aC (zJ s.2.2.1.2.2.2.2.2.1.2.2 2 (0,[])).2::.d (.int .i64) (zJ s.2.2.1.2.2.2.2.2.1.2.2 3 (0,[])).1::.d aC (zJ s.2.2.1.2.2.2.2.2.1.2.2 3 (0,[])).2 ::
 .d (.int .i64) (zJ s.2.2.1.2.2.2.2.2.1.2.2 4 (0,[])).1::.d aC (zJ s.2.2.1.2.2.2.2.2.1.2.2 4 (0,[])).2::.d (.int .i64) (zJ s.2.2.1.2.2.2.2.2.1.2.2 5 (0,[])).1::.d aC (zJ s.2.2.1.2.2.2.2.2.1.2.2 5 (0,[])).2 ::
 .d (.int .i64) (zJ s.2.2.1.2.2.2.2.2.1.2.2 6 (0,[])).1::.d aC (zJ s.2.2.1.2.2.2.2.2.1.2.2 6 (0,[])).2::.d (.int .i64) (zJ s.2.2.1.2.2.2.2.2.1.2.2 7 (0,[])).1::.d aC (zJ s.2.2.1.2.2.2.2.2.1.2.2 7 (0,[])).2::.d (.int .i64) s.2.2.1.2.2.2.2.2.2::.d (.sl .bool) s.2.2.2::r
@[reducible] def iZ(s:TSl):TSl:=(s.1,s.2.1,iY s.2.2.1,s.2.2.2)
@[reducible] def acd:Ty:=.pr (.int .i64) aC
@[reducible] def eO:Ty:=.pr (.int .u16) (.pr (.int .u16) (.pr (.int .u16) (.pr aC (.sl .bool))))
@[reducible] def eJ:Ty:=.pr (.int .i64) (.int .i64)
@[reducible] def eM:Ty:=.pr (.int .u8) (.pr (.int .u8) (.pr (.int .i64) (.pr (.int .i64) (.int .u8))))
@[reducible] def aAl:Ty:=.pr (.pr (.int .u8) (.pr (.int .u8) (.pr (.int .i64) (.pr (.int .i64) (.pr .bool (.pr (.pr (.int .u8) eO) (.pr (.int .u16) eJ))))))) (.pr (.int .u16) (.pr (.int .u32) (.pr (.sl acd) eM)))
@[reducible] def bX:Ty:=.pr (.int .u16) (.int .i64)
@[reducible] def aAm:Ty:=.pr (.int .u8) (.pr (.int .u8) (.pr (.pr aC (.pr bX (.pr (.int .u8) (.pr (.int .u32) (.pr (.int .u32) (.pr (.pr (.int .u32) (.pr (.ar 8 .bool) (.ar 8 acd))) (.int .i64))))))) (.sl .bool)))
@[reducible] def prG(k:Nat):TE:=.bsg 48 [.d aAl,.d aAm,.s (.row k),.d (.int .u32),.d (.int .u32),.d (.sl (.sl acd))]
end Go.Proofs.Lx
end
noncomputable section
open Go Go.Proofs Ev Sx
set_option maxRecDepth 100000
namespace Go.Proofs.Lx
abbrev jH:Ty:=eO
@[reducible] def bA:Ty:=.pr (.int .u8) jH
abbrev qz:Ty:=(.pr (.int .u8) (.pr (.int .i64) (.pr (.int .i64) (.pr .bool (.pr bA (.pr (.int .u16) eJ))))))
abbrev cr:Ty:=(.pr (.int .i64) aC)
abbrev tV:Ty:=(.pr bX (.pr (.int .u8) (.pr (.int .u32) (.pr (.int .u32) (.pr (.pr (.int .u32) (.pr (.ar 8 .bool) (.ar 8 cr))) (.int .i64))))))
abbrev lK:Ty:=(.pr (.int .u16) (.pr (.int .u32) (.pr (.sl cr) eM)))
abbrev uS:Type:=(Int×Int×Int×Int×List Int×List Bool)
abbrev Lv:Type:=(Int×Int×Int×Int×Bool×uS×Int×Int×Int)
abbrev nW:Type:=(Int×List Bool×List (Int×List Int))
abbrev jq:Type:=(List Int×(Int×Int)×Int×Int×Int×nW×Int)
abbrev mg:Ty:=(.pr (.int .u8) (.pr (.sl .bool) (.pr aC (.pr (.int .u16) (.int .u16)))))
abbrev BQ:Ty:=(.pr (.int .i64) (.pr .bool (.pr .bool .bool)))
@[reducible] def bO:Ty:=.pr (.int .i64) BQ
abbrev eX:Ty:=(.sl bO)
abbrev bq:Type:=(Int×Int×Bool×Bool×Bool)
abbrev jS:Type:=(Int×Int×Int×Int×Bool×(Int×Int×Int×Int×Unit×Unit)×Int×Int×Int)
abbrev BR:Ty:=(.pr (.int .u8) (.pr (.int .u32) (.pr (.int .u16) (.int .u32))))
abbrev aBj:Type:=(Int×Int×List Bool×List Int×Int×Int)
@[reducible] def aJ:Ty:=.sl (.int .u8)
@[reducible] def eG:Ty:=.pr .bool aJ
abbrev fK:Ty:=eG
abbrev BS:Ty:=(.pr (.sl .bool) (.pr aC aC))
abbrev JA:Type:=(Int×Int×(Unit×(Int×Int)×Int×Int×Int×(Int×List Bool×List (Int×Unit))×Int)×Unit)
abbrev aBk:Type:=(List Bool×List Bool×List Int×List Int)
abbrev BU:Ty:=(.pr (.int .u8) aJ)
abbrev ED:Ty:=(.pr (.int .u16) (.pr (.int .u32) (.int .u32)))
abbrev sD:Ty:=(.pr (.int .i64) (.pr (.int .i64) (.pr .bool .bool)))
abbrev iP:Type:=Lv×Int×Int×List (Int×List Int)×Int×Int×Int×Int×Int
abbrev iU:Type:=Int×Int×jq×List Bool
@[reducible] def aK:List Ty:=[.sl (.int .u16)]
@[reducible] def alm:Sh:=⟨[.d aC],[],aK,[.d aC],[],0,aK⟩
@[reducible] def bK:Type:=As aK
def ace(l:List Int):Option bK :=
 some (List.take 64 l++List.drop (0+zG (List.take 64 l)) (zE 64 0),())
def JB(x:As aK):Option bK:=ace x.1
theorem ary:ak Tryz.prog (fun _=>True) 17 ⟨alm,JB⟩:=ctn av 6 fun J x=>by kernel_rfl
@[reducible] def dJ:List Ty:=[.int .u8,.int .u8,.int .i64,.int .i64]
@[reducible] def arz:Sh:=⟨[.d (.int .u8),.d (.int .u8),.d (.int .i64),.d (.int .i64)],[],dJ,[.d (.bool)],[],0,[.bool]⟩
@[reducible] def aF:Type:=As [.bool]
def acf(unit link timeout retries:Int):Option aF :=
 if ge unit 1=true then if le unit 247=true then if eqi link 1=true then if ge timeout 1=true then if le timeout 100000=true then if ge retries 0=true then some (le retries 1000,()) else some (false,()) else some (false,()) else some (false,()) else if eqi link 2=true then if ge timeout 1=true then if le timeout 100000=true then if ge retries 0=true then some (le retries 1000,()) else some (false,()) else some (false,()) else some (false,()) else some (false,()) else some (false,()) else some (false,())
def acg(x:As dJ):Option aF:=acf x.1 x.2.1 x.2.2.1 x.2.2.2.1
theorem arA:ak Tryz.prog (fun _=>True) 122 ⟨arz,acg⟩:=ctn av 6 fun J x=>by kernel_rfl
@[reducible] def aD:Ty:=.pr (.int .u8) qz
@[reducible] def aln:Sh:=⟨[.d (.int .u8),.d (.int .u8),.d (.int .i64),.d (.int .i64)],[],dJ,[.d aD,.d (.int .i64)],[],0,[.pr (.int .u8) qz,.int .i64]⟩
def ach(unit link timeout retries:Int):Option (As [.pr (.int .u8) qz,.int .i64]) :=
 zC (acg (unit,link,timeout,retries,())) fun y=>if (!y.1)=true then some ((0,0,0,0,false,(0,0,0,0,[],[]),0,0,0),2,()) else some ((unit,link,timeout,retries,false,(0,0,0,0,[],[]),0,0,0),0,())
def JC(x:As dJ):Option (As [.pr (.int .u8) qz,.int .i64]):=ach x.1 x.2.1 x.2.2.1 x.2.2.2.1
theorem arB:ak Tryz.prog (fun _=>True) 67 ⟨aln,JC⟩:=ctn (aj arA av) 6 fun J x=>by kernel_rfl
@[reducible] def aX:Ty:=.pr aD lK
@[reducible] def dX:List Ty:=[.pr aD lK,.int .i64]
@[reducible] def SB:Sh:=⟨[.d (.int .u8),.d (.int .u8),.d (.int .u16),.d (.int .i64),.d (.int .i64)],[],[.int .u8,.int .u8,.int .u16,.int .i64,.int .i64],[.d aX,.d (.int .i64)],[],0,dX⟩
def aci:Env:=(cts [(67,(⟨aln,JC⟩:Ct))])
def acj:List (Nat×Hint):=[(14,⟨[],[2,10,12,27]⟩)]
@[reducible] def zE0:Type:=Int×Int×Int×Int×Bool×uS×Int×Int×Int
def ack(owner:Int)(t27:Bool)(t10:jS×Int×Int×Unit×Int×Int×Int×Int×Int)(p:zE0):St:=⟨[(2,d6 owner),(10,.pb 0 0),(12,.pb 1 0),(27,dB t27)],32,[],[(0,.box 33 [d8 t10.1.1,d8 t10.1.2.1,dI t10.1.2.2.1,dI t10.1.2.2.2.1,dB t10.1.2.2.2.2.1,d8 t10.1.2.2.2.2.2.1.1,d6 t10.1.2.2.2.2.2.1.2.1,d6 t10.1.2.2.2.2.2.1.2.2.1,d6 t10.1.2.2.2.2.2.1.2.2.2.1,.k (zK zH 0 0),.k (zK zH 0 0),d6 t10.1.2.2.2.2.2.2.1,dI t10.1.2.2.2.2.2.2.2.1,dI t10.1.2.2.2.2.2.2.2.2,d6 t10.2.1,d2 t10.2.2.1,.k (zK zH 0 0),d8 t10.2.2.2.2.1,d8 t10.2.2.2.2.2.1,dI t10.2.2.2.2.2.2.1,dI t10.2.2.2.2.2.2.2.1,d8 t10.2.2.2.2.2.2.2.2]),(1,.box 29 [d8 p.1,d8 p.2.1,dI p.2.2.1,dI p.2.2.2.1,dB p.2.2.2.2.1,d8 p.2.2.2.2.2.1.1,d6 p.2.2.2.2.2.1.2.1,d6 p.2.2.2.2.2.1.2.2.1,d6 p.2.2.2.2.2.1.2.2.2.1,dW p.2.2.2.2.2.1.2.2.2.2.1,.d (.sl .bool) p.2.2.2.2.2.1.2.2.2.2.2,d6 p.2.2.2.2.2.2.1,dI p.2.2.2.2.2.2.2.1,dI p.2.2.2.2.2.2.2.2])],2,[],0⟩
def alo(owner:Int)(t27:Bool)(t10:jS×Int×Int×Unit×Int×Int×Int×Int×Int)(p:zE0):Option (As dX) :=
 if t27=true then some (((0,0,0,0,false,(0,0,0,0,[],[]),0,0,0),0,0,[],0,0,0,0,0),2,()) else some ((p,owner,0,[],0,0,0,0,0),0,())
def SC(j1:Int->Bool->jS×Int×Int×Unit×Int×Int×Int×Int×Int->Int×Int×Int×Int×Bool×uS×Int×Int×Int->Option (As dX))(unit link owner timeout retries:Int):Option (As dX) :=
 zC (JC (unit,link,timeout,retries,())) fun y=>if nei y.2.1 0=true then j1 owner true ((0,0,0,0,false,(0,0,0,0,(),()),0,0,0),0,0,(),0,0,0,0,0) y.1 else j1 owner (eqi owner 0) ((0,0,0,0,false,(0,0,0,0,(),()),0,0,0),0,0,(),0,0,0,0,0) y.1
def acm:=alo
def SE(x:As [.int .u8,.int .u8,.int .u16,.int .i64,.int .i64]):Option (As dX):=SC acm x.1 x.2.1 x.2.2.1 x.2.2.2.1 x.2.2.2.2.1
@[reducible] def zp(e:Env)(h:List (Nat×Hint))(n:Nat)(s:Sh):=pfn Tryz.prog e 6 18446744073709551616 (Ev.get h) n s
@[reducible] def zj(e:Env)(h:List (Nat×Hint))(n:Nat)(s:Sh):=jfn Tryz.prog e 6 18446744073709551616 (Ev.get h) n s
abbrev pD7:=zp aci acj 28 SB
theorem arC{J a b c d}:pD7 J 14 [] (ack a b c d)=alo a b c d:=by kernel_rfl
abbrev pD6:=zj aci acj 28 SB
theorem arD:C (pD6 14 []) ack=acm:=gNC (by decide) fun _=>arC
theorem arE:ak Tryz.prog (fun _=>True) 28 ⟨SB,SE⟩:=zcc (env:=aci) (d:=6) (hs:=Ev.get acj) (aj arB av) (fun J x=>SC (C (J 14 []) ack) x.1 x.2.1 x.2.2.1 x.2.2.2.1 x.2.2.2.2.1) (fun _ _=>by kernel_rfl) fun _=>by rw[arD]<;>rfl
@[reducible] def arF:Sh:=⟨[.d (.int .u8),.d (.int .u8)],[],[.int .u8,.int .u8],[.d (.bool)],[],0,[.bool]⟩
def acn(unit link:Int):Option aF :=
 if ge unit 1=true then if le unit 247=true then if eqi link 1=true then some (true,()) else some (eqi link 2,()) else some (false,()) else some (false,())
def aco(x:As [.int .u8,.int .u8]):Option aF:=acn x.1 x.2.1
theorem arG:ak Tryz.prog (fun _=>True) 86 ⟨arF,aco⟩:=ctn av 6 fun J x=>by kernel_rfl
@[reducible] def FP:Sh:=⟨[.d aC],[],aK,[.d aC],[],0,aK⟩
def acp(s:List Int):Option bK :=
 if eqi (zF (zG s)) 0=true then amb (au FP.rs) [some ([],()),need (small (0+zG s)) (some (s,()))] else need (small (0+zG s)) (some (s,()))
def lW(x:As aK):Option bK:=acp x.1
theorem zy:ak Tryz.prog (fun _=>True) 45 ⟨FP,lW⟩:=ctn av 6 fun J x=>by kernel_rfl
@[reducible] def SF:Sh:=⟨[.d aC],[],aK,[.row 0],[(0,.row (.int .u16) 25)],1,aK⟩
def acr(s:List Int):Option bK :=
 if eqi (zF (zG s)) 0=true then amb (au SF.rs) [some ([],()),need (small (0+zG s)) (some (s,()))] else need (small (0+zG s)) (some (s,()))
def CZ(x:As aK):Option bK:=acr x.1
theorem apl:ak Tryz.prog (fun _=>True) 45 ⟨SF,CZ⟩:=ctn av 6 fun J x=>by kernel_rfl
@[reducible] def bQ:List Ty:=[.sl (.int .u16),.int .i64]
@[reducible] def aG:Ty:=.pr aC tV
@[reducible] def cD:List Ty:=[.pr aC tV,.int .i64]
@[reducible] def arH:Sh:=⟨[.d aC,.d (.int .i64)],[],bQ,[.d aG,.d (.int .i64)],[],0,cD⟩
def acs(bank:List Int)(ticks:Int):Option (As cD) :=
 if nei (zF (zG bank)) 64=true then some (zx,21,()) else if lt ticks 1=true then some (zx,2,()) else zC (lW (bank,())) fun y=>some ((y.1,(0,0),0,0,0,zSt,ticks),0,())
def SH(x:As bQ):Option (As cD):=acs x.1 x.2.1
theorem arI:ak Tryz.prog (fun _=>True) 92 ⟨arH,SH⟩:=ctn (aj zy av) 6 fun J x=>by kernel_rfl
@[reducible] def aB:Ty:=.pr aG (.sl .bool)
@[reducible] def aA:Ty:=.pr (.int .u8) aB
@[reducible] def bB:Ty:=.pr (.int .u8) aA
@[reducible] def alp:Sh:=⟨[.d (.int .u8),.d (.int .u8),.d aC,.d (.int .i64)],[],[.int .u8,.int .u8,.sl (.int .u16),.int .i64],[.d bB,.d (.int .i64)],[],0,[.pr (.int .u8) aA,.int .i64]⟩
def acu(unit link:Int)(bank:List Int)(ticks:Int):Option (As [.pr (.int .u8) aA,.int .i64]) :=
 zC (aco (unit,link,())) fun y=>if (!y.1)=true then some (zSl,2,()) else zC (SH (bank,ticks,())) fun y=>if nei y.2.1 0=true then some (zSl,y.2.1,()) else some ((unit,link,(iY y.1),[false,false,false,false,false,false,false,false,false,false,false,false,false,false,false,false]),0,())
def SI(x:As [.int .u8,.int .u8,.sl (.int .u16),.int .i64]):Option (As [.pr (.int .u8) aA,.int .i64]):=acu x.1 x.2.1 x.2.2.1 x.2.2.2.1
theorem arJ:ak Tryz.prog (fun _=>True) 42 ⟨alp,SI⟩:=ctn (aj arG (aj arI av)) 6 fun J x=>by kernel_rfl
@[reducible] def SK:Sh:=⟨[.d (.sl cr),.d (.int .i64)],[],[.sl cr,.int .i64],[.d (.sl cr)],[],0,[.sl cr]⟩
def acv:Env:=(cts [])
def acw:List (Nat×Hint):=[(58,⟨[.row 5 38],[5,14,15,16]⟩),(7475,⟨[],[5,7,8,14,15,16]⟩)]
@[reducible] def zE1:Type:=List (Int×List Int)
def FQ(t14:zE1)(t15 t16:Int)(out:zE1):St:=⟨[(5,.row 0),(14,.d (.sl cr) t14),(15,dI t15),(16,dI t16)],45,[],[(0,.row cr 38 out)],1,[],0⟩
def SL(at':Int)(t14:zE1)(t15 t16:Int)(out:zE1)(x:Int×List Int):St:=⟨[(5,.row 0),(7,.pb 1 0),(8,dI at'),(14,.d (.sl cr) t14),(15,dI t15),(16,dI t16)],45,[],[(0,.row cr 38 out),(1,.box 38 [dI x.1,dW x.2])],2,[],0⟩
@[reducible] def cM:Type:=As [.sl cr]
@[reducible] def zE2:Type:=List (Int×List Int)->Int->Int->List (Int×List Int)->Option cM
def FR(j2:Int->List (Int×List Int)->Int->Int->List (Int×List Int)->Int×List Int->Option cM)(self1:zE2)(t14:zE1)(t15 t16:Int)(out:zE1):Option cM :=
 if lt t16 t15=true then zC (at? t14 t16) fun y=>if lt (rem y.1 64) 0=true then j2 (add .i64 (rem y.1 64) 64) t14 t15 t16 out y else j2 (rem y.1 64) t14 t15 t16 out y else some (out,())
def SN(self1:zE2)(at':Int)(t14:zE1)(t15 t16:Int)(out:zE1)(x:Int×List Int):Option cM :=
 zC (cut x.2 0 (if lt (Sx.sub .i64 64 at') (if lt 14 (zF (zG x.2))=true then 14 else zF (zG x.2))=true then Sx.sub .i64 64 at' else if lt 14 (zF (zG x.2))=true then 14 else zF (zG x.2))) fun y=>need (small (0+zG y)) (need (small (zG out+Nat.succ 0)) (self1 t14 t15 (add .i64 t16 1) (out++[(at',y)])))
def SQ(j1:zE2)(l:zE1)(most:Int):Option cM :=
 zC (cut l 0 (if lt most (zF (zG l))=true then most else zF (zG l))) fun y=>j1 y (zF (zG y)) 0 []
def LA(u1:zE2):=SN u1
def FT(t14:zE1)(t15 t16:Int)(out:zE1):Option cM :=
 bu (fun self s=>FR (LA (fun t14 t15 t16 out=>self (t14,t15,t16,out))) (fun t14 t15 t16 out=>self (t14,t15,t16,out)) s.1 s.2.1 s.2.2.1 s.2.2.2) 18446744073709551616 (t14,t15,t16,out)
def SS(x:As [.sl cr,.int .i64]):Option cM:=SQ FT x.1 x.2.1
abbrev pBr:=zp acv acw 43 SK
theorem arK{J w1 a b c d e f}:pBr J 7475 [w1] (SL a b c d e f)=SN (C w1 FQ) a b c d e f:=by kernel_rfl
theorem arL{J w1 a b c d}:pBr J 58 [w1] (FQ a b c d)=FR (C (J 7475 [w1]) SL) (C w1 FQ) a b c d:=by kernel_rfl
abbrev pBq:=zj acv acw 43 SK
theorem arM{w1}:C (pBq 7475 [w1]) SL=LA (C w1 FQ):=gNC (by decide) fun _=>arK
theorem arN:C (pBq 58 []) FQ=FT:=gLC (by decide) (by kernel_rfl) (fun _=>by unfold FT;rfl) fun _ _=>arL.trans (by rw[arM]<;>kernel_rfl)
theorem arO:ak Tryz.prog (fun _=>True) 43 ⟨SK,SS⟩:=zcc (env:=acv) (d:=6) (hs:=Ev.get acw) av (fun J x=>SQ (C (J 58 []) FQ) x.1 x.2.1) (fun _ _=>by kernel_rfl) fun _=>by rw[arN]<;>rfl
@[reducible] def bY:Ty:=.sl (.sl cr)
@[reducible] def aT:List Ty:=[.pr aD lK,.pr (.int .u8) aA,.int .u32,.int .u32,.sl (.sl cr),.bool,.sl fK]
@[reducible] def LB:Sh:=⟨[.d (.int .u8),.d (.int .u8),.d (.int .u8),.d aC,.d bY],[],[.int .u8,.int .u8,.int .u8,.sl (.int .u16),.sl (.sl cr)],[.agp [.inl aX,.inl bB,.inr 0,.inl (.int .u32),.inl (.int .u32),.inl bY],.d .bool],[(0,.que fK 63)],1,aT⟩
def acy:Env:=(cts [(1000048,Ev.gu),(9000046,Ev.gu),(9999999,Ev.gu),(17,(⟨alm,JB⟩:Ct)),(28,(⟨SB,SE⟩:Ct)),(42,(⟨alp,SI⟩:Ct)),(43,(⟨SK,SS⟩:Ct))])
def acz:List (Nat×Hint):=[(31,⟨[],[10,12,13,14,15,16,67,68,71,72,73,76,77,78]⟩),(250,⟨[.rwb 16 60 31],[10,12,13,14,15,16,49,50,51]⟩)]
@[reducible] def aH:Type:=List (Int×List Int)
@[reducible] def zE3:Type:=List aH
@[reducible] def zE4:Type:=(jS×Int×Int×Unit×Int×Int×Int×Int×Int)×JA×Unit×Int×Int×Unit
@[reducible] def zE5:Type:=List (Bool×List Int)
def SX(e s f:Int)(t49:zE3)(t50 t51:Int)(t10:zE4)(t:iP)(s_2:List (iU))(p:(iP)×(iU)×Unit×Int×Int×Unit)(o:zE5)(o_2:zE3):St:=⟨[(10,.pb 0 0),(12,.pb 1 0),(13,dI e),(14,.prw 2 s 35 0),(15,dI f),(16,.pb 3 0),(49,.d bY t49),(50,dI t50),(51,dI t51)],80,[],[(0,.box 48 [d8 t10.1.1.1,d8 t10.1.1.2.1,dI t10.1.1.2.2.1,dI t10.1.1.2.2.2.1,dB t10.1.1.2.2.2.2.1,d8 t10.1.1.2.2.2.2.2.1.1,d6 t10.1.1.2.2.2.2.2.1.2.1,d6 t10.1.1.2.2.2.2.2.1.2.2.1,d6 t10.1.1.2.2.2.2.2.1.2.2.2.1,.k (zK zH 0 0),.k (zK zH 0 0),d6 t10.1.1.2.2.2.2.2.2.1,dI t10.1.1.2.2.2.2.2.2.2.1,dI t10.1.1.2.2.2.2.2.2.2.2,d6 t10.1.2.1,d2 t10.1.2.2.1,.k (zK zH 0 0),d8 t10.1.2.2.2.2.1,d8 t10.1.2.2.2.2.2.1,dI t10.1.2.2.2.2.2.2.1,dI t10.1.2.2.2.2.2.2.2.1,d8 t10.1.2.2.2.2.2.2.2.2,d8 t10.2.1.1,d8 t10.2.1.2.1,.k (zK zH 0 0),d6 t10.2.1.2.2.1.2.1.1,dI t10.2.1.2.2.1.2.1.2,d8 t10.2.1.2.2.1.2.2.1,d2 t10.2.1.2.2.1.2.2.2.1,d2 t10.2.1.2.2.1.2.2.2.2.1,d2 t10.2.1.2.2.1.2.2.2.2.2.1.1,dB (zJ t10.2.1.2.2.1.2.2.2.2.2.1.2.1 0 false),dB (zJ t10.2.1.2.2.1.2.2.2.2.2.1.2.1 1 false),dB (zJ t10.2.1.2.2.1.2.2.2.2.2.1.2.1 2 false),dB (zJ t10.2.1.2.2.1.2.2.2.2.2.1.2.1 3 false),dB (zJ t10.2.1.2.2.1.2.2.2.2.2.1.2.1 4 false),dB (zJ t10.2.1.2.2.1.2.2.2.2.2.1.2.1 5 false),dB (zJ t10.2.1.2.2.1.2.2.2.2.2.1.2.1 6 false),dB (zJ t10.2.1.2.2.1.2.2.2.2.2.1.2.1 7 false),dI (zJ t10.2.1.2.2.1.2.2.2.2.2.1.2.2 0 (0,())).1,.k (zK zH 0 0),dI (zJ t10.2.1.2.2.1.2.2.2.2.2.1.2.2 1 (0,())).1,.k (zK zH 0 0),dI (zJ t10.2.1.2.2.1.2.2.2.2.2.1.2.2 2 (0,())).1,.k (zK zH 0 0),dI (zJ t10.2.1.2.2.1.2.2.2.2.2.1.2.2 3 (0,())).1,.k (zK zH 0 0),dI (zJ t10.2.1.2.2.1.2.2.2.2.2.1.2.2 4 (0,())).1,.k (zK zH 0 0),dI (zJ t10.2.1.2.2.1.2.2.2.2.2.1.2.2 5 (0,())).1,.k (zK zH 0 0),dI (zJ t10.2.1.2.2.1.2.2.2.2.2.1.2.2 6 (0,())).1,.k (zK zH 0 0),dI (zJ t10.2.1.2.2.1.2.2.2.2.2.1.2.2 7 (0,())).1,.k (zK zH 0 0),dI t10.2.1.2.2.1.2.2.2.2.2.2,.k (zK zH 0 0),.k (zK zH 0 0),d2 t10.2.2.2.1,d2 t10.2.2.2.2.1,.k (zK zH 0 0)]),(1,.box 33 (eY t [])),(2,.row bB 45 s_2),(3,.box 48 (eY p.1 (slC p.2.1 [.row 4,d2 p.2.2.2.1,d2 p.2.2.2.2.1,.row 5]))),(4,.que fK 63 o),(5,.row (.sl cr) 31 o_2)],6,[],0⟩
def acA(e s f:Int)(t10:zE4)(t:iP)(s_2:List (iU))(p:(iP)×(iU)×Unit×Int×Int×Unit)(o:zE5)(o_2:zE3):St:=⟨[(10,.pb 0 0),(12,.pb 1 0),(13,dI e),(14,.prw 2 s 35 0),(15,dI f),(16,.pb 3 0)],80,[],[(0,.box 48 [d8 t10.1.1.1,d8 t10.1.1.2.1,dI t10.1.1.2.2.1,dI t10.1.1.2.2.2.1,dB t10.1.1.2.2.2.2.1,d8 t10.1.1.2.2.2.2.2.1.1,d6 t10.1.1.2.2.2.2.2.1.2.1,d6 t10.1.1.2.2.2.2.2.1.2.2.1,d6 t10.1.1.2.2.2.2.2.1.2.2.2.1,.k (zK zH 0 0),.k (zK zH 0 0),d6 t10.1.1.2.2.2.2.2.2.1,dI t10.1.1.2.2.2.2.2.2.2.1,dI t10.1.1.2.2.2.2.2.2.2.2,d6 t10.1.2.1,d2 t10.1.2.2.1,.k (zK zH 0 0),d8 t10.1.2.2.2.2.1,d8 t10.1.2.2.2.2.2.1,dI t10.1.2.2.2.2.2.2.1,dI t10.1.2.2.2.2.2.2.2.1,d8 t10.1.2.2.2.2.2.2.2.2,d8 t10.2.1.1,d8 t10.2.1.2.1,.k (zK zH 0 0),d6 t10.2.1.2.2.1.2.1.1,dI t10.2.1.2.2.1.2.1.2,d8 t10.2.1.2.2.1.2.2.1,d2 t10.2.1.2.2.1.2.2.2.1,d2 t10.2.1.2.2.1.2.2.2.2.1,d2 t10.2.1.2.2.1.2.2.2.2.2.1.1,dB (zJ t10.2.1.2.2.1.2.2.2.2.2.1.2.1 0 false),dB (zJ t10.2.1.2.2.1.2.2.2.2.2.1.2.1 1 false),dB (zJ t10.2.1.2.2.1.2.2.2.2.2.1.2.1 2 false),dB (zJ t10.2.1.2.2.1.2.2.2.2.2.1.2.1 3 false),dB (zJ t10.2.1.2.2.1.2.2.2.2.2.1.2.1 4 false),dB (zJ t10.2.1.2.2.1.2.2.2.2.2.1.2.1 5 false),dB (zJ t10.2.1.2.2.1.2.2.2.2.2.1.2.1 6 false),dB (zJ t10.2.1.2.2.1.2.2.2.2.2.1.2.1 7 false),dI (zJ t10.2.1.2.2.1.2.2.2.2.2.1.2.2 0 (0,())).1,.k (zK zH 0 0),dI (zJ t10.2.1.2.2.1.2.2.2.2.2.1.2.2 1 (0,())).1,.k (zK zH 0 0),dI (zJ t10.2.1.2.2.1.2.2.2.2.2.1.2.2 2 (0,())).1,.k (zK zH 0 0),dI (zJ t10.2.1.2.2.1.2.2.2.2.2.1.2.2 3 (0,())).1,.k (zK zH 0 0),dI (zJ t10.2.1.2.2.1.2.2.2.2.2.1.2.2 4 (0,())).1,.k (zK zH 0 0),dI (zJ t10.2.1.2.2.1.2.2.2.2.2.1.2.2 5 (0,())).1,.k (zK zH 0 0),dI (zJ t10.2.1.2.2.1.2.2.2.2.2.1.2.2 6 (0,())).1,.k (zK zH 0 0),dI (zJ t10.2.1.2.2.1.2.2.2.2.2.1.2.2 7 (0,())).1,.k (zK zH 0 0),dI t10.2.1.2.2.1.2.2.2.2.2.2,.k (zK zH 0 0),.k (zK zH 0 0),d2 t10.2.2.2.1,d2 t10.2.2.2.2.1,.k (zK zH 0 0)]),(1,.box 33 (eY t [])),(2,.row bB 45 s_2),(3,.box 48 (eY p.1 (slC p.2.1 [.row 4,d2 p.2.2.2.1,d2 p.2.2.2.2.1,.row 5]))),(4,.que fK 63 o),(5,.row (.sl cr) 31 o_2)],6,[],0⟩
def FU(j2:Int->Int->Int->(jS×Int×Int×Unit×Int×Int×Int×Int×Int)×JA×Unit×Int×Int×Unit->iP->List (iU)->(iP)×(iU)×Unit×Int×Int×Unit->List (Bool×List Int)->List aH->Option (As aT))(self1:Int->Int->Int->List aH->Int->Int->(jS×Int×Int×Unit×Int×Int×Int×Int×Int)×JA×Unit×Int×Int×Unit->iP->List (iU)->(iP)×(iU)×Unit×Int×Int×Unit->List (Bool×List Int)->List aH->Option (As aT))(e s f:Int)(t49:zE3)(t50 t51:Int)(t10:zE4)(t:iP)(s_2:List (iU))(p:(iP)×(iU)×Unit×Int×Int×Unit)(o:zE5)(o_2:zE3):Option (As aT) :=
 if lt t51 t50=true then zC (at? t49 t51) fun y=>zC (SS (y,4,())) fun y=>need (small (zG o_2+Nat.succ 0)) (self1 e s f t49 t50 (add .i64 t51 1) (((t10.1.1.1,t10.1.1.2.1,t10.1.1.2.2.1,t10.1.1.2.2.2.1,t10.1.1.2.2.2.2.1,(t10.1.1.2.2.2.2.2.1.1,t10.1.1.2.2.2.2.2.1.2.1,t10.1.1.2.2.2.2.2.1.2.2.1,t10.1.1.2.2.2.2.2.1.2.2.2.1,(),()),t10.1.1.2.2.2.2.2.2),t10.1.2),(t10.2.1.1,t10.2.1.2.1,((),t10.2.1.2.2.1.2.1,t10.2.1.2.2.1.2.2.1,t10.2.1.2.2.1.2.2.2.1,t10.2.1.2.2.1.2.2.2.2.1,(t10.2.1.2.2.1.2.2.2.2.2.1.1,t10.2.1.2.2.1.2.2.2.2.2.1.2.1,[((zJ t10.2.1.2.2.1.2.2.2.2.2.1.2.2 0 (0,())).1,()),((zJ t10.2.1.2.2.1.2.2.2.2.2.1.2.2 1 (0,())).1,()),((zJ t10.2.1.2.2.1.2.2.2.2.2.1.2.2 2 (0,())).1,()),((zJ t10.2.1.2.2.1.2.2.2.2.2.1.2.2 3 (0,())).1,()),((zJ t10.2.1.2.2.1.2.2.2.2.2.1.2.2 4 (0,())).1,()),((zJ t10.2.1.2.2.1.2.2.2.2.2.1.2.2 5 (0,())).1,()),((zJ t10.2.1.2.2.1.2.2.2.2.2.1.2.2 6 (0,())).1,()),((zJ t10.2.1.2.2.1.2.2.2.2.2.1.2.2 7 (0,())).1,())]),t10.2.1.2.2.1.2.2.2.2.2.2),()),(),t10.2.2.2.1,t10.2.2.2.2.1,()) t s_2 (p.1,p.2.1,(),p.2.2.2.1,p.2.2.2.2.1,()) o (o_2++[y.1])) else j2 e s f (((t10.1.1.1,t10.1.1.2.1,t10.1.1.2.2.1,t10.1.1.2.2.2.1,t10.1.1.2.2.2.2.1,(t10.1.1.2.2.2.2.2.1.1,t10.1.1.2.2.2.2.2.1.2.1,t10.1.1.2.2.2.2.2.1.2.2.1,t10.1.1.2.2.2.2.2.1.2.2.2.1,(),()),t10.1.1.2.2.2.2.2.2),t10.1.2),(t10.2.1.1,t10.2.1.2.1,((),t10.2.1.2.2.1.2.1,t10.2.1.2.2.1.2.2.1,t10.2.1.2.2.1.2.2.2.1,t10.2.1.2.2.1.2.2.2.2.1,(t10.2.1.2.2.1.2.2.2.2.2.1.1,t10.2.1.2.2.1.2.2.2.2.2.1.2.1,[((zJ t10.2.1.2.2.1.2.2.2.2.2.1.2.2 0 (0,())).1,()),((zJ t10.2.1.2.2.1.2.2.2.2.2.1.2.2 1 (0,())).1,()),((zJ t10.2.1.2.2.1.2.2.2.2.2.1.2.2 2 (0,())).1,()),((zJ t10.2.1.2.2.1.2.2.2.2.2.1.2.2 3 (0,())).1,()),((zJ t10.2.1.2.2.1.2.2.2.2.2.1.2.2 4 (0,())).1,()),((zJ t10.2.1.2.2.1.2.2.2.2.2.1.2.2 5 (0,())).1,()),((zJ t10.2.1.2.2.1.2.2.2.2.2.1.2.2 6 (0,())).1,()),((zJ t10.2.1.2.2.1.2.2.2.2.2.1.2.2 7 (0,())).1,())]),t10.2.1.2.2.1.2.2.2.2.2.2),()),(),t10.2.2.2.1,t10.2.2.2.2.1,()) t s_2 (p.1,p.2.1,(),p.2.2.2.1,p.2.2.2.2.1,()) o o_2
def SY(e s f:Int)(t10:zE4)(t:iP)(s_2:List (iU))(p:(iP)×(iU)×Unit×Int×Int×Unit)(o:zE5)(o_2:zE3):Option (As aT) :=
 if eqi e 0=true then if eqi f 0=true then if eqi t.2.1 7=true then zC (at? s_2 s) fun y=>some (p.1,(iZ p.2.1),p.2.2.2.1,p.2.2.2.2.1,o_2,eqi y.1 9,o,()) else some (p.1,(iZ p.2.1),p.2.2.2.1,p.2.2.2.2.1,o_2,false,o,()) else some (p.1,(iZ p.2.1),p.2.2.2.1,p.2.2.2.2.1,o_2,false,o,()) else some (p.1,(iZ p.2.1),p.2.2.2.1,p.2.2.2.2.1,o_2,false,o,())
def S7(j1:Int->Int->Int->List aH->Int->Int->(jS×Int×Int×Unit×Int×Int×Int×Int×Int)×JA×Unit×Int×Int×Unit->iP->List (iU)->(iP)×(iU)×Unit×Int×Int×Unit->List (Bool×List Int)->List aH->Option (As aT))(link timeout retries:Int)(bank:List Int)(plan:zE3):Option (As aT) :=
 zC (SE (9,add .u8 1 (rem link 2),7,add .i64 1 (cvt .i64 (rem timeout 10)),cvt .i64 (rem retries 4),())) fun y=>zC (JB (bank,())) fun y_1=>zC (SI (9,add .u8 1 (rem link 2),y_1.1,40,())) fun y_2=>zC (cut plan 0 (if lt 6 (zF (zG plan))=true then 6 else zF (zG plan))) fun y_3=>j1 y.2.1 0 y_2.2.1 y_3 (zF (zG y_3)) 0 (((0,0,0,0,false,(0,0,0,0,(),()),0,0,0),0,0,(),0,0,0,0,0),(0,0,((),(0,0),0,0,0,(0,[false,false,false,false,false,false,false,false],[(0,()),(0,()),(0,()),(0,()),(0,()),(0,()),(0,()),(0,())]),0),()),(),0,0,()) y.1 [y_2.1] (y.1,y_2.1,(),0,0,()) [] []
def S8:=SY
def FV(e s f:Int)(t49:zE3)(t50 t51:Int)(t10:zE4)(t:iP)(s_2:List (iU))(p:(iP)×(iU)×Unit×Int×Int×Unit)(o:zE5)(o_2:zE3):Option (As aT) :=
 bu (fun self s=>FU (S8) (fun e s f t49 t50 t51 t10 t s_2 p o o_2=>self (e,s,f,t49,t50,t51,t10,t,s_2,p,o,o_2)) s.1 s.2.1 s.2.2.1 s.2.2.2.1 s.2.2.2.2.1 s.2.2.2.2.2.1 s.2.2.2.2.2.2.1 s.2.2.2.2.2.2.2.1 s.2.2.2.2.2.2.2.2.1 s.2.2.2.2.2.2.2.2.2.1 s.2.2.2.2.2.2.2.2.2.2.1 s.2.2.2.2.2.2.2.2.2.2.2) 18446744073709551616 (e,s,f,t49,t50,t51,t10,t,s_2,p,o,o_2)
def FW(x:As [.int .u8,.int .u8,.int .u8,.sl (.int .u16),.sl (.sl cr)]):Option (As aT):=S7 FV x.1 x.2.1 x.2.2.1 x.2.2.2.1 x.2.2.2.2.1
abbrev pBb:=zp acy acz 9 LB
theorem arP{J a b c d e f g h i}:pBb J 31 [] (acA a b c d e f g h i)=SY a b c d e f g h i:=by kernel_rfl
theorem arQ{J w1 a b c d e f g h i j k l}:pBb J 250 [w1] (SX a b c d e f g h i j k l)=FU (C (J 31 []) acA) (C w1 SX) a b c d e f g h i j k l:=by kernel_rfl
abbrev pBa:=zj acy acz 9 LB
theorem arR:C (pBa 31 []) acA=S8:=gNC (by decide) fun _=>arP
theorem arS:C (pBa 250 []) SX=FV:=gLC (by decide) (by kernel_rfl) (fun _=>by unfold FV;rfl) fun _ _=>arQ.trans (by rw[arR]<;>kernel_rfl)
theorem alq:ak Tryz.prog (fun _=>True) 9 ⟨LB,FW⟩:=zcc (env:=acy) (d:=6) (hs:=Ev.get acz) (aj Ev.fF (aj Ev.fF (aj Ev.fF (aj ary (aj arE (aj arJ (aj arO av))))))) (fun J x=>S7 (C (J 250 []) SX) x.1 x.2.1 x.2.2.1 x.2.2.2.1 x.2.2.2.2.1) (fun _ _=>by kernel_rfl) fun _=>by rw[arS]<;>rfl
@[reducible] def dT:List Ty:=[.sl (.int .u8),.pr aD lK,.pr (.int .u8) aA,.int .u32,.int .u32,.sl (.sl cr),.sl fK]
@[reducible] def aL:List Ty:=[.pr aD lK,.pr (.int .u8) aA,.int .u32,.int .u32,.sl (.sl cr),.sl fK]
@[reducible] def LC:Sh:=⟨[.pb 0 0,.d aJ],[(prG 1),.que fK 63],dT,[],[(0,(prG 2)),(2,.que fK 63)],1,aL⟩
def acB:Env:=(cts [(1000048,Ev.gu),(9000046,Ev.gu),(9999999,Ev.gu)])
def acC:List (Nat×Hint):=[(1,⟨[],[0,1,14]⟩)]
def acD(b:List Int)(t14:Bool)(p:(iP)×(iU)×Unit×Int×Int×List aH)(o:zE5):St:=⟨[(0,.pb 0 0),(1,dL b),(14,dB t14)],26,[],[(0,.box 48 (eY p.1 (slC p.2.1 [.row 1,d2 p.2.2.2.1,d2 p.2.2.2.2.1,.d bY p.2.2.2.2.2]))),(1,.que fK 63 o)],2,[],2⟩
@[reducible] def eA:Type:=As aL
def FX(b:List Int)(t14:Bool)(p:(iP)×(iU)×Unit×Int×Int×List aH)(o:zE5):Option eA :=
 if t14=true then need (small (zG o+Nat.succ 0)) (some (p.1,(iZ p.2.1),p.2.2.2.1,p.2.2.2.2.1,p.2.2.2.2.2,o++[(false,b)],())) else some (p.1,(iZ p.2.1),p.2.2.2.1,p.2.2.2.2.1,p.2.2.2.2.2,o,())
def S9(j1:List Int->Bool->(iP)×(iU)×Unit×Int×Int×List aH->List (Bool×List Int)->Option eA)(p:List Int)(b:iP)(p_2:iU)(b_2 v:Int)(v_2:zE3)(v_3:zE5):Option eA :=
 if gt (zF (zG p)) 0=true then j1 p (lt (zF (zG v_3)) 12) (b,p_2,(),b_2,v,v_2) v_3 else j1 p false (b,p_2,(),b_2,v,v_2) v_3
def LD:=FX
def FY(x:As dT):Option eA:=S9 LD x.1 x.2.1 x.2.2.1 x.2.2.2.1 x.2.2.2.2.1 x.2.2.2.2.2.1 x.2.2.2.2.2.2.1
abbrev pBj:=zp acB acC 20 LC
theorem arT{J a b c d}:pBj J 1 [] (acD a b c d)=FX a b c d:=by kernel_rfl
abbrev pBi:=zj acB acC 20 LC
theorem arU:C (pBi 1 []) acD=LD:=gNC (by decide) fun _=>arT
theorem apm:ak Tryz.prog (fun _=>True) 20 ⟨LC,FY⟩:=zcc (env:=acB) (d:=6) (hs:=Ev.get acC) (aj Ev.fF (aj Ev.fF (aj Ev.fF av))) (fun J x=>S9 (C (J 1 []) acD) x.1 x.2.1 x.2.2.1 x.2.2.2.1 x.2.2.2.2.1 x.2.2.2.2.2.1 x.2.2.2.2.2.2.1) (fun _ _=>by kernel_rfl) fun _=>by rw[arU]<;>rfl
@[reducible] def Ta:Sh:=⟨[.d (.sl cr)],[],[.sl cr],[.d (.sl cr)],[],0,[.sl cr]⟩
def acE:Env:=(cts [(45,(⟨FP,lW⟩:Ct))])
def acF:List (Nat×Hint):=[(58,⟨[.row 3 38],[3,6,7,8]⟩)]
def Tc(t6:zE1)(t7 t8:Int)(r:zE1):St:=⟨[(3,.row 0),(6,.d (.sl cr) t6),(7,dI t7),(8,dI t8)],22,[],[(0,.row cr 38 r)],1,[],0⟩
def FZ(self1:zE2)(t6:zE1)(t7 t8:Int)(r:zE1):Option cM :=
 if lt t8 t7=true then zC (at? t6 t8) fun y=>zC (lW (y.2,())) fun y_1=>need (small (zG r+Nat.succ 0)) (self1 t6 t7 (add .i64 t8 1) (r++[(y.1,y_1.1)])) else some (r,())
def apn(j1:zE2)(l:zE1):Option cM :=
 j1 l (zF (zG l)) 0 []
def LF(t6:zE1)(t7 t8:Int)(r:zE1):Option cM :=
 bu (fun self s=>FZ (fun t6 t7 t8 r=>self (t6,t7,t8,r)) s.1 s.2.1 s.2.2.1 s.2.2.2) 18446744073709551616 (t6,t7,t8,r)
def LG(x:As [.sl cr]):Option cM:=apn LF x.1
abbrev pEf:=zp acE acF 65 Ta
theorem arV{J w1 a b c d}:pEf J 58 [w1] (Tc a b c d)=FZ (C w1 Tc) a b c d:=by kernel_rfl
abbrev pEe:=zj acE acF 65 Ta
theorem arW:C (pEe 58 []) Tc=LF:=gLC (by decide) (by kernel_rfl) (fun _=>by unfold LF;rfl) fun _ _=>arV.trans (by kernel_rfl)
theorem alr:ak Tryz.prog (fun _=>True) 65 ⟨Ta,LG⟩:=zcc (env:=acE) (d:=6) (hs:=Ev.get acF) (aj zy av) (fun J x=>apn (C (J 58 []) Tc) x.1) (fun _ _=>by kernel_rfl) fun _=>by rw[arW]<;>rfl
@[reducible] def acG:Sh:=⟨[.d (.sl .bool)],[],[.sl .bool],[.d (.sl .bool)],[],0,[.sl .bool]⟩
@[reducible] def cX:Type:=As [.sl .bool]
def acH(s:List Bool):Option cX :=
 if eqi (zF (zG s)) 0=true then amb (au acG.rs) [some ([],()),need (small (0+zG s)) (some (s,()))] else need (small (0+zG s)) (some (s,()))
def zU(x:As [.sl .bool]):Option cX:=acH x.1
theorem acI:ak Tryz.prog (fun _=>True) 113 ⟨acG,zU⟩:=ctn av 6 fun J x=>by kernel_rfl
@[reducible] def Td:Sh:=⟨[.d (.sl (.bool))],[],[.sl (.bool)],[.row 0],[(0,.row (.bool) 4)],1,[.sl (.bool)]⟩
def acJ(s:List Bool):Option cX :=
 if eqi (zF (zG s)) 0=true then amb (au Td.rs) [some ([],()),need (small (0+zG s)) (some (s,()))] else need (small (0+zG s)) (some (s,()))
def C4(x:As [.sl .bool]):Option cX:=acJ x.1
theorem apo:ak Tryz.prog (fun _=>True) 113 ⟨Td,C4⟩:=ctn av 6 fun J x=>by kernel_rfl
@[reducible] def aN:List Ty:=[.pr aD lK]
@[reducible] def als:Sh:=⟨[.d aX],[],aN,[.d aX],[],0,aN⟩
@[reducible] def bP:Type:=As aN
def acK(t:iP):Option bP :=
 zC (lW (t.1.2.2.2.2.2.1.2.2.2.2.1,())) fun y=>zC (zU (t.1.2.2.2.2.2.1.2.2.2.2.2,())) fun y_1=>zC (LG (t.2.2.2.1,())) fun y_2=>some (((t.1.1,t.1.2.1,t.1.2.2.1,t.1.2.2.2.1,t.1.2.2.2.2.1,(t.1.2.2.2.2.2.1.1,t.1.2.2.2.2.2.1.2.1,t.1.2.2.2.2.2.1.2.2.1,t.1.2.2.2.2.2.1.2.2.2.1,y.1,y_1.1),t.1.2.2.2.2.2.2),t.2.1,t.2.2.1,y_2.1,t.2.2.2.2),())
def C5(x:As aN):Option bP:=acK x.1
theorem acL:ak Tryz.prog (fun _=>True) 54 ⟨als,C5⟩:=ctn (aj zy (aj alr (aj acI av))) 6 fun J x=>by kernel_rfl
@[reducible] def Te:Sh:=⟨[.d (.int .u8)],[],[.int .u8],[.d (.pr (.int .i64) sD),.d (.bool)],[],0,[.pr (.int .i64) sD,.bool]⟩
def arX(f:Int):Option (As [.pr (.int .i64) sD,.bool]) :=
 some (Ev.gdV (.pr (.int .i64) sD) (if eqi 1 f=true then some (2000,0,0,false,false) else if eqi 2 f=true then some (2000,0,0,false,false) else if eqi 3 f=true then some (125,0,0,false,false) else if eqi 4 f=true then some (125,0,0,false,false) else if eqi 5 f=true then some (0,1,0,false,false) else if eqi 6 f=true then some (0,0,1,false,false) else if eqi 15 f=true then some (1968,1968,0,false,true) else if eqi 16 f=true then some (123,0,123,false,true) else if eqi 23 f=true then some (125,0,121,true,false) else zH) (0,0,0,false,false),Ev.isV (.pr (.int .i64) sD) (if eqi 1 f=true then some (2000,0,0,false,false) else if eqi 2 f=true then some (2000,0,0,false,false) else if eqi 3 f=true then some (125,0,0,false,false) else if eqi 4 f=true then some (125,0,0,false,false) else if eqi 5 f=true then some (0,1,0,false,false) else if eqi 6 f=true then some (0,0,1,false,false) else if eqi 15 f=true then some (1968,1968,0,false,true) else if eqi 16 f=true then some (123,0,123,false,true) else if eqi 23 f=true then some (125,0,121,true,false) else zH),())
def xP(x:As [.int .u8]):Option (As [.pr (.int .i64) sD,.bool]):=arX x.1
theorem Tf:ak Tryz.prog (fun _=>True) 106 ⟨Te,xP⟩:=ctn av 6 fun J x=>by kernel_rfl
@[reducible] def cA:List Ty:=[.int .i64,.int .i64]
@[reducible] def alu:Sh:=⟨[.d (.int .i64),.d (.int .i64)],[],cA,[.d (.bool)],[],0,[.bool]⟩
def acM(n most:Int):Option aF :=
 if eqi most 0=true then some (eqi n 0,()) else if ge n 1=true then some (le n most,()) else some (false,())
def F3(x:As cA):Option aF:=acM x.1 x.2.1
theorem arY:ak Tryz.prog (fun _=>True) 162 ⟨alu,F3⟩:=ctn av 6 fun J x=>by kernel_rfl
@[reducible] def aW:List Ty:=[.pr (.int .u8) jH]
@[reducible] def C6:Sh:=⟨[.d bA],[],aW,[.d (.bool)],[],0,[.bool]⟩
def acN:Env:=(cts [(106,(⟨Te,xP⟩:Ct)),(162,(⟨alu,F3⟩:Ct))])
def acO:List (Nat×Hint):=[(30,⟨[],[1,3,47,52,53,54,55,56,57,58,59,60,61,62]⟩),(14,⟨[],[1,3,22,31,32,33,34,35,36,37,40,41,42,43,44,45,46,52,53,54,55,56,57,58,59,60,61,62]⟩)]
def acP(t22:Bool)(a a_2 a_3 a_4:Int)(a_5:List Int)(a_6:List Bool)(s s_2 s_3:Int)(s_4 s_5:Bool):St:=⟨[(1,.pb 0 0),(3,.pb 1 0),(22,dB t22)],64,[],[(0,.box 27 [d8 a,d6 a_2,d6 a_3,d6 a_4,dW a_5,.d (.sl .bool) a_6]),(1,.box 151 [dI s,dI s_2,dI s_3,dB s_4,dB s_5])],2,[],0⟩
def acQ(t47:Bool)(a a_2 a_3 a_4:Int)(a_5:List Int)(a_6:List Bool)(s s_2 s_3:Int)(s_4 s_5:Bool):St:=⟨[(1,.pb 0 0),(3,.pb 1 0),(47,dB t47)],64,[],[(0,.box 27 [d8 a,d6 a_2,d6 a_3,d6 a_4,dW a_5,.d (.sl .bool) a_6]),(1,.box 151 [dI s,dI s_2,dI s_3,dB s_4,dB s_5])],2,[],0⟩
@[reducible] def zE6:Type:=Bool->Int->Int->Int->Int->List Int->List Bool->Int->Int->Int->Bool->Bool->Option aF
def acR(j2:zE6)(t22:Bool)(a a_2 a_3 a_4:Int)(a_5:List Int)(a_6:List Bool)(s s_2 s_3:Int)(s_4 s_5:Bool):Option aF :=
 if t22=true then some (false,()) else zC (F3 (cvt .i64 a_3,s,())) fun y=>if (!y.1)=true then j2 true a a_2 a_3 a_4 a_5 a_6 s s_2 s_3 s_4 s_5 else zC (F3 (zF (zG a_6),s_2,())) fun y=>if (!y.1)=true then j2 true a a_2 a_3 a_4 a_5 a_6 s s_2 s_3 s_4 s_5 else zC (F3 (zF (zG a_5),s_3,())) fun y=>j2 (!y.1) a a_2 a_3 a_4 a_5 a_6 s s_2 s_3 s_4 s_5
def acS(t47:Bool)(a a_2 a_3 a_4:Int)(a_5:List Int)(a_6:List Bool)(s s_2 s_3:Int)(s_4 s_5:Bool):Option aF :=
 if t47=true then some (false,()) else if (!s_5)=true then some (true,()) else some (eqi (add .i64 (zF (zG a_6)) (zF (zG a_5))) (cvt .i64 a_3),())
@[reducible] def zE7:Type:=Int×Int×Int×Int×List Int×List Bool
def Tg(j1:zE6)(a:zE7):Option aF :=
 zC (xP (a.1,())) fun y=>if (!y.2.1)=true then j1 true a.1 a.2.1 a.2.2.1 a.2.2.2.1 a.2.2.2.2.1 a.2.2.2.2.2 y.1.1 y.1.2.1 y.1.2.2.1 y.1.2.2.2.1 y.1.2.2.2.2 else if (!y.1.2.2.2.1)=true then j1 (nei a.2.2.2.1 0) a.1 a.2.1 a.2.2.1 a.2.2.2.1 a.2.2.2.2.1 a.2.2.2.2.2 y.1.1 y.1.2.1 y.1.2.2.1 y.1.2.2.2.1 y.1.2.2.2.2 else j1 false a.1 a.2.1 a.2.2.1 a.2.2.2.1 a.2.2.2.2.1 a.2.2.2.2.2 y.1.1 y.1.2.1 y.1.2.2.1 y.1.2.2.2.1 y.1.2.2.2.2
def Ti:=acS
def LH:=acR (Ti)
def tX(x:As aW):Option aF:=Tg LH x.1
abbrev pAt:=zp acN acO 105 C6
theorem arZ{J a b c d e f g h i j k l}:pAt J 30 [] (acQ a b c d e f g h i j k l)=acS a b c d e f g h i j k l:=by kernel_rfl
theorem ar0{J a b c d e f g h i j k l}:pAt J 14 [] (acP a b c d e f g h i j k l)=acR (C (J 30 []) acQ) a b c d e f g h i j k l:=by kernel_rfl
abbrev pAs:=zj acN acO 105 C6
theorem ar1:C (pAs 30 []) acQ=Ti:=gNC (by decide) fun _=>arZ
theorem ar2:C (pAs 14 []) acP=LH:=gNC (by decide) fun _=>ar0.trans (by rw[ar1]<;>kernel_rfl)
theorem LJ:ak Tryz.prog (fun _=>True) 105 ⟨C6,tX⟩:=zcc (env:=acN) (d:=6) (hs:=Ev.get acO) (aj Tf (aj arY av)) (fun J x=>Tg (C (J 14 []) acP) x.1) (fun _ _=>by kernel_rfl) fun _=>by rw[ar2]<;>rfl
@[reducible] def ar3:Sh:=⟨[.d bA],[],aW,[.d bA],[],0,aW⟩
@[reducible] def dD:Type:=As aW
def acT(a:zE7):Option dD :=
 zC (lW (a.2.2.2.2.1,())) fun y=>zC (zU (a.2.2.2.2.2,())) fun y_1=>some ((a.1,a.2.1,a.2.2.1,a.2.2.2.1,y.1,y_1.1),())
def Tj(x:As aW):Option dD:=acT x.1
theorem apq:ak Tryz.prog (fun _=>True) 170 ⟨ar3,Tj⟩:=ctn (aj zy (aj acI av)) 6 fun J x=>by kernel_rfl
@[reducible] def cB:List Ty:=[.pr (.int .u8) qz]
@[reducible] def alv:Sh:=⟨[.d aD],[],cB,[.d aD],[],0,cB⟩
def acU(p:zE0):Option (As cB) :=
 zC (Tj (p.2.2.2.2.2.1,())) fun y=>some ((p.1,p.2.1,p.2.2.1,p.2.2.2.1,p.2.2.2.2.1,y.1,p.2.2.2.2.2.2),())
def xQ(x:As cB):Option (As cB):=acU x.1
theorem acV:ak Tryz.prog (fun _=>True) 114 ⟨alv,xQ⟩:=ctn (aj apq av) 6 fun J x=>by kernel_rfl
@[reducible] def dY:List Ty:=[.sl (.int .u16),.sl (.int .u8)]
@[reducible] def aI:List Ty:=[.sl (.int .u8)]
@[reducible] def Tm:Sh:=⟨[.row 0,.d aC],[.row (.int .u8) 5],dY,[.row 1],[(1,.row (.int .u8) 5)],1,aI⟩
def acW:Env:=(cts [])
def acX:List (Nat×Hint):=[(26,⟨[.unl 0],[0,7,8,9]⟩)]
def Tn(t7:List Int)(t8 t9:Int)(out:List Int):St:=⟨[(0,.row 1),(7,dW t7),(8,dI t8),(9,dI t9)],23,[],[(1,.row (.int .u8) 5 out)],2,[],1⟩
@[reducible] def bT:Type:=As aI
@[reducible] def zE8:Type:=List Int->Int->Int->List Int->Option bT
def F4(self1:zE8)(t7:List Int)(t8 t9:Int)(out:List Int):Option bT :=
 if lt t9 t8=true then zC (at? t7 t9) fun y=>need (small (zG out+Nat.succ (Nat.succ 0))) (self1 t7 t8 (add .i64 t9 1) (out++[cvt .u8 (Sx.shr .u16 y 8),cvt .u8 y])) else some (out,())
def Tp(j1:zE8)(out l:List Int):Option bT :=
 j1 out (zF (zG out)) 0 l
def LK(t7:List Int)(t8 t9:Int)(out:List Int):Option bT :=
 bu (fun self s=>F4 (fun t7 t8 t9 out=>self (t7,t8,t9,out)) s.1 s.2.1 s.2.2.1 s.2.2.2) 18446744073709551616 (t7,t8,t9,out)
def mW(x:As dY):Option bT:=Tp LK x.1 x.2.1
abbrev pAz:=zp acW acX 107 Tm
theorem ar4{J w1 a b c d}:pAz J 26 [w1] (Tn a b c d)=F4 (C w1 Tn) a b c d:=by kernel_rfl
abbrev pAy:=zj acW acX 107 Tm
theorem ar5:C (pAy 26 []) Tn=LK:=gLC (by decide) (by kernel_rfl) (fun _=>by unfold LK;rfl) fun _ _=>ar4.trans (by kernel_rfl)
theorem ar6:ak Tryz.prog (fun _=>True) 107 ⟨Tm,mW⟩:=zcc (env:=acW) (d:=6) (hs:=Ev.get acX) av (fun J x=>Tp (C (J 26 []) Tn) x.1 x.2.1) (fun _ _=>by kernel_rfl) fun _=>by rw[ar5]<;>rfl
@[reducible] def Tq:Sh:=⟨[.d (.sl .bool)],[],[.sl .bool],[.d aJ],[],0,aI⟩
def acY:Env:=(cts [])
def acZ:List (Nat×Hint):=[(7,⟨[],[0,3]⟩),(250,⟨[],[4,18,19,20]⟩)]
def ac0(bits:List Bool)(n:Int):St:=⟨[(0,.d (.sl .bool) bits),(3,dI n)],38,[],[],0,[],0⟩
def Tt(t18:List Bool)(t19 t20:Int)(out:List Int):St:=⟨[(4,.row 0),(18,.d (.sl .bool) t18),(19,dI t19),(20,dI t20)],38,[],[(0,.row (.int .u8) 5 out)],1,[],0⟩
@[reducible] def zE9:Type:=List Bool->Int->Int->List Int->Option bT
def ac1(j2:zE9)(bits:List Bool)(n:Int):Option bT :=
 need (ge n 0) (need (Ev.iX n n) (need (small (zI n)) (j2 bits (zF (zG bits)) 0 (zE (zI n) 0))))
def F5(self2:zE9)(t18:List Bool)(t19 t20:Int)(out:List Int):Option bT :=
 if lt t20 t19=true then zC (at? t18 t20) fun y=>if y=true then zC (at? out (quo .i64 t20 8)) fun x=>zC (at? out (quo .i64 t20 8)) fun y=>need (ge (rem t20 8) 0) (zC (at? out (quo .i64 t20 8)) fun x=>zC (at? out (quo .i64 t20 8)) fun x=>self2 t18 t19 (add .i64 t20 1) (List.set out (zI (quo .i64 t20 8)) (Sx.bor .u8 y (Sx.shl .u8 1 (rem t20 8))))) else self2 t18 t19 (add .i64 t20 1) out else some (out,())
def Tv(j1:List Bool->Int->Option bT)(bits:List Bool):Option bT :=
 if gt (rem (zF (zG bits)) 8) 0=true then j1 bits (add .i64 (quo .i64 (zF (zG bits)) 8) 1) else j1 bits (quo .i64 (zF (zG bits)) 8)
def Tw(t18:List Bool)(t19 t20:Int)(out:List Int):Option bT :=
 bu (fun self s=>F5 (fun t18 t19 t20 out=>self (t18,t19,t20,out)) s.1 s.2.1 s.2.2.1 s.2.2.2) 18446744073709551616 (t18,t19,t20,out)
def LM:=ac1 (Tw)
def F6(x:As [.sl .bool]):Option bT:=Tv LM x.1
abbrev pAp:=zp acY acZ 108 Tq
theorem ar7{J w2 a b c d}:pAp J 250 [w2] (Tt a b c d)=F5 (C w2 Tt) a b c d:=by kernel_rfl
theorem ar8{J a b}:pAp J 7 [] (ac0 a b)=ac1 (C (J 250 []) Tt) a b:=by kernel_rfl
abbrev pAo:=zj acY acZ 108 Tq
theorem ar9:C (pAo 250 []) Tt=Tw:=gLC (by decide) (by kernel_rfl) (fun _=>by unfold Tw;rfl) fun _ _=>ar7.trans (by kernel_rfl)
theorem asa:C (pAo 7 []) ac0=LM:=gNC (by decide) fun _=>ar8.trans (by rw[ar9]<;>kernel_rfl)
theorem alx:ak Tryz.prog (fun _=>True) 108 ⟨Tq,F6⟩:=zcc (env:=acY) (d:=6) (hs:=Ev.get acZ) av (fun J x=>Tv (C (J 7 []) ac0) x.1) (fun _ _=>by kernel_rfl) fun _=>by rw[asa]<;>rfl
@[reducible] def aU:List Ty:=[.sl (.int .u8),.int .i64]
@[reducible] def Tx:Sh:=⟨[.d bA],[],aW,[.d aJ,.d (.int .i64)],[],0,aU⟩
def ac2:Env:=(cts [(105,(⟨C6,tX⟩:Ct)),(106,(⟨Te,xP⟩:Ct)),(107,(⟨Tm,mW⟩:Ct)),(108,(⟨Tq,F6⟩:Ct))])
def ac3:List (Nat×Hint):=[(31,⟨[],[1,4,6,48,49,50,51]⟩),(63,⟨[],[1,4,6,48,49,50,51]⟩),(127,⟨[],[6]⟩),(508,⟨[],[1,4,6,43]⟩)]
def ac4(a a_2 a_3 a_4:Int)(a_5:List Int)(a_6:List Bool)(s s_2 s_3:Int)(s_4 s_5:Bool)(out:List Int):St:=⟨[(1,.pb 0 0),(4,.pb 1 0),(6,.row 2)],102,[],[(0,.box 27 [d8 a,d6 a_2,d6 a_3,d6 a_4,dW a_5,.d (.sl .bool) a_6]),(1,.box 151 [dI s,dI s_2,dI s_3,dB s_4,dB s_5]),(2,.row (.int .u8) 5 out)],3,[],0⟩
def ac5(a a_2 a_3 a_4:Int)(a_5:List Int)(a_6:List Bool)(s s_2 s_3:Int)(s_4 s_5:Bool)(out:List Int):St:=⟨[(1,.pb 0 0),(4,.pb 1 0),(6,.row 2)],102,[],[(0,.box 27 [d8 a,d6 a_2,d6 a_3,d6 a_4,dW a_5,.d (.sl .bool) a_6]),(1,.box 151 [dI s,dI s_2,dI s_3,dB s_4,dB s_5]),(2,.row (.int .u8) 5 out)],3,[],0⟩
def ac6(t43:Bool)(a a_2 a_3 a_4:Int)(a_5:List Int)(a_6:List Bool)(s s_2 s_3:Int)(s_4 s_5:Bool)(out:List Int):St:=⟨[(1,.pb 0 0),(4,.pb 1 0),(6,.row 2),(43,dB t43)],102,[],[(0,.box 27 [d8 a,d6 a_2,d6 a_3,d6 a_4,dW a_5,.d (.sl .bool) a_6]),(1,.box 151 [dI s,dI s_2,dI s_3,dB s_4,dB s_5]),(2,.row (.int .u8) 5 out)],3,[],0⟩
def ac7(out:List Int):St:=⟨[(6,.row 0)],102,[],[(0,.row (.int .u8) 5 out)],1,[],0⟩
@[reducible] def cO:Type:=As aU
@[reducible] def apr:Type:=Int->Int->Int->Int->List Int->List Bool->Int->Int->Int->Bool->Bool->List Int->Option cO
def aly(j2:apr)(a a_2 a_3 a_4:Int)(a_5:List Int)(a_6:List Bool)(s s_2 s_3:Int)(s_4 s_5:Bool)(out:List Int):Option cO :=
 if s_4=true then zC (mW ([a_4,cvt .u16 (zF (zG a_5))],out,())) fun y=>j2 a a_2 a_3 a_4 a_5 a_6 s s_2 s_3 s_4 s_5 y.1 else j2 a a_2 a_3 a_4 a_5 a_6 s s_2 s_3 s_4 s_5 out
def alz(j3:Bool->Int->Int->Int->Int->List Int->List Bool->Int->Int->Int->Bool->Bool->List Int->Option cO)(a a_2 a_3 a_4:Int)(a_5:List Int)(a_6:List Bool)(s s_2 s_3:Int)(s_4 s_5:Bool)(out:List Int):Option cO :=
 if eqi a 5=true then zC (at? a_6 0) fun y=>j3 y a a_2 a_3 a_4 a_5 a_6 s s_2 s_3 s_4 s_5 out else j3 false a a_2 a_3 a_4 a_5 a_6 s s_2 s_3 s_4 s_5 out
def alA(j4:List Int->Option cO)(t43:Bool)(a a_2 a_3 a_4:Int)(a_5:List Int)(a_6:List Bool)(s s_2 s_3:Int)(s_4 s_5:Bool)(out:List Int):Option cO :=
 if t43=true then zC (mW ([65280],out,())) fun y=>j4 y.1 else if eqi a 5=true then zC (mW ([0],out,())) fun y=>j4 y.1 else if eqi a 6=true then zC (mW (a_5,out,())) fun y=>j4 y.1 else if gt s_2 0=true then zC (F6 (a_6,())) fun y=>need (small (zG out+Nat.succ 0)) (need (small (zG (out++[cvt .u8 (zF (zG y.1))])+zG y.1)) (j4 (out++[cvt .u8 (zF (zG y.1))]++y.1))) else if gt s_3 0=true then need (small (zG out+Nat.succ 0)) (zC (mW (a_5,out++[cvt .u8 (mul .i64 2 (zF (zG a_5)))],())) fun y=>j4 y.1) else j4 out
def alB(out:List Int):Option cO :=
 some (out,0,())
def Tz(j1:apr)(a:zE7):Option cO :=
 zC (tX (a,())) fun y=>if (!y.1)=true then some ([],12,()) else zC (xP (a.1,())) fun y=>zC (mW ([a.2.1],[a.1],())) fun y_1=>if gt y.1.1 0=true then zC (mW ([a.2.2.1],y_1.1,())) fun y_2=>j1 a.1 a.2.1 a.2.2.1 a.2.2.2.1 a.2.2.2.2.1 a.2.2.2.2.2 y.1.1 y.1.2.1 y.1.2.2.1 y.1.2.2.2.1 y.1.2.2.2.2 y_2.1 else j1 a.1 a.2.1 a.2.2.1 a.2.2.2.1 a.2.2.2.2.1 a.2.2.2.2.2 y.1.1 y.1.2.1 y.1.2.2.1 y.1.2.2.2.1 y.1.2.2.2.2 y_1.1
def alC:=alB
def alD:=alA (alC)
def alE:=alz (alD)
def z8:=aly (alE)
def C8(x:As aW):Option cO:=Tz z8 x.1
abbrev pAn:=zp ac2 ac3 50 Tx
theorem asb{J a}:pAn J 127 [] (ac7 a)=alB a:=by kernel_rfl
theorem asc{J a b c d e f g h i j k l m}:pAn J 508 [] (ac6 a b c d e f g h i j k l m)=alA (C (J 127 []) ac7) a b c d e f g h i j k l m:=by kernel_rfl
theorem ase{J a b c d e f g h i j k l}:pAn J 63 [] (ac5 a b c d e f g h i j k l)=alz (C (J 508 []) ac6) a b c d e f g h i j k l:=by kernel_rfl
theorem asf{J a b c d e f g h i j k l}:pAn J 31 [] (ac4 a b c d e f g h i j k l)=aly (C (J 63 []) ac5) a b c d e f g h i j k l:=by kernel_rfl
abbrev pAm:=zj ac2 ac3 50 Tx
theorem asg:C (pAm 127 []) ac7=alC:=gNC (by decide) fun _=>asb
theorem ash:C (pAm 508 []) ac6=alD:=gNC (by decide) fun _=>asc.trans (by rw[asg]<;>kernel_rfl)
theorem asi:C (pAm 63 []) ac5=alE:=gNC (by decide) fun _=>ase.trans (by rw[ash]<;>kernel_rfl)
theorem asj:C (pAm 31 []) ac4=z8:=gNC (by decide) fun _=>asf.trans (by rw[asi]<;>kernel_rfl)
theorem ac8:ak Tryz.prog (fun _=>True) 50 ⟨Tx,C8⟩:=zcc (env:=ac2) (d:=6) (hs:=Ev.get ac3) (aj LJ (aj Tf (aj ar6 (aj alx av)))) (fun J x=>Tz (C (J 31 []) ac4) x.1) (fun _ _=>by kernel_rfl) fun _=>by rw[asj]<;>rfl
@[reducible] def TB:Sh:=⟨[.d (.pr (.int .u16) BU)],[],[.pr (.int .u16) BU],[.d aJ,.d (.int .i64)],[],0,aU⟩
def ac9:Env:=(cts [])
def ada:List (Nat×Hint):=[(14,⟨[],[1,4,14]⟩)]
def adb(n:Int)(t14:Bool)(x:Int×Int×List Int):St:=⟨[(1,.pb 0 0),(4,dI n),(14,dB t14)],37,[],[(0,.box 129 [d6 x.1,d8 x.2.1,dL x.2.2])],1,[],0⟩
def TC(n:Int)(t14:Bool)(x:Int×Int×List Int):Option cO :=
 if t14=true then some ([],2,()) else need (Ev.iX 0 (add .i64 7 n)) (need (small (zI (add .i64 7 n))) (need (small (0+Nat.succ (Nat.succ (Nat.succ (Nat.succ (Nat.succ (Nat.succ (Nat.succ 0)))))))) (need (small (Nat.succ (Nat.succ (Nat.succ (Nat.succ (Nat.succ (Nat.succ (Nat.succ 0))))))+zG x.2.2)) (some (cvt .u8 (Sx.shr .u16 x.1 8)::cvt .u8 x.1::0::0::0::cvt .u8 (add .i64 n 1)::x.2.1::x.2.2,0,())))))
def TD(j1:Int->Bool->Int×Int×List Int->Option cO)(x:Int×Int×List Int):Option cO :=
 if lt (zF (zG x.2.2)) 1=true then j1 (zF (zG x.2.2)) true x else j1 (zF (zG x.2.2)) (gt (zF (zG x.2.2)) 253) x
def ade:=TC
def LP(x:As [.pr (.int .u16) BU]):Option cO:=TD ade x.1
abbrev pBv:=zp ac9 ada 100 TB
theorem asl{J a b c}:pBv J 14 [] (adb a b c)=TC a b c:=by kernel_rfl
abbrev pBu:=zj ac9 ada 100 TB
theorem asn:C (pBu 14 []) adb=ade:=gNC (by decide) fun _=>asl
theorem alF:ak Tryz.prog (fun _=>True) 100 ⟨TB,LP⟩:=zcc (env:=ac9) (d:=6) (hs:=Ev.get ada) av (fun J x=>TD (C (J 14 []) adb) x.1) (fun _ _=>by kernel_rfl) fun _=>by rw[asn]<;>rfl
@[reducible] def dA:List Ty:=[.un,.int .u8,.int .u16,.pr (.int .u8) jH]
@[reducible] def aso:Sh:=⟨[.d (.un),.d (.int .u8),.d (.int .u16),.d bA],[],dA,[.d aJ],[],0,aI⟩
def adf(v:Unit)(unit tx:Int)(a:zE7):Option bT :=
 zC (C8 (a,())) fun y=>if nei y.2.1 0=true then some ([],()) else zC (LP ((tx,unit,y.1),())) fun y=>if nei y.2.1 0=true then some ([],()) else some (y.1,())
def adg(x:As dA):Option bT:=adf x.1 x.2.1 x.2.2.1 x.2.2.2.1
theorem asq:ak Tryz.prog (fun _=>True) 338 ⟨aso,adg⟩:=ctn (aj ac8 (aj alF av)) 6 fun J x=>by kernel_rfl
@[reducible] def asr:Sh:=⟨[.d (.un),.d (.int .u16)],[],[.un,.int .u16],[.d (.int .u16)],[],0,[.int .u16]⟩
@[reducible] def dH:Type:=As [.int .u16]
def ast(v:Unit)(tx:Int):Option dH :=
 some (add .u16 tx 1,())
def adh(x:As [.un,.int .u16]):Option dH:=ast x.1 x.2.1
theorem asu:ak Tryz.prog (fun _=>True) 339 ⟨asr,adh⟩:=ctn av 6 fun J x=>by kernel_rfl
@[reducible] def TF:Sh:=⟨[],[],[],[.d (.ar 16 (.int .u16))],[],0,[.ar 16 (.int .u16)]⟩
def adi:Env:=(cts [])
def adj:List (Nat×Hint):=[(58,⟨[],[0,1,5]⟩),(7475,⟨[],[0,1,2,3,5]⟩),(59802,⟨[],[0,1,2,3,5,10]⟩)]
def Aa(t5:Int)(t0 t:List Int):St:=⟨[(0,.pb 0 0),(1,.pb 1 0),(5,dI t5)],26,[],[(0,.row (.int .u16) 213 t0),(1,.row (.int .u16) 213 t)],2,[],0⟩
def TG(i x t5 t10:Int)(t0 t:List Int):St:=⟨[(0,.pb 0 0),(1,.pb 1 0),(2,dI i),(3,d6 x),(5,dI t5),(10,dI t10)],26,[],[(0,.row (.int .u16) 213 t0),(1,.row (.int .u16) 213 t)],2,[],0⟩
def adk(i x t5:Int)(t0 t:List Int):St:=⟨[(0,.pb 0 0),(1,.pb 1 0),(2,dI i),(3,d6 x),(5,dI t5)],26,[],[(0,.row (.int .u16) 213 t0),(1,.row (.int .u16) 213 t)],2,[],0⟩
@[reducible] def aps:Type:=Int->Int->Int->Int->List Int->List Int->Option (As [.ar 16 (.int .u16)])
@[reducible] def F7:Type:=Int->List Int->List Int->Option (As [.ar 16 (.int .u16)])
def alG(j2:aps)(self1:F7)(t5:Int)(t0 t:List Int):Option (As [.ar 16 (.int .u16)]) :=
 if lt t5 16=true then j2 t5 (cvt .u16 t5) t5 0 t0 t else need (eqi (zF (zG t)) 16) (need (eqi (zF (zG t0)) (zF (zG t))) (need (eqi 16 (zF (zG t*1))) (need (eqi (zF (zG t)) 16) (need (eqi (zF (zG t)) 16) (some (t,()))))))
def alH(j3:Int->Int->Int->List Int->List Int->Option (As [.ar 16 (.int .u16)]))(self1:F7)(self2:aps)(i x t5 t10:Int)(t0 t:List Int):Option (As [.ar 16 (.int .u16)]) :=
 if lt t10 4=true then if eqi (Sx.lJ .u16 x 1) 1=true then self2 i (Sx.iE .u16 (Sx.shr .u16 x 1) 40961) t5 (add .i64 t10 1) t0 t else self2 i (Sx.shr .u16 x 1) t5 (add .i64 t10 1) t0 t else j3 i x t5 t0 t
def alI(self1:F7)(i x t5:Int)(t0 t:List Int):Option (As [.ar 16 (.int .u16)]) :=
 need (lt i 16) (zC (at? t i) fun x_1=>zC (at? t i) fun x_2=>self1 (add .i64 t5 1) t0 (List.set t (zI i) x))
def alJ(j1:F7):Option (As [.ar 16 (.int .u16)]) :=
 j1 0 (zE 16 0) (zE 16 0)
def alK(u1:F7):=alI u1
def adl(u1:F7)(i x t5 t10:Int)(t0 t:List Int):Option (As [.ar 16 (.int .u16)]) :=
 bu (fun self s=>alH (alK u1) u1 (fun i x t5 t10 t0 t=>self (i,x,t5,t10,t0,t)) s.1 s.2.1 s.2.2.1 s.2.2.2.1 s.2.2.2.2.1 s.2.2.2.2.2) 18446744073709551616 (i,x,t5,t10,t0,t)
def adn(t5:Int)(t0 t:List Int):Option (As [.ar 16 (.int .u16)]) :=
 bu (fun self s=>alG (adl (fun t5 t0 t=>self (t5,t0,t))) (fun t5 t0 t=>self (t5,t0,t)) s.1 s.2.1 s.2.2) 18446744073709551616 (t5,t0,t)
def TH(x:As []):Option (As [.ar 16 (.int .u16)]):=alJ adn
abbrev pA9:=zp adi adj 156 TF
theorem asv{J w1 a b c d e}:pA9 J 7475 [w1] (adk a b c d e)=alI (C w1 Aa) a b c d e:=by kernel_rfl
theorem asw{J w1 w2 a b c d e f}:pA9 J 59802 [w1,w2] (TG a b c d e f)=alH (C (J 7475 [w1]) adk) (C w1 Aa) (C w2 TG) a b c d e f:=by kernel_rfl
theorem asx{J w1 a b c}:pA9 J 58 [w1] (Aa a b c)=alG (C (J 59802 [w1]) TG) (C w1 Aa) a b c:=by kernel_rfl
abbrev pA8:=zj adi adj 156 TF
theorem asy{w1}:C (pA8 7475 [w1]) adk=alK (C w1 Aa):=gNC (by decide) fun _=>asv
theorem asz{w1}:C (pA8 59802 [w1]) TG=adl (C w1 Aa):=gLC (by decide) (by kernel_rfl) (fun _=>by unfold adl;rfl) fun _ _=>asw.trans (by rw[asy]<;>kernel_rfl)
theorem asA:C (pA8 58 []) Aa=adn:=gLC (by decide) (by kernel_rfl) (fun _=>by unfold adn;rfl) fun _ _=>asx.trans (by rw[asz]<;>kernel_rfl)
theorem asB:ak Tryz.prog (fun _=>True) 156 ⟨TF,TH⟩:=zcc (env:=adi) (d:=6) (hs:=Ev.get adj) av (fun J x=>alJ (C (J 58 []) Aa)) (fun _ _=>by kernel_rfl) fun _=>by rw[asA]<;>rfl
@[reducible] def alL:Sh:=⟨[.pb 0 0,.d (.int .u16),.d (.int .u8)],[.row (.int .u16) 213],[.int .u16,.int .u8,.sl (.int .u16)],[.d (.int .u16)],[(0,.row (.int .u16) 213)],0,[.int .u16,.sl (.int .u16)]⟩
def ado(t sum:Int)(c:List Int):Option (As [.int .u16,.sl (.int .u16)]) :=
 need (lt (Sx.lJ .u16 (Sx.iE .u16 t (cvt .u16 sum)) 15) 16) (zC (at? c (Sx.lJ .u16 (Sx.iE .u16 t (cvt .u16 sum)) 15)) fun x=>zC (at? c (Sx.lJ .u16 (Sx.iE .u16 t (cvt .u16 sum)) 15)) fun y=>need (lt (Sx.lJ .u16 (Sx.iE .u16 (Sx.shr .u16 (Sx.iE .u16 t (cvt .u16 sum)) 4) y) 15) 16) (zC (at? c (Sx.lJ .u16 (Sx.iE .u16 (Sx.shr .u16 (Sx.iE .u16 t (cvt .u16 sum)) 4) y) 15)) fun x=>zC (at? c (Sx.lJ .u16 (Sx.iE .u16 (Sx.shr .u16 (Sx.iE .u16 t (cvt .u16 sum)) 4) y) 15)) fun y_1=>some (Sx.iE .u16 (Sx.shr .u16 (Sx.iE .u16 (Sx.shr .u16 (Sx.iE .u16 t (cvt .u16 sum)) 4) y) 4) y_1,c,())))
def JD(x:As [.int .u16,.int .u8,.sl (.int .u16)]):Option (As [.int .u16,.sl (.int .u16)]):=ado x.1 x.2.1 x.2.2.1
theorem asC:ak Tryz.prog (fun _=>True) 157 ⟨alL,JD⟩:=ctn av 6 fun J x=>by kernel_rfl
@[reducible] def adp:Sh:=⟨[.d aJ],[],aI,[.d (.int .u16)],[],0,[.int .u16]⟩
def adq:Env:=(cts [(156,(⟨TF,TH⟩:Ct)),(157,(⟨alL,JD⟩:Ct))])
def adr:List (Nat×Hint):=[(122,⟨[],[0,3,4,8,9]⟩)]
def TI(b:List Int)(sum t8 t9:Int)(t:List Int):St:=⟨[(0,dL b),(3,.pb 0 0),(4,d6 sum),(8,dI t8),(9,dI t9)],20,[],[(0,.row (.int .u16) 213 t)],1,[],0⟩
@[reducible] def apt:Type:=List Int->Int->Int->Int->List Int->Option dH
def F8(self1:apt)(b:List Int)(sum t8 t9:Int)(t:List Int):Option dH :=
 if lt t9 t8=true then zC (at? b t9) fun y=>zC (JD (sum,y,t,())) fun y=>self1 b y.1 t8 (add .i64 t9 1) y.2.1 else some (sum,())
def TJ(j1:apt)(b:List Int):Option dH :=
 zC (TH ()) fun y=>need (eqi 16 (zF (zG y.1))) (need (eqi 16 (zF (zG y.1*1))) (j1 b 65535 (zF (zG b)) 0 y.1))
def LQ(b:List Int)(sum t8 t9:Int)(t:List Int):Option dH :=
 bu (fun self s=>F8 (fun b sum t8 t9 t=>self (b,sum,t8,t9,t)) s.1 s.2.1 s.2.2.1 s.2.2.2.1 s.2.2.2.2) 18446744073709551616 (b,sum,t8,t9,t)
def TK(x:As aI):Option dH:=TJ LQ x.1
abbrev pA7:=zp adq adr 97 adp
theorem asD{J w1 a b c d e}:pA7 J 122 [w1] (TI a b c d e)=F8 (C w1 TI) a b c d e:=by kernel_rfl
abbrev pA6:=zj adq adr 97 adp
theorem asE:C (pA6 122 []) TI=LQ:=gLC (by decide) (by kernel_rfl) (fun _=>by unfold LQ;rfl) fun _ _=>asD.trans (by kernel_rfl)
theorem alM:ak Tryz.prog (fun _=>True) 97 ⟨adp,TK⟩:=zcc (env:=adq) (d:=6) (hs:=Ev.get adr) (aj asB (aj asC av)) (fun J x=>TJ (C (J 122 []) TI) x.1) (fun _ _=>by kernel_rfl) fun _=>by rw[asE]<;>rfl
@[reducible] def TL:Sh:=⟨[.d aJ],[],aI,[.d aJ],[],0,aI⟩
def TM(b:List Int):Option bT :=
 zC (TK (b,())) fun y=>need (Ev.iX 0 (add .i64 (zF (zG b)) 2)) (need (small (zI (add .i64 (zF (zG b)) 2))) (need (small (0+zG b)) (need (small (zG b+Nat.succ (Nat.succ 0))) (some (b++[cvt .u8 y.1,cvt .u8 (Sx.shr .u16 y.1 8)],())))))
def Ab(x:As aI):Option bT:=TM x.1
theorem alN:ak Tryz.prog (fun _=>True) 47 ⟨TL,Ab⟩:=ctn (aj alM av) 6 fun J x=>by kernel_rfl
@[reducible] def ads:Sh:=⟨[.d (.int .u8)],[],[.int .u8],[.d (.bool)],[],0,[.bool]⟩
def LU(unit:Int):Option aF :=
 if ge unit 1=true then some (le unit 247,()) else some (false,())
def C9(x:As [.int .u8]):Option aF:=LU x.1
theorem alO:ak Tryz.prog (fun _=>True) 160 ⟨ads,C9⟩:=ctn av 6 fun J x=>by kernel_rfl
@[reducible] def eQ:List Ty:=[.int .u8,.sl (.int .u8)]
@[reducible] def TN:Sh:=⟨[.d (.int .u8),.d aJ],[],eQ,[.d aJ,.d (.int .i64)],[],0,aU⟩
def adt:Env:=(cts [(47,(⟨TL,Ab⟩:Ct)),(160,(⟨ads,C9⟩:Ct))])
def adu:List (Nat×Hint):=[(6,⟨[],[0,1,18]⟩)]
def adv(unit:Int)(pdu:List Int)(t18:Bool):St:=⟨[(0,d8 unit),(1,dL pdu),(18,dB t18)],24,[],[],0,[],0⟩
def TQ(unit:Int)(pdu:List Int)(t18:Bool):Option cO :=
 if t18=true then some ([],2,()) else need (small (Nat.succ 0+zG pdu)) (zC (Ab (unit::pdu,())) fun y=>some (y.1,0,()))
def TT(j1:Int->List Int->Bool->Option cO)(unit:Int)(pdu:List Int):Option cO :=
 zC (C9 (unit,())) fun y=>if (!y.1)=true then j1 unit pdu true else if lt (zF (zG pdu)) 1=true then j1 unit pdu true else j1 unit pdu (gt (zF (zG pdu)) 253)
def adw:=TQ
def LV(x:As eQ):Option cO:=TT adw x.1 x.2.1
abbrev pC1:=zp adt adu 102 TN
theorem asF{J a b c}:pC1 J 6 [] (adv a b c)=TQ a b c:=by kernel_rfl
abbrev pC0:=zj adt adu 102 TN
theorem asG:C (pC0 6 []) adv=adw:=gNC (by decide) fun _=>asF
theorem alP:ak Tryz.prog (fun _=>True) 102 ⟨TN,LV⟩:=zcc (env:=adt) (d:=6) (hs:=Ev.get adu) (aj alN (aj alO av)) (fun J x=>TT (C (J 6 []) adv) x.1 x.2.1) (fun _ _=>by kernel_rfl) fun _=>by rw[asG]<;>rfl
@[reducible] def asH:Sh:=⟨[.d (.int .u8),.d bA],[],[.int .u8,.pr (.int .u8) jH],[.d aJ,.d (.int .i64)],[],0,aU⟩
def TU(unit:Int)(a:zE7):Option cO :=
 zC (C8 (a,())) fun y=>if nei y.2.1 0=true then some ([],y.2.1,()) else zC (LV (unit,y.1,())) fun y=>some (y.1,y.2.1,())
def TV(x:As [.int .u8,.pr (.int .u8) jH]):Option cO:=TU x.1 x.2.1
theorem asI:ak Tryz.prog (fun _=>True) 344 ⟨asH,TV⟩:=ctn (aj ac8 (aj alP av)) 6 fun J x=>by kernel_rfl
@[reducible] def asJ:Sh:=⟨[.d (.un),.d (.int .u8),.d (.int .u16),.d bA],[],dA,[.d aJ],[],0,aI⟩
def adx(v:Unit)(unit tx:Int)(a:zE7):Option bT :=
 zC (TV (unit,a,())) fun y=>if nei y.2.1 0=true then some ([],()) else some (y.1,())
def ady(x:As dA):Option bT:=adx x.1 x.2.1 x.2.2.1 x.2.2.2.1
theorem asK:ak Tryz.prog (fun _=>True) 341 ⟨asJ,ady⟩:=ctn (aj asI av) 6 fun J x=>by kernel_rfl
@[reducible] def asL:Sh:=⟨[.d (.un),.d (.int .u16)],[],[.un,.int .u16],[.d (.int .u16)],[],0,[.int .u16]⟩
def asM(v:Unit)(tx:Int):Option dH :=
 some (tx,())
def adz(x:As [.un,.int .u16]):Option dH:=asM x.1 x.2.1
theorem asN:ak Tryz.prog (fun _=>True) 342 ⟨asL,adz⟩:=ctn av 6 fun J x=>by kernel_rfl
@[reducible] def cY:List Ty:=[.pr (.int .u8) qz,.sl (.int .u8)]
@[reducible] def asO:Sh:=⟨[.d aD],[],cB,[.d aD,.d aJ],[],0,cY⟩
def adA(p:zE0):Option (As cY) :=
 if eqi p.2.1 2=true then zC (adh ((),p.2.2.2.2.2.2.1,())) fun y=>zC (adg ((),p.1,y.1,p.2.2.2.2.2.1,())) fun y_1=>some ((p.1,p.2.1,p.2.2.1,p.2.2.2.1,p.2.2.2.2.1,p.2.2.2.2.2.1,y.1,p.2.2.1,p.2.2.2.2.2.2.2.2),y_1.1,()) else zC (adz ((),p.2.2.2.2.2.2.1,())) fun y=>zC (ady ((),p.1,y.1,p.2.2.2.2.2.1,())) fun y_1=>some ((p.1,p.2.1,p.2.2.1,p.2.2.2.1,p.2.2.2.2.1,p.2.2.2.2.2.1,y.1,p.2.2.1,p.2.2.2.2.2.2.2.2),y_1.1,())
def TW(x:As cB):Option (As cY):=adA x.1
theorem alQ:ak Tryz.prog (fun _=>True) 115 ⟨asO,TW⟩:=ctn (aj asq (aj asu (aj asK (aj asN av)))) 6 fun J x=>by kernel_rfl
@[reducible] def eC:List Ty:=[.pr (.int .u8) qz,.sl (.int .u8),.int .i64]
@[reducible] def alR:Sh:=⟨[.d aD,.d bA],[],[.pr (.int .u8) qz,.pr (.int .u8) jH],[.d aD,.d aJ,.d (.int .i64)],[],0,eC⟩
def adB(p:zE0)(a:zE7):Option (As eC) :=
 if p.2.2.2.2.1=true then zC (xQ (p,())) fun y=>some (y.1,[],30,()) else zC (tX (a,())) fun y=>if (!y.1)=true then zC (xQ (p,())) fun y=>some (y.1,[],12,()) else zC (Tj (a,())) fun y=>zC (TW ((p.1,p.2.1,p.2.2.1,p.2.2.2.1,true,y.1,p.2.2.2.2.2.2.1,p.2.2.2.2.2.2.2.1,p.2.2.2.1),())) fun y=>some (y.1,y.2.1,0,())
def F9(x:As [.pr (.int .u8) qz,.pr (.int .u8) jH]):Option (As eC):=adB x.1 x.2.1
theorem asP:ak Tryz.prog (fun _=>True) 116 ⟨alR,F9⟩:=ctn (aj LJ (aj acV (aj alQ (aj apq av)))) 6 fun J x=>by kernel_rfl
@[reducible] def cC:List Ty:=[.pr (.int .i64) aC]
@[reducible] def LW:Sh:=⟨[.d cr],[],cC,[.d (.bool)],[],0,[.bool]⟩
def adC(x:Int×List Int):Option aF :=
 if le (zF (zG x.2)) 14=true then if ge x.1 0=true then if lt x.1 64=true then some (le (add .i64 x.1 (zF (zG x.2))) 64,()) else some (false,()) else some (false,()) else some (false,())
def rH(x:As cC):Option aF:=adC x.1
theorem Ga:ak Tryz.prog (fun _=>True) 26 ⟨LW,rH⟩:=ctn av 6 fun J x=>by kernel_rfl
@[reducible] def LX:Sh:=⟨[.d cr],[],cC,[.d aC],[],0,aK⟩
def adD:Env:=(cts [(26,(⟨LW,rH⟩:Ct))])
def adE:List (Nat×Hint):=[(7,⟨[],[3]⟩),(60,⟨[],[3]⟩)]
def adF(l:List Int):St:=⟨[(3,.row 0)],28,[],[(0,.row (.int .u16) 25 l)],1,[],0⟩
def TX(l:List Int):St:=⟨[(3,.row 0)],28,[],[(0,.row (.int .u16) 25 l)],1,[],0⟩
@[reducible] def adG:Type:=List Int->Option bK
def apu(j2:adG)(l:List Int):Option bK :=
 j2 l
def TY(self2:adG)(l:List Int):Option bK :=
 if lt (zF (zG l)) 16=true then need (small (zG l+1)) (self2 (l++[0])) else some (l,())
def T6(j1:adG)(x:Int×List Int):Option bK :=
 zC (rH (x,())) fun y=>if y.1=true then need (small (0+Nat.succ (Nat.succ 0))) (need (small (Nat.succ (Nat.succ 0)+zG x.2)) (j1 (cvt .u16 x.1::cvt .u16 (zF (zG x.2))::x.2))) else j1 (zE 0 0)
def LY(l:List Int):Option bK :=
 bu (fun self s=>TY (fun l=>self (l)) s) 18446744073709551616 (l)
def T7:=apu (LY)
def Da(x:As cC):Option bK:=T6 T7 x.1
abbrev pD1:=zp adD adE 267 LX
theorem asQ{J w2 a}:pD1 J 60 [w2] (TX a)=TY (C w2 TX) a:=by kernel_rfl
theorem asR{J a}:pD1 J 7 [] (adF a)=apu (C (J 60 []) TX) a:=by kernel_rfl
abbrev pD0:=zj adD adE 267 LX
theorem asS:C (pD0 60 []) TX=LY:=gLC (by decide) (by kernel_rfl) (fun _=>by unfold LY;rfl) fun _ _=>asQ.trans (by kernel_rfl)
theorem asT:C (pD0 7 []) adF=T7:=gNC (by decide) fun _=>asR.trans (by rw[asS]<;>kernel_rfl)
theorem adH:ak Tryz.prog (fun _=>True) 267 ⟨LX,Da⟩:=zcc (env:=adD) (d:=6) (hs:=Ev.get adE) (aj Ga av) (fun J x=>T6 (C (J 7 []) adF) x.1) (fun _ _=>by kernel_rfl) fun _=>by rw[asT]<;>rfl
@[reducible] def alS:Sh:=⟨[.d (.int .u32)],[],[.int .u32],[.d (.int .u32)],[],0,[.int .u32]⟩
@[reducible] def aQ:Type:=As [.int .u32]
def adI(sum:Int):Option aQ :=
 if eqi (Sx.lJ .u32 sum 1) 1=true then some (Sx.iE .u32 (Sx.shr .u32 sum 1) 3988292384,()) else some (Sx.shr .u32 sum 1,())
def LZ(x:As [.int .u32]):Option aQ:=adI x.1
theorem asU:ak Tryz.prog (fun _=>True) 301 ⟨alS,LZ⟩:=ctn av 6 fun J x=>by kernel_rfl
@[reducible] def T8:Sh:=⟨[.d (.int .u32),.d (.int .u8)],[],[.int .u32,.int .u8],[.d (.int .u32)],[],0,[.int .u32]⟩
def adJ:Env:=(cts [(301,(⟨alS,LZ⟩:Ct))])
def adK:List (Nat×Hint):=[(58,⟨[],[0,9]⟩)]
def T9(sum t9:Int):St:=⟨[(0,d2 sum),(9,dI t9)],15,[],[],0,[],0⟩
def L5(self1:Int->Int->Option aQ)(sum t9:Int):Option aQ :=
 if lt t9 8=true then zC (LZ (sum,())) fun y=>self1 y.1 (add .i64 t9 1) else some (sum,())
def alT(j1:Int->Int->Option aQ)(sum b:Int):Option aQ :=
 j1 (Sx.iE .u32 sum (cvt .u32 b)) 0
def L6(sum t9:Int):Option aQ :=
 bu (fun self s=>L5 (fun sum t9=>self (sum,t9)) s.1 s.2) 18446744073709551616 (sum,t9)
def Ua(x:As [.int .u32,.int .u8]):Option aQ:=alT L6 x.1 x.2.1
abbrev pD3:=zp adJ adK 298 T8
theorem asV{J w1 a b}:pD3 J 58 [w1] (T9 a b)=L5 (C w1 T9) a b:=by kernel_rfl
abbrev pD2:=zj adJ adK 298 T8
theorem asW:C (pD2 58 []) T9=L6:=gLC (by decide) (by kernel_rfl) (fun _=>by unfold L6;rfl) fun _ _=>asV.trans (by kernel_rfl)
theorem asX:ak Tryz.prog (fun _=>True) 298 ⟨T8,Ua⟩:=zcc (env:=adJ) (d:=6) (hs:=Ev.get adK) (aj asU av) (fun J x=>alT (C (J 58 []) T9) x.1 x.2.1) (fun _ _=>by kernel_rfl) fun _=>by rw[asW]<;>rfl
end Go.Proofs.Lx
end
