/- Proved in the last of these 15 parts (this is part 5): TalkLate. Conditions: those of the given statement, and no others. -/
import Derived.Test.YtljkanofaahagaaGreatPartd
import Derived.Test.YtljkanofaahagaaGreatParta
import Derived.Test.YtljkanofaahagaaGreatProg
set_option linter.unusedVariables false
set_option linter.unusedSimpArgs false
set_option linter.unusedSectionVars false
open Option renaming bind → zC, bind_some → zD, none → zH
open List renaming replicate → zE, length → zG, getD → zJ, getElem?_eq_getElem → zV
open Int renaming ofNat → zF, toNat → zI
open Go.Value renaming slice → zK
noncomputable section
namespace Rw
open Go Ev Sx Go.RowKit
def dgo (g:TypeId->Option Ty) (P:Program):Nat->List Field->Option (List Ty)
 | _,[]=>some []
 | off,f::r=>(g f.type).bind fun a=>if f.offset=off∧P.cellsOf f.type=a.size then (dgo g P (off + a.size) r).map fun q=>a::q else none
def sumS:List Ty->Nat
 | []=>0
 | a::r=>a.size + sumS r
def dty (P:Program):Nat->TypeId->Option Ty
 | 0,_=>none
 | n + 1,t=>match P.underlying t with
  | some (.int k)=>some (.int k)
  | some .bool=>some .bool
  | some .string=>some .str
  | some (.slice e)=>(dty P n e).bind fun y=>if P.cellsOf e=y.size∧y.size ≠ 0 then some (.sl y) else none
  | some (.struct fs)=>(dgo (dty P n) P 0 fs.toList).bind fun l=>if P.cellsOf t=sumS l then some (strTy l) else none
  | _=>none
def okV:(t:Ty)->Vl t->Prop
 | .int k,x=>(Lit.int k x).wf=true
 | .bool,_=>True
 | .str,x=>x.length≤maxLen
 | .sl t,xs=>xs.length≤maxLen∧∀ x ∈ xs,okV t x
 | .pr a b,x=>okV a x.1∧okV b x.2
 | .wr a,x=>okV a x
 | .un,_=>True
 | .ar n t,xs=>xs.length=n∧∀ x ∈ xs,okV t x
 | .mp _ _,_=>True
section
variable {H:Type} {enc:TypeId×Value->H} {P:Program} {w:World} {base:Nat} {sp:Nat->Bool} {held:Bool}
theorem rp_len {t:Ty} {L:Lx} {cs:List Value} {x:Vl t} (h:(rp t).rel L w cs x):cs.length=t.size:=by rw [(rp t).len h,qk_]
def FieldOk (w:World) (cs:List Value) (off:Nat) (a:Ty):Prop:=∃ v:Vl a,(rp a).rel [] w ((cs.drop off).take a.size) v∧okV a v
def FieldsOk (w:World) (cs:List Value):Nat->List Ty->Prop
 | _,[]=>True
 | off,a::r=>FieldOk w cs off a∧FieldsOk w cs (off + a.size) r
theorem prs_ok {cs:List Value}:∀ (r:List Ty) (a:Ty) (off:Nat),FieldsOk w cs off (a::r)->off + a.size + sumS r=cs.length->∃ v:Vl (strTy.prs a r),(rp (strTy.prs a r)).rel [] w (cs.drop off) v∧okV (strTy.prs a r) v
 | [],a,off,⟨⟨v,h1,h2⟩,_⟩,hl=>by
  have:(cs.drop off).take a.size=cs.drop off:=List.take_of_length_le (by simp [sumS] at hl ⊢; omega)
  rw [this] at h1
  exact ⟨v,h1,h2⟩
 | b::r,a,off,⟨⟨v,h1,h2⟩,h3⟩,hl=>by
  obtain ⟨u,h4,h5⟩:=prs_ok r b (off + a.size) h3 (by simp [sumS] at hl ⊢; omega)
  refine ⟨(v,u),⟨(cs.drop off).take a.size,cs.drop (off + a.size),?_,h1,h4⟩,h2,h5⟩
  rw [<- List.drop_drop]
  exact (List.take_append_drop _ _).symm
theorem str_ok {cs:List Value}:∀ (l:List Ty),FieldsOk w cs 0 l->sumS l=cs.length->∃ v:Vl (strTy l),(rp (strTy l)).rel [] w cs v∧okV (strTy l) v
 | [],_,hl=>⟨(),(by show cs=[]; exact List.eq_nil_of_length_eq_zero hl.symm),trivial⟩
 | [a],⟨⟨v,h1,h2⟩,_⟩,hl=>by
  have:(cs.drop 0).take a.size=cs:=by rw [List.drop_zero]; exact List.take_of_length_le (by simp [sumS] at hl; omega)
  rw [this] at h1
  exact ⟨v,h1,h2⟩
 | a::b::r,h,hl=>prs_ok (b::r) a 0 h (by simp [sumS] at hl ⊢; omega)
theorem dgo_ok {g:TypeId->Option Ty} {cs:List Value} (ih:∀ t y n c x,g t=some y->DataW.trod enc P w base sp held n t c=some x->∃ v:Vl y,(rp y).rel [] w c v∧okV y v) (n:Nat) :
  ∀ (fs:List Field) (off:Nat) (l:List Ty),dgo g P off fs=some l->(∀ f ∈ fs,∃ x,DataW.trod enc P w base sp held n f.type ((cs.drop f.offset).take (P.cellsOf f.type))=some x)->FieldsOk w cs off l
 | [],off,l,h,_=>by cases h; trivial
 | f::r,off,l,h,hx=>by
  obtain ⟨a,h1,h⟩:=Option.bind_eq_some_iff.1 h
  split at h
  ·rename_i hc
   obtain ⟨q,h2,rfl⟩:=Option.map_eq_some_iff.1 h
   obtain ⟨x,h3⟩:=hx f (List.mem_cons_self ..)
   obtain ⟨v,h4,h5⟩:=ih _ _ _ _ _ h1 h3
   rw [hc.1,hc.2] at h4
   exact ⟨⟨v,h4,h5⟩,dgo_ok ih n r _ _ h2 fun f hf=>hx f (List.mem_cons_of_mem _ hf)⟩
  ·cases h
theorem cells_at {a:Addr} {n:Nat} {cs:List Value} (h:w.cells? base a n=some cs):cs.length=n∧∀ j v,cs[j]? = some v->w.cell? (a.add j)=some v:=by
 unfold World.cells? at h
 split at h
 ·have hl:cs.length=n:=by simpa using mapM_some_length h
  refine ⟨hl,fun j v hj=>?_⟩
  have hjl:j < n:=by rw [<- hl]; exact (List.getElem?_eq_some_iff.1 hj).1
  have:=mapM_some_get h j j (by simp [hjl])
  rw [this,hj]
 ·cases h
theorem cell_plain {a:Addr} {v:Value} (h:w.cell? a=some v):a.spot=none∧a.block < w.heap.size:=by
 unfold World.cell? at h
 split at h
 ·rename_i hb
  split at h
  ·cases h
  ·rename_i hs
   exact ⟨by simpa using hs,(Array.getElem?_eq_some_iff.1 hb).1⟩
 ·cases h
theorem add_plain (b o n:Nat):(⟨b,o,none⟩:Addr).add n=⟨b,o + n,none⟩:=by
 unfold Addr.add
 split
 ·rename_i h; subst h; rfl
 ·rfl
theorem add_zero (a:Addr):a.add 0=a:=by unfold Addr.add; rw [if_pos rfl]
theorem trod_ok:∀ (m:Nat) (t:TypeId) (y:Ty) (n:Nat) (cs:List Value) (x:DataW H×List MemPlace),dty P m t=some y->DataW.trod enc P w base sp held n t cs=some x->∃ v:Vl y,(rp y).rel [] w cs v∧okV y v
 | 0,_,_,_,_,_,h,_=>by cases h
 | m + 1,t,y,n,cs,x,h,hx=>by
  unfold dty at h
  split at h
  ·rename_i k ht
   cases h
   obtain ⟨z,rfl,_,hw⟩:=DataW.trod_int ht hx
   exact ⟨z,rfl,hw⟩
  ·rename_i ht
   cases h
   obtain ⟨b,rfl,_⟩:=DataW.trod_bool ht hx
   exact ⟨b,rfl,trivial⟩
  ·rename_i ht
   cases h
   obtain ⟨⟨⟨s⟩⟩,rfl,_,hs⟩:=DataW.trod_string ht hx
   exact ⟨s,rfl,hs⟩
  ·rename_i e ht
   obtain ⟨y',h1,h⟩:=Option.bind_eq_some_iff.1 h
   split at h
   ·rename_i hc
    cases h
    rcases DataW.trod_slice ht hx with ⟨rfl,_⟩ | ⟨a,len,cap,elems,rest,n',_,rfl,_,_,hlc,hcm,hel,hat,_⟩
    ·exact ⟨[],slice_nil _ _ _ _ _,by simp,fun x hx=>by cases hx⟩
    ·have each:∀ i:Fin len,∃ v:Vl y',(∃ c,(rp y').rel [] w c v∧c.length=y'.size∧∀ j u,c[j]? = some u->w.cell? ((a.add (i.1 * P.cellsOf e)).add j)=some u)∧okV y' v:=fun i=>by
      have hi:=hat i.1 i.2
      have:∃ z,elems[i.1]? = some z:=⟨_,zV (by rw [hel]; exact i.2)⟩
      obtain ⟨z,hz⟩:=this
      rw [hz] at hi
      obtain ⟨c,hc1,hc2⟩:=Option.bind_eq_some_iff.1 hi
      obtain ⟨v,hv1,hv2⟩:=trod_ok m e y' n' c z h1 hc2
      exact ⟨v,⟨c,hv1,rp_len hv1,(cells_at hc1).2⟩,hv2⟩
     refine ⟨List.ofFn fun i=>Classical.choose (each i),⟨some a,cap,by simp,by simp; omega,fun hne=>?_⟩,by simp; omega,fun v hv=>?_⟩
     ·have hlen:0 < len:=by
       rcases Nat.eq_zero_or_pos len with h0 | h0
       ·subst h0; simp at hne
       ·exact h0
      obtain ⟨⟨c,_,hcl,hcc⟩,_⟩:=Classical.choose_spec (each ⟨0,hlen⟩)
      have hpos:0 < c.length:=by have:=hc.2; omega
      have h0:=cell_plain (hcc 0 c[0] (zV hpos))
      rw [show (⟨0,hlen⟩:Fin len).1 * P.cellsOf e=0 from Nat.zero_mul _,add_zero,add_zero] at h0
      obtain ⟨b,o,s⟩:=a
      obtain ⟨hs,hb⟩:=h0
      have hs:s=none:=hs
      subst hs
      refine ⟨b,o,rfl,fun i x hi=>?_⟩
      have hil:i < len:=by have:=(List.getElem?_eq_some_iff.1 hi).1; simpa using this
      have hxe:x=Classical.choose (each ⟨i,hil⟩):=by
       rw [List.getElem?_ofFn,dif_pos hil] at hi
       exact (Option.some.inj hi).symm
      obtain ⟨⟨c,hc1,_,hc3⟩,_⟩:=Classical.choose_spec (each ⟨i,hil⟩)
      subst hxe
      refine ⟨hb,by simp,c,hc1,fun j v hj=>?_⟩
      have:=hc3 j v hj
      rw [qk_,<- hc.1]
      rw [add_plain,add_plain] at this
      exact this
     ·obtain ⟨i,rfl⟩:=List.mem_ofFn.1 hv
      exact (Classical.choose_spec (each i)).2
   ·cases h
  ·rename_i fs ht
   obtain ⟨l,h1,h⟩:=Option.bind_eq_some_iff.1 h
   split at h
   ·rename_i hc
    cases h
    obtain ⟨xs,n',_,_,hl,hxl,hf⟩:=DataW.trod_struct ht hx
    refine str_ok l ?_ (by rw [hl,hc])
    refine dgo_ok (fun t y n c x h1 h2=>trod_ok m t y n c x h1 h2) n' fs.toList 0 l h1 fun f hfm=>?_
    obtain ⟨i,hi,rfl⟩:=List.getElem_of_mem hfm
    have hi':i < fs.size:=by simpa using hi
    have:=hf i fs[i] (Array.getElem?_eq_getElem hi')
    rw [zV (by omega)] at this
    exact ⟨_,this⟩
   ·cases h
  ·cases h
theorem val_of {t:TypeId} {y:Ty} {m:Nat} {v:Value} {d:DataW H} {ps:List MemPlace} {r:Reach} {b':Nat} {w':World} (hd:dty P (m + 1) t=some y) (ho:Value.okWide P w' r b' t v) (h:DataW.Trod enc P w base sp held t v d ps):∃ x:Vl y,Den [] [] w (.d y x) v∧okV y x:=by
 obtain ⟨n,hn⟩:=h
 obtain ⟨x,h1,h2⟩:=trod_ok (m + 1) t y n _ _ hd hn
 refine ⟨x,⟨v.cells.toList,h1,?_⟩,h2⟩
 have one:∀ u:Value,v=u->u.cells = #[u]->y.agg=false->v=(rp y).val v.cells.toList:=fun u e hc ha=>by
  subst e
  simp [Rp.val,rp_agg,ha,hc]
 unfold dty at hd
 split at hd
 ·rename_i k ht
  cases hd
  obtain ⟨z,rfl⟩:=Go.WideShapes.okWide_int ht ho
  exact one _ rfl rfl rfl
 ·rename_i ht
  cases hd
  obtain ⟨b,hb,_⟩:=DataW.trod_bool ht hn
  have:∃ b,v = .bool b:=by
   simp only [Value.okWide,ht,Cell.okWide] at ho
   cases v <;> simp_all [Cell.ok]
  obtain ⟨b,rfl⟩:=this
  exact one _ rfl rfl rfl
 ·rename_i ht
  cases hd
  obtain ⟨s,rfl⟩:=Go.WideShapes.okWide_string ht ho
  exact one _ rfl rfl rfl
 ·rename_i e ht
  obtain ⟨y',h3,hd⟩:=Option.bind_eq_some_iff.1 hd
  split at hd
  ·cases hd
   obtain ⟨a,len,cap,rfl⟩:=Go.WideShapes.okWide_slice ht ho
   exact one _ rfl rfl rfl
  ·cases hd
 ·rename_i fs ht
  obtain ⟨l,h3,hd⟩:=Option.bind_eq_some_iff.1 hd
  split at hd
  ·cases hd
   simp only [Value.okWide,ht] at ho
   obtain ⟨cs,rfl,_,_⟩:=ho
   have ha:(strTy l).agg=true:=by
    match l with
    | []=>rfl
    | [a]=>rfl
    | a::b::q=>rfl
   simp [Rp.val,rp_agg,ha,Value.cells]
  ·cases hd
 ·cases hd
end
end Rw
end
noncomputable section
namespace Rw
open Go Ev Sx Go.RowKit
theorem below_of {W W':World} (h:Blw (Bo [] [] W) W W'):Below W.heap.size W W' :=
 ⟨h.os,h.tape,h.output,h.size,fun k hk=>h.block k hk (by
  rintro (h | h)
  ·cases h
  ·omega)⟩
theorem lok0 (W:World):LOk (Bo [] [] W) (lx [] []) [] W:=⟨.nil,fun k h=>(by cases h),fun k h=>(by cases h),fun k h=>.inr h,fun k h=>(by cases h)⟩
theorem law_calls {P:Program} {f:FuncId} {ts:List TS} {ps:List Ty} {m:As ps->Option (Bool×Unit)} (h:CtOk P (fun _=>True) f ⟨⟨ts,[],ps,[.d .bool],[],0,[.bool]⟩,m⟩) {x:As ps} (hm:m x=some (true,())) {ss:List SV} (hA:fA ts [] (dvAs ps x)=some (ss,[])) {vs:List Value} {W:World} (hd:DenL [] [] W ss vs) :
  Calls P f vs.toArray W (fun e W'=>∃ v,e = .returned v∧v = .bool true∧Below W.heap.size W W'):=by
 refine (h [] W [] x (true,()) ss [] vs hm hA rfl (fun _ _=>trivial) (lok0 W) (fun e he=>by cases he) hd).mono fun e w' he=>?_
 obtain ⟨us,rfl,pl',rr,own',h1,_,_,h4,_,_,h7⟩:=he
 have h1:some ([SV.d .bool true],([]:List (Nat×Ent)))=some (rr,own'):=h1
 cases h1
 obtain ⟨v,q,rfl,h8,h9⟩:=h7
 cases h9
 exact ⟨_,rfl,den_bool h8,below_of h4⟩
def okA:(ps:List Ty)->As ps->Prop
 | [],_=>True
 | a::r,x=>okV a x.1∧okA r x.2
def dS:(ps:List Ty)->As ps->List SV
 | [],_=>[]
 | a::r,x=>.d a x.1::dS r x.2
theorem fL_d:∀ (ps:List Ty) (x:As ps),fL (ps.map TS.d) (dvAs ps x)=some (dS ps x,[])
 | [],_=>rfl
 | a::r,x=>by
  show (fS (.d a) (⟨a,x.1⟩::dvAs r x.2)).bind _=_
  unfold fS
  simp only [q2c_,Option.map_some,zD]
  rw [fL_d r x.2]
  rfl
theorem fA_d (ps:List Ty) (x:As ps):fA (ps.map TS.d) [] (dvAs ps x)=some (dS ps x,[]):=by
 unfold fA
 rw [fL_d,zD]
 rfl
def dtys (P:Program):List TypeId->Option (List Ty)
 | []=>some []
 | t::r=>(dty P 13 t).bind fun y=>(dtys P r).map fun q=>y::q
theorem law_den {P:Program} {H:Type} {enc:TypeId×Value->H} {W:World} {b0:Nat} {sp:Nat->Bool} {held:Bool}:∀ {ts:List TypeId} {ps:List Ty} {vs:List Value} {ds:List (DataW H)} {p:List MemPlace},dtys P ts=some ps ->
  (∀ (j:Nat) t v,ts[j]? = some t->vs[j]? = some v->∃ r b w',Value.okWide P w' r b t v)->DataW.TrodAll enc P W b0 sp held ts vs ds p->∃ x:As ps,okA ps x∧DenL [] [] W (dS ps x) vs
 | [],ps,vs,ds,p,h,_,hA=>by
  cases h
  cases vs with
  | nil=>exact ⟨(),trivial,rfl⟩
  | cons v vs=>cases ds <;> exact absurd hA (by simp [DataW.TrodAll])
 | t::ts,ps,vs,ds,p,h,ho,hA=>by
  obtain ⟨y,h1,h⟩:=Option.bind_eq_some_iff.1 h
  obtain ⟨q,h2,rfl⟩:=Option.map_eq_some_iff.1 h
  match vs,ds,hA with
  | v::vs,d::ds,hA =>
   obtain ⟨p1,p2,h3,h4,_⟩:=hA
   obtain ⟨r,b,w',h5⟩:=ho 0 t v rfl rfl
   obtain ⟨x,hx1,hx2⟩:=val_of h1 h5 h3
   obtain ⟨xs,hy1,hy2⟩:=law_den h2 (fun j t v ht hv=>ho (j + 1) t v ht hv) h4
   exact ⟨(x,xs),⟨hx2,hy1⟩,v,vs,rfl,hx1,hy2⟩
  | [],_,hA=>exact absurd hA (by simp [DataW.TrodAll])
  | _::_,[],hA=>exact absurd hA (by simp [DataW.TrodAll])
theorem law_row {P:Program} {f:FuncId} {ps:List Ty} {m:As ps->Option (Bool×Unit)} (h:CtOk P (fun _=>True) f ⟨⟨ps.map TS.d,[],ps,[.d .bool],[],0,[.bool]⟩,m⟩) (law:∀ x,okA ps x->m x=some (true,()))
  {ts:Array TypeId} (ht:dtys P ts.toList=some ps) {H:Type} {enc:TypeId×Value->H} {W:World} {b0:Nat} {sp:Nat->Bool} {held:Bool} {args:Array Value} {ds:List (DataW H)} {p:List MemPlace}
  (hval:∀ (j:Nat) t v,ts[j]? = some t->args[j]? = some v->∃ r b w',Value.okWide P w' r b t v) (hA:DataW.TrodAll enc P W b0 sp held ts.toList args.toList ds p) :
  Calls P f args W (fun e W'=>∃ v,e = .returned v∧v = .bool true∧Below W.heap.size W W'):=by
 obtain ⟨x,h1,h2⟩:=law_den ht (fun j t v h3 h4=>hval j t v (by simpa using h3) (by simpa using h4)) hA
 have:=law_calls h (law x h1) (fA_d ps x) h2
 simpa using this
end Rw
end
noncomputable section
namespace Go.Proofs.Lx
open Go Ev Sx
abbrev TBlk:=Int×List Int
abbrev TStg:=Int×List Bool×List TBlk
abbrev TLs:=Int×Int
abbrev TAg:=List Int×TLs×Int×Int×Int×TStg×Int
abbrev TSl:=Int×Int×TAg×List Bool
abbrev zSt:TStg:=(0,[false,false,false,false,false,false,false,false],[(0,[]),(0,[]),(0,[]),(0,[]),(0,[]),(0,[]),(0,[]),(0,[])])
abbrev zAg0:TAg:=([],(0,0),0,0,0,zSt,0)
abbrev zSl:TSl:=(0,0,zAg0,[])
abbrev mkAg (a:TAg):TAg:=(a.1,a.2.1,a.2.2.1,a.2.2.2.1,a.2.2.2.2.1,(a.2.2.2.2.2.1.1,[a.2.2.2.2.2.1.2.1.getD 0 false,a.2.2.2.2.2.1.2.1.getD 1 false,a.2.2.2.2.2.1.2.1.getD 2 false,a.2.2.2.2.2.1.2.1.getD 3 false,a.2.2.2.2.2.1.2.1.getD 4 false,a.2.2.2.2.2.1.2.1.getD 5 false,a.2.2.2.2.2.1.2.1.getD 6 false,a.2.2.2.2.2.1.2.1.getD 7 false],[a.2.2.2.2.2.1.2.2.getD 0 (0,[]),a.2.2.2.2.2.1.2.2.getD 1 (0,[]),a.2.2.2.2.2.1.2.2.getD 2 (0,[]),a.2.2.2.2.2.1.2.2.getD 3 (0,[]),a.2.2.2.2.2.1.2.2.getD 4 (0,[]),a.2.2.2.2.2.1.2.2.getD 5 (0,[]),a.2.2.2.2.2.1.2.2.getD 6 (0,[]),a.2.2.2.2.2.1.2.2.getD 7 (0,[])]),a.2.2.2.2.2.2)
end Go.Proofs.Lx
end
noncomputable section
namespace Go.Proofs.Lx
open Go Ev Sx
abbrev TAsk:=Int×Int×Int×Int×List Int×List Bool
abbrev TPo:=Int×Int×Int×Int×Bool×TAsk×Int×Int×Int
abbrev TTk:=TPo×Int×Int×List TBlk×Int×Int×Int×Int×Int
@[reducible] def aC:Ty:=.sl (.int .u16)
@[reducible] def talkC (t:TTk) (r:List SV):List SV :=
 .d (.int .u8) t.1.1::.d (.int .u8) t.1.2.1::.d (.int .i64) t.1.2.2.1::.d (.int .i64) t.1.2.2.2.1::.d .bool t.1.2.2.2.2.1::.d (.int .u8) t.1.2.2.2.2.2.1.1::.d (.int .u16) t.1.2.2.2.2.2.1.2.1::.d (.int .u16) t.1.2.2.2.2.2.1.2.2.1::.d (.int .u16) t.1.2.2.2.2.2.1.2.2.2.1::.d aC t.1.2.2.2.2.2.1.2.2.2.2.1::.d (.sl .bool) t.1.2.2.2.2.2.1.2.2.2.2.2::.d (.int .u16) t.1.2.2.2.2.2.2.1::.d (.int .i64) t.1.2.2.2.2.2.2.2.1::.d (.int .i64) t.1.2.2.2.2.2.2.2.2 ::
 .d (.int .u16) t.2.1::.d (.int .u32) t.2.2.1::.d (.sl (.pr (.int .i64) aC)) t.2.2.2.1::.d (.int .u8) t.2.2.2.2.1::.d (.int .u8) t.2.2.2.2.2.1::.d (.int .i64) t.2.2.2.2.2.2.1::.d (.int .i64) t.2.2.2.2.2.2.2.1::.d (.int .u8) t.2.2.2.2.2.2.2.2::r
@[reducible] def slC (s:TSl) (r:List SV):List SV :=
 .d (.int .u8) s.1::.d (.int .u8) s.2.1::.d aC s.2.2.1.1::.d (.int .u16) s.2.2.1.2.1.1::.d (.int .i64) s.2.2.1.2.1.2::.d (.int .u8) s.2.2.1.2.2.1::.d (.int .u32) s.2.2.1.2.2.2.1::.d (.int .u32) s.2.2.1.2.2.2.2.1::.d (.int .u32) s.2.2.1.2.2.2.2.2.1.1 ::
 .d .bool (zJ s.2.2.1.2.2.2.2.2.1.2.1 0 false)::.d .bool (zJ s.2.2.1.2.2.2.2.2.1.2.1 1 false)::.d .bool (zJ s.2.2.1.2.2.2.2.2.1.2.1 2 false)::.d .bool (zJ s.2.2.1.2.2.2.2.2.1.2.1 3 false)::.d .bool (zJ s.2.2.1.2.2.2.2.2.1.2.1 4 false)::.d .bool (zJ s.2.2.1.2.2.2.2.2.1.2.1 5 false)::.d .bool (zJ s.2.2.1.2.2.2.2.2.1.2.1 6 false)::.d .bool (zJ s.2.2.1.2.2.2.2.2.1.2.1 7 false) ::
 .d (.int .i64) (zJ s.2.2.1.2.2.2.2.2.1.2.2 0 (0,[])).1::.d aC (zJ s.2.2.1.2.2.2.2.2.1.2.2 0 (0,[])).2::.d (.int .i64) (zJ s.2.2.1.2.2.2.2.2.1.2.2 1 (0,[])).1::.d aC (zJ s.2.2.1.2.2.2.2.2.1.2.2 1 (0,[])).2 ::
 .d (.int .i64) (zJ s.2.2.1.2.2.2.2.2.1.2.2 2 (0,[])).1::.d aC (zJ s.2.2.1.2.2.2.2.2.1.2.2 2 (0,[])).2::.d (.int .i64) (zJ s.2.2.1.2.2.2.2.2.1.2.2 3 (0,[])).1::.d aC (zJ s.2.2.1.2.2.2.2.2.1.2.2 3 (0,[])).2 ::
 .d (.int .i64) (zJ s.2.2.1.2.2.2.2.2.1.2.2 4 (0,[])).1::.d aC (zJ s.2.2.1.2.2.2.2.2.1.2.2 4 (0,[])).2::.d (.int .i64) (zJ s.2.2.1.2.2.2.2.2.1.2.2 5 (0,[])).1::.d aC (zJ s.2.2.1.2.2.2.2.2.1.2.2 5 (0,[])).2 ::
 .d (.int .i64) (zJ s.2.2.1.2.2.2.2.2.1.2.2 6 (0,[])).1::.d aC (zJ s.2.2.1.2.2.2.2.2.1.2.2 6 (0,[])).2::.d (.int .i64) (zJ s.2.2.1.2.2.2.2.2.1.2.2 7 (0,[])).1::.d aC (zJ s.2.2.1.2.2.2.2.2.1.2.2 7 (0,[])).2::.d (.int .i64) s.2.2.1.2.2.2.2.2.2::.d (.sl .bool) s.2.2.2::r
@[reducible] def mkSl (s:TSl):TSl:=(s.1,s.2.1,mkAg s.2.2.1,s.2.2.2)
@[reducible] def tyBk:Ty:=.pr (.int .i64) aC
@[reducible] def eP:Ty:=.pr (.int .u16) (.pr (.int .u16) (.pr (.int .u16) (.pr aC (.sl .bool))))
@[reducible] def eK:Ty:=.pr (.int .i64) (.int .i64)
@[reducible] def eN:Ty:=.pr (.int .u8) (.pr (.int .u8) (.pr (.int .i64) (.pr (.int .i64) (.int .u8))))
@[reducible] def tyTk:Ty:=.pr (.pr (.int .u8) (.pr (.int .u8) (.pr (.int .i64) (.pr (.int .i64) (.pr .bool (.pr (.pr (.int .u8) eP) (.pr (.int .u16) eK))))))) (.pr (.int .u16) (.pr (.int .u32) (.pr (.sl tyBk) eN)))
@[reducible] def bP:Ty:=.pr (.int .u16) (.int .i64)
@[reducible] def tySl:Ty:=.pr (.int .u8) (.pr (.int .u8) (.pr (.pr aC (.pr bP (.pr (.int .u8) (.pr (.int .u32) (.pr (.int .u32) (.pr (.pr (.int .u32) (.pr (.ar 8 .bool) (.ar 8 tyBk))) (.int .i64))))))) (.sl .bool)))
@[reducible] def prG (k:Nat):TE:=.bsg 48 [.d tyTk,.d tySl,.s (.row k),.d (.int .u32),.d (.int .u32),.d (.sl (.sl tyBk))]
end Go.Proofs.Lx
end
noncomputable section
open Go Go.Proofs Ev Sx
set_option maxRecDepth 100000
namespace Go.Proofs.Lx
abbrev YTT7:Ty:=eP
@[reducible] def bC:Ty:=.pr (.int .u8) YTT7
abbrev YTT0:Ty:=(.pr (.int .u8) (.pr (.int .i64) (.pr (.int .i64) (.pr .bool (.pr bC (.pr (.int .u16) eK))))))
abbrev YTT8:Ty:=(.pr (.int .i64) aC)
abbrev YTT1:Ty:=(.pr bP (.pr (.int .u8) (.pr (.int .u32) (.pr (.int .u32) (.pr (.pr (.int .u32) (.pr (.ar 8 .bool) (.ar 8 YTT8))) (.int .i64))))))
abbrev YTT2:Ty:=(.pr (.int .u16) (.pr (.int .u32) (.pr (.sl YTT8) eN)))
abbrev YTT18:Type:=(Int×Int×Int×Int×List Int×List Bool)
abbrev YTT3:Type:=(Int×Int×Int×Int×Bool×YTT18×Int×Int×Int)
abbrev YTT12:Type:=(Int×List Bool×List (Int×List Int))
abbrev YTT4:Type:=(List Int×(Int×Int)×Int×Int×Int×YTT12×Int)
abbrev YTT5:Ty:=(.pr (.int .u8) (.pr (.sl .bool) (.pr aC (.pr (.int .u16) (.int .u16)))))
abbrev YTT16:Ty:=(.pr (.int .i64) (.pr .bool (.pr .bool .bool)))
@[reducible] def bR:Ty:=.pr (.int .i64) YTT16
abbrev YTT6:Ty:=(.sl bR)
abbrev YTT9:Type:=(Int×Int×Bool×Bool×Bool)
abbrev YTT10:Type:=(Int×Int×Int×Int×Bool×(Int×Int×Int×Int×Unit×Unit)×Int×Int×Int)
abbrev YTT11:Ty:=(.pr (.int .u8) (.pr (.int .u32) (.pr (.int .u16) (.int .u32))))
abbrev YTT13:Type:=(Int×Int×List Bool×List Int×Int×Int)
@[reducible] def aJ:Ty:=.sl (.int .u8)
@[reducible] def dR:Ty:=.pr .bool aJ
abbrev YTT14:Ty:=dR
abbrev YTT15:Ty:=(.pr (.sl .bool) (.pr aC aC))
abbrev YTT17:Type:=(Int×Int×(Unit×(Int×Int)×Int×Int×Int×(Int×List Bool×List (Int×Unit))×Int)×Unit)
abbrev YTT19:Type:=(List Bool×List Bool×List Int×List Int)
abbrev YTT20:Ty:=(.pr (.int .u8) aJ)
abbrev YTT21:Ty:=(.pr (.int .u16) (.pr (.int .u32) (.int .u32)))
abbrev YTT22:Ty:=(.pr (.int .i64) (.pr (.int .i64) (.pr .bool .bool)))
abbrev TaA1q0:Type:=YTT3×Int×Int×List (Int×List Int)×Int×Int×Int×Int×Int
abbrev TaA1q1:Type:=Int×Int×YTT4×List Bool
@[reducible] def aK:List Ty:=[.sl (.int .u16)]
@[reducible] def q139_:Sh:=⟨[.d aC],[],aK,[.d aC],[],0,aK⟩
@[reducible] def bL:Type:=As aK
def q10c_ (l:List Int):Option bL :=
 some (List.take 64 l++List.drop (0 + zG (List.take 64 l)) (zE 64 0),())
def qrz_ (x:As aK):Option bL:=q10c_ x.1
theorem q18d_:CtOk Tryz.prog (fun _=>True) 17 ⟨q139_,qrz_⟩:=ctn q1_ 6 fun J x=>by kernel_rfl
@[reducible] def dK:List Ty:=[.int .u8,.int .u8,.int .i64,.int .i64]
@[reducible] def q1fb_:Sh:=⟨[.d (.int .u8),.d (.int .u8),.d (.int .i64),.d (.int .i64)],[],dK,[.d (.bool)],[],0,[.bool]⟩
@[reducible] def aF:Type:=As [.bool]
def qr9_ (unit link timeout retries:Int):Option aF :=
 if ge unit 1=true then if le unit 247=true then if eqi link 1=true then if ge timeout 1=true then if le timeout 100000=true then if ge retries 0=true then some (le retries 1000,()) else some (false,()) else some (false,()) else some (false,()) else if eqi link 2=true then if ge timeout 1=true then if le timeout 100000=true then if ge retries 0=true then some (le retries 1000,()) else some (false,()) else some (false,()) else some (false,()) else some (false,()) else some (false,()) else some (false,())
def q10z_ (x:As dK):Option aF:=qr9_ x.1 x.2.1 x.2.2.1 x.2.2.2.1
theorem q1br_:CtOk Tryz.prog (fun _=>True) 122 ⟨q1fb_,q10z_⟩:=ctn q1_ 6 fun J x=>by kernel_rfl
@[reducible] def aD:Ty:=.pr (.int .u8) YTT0
@[reducible] def q1ac_:Sh:=⟨[.d (.int .u8),.d (.int .u8),.d (.int .i64),.d (.int .i64)],[],dK,[.d aD,.d (.int .i64)],[],0,[.pr (.int .u8) YTT0,.int .i64]⟩
def q10x_ (unit link timeout retries:Int):Option (As [.pr (.int .u8) YTT0,.int .i64]) :=
 zC (q10z_ (unit,link,timeout,retries,())) fun y=>if (!y.1)=true then some ((0,0,0,0,false,(0,0,0,0,[],[]),0,0,0),2,()) else some ((unit,link,timeout,retries,false,(0,0,0,0,[],[]),0,0,0),0,())
def q13e_ (x:As dK):Option (As [.pr (.int .u8) YTT0,.int .i64]):=q10x_ x.1 x.2.1 x.2.2.1 x.2.2.2.1
theorem q1mg_:CtOk Tryz.prog (fun _=>True) 67 ⟨q1ac_,q13e_⟩:=ctn (q0_ q1br_ q1_) 6 fun J x=>by kernel_rfl
@[reducible] def aY:Ty:=.pr aD YTT2
@[reducible] def dZ:List Ty:=[.pr aD YTT2,.int .i64]
@[reducible] def qi5_:Sh:=⟨[.d (.int .u8),.d (.int .u8),.d (.int .u16),.d (.int .i64),.d (.int .i64)],[],[.int .u8,.int .u8,.int .u16,.int .i64,.int .i64],[.d aY,.d (.int .i64)],[],0,dZ⟩
def qx3_:Env:=(cts [(67,(⟨q1ac_,q13e_⟩:Ct))])
def qwt_:List (Nat×Hint):=[(14,⟨[],[2,10,12,27]⟩)]
@[reducible] def zE0:Type:=Int×Int×Int×Int×Bool×YTT18×Int×Int×Int
def q10y_ (owner:Int) (t27:Bool) (t10:YTT10×Int×Int×Unit×Int×Int×Int×Int×Int) (p:zE0):St:=⟨[(2,d6 owner),(10,.pb 0 0),(12,.pb 1 0),(27,dB t27)],32,[],[(0,.box 33 [d8 t10.1.1,d8 t10.1.2.1,dI t10.1.2.2.1,dI t10.1.2.2.2.1,dB t10.1.2.2.2.2.1,d8 t10.1.2.2.2.2.2.1.1,d6 t10.1.2.2.2.2.2.1.2.1,d6 t10.1.2.2.2.2.2.1.2.2.1,d6 t10.1.2.2.2.2.2.1.2.2.2.1,.k (zK zH 0 0),.k (zK zH 0 0),d6 t10.1.2.2.2.2.2.2.1,dI t10.1.2.2.2.2.2.2.2.1,dI t10.1.2.2.2.2.2.2.2.2,d6 t10.2.1,d2 t10.2.2.1,.k (zK zH 0 0),d8 t10.2.2.2.2.1,d8 t10.2.2.2.2.2.1,dI t10.2.2.2.2.2.2.1,dI t10.2.2.2.2.2.2.2.1,d8 t10.2.2.2.2.2.2.2.2]),(1,.box 29 [d8 p.1,d8 p.2.1,dI p.2.2.1,dI p.2.2.2.1,dB p.2.2.2.2.1,d8 p.2.2.2.2.2.1.1,d6 p.2.2.2.2.2.1.2.1,d6 p.2.2.2.2.2.1.2.2.1,d6 p.2.2.2.2.2.1.2.2.2.1,dW p.2.2.2.2.2.1.2.2.2.2.1,.d (.sl .bool) p.2.2.2.2.2.1.2.2.2.2.2,d6 p.2.2.2.2.2.2.1,dI p.2.2.2.2.2.2.2.1,dI p.2.2.2.2.2.2.2.2])],2,[],0⟩
def q18f_ (owner:Int) (t27:Bool) (t10:YTT10×Int×Int×Unit×Int×Int×Int×Int×Int) (p:zE0):Option (As dZ) :=
 if t27=true then some (((0,0,0,0,false,(0,0,0,0,[],[]),0,0,0),0,0,[],0,0,0,0,0),2,()) else some ((p,owner,0,[],0,0,0,0,0),0,())
def qtw_ (j1:Int->Bool->YTT10×Int×Int×Unit×Int×Int×Int×Int×Int->Int×Int×Int×Int×Bool×YTT18×Int×Int×Int->Option (As dZ)) (unit link owner timeout retries:Int):Option (As dZ) :=
 zC (q13e_ (unit,link,timeout,retries,())) fun y=>if nei y.2.1 0=true then j1 owner true ((0,0,0,0,false,(0,0,0,0,(),()),0,0,0),0,0,(),0,0,0,0,0) y.1 else j1 owner (eqi owner 0) ((0,0,0,0,false,(0,0,0,0,(),()),0,0,0),0,0,(),0,0,0,0,0) y.1
def q10i_:=q18f_
def qxi_ (x:As [.int .u8,.int .u8,.int .u16,.int .i64,.int .i64]):Option (As dZ):=qtw_ q10i_ x.1 x.2.1 x.2.2.1 x.2.2.2.1 x.2.2.2.2.1
@[reducible] def zp (e:Env) (h:List (Nat×Hint)) (n:Nat) (s:Sh):=pfn Tryz.prog e 6 18446744073709551616 (Ev.get h) n s
@[reducible] def zj (e:Env) (h:List (Nat×Hint)) (n:Nat) (s:Sh):=jfn Tryz.prog e 6 18446744073709551616 (Ev.get h) n s
abbrev pEn:=zp qx3_ qwt_ 28 qi5_
theorem q1nq_ {J a b c d}:pEn J 14 [] (q10y_ a b c d)=q18f_ a b c d:=by kernel_rfl
abbrev pEm:=zj qx3_ qwt_ 28 qi5_
theorem q1mk_:C (pEm 14 []) q10y_=q10i_:=gNC (by decide) fun _=>q1nq_
theorem q1n2_:CtOk Tryz.prog (fun _=>True) 28 ⟨qi5_,qxi_⟩:=zcc (env:=qx3_) (d:=6) (hs:=Ev.get qwt_) (q0_ q1mg_ q1_) (fun J x=>qtw_ (C (J 14 []) q10y_) x.1 x.2.1 x.2.2.1 x.2.2.2.1 x.2.2.2.2.1) (fun _ _=>by kernel_rfl) fun _=>by rw [q1mk_] <;> rfl
@[reducible] def q17s_:Sh:=⟨[.d (.int .u8),.d (.int .u8)],[],[.int .u8,.int .u8],[.d (.bool)],[],0,[.bool]⟩
def qgo_ (unit link:Int):Option aF :=
 if ge unit 1=true then if le unit 247=true then if eqi link 1=true then some (true,()) else some (eqi link 2,()) else some (false,()) else some (false,())
def qn1_ (x:As [.int .u8,.int .u8]):Option aF:=qgo_ x.1 x.2.1
theorem q162_:CtOk Tryz.prog (fun _=>True) 86 ⟨q17s_,qn1_⟩:=ctn q1_ 6 fun J x=>by kernel_rfl
@[reducible] def q2u_:Sh:=⟨[.d aC],[],aK,[.d aC],[],0,aK⟩
def q9d_ (s:List Int):Option bL :=
 if eqi (zF (zG s)) 0=true then amb (eqAs q2u_.rs) [some ([],()),need (small (0 + zG s)) (some (s,()))] else need (small (0 + zG s)) (some (s,()))
def qc_ (x:As aK):Option bL:=q9d_ x.1
theorem q1g_:CtOk Tryz.prog (fun _=>True) 45 ⟨q2u_,qc_⟩:=ctn q1_ 6 fun J x=>by kernel_rfl
@[reducible] def q4x_:Sh:=⟨[.d aC],[],aK,[.row 0],[(0,.row (.int .u16) 25)],1,aK⟩
def q7j_ (s:List Int):Option bL :=
 if eqi (zF (zG s)) 0=true then amb (eqAs q4x_.rs) [some ([],()),need (small (0 + zG s)) (some (s,()))] else need (small (0 + zG s)) (some (s,()))
def q2b_ (x:As aK):Option bL:=q7j_ x.1
theorem qfh_:CtOk Tryz.prog (fun _=>True) 45 ⟨q4x_,q2b_⟩:=ctn q1_ 6 fun J x=>by kernel_rfl
@[reducible] def bT:List Ty:=[.sl (.int .u16),.int .i64]
@[reducible] def aG:Ty:=.pr aC YTT1
@[reducible] def cF:List Ty:=[.pr aC YTT1,.int .i64]
@[reducible] def q1no_:Sh:=⟨[.d aC,.d (.int .i64)],[],bT,[.d aG,.d (.int .i64)],[],0,cF⟩
def qyo_ (bank:List Int) (ticks:Int):Option (As cF) :=
 if nei (zF (zG bank)) 64=true then some (zAg0,21,()) else if lt ticks 1=true then some (zAg0,2,()) else zC (qc_ (bank,())) fun y=>some ((y.1,(0,0),0,0,0,zSt,ticks),0,())
def q167_ (x:As bT):Option (As cF):=qyo_ x.1 x.2.1
theorem q1js_:CtOk Tryz.prog (fun _=>True) 92 ⟨q1no_,q167_⟩:=ctn (q0_ q1g_ q1_) 6 fun J x=>by kernel_rfl
@[reducible] def aB:Ty:=.pr aG (.sl .bool)
@[reducible] def aA:Ty:=.pr (.int .u8) aB
@[reducible] def bA:Ty:=.pr (.int .u8) aA
@[reducible] def q187_:Sh:=⟨[.d (.int .u8),.d (.int .u8),.d aC,.d (.int .i64)],[],[.int .u8,.int .u8,.sl (.int .u16),.int .i64],[.d bA,.d (.int .i64)],[],0,[.pr (.int .u8) aA,.int .i64]⟩
def qyv_ (unit link:Int) (bank:List Int) (ticks:Int):Option (As [.pr (.int .u8) aA,.int .i64]) :=
 zC (qn1_ (unit,link,())) fun y=>if (!y.1)=true then some (zSl,2,()) else zC (q167_ (bank,ticks,())) fun y=>if nei y.2.1 0=true then some (zSl,y.2.1,()) else some ((unit,link,(mkAg y.1),[false,false,false,false,false,false,false,false,false,false,false,false,false,false,false,false]),0,())
def q106_ (x:As [.int .u8,.int .u8,.sl (.int .u16),.int .i64]):Option (As [.pr (.int .u8) aA,.int .i64]):=qyv_ x.1 x.2.1 x.2.2.1 x.2.2.2.1
theorem q1i4_:CtOk Tryz.prog (fun _=>True) 42 ⟨q187_,q106_⟩:=ctn (q0_ q162_ (q0_ q1js_ q1_)) 6 fun J x=>by kernel_rfl
@[reducible] def qmv_:Sh:=⟨[.d (.sl YTT8),.d (.int .i64)],[],[.sl YTT8,.int .i64],[.d (.sl YTT8)],[],0,[.sl YTT8]⟩
def q102_:Env:=(cts [])
def qzt_:List (Nat×Hint):=[(58,⟨[.row 5 38],[5,14,15,16]⟩),(7475,⟨[],[5,7,8,14,15,16]⟩)]
@[reducible] def zE1:Type:=List (Int×List Int)
def qht_ (t14:zE1) (t15 t16:Int) (out:zE1):St:=⟨[(5,.row 0),(14,.d (.sl YTT8) t14),(15,dI t15),(16,dI t16)],45,[],[(0,.row YTT8 38 out)],1,[],0⟩
def q135_ (at':Int) (t14:zE1) (t15 t16:Int) (out:zE1) (x:Int×List Int):St:=⟨[(5,.row 0),(7,.pb 1 0),(8,dI at'),(14,.d (.sl YTT8) t14),(15,dI t15),(16,dI t16)],45,[],[(0,.row YTT8 38 out),(1,.box 38 [dI x.1,dW x.2])],2,[],0⟩
@[reducible] def cN:Type:=As [.sl YTT8]
@[reducible] def zE2:Type:=List (Int×List Int)->Int->Int->List (Int×List Int)->Option cN
def qhi_ (j2:Int->List (Int×List Int)->Int->Int->List (Int×List Int)->Int×List Int->Option cN) (self1:zE2) (t14:zE1) (t15 t16:Int) (out:zE1):Option cN :=
 if lt t16 t15=true then zC (at? t14 t16) fun y=>if lt (rem y.1 64) 0=true then j2 (add .i64 (rem y.1 64) 64) t14 t15 t16 out y else j2 (rem y.1 64) t14 t15 t16 out y else some (out,())
def qx5_ (self1:zE2) (at':Int) (t14:zE1) (t15 t16:Int) (out:zE1) (x:Int×List Int):Option cN :=
 zC (cut x.2 0 (if lt (Sx.sub .i64 64 at') (if lt 14 (zF (zG x.2))=true then 14 else zF (zG x.2))=true then Sx.sub .i64 64 at' else if lt 14 (zF (zG x.2))=true then 14 else zF (zG x.2))) fun y=>need (small (0 + zG y)) (need (small (zG out + Nat.succ 0)) (self1 t14 t15 (add .i64 t16 1) (out++[(at',y)])))
def qx9_ (j1:zE2) (l:zE1) (most:Int):Option cN :=
 zC (cut l 0 (if lt most (zF (zG l))=true then most else zF (zG l))) fun y=>j1 y (zF (zG y)) 0 []
def qn7_ (u1:zE2):=qx5_ u1
def qhv_ (t14:zE1) (t15 t16:Int) (out:zE1):Option cN :=
 loopF (fun self s=>qhi_ (qn7_ (fun t14 t15 t16 out=>self (t14,t15,t16,out))) (fun t14 t15 t16 out=>self (t14,t15,t16,out)) s.1 s.2.1 s.2.2.1 s.2.2.2) 18446744073709551616 (t14,t15,t16,out)
def q11k_ (x:As [.sl YTT8,.int .i64]):Option cN:=qx9_ qhv_ x.1 x.2.1
abbrev pBt:=zp q102_ qzt_ 43 qmv_
theorem q1ob_ {J w1 a b c d e f}:pBt J 7475 [w1] (q135_ a b c d e f)=qx5_ (C w1 qht_) a b c d e f:=by kernel_rfl
theorem q1oj_ {J w1 a b c d}:pBt J 58 [w1] (qht_ a b c d)=qhi_ (C (J 7475 [w1]) q135_) (C w1 qht_) a b c d:=by kernel_rfl
abbrev pBs:=zj q102_ qzt_ 43 qmv_
theorem q1o7_ {w1}:C (pBs 7475 [w1]) q135_=qn7_ (C w1 qht_):=gNC (by decide) fun _=>q1ob_
theorem q1o3_:C (pBs 58 []) qht_=qhv_:=gLC (by decide) (by kernel_rfl) (fun _=>by unfold qhv_; rfl) fun _ _=>q1oj_.trans (by rw [q1o7_] <;> kernel_rfl)
theorem q1o4_:CtOk Tryz.prog (fun _=>True) 43 ⟨qmv_,q11k_⟩:=zcc (env:=q102_) (d:=6) (hs:=Ev.get qzt_) q1_ (fun J x=>qx9_ (C (J 58 []) qht_) x.1 x.2.1) (fun _ _=>by kernel_rfl) fun _=>by rw [q1o3_] <;> rfl
@[reducible] def bY:Ty:=.sl (.sl YTT8)
@[reducible] def aV:List Ty:=[.pr aD YTT2,.pr (.int .u8) aA,.int .u32,.int .u32,.sl (.sl YTT8),.bool,.sl YTT14]
@[reducible] def q77_:Sh:=⟨[.d (.int .u8),.d (.int .u8),.d (.int .u8),.d aC,.d bY],[],[.int .u8,.int .u8,.int .u8,.sl (.int .u16),.sl (.sl YTT8)],[.agp [.inl aY,.inl bA,.inr 0,.inl (.int .u32),.inl (.int .u32),.inl bY],.d .bool],[(0,.que YTT14 63)],1,aV⟩
def qk3_:Env:=(cts [(1000048,Ev.bxCt),(9000046,Ev.bxCt),(9999999,Ev.bxCt),(17,(⟨q139_,qrz_⟩:Ct)),(28,(⟨qi5_,qxi_⟩:Ct)),(42,(⟨q187_,q106_⟩:Ct)),(43,(⟨qmv_,q11k_⟩:Ct))])
def qkl_:List (Nat×Hint):=[(31,⟨[],[10,12,13,14,15,16,67,68,71,72,73,76,77,78]⟩),(250,⟨[.rwb 16 60 31],[10,12,13,14,15,16,49,50,51]⟩)]
@[reducible] def aH:Type:=List (Int×List Int)
@[reducible] def zE3:Type:=List aH
@[reducible] def zE4:Type:=(YTT10×Int×Int×Unit×Int×Int×Int×Int×Int)×YTT17×Unit×Int×Int×Unit
@[reducible] def zE5:Type:=List (Bool×List Int)
def qha_ (e s f:Int) (t49:zE3) (t50 t51:Int) (t10:zE4) (t:TaA1q0) (s_2:List (TaA1q1)) (p:(TaA1q0)×(TaA1q1)×Unit×Int×Int×Unit) (o:zE5) (o_2:zE3):St:=⟨[(10,.pb 0 0),(12,.pb 1 0),(13,dI e),(14,.prw 2 s 35 0),(15,dI f),(16,.pb 3 0),(49,.d bY t49),(50,dI t50),(51,dI t51)],80,[],[(0,.box 48 [d8 t10.1.1.1,d8 t10.1.1.2.1,dI t10.1.1.2.2.1,dI t10.1.1.2.2.2.1,dB t10.1.1.2.2.2.2.1,d8 t10.1.1.2.2.2.2.2.1.1,d6 t10.1.1.2.2.2.2.2.1.2.1,d6 t10.1.1.2.2.2.2.2.1.2.2.1,d6 t10.1.1.2.2.2.2.2.1.2.2.2.1,.k (zK zH 0 0),.k (zK zH 0 0),d6 t10.1.1.2.2.2.2.2.2.1,dI t10.1.1.2.2.2.2.2.2.2.1,dI t10.1.1.2.2.2.2.2.2.2.2,d6 t10.1.2.1,d2 t10.1.2.2.1,.k (zK zH 0 0),d8 t10.1.2.2.2.2.1,d8 t10.1.2.2.2.2.2.1,dI t10.1.2.2.2.2.2.2.1,dI t10.1.2.2.2.2.2.2.2.1,d8 t10.1.2.2.2.2.2.2.2.2,d8 t10.2.1.1,d8 t10.2.1.2.1,.k (zK zH 0 0),d6 t10.2.1.2.2.1.2.1.1,dI t10.2.1.2.2.1.2.1.2,d8 t10.2.1.2.2.1.2.2.1,d2 t10.2.1.2.2.1.2.2.2.1,d2 t10.2.1.2.2.1.2.2.2.2.1,d2 t10.2.1.2.2.1.2.2.2.2.2.1.1,dB (zJ t10.2.1.2.2.1.2.2.2.2.2.1.2.1 0 false),dB (zJ t10.2.1.2.2.1.2.2.2.2.2.1.2.1 1 false),dB (zJ t10.2.1.2.2.1.2.2.2.2.2.1.2.1 2 false),dB (zJ t10.2.1.2.2.1.2.2.2.2.2.1.2.1 3 false),dB (zJ t10.2.1.2.2.1.2.2.2.2.2.1.2.1 4 false),dB (zJ t10.2.1.2.2.1.2.2.2.2.2.1.2.1 5 false),dB (zJ t10.2.1.2.2.1.2.2.2.2.2.1.2.1 6 false),dB (zJ t10.2.1.2.2.1.2.2.2.2.2.1.2.1 7 false),dI (zJ t10.2.1.2.2.1.2.2.2.2.2.1.2.2 0 (0,())).1,.k (zK zH 0 0),dI (zJ t10.2.1.2.2.1.2.2.2.2.2.1.2.2 1 (0,())).1,.k (zK zH 0 0),dI (zJ t10.2.1.2.2.1.2.2.2.2.2.1.2.2 2 (0,())).1,.k (zK zH 0 0),dI (zJ t10.2.1.2.2.1.2.2.2.2.2.1.2.2 3 (0,())).1,.k (zK zH 0 0),dI (zJ t10.2.1.2.2.1.2.2.2.2.2.1.2.2 4 (0,())).1,.k (zK zH 0 0),dI (zJ t10.2.1.2.2.1.2.2.2.2.2.1.2.2 5 (0,())).1,.k (zK zH 0 0),dI (zJ t10.2.1.2.2.1.2.2.2.2.2.1.2.2 6 (0,())).1,.k (zK zH 0 0),dI (zJ t10.2.1.2.2.1.2.2.2.2.2.1.2.2 7 (0,())).1,.k (zK zH 0 0),dI t10.2.1.2.2.1.2.2.2.2.2.2,.k (zK zH 0 0),.k (zK zH 0 0),d2 t10.2.2.2.1,d2 t10.2.2.2.2.1,.k (zK zH 0 0)]),(1,.box 33 (talkC t [])),(2,.row bA 45 s_2),(3,.box 48 (talkC p.1 (slC p.2.1 [.row 4,d2 p.2.2.2.1,d2 p.2.2.2.2.1,.row 5]))),(4,.que YTT14 63 o),(5,.row (.sl YTT8) 31 o_2)],6,[],0⟩
def qs4_ (e s f:Int) (t10:zE4) (t:TaA1q0) (s_2:List (TaA1q1)) (p:(TaA1q0)×(TaA1q1)×Unit×Int×Int×Unit) (o:zE5) (o_2:zE3):St:=⟨[(10,.pb 0 0),(12,.pb 1 0),(13,dI e),(14,.prw 2 s 35 0),(15,dI f),(16,.pb 3 0)],80,[],[(0,.box 48 [d8 t10.1.1.1,d8 t10.1.1.2.1,dI t10.1.1.2.2.1,dI t10.1.1.2.2.2.1,dB t10.1.1.2.2.2.2.1,d8 t10.1.1.2.2.2.2.2.1.1,d6 t10.1.1.2.2.2.2.2.1.2.1,d6 t10.1.1.2.2.2.2.2.1.2.2.1,d6 t10.1.1.2.2.2.2.2.1.2.2.2.1,.k (zK zH 0 0),.k (zK zH 0 0),d6 t10.1.1.2.2.2.2.2.2.1,dI t10.1.1.2.2.2.2.2.2.2.1,dI t10.1.1.2.2.2.2.2.2.2.2,d6 t10.1.2.1,d2 t10.1.2.2.1,.k (zK zH 0 0),d8 t10.1.2.2.2.2.1,d8 t10.1.2.2.2.2.2.1,dI t10.1.2.2.2.2.2.2.1,dI t10.1.2.2.2.2.2.2.2.1,d8 t10.1.2.2.2.2.2.2.2.2,d8 t10.2.1.1,d8 t10.2.1.2.1,.k (zK zH 0 0),d6 t10.2.1.2.2.1.2.1.1,dI t10.2.1.2.2.1.2.1.2,d8 t10.2.1.2.2.1.2.2.1,d2 t10.2.1.2.2.1.2.2.2.1,d2 t10.2.1.2.2.1.2.2.2.2.1,d2 t10.2.1.2.2.1.2.2.2.2.2.1.1,dB (zJ t10.2.1.2.2.1.2.2.2.2.2.1.2.1 0 false),dB (zJ t10.2.1.2.2.1.2.2.2.2.2.1.2.1 1 false),dB (zJ t10.2.1.2.2.1.2.2.2.2.2.1.2.1 2 false),dB (zJ t10.2.1.2.2.1.2.2.2.2.2.1.2.1 3 false),dB (zJ t10.2.1.2.2.1.2.2.2.2.2.1.2.1 4 false),dB (zJ t10.2.1.2.2.1.2.2.2.2.2.1.2.1 5 false),dB (zJ t10.2.1.2.2.1.2.2.2.2.2.1.2.1 6 false),dB (zJ t10.2.1.2.2.1.2.2.2.2.2.1.2.1 7 false),dI (zJ t10.2.1.2.2.1.2.2.2.2.2.1.2.2 0 (0,())).1,.k (zK zH 0 0),dI (zJ t10.2.1.2.2.1.2.2.2.2.2.1.2.2 1 (0,())).1,.k (zK zH 0 0),dI (zJ t10.2.1.2.2.1.2.2.2.2.2.1.2.2 2 (0,())).1,.k (zK zH 0 0),dI (zJ t10.2.1.2.2.1.2.2.2.2.2.1.2.2 3 (0,())).1,.k (zK zH 0 0),dI (zJ t10.2.1.2.2.1.2.2.2.2.2.1.2.2 4 (0,())).1,.k (zK zH 0 0),dI (zJ t10.2.1.2.2.1.2.2.2.2.2.1.2.2 5 (0,())).1,.k (zK zH 0 0),dI (zJ t10.2.1.2.2.1.2.2.2.2.2.1.2.2 6 (0,())).1,.k (zK zH 0 0),dI (zJ t10.2.1.2.2.1.2.2.2.2.2.1.2.2 7 (0,())).1,.k (zK zH 0 0),dI t10.2.1.2.2.1.2.2.2.2.2.2,.k (zK zH 0 0),.k (zK zH 0 0),d2 t10.2.2.2.1,d2 t10.2.2.2.2.1,.k (zK zH 0 0)]),(1,.box 33 (talkC t [])),(2,.row bA 45 s_2),(3,.box 48 (talkC p.1 (slC p.2.1 [.row 4,d2 p.2.2.2.1,d2 p.2.2.2.2.1,.row 5]))),(4,.que YTT14 63 o),(5,.row (.sl YTT8) 31 o_2)],6,[],0⟩
def q80_ (j2:Int->Int->Int->(YTT10×Int×Int×Unit×Int×Int×Int×Int×Int)×YTT17×Unit×Int×Int×Unit->TaA1q0->List (TaA1q1)->(TaA1q0)×(TaA1q1)×Unit×Int×Int×Unit->List (Bool×List Int)->List aH->Option (As aV)) (self1:Int->Int->Int->List aH->Int->Int->(YTT10×Int×Int×Unit×Int×Int×Int×Int×Int)×YTT17×Unit×Int×Int×Unit->TaA1q0->List (TaA1q1)->(TaA1q0)×(TaA1q1)×Unit×Int×Int×Unit->List (Bool×List Int)->List aH->Option (As aV)) (e s f:Int) (t49:zE3) (t50 t51:Int) (t10:zE4) (t:TaA1q0) (s_2:List (TaA1q1)) (p:(TaA1q0)×(TaA1q1)×Unit×Int×Int×Unit) (o:zE5) (o_2:zE3):Option (As aV) :=
 if lt t51 t50=true then zC (at? t49 t51) fun y=>zC (q11k_ (y,4,())) fun y=>need (small (zG o_2 + Nat.succ 0)) (self1 e s f t49 t50 (add .i64 t51 1) (((t10.1.1.1,t10.1.1.2.1,t10.1.1.2.2.1,t10.1.1.2.2.2.1,t10.1.1.2.2.2.2.1,(t10.1.1.2.2.2.2.2.1.1,t10.1.1.2.2.2.2.2.1.2.1,t10.1.1.2.2.2.2.2.1.2.2.1,t10.1.1.2.2.2.2.2.1.2.2.2.1,(),()),t10.1.1.2.2.2.2.2.2),t10.1.2),(t10.2.1.1,t10.2.1.2.1,((),t10.2.1.2.2.1.2.1,t10.2.1.2.2.1.2.2.1,t10.2.1.2.2.1.2.2.2.1,t10.2.1.2.2.1.2.2.2.2.1,(t10.2.1.2.2.1.2.2.2.2.2.1.1,t10.2.1.2.2.1.2.2.2.2.2.1.2.1,[((zJ t10.2.1.2.2.1.2.2.2.2.2.1.2.2 0 (0,())).1,()),((zJ t10.2.1.2.2.1.2.2.2.2.2.1.2.2 1 (0,())).1,()),((zJ t10.2.1.2.2.1.2.2.2.2.2.1.2.2 2 (0,())).1,()),((zJ t10.2.1.2.2.1.2.2.2.2.2.1.2.2 3 (0,())).1,()),((zJ t10.2.1.2.2.1.2.2.2.2.2.1.2.2 4 (0,())).1,()),((zJ t10.2.1.2.2.1.2.2.2.2.2.1.2.2 5 (0,())).1,()),((zJ t10.2.1.2.2.1.2.2.2.2.2.1.2.2 6 (0,())).1,()),((zJ t10.2.1.2.2.1.2.2.2.2.2.1.2.2 7 (0,())).1,())]),t10.2.1.2.2.1.2.2.2.2.2.2),()),(),t10.2.2.2.1,t10.2.2.2.2.1,()) t s_2 (p.1,p.2.1,(),p.2.2.2.1,p.2.2.2.2.1,()) o (o_2++[y.1])) else j2 e s f (((t10.1.1.1,t10.1.1.2.1,t10.1.1.2.2.1,t10.1.1.2.2.2.1,t10.1.1.2.2.2.2.1,(t10.1.1.2.2.2.2.2.1.1,t10.1.1.2.2.2.2.2.1.2.1,t10.1.1.2.2.2.2.2.1.2.2.1,t10.1.1.2.2.2.2.2.1.2.2.2.1,(),()),t10.1.1.2.2.2.2.2.2),t10.1.2),(t10.2.1.1,t10.2.1.2.1,((),t10.2.1.2.2.1.2.1,t10.2.1.2.2.1.2.2.1,t10.2.1.2.2.1.2.2.2.1,t10.2.1.2.2.1.2.2.2.2.1,(t10.2.1.2.2.1.2.2.2.2.2.1.1,t10.2.1.2.2.1.2.2.2.2.2.1.2.1,[((zJ t10.2.1.2.2.1.2.2.2.2.2.1.2.2 0 (0,())).1,()),((zJ t10.2.1.2.2.1.2.2.2.2.2.1.2.2 1 (0,())).1,()),((zJ t10.2.1.2.2.1.2.2.2.2.2.1.2.2 2 (0,())).1,()),((zJ t10.2.1.2.2.1.2.2.2.2.2.1.2.2 3 (0,())).1,()),((zJ t10.2.1.2.2.1.2.2.2.2.2.1.2.2 4 (0,())).1,()),((zJ t10.2.1.2.2.1.2.2.2.2.2.1.2.2 5 (0,())).1,()),((zJ t10.2.1.2.2.1.2.2.2.2.2.1.2.2 6 (0,())).1,()),((zJ t10.2.1.2.2.1.2.2.2.2.2.1.2.2 7 (0,())).1,())]),t10.2.1.2.2.1.2.2.2.2.2.2),()),(),t10.2.2.2.1,t10.2.2.2.2.1,()) t s_2 (p.1,p.2.1,(),p.2.2.2.1,p.2.2.2.2.1,()) o o_2
def qif_ (e s f:Int) (t10:zE4) (t:TaA1q0) (s_2:List (TaA1q1)) (p:(TaA1q0)×(TaA1q1)×Unit×Int×Int×Unit) (o:zE5) (o_2:zE3):Option (As aV) :=
 if eqi e 0=true then if eqi f 0=true then if eqi t.2.1 7=true then zC (at? s_2 s) fun y=>some (p.1,(mkSl p.2.1),p.2.2.2.1,p.2.2.2.2.1,o_2,eqi y.1 9,o,()) else some (p.1,(mkSl p.2.1),p.2.2.2.1,p.2.2.2.2.1,o_2,false,o,()) else some (p.1,(mkSl p.2.1),p.2.2.2.1,p.2.2.2.2.1,o_2,false,o,()) else some (p.1,(mkSl p.2.1),p.2.2.2.1,p.2.2.2.2.1,o_2,false,o,())
def qie_ (j1:Int->Int->Int->List aH->Int->Int->(YTT10×Int×Int×Unit×Int×Int×Int×Int×Int)×YTT17×Unit×Int×Int×Unit->TaA1q0->List (TaA1q1)->(TaA1q0)×(TaA1q1)×Unit×Int×Int×Unit->List (Bool×List Int)->List aH->Option (As aV)) (link timeout retries:Int) (bank:List Int) (plan:zE3):Option (As aV) :=
 zC (qxi_ (9,add .u8 1 (rem link 2),7,add .i64 1 (cvt .i64 (rem timeout 10)),cvt .i64 (rem retries 4),())) fun y=>zC (qrz_ (bank,())) fun y_1=>zC (q106_ (9,add .u8 1 (rem link 2),y_1.1,40,())) fun y_2=>zC (cut plan 0 (if lt 6 (zF (zG plan))=true then 6 else zF (zG plan))) fun y_3=>j1 y.2.1 0 y_2.2.1 y_3 (zF (zG y_3)) 0 (((0,0,0,0,false,(0,0,0,0,(),()),0,0,0),0,0,(),0,0,0,0,0),(0,0,((),(0,0),0,0,0,(0,[false,false,false,false,false,false,false,false],[(0,()),(0,()),(0,()),(0,()),(0,()),(0,()),(0,()),(0,())]),0),()),(),0,0,()) y.1 [y_2.1] (y.1,y_2.1,(),0,0,()) [] []
def qi9_:=qif_
def q86_ (e s f:Int) (t49:zE3) (t50 t51:Int) (t10:zE4) (t:TaA1q0) (s_2:List (TaA1q1)) (p:(TaA1q0)×(TaA1q1)×Unit×Int×Int×Unit) (o:zE5) (o_2:zE3):Option (As aV) :=
 loopF (fun self s=>q80_ (qi9_) (fun e s f t49 t50 t51 t10 t s_2 p o o_2=>self (e,s,f,t49,t50,t51,t10,t,s_2,p,o,o_2)) s.1 s.2.1 s.2.2.1 s.2.2.2.1 s.2.2.2.2.1 s.2.2.2.2.2.1 s.2.2.2.2.2.2.1 s.2.2.2.2.2.2.2.1 s.2.2.2.2.2.2.2.2.1 s.2.2.2.2.2.2.2.2.2.1 s.2.2.2.2.2.2.2.2.2.2.1 s.2.2.2.2.2.2.2.2.2.2.2) 18446744073709551616 (e,s,f,t49,t50,t51,t10,t,s_2,p,o,o_2)
def qal_ (x:As [.int .u8,.int .u8,.int .u8,.sl (.int .u16),.sl (.sl YTT8)]):Option (As aV):=qie_ q86_ x.1 x.2.1 x.2.2.1 x.2.2.2.1 x.2.2.2.2.1
abbrev pBb:=zp qk3_ qkl_ 9 q77_
theorem q1ch_ {J a b c d e f g h i}:pBb J 31 [] (qs4_ a b c d e f g h i)=qif_ a b c d e f g h i:=by kernel_rfl
theorem q1e3_ {J w1 a b c d e f g h i j k l}:pBb J 250 [w1] (qha_ a b c d e f g h i j k l)=q80_ (C (J 31 []) qs4_) (C w1 qha_) a b c d e f g h i j k l:=by kernel_rfl
abbrev pBa:=zj qk3_ qkl_ 9 q77_
theorem q1du_:C (pBa 31 []) qs4_=qi9_:=gNC (by decide) fun _=>q1ch_
theorem q1cd_:C (pBa 250 []) qha_=q86_:=gLC (by decide) (by kernel_rfl) (fun _=>by unfold q86_; rfl) fun _ _=>q1e3_.trans (by rw [q1du_] <;> kernel_rfl)
theorem q11j_:CtOk Tryz.prog (fun _=>True) 9 ⟨q77_,qal_⟩:=zcc (env:=qk3_) (d:=6) (hs:=Ev.get qkl_) (q0_ Ev.bx_ok (q0_ Ev.bx_ok (q0_ Ev.bx_ok (q0_ q18d_ (q0_ q1n2_ (q0_ q1i4_ (q0_ q1o4_ q1_))))))) (fun J x=>qie_ (C (J 250 []) qha_) x.1 x.2.1 x.2.2.1 x.2.2.2.1 x.2.2.2.2.1) (fun _ _=>by kernel_rfl) fun _=>by rw [q1cd_] <;> rfl
@[reducible] def dV:List Ty:=[.sl (.int .u8),.pr aD YTT2,.pr (.int .u8) aA,.int .u32,.int .u32,.sl (.sl YTT8),.sl YTT14]
@[reducible] def aL:List Ty:=[.pr aD YTT2,.pr (.int .u8) aA,.int .u32,.int .u32,.sl (.sl YTT8),.sl YTT14]
@[reducible] def q2v_:Sh:=⟨[.pb 0 0,.d aJ],[(prG 1),.que YTT14 63],dV,[],[(0,(prG 2)),(2,.que YTT14 63)],1,aL⟩
def qb0_:Env:=(cts [(1000048,Ev.bxCt),(9000046,Ev.bxCt),(9999999,Ev.bxCt)])
def qbc_:List (Nat×Hint):=[(1,⟨[],[0,1,14]⟩)]
def qgr_ (b:List Int) (t14:Bool) (p:(TaA1q0)×(TaA1q1)×Unit×Int×Int×List aH) (o:zE5):St:=⟨[(0,.pb 0 0),(1,dL b),(14,dB t14)],26,[],[(0,.box 48 (talkC p.1 (slC p.2.1 [.row 1,d2 p.2.2.2.1,d2 p.2.2.2.2.1,.d bY p.2.2.2.2.2]))),(1,.que YTT14 63 o)],2,[],2⟩
@[reducible] def eD:Type:=As aL
def q4l_ (b:List Int) (t14:Bool) (p:(TaA1q0)×(TaA1q1)×Unit×Int×Int×List aH) (o:zE5):Option eD :=
 if t14=true then need (small (zG o + Nat.succ 0)) (some (p.1,(mkSl p.2.1),p.2.2.2.1,p.2.2.2.2.1,p.2.2.2.2.2,o++[(false,b)],())) else some (p.1,(mkSl p.2.1),p.2.2.2.1,p.2.2.2.2.1,p.2.2.2.2.2,o,())
def qah_ (j1:List Int->Bool->(TaA1q0)×(TaA1q1)×Unit×Int×Int×List aH->List (Bool×List Int)->Option eD) (p:List Int) (b:TaA1q0) (p_2:TaA1q1) (b_2 v:Int) (v_2:zE3) (v_3:zE5):Option eD :=
 if gt (zF (zG p)) 0=true then j1 p (lt (zF (zG v_3)) 12) (b,p_2,(),b_2,v,v_2) v_3 else j1 p false (b,p_2,(),b_2,v,v_2) v_3
def q6q_:=q4l_
def q2y_ (x:As dV):Option eD:=qah_ q6q_ x.1 x.2.1 x.2.2.1 x.2.2.2.1 x.2.2.2.2.1 x.2.2.2.2.2.1 x.2.2.2.2.2.2.1
abbrev pBl:=zp qb0_ qbc_ 20 q2v_
theorem q169_ {J a b c d}:pBl J 1 [] (qgr_ a b c d)=q4l_ a b c d:=by kernel_rfl
abbrev pBk:=zj qb0_ qbc_ 20 q2v_
theorem q165_:C (pBk 1 []) qgr_=q6q_:=gNC (by decide) fun _=>q169_
theorem qgk_:CtOk Tryz.prog (fun _=>True) 20 ⟨q2v_,q2y_⟩:=zcc (env:=qb0_) (d:=6) (hs:=Ev.get qbc_) (q0_ Ev.bx_ok (q0_ Ev.bx_ok (q0_ Ev.bx_ok q1_))) (fun J x=>qah_ (C (J 1 []) qgr_) x.1 x.2.1 x.2.2.1 x.2.2.2.1 x.2.2.2.2.1 x.2.2.2.2.2.1 x.2.2.2.2.2.2.1) (fun _ _=>by kernel_rfl) fun _=>by rw [q165_] <;> rfl
@[reducible] def q9m_:Sh:=⟨[.d (.sl YTT8)],[],[.sl YTT8],[.d (.sl YTT8)],[],0,[.sl YTT8]⟩
def qkd_:Env:=(cts [(45,(⟨q2u_,qc_⟩:Ct))])
def qjw_:List (Nat×Hint):=[(58,⟨[.row 3 38],[3,6,7,8]⟩)]
def qhe_ (t6:zE1) (t7 t8:Int) (r:zE1):St:=⟨[(3,.row 0),(6,.d (.sl YTT8) t6),(7,dI t7),(8,dI t8)],22,[],[(0,.row YTT8 38 r)],1,[],0⟩
def q82_ (self1:zE2) (t6:zE1) (t7 t8:Int) (r:zE1):Option cN :=
 if lt t8 t7=true then zC (at? t6 t8) fun y=>zC (qc_ (y.2,())) fun y_1=>need (small (zG r + Nat.succ 0)) (self1 t6 t7 (add .i64 t8 1) (r++[(y.1,y_1.1)])) else some (r,())
def q124_ (j1:zE2) (l:zE1):Option cN :=
 j1 l (zF (zG l)) 0 []
def qcn_ (t6:zE1) (t7 t8:Int) (r:zE1):Option cN :=
 loopF (fun self s=>q82_ (fun t6 t7 t8 r=>self (t6,t7,t8,r)) s.1 s.2.1 s.2.2.1 s.2.2.2) 18446744073709551616 (t6,t7,t8,r)
def qee_ (x:As [.sl YTT8]):Option cN:=q124_ qcn_ x.1
abbrev pEv:=zp qkd_ qjw_ 65 q9m_
theorem q1dx_ {J w1 a b c d}:pEv J 58 [w1] (qhe_ a b c d)=q82_ (C w1 qhe_) a b c d:=by kernel_rfl
abbrev pEu:=zj qkd_ qjw_ 65 q9m_
theorem q1dv_:C (pEu 58 []) qhe_=qcn_:=gLC (by decide) (by kernel_rfl) (fun _=>by unfold qcn_; rfl) fun _ _=>q1dx_.trans (by kernel_rfl)
theorem q12p_:CtOk Tryz.prog (fun _=>True) 65 ⟨q9m_,qee_⟩:=zcc (env:=qkd_) (d:=6) (hs:=Ev.get qjw_) (q0_ q1g_ q1_) (fun J x=>q124_ (C (J 58 []) qhe_) x.1) (fun _ _=>by kernel_rfl) fun _=>by rw [q1dv_] <;> rfl
@[reducible] def qcz_:Sh:=⟨[.d (.sl .bool)],[],[.sl .bool],[.d (.sl .bool)],[],0,[.sl .bool]⟩
@[reducible] def cY:Type:=As [.sl .bool]
def qby_ (s:List Bool):Option cY :=
 if eqi (zF (zG s)) 0=true then amb (eqAs qcz_.rs) [some ([],()),need (small (0 + zG s)) (some (s,()))] else need (small (0 + zG s)) (some (s,()))
def q2n_ (x:As [.sl .bool]):Option cY:=qby_ x.1
theorem qca_:CtOk Tryz.prog (fun _=>True) 113 ⟨qcz_,q2n_⟩:=ctn q1_ 6 fun J x=>by kernel_rfl
@[reducible] def q69_:Sh:=⟨[.d (.sl (.bool))],[],[.sl (.bool)],[.row 0],[(0,.row (.bool) 4)],1,[.sl (.bool)]⟩
def q9f_ (s:List Bool):Option cY :=
 if eqi (zF (zG s)) 0=true then amb (eqAs q69_.rs) [some ([],()),need (small (0 + zG s)) (some (s,()))] else need (small (0 + zG s)) (some (s,()))
def q2q_ (x:As [.sl .bool]):Option cY:=q9f_ x.1
theorem qiq_:CtOk Tryz.prog (fun _=>True) 113 ⟨q69_,q2q_⟩:=ctn q1_ 6 fun J x=>by kernel_rfl
@[reducible] def aN:List Ty:=[.pr aD YTT2]
@[reducible] def q1b4_:Sh:=⟨[.d aY],[],aN,[.d aY],[],0,aN⟩
@[reducible] def bS:Type:=As aN
def q10j_ (t:TaA1q0):Option bS :=
 zC (qc_ (t.1.2.2.2.2.2.1.2.2.2.2.1,())) fun y=>zC (q2n_ (t.1.2.2.2.2.2.1.2.2.2.2.2,())) fun y_1=>zC (qee_ (t.2.2.2.1,())) fun y_2=>some (((t.1.1,t.1.2.1,t.1.2.2.1,t.1.2.2.2.1,t.1.2.2.2.2.1,(t.1.2.2.2.2.2.1.1,t.1.2.2.2.2.2.1.2.1,t.1.2.2.2.2.2.1.2.2.1,t.1.2.2.2.2.2.1.2.2.2.1,y.1,y_1.1),t.1.2.2.2.2.2.2),t.2.1,t.2.2.1,y_2.1,t.2.2.2.2),())
def qma_ (x:As aN):Option bS:=q10j_ x.1
theorem q10w_:CtOk Tryz.prog (fun _=>True) 54 ⟨q1b4_,qma_⟩:=ctn (q0_ q1g_ (q0_ q12p_ (q0_ qca_ q1_))) 6 fun J x=>by kernel_rfl
@[reducible] def qso_:Sh:=⟨[.d (.int .u8)],[],[.int .u8],[.d (.pr (.int .i64) YTT22),.d (.bool)],[],0,[.pr (.int .i64) YTT22,.bool]⟩
def q1jh_ (f:Int):Option (As [.pr (.int .i64) YTT22,.bool]) :=
 some (Ev.gdV (.pr (.int .i64) YTT22) (if eqi 1 f=true then some (2000,0,0,false,false) else if eqi 2 f=true then some (2000,0,0,false,false) else if eqi 3 f=true then some (125,0,0,false,false) else if eqi 4 f=true then some (125,0,0,false,false) else if eqi 5 f=true then some (0,1,0,false,false) else if eqi 6 f=true then some (0,0,1,false,false) else if eqi 15 f=true then some (1968,1968,0,false,true) else if eqi 16 f=true then some (123,0,123,false,true) else if eqi 23 f=true then some (125,0,121,true,false) else zH) (0,0,0,false,false),Ev.isV (.pr (.int .i64) YTT22) (if eqi 1 f=true then some (2000,0,0,false,false) else if eqi 2 f=true then some (2000,0,0,false,false) else if eqi 3 f=true then some (125,0,0,false,false) else if eqi 4 f=true then some (125,0,0,false,false) else if eqi 5 f=true then some (0,1,0,false,false) else if eqi 6 f=true then some (0,0,1,false,false) else if eqi 15 f=true then some (1968,1968,0,false,true) else if eqi 16 f=true then some (123,0,123,false,true) else if eqi 23 f=true then some (125,0,121,true,false) else zH),())
def q9w_ (x:As [.int .u8]):Option (As [.pr (.int .i64) YTT22,.bool]):=q1jh_ x.1
theorem qod_:CtOk Tryz.prog (fun _=>True) 106 ⟨qso_,q9w_⟩:=ctn q1_ 6 fun J x=>by kernel_rfl
@[reducible] def cC:List Ty:=[.int .i64,.int .i64]
@[reducible] def q175_:Sh:=⟨[.d (.int .i64),.d (.int .i64)],[],cC,[.d (.bool)],[],0,[.bool]⟩
def qv3_ (n most:Int):Option aF :=
 if eqi most 0=true then some (eqi n 0,()) else if ge n 1=true then some (le n most,()) else some (false,())
def qhc_ (x:As cC):Option aF:=qv3_ x.1 x.2.1
theorem q1gy_:CtOk Tryz.prog (fun _=>True) 162 ⟨q175_,qhc_⟩:=ctn q1_ 6 fun J x=>by kernel_rfl
@[reducible] def aX:List Ty:=[.pr (.int .u8) YTT7]
@[reducible] def q6c_:Sh:=⟨[.d bC],[],aX,[.d (.bool)],[],0,[.bool]⟩
def qtc_:Env:=(cts [(106,(⟨qso_,q9w_⟩:Ct)),(162,(⟨q175_,qhc_⟩:Ct))])
def qte_:List (Nat×Hint):=[(30,⟨[],[1,3,47,52,53,54,55,56,57,58,59,60,61,62]⟩),(14,⟨[],[1,3,22,31,32,33,34,35,36,37,40,41,42,43,44,45,46,52,53,54,55,56,57,58,59,60,61,62]⟩)]
def qy3_ (t22:Bool) (a a_2 a_3 a_4:Int) (a_5:List Int) (a_6:List Bool) (s s_2 s_3:Int) (s_4 s_5:Bool):St:=⟨[(1,.pb 0 0),(3,.pb 1 0),(22,dB t22)],64,[],[(0,.box 27 [d8 a,d6 a_2,d6 a_3,d6 a_4,dW a_5,.d (.sl .bool) a_6]),(1,.box 151 [dI s,dI s_2,dI s_3,dB s_4,dB s_5])],2,[],0⟩
def qxr_ (t47:Bool) (a a_2 a_3 a_4:Int) (a_5:List Int) (a_6:List Bool) (s s_2 s_3:Int) (s_4 s_5:Bool):St:=⟨[(1,.pb 0 0),(3,.pb 1 0),(47,dB t47)],64,[],[(0,.box 27 [d8 a,d6 a_2,d6 a_3,d6 a_4,dW a_5,.d (.sl .bool) a_6]),(1,.box 151 [dI s,dI s_2,dI s_3,dB s_4,dB s_5])],2,[],0⟩
@[reducible] def zE6:Type:=Bool->Int->Int->Int->Int->List Int->List Bool->Int->Int->Int->Bool->Bool->Option aF
def qxk_ (j2:zE6) (t22:Bool) (a a_2 a_3 a_4:Int) (a_5:List Int) (a_6:List Bool) (s s_2 s_3:Int) (s_4 s_5:Bool):Option aF :=
 if t22=true then some (false,()) else zC (qhc_ (cvt .i64 a_3,s,())) fun y=>if (!y.1)=true then j2 true a a_2 a_3 a_4 a_5 a_6 s s_2 s_3 s_4 s_5 else zC (qhc_ (zF (zG a_6),s_2,())) fun y=>if (!y.1)=true then j2 true a a_2 a_3 a_4 a_5 a_6 s s_2 s_3 s_4 s_5 else zC (qhc_ (zF (zG a_5),s_3,())) fun y=>j2 (!y.1) a a_2 a_3 a_4 a_5 a_6 s s_2 s_3 s_4 s_5
def qyg_ (t47:Bool) (a a_2 a_3 a_4:Int) (a_5:List Int) (a_6:List Bool) (s s_2 s_3:Int) (s_4 s_5:Bool):Option aF :=
 if t47=true then some (false,()) else if (!s_5)=true then some (true,()) else some (eqi (add .i64 (zF (zG a_6)) (zF (zG a_5))) (cvt .i64 a_3),())
@[reducible] def zE7:Type:=Int×Int×Int×Int×List Int×List Bool
def qoq_ (j1:zE6) (a:zE7):Option aF :=
 zC (q9w_ (a.1,())) fun y=>if (!y.2.1)=true then j1 true a.1 a.2.1 a.2.2.1 a.2.2.2.1 a.2.2.2.2.1 a.2.2.2.2.2 y.1.1 y.1.2.1 y.1.2.2.1 y.1.2.2.2.1 y.1.2.2.2.2 else if (!y.1.2.2.2.1)=true then j1 (nei a.2.2.2.1 0) a.1 a.2.1 a.2.2.1 a.2.2.2.1 a.2.2.2.2.1 a.2.2.2.2.2 y.1.1 y.1.2.1 y.1.2.2.1 y.1.2.2.2.1 y.1.2.2.2.2 else j1 false a.1 a.2.1 a.2.2.1 a.2.2.2.1 a.2.2.2.2.1 a.2.2.2.2.2 y.1.1 y.1.2.1 y.1.2.2.1 y.1.2.2.2.1 y.1.2.2.2.2
def qo4_:=qyg_
def qga_:=qxk_ (qo4_)
def q5i_ (x:As aX):Option aF:=qoq_ qga_ x.1
abbrev pAt:=zp qtc_ qte_ 105 q6c_
theorem q1lp_ {J a b c d e f g h i j k l}:pAt J 30 [] (qxr_ a b c d e f g h i j k l)=qyg_ a b c d e f g h i j k l:=by kernel_rfl
theorem q1lg_ {J a b c d e f g h i j k l}:pAt J 14 [] (qy3_ a b c d e f g h i j k l)=qxk_ (C (J 30 []) qxr_) a b c d e f g h i j k l:=by kernel_rfl
abbrev pAs:=zj qtc_ qte_ 105 q6c_
theorem q1ln_:C (pAs 30 []) qxr_=qo4_:=gNC (by decide) fun _=>q1lp_
theorem q1i0_:C (pAs 14 []) qy3_=qga_:=gNC (by decide) fun _=>q1lg_.trans (by rw [q1ln_] <;> kernel_rfl)
theorem qgg_:CtOk Tryz.prog (fun _=>True) 105 ⟨q6c_,q5i_⟩:=zcc (env:=qtc_) (d:=6) (hs:=Ev.get qte_) (q0_ qod_ (q0_ q1gy_ q1_)) (fun J x=>qoq_ (C (J 14 []) qy3_) x.1) (fun _ _=>by kernel_rfl) fun _=>by rw [q1i0_] <;> rfl
@[reducible] def q1gi_:Sh:=⟨[.d bC],[],aX,[.d bC],[],0,aX⟩
@[reducible] def dE:Type:=As aX
def qrl_ (a:zE7):Option dE :=
 zC (qc_ (a.2.2.2.2.1,())) fun y=>zC (q2n_ (a.2.2.2.2.2,())) fun y_1=>some ((a.1,a.2.1,a.2.2.1,a.2.2.2.1,y.1,y_1.1),())
def qtp_ (x:As aX):Option dE:=qrl_ x.1
theorem q132_:CtOk Tryz.prog (fun _=>True) 170 ⟨q1gi_,qtp_⟩:=ctn (q0_ q1g_ (q0_ qca_ q1_)) 6 fun J x=>by kernel_rfl
@[reducible] def cD:List Ty:=[.pr (.int .u8) YTT0]
@[reducible] def q1bm_:Sh:=⟨[.d aD],[],cD,[.d aD],[],0,cD⟩
def q117_ (p:zE0):Option (As cD) :=
 zC (qtp_ (p.2.2.2.2.2.1,())) fun y=>some ((p.1,p.2.1,p.2.2.1,p.2.2.2.1,p.2.2.2.2.1,y.1,p.2.2.2.2.2.2),())
def qds_ (x:As cD):Option (As cD):=q117_ x.1
theorem q10u_:CtOk Tryz.prog (fun _=>True) 114 ⟨q1bm_,qds_⟩:=ctn (q0_ q132_ q1_) 6 fun J x=>by kernel_rfl
@[reducible] def eA:List Ty:=[.sl (.int .u16),.sl (.int .u8)]
@[reducible] def aI:List Ty:=[.sl (.int .u8)]
@[reducible] def q9p_:Sh:=⟨[.row 0,.d aC],[.row (.int .u8) 5],eA,[.row 1],[(1,.row (.int .u8) 5)],1,aI⟩
def qlf_:Env:=(cts [])
def qkc_:List (Nat×Hint):=[(26,⟨[.unl 0],[0,7,8,9]⟩)]
def qig_ (t7:List Int) (t8 t9:Int) (out:List Int):St:=⟨[(0,.row 1),(7,dW t7),(8,dI t8),(9,dI t9)],23,[],[(1,.row (.int .u8) 5 out)],2,[],1⟩
@[reducible] def bW:Type:=As aI
@[reducible] def zE8:Type:=List Int->Int->Int->List Int->Option bW
def q7y_ (self1:zE8) (t7:List Int) (t8 t9:Int) (out:List Int):Option bW :=
 if lt t9 t8=true then zC (at? t7 t9) fun y=>need (small (zG out + Nat.succ (Nat.succ 0))) (self1 t7 t8 (add .i64 t9 1) (out++[cvt .u8 (Sx.shr .u16 y 8),cvt .u8 y])) else some (out,())
def qik_ (j1:zE8) (out l:List Int):Option bW :=
 j1 out (zF (zG out)) 0 l
def qc7_ (t7:List Int) (t8 t9:Int) (out:List Int):Option bW :=
 loopF (fun self s=>q7y_ (fun t7 t8 t9 out=>self (t7,t8,t9,out)) s.1 s.2.1 s.2.2.1 s.2.2.2) 18446744073709551616 (t7,t8,t9,out)
def q1d_ (x:As eA):Option bW:=qik_ qc7_ x.1 x.2.1
abbrev pAz:=zp qlf_ qkc_ 107 q9p_
theorem q1ez_ {J w1 a b c d}:pAz J 26 [w1] (qig_ a b c d)=q7y_ (C w1 qig_) a b c d:=by kernel_rfl
abbrev pAy:=zj qlf_ qkc_ 107 q9p_
theorem q1c9_:C (pAy 26 []) qig_=qc7_:=gLC (by decide) (by kernel_rfl) (fun _=>by unfold qc7_; rfl) fun _ _=>q1ez_.trans (by kernel_rfl)
theorem q1cp_:CtOk Tryz.prog (fun _=>True) 107 ⟨q9p_,q1d_⟩:=zcc (env:=qlf_) (d:=6) (hs:=Ev.get qkc_) q1_ (fun J x=>qik_ (C (J 26 []) qig_) x.1 x.2.1) (fun _ _=>by kernel_rfl) fun _=>by rw [q1c9_] <;> rfl
@[reducible] def qih_:Sh:=⟨[.d (.sl .bool)],[],[.sl .bool],[.d aJ],[],0,aI⟩
def qwv_:Env:=(cts [])
def qwk_:List (Nat×Hint):=[(7,⟨[],[0,3]⟩),(250,⟨[],[4,18,19,20]⟩)]
def q10n_ (bits:List Bool) (n:Int):St:=⟨[(0,.d (.sl .bool) bits),(3,dI n)],38,[],[],0,[],0⟩
def qsg_ (t18:List Bool) (t19 t20:Int) (out:List Int):St:=⟨[(4,.row 0),(18,.d (.sl .bool) t18),(19,dI t19),(20,dI t20)],38,[],[(0,.row (.int .u8) 5 out)],1,[],0⟩
@[reducible] def zE9:Type:=List Bool->Int->Int->List Int->Option bW
def q111_ (j2:zE9) (bits:List Bool) (n:Int):Option bW :=
 need (ge n 0) (need (Ev.capOk n n) (need (small (zI n)) (j2 bits (zF (zG bits)) 0 (zE (zI n) 0))))
def qep_ (self2:zE9) (t18:List Bool) (t19 t20:Int) (out:List Int):Option bW :=
 if lt t20 t19=true then zC (at? t18 t20) fun y=>if y=true then zC (at? out (quo .i64 t20 8)) fun x=>zC (at? out (quo .i64 t20 8)) fun y=>need (ge (rem t20 8) 0) (zC (at? out (quo .i64 t20 8)) fun x=>zC (at? out (quo .i64 t20 8)) fun x=>self2 t18 t19 (add .i64 t20 1) (List.set out (zI (quo .i64 t20 8)) (Sx.bor .u8 y (Sx.shl .u8 1 (rem t20 8))))) else self2 t18 t19 (add .i64 t20 1) out else some (out,())
def qst_ (j1:List Bool->Int->Option bW) (bits:List Bool):Option bW :=
 if gt (rem (zF (zG bits)) 8) 0=true then j1 bits (add .i64 (quo .i64 (zF (zG bits)) 8) 1) else j1 bits (quo .i64 (zF (zG bits)) 8)
def qsl_ (t18:List Bool) (t19 t20:Int) (out:List Int):Option bW :=
 loopF (fun self s=>qep_ (fun t18 t19 t20 out=>self (t18,t19,t20,out)) s.1 s.2.1 s.2.2.1 s.2.2.2) 18446744073709551616 (t18,t19,t20,out)
def qj7_:=q111_ (qsl_)
def qm3_ (x:As [.sl .bool]):Option bW:=qst_ qj7_ x.1
abbrev pAp:=zp qwv_ qwk_ 108 qih_
theorem q1nd_ {J w2 a b c d}:pAp J 250 [w2] (qsg_ a b c d)=qep_ (C w2 qsg_) a b c d:=by kernel_rfl
theorem q1ms_ {J a b}:pAp J 7 [] (q10n_ a b)=q111_ (C (J 250 []) qsg_) a b:=by kernel_rfl
abbrev pAo:=zj qwv_ qwk_ 108 qih_
theorem q1np_:C (pAo 250 []) qsg_=qsl_:=gLC (by decide) (by kernel_rfl) (fun _=>by unfold qsl_; rfl) fun _ _=>q1nd_.trans (by kernel_rfl)
theorem q1m5_:C (pAo 7 []) q10n_=qj7_:=gNC (by decide) fun _=>q1ms_.trans (by rw [q1np_] <;> kernel_rfl)
theorem q18b_:CtOk Tryz.prog (fun _=>True) 108 ⟨qih_,qm3_⟩:=zcc (env:=qwv_) (d:=6) (hs:=Ev.get qwk_) q1_ (fun J x=>qst_ (C (J 7 []) q10n_) x.1) (fun _ _=>by kernel_rfl) fun _=>by rw [q1m5_] <;> rfl
@[reducible] def aT:List Ty:=[.sl (.int .u8),.int .i64]
@[reducible] def qan_:Sh:=⟨[.d bC],[],aX,[.d aJ,.d (.int .i64)],[],0,aT⟩
def qtx_:Env:=(cts [(105,(⟨q6c_,q5i_⟩:Ct)),(106,(⟨qso_,q9w_⟩:Ct)),(107,(⟨q9p_,q1d_⟩:Ct)),(108,(⟨qih_,qm3_⟩:Ct))])
def qt8_:List (Nat×Hint):=[(31,⟨[],[1,4,6,48,49,50,51]⟩),(63,⟨[],[1,4,6,48,49,50,51]⟩),(127,⟨[],[6]⟩),(508,⟨[],[1,4,6,43]⟩)]
def qxo_ (a a_2 a_3 a_4:Int) (a_5:List Int) (a_6:List Bool) (s s_2 s_3:Int) (s_4 s_5:Bool) (out:List Int):St:=⟨[(1,.pb 0 0),(4,.pb 1 0),(6,.row 2)],102,[],[(0,.box 27 [d8 a,d6 a_2,d6 a_3,d6 a_4,dW a_5,.d (.sl .bool) a_6]),(1,.box 151 [dI s,dI s_2,dI s_3,dB s_4,dB s_5]),(2,.row (.int .u8) 5 out)],3,[],0⟩
def qy9_ (a a_2 a_3 a_4:Int) (a_5:List Int) (a_6:List Bool) (s s_2 s_3:Int) (s_4 s_5:Bool) (out:List Int):St:=⟨[(1,.pb 0 0),(4,.pb 1 0),(6,.row 2)],102,[],[(0,.box 27 [d8 a,d6 a_2,d6 a_3,d6 a_4,dW a_5,.d (.sl .bool) a_6]),(1,.box 151 [dI s,dI s_2,dI s_3,dB s_4,dB s_5]),(2,.row (.int .u8) 5 out)],3,[],0⟩
def qz6_ (t43:Bool) (a a_2 a_3 a_4:Int) (a_5:List Int) (a_6:List Bool) (s s_2 s_3:Int) (s_4 s_5:Bool) (out:List Int):St:=⟨[(1,.pb 0 0),(4,.pb 1 0),(6,.row 2),(43,dB t43)],102,[],[(0,.box 27 [d8 a,d6 a_2,d6 a_3,d6 a_4,dW a_5,.d (.sl .bool) a_6]),(1,.box 151 [dI s,dI s_2,dI s_3,dB s_4,dB s_5]),(2,.row (.int .u8) 5 out)],3,[],0⟩
def qxf_ (out:List Int):St:=⟨[(6,.row 0)],102,[],[(0,.row (.int .u8) 5 out)],1,[],0⟩
@[reducible] def cP:Type:=As aT
@[reducible] def zE10:Type:=Int->Int->Int->Int->List Int->List Bool->Int->Int->Int->Bool->Bool->List Int->Option cP
def q15q_ (j2:zE10) (a a_2 a_3 a_4:Int) (a_5:List Int) (a_6:List Bool) (s s_2 s_3:Int) (s_4 s_5:Bool) (out:List Int):Option cP :=
 if s_4=true then zC (q1d_ ([a_4,cvt .u16 (zF (zG a_5))],out,())) fun y=>j2 a a_2 a_3 a_4 a_5 a_6 s s_2 s_3 s_4 s_5 y.1 else j2 a a_2 a_3 a_4 a_5 a_6 s s_2 s_3 s_4 s_5 out
def q158_ (j3:Bool->Int->Int->Int->Int->List Int->List Bool->Int->Int->Int->Bool->Bool->List Int->Option cP) (a a_2 a_3 a_4:Int) (a_5:List Int) (a_6:List Bool) (s s_2 s_3:Int) (s_4 s_5:Bool) (out:List Int):Option cP :=
 if eqi a 5=true then zC (at? a_6 0) fun y=>j3 y a a_2 a_3 a_4 a_5 a_6 s s_2 s_3 s_4 s_5 out else j3 false a a_2 a_3 a_4 a_5 a_6 s s_2 s_3 s_4 s_5 out
def q15p_ (j4:List Int->Option cP) (t43:Bool) (a a_2 a_3 a_4:Int) (a_5:List Int) (a_6:List Bool) (s s_2 s_3:Int) (s_4 s_5:Bool) (out:List Int):Option cP :=
 if t43=true then zC (q1d_ ([65280],out,())) fun y=>j4 y.1 else if eqi a 5=true then zC (q1d_ ([0],out,())) fun y=>j4 y.1 else if eqi a 6=true then zC (q1d_ (a_5,out,())) fun y=>j4 y.1 else if gt s_2 0=true then zC (qm3_ (a_6,())) fun y=>need (small (zG out + Nat.succ 0)) (need (small (zG (out++[cvt .u8 (zF (zG y.1))]) + zG y.1)) (j4 (out++[cvt .u8 (zF (zG y.1))]++y.1))) else if gt s_3 0=true then need (small (zG out + Nat.succ 0)) (zC (q1d_ (a_5,out++[cvt .u8 (mul .i64 2 (zF (zG a_5)))],())) fun y=>j4 y.1) else j4 out
def q16i_ (out:List Int):Option cP :=
 some (out,0,())
def qqe_ (j1:zE10) (a:zE7):Option cP :=
 zC (q5i_ (a,())) fun y=>if (!y.1)=true then some ([],12,()) else zC (q9w_ (a.1,())) fun y=>zC (q1d_ ([a.2.1],[a.1],())) fun y_1=>if gt y.1.1 0=true then zC (q1d_ ([a.2.2.1],y_1.1,())) fun y_2=>j1 a.1 a.2.1 a.2.2.1 a.2.2.2.1 a.2.2.2.2.1 a.2.2.2.2.2 y.1.1 y.1.2.1 y.1.2.2.1 y.1.2.2.2.1 y.1.2.2.2.2 y_2.1 else j1 a.1 a.2.1 a.2.2.1 a.2.2.2.1 a.2.2.2.2.1 a.2.2.2.2.2 y.1.1 y.1.2.1 y.1.2.2.1 y.1.2.2.2.1 y.1.2.2.2.2 y_1.1
def q161_:=q16i_
def q178_:=q15p_ (q161_)
def q16q_:=q158_ (q178_)
def q6p_:=q15q_ (q16q_)
def q6m_ (x:As aX):Option cP:=qqe_ q6p_ x.1
abbrev pAn:=zp qtx_ qt8_ 50 qan_
theorem q1m1_ {J a}:pAn J 127 [] (qxf_ a)=q16i_ a:=by kernel_rfl
theorem q1k3_ {J a b c d e f g h i j k l m}:pAn J 508 [] (qz6_ a b c d e f g h i j k l m)=q15p_ (C (J 127 []) qxf_) a b c d e f g h i j k l m:=by kernel_rfl
theorem q1i6_ {J a b c d e f g h i j k l}:pAn J 63 [] (qy9_ a b c d e f g h i j k l)=q158_ (C (J 508 []) qz6_) a b c d e f g h i j k l:=by kernel_rfl
theorem q1kg_ {J a b c d e f g h i j k l}:pAn J 31 [] (qxo_ a b c d e f g h i j k l)=q15q_ (C (J 63 []) qy9_) a b c d e f g h i j k l:=by kernel_rfl
abbrev pAm:=zj qtx_ qt8_ 50 qan_
theorem q1kv_:C (pAm 127 []) qxf_=q161_:=gNC (by decide) fun _=>q1m1_
theorem q1l3_:C (pAm 508 []) qz6_=q178_:=gNC (by decide) fun _=>q1k3_.trans (by rw [q1kv_] <;> kernel_rfl)
theorem q1i9_:C (pAm 63 []) qy9_=q16q_:=gNC (by decide) fun _=>q1i6_.trans (by rw [q1l3_] <;> kernel_rfl)
theorem q1ll_:C (pAm 31 []) qxo_=q6p_:=gNC (by decide) fun _=>q1kg_.trans (by rw [q1i9_] <;> kernel_rfl)
theorem qp5_:CtOk Tryz.prog (fun _=>True) 50 ⟨qan_,q6m_⟩:=zcc (env:=qtx_) (d:=6) (hs:=Ev.get qt8_) (q0_ qgg_ (q0_ qod_ (q0_ q1cp_ (q0_ q18b_ q1_)))) (fun J x=>qqe_ (C (J 31 []) qxo_) x.1) (fun _ _=>by kernel_rfl) fun _=>by rw [q1ll_] <;> rfl
@[reducible] def qem_:Sh:=⟨[.d (.pr (.int .u16) YTT20)],[],[.pr (.int .u16) YTT20],[.d aJ,.d (.int .i64)],[],0,aT⟩
def qsq_:Env:=(cts [])
def qu1_:List (Nat×Hint):=[(14,⟨[],[1,4,14]⟩)]
def qz2_ (n:Int) (t14:Bool) (x:Int×Int×List Int):St:=⟨[(1,.pb 0 0),(4,dI n),(14,dB t14)],37,[],[(0,.box 129 [d6 x.1,d8 x.2.1,dL x.2.2])],1,[],0⟩
def qnz_ (n:Int) (t14:Bool) (x:Int×Int×List Int):Option cP :=
 if t14=true then some ([],2,()) else need (Ev.capOk 0 (add .i64 7 n)) (need (small (zI (add .i64 7 n))) (need (small (0 + Nat.succ (Nat.succ (Nat.succ (Nat.succ (Nat.succ (Nat.succ (Nat.succ 0)))))))) (need (small (Nat.succ (Nat.succ (Nat.succ (Nat.succ (Nat.succ (Nat.succ (Nat.succ 0)))))) + zG x.2.2)) (some (cvt .u8 (Sx.shr .u16 x.1 8)::cvt .u8 x.1::0::0::0::cvt .u8 (add .i64 n 1)::x.2.1::x.2.2,0,())))))
def qp2_ (j1:Int->Bool->Int×Int×List Int->Option cP) (x:Int×Int×List Int):Option cP :=
 if lt (zF (zG x.2.2)) 1=true then j1 (zF (zG x.2.2)) true x else j1 (zF (zG x.2.2)) (gt (zF (zG x.2.2)) 253) x
def qzb_:=qnz_
def qml_ (x:As [.pr (.int .u16) YTT20]):Option cP:=qp2_ qzb_ x.1
abbrev pBx:=zp qsq_ qu1_ 100 qem_
theorem q1i7_ {J a b c}:pBx J 14 [] (qz2_ a b c)=qnz_ a b c:=by kernel_rfl
abbrev pBw:=zj qsq_ qu1_ 100 qem_
theorem q1hx_:C (pBw 14 []) qz2_=qzb_:=gNC (by decide) fun _=>q1i7_
theorem q177_:CtOk Tryz.prog (fun _=>True) 100 ⟨qem_,qml_⟩:=zcc (env:=qsq_) (d:=6) (hs:=Ev.get qu1_) q1_ (fun J x=>qp2_ (C (J 14 []) qz2_) x.1) (fun _ _=>by kernel_rfl) fun _=>by rw [q1hx_] <;> rfl
@[reducible] def dC:List Ty:=[.un,.int .u8,.int .u16,.pr (.int .u8) YTT7]
@[reducible] def q19h_:Sh:=⟨[.d (.un),.d (.int .u8),.d (.int .u16),.d bC],[],dC,[.d aJ],[],0,aI⟩
def qiz_ (v:Unit) (unit tx:Int) (a:zE7):Option bW :=
 zC (q6m_ (a,())) fun y=>if nei y.2.1 0=true then some ([],()) else zC (qml_ ((tx,unit,y.1),())) fun y=>if nei y.2.1 0=true then some ([],()) else some (y.1,())
def qs7_ (x:As dC):Option bW:=qiz_ x.1 x.2.1 x.2.2.1 x.2.2.2.1
theorem q183_:CtOk Tryz.prog (fun _=>True) 338 ⟨q19h_,qs7_⟩:=ctn (q0_ qp5_ (q0_ q177_ q1_)) 6 fun J x=>by kernel_rfl
@[reducible] def q1aa_:Sh:=⟨[.d (.un),.d (.int .u16)],[],[.un,.int .u16],[.d (.int .u16)],[],0,[.int .u16]⟩
@[reducible] def dJ:Type:=As [.int .u16]
def q18w_ (v:Unit) (tx:Int):Option dJ :=
 some (add .u16 tx 1,())
def qwb_ (x:As [.un,.int .u16]):Option dJ:=q18w_ x.1 x.2.1
theorem q19r_:CtOk Tryz.prog (fun _=>True) 339 ⟨q1aa_,qwb_⟩:=ctn q1_ 6 fun J x=>by kernel_rfl
@[reducible] def qev_:Sh:=⟨[],[],[],[.d (.ar 16 (.int .u16))],[],0,[.ar 16 (.int .u16)]⟩
def qu2_:Env:=(cts [])
def qt5_:List (Nat×Hint):=[(58,⟨[],[0,1,5]⟩),(7475,⟨[],[0,1,2,3,5]⟩),(59802,⟨[],[0,1,2,3,5,10]⟩)]
def q6r_ (t5:Int) (t0 t:List Int):St:=⟨[(0,.pb 0 0),(1,.pb 1 0),(5,dI t5)],26,[],[(0,.row (.int .u16) 213 t0),(1,.row (.int .u16) 213 t)],2,[],0⟩
def qp1_ (i x t5 t10:Int) (t0 t:List Int):St:=⟨[(0,.pb 0 0),(1,.pb 1 0),(2,dI i),(3,d6 x),(5,dI t5),(10,dI t10)],26,[],[(0,.row (.int .u16) 213 t0),(1,.row (.int .u16) 213 t)],2,[],0⟩
def qyj_ (i x t5:Int) (t0 t:List Int):St:=⟨[(0,.pb 0 0),(1,.pb 1 0),(2,dI i),(3,d6 x),(5,dI t5)],26,[],[(0,.row (.int .u16) 213 t0),(1,.row (.int .u16) 213 t)],2,[],0⟩
@[reducible] def zE11:Type:=Int->Int->Int->Int->List Int->List Int->Option (As [.ar 16 (.int .u16)])
@[reducible] def zE12:Type:=Int->List Int->List Int->Option (As [.ar 16 (.int .u16)])
def q15y_ (j2:zE11) (self1:zE12) (t5:Int) (t0 t:List Int):Option (As [.ar 16 (.int .u16)]) :=
 if lt t5 16=true then j2 t5 (cvt .u16 t5) t5 0 t0 t else need (eqi (zF (zG t)) 16) (need (eqi (zF (zG t0)) (zF (zG t))) (need (eqi 16 (zF (zG t * 1))) (need (eqi (zF (zG t)) 16) (need (eqi (zF (zG t)) 16) (some (t,()))))))
def q15n_ (j3:Int->Int->Int->List Int->List Int->Option (As [.ar 16 (.int .u16)])) (self1:zE12) (self2:zE11) (i x t5 t10:Int) (t0 t:List Int):Option (As [.ar 16 (.int .u16)]) :=
 if lt t10 4=true then if eqi (Sx.band .u16 x 1) 1=true then self2 i (Sx.bxor .u16 (Sx.shr .u16 x 1) 40961) t5 (add .i64 t10 1) t0 t else self2 i (Sx.shr .u16 x 1) t5 (add .i64 t10 1) t0 t else j3 i x t5 t0 t
def q16w_ (self1:zE12) (i x t5:Int) (t0 t:List Int):Option (As [.ar 16 (.int .u16)]) :=
 need (lt i 16) (zC (at? t i) fun x_1=>zC (at? t i) fun x_2=>self1 (add .i64 t5 1) t0 (List.set t (zI i) x))
def q17c_ (j1:zE12):Option (As [.ar 16 (.int .u16)]) :=
 j1 0 (zE 16 0) (zE 16 0)
def q15e_ (u1:zE12):=q16w_ u1
def qyz_ (u1:zE12) (i x t5 t10:Int) (t0 t:List Int):Option (As [.ar 16 (.int .u16)]) :=
 loopF (fun self s=>q15n_ (q15e_ u1) u1 (fun i x t5 t10 t0 t=>self (i,x,t5,t10,t0,t)) s.1 s.2.1 s.2.2.1 s.2.2.2.1 s.2.2.2.2.1 s.2.2.2.2.2) 18446744073709551616 (i,x,t5,t10,t0,t)
def qxx_ (t5:Int) (t0 t:List Int):Option (As [.ar 16 (.int .u16)]) :=
 loopF (fun self s=>q15y_ (qyz_ (fun t5 t0 t=>self (t5,t0,t))) (fun t5 t0 t=>self (t5,t0,t)) s.1 s.2.1 s.2.2) 18446744073709551616 (t5,t0,t)
def qus_ (x:As []):Option (As [.ar 16 (.int .u16)]):=q17c_ qxx_
abbrev pA9:=zp qu2_ qt5_ 156 qev_
theorem q1jj_ {J w1 a b c d e}:pA9 J 7475 [w1] (qyj_ a b c d e)=q16w_ (C w1 q6r_) a b c d e:=by kernel_rfl
theorem q1lm_ {J w1 w2 a b c d e f}:pA9 J 59802 [w1,w2] (qp1_ a b c d e f)=q15n_ (C (J 7475 [w1]) qyj_) (C w1 q6r_) (C w2 qp1_) a b c d e f:=by kernel_rfl
theorem q1ls_ {J w1 a b c}:pA9 J 58 [w1] (q6r_ a b c)=q15y_ (C (J 59802 [w1]) qp1_) (C w1 q6r_) a b c:=by kernel_rfl
abbrev pA8:=zj qu2_ qt5_ 156 qev_
theorem q1jl_ {w1}:C (pA8 7475 [w1]) qyj_=q15e_ (C w1 q6r_):=gNC (by decide) fun _=>q1jj_
theorem q1kl_ {w1}:C (pA8 59802 [w1]) qp1_=qyz_ (C w1 q6r_):=gLC (by decide) (by kernel_rfl) (fun _=>by unfold qyz_; rfl) fun _ _=>q1lm_.trans (by rw [q1jl_] <;> kernel_rfl)
theorem q1k7_:C (pA8 58 []) q6r_=qxx_:=gLC (by decide) (by kernel_rfl) (fun _=>by unfold qxx_; rfl) fun _ _=>q1ls_.trans (by rw [q1kl_] <;> kernel_rfl)
theorem q1k0_:CtOk Tryz.prog (fun _=>True) 156 ⟨qev_,qus_⟩:=zcc (env:=qu2_) (d:=6) (hs:=Ev.get qt5_) q1_ (fun J x=>q17c_ (C (J 58 []) q6r_)) (fun _ _=>by kernel_rfl) fun _=>by rw [q1k7_] <;> rfl
@[reducible] def q1bl_:Sh:=⟨[.pb 0 0,.d (.int .u16),.d (.int .u8)],[.row (.int .u16) 213],[.int .u16,.int .u8,.sl (.int .u16)],[.d (.int .u16)],[(0,.row (.int .u16) 213)],0,[.int .u16,.sl (.int .u16)]⟩
def q110_ (t sum:Int) (c:List Int):Option (As [.int .u16,.sl (.int .u16)]) :=
 need (lt (Sx.band .u16 (Sx.bxor .u16 t (cvt .u16 sum)) 15) 16) (zC (at? c (Sx.band .u16 (Sx.bxor .u16 t (cvt .u16 sum)) 15)) fun x=>zC (at? c (Sx.band .u16 (Sx.bxor .u16 t (cvt .u16 sum)) 15)) fun y=>need (lt (Sx.band .u16 (Sx.bxor .u16 (Sx.shr .u16 (Sx.bxor .u16 t (cvt .u16 sum)) 4) y) 15) 16) (zC (at? c (Sx.band .u16 (Sx.bxor .u16 (Sx.shr .u16 (Sx.bxor .u16 t (cvt .u16 sum)) 4) y) 15)) fun x=>zC (at? c (Sx.band .u16 (Sx.bxor .u16 (Sx.shr .u16 (Sx.bxor .u16 t (cvt .u16 sum)) 4) y) 15)) fun y_1=>some (Sx.bxor .u16 (Sx.shr .u16 (Sx.bxor .u16 (Sx.shr .u16 (Sx.bxor .u16 t (cvt .u16 sum)) 4) y) 4) y_1,c,())))
def q13i_ (x:As [.int .u16,.int .u8,.sl (.int .u16)]):Option (As [.int .u16,.sl (.int .u16)]):=q110_ x.1 x.2.1 x.2.2.1
theorem q1n7_:CtOk Tryz.prog (fun _=>True) 157 ⟨q1bl_,q13i_⟩:=ctn q1_ 6 fun J x=>by kernel_rfl
@[reducible] def quh_:Sh:=⟨[.d aJ],[],aI,[.d (.int .u16)],[],0,[.int .u16]⟩
def q101_:Env:=(cts [(156,(⟨qev_,qus_⟩:Ct)),(157,(⟨q1bl_,q13i_⟩:Ct))])
def q10a_:List (Nat×Hint):=[(122,⟨[],[0,3,4,8,9]⟩)]
def qwu_ (b:List Int) (sum t8 t9:Int) (t:List Int):St:=⟨[(0,dL b),(3,.pb 0 0),(4,d6 sum),(8,dI t8),(9,dI t9)],20,[],[(0,.row (.int .u16) 213 t)],1,[],0⟩
@[reducible] def zE13:Type:=List Int->Int->Int->Int->List Int->Option dJ
def qii_ (self1:zE13) (b:List Int) (sum t8 t9:Int) (t:List Int):Option dJ :=
 if lt t9 t8=true then zC (at? b t9) fun y=>zC (q13i_ (sum,y,t,())) fun y=>self1 b y.1 t8 (add .i64 t9 1) y.2.1 else some (sum,())
def qwx_ (j1:zE13) (b:List Int):Option dJ :=
 zC (qus_ ()) fun y=>need (eqi 16 (zF (zG y.1))) (need (eqi 16 (zF (zG y.1 * 1))) (j1 b 65535 (zF (zG b)) 0 y.1))
def qpz_ (b:List Int) (sum t8 t9:Int) (t:List Int):Option dJ :=
 loopF (fun self s=>qii_ (fun b sum t8 t9 t=>self (b,sum,t8,t9,t)) s.1 s.2.1 s.2.2.1 s.2.2.2.1 s.2.2.2.2) 18446744073709551616 (b,sum,t8,t9,t)
def q11i_ (x:As aI):Option dJ:=qwx_ qpz_ x.1
abbrev pA7:=zp q101_ q10a_ 97 quh_
theorem q1og_ {J w1 a b c d e}:pA7 J 122 [w1] (qwu_ a b c d e)=qii_ (C w1 qwu_) a b c d e:=by kernel_rfl
abbrev pA6:=zj q101_ q10a_ 97 quh_
theorem q1nz_:C (pA6 122 []) qwu_=qpz_:=gLC (by decide) (by kernel_rfl) (fun _=>by unfold qpz_; rfl) fun _ _=>q1og_.trans (by kernel_rfl)
theorem q1al_:CtOk Tryz.prog (fun _=>True) 97 ⟨quh_,q11i_⟩:=zcc (env:=q101_) (d:=6) (hs:=Ev.get q10a_) (q0_ q1k0_ (q0_ q1n7_ q1_)) (fun J x=>qwx_ (C (J 122 []) qwu_) x.1) (fun _ _=>by kernel_rfl) fun _=>by rw [q1nz_] <;> rfl
@[reducible] def q16d_:Sh:=⟨[.d aJ],[],aI,[.d aJ],[],0,aI⟩
def q137_ (b:List Int):Option bW :=
 zC (q11i_ (b,())) fun y=>need (Ev.capOk 0 (add .i64 (zF (zG b)) 2)) (need (small (zI (add .i64 (zF (zG b)) 2))) (need (small (0 + zG b)) (need (small (zG b + Nat.succ (Nat.succ 0))) (some (b++[cvt .u8 y.1,cvt .u8 (Sx.shr .u16 y.1 8)],())))))
def qmk_ (x:As aI):Option bW:=q137_ x.1
theorem q1ao_:CtOk Tryz.prog (fun _=>True) 47 ⟨q16d_,qmk_⟩:=ctn (q0_ q1al_ q1_) 6 fun J x=>by kernel_rfl
@[reducible] def qxa_:Sh:=⟨[.d (.int .u8)],[],[.int .u8],[.d (.bool)],[],0,[.bool]⟩
def qe2_ (unit:Int):Option aF :=
 if ge unit 1=true then some (le unit 247,()) else some (false,())
def qdn_ (x:As [.int .u8]):Option aF:=qe2_ x.1
theorem q13u_:CtOk Tryz.prog (fun _=>True) 160 ⟨qxa_,qdn_⟩:=ctn q1_ 6 fun J x=>by kernel_rfl
@[reducible] def eR:List Ty:=[.int .u8,.sl (.int .u8)]
@[reducible] def qer_:Sh:=⟨[.d (.int .u8),.d aJ],[],eR,[.d aJ,.d (.int .i64)],[],0,aT⟩
def qu5_:Env:=(cts [(47,(⟨q16d_,qmk_⟩:Ct)),(160,(⟨qxa_,qdn_⟩:Ct))])
def qss_:List (Nat×Hint):=[(6,⟨[],[0,1,18]⟩)]
def qxm_ (unit:Int) (pdu:List Int) (t18:Bool):St:=⟨[(0,d8 unit),(1,dL pdu),(18,dB t18)],24,[],[],0,[],0⟩
def qpi_ (unit:Int) (pdu:List Int) (t18:Bool):Option cP :=
 if t18=true then some ([],2,()) else need (small (Nat.succ 0 + zG pdu)) (zC (qmk_ (unit::pdu,())) fun y=>some (y.1,0,()))
def qn4_ (j1:Int->List Int->Bool->Option cP) (unit:Int) (pdu:List Int):Option cP :=
 zC (qdn_ (unit,())) fun y=>if (!y.1)=true then j1 unit pdu true else if lt (zF (zG pdu)) 1=true then j1 unit pdu true else j1 unit pdu (gt (zF (zG pdu)) 253)
def qz1_:=qpi_
def qmj_ (x:As eR):Option cP:=qn4_ qz1_ x.1 x.2.1
abbrev pDf:=zp qu5_ qss_ 102 qer_
theorem q1iu_ {J a b c}:pDf J 6 [] (qxm_ a b c)=qpi_ a b c:=by kernel_rfl
abbrev pDe:=zj qu5_ qss_ 102 qer_
theorem q1j1_:C (pDe 6 []) qxm_=qz1_:=gNC (by decide) fun _=>q1iu_
theorem q16b_:CtOk Tryz.prog (fun _=>True) 102 ⟨qer_,qmj_⟩:=zcc (env:=qu5_) (d:=6) (hs:=Ev.get qss_) (q0_ q1ao_ (q0_ q13u_ q1_)) (fun J x=>qn4_ (C (J 6 []) qxm_) x.1 x.2.1) (fun _ _=>by kernel_rfl) fun _=>by rw [q1j1_] <;> rfl
@[reducible] def q1om_:Sh:=⟨[.d (.int .u8),.d bC],[],[.int .u8,.pr (.int .u8) YTT7],[.d aJ,.d (.int .i64)],[],0,aT⟩
def q138_ (unit:Int) (a:zE7):Option cP :=
 zC (q6m_ (a,())) fun y=>if nei y.2.1 0=true then some ([],y.2.1,()) else zC (qmj_ (unit,y.1,())) fun y=>some (y.1,y.2.1,())
def q1ep_ (x:As [.int .u8,.pr (.int .u8) YTT7]):Option cP:=q138_ x.1 x.2.1
theorem q1o0_:CtOk Tryz.prog (fun _=>True) 344 ⟨q1om_,q1ep_⟩:=ctn (q0_ qp5_ (q0_ q16b_ q1_)) 6 fun J x=>by kernel_rfl
@[reducible] def q14u_:Sh:=⟨[.d (.un),.d (.int .u8),.d (.int .u16),.d bC],[],dC,[.d aJ],[],0,aI⟩
def qdt_ (v:Unit) (unit tx:Int) (a:zE7):Option bW :=
 zC (q1ep_ (unit,a,())) fun y=>if nei y.2.1 0=true then some ([],()) else some (y.1,())
def qj0_ (x:As dC):Option bW:=qdt_ x.1 x.2.1 x.2.2.1 x.2.2.2.1
theorem q13g_:CtOk Tryz.prog (fun _=>True) 341 ⟨q14u_,qj0_⟩:=ctn (q0_ q1o0_ q1_) 6 fun J x=>by kernel_rfl
@[reducible] def q15g_:Sh:=⟨[.d (.un),.d (.int .u16)],[],[.un,.int .u16],[.d (.int .u16)],[],0,[.int .u16]⟩
def q14l_ (v:Unit) (tx:Int):Option dJ :=
 some (tx,())
def qmf_ (x:As [.un,.int .u16]):Option dJ:=q14l_ x.1 x.2.1
theorem q14w_:CtOk Tryz.prog (fun _=>True) 342 ⟨q15g_,qmf_⟩:=ctn q1_ 6 fun J x=>by kernel_rfl
@[reducible] def cZ:List Ty:=[.pr (.int .u8) YTT0,.sl (.int .u8)]
@[reducible] def q1mr_:Sh:=⟨[.d aD],[],cD,[.d aD,.d aJ],[],0,cZ⟩
def qz3_ (p:zE0):Option (As cZ) :=
 if eqi p.2.1 2=true then zC (qwb_ ((),p.2.2.2.2.2.2.1,())) fun y=>zC (qs7_ ((),p.1,y.1,p.2.2.2.2.2.1,())) fun y_1=>some ((p.1,p.2.1,p.2.2.1,p.2.2.2.1,p.2.2.2.2.1,p.2.2.2.2.2.1,y.1,p.2.2.1,p.2.2.2.2.2.2.2.2),y_1.1,()) else zC (qmf_ ((),p.2.2.2.2.2.2.1,())) fun y=>zC (qj0_ ((),p.1,y.1,p.2.2.2.2.2.1,())) fun y_1=>some ((p.1,p.2.1,p.2.2.1,p.2.2.2.1,p.2.2.2.2.1,p.2.2.2.2.2.1,y.1,p.2.2.1,p.2.2.2.2.2.2.2.2),y_1.1,())
def qzy_ (x:As cD):Option (As cZ):=qz3_ x.1
theorem q172_:CtOk Tryz.prog (fun _=>True) 115 ⟨q1mr_,qzy_⟩:=ctn (q0_ q183_ (q0_ q19r_ (q0_ q13g_ (q0_ q14w_ q1_)))) 6 fun J x=>by kernel_rfl
@[reducible] def eE:List Ty:=[.pr (.int .u8) YTT0,.sl (.int .u8),.int .i64]
@[reducible] def q18h_:Sh:=⟨[.d aD,.d bC],[],[.pr (.int .u8) YTT0,.pr (.int .u8) YTT7],[.d aD,.d aJ,.d (.int .i64)],[],0,eE⟩
def qy2_ (p:zE0) (a:zE7):Option (As eE) :=
 if p.2.2.2.2.1=true then zC (qds_ (p,())) fun y=>some (y.1,[],30,()) else zC (q5i_ (a,())) fun y=>if (!y.1)=true then zC (qds_ (p,())) fun y=>some (y.1,[],12,()) else zC (qtp_ (a,())) fun y=>zC (qzy_ ((p.1,p.2.1,p.2.2.1,p.2.2.2.1,true,y.1,p.2.2.2.2.2.2.1,p.2.2.2.2.2.2.2.1,p.2.2.2.1),())) fun y=>some (y.1,y.2.1,0,())
def qmo_ (x:As [.pr (.int .u8) YTT0,.pr (.int .u8) YTT7]):Option (As eE):=qy2_ x.1 x.2.1
theorem q1it_:CtOk Tryz.prog (fun _=>True) 116 ⟨q18h_,qmo_⟩:=ctn (q0_ qgg_ (q0_ q10u_ (q0_ q172_ (q0_ q132_ q1_)))) 6 fun J x=>by kernel_rfl
@[reducible] def bQ:List Ty:=[.pr (.int .i64) aC]
@[reducible] def qjn_:Sh:=⟨[.d YTT8],[],bQ,[.d (.bool)],[],0,[.bool]⟩
def qxn_ (x:Int×List Int):Option aF :=
 if le (zF (zG x.2)) 14=true then if ge x.1 0=true then if lt x.1 64=true then some (le (add .i64 x.1 (zF (zG x.2))) 64,()) else some (false,()) else some (false,()) else some (false,())
def q5j_ (x:As bQ):Option aF:=qxn_ x.1
theorem qcj_:CtOk Tryz.prog (fun _=>True) 26 ⟨qjn_,q5j_⟩:=ctn q1_ 6 fun J x=>by kernel_rfl
@[reducible] def q5s_:Sh:=⟨[.d YTT8],[],bQ,[.d aC],[],0,aK⟩
def qhp_:Env:=(cts [(26,(⟨qjn_,q5j_⟩:Ct))])
def qhk_:List (Nat×Hint):=[(7,⟨[],[3]⟩),(60,⟨[],[3]⟩)]
def qq8_ (l:List Int):St:=⟨[(3,.row 0)],28,[],[(0,.row (.int .u16) 25 l)],1,[],0⟩
def qfk_ (l:List Int):St:=⟨[(3,.row 0)],28,[],[(0,.row (.int .u16) 25 l)],1,[],0⟩
@[reducible] def zE14:Type:=List Int->Option bL
def q103_ (j2:zE14) (l:List Int):Option bL :=
 j2 l
def qfm_ (self2:zE14) (l:List Int):Option bL :=
 if lt (zF (zG l)) 16=true then need (small (zG l + 1)) (self2 (l++[0])) else some (l,())
def qfc_ (j1:zE14) (x:Int×List Int):Option bL :=
 zC (q5j_ (x,())) fun y=>if y.1=true then need (small (0 + Nat.succ (Nat.succ 0))) (need (small (Nat.succ (Nat.succ 0) + zG x.2)) (j1 (cvt .u16 x.1::cvt .u16 (zF (zG x.2))::x.2))) else j1 (zE 0 0)
def qaa_ (l:List Int):Option bL :=
 loopF (fun self s=>qfm_ (fun l=>self (l)) s) 18446744073709551616 (l)
def qfx_:=q103_ (qaa_)
def q6l_ (x:As bQ):Option bL:=qfc_ qfx_ x.1
abbrev pEh:=zp qhp_ qhk_ 267 q5s_
theorem q1bg_ {J w2 a}:pEh J 60 [w2] (qfk_ a)=qfm_ (C w2 qfk_) a:=by kernel_rfl
theorem q1az_ {J a}:pEh J 7 [] (qq8_ a)=q103_ (C (J 60 []) qfk_) a:=by kernel_rfl
abbrev pEg:=zj qhp_ qhk_ 267 q5s_
theorem q1af_:C (pEg 60 []) qfk_=qaa_:=gLC (by decide) (by kernel_rfl) (fun _=>by unfold qaa_; rfl) fun _ _=>q1bg_.trans (by kernel_rfl)
theorem q1bq_:C (pEg 7 []) qq8_=qfx_:=gNC (by decide) fun _=>q1az_.trans (by rw [q1af_] <;> kernel_rfl)
theorem qqc_:CtOk Tryz.prog (fun _=>True) 267 ⟨q5s_,q6l_⟩:=zcc (env:=qhp_) (d:=6) (hs:=Ev.get qhk_) (q0_ qcj_ q1_) (fun J x=>qfc_ (C (J 7 []) qq8_) x.1) (fun _ _=>by kernel_rfl) fun _=>by rw [q1bq_] <;> rfl
@[reducible] def q189_:Sh:=⟨[.d (.int .u32)],[],[.int .u32],[.d (.int .u32)],[],0,[.int .u32]⟩
@[reducible] def aQ:Type:=As [.int .u32]
def qyp_ (sum:Int):Option aQ :=
 if eqi (Sx.band .u32 sum 1) 1=true then some (Sx.bxor .u32 (Sx.shr .u32 sum 1) 3988292384,()) else some (Sx.shr .u32 sum 1,())
def quw_ (x:As [.int .u32]):Option aQ:=qyp_ x.1
theorem q1hu_:CtOk Tryz.prog (fun _=>True) 301 ⟨q189_,quw_⟩:=ctn q1_ 6 fun J x=>by kernel_rfl
@[reducible] def qms_:Sh:=⟨[.d (.int .u32),.d (.int .u8)],[],[.int .u32,.int .u8],[.d (.int .u32)],[],0,[.int .u32]⟩
def qzs_:Env:=(cts [(301,(⟨q189_,quw_⟩:Ct))])
def q108_:List (Nat×Hint):=[(58,⟨[],[0,9]⟩)]
def qx0_ (sum t9:Int):St:=⟨[(0,d2 sum),(9,dI t9)],15,[],[],0,[],0⟩
def qnn_ (self1:Int->Int->Option aQ) (sum t9:Int):Option aQ :=
 if lt t9 8=true then zC (quw_ (sum,())) fun y=>self1 y.1 (add .i64 t9 1) else some (sum,())
def q1ap_ (j1:Int->Int->Option aQ) (sum b:Int):Option aQ :=
 j1 (Sx.bxor .u32 sum (cvt .u32 b)) 0
def qq9_ (sum t9:Int):Option aQ :=
 loopF (fun self s=>qnn_ (fun sum t9=>self (sum,t9)) s.1 s.2) 18446744073709551616 (sum,t9)
def q121_ (x:As [.int .u32,.int .u8]):Option aQ:=q1ap_ qq9_ x.1 x.2.1
abbrev pEj:=zp qzs_ q108_ 298 qms_
theorem q1o1_ {J w1 a b}:pEj J 58 [w1] (qx0_ a b)=qnn_ (C w1 qx0_) a b:=by kernel_rfl
abbrev pEi:=zj qzs_ q108_ 298 qms_
theorem q1o2_:C (pEi 58 []) qx0_=qq9_:=gLC (by decide) (by kernel_rfl) (fun _=>by unfold qq9_; rfl) fun _ _=>q1o1_.trans (by kernel_rfl)
theorem q1ny_:CtOk Tryz.prog (fun _=>True) 298 ⟨qms_,q121_⟩:=zcc (env:=qzs_) (d:=6) (hs:=Ev.get q108_) (q0_ q1hu_ q1_) (fun J x=>q1ap_ (C (J 58 []) qx0_) x.1 x.2.1) (fun _ _=>by kernel_rfl) fun _=>by rw [q1o2_] <;> rfl
end Go.Proofs.Lx
end
