/- Proved in the last of these 15 parts (this is part 5): TalkOwned. Conditions: those of the given statement, and no others. -/
import Derived.Test.YtljkanofaahagaaGreatPartd
import Derived.Test.YtljkanofaahagaaGreatParta
import Derived.Test.YtljkanofaahagaaGreatProg
set_option linter.unusedVariables false
set_option linter.unusedSimpArgs false
set_option linter.unusedSectionVars false
open Option renaming bind → zC, bind_some → zD, none → zH
open List renaming replicate → zE, length → zG, getD → zJ, getElem?_eq_getElem → zV
open Int renaming ofNat → zF, toNat → zI
open Go.Value renaming slice → zK
noncomputable section
namespace Rw
open Go Ev Sx Go.RowKit
def dgo (g:TypeId->Option Ty) (P:Program):Nat->List Field->Option (List Ty)
 | _,[]=>some []
 | off,f::r=>(g f.type).bind fun a=>if f.offset=off∧P.cellsOf f.type=a.size then (dgo g P (off + a.size) r).map fun q=>a::q else none
def sumS:List Ty->Nat
 | []=>0
 | a::r=>a.size + sumS r
def dty (P:Program):Nat->TypeId->Option Ty
 | 0,_=>none
 | n + 1,t=>match P.underlying t with
  | some (.int k)=>some (.int k)
  | some .bool=>some .bool
  | some .string=>some .str
  | some (.slice e)=>(dty P n e).bind fun y=>if P.cellsOf e=y.size∧y.size ≠ 0 then some (.sl y) else none
  | some (.struct fs)=>(dgo (dty P n) P 0 fs.toList).bind fun l=>if P.cellsOf t=sumS l then some (strTy l) else none
  | _=>none
def okV:(t:Ty)->Vl t->Prop
 | .int k,x=>(Lit.int k x).wf=true
 | .bool,_=>True
 | .str,x=>x.length≤maxLen
 | .sl t,xs=>xs.length≤maxLen∧∀ x ∈ xs,okV t x
 | .pr a b,x=>okV a x.1∧okV b x.2
 | .wr a,x=>okV a x
 | .un,_=>True
 | .ar n t,xs=>xs.length=n∧∀ x ∈ xs,okV t x
 | .mp _ _,_=>True
section
variable {H:Type} {enc:TypeId×Value->H} {P:Program} {w:World} {base:Nat} {sp:Nat->Bool} {held:Bool}
theorem rp_len {t:Ty} {L:Lx} {cs:List Value} {x:Vl t} (h:(rp t).rel L w cs x):cs.length=t.size:=by rw [(rp t).len h,qk_]
def FieldOk (w:World) (cs:List Value) (off:Nat) (a:Ty):Prop:=∃ v:Vl a,(rp a).rel [] w ((cs.drop off).take a.size) v∧okV a v
def FieldsOk (w:World) (cs:List Value):Nat->List Ty->Prop
 | _,[]=>True
 | off,a::r=>FieldOk w cs off a∧FieldsOk w cs (off + a.size) r
theorem prs_ok {cs:List Value}:∀ (r:List Ty) (a:Ty) (off:Nat),FieldsOk w cs off (a::r)->off + a.size + sumS r=cs.length->∃ v:Vl (strTy.prs a r),(rp (strTy.prs a r)).rel [] w (cs.drop off) v∧okV (strTy.prs a r) v
 | [],a,off,⟨⟨v,h1,h2⟩,_⟩,hl=>by
  have:(cs.drop off).take a.size=cs.drop off:=List.take_of_length_le (by simp [sumS] at hl ⊢; omega)
  rw [this] at h1
  exact ⟨v,h1,h2⟩
 | b::r,a,off,⟨⟨v,h1,h2⟩,h3⟩,hl=>by
  obtain ⟨u,h4,h5⟩:=prs_ok r b (off + a.size) h3 (by simp [sumS] at hl ⊢; omega)
  refine ⟨(v,u),⟨(cs.drop off).take a.size,cs.drop (off + a.size),?_,h1,h4⟩,h2,h5⟩
  rw [<- List.drop_drop]
  exact (List.take_append_drop _ _).symm
theorem str_ok {cs:List Value}:∀ (l:List Ty),FieldsOk w cs 0 l->sumS l=cs.length->∃ v:Vl (strTy l),(rp (strTy l)).rel [] w cs v∧okV (strTy l) v
 | [],_,hl=>⟨(),(by show cs=[]; exact List.eq_nil_of_length_eq_zero hl.symm),trivial⟩
 | [a],⟨⟨v,h1,h2⟩,_⟩,hl=>by
  have:(cs.drop 0).take a.size=cs:=by rw [List.drop_zero]; exact List.take_of_length_le (by simp [sumS] at hl; omega)
  rw [this] at h1
  exact ⟨v,h1,h2⟩
 | a::b::r,h,hl=>prs_ok (b::r) a 0 h (by simp [sumS] at hl ⊢; omega)
theorem dgo_ok {g:TypeId->Option Ty} {cs:List Value} (ih:∀ t y n c x,g t=some y->DataW.trod enc P w base sp held n t c=some x->∃ v:Vl y,(rp y).rel [] w c v∧okV y v) (n:Nat) :
  ∀ (fs:List Field) (off:Nat) (l:List Ty),dgo g P off fs=some l->(∀ f ∈ fs,∃ x,DataW.trod enc P w base sp held n f.type ((cs.drop f.offset).take (P.cellsOf f.type))=some x)->FieldsOk w cs off l
 | [],off,l,h,_=>by cases h; trivial
 | f::r,off,l,h,hx=>by
  obtain ⟨a,h1,h⟩:=Option.bind_eq_some_iff.1 h
  split at h
  ·rename_i hc
   obtain ⟨q,h2,rfl⟩:=Option.map_eq_some_iff.1 h
   obtain ⟨x,h3⟩:=hx f (List.mem_cons_self ..)
   obtain ⟨v,h4,h5⟩:=ih _ _ _ _ _ h1 h3
   rw [hc.1,hc.2] at h4
   exact ⟨⟨v,h4,h5⟩,dgo_ok ih n r _ _ h2 fun f hf=>hx f (List.mem_cons_of_mem _ hf)⟩
  ·cases h
theorem cells_at {a:Addr} {n:Nat} {cs:List Value} (h:w.cells? base a n=some cs):cs.length=n∧∀ j v,cs[j]? = some v->w.cell? (a.add j)=some v:=by
 unfold World.cells? at h
 split at h
 ·have hl:cs.length=n:=by simpa using mapM_some_length h
  refine ⟨hl,fun j v hj=>?_⟩
  have hjl:j < n:=by rw [<- hl]; exact (List.getElem?_eq_some_iff.1 hj).1
  have:=mapM_some_get h j j (by simp [hjl])
  rw [this,hj]
 ·cases h
theorem cell_plain {a:Addr} {v:Value} (h:w.cell? a=some v):a.spot=none∧a.block < w.heap.size:=by
 unfold World.cell? at h
 split at h
 ·rename_i hb
  split at h
  ·cases h
  ·rename_i hs
   exact ⟨by simpa using hs,(Array.getElem?_eq_some_iff.1 hb).1⟩
 ·cases h
theorem add_plain (b o n:Nat):(⟨b,o,none⟩:Addr).add n=⟨b,o + n,none⟩:=by
 unfold Addr.add
 split
 ·rename_i h; subst h; rfl
 ·rfl
theorem add_zero (a:Addr):a.add 0=a:=by unfold Addr.add; rw [if_pos rfl]
theorem trod_ok:∀ (m:Nat) (t:TypeId) (y:Ty) (n:Nat) (cs:List Value) (x:DataW H×List MemPlace),dty P m t=some y->DataW.trod enc P w base sp held n t cs=some x->∃ v:Vl y,(rp y).rel [] w cs v∧okV y v
 | 0,_,_,_,_,_,h,_=>by cases h
 | m + 1,t,y,n,cs,x,h,hx=>by
  unfold dty at h
  split at h
  ·rename_i k ht
   cases h
   obtain ⟨z,rfl,_,hw⟩:=DataW.trod_int ht hx
   exact ⟨z,rfl,hw⟩
  ·rename_i ht
   cases h
   obtain ⟨b,rfl,_⟩:=DataW.trod_bool ht hx
   exact ⟨b,rfl,trivial⟩
  ·rename_i ht
   cases h
   obtain ⟨⟨⟨s⟩⟩,rfl,_,hs⟩:=DataW.trod_string ht hx
   exact ⟨s,rfl,hs⟩
  ·rename_i e ht
   obtain ⟨y',h1,h⟩:=Option.bind_eq_some_iff.1 h
   split at h
   ·rename_i hc
    cases h
    rcases DataW.trod_slice ht hx with ⟨rfl,_⟩ | ⟨a,len,cap,elems,rest,n',_,rfl,_,_,hlc,hcm,hel,hat,_⟩
    ·exact ⟨[],slice_nil _ _ _ _ _,by simp,fun x hx=>by cases hx⟩
    ·have each:∀ i:Fin len,∃ v:Vl y',(∃ c,(rp y').rel [] w c v∧c.length=y'.size∧∀ j u,c[j]? = some u->w.cell? ((a.add (i.1 * P.cellsOf e)).add j)=some u)∧okV y' v:=fun i=>by
      have hi:=hat i.1 i.2
      have:∃ z,elems[i.1]? = some z:=⟨_,zV (by rw [hel]; exact i.2)⟩
      obtain ⟨z,hz⟩:=this
      rw [hz] at hi
      obtain ⟨c,hc1,hc2⟩:=Option.bind_eq_some_iff.1 hi
      obtain ⟨v,hv1,hv2⟩:=trod_ok m e y' n' c z h1 hc2
      exact ⟨v,⟨c,hv1,rp_len hv1,(cells_at hc1).2⟩,hv2⟩
     refine ⟨List.ofFn fun i=>Classical.choose (each i),⟨some a,cap,by simp,by simp; omega,fun hne=>?_⟩,by simp; omega,fun v hv=>?_⟩
     ·have hlen:0 < len:=by
       rcases Nat.eq_zero_or_pos len with h0 | h0
       ·subst h0; simp at hne
       ·exact h0
      obtain ⟨⟨c,_,hcl,hcc⟩,_⟩:=Classical.choose_spec (each ⟨0,hlen⟩)
      have hpos:0 < c.length:=by have:=hc.2; omega
      have h0:=cell_plain (hcc 0 c[0] (zV hpos))
      rw [show (⟨0,hlen⟩:Fin len).1 * P.cellsOf e=0 from Nat.zero_mul _,add_zero,add_zero] at h0
      obtain ⟨b,o,s⟩:=a
      obtain ⟨hs,hb⟩:=h0
      have hs:s=none:=hs
      subst hs
      refine ⟨b,o,rfl,fun i x hi=>?_⟩
      have hil:i < len:=by have:=(List.getElem?_eq_some_iff.1 hi).1; simpa using this
      have hxe:x=Classical.choose (each ⟨i,hil⟩):=by
       rw [List.getElem?_ofFn,dif_pos hil] at hi
       exact (Option.some.inj hi).symm
      obtain ⟨⟨c,hc1,_,hc3⟩,_⟩:=Classical.choose_spec (each ⟨i,hil⟩)
      subst hxe
      refine ⟨hb,by simp,c,hc1,fun j v hj=>?_⟩
      have:=hc3 j v hj
      rw [qk_,<- hc.1]
      rw [add_plain,add_plain] at this
      exact this
     ·obtain ⟨i,rfl⟩:=List.mem_ofFn.1 hv
      exact (Classical.choose_spec (each i)).2
   ·cases h
  ·rename_i fs ht
   obtain ⟨l,h1,h⟩:=Option.bind_eq_some_iff.1 h
   split at h
   ·rename_i hc
    cases h
    obtain ⟨xs,n',_,_,hl,hxl,hf⟩:=DataW.trod_struct ht hx
    refine str_ok l ?_ (by rw [hl,hc])
    refine dgo_ok (fun t y n c x h1 h2=>trod_ok m t y n c x h1 h2) n' fs.toList 0 l h1 fun f hfm=>?_
    obtain ⟨i,hi,rfl⟩:=List.getElem_of_mem hfm
    have hi':i < fs.size:=by simpa using hi
    have:=hf i fs[i] (Array.getElem?_eq_getElem hi')
    rw [zV (by omega)] at this
    exact ⟨_,this⟩
   ·cases h
  ·cases h
theorem val_of {t:TypeId} {y:Ty} {m:Nat} {v:Value} {d:DataW H} {ps:List MemPlace} {r:Reach} {b':Nat} {w':World} (hd:dty P (m + 1) t=some y) (ho:Value.okWide P w' r b' t v) (h:DataW.Trod enc P w base sp held t v d ps):∃ x:Vl y,Den [] [] w (.d y x) v∧okV y x:=by
 obtain ⟨n,hn⟩:=h
 obtain ⟨x,h1,h2⟩:=trod_ok (m + 1) t y n _ _ hd hn
 refine ⟨x,⟨v.cells.toList,h1,?_⟩,h2⟩
 have one:∀ u:Value,v=u->u.cells = #[u]->y.agg=false->v=(rp y).val v.cells.toList:=fun u e hc ha=>by
  subst e
  simp [Rp.val,rp_agg,ha,hc]
 unfold dty at hd
 split at hd
 ·rename_i k ht
  cases hd
  obtain ⟨z,rfl⟩:=Go.WideShapes.okWide_int ht ho
  exact one _ rfl rfl rfl
 ·rename_i ht
  cases hd
  obtain ⟨b,hb,_⟩:=DataW.trod_bool ht hn
  have:∃ b,v = .bool b:=by
   simp only [Value.okWide,ht,Cell.okWide] at ho
   cases v <;> simp_all [Cell.ok]
  obtain ⟨b,rfl⟩:=this
  exact one _ rfl rfl rfl
 ·rename_i ht
  cases hd
  obtain ⟨s,rfl⟩:=Go.WideShapes.okWide_string ht ho
  exact one _ rfl rfl rfl
 ·rename_i e ht
  obtain ⟨y',h3,hd⟩:=Option.bind_eq_some_iff.1 hd
  split at hd
  ·cases hd
   obtain ⟨a,len,cap,rfl⟩:=Go.WideShapes.okWide_slice ht ho
   exact one _ rfl rfl rfl
  ·cases hd
 ·rename_i fs ht
  obtain ⟨l,h3,hd⟩:=Option.bind_eq_some_iff.1 hd
  split at hd
  ·cases hd
   simp only [Value.okWide,ht] at ho
   obtain ⟨cs,rfl,_,_⟩:=ho
   have ha:(strTy l).agg=true:=by
    match l with
    | []=>rfl
    | [a]=>rfl
    | a::b::q=>rfl
   simp [Rp.val,rp_agg,ha,Value.cells]
  ·cases hd
 ·cases hd
end
end Rw
end
noncomputable section
namespace Rw
open Go Ev Sx Go.RowKit
theorem below_of {W W':World} (h:Blw (Bo [] [] W) W W'):Below W.heap.size W W' :=
 ⟨h.os,h.tape,h.output,h.size,fun k hk=>h.block k hk (by
  rintro (h | h)
  ·cases h
  ·omega)⟩
theorem lok0 (W:World):LOk (Bo [] [] W) (lx [] []) [] W:=⟨.nil,fun k h=>(by cases h),fun k h=>(by cases h),fun k h=>.inr h,fun k h=>(by cases h)⟩
theorem law_calls {P:Program} {f:FuncId} {ts:List TS} {ps:List Ty} {m:As ps->Option (Bool×Unit)} (h:CtOk P (fun _=>True) f ⟨⟨ts,[],ps,[.d .bool],[],0,[.bool]⟩,m⟩) {x:As ps} (hm:m x=some (true,())) {ss:List SV} (hA:fA ts [] (dvAs ps x)=some (ss,[])) {vs:List Value} {W:World} (hd:DenL [] [] W ss vs) :
  Calls P f vs.toArray W (fun e W'=>∃ v,e = .returned v∧v = .bool true∧Below W.heap.size W W'):=by
 refine (h [] W [] x (true,()) ss [] vs hm hA rfl (fun _ _=>trivial) (lok0 W) (fun e he=>by cases he) hd).mono fun e w' he=>?_
 obtain ⟨us,rfl,pl',rr,own',h1,_,_,h4,_,_,h7⟩:=he
 have h1:some ([SV.d .bool true],([]:List (Nat×Ent)))=some (rr,own'):=h1
 cases h1
 obtain ⟨v,q,rfl,h8,h9⟩:=h7
 cases h9
 exact ⟨_,rfl,den_bool h8,below_of h4⟩
def okA:(ps:List Ty)->As ps->Prop
 | [],_=>True
 | a::r,x=>okV a x.1∧okA r x.2
def dS:(ps:List Ty)->As ps->List SV
 | [],_=>[]
 | a::r,x=>.d a x.1::dS r x.2
theorem fL_d:∀ (ps:List Ty) (x:As ps),fL (ps.map TS.d) (dvAs ps x)=some (dS ps x,[])
 | [],_=>rfl
 | a::r,x=>by
  show (fS (.d a) (⟨a,x.1⟩::dvAs r x.2)).bind _=_
  unfold fS
  simp only [q2a_,Option.map_some,zD]
  rw [fL_d r x.2]
  rfl
theorem fA_d (ps:List Ty) (x:As ps):fA (ps.map TS.d) [] (dvAs ps x)=some (dS ps x,[]):=by
 unfold fA
 rw [fL_d,zD]
 rfl
def dtys (P:Program):List TypeId->Option (List Ty)
 | []=>some []
 | t::r=>(dty P 13 t).bind fun y=>(dtys P r).map fun q=>y::q
theorem law_den {P:Program} {H:Type} {enc:TypeId×Value->H} {W:World} {b0:Nat} {sp:Nat->Bool} {held:Bool}:∀ {ts:List TypeId} {ps:List Ty} {vs:List Value} {ds:List (DataW H)} {p:List MemPlace},dtys P ts=some ps ->
  (∀ (j:Nat) t v,ts[j]? = some t->vs[j]? = some v->∃ r b w',Value.okWide P w' r b t v)->DataW.TrodAll enc P W b0 sp held ts vs ds p->∃ x:As ps,okA ps x∧DenL [] [] W (dS ps x) vs
 | [],ps,vs,ds,p,h,_,hA=>by
  cases h
  cases vs with
  | nil=>exact ⟨(),trivial,rfl⟩
  | cons v vs=>cases ds <;> exact absurd hA (by simp [DataW.TrodAll])
 | t::ts,ps,vs,ds,p,h,ho,hA=>by
  obtain ⟨y,h1,h⟩:=Option.bind_eq_some_iff.1 h
  obtain ⟨q,h2,rfl⟩:=Option.map_eq_some_iff.1 h
  match vs,ds,hA with
  | v::vs,d::ds,hA =>
   obtain ⟨p1,p2,h3,h4,_⟩:=hA
   obtain ⟨r,b,w',h5⟩:=ho 0 t v rfl rfl
   obtain ⟨x,hx1,hx2⟩:=val_of h1 h5 h3
   obtain ⟨xs,hy1,hy2⟩:=law_den h2 (fun j t v ht hv=>ho (j + 1) t v ht hv) h4
   exact ⟨(x,xs),⟨hx2,hy1⟩,v,vs,rfl,hx1,hy2⟩
  | [],_,hA=>exact absurd hA (by simp [DataW.TrodAll])
  | _::_,[],hA=>exact absurd hA (by simp [DataW.TrodAll])
theorem law_row {P:Program} {f:FuncId} {ps:List Ty} {m:As ps->Option (Bool×Unit)} (h:CtOk P (fun _=>True) f ⟨⟨ps.map TS.d,[],ps,[.d .bool],[],0,[.bool]⟩,m⟩) (law:∀ x,okA ps x->m x=some (true,()))
  {ts:Array TypeId} (ht:dtys P ts.toList=some ps) {H:Type} {enc:TypeId×Value->H} {W:World} {b0:Nat} {sp:Nat->Bool} {held:Bool} {args:Array Value} {ds:List (DataW H)} {p:List MemPlace}
  (hval:∀ (j:Nat) t v,ts[j]? = some t->args[j]? = some v->∃ r b w',Value.okWide P w' r b t v) (hA:DataW.TrodAll enc P W b0 sp held ts.toList args.toList ds p) :
  Calls P f args W (fun e W'=>∃ v,e = .returned v∧v = .bool true∧Below W.heap.size W W'):=by
 obtain ⟨x,h1,h2⟩:=law_den ht (fun j t v h3 h4=>hval j t v (by simpa using h3) (by simpa using h4)) hA
 have:=law_calls h (law x h1) (fA_d ps x) h2
 simpa using this
end Rw
end
noncomputable section
namespace Go.Proofs.Lx
open Go Ev Sx
abbrev TBlk:=Int×List Int
abbrev TStg:=Int×List Bool×List TBlk
abbrev TLs:=Int×Int
abbrev TAg:=List Int×TLs×Int×Int×Int×TStg×Int
abbrev TSl:=Int×Int×TAg×List Bool
abbrev zSt:TStg:=(0,[false,false,false,false,false,false,false,false],[(0,[]),(0,[]),(0,[]),(0,[]),(0,[]),(0,[]),(0,[]),(0,[])])
abbrev zAg0:TAg:=([],(0,0),0,0,0,zSt,0)
abbrev zSl:TSl:=(0,0,zAg0,[])
abbrev mkAg (a:TAg):TAg:=(a.1,a.2.1,a.2.2.1,a.2.2.2.1,a.2.2.2.2.1,(a.2.2.2.2.2.1.1,[a.2.2.2.2.2.1.2.1.getD 0 false,a.2.2.2.2.2.1.2.1.getD 1 false,a.2.2.2.2.2.1.2.1.getD 2 false,a.2.2.2.2.2.1.2.1.getD 3 false,a.2.2.2.2.2.1.2.1.getD 4 false,a.2.2.2.2.2.1.2.1.getD 5 false,a.2.2.2.2.2.1.2.1.getD 6 false,a.2.2.2.2.2.1.2.1.getD 7 false],[a.2.2.2.2.2.1.2.2.getD 0 (0,[]),a.2.2.2.2.2.1.2.2.getD 1 (0,[]),a.2.2.2.2.2.1.2.2.getD 2 (0,[]),a.2.2.2.2.2.1.2.2.getD 3 (0,[]),a.2.2.2.2.2.1.2.2.getD 4 (0,[]),a.2.2.2.2.2.1.2.2.getD 5 (0,[]),a.2.2.2.2.2.1.2.2.getD 6 (0,[]),a.2.2.2.2.2.1.2.2.getD 7 (0,[])]),a.2.2.2.2.2.2)
end Go.Proofs.Lx
end
noncomputable section
namespace Go.Proofs.Lx
open Go Ev Sx
abbrev TAsk:=Int×Int×Int×Int×List Int×List Bool
abbrev TPo:=Int×Int×Int×Int×Bool×TAsk×Int×Int×Int
abbrev TTk:=TPo×Int×Int×List TBlk×Int×Int×Int×Int×Int
@[reducible] def talkC (t:TTk) (r:List SV):List SV :=
 .d (.int .u8) t.1.1::.d (.int .u8) t.1.2.1::.d (.int .i64) t.1.2.2.1::.d (.int .i64) t.1.2.2.2.1::.d .bool t.1.2.2.2.2.1::.d (.int .u8) t.1.2.2.2.2.2.1.1::.d (.int .u16) t.1.2.2.2.2.2.1.2.1::.d (.int .u16) t.1.2.2.2.2.2.1.2.2.1::.d (.int .u16) t.1.2.2.2.2.2.1.2.2.2.1::.d (.sl (.int .u16)) t.1.2.2.2.2.2.1.2.2.2.2.1::.d (.sl .bool) t.1.2.2.2.2.2.1.2.2.2.2.2::.d (.int .u16) t.1.2.2.2.2.2.2.1::.d (.int .i64) t.1.2.2.2.2.2.2.2.1::.d (.int .i64) t.1.2.2.2.2.2.2.2.2 ::
 .d (.int .u16) t.2.1::.d (.int .u32) t.2.2.1::.d (.sl (.pr (.int .i64) (.sl (.int .u16)))) t.2.2.2.1::.d (.int .u8) t.2.2.2.2.1::.d (.int .u8) t.2.2.2.2.2.1::.d (.int .i64) t.2.2.2.2.2.2.1::.d (.int .i64) t.2.2.2.2.2.2.2.1::.d (.int .u8) t.2.2.2.2.2.2.2.2::r
@[reducible] def slC (s:TSl) (r:List SV):List SV :=
 .d (.int .u8) s.1::.d (.int .u8) s.2.1::.d (.sl (.int .u16)) s.2.2.1.1::.d (.int .u16) s.2.2.1.2.1.1::.d (.int .i64) s.2.2.1.2.1.2::.d (.int .u8) s.2.2.1.2.2.1::.d (.int .u32) s.2.2.1.2.2.2.1::.d (.int .u32) s.2.2.1.2.2.2.2.1::.d (.int .u32) s.2.2.1.2.2.2.2.2.1.1 ::
 .d .bool (zJ s.2.2.1.2.2.2.2.2.1.2.1 0 false)::.d .bool (zJ s.2.2.1.2.2.2.2.2.1.2.1 1 false)::.d .bool (zJ s.2.2.1.2.2.2.2.2.1.2.1 2 false)::.d .bool (zJ s.2.2.1.2.2.2.2.2.1.2.1 3 false)::.d .bool (zJ s.2.2.1.2.2.2.2.2.1.2.1 4 false)::.d .bool (zJ s.2.2.1.2.2.2.2.2.1.2.1 5 false)::.d .bool (zJ s.2.2.1.2.2.2.2.2.1.2.1 6 false)::.d .bool (zJ s.2.2.1.2.2.2.2.2.1.2.1 7 false) ::
 .d (.int .i64) (zJ s.2.2.1.2.2.2.2.2.1.2.2 0 (0,[])).1::.d (.sl (.int .u16)) (zJ s.2.2.1.2.2.2.2.2.1.2.2 0 (0,[])).2::.d (.int .i64) (zJ s.2.2.1.2.2.2.2.2.1.2.2 1 (0,[])).1::.d (.sl (.int .u16)) (zJ s.2.2.1.2.2.2.2.2.1.2.2 1 (0,[])).2 ::
 .d (.int .i64) (zJ s.2.2.1.2.2.2.2.2.1.2.2 2 (0,[])).1::.d (.sl (.int .u16)) (zJ s.2.2.1.2.2.2.2.2.1.2.2 2 (0,[])).2::.d (.int .i64) (zJ s.2.2.1.2.2.2.2.2.1.2.2 3 (0,[])).1::.d (.sl (.int .u16)) (zJ s.2.2.1.2.2.2.2.2.1.2.2 3 (0,[])).2 ::
 .d (.int .i64) (zJ s.2.2.1.2.2.2.2.2.1.2.2 4 (0,[])).1::.d (.sl (.int .u16)) (zJ s.2.2.1.2.2.2.2.2.1.2.2 4 (0,[])).2::.d (.int .i64) (zJ s.2.2.1.2.2.2.2.2.1.2.2 5 (0,[])).1::.d (.sl (.int .u16)) (zJ s.2.2.1.2.2.2.2.2.1.2.2 5 (0,[])).2 ::
 .d (.int .i64) (zJ s.2.2.1.2.2.2.2.2.1.2.2 6 (0,[])).1::.d (.sl (.int .u16)) (zJ s.2.2.1.2.2.2.2.2.1.2.2 6 (0,[])).2::.d (.int .i64) (zJ s.2.2.1.2.2.2.2.2.1.2.2 7 (0,[])).1::.d (.sl (.int .u16)) (zJ s.2.2.1.2.2.2.2.2.1.2.2 7 (0,[])).2::.d (.int .i64) s.2.2.1.2.2.2.2.2.2::.d (.sl .bool) s.2.2.2::r
@[reducible] def mkSl (s:TSl):TSl:=(s.1,s.2.1,mkAg s.2.2.1,s.2.2.2)
@[reducible] def tyBk:Ty:=.pr (.int .i64) (.sl (.int .u16))
@[reducible] def tyTk:Ty:=.pr (.pr (.int .u8) (.pr (.int .u8) (.pr (.int .i64) (.pr (.int .i64) (.pr .bool (.pr (.pr (.int .u8) (.pr (.int .u16) (.pr (.int .u16) (.pr (.int .u16) (.pr (.sl (.int .u16)) (.sl .bool)))))) (.pr (.int .u16) (.pr (.int .i64) (.int .i64))))))))) (.pr (.int .u16) (.pr (.int .u32) (.pr (.sl tyBk) (.pr (.int .u8) (.pr (.int .u8) (.pr (.int .i64) (.pr (.int .i64) (.int .u8))))))))
@[reducible] def tySl:Ty:=.pr (.int .u8) (.pr (.int .u8) (.pr (.pr (.sl (.int .u16)) (.pr (.pr (.int .u16) (.int .i64)) (.pr (.int .u8) (.pr (.int .u32) (.pr (.int .u32) (.pr (.pr (.int .u32) (.pr (.ar 8 .bool) (.ar 8 tyBk))) (.int .i64))))))) (.sl .bool)))
@[reducible] def prG (k:Nat):TE:=.bsg 48 [.d tyTk,.d tySl,.s (.row k),.d (.int .u32),.d (.int .u32),.d (.sl (.sl tyBk))]
end Go.Proofs.Lx
end
noncomputable section
open Go Go.Proofs Ev Sx
set_option maxRecDepth 100000
namespace Go.Proofs.Lx
abbrev YTT7:Ty:=(.pr (.int .u16) (.pr (.int .u16) (.pr (.int .u16) (.pr (.sl (.int .u16)) (.sl .bool)))))
abbrev YTT0:Ty:=(.pr (.int .u8) (.pr (.int .i64) (.pr (.int .i64) (.pr .bool (.pr (.pr (.int .u8) YTT7) (.pr (.int .u16) (.pr (.int .i64) (.int .i64))))))))
abbrev YTT8:Ty:=(.pr (.int .i64) (.sl (.int .u16)))
abbrev YTT1:Ty:=(.pr (.pr (.int .u16) (.int .i64)) (.pr (.int .u8) (.pr (.int .u32) (.pr (.int .u32) (.pr (.pr (.int .u32) (.pr (.ar 8 .bool) (.ar 8 YTT8))) (.int .i64))))))
abbrev YTT2:Ty:=(.pr (.int .u16) (.pr (.int .u32) (.pr (.sl YTT8) (.pr (.int .u8) (.pr (.int .u8) (.pr (.int .i64) (.pr (.int .i64) (.int .u8))))))))
abbrev YTT18:Type:=(Int×Int×Int×Int×List Int×List Bool)
abbrev YTT3:Type:=(Int×Int×Int×Int×Bool×YTT18×Int×Int×Int)
abbrev YTT12:Type:=(Int×List Bool×List (Int×List Int))
abbrev YTT4:Type:=(List Int×(Int×Int)×Int×Int×Int×YTT12×Int)
abbrev YTT5:Ty:=(.pr (.int .u8) (.pr (.sl .bool) (.pr (.sl (.int .u16)) (.pr (.int .u16) (.int .u16)))))
abbrev YTT16:Ty:=(.pr (.int .i64) (.pr .bool (.pr .bool .bool)))
abbrev YTT6:Ty:=(.sl (.pr (.int .i64) YTT16))
abbrev YTT9:Type:=(Int×Int×Bool×Bool×Bool)
abbrev YTT10:Type:=(Int×Int×Int×Int×Bool×(Int×Int×Int×Int×Unit×Unit)×Int×Int×Int)
abbrev YTT11:Ty:=(.pr (.int .u8) (.pr (.int .u32) (.pr (.int .u16) (.int .u32))))
abbrev YTT13:Type:=(Int×Int×List Bool×List Int×Int×Int)
abbrev YTT14:Ty:=(.pr .bool (.sl (.int .u8)))
abbrev YTT15:Ty:=(.pr (.sl .bool) (.pr (.sl (.int .u16)) (.sl (.int .u16))))
abbrev YTT17:Type:=(Int×Int×(Unit×(Int×Int)×Int×Int×Int×(Int×List Bool×List (Int×Unit))×Int)×Unit)
abbrev YTT19:Type:=(List Bool×List Bool×List Int×List Int)
abbrev YTT20:Ty:=(.pr (.int .u8) (.sl (.int .u8)))
abbrev YTT21:Ty:=(.pr (.int .u16) (.pr (.int .u32) (.int .u32)))
abbrev YTT22:Ty:=(.pr (.int .i64) (.pr (.int .i64) (.pr .bool .bool)))
abbrev TaA1q0:Type:=YTT3×Int×Int×List (Int×List Int)×Int×Int×Int×Int×Int
abbrev TaA1q1:Type:=Int×Int×YTT4×List Bool
@[reducible] def q1by_:Sh:=⟨[.d (.sl (.int .u16))],[],[.sl (.int .u16)],[.d (.sl (.int .u16))],[],0,[.sl (.int .u16)]⟩
def q110_ (l:List Int):Option (As [.sl (.int .u16)]) :=
 some (List.take 64 l++List.drop (0 + zG (List.take 64 l)) (zE 64 0),())
def q13j_ (x:As [.sl (.int .u16)]):Option (As [.sl (.int .u16)]):=q110_ x.1
theorem q1n9_:CtOk Tryz.prog (fun _=>True) 17 ⟨q1by_,q13j_⟩:=ctn q2_ 6 fun J x=>by kernel_rfl
@[reducible] def q1h7_:Sh:=⟨[.d (.int .u8),.d (.int .u8),.d (.int .i64),.d (.int .i64)],[],[.int .u8,.int .u8,.int .i64,.int .i64],[.d (.bool)],[],0,[.bool]⟩
def qqn_ (unit link timeout retries:Int):Option (As [.bool]) :=
 if ge unit 1=true then if le unit 247=true then if eqi link 1=true then if ge timeout 1=true then if le timeout 100000=true then if ge retries 0=true then some (le retries 1000,()) else some (false,()) else some (false,()) else some (false,()) else if eqi link 2=true then if ge timeout 1=true then if le timeout 100000=true then if ge retries 0=true then some (le retries 1000,()) else some (false,()) else some (false,()) else some (false,()) else some (false,()) else some (false,()) else some (false,())
def q119_ (x:As [.int .u8,.int .u8,.int .i64,.int .i64]):Option (As [.bool]):=qqn_ x.1 x.2.1 x.2.2.1 x.2.2.2.1
theorem q1dx_:CtOk Tryz.prog (fun _=>True) 122 ⟨q1h7_,q119_⟩:=ctn q2_ 6 fun J x=>by kernel_rfl
@[reducible] def q1av_:Sh:=⟨[.d (.int .u8),.d (.int .u8),.d (.int .i64),.d (.int .i64)],[],[.int .u8,.int .u8,.int .i64,.int .i64],[.d (.pr (.int .u8) YTT0),.d (.int .i64)],[],0,[.pr (.int .u8) YTT0,.int .i64]⟩
def q113_ (unit link timeout retries:Int):Option (As [.pr (.int .u8) YTT0,.int .i64]) :=
 zC (q119_ (unit,link,timeout,retries,())) fun y=>if (!y.1)=true then some ((0,0,0,0,false,(0,0,0,0,[],[]),0,0,0),2,()) else some ((unit,link,timeout,retries,false,(0,0,0,0,[],[]),0,0,0),0,())
def q13e_ (x:As [.int .u8,.int .u8,.int .i64,.int .i64]):Option (As [.pr (.int .u8) YTT0,.int .i64]):=q113_ x.1 x.2.1 x.2.2.1 x.2.2.2.1
theorem q1mk_:CtOk Tryz.prog (fun _=>True) 67 ⟨q1av_,q13e_⟩:=ctn (q0_ q1dx_ q2_) 6 fun J x=>by kernel_rfl
@[reducible] def qid_:Sh:=⟨[.d (.int .u8),.d (.int .u8),.d (.int .u16),.d (.int .i64),.d (.int .i64)],[],[.int .u8,.int .u8,.int .u16,.int .i64,.int .i64],[.d (.pr (.pr (.int .u8) YTT0) YTT2),.d (.int .i64)],[],0,[.pr (.pr (.int .u8) YTT0) YTT2,.int .i64]⟩
def qwy_:Env:=(cts [(67,(⟨q1av_,q13e_⟩:Ct))])
def qwx_:List (Nat×Hint):=[(14,⟨[],[2,10,12,27]⟩)]
@[reducible] def zE0:Type:=Int×Int×Int×Int×Bool×YTT18×Int×Int×Int
def q10l_ (owner:Int) (t27:Bool) (t10:YTT10×Int×Int×Unit×Int×Int×Int×Int×Int) (p:zE0):St:=⟨[(2,d6 owner),(10,.pb 0 0),(12,.pb 1 0),(27,dB t27)],32,[],[(0,.box 33 [d8 t10.1.1,d8 t10.1.2.1,dI t10.1.2.2.1,dI t10.1.2.2.2.1,dB t10.1.2.2.2.2.1,d8 t10.1.2.2.2.2.2.1.1,d6 t10.1.2.2.2.2.2.1.2.1,d6 t10.1.2.2.2.2.2.1.2.2.1,d6 t10.1.2.2.2.2.2.1.2.2.2.1,.k (zK zH 0 0),.k (zK zH 0 0),d6 t10.1.2.2.2.2.2.2.1,dI t10.1.2.2.2.2.2.2.2.1,dI t10.1.2.2.2.2.2.2.2.2,d6 t10.2.1,d2 t10.2.2.1,.k (zK zH 0 0),d8 t10.2.2.2.2.1,d8 t10.2.2.2.2.2.1,dI t10.2.2.2.2.2.2.1,dI t10.2.2.2.2.2.2.2.1,d8 t10.2.2.2.2.2.2.2.2]),(1,.box 29 [d8 p.1,d8 p.2.1,dI p.2.2.1,dI p.2.2.2.1,dB p.2.2.2.2.1,d8 p.2.2.2.2.2.1.1,d6 p.2.2.2.2.2.1.2.1,d6 p.2.2.2.2.2.1.2.2.1,d6 p.2.2.2.2.2.1.2.2.2.1,dW p.2.2.2.2.2.1.2.2.2.2.1,.d (.sl .bool) p.2.2.2.2.2.1.2.2.2.2.2,d6 p.2.2.2.2.2.2.1,dI p.2.2.2.2.2.2.2.1,dI p.2.2.2.2.2.2.2.2])],2,[],0⟩
def q18m_ (owner:Int) (t27:Bool) (t10:YTT10×Int×Int×Unit×Int×Int×Int×Int×Int) (p:zE0):Option (As [.pr (.pr (.int .u8) YTT0) YTT2,.int .i64]) :=
 if t27=true then some (((0,0,0,0,false,(0,0,0,0,[],[]),0,0,0),0,0,[],0,0,0,0,0),2,()) else some ((p,owner,0,[],0,0,0,0,0),0,())
def qu3_ (j1:Int->Bool->YTT10×Int×Int×Unit×Int×Int×Int×Int×Int->Int×Int×Int×Int×Bool×YTT18×Int×Int×Int->Option (As [.pr (.pr (.int .u8) YTT0) YTT2,.int .i64])) (unit link owner timeout retries:Int):Option (As [.pr (.pr (.int .u8) YTT0) YTT2,.int .i64]) :=
 zC (q13e_ (unit,link,timeout,retries,())) fun y=>if nei y.2.1 0=true then j1 owner true ((0,0,0,0,false,(0,0,0,0,(),()),0,0,0),0,0,(),0,0,0,0,0) y.1 else j1 owner (eqi owner 0) ((0,0,0,0,false,(0,0,0,0,(),()),0,0,0),0,0,(),0,0,0,0,0) y.1
def q115_:=q18m_
def qyw_ (x:As [.int .u8,.int .u8,.int .u16,.int .i64,.int .i64]):Option (As [.pr (.pr (.int .u8) YTT0) YTT2,.int .i64]):=qu3_ q115_ x.1 x.2.1 x.2.2.1 x.2.2.2.1 x.2.2.2.2.1
@[reducible] def zp (e:Env) (h:List (Nat×Hint)) (n:Nat) (s:Sh):=pfn Tryz.prog e 6 18446744073709551616 (Ev.get h) n s
@[reducible] def zj (e:Env) (h:List (Nat×Hint)) (n:Nat) (s:Sh):=jfn Tryz.prog e 6 18446744073709551616 (Ev.get h) n s
abbrev talk_New_P:=zp qwy_ qwx_ 28 qid_
theorem q1n6_ {J a b c d}:talk_New_P J 14 [] (q10l_ a b c d)=q18m_ a b c d:=by kernel_rfl
theorem q1nr_ (J:Orc (As [.pr (.pr (.int .u8) YTT0) YTT2,.int .i64])) (x:As [.int .u8,.int .u8,.int .u16,.int .i64,.int .i64]):rfn Tryz.prog qwy_ 6 18446744073709551616 (Ev.get qwx_) 28 qid_ J x=qu3_ (C (J 14 []) q10l_) x.1 x.2.1 x.2.2.1 x.2.2.2.1 x.2.2.2.2.1:=by kernel_rfl
abbrev talk_New_J:=zj qwy_ qwx_ 28 qid_
theorem q1nn_:C (talk_New_J 14 []) q10l_=q115_:=gNC (by decide) fun _=>q1n6_
theorem q1ox_ (x:As [.int .u8,.int .u8,.int .u16,.int .i64,.int .i64]):evT Tryz.prog qwy_ 6 18446744073709551616 (Ev.get qwx_) 28 qid_ x=qyw_ x:=by
 rw [qb_,q1nr_,q1nn_] <;> rfl
theorem q1n4_:CtOk Tryz.prog (fun _=>True) 28 ⟨qid_,qyw_⟩:=q7_ (q0_ q1mk_ q2_) q1ox_
@[reducible] def q189_:Sh:=⟨[.d (.int .u8),.d (.int .u8)],[],[.int .u8,.int .u8],[.d (.bool)],[],0,[.bool]⟩
def qgy_ (unit link:Int):Option (As [.bool]) :=
 if ge unit 1=true then if le unit 247=true then if eqi link 1=true then some (true,()) else some (eqi link 2,()) else some (false,()) else some (false,())
def qor_ (x:As [.int .u8,.int .u8]):Option (As [.bool]):=qgy_ x.1 x.2.1
theorem q165_:CtOk Tryz.prog (fun _=>True) 86 ⟨q189_,qor_⟩:=ctn q2_ 6 fun J x=>by kernel_rfl
@[reducible] def q2w_:Sh:=⟨[.d (.sl (.int .u16))],[],[.sl (.int .u16)],[.d (.sl (.int .u16))],[],0,[.sl (.int .u16)]⟩
def q9g_ (s:List Int):Option (As [.sl (.int .u16)]) :=
 if eqi (zF (zG s)) 0=true then amb (eqAs q2w_.rs) [some ([],()),need (small (0 + zG s)) (some (s,()))] else need (small (0 + zG s)) (some (s,()))
def qc_ (x:As [.sl (.int .u16)]):Option (As [.sl (.int .u16)]):=q9g_ x.1
theorem q1h_:CtOk Tryz.prog (fun _=>True) 45 ⟨q2w_,qc_⟩:=ctn q2_ 6 fun J x=>by kernel_rfl
@[reducible] def q54_:Sh:=⟨[.d (.sl (.int .u16))],[],[.sl (.int .u16)],[.row 0],[(0,.row (.int .u16) 25)],1,[.sl (.int .u16)]⟩
def q7h_ (s:List Int):Option (As [.sl (.int .u16)]) :=
 if eqi (zF (zG s)) 0=true then amb (eqAs q54_.rs) [some ([],()),need (small (0 + zG s)) (some (s,()))] else need (small (0 + zG s)) (some (s,()))
def q29_ (x:As [.sl (.int .u16)]):Option (As [.sl (.int .u16)]):=q7h_ x.1
theorem qfj_:CtOk Tryz.prog (fun _=>True) 45 ⟨q54_,q29_⟩:=ctn q2_ 6 fun J x=>by kernel_rfl
@[reducible] def q1ni_:Sh:=⟨[.d (.sl (.int .u16)),.d (.int .i64)],[],[.sl (.int .u16),.int .i64],[.d (.pr (.sl (.int .u16)) YTT1),.d (.int .i64)],[],0,[.pr (.sl (.int .u16)) YTT1,.int .i64]⟩
def qyt_ (bank:List Int) (ticks:Int):Option (As [.pr (.sl (.int .u16)) YTT1,.int .i64]) :=
 if nei (zF (zG bank)) 64=true then some (zAg0,21,()) else if lt ticks 1=true then some (zAg0,2,()) else zC (qc_ (bank,())) fun y=>some ((y.1,(0,0),0,0,0,zSt,ticks),0,())
def q16c_ (x:As [.sl (.int .u16),.int .i64]):Option (As [.pr (.sl (.int .u16)) YTT1,.int .i64]):=qyt_ x.1 x.2.1
theorem q1j3_:CtOk Tryz.prog (fun _=>True) 92 ⟨q1ni_,q16c_⟩:=ctn (q0_ q1h_ q2_) 6 fun J x=>by kernel_rfl
@[reducible] def q18k_:Sh:=⟨[.d (.int .u8),.d (.int .u8),.d (.sl (.int .u16)),.d (.int .i64)],[],[.int .u8,.int .u8,.sl (.int .u16),.int .i64],[.d (.pr (.int .u8) (.pr (.int .u8) (.pr (.pr (.sl (.int .u16)) YTT1) (.sl .bool)))),.d (.int .i64)],[],0,[.pr (.int .u8) (.pr (.int .u8) (.pr (.pr (.sl (.int .u16)) YTT1) (.sl .bool))),.int .i64]⟩
def qz8_ (unit link:Int) (bank:List Int) (ticks:Int):Option (As [.pr (.int .u8) (.pr (.int .u8) (.pr (.pr (.sl (.int .u16)) YTT1) (.sl .bool))),.int .i64]) :=
 zC (qor_ (unit,link,())) fun y=>if (!y.1)=true then some (zSl,2,()) else zC (q16c_ (bank,ticks,())) fun y=>if nei y.2.1 0=true then some (zSl,y.2.1,()) else some ((unit,link,(mkAg y.1),[false,false,false,false,false,false,false,false,false,false,false,false,false,false,false,false]),0,())
def q105_ (x:As [.int .u8,.int .u8,.sl (.int .u16),.int .i64]):Option (As [.pr (.int .u8) (.pr (.int .u8) (.pr (.pr (.sl (.int .u16)) YTT1) (.sl .bool))),.int .i64]):=qz8_ x.1 x.2.1 x.2.2.1 x.2.2.2.1
theorem q1ii_:CtOk Tryz.prog (fun _=>True) 42 ⟨q18k_,q105_⟩:=ctn (q0_ q165_ (q0_ q1j3_ q2_)) 6 fun J x=>by kernel_rfl
@[reducible] def qmj_:Sh:=⟨[.d (.sl YTT8),.d (.int .i64)],[],[.sl YTT8,.int .i64],[.d (.sl YTT8)],[],0,[.sl YTT8]⟩
def qzn_:Env:=(cts [])
def q107_:List (Nat×Hint):=[(58,⟨[.row 5 38],[5,14,15,16]⟩),(7475,⟨[],[5,7,8,14,15,16]⟩)]
@[reducible] def zE1:Type:=List (Int×List Int)
def qi4_ (t14:zE1) (t15 t16:Int) (out:zE1):St:=⟨[(5,.row 0),(14,.d (.sl YTT8) t14),(15,dI t15),(16,dI t16)],45,[],[(0,.row YTT8 38 out)],1,[],0⟩
def q13k_ (at':Int) (t14:zE1) (t15 t16:Int) (out:zE1) (x:Int×List Int):St:=⟨[(5,.row 0),(7,.pb 1 0),(8,dI at'),(14,.d (.sl YTT8) t14),(15,dI t15),(16,dI t16)],45,[],[(0,.row YTT8 38 out),(1,.box 38 [dI x.1,dW x.2])],2,[],0⟩
@[reducible] def zE2:Type:=List (Int×List Int)->Int->Int->List (Int×List Int)->Option (As [.sl YTT8])
def qhn_ (j2:Int->List (Int×List Int)->Int->Int->List (Int×List Int)->Int×List Int->Option (As [.sl YTT8])) (self1:zE2) (t14:zE1) (t15 t16:Int) (out:zE1):Option (As [.sl YTT8]) :=
 if lt t16 t15=true then zC (at? t14 t16) fun y=>if lt (rem y.1 64) 0=true then j2 (add .i64 (rem y.1 64) 64) t14 t15 t16 out y else j2 (rem y.1 64) t14 t15 t16 out y else some (out,())
def qx7_ (self1:zE2) (at':Int) (t14:zE1) (t15 t16:Int) (out:zE1) (x:Int×List Int):Option (As [.sl YTT8]) :=
 zC (cut x.2 0 (if lt (Sx.sub .i64 64 at') (if lt 14 (zF (zG x.2))=true then 14 else zF (zG x.2))=true then Sx.sub .i64 64 at' else if lt 14 (zF (zG x.2))=true then 14 else zF (zG x.2))) fun y=>need (small (0 + zG y)) (need (small (zG out + Nat.succ 0)) (self1 t14 t15 (add .i64 t16 1) (out++[(at',y)])))
def qx0_ (j1:zE2) (l:zE1) (most:Int):Option (As [.sl YTT8]) :=
 zC (cut l 0 (if lt most (zF (zG l))=true then most else zF (zG l))) fun y=>j1 y (zF (zG y)) 0 []
def qoc_ (u1:zE2):=qx7_ u1
def qil_ (t14:zE1) (t15 t16:Int) (out:zE1):Option (As [.sl YTT8]) :=
 loopF (fun self s=>qhn_ (qoc_ (fun t14 t15 t16 out=>self (t14,t15,t16,out))) (fun t14 t15 t16 out=>self (t14,t15,t16,out)) s.1 s.2.1 s.2.2.1 s.2.2.2) 18446744073709551616 (t14,t15,t16,out)
def q12f_ (x:As [.sl YTT8,.int .i64]):Option (As [.sl YTT8]):=qx0_ qil_ x.1 x.2.1
abbrev low_Fit_P:=zp qzn_ q107_ 43 qmj_
theorem q1oh_ {J w1 a b c d e f}:low_Fit_P J 7475 [w1] (q13k_ a b c d e f)=qx7_ (C w1 qi4_) a b c d e f:=by kernel_rfl
theorem q1oo_ {J w1 a b c d}:low_Fit_P J 58 [w1] (qi4_ a b c d)=qhn_ (C (J 7475 [w1]) q13k_) (C w1 qi4_) a b c d:=by kernel_rfl
theorem q1ov_ (J:Orc (As [.sl YTT8])) (x:As [.sl YTT8,.int .i64]):rfn Tryz.prog qzn_ 6 18446744073709551616 (Ev.get q107_) 43 qmj_ J x=qx0_ (C (J 58 []) qi4_) x.1 x.2.1:=by kernel_rfl
abbrev low_Fit_J:=zj qzn_ q107_ 43 qmj_
theorem q1oq_ {w1}:C (low_Fit_J 7475 [w1]) q13k_=qoc_ (C w1 qi4_):=gNC (by decide) fun _=>q1oh_
theorem q1ol_:C (low_Fit_J 58 []) qi4_=qil_:=gLC (by decide) (by kernel_rfl) (fun _=>by unfold qil_; rfl) fun _ _=>q1oo_.trans (by rw [q1oq_] <;> kernel_rfl)
theorem q1p1_ (x:As [.sl YTT8,.int .i64]):evT Tryz.prog qzn_ 6 18446744073709551616 (Ev.get q107_) 43 qmj_ x=q12f_ x:=by
 rw [qb_,q1ov_,q1ol_] <;> rfl
theorem q1ot_:CtOk Tryz.prog (fun _=>True) 43 ⟨qmj_,q12f_⟩:=q7_ q2_ q1p1_
@[reducible] def q7b_:Sh:=⟨[.d (.int .u8),.d (.int .u8),.d (.int .u8),.d (.sl (.int .u16)),.d (.sl (.sl YTT8))],[],[.int .u8,.int .u8,.int .u8,.sl (.int .u16),.sl (.sl YTT8)],[.agp [.inl (.pr (.pr (.int .u8) YTT0) YTT2),.inl (.pr (.int .u8) (.pr (.int .u8) (.pr (.pr (.sl (.int .u16)) YTT1) (.sl .bool)))),.inr 0,.inl (.int .u32),.inl (.int .u32),.inl (.sl (.sl YTT8))],.d .bool],[(0,.que YTT14 63)],1,[.pr (.pr (.int .u8) YTT0) YTT2,.pr (.int .u8) (.pr (.int .u8) (.pr (.pr (.sl (.int .u16)) YTT1) (.sl .bool))),.int .u32,.int .u32,.sl (.sl YTT8),.bool,.sl YTT14]⟩
def qjz_:Env:=(cts [(1000048,Ev.bxCt),(9000046,Ev.bxCt),(9999999,Ev.bxCt),(17,(⟨q1by_,q13j_⟩:Ct)),(28,(⟨qid_,qyw_⟩:Ct)),(42,(⟨q18k_,q105_⟩:Ct)),(43,(⟨qmj_,q12f_⟩:Ct))])
def qjv_:List (Nat×Hint):=[(31,⟨[],[10,12,13,14,15,16,67,68,71,72,73,76,77,78]⟩),(250,⟨[.rwb 16 60 31],[10,12,13,14,15,16,49,50,51]⟩)]
@[reducible] def zE3:Type:=List (List (Int×List Int))
@[reducible] def zE4:Type:=(YTT10×Int×Int×Unit×Int×Int×Int×Int×Int)×YTT17×Unit×Int×Int×Unit
@[reducible] def zE5:Type:=List (Bool×List Int)
def qik_ (e s f:Int) (t49:zE3) (t50 t51:Int) (t10:zE4) (t:TaA1q0) (s_2:List (TaA1q1)) (p:(TaA1q0)×(TaA1q1)×Unit×Int×Int×Unit) (o:zE5) (o_2:zE3):St:=⟨[(10,.pb 0 0),(12,.pb 1 0),(13,dI e),(14,.prw 2 s 35 0),(15,dI f),(16,.pb 3 0),(49,.d (.sl (.sl YTT8)) t49),(50,dI t50),(51,dI t51)],80,[],[(0,.box 48 [d8 t10.1.1.1,d8 t10.1.1.2.1,dI t10.1.1.2.2.1,dI t10.1.1.2.2.2.1,dB t10.1.1.2.2.2.2.1,d8 t10.1.1.2.2.2.2.2.1.1,d6 t10.1.1.2.2.2.2.2.1.2.1,d6 t10.1.1.2.2.2.2.2.1.2.2.1,d6 t10.1.1.2.2.2.2.2.1.2.2.2.1,.k (zK zH 0 0),.k (zK zH 0 0),d6 t10.1.1.2.2.2.2.2.2.1,dI t10.1.1.2.2.2.2.2.2.2.1,dI t10.1.1.2.2.2.2.2.2.2.2,d6 t10.1.2.1,d2 t10.1.2.2.1,.k (zK zH 0 0),d8 t10.1.2.2.2.2.1,d8 t10.1.2.2.2.2.2.1,dI t10.1.2.2.2.2.2.2.1,dI t10.1.2.2.2.2.2.2.2.1,d8 t10.1.2.2.2.2.2.2.2.2,d8 t10.2.1.1,d8 t10.2.1.2.1,.k (zK zH 0 0),d6 t10.2.1.2.2.1.2.1.1,dI t10.2.1.2.2.1.2.1.2,d8 t10.2.1.2.2.1.2.2.1,d2 t10.2.1.2.2.1.2.2.2.1,d2 t10.2.1.2.2.1.2.2.2.2.1,d2 t10.2.1.2.2.1.2.2.2.2.2.1.1,dB (zJ t10.2.1.2.2.1.2.2.2.2.2.1.2.1 0 false),dB (zJ t10.2.1.2.2.1.2.2.2.2.2.1.2.1 1 false),dB (zJ t10.2.1.2.2.1.2.2.2.2.2.1.2.1 2 false),dB (zJ t10.2.1.2.2.1.2.2.2.2.2.1.2.1 3 false),dB (zJ t10.2.1.2.2.1.2.2.2.2.2.1.2.1 4 false),dB (zJ t10.2.1.2.2.1.2.2.2.2.2.1.2.1 5 false),dB (zJ t10.2.1.2.2.1.2.2.2.2.2.1.2.1 6 false),dB (zJ t10.2.1.2.2.1.2.2.2.2.2.1.2.1 7 false),dI (zJ t10.2.1.2.2.1.2.2.2.2.2.1.2.2 0 (0,())).1,.k (zK zH 0 0),dI (zJ t10.2.1.2.2.1.2.2.2.2.2.1.2.2 1 (0,())).1,.k (zK zH 0 0),dI (zJ t10.2.1.2.2.1.2.2.2.2.2.1.2.2 2 (0,())).1,.k (zK zH 0 0),dI (zJ t10.2.1.2.2.1.2.2.2.2.2.1.2.2 3 (0,())).1,.k (zK zH 0 0),dI (zJ t10.2.1.2.2.1.2.2.2.2.2.1.2.2 4 (0,())).1,.k (zK zH 0 0),dI (zJ t10.2.1.2.2.1.2.2.2.2.2.1.2.2 5 (0,())).1,.k (zK zH 0 0),dI (zJ t10.2.1.2.2.1.2.2.2.2.2.1.2.2 6 (0,())).1,.k (zK zH 0 0),dI (zJ t10.2.1.2.2.1.2.2.2.2.2.1.2.2 7 (0,())).1,.k (zK zH 0 0),dI t10.2.1.2.2.1.2.2.2.2.2.2,.k (zK zH 0 0),.k (zK zH 0 0),d2 t10.2.2.2.1,d2 t10.2.2.2.2.1,.k (zK zH 0 0)]),(1,.box 33 (talkC t [])),(2,.row (.pr (.int .u8) (.pr (.int .u8) (.pr (.pr (.sl (.int .u16)) YTT1) (.sl .bool)))) 45 s_2),(3,.box 48 (talkC p.1 (slC p.2.1 [.row 4,d2 p.2.2.2.1,d2 p.2.2.2.2.1,.row 5]))),(4,.que YTT14 63 o),(5,.row (.sl YTT8) 31 o_2)],6,[],0⟩
def qs5_ (e s f:Int) (t10:zE4) (t:TaA1q0) (s_2:List (TaA1q1)) (p:(TaA1q0)×(TaA1q1)×Unit×Int×Int×Unit) (o:zE5) (o_2:zE3):St:=⟨[(10,.pb 0 0),(12,.pb 1 0),(13,dI e),(14,.prw 2 s 35 0),(15,dI f),(16,.pb 3 0)],80,[],[(0,.box 48 [d8 t10.1.1.1,d8 t10.1.1.2.1,dI t10.1.1.2.2.1,dI t10.1.1.2.2.2.1,dB t10.1.1.2.2.2.2.1,d8 t10.1.1.2.2.2.2.2.1.1,d6 t10.1.1.2.2.2.2.2.1.2.1,d6 t10.1.1.2.2.2.2.2.1.2.2.1,d6 t10.1.1.2.2.2.2.2.1.2.2.2.1,.k (zK zH 0 0),.k (zK zH 0 0),d6 t10.1.1.2.2.2.2.2.2.1,dI t10.1.1.2.2.2.2.2.2.2.1,dI t10.1.1.2.2.2.2.2.2.2.2,d6 t10.1.2.1,d2 t10.1.2.2.1,.k (zK zH 0 0),d8 t10.1.2.2.2.2.1,d8 t10.1.2.2.2.2.2.1,dI t10.1.2.2.2.2.2.2.1,dI t10.1.2.2.2.2.2.2.2.1,d8 t10.1.2.2.2.2.2.2.2.2,d8 t10.2.1.1,d8 t10.2.1.2.1,.k (zK zH 0 0),d6 t10.2.1.2.2.1.2.1.1,dI t10.2.1.2.2.1.2.1.2,d8 t10.2.1.2.2.1.2.2.1,d2 t10.2.1.2.2.1.2.2.2.1,d2 t10.2.1.2.2.1.2.2.2.2.1,d2 t10.2.1.2.2.1.2.2.2.2.2.1.1,dB (zJ t10.2.1.2.2.1.2.2.2.2.2.1.2.1 0 false),dB (zJ t10.2.1.2.2.1.2.2.2.2.2.1.2.1 1 false),dB (zJ t10.2.1.2.2.1.2.2.2.2.2.1.2.1 2 false),dB (zJ t10.2.1.2.2.1.2.2.2.2.2.1.2.1 3 false),dB (zJ t10.2.1.2.2.1.2.2.2.2.2.1.2.1 4 false),dB (zJ t10.2.1.2.2.1.2.2.2.2.2.1.2.1 5 false),dB (zJ t10.2.1.2.2.1.2.2.2.2.2.1.2.1 6 false),dB (zJ t10.2.1.2.2.1.2.2.2.2.2.1.2.1 7 false),dI (zJ t10.2.1.2.2.1.2.2.2.2.2.1.2.2 0 (0,())).1,.k (zK zH 0 0),dI (zJ t10.2.1.2.2.1.2.2.2.2.2.1.2.2 1 (0,())).1,.k (zK zH 0 0),dI (zJ t10.2.1.2.2.1.2.2.2.2.2.1.2.2 2 (0,())).1,.k (zK zH 0 0),dI (zJ t10.2.1.2.2.1.2.2.2.2.2.1.2.2 3 (0,())).1,.k (zK zH 0 0),dI (zJ t10.2.1.2.2.1.2.2.2.2.2.1.2.2 4 (0,())).1,.k (zK zH 0 0),dI (zJ t10.2.1.2.2.1.2.2.2.2.2.1.2.2 5 (0,())).1,.k (zK zH 0 0),dI (zJ t10.2.1.2.2.1.2.2.2.2.2.1.2.2 6 (0,())).1,.k (zK zH 0 0),dI (zJ t10.2.1.2.2.1.2.2.2.2.2.1.2.2 7 (0,())).1,.k (zK zH 0 0),dI t10.2.1.2.2.1.2.2.2.2.2.2,.k (zK zH 0 0),.k (zK zH 0 0),d2 t10.2.2.2.1,d2 t10.2.2.2.2.1,.k (zK zH 0 0)]),(1,.box 33 (talkC t [])),(2,.row (.pr (.int .u8) (.pr (.int .u8) (.pr (.pr (.sl (.int .u16)) YTT1) (.sl .bool)))) 45 s_2),(3,.box 48 (talkC p.1 (slC p.2.1 [.row 4,d2 p.2.2.2.1,d2 p.2.2.2.2.1,.row 5]))),(4,.que YTT14 63 o),(5,.row (.sl YTT8) 31 o_2)],6,[],0⟩
def q82_ (j2:Int->Int->Int->(YTT10×Int×Int×Unit×Int×Int×Int×Int×Int)×YTT17×Unit×Int×Int×Unit->TaA1q0->List (TaA1q1)->(TaA1q0)×(TaA1q1)×Unit×Int×Int×Unit->List (Bool×List Int)->List (List (Int×List Int))->Option (As [.pr (.pr (.int .u8) YTT0) YTT2,.pr (.int .u8) (.pr (.int .u8) (.pr (.pr (.sl (.int .u16)) YTT1) (.sl .bool))),.int .u32,.int .u32,.sl (.sl YTT8),.bool,.sl YTT14])) (self1:Int->Int->Int->List (List (Int×List Int))->Int->Int->(YTT10×Int×Int×Unit×Int×Int×Int×Int×Int)×YTT17×Unit×Int×Int×Unit->TaA1q0->List (TaA1q1)->(TaA1q0)×(TaA1q1)×Unit×Int×Int×Unit->List (Bool×List Int)->List (List (Int×List Int))->Option (As [.pr (.pr (.int .u8) YTT0) YTT2,.pr (.int .u8) (.pr (.int .u8) (.pr (.pr (.sl (.int .u16)) YTT1) (.sl .bool))),.int .u32,.int .u32,.sl (.sl YTT8),.bool,.sl YTT14])) (e s f:Int) (t49:zE3) (t50 t51:Int) (t10:zE4) (t:TaA1q0) (s_2:List (TaA1q1)) (p:(TaA1q0)×(TaA1q1)×Unit×Int×Int×Unit) (o:zE5) (o_2:zE3):Option (As [.pr (.pr (.int .u8) YTT0) YTT2,.pr (.int .u8) (.pr (.int .u8) (.pr (.pr (.sl (.int .u16)) YTT1) (.sl .bool))),.int .u32,.int .u32,.sl (.sl YTT8),.bool,.sl YTT14]) :=
 if lt t51 t50=true then zC (at? t49 t51) fun y=>zC (q12f_ (y,4,())) fun y=>need (small (zG o_2 + Nat.succ 0)) (self1 e s f t49 t50 (add .i64 t51 1) (((t10.1.1.1,t10.1.1.2.1,t10.1.1.2.2.1,t10.1.1.2.2.2.1,t10.1.1.2.2.2.2.1,(t10.1.1.2.2.2.2.2.1.1,t10.1.1.2.2.2.2.2.1.2.1,t10.1.1.2.2.2.2.2.1.2.2.1,t10.1.1.2.2.2.2.2.1.2.2.2.1,(),()),t10.1.1.2.2.2.2.2.2),t10.1.2),(t10.2.1.1,t10.2.1.2.1,((),t10.2.1.2.2.1.2.1,t10.2.1.2.2.1.2.2.1,t10.2.1.2.2.1.2.2.2.1,t10.2.1.2.2.1.2.2.2.2.1,(t10.2.1.2.2.1.2.2.2.2.2.1.1,t10.2.1.2.2.1.2.2.2.2.2.1.2.1,[((zJ t10.2.1.2.2.1.2.2.2.2.2.1.2.2 0 (0,())).1,()),((zJ t10.2.1.2.2.1.2.2.2.2.2.1.2.2 1 (0,())).1,()),((zJ t10.2.1.2.2.1.2.2.2.2.2.1.2.2 2 (0,())).1,()),((zJ t10.2.1.2.2.1.2.2.2.2.2.1.2.2 3 (0,())).1,()),((zJ t10.2.1.2.2.1.2.2.2.2.2.1.2.2 4 (0,())).1,()),((zJ t10.2.1.2.2.1.2.2.2.2.2.1.2.2 5 (0,())).1,()),((zJ t10.2.1.2.2.1.2.2.2.2.2.1.2.2 6 (0,())).1,()),((zJ t10.2.1.2.2.1.2.2.2.2.2.1.2.2 7 (0,())).1,())]),t10.2.1.2.2.1.2.2.2.2.2.2),()),(),t10.2.2.2.1,t10.2.2.2.2.1,()) t s_2 (p.1,p.2.1,(),p.2.2.2.1,p.2.2.2.2.1,()) o (o_2++[y.1])) else j2 e s f (((t10.1.1.1,t10.1.1.2.1,t10.1.1.2.2.1,t10.1.1.2.2.2.1,t10.1.1.2.2.2.2.1,(t10.1.1.2.2.2.2.2.1.1,t10.1.1.2.2.2.2.2.1.2.1,t10.1.1.2.2.2.2.2.1.2.2.1,t10.1.1.2.2.2.2.2.1.2.2.2.1,(),()),t10.1.1.2.2.2.2.2.2),t10.1.2),(t10.2.1.1,t10.2.1.2.1,((),t10.2.1.2.2.1.2.1,t10.2.1.2.2.1.2.2.1,t10.2.1.2.2.1.2.2.2.1,t10.2.1.2.2.1.2.2.2.2.1,(t10.2.1.2.2.1.2.2.2.2.2.1.1,t10.2.1.2.2.1.2.2.2.2.2.1.2.1,[((zJ t10.2.1.2.2.1.2.2.2.2.2.1.2.2 0 (0,())).1,()),((zJ t10.2.1.2.2.1.2.2.2.2.2.1.2.2 1 (0,())).1,()),((zJ t10.2.1.2.2.1.2.2.2.2.2.1.2.2 2 (0,())).1,()),((zJ t10.2.1.2.2.1.2.2.2.2.2.1.2.2 3 (0,())).1,()),((zJ t10.2.1.2.2.1.2.2.2.2.2.1.2.2 4 (0,())).1,()),((zJ t10.2.1.2.2.1.2.2.2.2.2.1.2.2 5 (0,())).1,()),((zJ t10.2.1.2.2.1.2.2.2.2.2.1.2.2 6 (0,())).1,()),((zJ t10.2.1.2.2.1.2.2.2.2.2.1.2.2 7 (0,())).1,())]),t10.2.1.2.2.1.2.2.2.2.2.2),()),(),t10.2.2.2.1,t10.2.2.2.2.1,()) t s_2 (p.1,p.2.1,(),p.2.2.2.1,p.2.2.2.2.1,()) o o_2
def qit_ (e s f:Int) (t10:zE4) (t:TaA1q0) (s_2:List (TaA1q1)) (p:(TaA1q0)×(TaA1q1)×Unit×Int×Int×Unit) (o:zE5) (o_2:zE3):Option (As [.pr (.pr (.int .u8) YTT0) YTT2,.pr (.int .u8) (.pr (.int .u8) (.pr (.pr (.sl (.int .u16)) YTT1) (.sl .bool))),.int .u32,.int .u32,.sl (.sl YTT8),.bool,.sl YTT14]) :=
 if eqi e 0=true then if eqi f 0=true then if eqi t.2.1 7=true then zC (at? s_2 s) fun y=>some (p.1,(mkSl p.2.1),p.2.2.2.1,p.2.2.2.2.1,o_2,eqi y.1 9,o,()) else some (p.1,(mkSl p.2.1),p.2.2.2.1,p.2.2.2.2.1,o_2,false,o,()) else some (p.1,(mkSl p.2.1),p.2.2.2.1,p.2.2.2.2.1,o_2,false,o,()) else some (p.1,(mkSl p.2.1),p.2.2.2.1,p.2.2.2.2.1,o_2,false,o,())
def qhq_ (j1:Int->Int->Int->List (List (Int×List Int))->Int->Int->(YTT10×Int×Int×Unit×Int×Int×Int×Int×Int)×YTT17×Unit×Int×Int×Unit->TaA1q0->List (TaA1q1)->(TaA1q0)×(TaA1q1)×Unit×Int×Int×Unit->List (Bool×List Int)->List (List (Int×List Int))->Option (As [.pr (.pr (.int .u8) YTT0) YTT2,.pr (.int .u8) (.pr (.int .u8) (.pr (.pr (.sl (.int .u16)) YTT1) (.sl .bool))),.int .u32,.int .u32,.sl (.sl YTT8),.bool,.sl YTT14])) (link timeout retries:Int) (bank:List Int) (plan:zE3):Option (As [.pr (.pr (.int .u8) YTT0) YTT2,.pr (.int .u8) (.pr (.int .u8) (.pr (.pr (.sl (.int .u16)) YTT1) (.sl .bool))),.int .u32,.int .u32,.sl (.sl YTT8),.bool,.sl YTT14]) :=
 zC (qyw_ (9,add .u8 1 (rem link 2),7,add .i64 1 (cvt .i64 (rem timeout 10)),cvt .i64 (rem retries 4),())) fun y=>zC (q13j_ (bank,())) fun y_1=>zC (q105_ (9,add .u8 1 (rem link 2),y_1.1,40,())) fun y_2=>zC (cut plan 0 (if lt 6 (zF (zG plan))=true then 6 else zF (zG plan))) fun y_3=>j1 y.2.1 0 y_2.2.1 y_3 (zF (zG y_3)) 0 (((0,0,0,0,false,(0,0,0,0,(),()),0,0,0),0,0,(),0,0,0,0,0),(0,0,((),(0,0),0,0,0,(0,[false,false,false,false,false,false,false,false],[(0,()),(0,()),(0,()),(0,()),(0,()),(0,()),(0,()),(0,())]),0),()),(),0,0,()) y.1 [y_2.1] (y.1,y_2.1,(),0,0,()) [] []
def qhw_:=qit_
def q85_ (e s f:Int) (t49:zE3) (t50 t51:Int) (t10:zE4) (t:TaA1q0) (s_2:List (TaA1q1)) (p:(TaA1q0)×(TaA1q1)×Unit×Int×Int×Unit) (o:zE5) (o_2:zE3):Option (As [.pr (.pr (.int .u8) YTT0) YTT2,.pr (.int .u8) (.pr (.int .u8) (.pr (.pr (.sl (.int .u16)) YTT1) (.sl .bool))),.int .u32,.int .u32,.sl (.sl YTT8),.bool,.sl YTT14]) :=
 loopF (fun self s=>q82_ (qhw_) (fun e s f t49 t50 t51 t10 t s_2 p o o_2=>self (e,s,f,t49,t50,t51,t10,t,s_2,p,o,o_2)) s.1 s.2.1 s.2.2.1 s.2.2.2.1 s.2.2.2.2.1 s.2.2.2.2.2.1 s.2.2.2.2.2.2.1 s.2.2.2.2.2.2.2.1 s.2.2.2.2.2.2.2.2.1 s.2.2.2.2.2.2.2.2.2.1 s.2.2.2.2.2.2.2.2.2.2.1 s.2.2.2.2.2.2.2.2.2.2.2) 18446744073709551616 (e,s,f,t49,t50,t51,t10,t,s_2,p,o,o_2)
def qaz_ (x:As [.int .u8,.int .u8,.int .u8,.sl (.int .u16),.sl (.sl YTT8)]):Option (As [.pr (.pr (.int .u8) YTT0) YTT2,.pr (.int .u8) (.pr (.int .u8) (.pr (.pr (.sl (.int .u16)) YTT1) (.sl .bool))),.int .u32,.int .u32,.sl (.sl YTT8),.bool,.sl YTT14]):=qhq_ q85_ x.1 x.2.1 x.2.2.1 x.2.2.2.1 x.2.2.2.2.1
abbrev law25_Begun_P:=zp qjz_ qjv_ 9 q7b_
theorem q1e6_ {J a b c d e f g h i}:law25_Begun_P J 31 [] (qs5_ a b c d e f g h i)=qit_ a b c d e f g h i:=by kernel_rfl
theorem q1dw_ {J w1 a b c d e f g h i j k l}:law25_Begun_P J 250 [w1] (qik_ a b c d e f g h i j k l)=q82_ (C (J 31 []) qs5_) (C w1 qik_) a b c d e f g h i j k l:=by kernel_rfl
theorem q1ch_ (J:Orc (As [.pr (.pr (.int .u8) YTT0) YTT2,.pr (.int .u8) (.pr (.int .u8) (.pr (.pr (.sl (.int .u16)) YTT1) (.sl .bool))),.int .u32,.int .u32,.sl (.sl YTT8),.bool,.sl YTT14])) (x:As [.int .u8,.int .u8,.int .u8,.sl (.int .u16),.sl (.sl YTT8)]):rfn Tryz.prog qjz_ 6 18446744073709551616 (Ev.get qjv_) 9 q7b_ J x=qhq_ (C (J 250 []) qik_) x.1 x.2.1 x.2.2.1 x.2.2.2.1 x.2.2.2.2.1:=by kernel_rfl
abbrev law25_Begun_J:=zj qjz_ qjv_ 9 q7b_
theorem q1dl_:C (law25_Begun_J 31 []) qs5_=qhw_:=gNC (by decide) fun _=>q1e6_
theorem q1cg_:C (law25_Begun_J 250 []) qik_=q85_:=gLC (by decide) (by kernel_rfl) (fun _=>by unfold q85_; rfl) fun _ _=>q1dw_.trans (by rw [q1dl_] <;> kernel_rfl)
theorem q1hy_ (x:As [.int .u8,.int .u8,.int .u8,.sl (.int .u16),.sl (.sl YTT8)]):evT Tryz.prog qjz_ 6 18446744073709551616 (Ev.get qjv_) 9 q7b_ x=qaz_ x:=by
 rw [qb_,q1ch_,q1cg_] <;> rfl
theorem q12p_:CtOk Tryz.prog (fun _=>True) 9 ⟨q7b_,qaz_⟩:=q7_ (q0_ Ev.bx_ok (q0_ Ev.bx_ok (q0_ Ev.bx_ok (q0_ q1n9_ (q0_ q1n4_ (q0_ q1ii_ (q0_ q1ot_ q2_))))))) q1hy_
@[reducible] def q3r_:Sh:=⟨[.pb 0 0,.d (.sl (.int .u8))],[(prG 1),.que YTT14 63],[.sl (.int .u8),.pr (.pr (.int .u8) YTT0) YTT2,.pr (.int .u8) (.pr (.int .u8) (.pr (.pr (.sl (.int .u16)) YTT1) (.sl .bool))),.int .u32,.int .u32,.sl (.sl YTT8),.sl YTT14],[],[(0,(prG 2)),(2,.que YTT14 63)],1,[.pr (.pr (.int .u8) YTT0) YTT2,.pr (.int .u8) (.pr (.int .u8) (.pr (.pr (.sl (.int .u16)) YTT1) (.sl .bool))),.int .u32,.int .u32,.sl (.sl YTT8),.sl YTT14]⟩
def qbk_:Env:=(cts [(1000048,Ev.bxCt),(9000046,Ev.bxCt),(9999999,Ev.bxCt)])
def qbh_:List (Nat×Hint):=[(1,⟨[],[0,1,14]⟩)]
def qh2_ (b:List Int) (t14:Bool) (p:(TaA1q0)×(TaA1q1)×Unit×Int×Int×List (List (Int×List Int))) (o:zE5):St:=⟨[(0,.pb 0 0),(1,dL b),(14,dB t14)],26,[],[(0,.box 48 (talkC p.1 (slC p.2.1 [.row 1,d2 p.2.2.2.1,d2 p.2.2.2.2.1,.d (.sl (.sl YTT8)) p.2.2.2.2.2]))),(1,.que YTT14 63 o)],2,[],2⟩
def q4v_ (b:List Int) (t14:Bool) (p:(TaA1q0)×(TaA1q1)×Unit×Int×Int×List (List (Int×List Int))) (o:zE5):Option (As [.pr (.pr (.int .u8) YTT0) YTT2,.pr (.int .u8) (.pr (.int .u8) (.pr (.pr (.sl (.int .u16)) YTT1) (.sl .bool))),.int .u32,.int .u32,.sl (.sl YTT8),.sl YTT14]) :=
 if t14=true then need (small (zG o + Nat.succ 0)) (some (p.1,(mkSl p.2.1),p.2.2.2.1,p.2.2.2.2.1,p.2.2.2.2.2,o++[(false,b)],())) else some (p.1,(mkSl p.2.1),p.2.2.2.1,p.2.2.2.2.1,p.2.2.2.2.2,o,())
def qa5_ (j1:List Int->Bool->(TaA1q0)×(TaA1q1)×Unit×Int×Int×List (List (Int×List Int))->List (Bool×List Int)->Option (As [.pr (.pr (.int .u8) YTT0) YTT2,.pr (.int .u8) (.pr (.int .u8) (.pr (.pr (.sl (.int .u16)) YTT1) (.sl .bool))),.int .u32,.int .u32,.sl (.sl YTT8),.sl YTT14])) (p:List Int) (b:TaA1q0) (p_2:TaA1q1) (b_2 v:Int) (v_2:zE3) (v_3:zE5):Option (As [.pr (.pr (.int .u8) YTT0) YTT2,.pr (.int .u8) (.pr (.int .u8) (.pr (.pr (.sl (.int .u16)) YTT1) (.sl .bool))),.int .u32,.int .u32,.sl (.sl YTT8),.sl YTT14]) :=
 if gt (zF (zG p)) 0=true then j1 p (lt (zF (zG v_3)) 12) (b,p_2,(),b_2,v,v_2) v_3 else j1 p false (b,p_2,(),b_2,v,v_2) v_3
def q6e_:=q4v_
def q5f_ (x:As [.sl (.int .u8),.pr (.pr (.int .u8) YTT0) YTT2,.pr (.int .u8) (.pr (.int .u8) (.pr (.pr (.sl (.int .u16)) YTT1) (.sl .bool))),.int .u32,.int .u32,.sl (.sl YTT8),.sl YTT14]):Option (As [.pr (.pr (.int .u8) YTT0) YTT2,.pr (.int .u8) (.pr (.int .u8) (.pr (.pr (.sl (.int .u16)) YTT1) (.sl .bool))),.int .u32,.int .u32,.sl (.sl YTT8),.sl YTT14]):=qa5_ q6e_ x.1 x.2.1 x.2.2.1 x.2.2.2.1 x.2.2.2.2.1 x.2.2.2.2.2.1 x.2.2.2.2.2.2.1
abbrev law25_Pair_sent_P:=zp qbk_ qbh_ 20 q3r_
theorem q17g_ {J a b c d}:law25_Pair_sent_P J 1 [] (qh2_ a b c d)=q4v_ a b c d:=by kernel_rfl
theorem q173_ (J:Orc (As [.pr (.pr (.int .u8) YTT0) YTT2,.pr (.int .u8) (.pr (.int .u8) (.pr (.pr (.sl (.int .u16)) YTT1) (.sl .bool))),.int .u32,.int .u32,.sl (.sl YTT8),.sl YTT14])) (x:As [.sl (.int .u8),.pr (.pr (.int .u8) YTT0) YTT2,.pr (.int .u8) (.pr (.int .u8) (.pr (.pr (.sl (.int .u16)) YTT1) (.sl .bool))),.int .u32,.int .u32,.sl (.sl YTT8),.sl YTT14]):rfn Tryz.prog qbk_ 6 18446744073709551616 (Ev.get qbh_) 20 q3r_ J x=qa5_ (C (J 1 []) qh2_) x.1 x.2.1 x.2.2.1 x.2.2.2.1 x.2.2.2.2.1 x.2.2.2.2.2.1 x.2.2.2.2.2.2.1:=by kernel_rfl
abbrev law25_Pair_sent_J:=zj qbk_ qbh_ 20 q3r_
theorem q16n_:C (law25_Pair_sent_J 1 []) qh2_=q6e_:=gNC (by decide) fun _=>q17g_
theorem q182_ (x:As [.sl (.int .u8),.pr (.pr (.int .u8) YTT0) YTT2,.pr (.int .u8) (.pr (.int .u8) (.pr (.pr (.sl (.int .u16)) YTT1) (.sl .bool))),.int .u32,.int .u32,.sl (.sl YTT8),.sl YTT14]):evT Tryz.prog qbk_ 6 18446744073709551616 (Ev.get qbh_) 20 q3r_ x=q5f_ x:=by
 rw [qb_,q173_,q16n_] <;> rfl
theorem qui_:CtOk Tryz.prog (fun _=>True) 20 ⟨q3r_,q5f_⟩:=q7_ (q0_ Ev.bx_ok (q0_ Ev.bx_ok (q0_ Ev.bx_ok q2_))) q182_
@[reducible] def q9m_:Sh:=⟨[.d (.sl YTT8)],[],[.sl YTT8],[.d (.sl YTT8)],[],0,[.sl YTT8]⟩
def qkm_:Env:=(cts [(45,(⟨q2w_,qc_⟩:Ct))])
def qku_:List (Nat×Hint):=[(58,⟨[.row 3 38],[3,6,7,8]⟩)]
def qhc_ (t6:zE1) (t7 t8:Int) (r:zE1):St:=⟨[(3,.row 0),(6,.d (.sl YTT8) t6),(7,dI t7),(8,dI t8)],22,[],[(0,.row YTT8 38 r)],1,[],0⟩
def q83_ (self1:zE2) (t6:zE1) (t7 t8:Int) (r:zE1):Option (As [.sl YTT8]) :=
 if lt t8 t7=true then zC (at? t6 t8) fun y=>zC (qc_ (y.2,())) fun y_1=>need (small (zG r + Nat.succ 0)) (self1 t6 t7 (add .i64 t8 1) (r++[(y.1,y_1.1)])) else some (r,())
def q12b_ (j1:zE2) (l:zE1):Option (As [.sl YTT8]) :=
 j1 l (zF (zG l)) 0 []
def qc1_ (t6:zE1) (t7 t8:Int) (r:zE1):Option (As [.sl YTT8]) :=
 loopF (fun self s=>q83_ (fun t6 t7 t8 r=>self (t6,t7,t8,r)) s.1 s.2.1 s.2.2.1 s.2.2.2) 18446744073709551616 (t6,t7,t8,r)
def qf0_ (x:As [.sl YTT8]):Option (As [.sl YTT8]):=q12b_ qc1_ x.1
abbrev talk_copies_P:=zp qkm_ qku_ 65 q9m_
theorem q1es_ {J w1 a b c d}:talk_copies_P J 58 [w1] (qhc_ a b c d)=q83_ (C w1 qhc_) a b c d:=by kernel_rfl
theorem q1eh_ (J:Orc (As [.sl YTT8])) (x:As [.sl YTT8]):rfn Tryz.prog qkm_ 6 18446744073709551616 (Ev.get qku_) 65 q9m_ J x=q12b_ (C (J 58 []) qhc_) x.1:=by kernel_rfl
abbrev talk_copies_J:=zj qkm_ qku_ 65 q9m_
theorem q1cf_:C (talk_copies_J 58 []) qhc_=qc1_:=gLC (by decide) (by kernel_rfl) (fun _=>by unfold qc1_; rfl) fun _ _=>q1es_.trans (by kernel_rfl)
theorem q1fr_ (x:As [.sl YTT8]):evT Tryz.prog qkm_ 6 18446744073709551616 (Ev.get qku_) 65 q9m_ x=qf0_ x:=by
 rw [qb_,q1eh_,q1cf_] <;> rfl
theorem q12e_:CtOk Tryz.prog (fun _=>True) 65 ⟨q9m_,qf0_⟩:=q7_ (q0_ q1h_ q2_) q1fr_
@[reducible] def qdd_:Sh:=⟨[.d (.sl .bool)],[],[.sl .bool],[.d (.sl .bool)],[],0,[.sl .bool]⟩
def qch_ (s:List Bool):Option (As [.sl .bool]) :=
 if eqi (zF (zG s)) 0=true then amb (eqAs qdd_.rs) [some ([],()),need (small (0 + zG s)) (some (s,()))] else need (small (0 + zG s)) (some (s,()))
def q2m_ (x:As [.sl .bool]):Option (As [.sl .bool]):=qch_ x.1
theorem qcc_:CtOk Tryz.prog (fun _=>True) 113 ⟨qdd_,q2m_⟩:=ctn q2_ 6 fun J x=>by kernel_rfl
@[reducible] def q65_:Sh:=⟨[.d (.sl (.bool))],[],[.sl (.bool)],[.row 0],[(0,.row (.bool) 4)],1,[.sl (.bool)]⟩
def q9h_ (s:List Bool):Option (As [.sl .bool]) :=
 if eqi (zF (zG s)) 0=true then amb (eqAs q65_.rs) [some ([],()),need (small (0 + zG s)) (some (s,()))] else need (small (0 + zG s)) (some (s,()))
def q2s_ (x:As [.sl .bool]):Option (As [.sl .bool]):=q9h_ x.1
theorem qix_:CtOk Tryz.prog (fun _=>True) 113 ⟨q65_,q2s_⟩:=ctn q2_ 6 fun J x=>by kernel_rfl
@[reducible] def q1az_:Sh:=⟨[.d (.pr (.pr (.int .u8) YTT0) YTT2)],[],[.pr (.pr (.int .u8) YTT0) YTT2],[.d (.pr (.pr (.int .u8) YTT0) YTT2)],[],0,[.pr (.pr (.int .u8) YTT0) YTT2]⟩
def q10j_ (t:TaA1q0):Option (As [.pr (.pr (.int .u8) YTT0) YTT2]) :=
 zC (qc_ (t.1.2.2.2.2.2.1.2.2.2.2.1,())) fun y=>zC (q2m_ (t.1.2.2.2.2.2.1.2.2.2.2.2,())) fun y_1=>zC (qf0_ (t.2.2.2.1,())) fun y_2=>some (((t.1.1,t.1.2.1,t.1.2.2.1,t.1.2.2.2.1,t.1.2.2.2.2.1,(t.1.2.2.2.2.2.1.1,t.1.2.2.2.2.2.1.2.1,t.1.2.2.2.2.2.1.2.2.1,t.1.2.2.2.2.2.1.2.2.2.1,y.1,y_1.1),t.1.2.2.2.2.2.2),t.2.1,t.2.2.1,y_2.1,t.2.2.2.2),())
def qma_ (x:As [.pr (.pr (.int .u8) YTT0) YTT2]):Option (As [.pr (.pr (.int .u8) YTT0) YTT2]):=q10j_ x.1
theorem q10t_:CtOk Tryz.prog (fun _=>True) 54 ⟨q1az_,qma_⟩:=ctn (q0_ q1h_ (q0_ q12e_ (q0_ qcc_ q2_))) 6 fun J x=>by kernel_rfl
@[reducible] def qt3_:Sh:=⟨[.d (.int .u8)],[],[.int .u8],[.d (.pr (.int .i64) YTT22),.d (.bool)],[],0,[.pr (.int .i64) YTT22,.bool]⟩
def q1ip_ (f:Int):Option (As [.pr (.int .i64) YTT22,.bool]) :=
 some (Ev.gdV (.pr (.int .i64) YTT22) (if eqi 1 f=true then some (2000,0,0,false,false) else if eqi 2 f=true then some (2000,0,0,false,false) else if eqi 3 f=true then some (125,0,0,false,false) else if eqi 4 f=true then some (125,0,0,false,false) else if eqi 5 f=true then some (0,1,0,false,false) else if eqi 6 f=true then some (0,0,1,false,false) else if eqi 15 f=true then some (1968,1968,0,false,true) else if eqi 16 f=true then some (123,0,123,false,true) else if eqi 23 f=true then some (125,0,121,true,false) else zH) (0,0,0,false,false),Ev.isV (.pr (.int .i64) YTT22) (if eqi 1 f=true then some (2000,0,0,false,false) else if eqi 2 f=true then some (2000,0,0,false,false) else if eqi 3 f=true then some (125,0,0,false,false) else if eqi 4 f=true then some (125,0,0,false,false) else if eqi 5 f=true then some (0,1,0,false,false) else if eqi 6 f=true then some (0,0,1,false,false) else if eqi 15 f=true then some (1968,1968,0,false,true) else if eqi 16 f=true then some (123,0,123,false,true) else if eqi 23 f=true then some (125,0,121,true,false) else zH),())
def qah_ (x:As [.int .u8]):Option (As [.pr (.int .i64) YTT22,.bool]):=q1ip_ x.1
theorem qoo_:CtOk Tryz.prog (fun _=>True) 106 ⟨qt3_,qah_⟩:=ctn q2_ 6 fun J x=>by kernel_rfl
@[reducible] def q15o_:Sh:=⟨[.d (.int .i64),.d (.int .i64)],[],[.int .i64,.int .i64],[.d (.bool)],[],0,[.bool]⟩
def qv9_ (n most:Int):Option (As [.bool]) :=
 if eqi most 0=true then some (eqi n 0,()) else if ge n 1=true then some (le n most,()) else some (false,())
def qht_ (x:As [.int .i64,.int .i64]):Option (As [.bool]):=qv9_ x.1 x.2.1
theorem q1hl_:CtOk Tryz.prog (fun _=>True) 162 ⟨q15o_,qht_⟩:=ctn q2_ 6 fun J x=>by kernel_rfl
@[reducible] def q69_:Sh:=⟨[.d (.pr (.int .u8) YTT7)],[],[.pr (.int .u8) YTT7],[.d (.bool)],[],0,[.bool]⟩
def qt0_:Env:=(cts [(106,(⟨qt3_,qah_⟩:Ct)),(162,(⟨q15o_,qht_⟩:Ct))])
def qt6_:List (Nat×Hint):=[(30,⟨[],[1,3,47,52,53,54,55,56,57,58,59,60,61,62]⟩),(14,⟨[],[1,3,22,31,32,33,34,35,36,37,40,41,42,43,44,45,46,52,53,54,55,56,57,58,59,60,61,62]⟩)]
def qyl_ (t22:Bool) (a a_2 a_3 a_4:Int) (a_5:List Int) (a_6:List Bool) (s s_2 s_3:Int) (s_4 s_5:Bool):St:=⟨[(1,.pb 0 0),(3,.pb 1 0),(22,dB t22)],64,[],[(0,.box 27 [d8 a,d6 a_2,d6 a_3,d6 a_4,dW a_5,.d (.sl .bool) a_6]),(1,.box 151 [dI s,dI s_2,dI s_3,dB s_4,dB s_5])],2,[],0⟩
def qzf_ (t47:Bool) (a a_2 a_3 a_4:Int) (a_5:List Int) (a_6:List Bool) (s s_2 s_3:Int) (s_4 s_5:Bool):St:=⟨[(1,.pb 0 0),(3,.pb 1 0),(47,dB t47)],64,[],[(0,.box 27 [d8 a,d6 a_2,d6 a_3,d6 a_4,dW a_5,.d (.sl .bool) a_6]),(1,.box 151 [dI s,dI s_2,dI s_3,dB s_4,dB s_5])],2,[],0⟩
@[reducible] def zE6:Type:=Bool->Int->Int->Int->Int->List Int->List Bool->Int->Int->Int->Bool->Bool->Option (As [.bool])
def qyr_ (j2:zE6) (t22:Bool) (a a_2 a_3 a_4:Int) (a_5:List Int) (a_6:List Bool) (s s_2 s_3:Int) (s_4 s_5:Bool):Option (As [.bool]) :=
 if t22=true then some (false,()) else zC (qht_ (cvt .i64 a_3,s,())) fun y=>if (!y.1)=true then j2 true a a_2 a_3 a_4 a_5 a_6 s s_2 s_3 s_4 s_5 else zC (qht_ (zF (zG a_6),s_2,())) fun y=>if (!y.1)=true then j2 true a a_2 a_3 a_4 a_5 a_6 s s_2 s_3 s_4 s_5 else zC (qht_ (zF (zG a_5),s_3,())) fun y=>j2 (!y.1) a a_2 a_3 a_4 a_5 a_6 s s_2 s_3 s_4 s_5
def qyc_ (t47:Bool) (a a_2 a_3 a_4:Int) (a_5:List Int) (a_6:List Bool) (s s_2 s_3:Int) (s_4 s_5:Bool):Option (As [.bool]) :=
 if t47=true then some (false,()) else if (!s_5)=true then some (true,()) else some (eqi (add .i64 (zF (zG a_6)) (zF (zG a_5))) (cvt .i64 a_3),())
@[reducible] def zE7:Type:=Int×Int×Int×Int×List Int×List Bool
def qo3_ (j1:zE6) (a:zE7):Option (As [.bool]) :=
 zC (qah_ (a.1,())) fun y=>if (!y.2.1)=true then j1 true a.1 a.2.1 a.2.2.1 a.2.2.2.1 a.2.2.2.2.1 a.2.2.2.2.2 y.1.1 y.1.2.1 y.1.2.2.1 y.1.2.2.2.1 y.1.2.2.2.2 else if (!y.1.2.2.2.1)=true then j1 (nei a.2.2.2.1 0) a.1 a.2.1 a.2.2.1 a.2.2.2.1 a.2.2.2.2.1 a.2.2.2.2.2 y.1.1 y.1.2.1 y.1.2.2.1 y.1.2.2.2.1 y.1.2.2.2.2 else j1 false a.1 a.2.1 a.2.2.1 a.2.2.2.1 a.2.2.2.2.1 a.2.2.2.2.2 y.1.1 y.1.2.1 y.1.2.2.1 y.1.2.2.2.1 y.1.2.2.2.2
def qq6_:=qyc_
def qh0_:=qyr_ (qq6_)
def q5h_ (x:As [.pr (.int .u8) YTT7]):Option (As [.bool]):=qo3_ qh0_ x.1
abbrev ask_Right_P:=zp qt0_ qt6_ 105 q69_
theorem q1ke_ {J a b c d e f g h i j k l}:ask_Right_P J 30 [] (qzf_ a b c d e f g h i j k l)=qyc_ a b c d e f g h i j k l:=by kernel_rfl
theorem q1ln_ {J a b c d e f g h i j k l}:ask_Right_P J 14 [] (qyl_ a b c d e f g h i j k l)=qyr_ (C (J 30 []) qzf_) a b c d e f g h i j k l:=by kernel_rfl
theorem q1kv_ (J:Orc (As [.bool])) (x:As [.pr (.int .u8) YTT7]):rfn Tryz.prog qt0_ 6 18446744073709551616 (Ev.get qt6_) 105 q69_ J x=qo3_ (C (J 14 []) qyl_) x.1:=by kernel_rfl
abbrev ask_Right_J:=zj qt0_ qt6_ 105 q69_
theorem q1k3_:C (ask_Right_J 30 []) qzf_=qq6_:=gNC (by decide) fun _=>q1ke_
theorem q1jg_:C (ask_Right_J 14 []) qyl_=qh0_:=gNC (by decide) fun _=>q1ln_.trans (by rw [q1k3_] <;> kernel_rfl)
theorem q1nb_ (x:As [.pr (.int .u8) YTT7]):evT Tryz.prog qt0_ 6 18446744073709551616 (Ev.get qt6_) 105 q69_ x=q5h_ x:=by
 rw [qb_,q1kv_,q1jg_] <;> rfl
theorem qgg_:CtOk Tryz.prog (fun _=>True) 105 ⟨q69_,q5h_⟩:=q7_ (q0_ qoo_ (q0_ q1hl_ q2_)) q1nb_
@[reducible] def q1ff_:Sh:=⟨[.d (.pr (.int .u8) YTT7)],[],[.pr (.int .u8) YTT7],[.d (.pr (.int .u8) YTT7)],[],0,[.pr (.int .u8) YTT7]⟩
def qql_ (a:zE7):Option (As [.pr (.int .u8) YTT7]) :=
 zC (qc_ (a.2.2.2.2.1,())) fun y=>zC (q2m_ (a.2.2.2.2.2,())) fun y_1=>some ((a.1,a.2.1,a.2.2.1,a.2.2.2.1,y.1,y_1.1),())
def qtp_ (x:As [.pr (.int .u8) YTT7]):Option (As [.pr (.int .u8) YTT7]):=qql_ x.1
theorem q12v_:CtOk Tryz.prog (fun _=>True) 170 ⟨q1ff_,qtp_⟩:=ctn (q0_ q1h_ (q0_ qcc_ q2_)) 6 fun J x=>by kernel_rfl
@[reducible] def q1b5_:Sh:=⟨[.d (.pr (.int .u8) YTT0)],[],[.pr (.int .u8) YTT0],[.d (.pr (.int .u8) YTT0)],[],0,[.pr (.int .u8) YTT0]⟩
def q10n_ (p:zE0):Option (As [.pr (.int .u8) YTT0]) :=
 zC (qtp_ (p.2.2.2.2.2.1,())) fun y=>some ((p.1,p.2.1,p.2.2.1,p.2.2.2.1,p.2.2.2.2.1,y.1,p.2.2.2.2.2.2),())
def qdk_ (x:As [.pr (.int .u8) YTT0]):Option (As [.pr (.int .u8) YTT0]):=q10n_ x.1
theorem q10u_:CtOk Tryz.prog (fun _=>True) 114 ⟨q1b5_,qdk_⟩:=ctn (q0_ q12v_ q2_) 6 fun J x=>by kernel_rfl
@[reducible] def q9w_:Sh:=⟨[.row 0,.d (.sl (.int .u16))],[.row (.int .u8) 5],[.sl (.int .u16),.sl (.int .u8)],[.row 1],[(1,.row (.int .u8) 5)],1,[.sl (.int .u8)]⟩
def qkh_:Env:=(cts [])
def qlk_:List (Nat×Hint):=[(26,⟨[.unl 0],[0,7,8,9]⟩)]
def qic_ (t7:List Int) (t8 t9:Int) (out:List Int):St:=⟨[(0,.row 1),(7,dW t7),(8,dI t8),(9,dI t9)],23,[],[(1,.row (.int .u8) 5 out)],2,[],1⟩
@[reducible] def zE8:Type:=List Int->Int->Int->List Int->Option (As [.sl (.int .u8)])
def q87_ (self1:zE8) (t7:List Int) (t8 t9:Int) (out:List Int):Option (As [.sl (.int .u8)]) :=
 if lt t9 t8=true then zC (at? t7 t9) fun y=>need (small (zG out + Nat.succ (Nat.succ 0))) (self1 t7 t8 (add .i64 t9 1) (out++[cvt .u8 (Sx.shr .u16 y 8),cvt .u8 y])) else some (out,())
def qhi_ (j1:zE8) (out l:List Int):Option (As [.sl (.int .u8)]) :=
 j1 out (zF (zG out)) 0 l
def qci_ (t7:List Int) (t8 t9:Int) (out:List Int):Option (As [.sl (.int .u8)]) :=
 loopF (fun self s=>q87_ (fun t7 t8 t9 out=>self (t7,t8,t9,out)) s.1 s.2.1 s.2.2.1 s.2.2.2) 18446744073709551616 (t7,t8,t9,out)
def q1d_ (x:As [.sl (.int .u16),.sl (.int .u8)]):Option (As [.sl (.int .u8)]):=qhi_ qci_ x.1 x.2.1
abbrev ask_numbers_P:=zp qkh_ qlk_ 107 q9w_
theorem q1db_ {J w1 a b c d}:ask_numbers_P J 26 [w1] (qic_ a b c d)=q87_ (C w1 qic_) a b c d:=by kernel_rfl
theorem q1c6_ (J:Orc (As [.sl (.int .u8)])) (x:As [.sl (.int .u16),.sl (.int .u8)]):rfn Tryz.prog qkh_ 6 18446744073709551616 (Ev.get qlk_) 107 q9w_ J x=qhi_ (C (J 26 []) qic_) x.1 x.2.1:=by kernel_rfl
abbrev ask_numbers_J:=zj qkh_ qlk_ 107 q9w_
theorem q1dg_:C (ask_numbers_J 26 []) qic_=qci_:=gLC (by decide) (by kernel_rfl) (fun _=>by unfold qci_; rfl) fun _ _=>q1db_.trans (by kernel_rfl)
theorem q1fj_ (x:As [.sl (.int .u16),.sl (.int .u8)]):evT Tryz.prog qkh_ 6 18446744073709551616 (Ev.get qlk_) 107 q9w_ x=q1d_ x:=by
 rw [qb_,q1c6_,q1dg_] <;> rfl
theorem q1f1_:CtOk Tryz.prog (fun _=>True) 107 ⟨q9w_,q1d_⟩:=q7_ q2_ q1fj_
@[reducible] def qhs_:Sh:=⟨[.d (.sl .bool)],[],[.sl .bool],[.d (.sl (.int .u8))],[],0,[.sl (.int .u8)]⟩
def qwo_:Env:=(cts [])
def qwh_:List (Nat×Hint):=[(7,⟨[],[0,3]⟩),(250,⟨[],[4,18,19,20]⟩)]
def q112_ (bits:List Bool) (n:Int):St:=⟨[(0,.d (.sl .bool) bits),(3,dI n)],38,[],[],0,[],0⟩
def qtk_ (t18:List Bool) (t19 t20:Int) (out:List Int):St:=⟨[(4,.row 0),(18,.d (.sl .bool) t18),(19,dI t19),(20,dI t20)],38,[],[(0,.row (.int .u8) 5 out)],1,[],0⟩
@[reducible] def zE9:Type:=List Bool->Int->Int->List Int->Option (As [.sl (.int .u8)])
def q116_ (j2:zE9) (bits:List Bool) (n:Int):Option (As [.sl (.int .u8)]) :=
 need (ge n 0) (need (Ev.capOk n n) (need (small (zI n)) (j2 bits (zF (zG bits)) 0 (zE (zI n) 0))))
def qf1_ (self2:zE9) (t18:List Bool) (t19 t20:Int) (out:List Int):Option (As [.sl (.int .u8)]) :=
 if lt t20 t19=true then zC (at? t18 t20) fun y=>if y=true then zC (at? out (quo .i64 t20 8)) fun x=>zC (at? out (quo .i64 t20 8)) fun y=>need (ge (rem t20 8) 0) (zC (at? out (quo .i64 t20 8)) fun x=>zC (at? out (quo .i64 t20 8)) fun x=>self2 t18 t19 (add .i64 t20 1) (List.set out (zI (quo .i64 t20 8)) (Sx.bor .u8 y (Sx.shl .u8 1 (rem t20 8))))) else self2 t18 t19 (add .i64 t20 1) out else some (out,())
def qsr_ (j1:List Bool->Int->Option (As [.sl (.int .u8)])) (bits:List Bool):Option (As [.sl (.int .u8)]) :=
 if gt (rem (zF (zG bits)) 8) 0=true then j1 bits (add .i64 (quo .i64 (zF (zG bits)) 8) 1) else j1 bits (quo .i64 (zF (zG bits)) 8)
def qt9_ (t18:List Bool) (t19 t20:Int) (out:List Int):Option (As [.sl (.int .u8)]) :=
 loopF (fun self s=>qf1_ (fun t18 t19 t20 out=>self (t18,t19,t20,out)) s.1 s.2.1 s.2.2.1 s.2.2.2) 18446744073709551616 (t18,t19,t20,out)
def qjj_:=q116_ (qt9_)
def qm7_ (x:As [.sl .bool]):Option (As [.sl (.int .u8)]):=qsr_ qjj_ x.1
abbrev ask_Pack_P:=zp qwo_ qwh_ 108 qhs_
theorem q1nw_ {J w2 a b c d}:ask_Pack_P J 250 [w2] (qtk_ a b c d)=qf1_ (C w2 qtk_) a b c d:=by kernel_rfl
theorem q1nc_ {J a b}:ask_Pack_P J 7 [] (q112_ a b)=q116_ (C (J 250 []) qtk_) a b:=by kernel_rfl
theorem q1o4_ (J:Orc (As [.sl (.int .u8)])) (x:As [.sl .bool]):rfn Tryz.prog qwo_ 6 18446744073709551616 (Ev.get qwh_) 108 qhs_ J x=qsr_ (C (J 7 []) q112_) x.1:=by kernel_rfl
abbrev ask_Pack_J:=zj qwo_ qwh_ 108 qhs_
theorem q1nz_:C (ask_Pack_J 250 []) qtk_=qt9_:=gLC (by decide) (by kernel_rfl) (fun _=>by unfold qt9_; rfl) fun _ _=>q1nw_.trans (by kernel_rfl)
theorem q1no_:C (ask_Pack_J 7 []) q112_=qjj_:=gNC (by decide) fun _=>q1nc_.trans (by rw [q1nz_] <;> kernel_rfl)
theorem q1oe_ (x:As [.sl .bool]):evT Tryz.prog qwo_ 6 18446744073709551616 (Ev.get qwh_) 108 qhs_ x=qm7_ x:=by
 rw [qb_,q1o4_,q1no_] <;> rfl
theorem q18q_:CtOk Tryz.prog (fun _=>True) 108 ⟨qhs_,qm7_⟩:=q7_ q2_ q1oe_
@[reducible] def qba_:Sh:=⟨[.d (.pr (.int .u8) YTT7)],[],[.pr (.int .u8) YTT7],[.d (.sl (.int .u8)),.d (.int .i64)],[],0,[.sl (.int .u8),.int .i64]⟩
def qt4_:Env:=(cts [(105,(⟨q69_,q5h_⟩:Ct)),(106,(⟨qt3_,qah_⟩:Ct)),(107,(⟨q9w_,q1d_⟩:Ct)),(108,(⟨qhs_,qm7_⟩:Ct))])
def qu4_:List (Nat×Hint):=[(31,⟨[],[1,4,6,48,49,50,51]⟩),(63,⟨[],[1,4,6,48,49,50,51]⟩),(127,⟨[],[6]⟩),(508,⟨[],[1,4,6,43]⟩)]
def qz2_ (a a_2 a_3 a_4:Int) (a_5:List Int) (a_6:List Bool) (s s_2 s_3:Int) (s_4 s_5:Bool) (out:List Int):St:=⟨[(1,.pb 0 0),(4,.pb 1 0),(6,.row 2)],102,[],[(0,.box 27 [d8 a,d6 a_2,d6 a_3,d6 a_4,dW a_5,.d (.sl .bool) a_6]),(1,.box 151 [dI s,dI s_2,dI s_3,dB s_4,dB s_5]),(2,.row (.int .u8) 5 out)],3,[],0⟩
def qyn_ (a a_2 a_3 a_4:Int) (a_5:List Int) (a_6:List Bool) (s s_2 s_3:Int) (s_4 s_5:Bool) (out:List Int):St:=⟨[(1,.pb 0 0),(4,.pb 1 0),(6,.row 2)],102,[],[(0,.box 27 [d8 a,d6 a_2,d6 a_3,d6 a_4,dW a_5,.d (.sl .bool) a_6]),(1,.box 151 [dI s,dI s_2,dI s_3,dB s_4,dB s_5]),(2,.row (.int .u8) 5 out)],3,[],0⟩
def qz4_ (t43:Bool) (a a_2 a_3 a_4:Int) (a_5:List Int) (a_6:List Bool) (s s_2 s_3:Int) (s_4 s_5:Bool) (out:List Int):St:=⟨[(1,.pb 0 0),(4,.pb 1 0),(6,.row 2),(43,dB t43)],102,[],[(0,.box 27 [d8 a,d6 a_2,d6 a_3,d6 a_4,dW a_5,.d (.sl .bool) a_6]),(1,.box 151 [dI s,dI s_2,dI s_3,dB s_4,dB s_5]),(2,.row (.int .u8) 5 out)],3,[],0⟩
def qyq_ (out:List Int):St:=⟨[(6,.row 0)],102,[],[(0,.row (.int .u8) 5 out)],1,[],0⟩
@[reducible] def zE10:Type:=Int->Int->Int->Int->List Int->List Bool->Int->Int->Int->Bool->Bool->List Int->Option (As [.sl (.int .u8),.int .i64])
def q164_ (j2:zE10) (a a_2 a_3 a_4:Int) (a_5:List Int) (a_6:List Bool) (s s_2 s_3:Int) (s_4 s_5:Bool) (out:List Int):Option (As [.sl (.int .u8),.int .i64]) :=
 if s_4=true then zC (q1d_ ([a_4,cvt .u16 (zF (zG a_5))],out,())) fun y=>j2 a a_2 a_3 a_4 a_5 a_6 s s_2 s_3 s_4 s_5 y.1 else j2 a a_2 a_3 a_4 a_5 a_6 s s_2 s_3 s_4 s_5 out
def q16l_ (j3:Bool->Int->Int->Int->Int->List Int->List Bool->Int->Int->Int->Bool->Bool->List Int->Option (As [.sl (.int .u8),.int .i64])) (a a_2 a_3 a_4:Int) (a_5:List Int) (a_6:List Bool) (s s_2 s_3:Int) (s_4 s_5:Bool) (out:List Int):Option (As [.sl (.int .u8),.int .i64]) :=
 if eqi a 5=true then zC (at? a_6 0) fun y=>j3 y a a_2 a_3 a_4 a_5 a_6 s s_2 s_3 s_4 s_5 out else j3 false a a_2 a_3 a_4 a_5 a_6 s s_2 s_3 s_4 s_5 out
def q163_ (j4:List Int->Option (As [.sl (.int .u8),.int .i64])) (t43:Bool) (a a_2 a_3 a_4:Int) (a_5:List Int) (a_6:List Bool) (s s_2 s_3:Int) (s_4 s_5:Bool) (out:List Int):Option (As [.sl (.int .u8),.int .i64]) :=
 if t43=true then zC (q1d_ ([65280],out,())) fun y=>j4 y.1 else if eqi a 5=true then zC (q1d_ ([0],out,())) fun y=>j4 y.1 else if eqi a 6=true then zC (q1d_ (a_5,out,())) fun y=>j4 y.1 else if gt s_2 0=true then zC (qm7_ (a_6,())) fun y=>need (small (zG out + Nat.succ 0)) (need (small (zG (out++[cvt .u8 (zF (zG y.1))]) + zG y.1)) (j4 (out++[cvt .u8 (zF (zG y.1))]++y.1))) else if gt s_3 0=true then need (small (zG out + Nat.succ 0)) (zC (q1d_ (a_5,out++[cvt .u8 (mul .i64 2 (zF (zG a_5)))],())) fun y=>j4 y.1) else j4 out
def q180_ (out:List Int):Option (As [.sl (.int .u8),.int .i64]) :=
 some (out,0,())
def qq2_ (j1:zE10) (a:zE7):Option (As [.sl (.int .u8),.int .i64]) :=
 zC (q5h_ (a,())) fun y=>if (!y.1)=true then some ([],12,()) else zC (qah_ (a.1,())) fun y=>zC (q1d_ ([a.2.1],[a.1],())) fun y_1=>if gt y.1.1 0=true then zC (q1d_ ([a.2.2.1],y_1.1,())) fun y_2=>j1 a.1 a.2.1 a.2.2.1 a.2.2.2.1 a.2.2.2.2.1 a.2.2.2.2.2 y.1.1 y.1.2.1 y.1.2.2.1 y.1.2.2.2.1 y.1.2.2.2.2 y_2.1 else j1 a.1 a.2.1 a.2.2.1 a.2.2.2.1 a.2.2.2.2.1 a.2.2.2.2.2 y.1.1 y.1.2.1 y.1.2.2.1 y.1.2.2.2.1 y.1.2.2.2.2 y_1.1
def q15g_:=q180_
def q17j_:=q163_ (q15g_)
def q17d_:=q16l_ (q17j_)
def q6i_:=q164_ (q17d_)
def q6o_ (x:As [.pr (.int .u8) YTT7]):Option (As [.sl (.int .u8),.int .i64]):=qq2_ q6i_ x.1
abbrev ask_Bytes_P:=zp qt4_ qu4_ 50 qba_
theorem q1iy_ {J a}:ask_Bytes_P J 127 [] (qyq_ a)=q180_ a:=by kernel_rfl
theorem q1ji_ {J a b c d e f g h i j k l m}:ask_Bytes_P J 508 [] (qz4_ a b c d e f g h i j k l m)=q163_ (C (J 127 []) qyq_) a b c d e f g h i j k l m:=by kernel_rfl
theorem q1l6_ {J a b c d e f g h i j k l}:ask_Bytes_P J 63 [] (qyn_ a b c d e f g h i j k l)=q16l_ (C (J 508 []) qz4_) a b c d e f g h i j k l:=by kernel_rfl
theorem q1jn_ {J a b c d e f g h i j k l}:ask_Bytes_P J 31 [] (qz2_ a b c d e f g h i j k l)=q164_ (C (J 63 []) qyn_) a b c d e f g h i j k l:=by kernel_rfl
theorem q1mb_ (J:Orc (As [.sl (.int .u8),.int .i64])) (x:As [.pr (.int .u8) YTT7]):rfn Tryz.prog qt4_ 6 18446744073709551616 (Ev.get qu4_) 50 qba_ J x=qq2_ (C (J 31 []) qz2_) x.1:=by kernel_rfl
abbrev ask_Bytes_J:=zj qt4_ qu4_ 50 qba_
theorem q1l9_:C (ask_Bytes_J 127 []) qyq_=q15g_:=gNC (by decide) fun _=>q1iy_
theorem q1k2_:C (ask_Bytes_J 508 []) qz4_=q17j_:=gNC (by decide) fun _=>q1ji_.trans (by rw [q1l9_] <;> kernel_rfl)
theorem q1lk_:C (ask_Bytes_J 63 []) qyn_=q17d_:=gNC (by decide) fun _=>q1l6_.trans (by rw [q1k2_] <;> kernel_rfl)
theorem q1lj_:C (ask_Bytes_J 31 []) qz2_=q6i_:=gNC (by decide) fun _=>q1jn_.trans (by rw [q1lk_] <;> kernel_rfl)
theorem q1n2_ (x:As [.pr (.int .u8) YTT7]):evT Tryz.prog qt4_ 6 18446744073709551616 (Ev.get qu4_) 50 qba_ x=q6o_ x:=by
 rw [qb_,q1mb_,q1lj_] <;> rfl
theorem qpj_:CtOk Tryz.prog (fun _=>True) 50 ⟨qba_,q6o_⟩:=q7_ (q0_ qgg_ (q0_ qoo_ (q0_ q1f1_ (q0_ q18q_ q2_)))) q1n2_
@[reducible] def qex_:Sh:=⟨[.d (.pr (.int .u16) YTT20)],[],[.pr (.int .u16) YTT20],[.d (.sl (.int .u8)),.d (.int .i64)],[],0,[.sl (.int .u8),.int .i64]⟩
def qtb_:Env:=(cts [])
def qso_:List (Nat×Hint):=[(14,⟨[],[1,4,14]⟩)]
def qya_ (n:Int) (t14:Bool) (x:Int×Int×List Int):St:=⟨[(1,.pb 0 0),(4,dI n),(14,dB t14)],37,[],[(0,.box 129 [d6 x.1,d8 x.2.1,dL x.2.2])],1,[],0⟩
def qps_ (n:Int) (t14:Bool) (x:Int×Int×List Int):Option (As [.sl (.int .u8),.int .i64]) :=
 if t14=true then some ([],2,()) else need (Ev.capOk 0 (add .i64 7 n)) (need (small (zI (add .i64 7 n))) (need (small (0 + Nat.succ (Nat.succ (Nat.succ (Nat.succ (Nat.succ (Nat.succ (Nat.succ 0)))))))) (need (small (Nat.succ (Nat.succ (Nat.succ (Nat.succ (Nat.succ (Nat.succ (Nat.succ 0)))))) + zG x.2.2)) (some (cvt .u8 (Sx.shr .u16 x.1 8)::cvt .u8 x.1::0::0::0::cvt .u8 (add .i64 n 1)::x.2.1::x.2.2,0,())))))
def qou_ (j1:Int->Bool->Int×Int×List Int->Option (As [.sl (.int .u8),.int .i64])) (x:Int×Int×List Int):Option (As [.sl (.int .u8),.int .i64]) :=
 if lt (zF (zG x.2.2)) 1=true then j1 (zF (zG x.2.2)) true x else j1 (zF (zG x.2.2)) (gt (zF (zG x.2.2)) 253) x
def qyk_:=qps_
def qmw_ (x:As [.pr (.int .u16) YTT20]):Option (As [.sl (.int .u8),.int .i64]):=qou_ qyk_ x.1
abbrev mbap_Pack_P:=zp qtb_ qso_ 100 qex_
theorem q1io_ {J a b c}:mbap_Pack_P J 14 [] (qya_ a b c)=qps_ a b c:=by kernel_rfl
theorem q1ks_ (J:Orc (As [.sl (.int .u8),.int .i64])) (x:As [.pr (.int .u16) YTT20]):rfn Tryz.prog qtb_ 6 18446744073709551616 (Ev.get qso_) 100 qex_ J x=qou_ (C (J 14 []) qya_) x.1:=by kernel_rfl
abbrev mbap_Pack_J:=zj qtb_ qso_ 100 qex_
theorem q1ie_:C (mbap_Pack_J 14 []) qya_=qyk_:=gNC (by decide) fun _=>q1io_
theorem q1mz_ (x:As [.pr (.int .u16) YTT20]):evT Tryz.prog qtb_ 6 18446744073709551616 (Ev.get qso_) 100 qex_ x=qmw_ x:=by
 rw [qb_,q1ks_,q1ie_] <;> rfl
theorem q15i_:CtOk Tryz.prog (fun _=>True) 100 ⟨qex_,qmw_⟩:=q7_ q2_ q1mz_
@[reducible] def q19u_:Sh:=⟨[.d (.un),.d (.int .u8),.d (.int .u16),.d (.pr (.int .u8) YTT7)],[],[.un,.int .u8,.int .u16,.pr (.int .u8) YTT7],[.d (.sl (.int .u8))],[],0,[.sl (.int .u8)]⟩
def qj1_ (v:Unit) (unit tx:Int) (a:zE7):Option (As [.sl (.int .u8)]) :=
 zC (q6o_ (a,())) fun y=>if nei y.2.1 0=true then some ([],()) else zC (qmw_ ((tx,unit,y.1),())) fun y=>if nei y.2.1 0=true then some ([],()) else some (y.1,())
def qqx_ (x:As [.un,.int .u8,.int .u16,.pr (.int .u8) YTT7]):Option (As [.sl (.int .u8)]):=qj1_ x.1 x.2.1 x.2.2.1 x.2.2.2.1
theorem q18e_:CtOk Tryz.prog (fun _=>True) 338 ⟨q19u_,qqx_⟩:=ctn (q0_ qpj_ (q0_ q15i_ q2_)) 6 fun J x=>by kernel_rfl
@[reducible] def q1bh_:Sh:=⟨[.d (.un),.d (.int .u16)],[],[.un,.int .u16],[.d (.int .u16)],[],0,[.int .u16]⟩
def q19m_ (v:Unit) (tx:Int):Option (As [.int .u16]) :=
 some (add .u16 tx 1,())
def qwd_ (x:As [.un,.int .u16]):Option (As [.int .u16]):=q19m_ x.1 x.2.1
theorem q18u_:CtOk Tryz.prog (fun _=>True) 339 ⟨q1bh_,qwd_⟩:=ctn q2_ 6 fun J x=>by kernel_rfl
@[reducible] def qet_:Sh:=⟨[],[],[],[.d (.ar 16 (.int .u16))],[],0,[.ar 16 (.int .u16)]⟩
def qsv_:Env:=(cts [])
def qst_:List (Nat×Hint):=[(58,⟨[],[0,1,5]⟩),(7475,⟨[],[0,1,2,3,5]⟩),(59802,⟨[],[0,1,2,3,5,10]⟩)]
def q6m_ (t5:Int) (t0 t:List Int):St:=⟨[(0,.pb 0 0),(1,.pb 1 0),(5,dI t5)],26,[],[(0,.row (.int .u16) 213 t0),(1,.row (.int .u16) 213 t)],2,[],0⟩
def qpx_ (i x t5 t10:Int) (t0 t:List Int):St:=⟨[(0,.pb 0 0),(1,.pb 1 0),(2,dI i),(3,d6 x),(5,dI t5),(10,dI t10)],26,[],[(0,.row (.int .u16) 213 t0),(1,.row (.int .u16) 213 t)],2,[],0⟩
def qyp_ (i x t5:Int) (t0 t:List Int):St:=⟨[(0,.pb 0 0),(1,.pb 1 0),(2,dI i),(3,d6 x),(5,dI t5)],26,[],[(0,.row (.int .u16) 213 t0),(1,.row (.int .u16) 213 t)],2,[],0⟩
@[reducible] def zE11:Type:=Int->Int->Int->Int->List Int->List Int->Option (As [.ar 16 (.int .u16)])
@[reducible] def zE12:Type:=Int->List Int->List Int->Option (As [.ar 16 (.int .u16)])
def q16x_ (j2:zE11) (self1:zE12) (t5:Int) (t0 t:List Int):Option (As [.ar 16 (.int .u16)]) :=
 if lt t5 16=true then j2 t5 (cvt .u16 t5) t5 0 t0 t else need (eqi (zF (zG t)) 16) (need (eqi (zF (zG t0)) (zF (zG t))) (need (eqi 16 (zF (zG t * 1))) (need (eqi (zF (zG t)) 16) (need (eqi (zF (zG t)) 16) (some (t,()))))))
def q15t_ (j3:Int->Int->Int->List Int->List Int->Option (As [.ar 16 (.int .u16)])) (self1:zE12) (self2:zE11) (i x t5 t10:Int) (t0 t:List Int):Option (As [.ar 16 (.int .u16)]) :=
 if lt t10 4=true then if eqi (Sx.band .u16 x 1) 1=true then self2 i (Sx.bxor .u16 (Sx.shr .u16 x 1) 40961) t5 (add .i64 t10 1) t0 t else self2 i (Sx.shr .u16 x 1) t5 (add .i64 t10 1) t0 t else j3 i x t5 t0 t
def q15n_ (self1:zE12) (i x t5:Int) (t0 t:List Int):Option (As [.ar 16 (.int .u16)]) :=
 need (lt i 16) (zC (at? t i) fun x_1=>zC (at? t i) fun x_2=>self1 (add .i64 t5 1) t0 (List.set t (zI i) x))
def q170_ (j1:zE12):Option (As [.ar 16 (.int .u16)]) :=
 j1 0 (zE 16 0) (zE 16 0)
def q16j_ (u1:zE12):=q15n_ u1
def qye_ (u1:zE12) (i x t5 t10:Int) (t0 t:List Int):Option (As [.ar 16 (.int .u16)]) :=
 loopF (fun self s=>q15t_ (q16j_ u1) u1 (fun i x t5 t10 t0 t=>self (i,x,t5,t10,t0,t)) s.1 s.2.1 s.2.2.1 s.2.2.2.1 s.2.2.2.2.1 s.2.2.2.2.2) 18446744073709551616 (i,x,t5,t10,t0,t)
def qxu_ (t5:Int) (t0 t:List Int):Option (As [.ar 16 (.int .u16)]) :=
 loopF (fun self s=>q16x_ (qye_ (fun t5 t0 t=>self (t5,t0,t))) (fun t5 t0 t=>self (t5,t0,t)) s.1 s.2.1 s.2.2) 18446744073709551616 (t5,t0,t)
def quj_ (x:As []):Option (As [.ar 16 (.int .u16)]):=q170_ qxu_
abbrev crc_table_P:=zp qsv_ qst_ 156 qet_
theorem q1kk_ {J w1 a b c d e}:crc_table_P J 7475 [w1] (qyp_ a b c d e)=q15n_ (C w1 q6m_) a b c d e:=by kernel_rfl
theorem q1l8_ {J w1 w2 a b c d e f}:crc_table_P J 59802 [w1,w2] (qpx_ a b c d e f)=q15t_ (C (J 7475 [w1]) qyp_) (C w1 q6m_) (C w2 qpx_) a b c d e f:=by kernel_rfl
theorem q1lp_ {J w1 a b c}:crc_table_P J 58 [w1] (q6m_ a b c)=q16x_ (C (J 59802 [w1]) qpx_) (C w1 q6m_) a b c:=by kernel_rfl
theorem q1kt_ (J:Orc (As [.ar 16 (.int .u16)])) (x:As []):rfn Tryz.prog qsv_ 6 18446744073709551616 (Ev.get qst_) 156 qet_ J x=q170_ (C (J 58 []) q6m_):=by kernel_rfl
abbrev crc_table_J:=zj qsv_ qst_ 156 qet_
theorem q1iu_ {w1}:C (crc_table_J 7475 [w1]) qyp_=q16j_ (C w1 q6m_):=gNC (by decide) fun _=>q1kk_
theorem q1ih_ {w1}:C (crc_table_J 59802 [w1]) qpx_=qye_ (C w1 q6m_):=gLC (by decide) (by kernel_rfl) (fun _=>by unfold qye_; rfl) fun _ _=>q1l8_.trans (by rw [q1iu_] <;> kernel_rfl)
theorem q1jt_:C (crc_table_J 58 []) q6m_=qxu_:=gLC (by decide) (by kernel_rfl) (fun _=>by unfold qxu_; rfl) fun _ _=>q1lp_.trans (by rw [q1ih_] <;> kernel_rfl)
theorem q1mq_ (x:As []):evT Tryz.prog qsv_ 6 18446744073709551616 (Ev.get qst_) 156 qet_ x=quj_ x:=by
 rw [qb_,q1kt_,q1jt_] <;> rfl
theorem q1l7_:CtOk Tryz.prog (fun _=>True) 156 ⟨qet_,quj_⟩:=q7_ q2_ q1mq_
@[reducible] def q1b1_:Sh:=⟨[.pb 0 0,.d (.int .u16),.d (.int .u8)],[.row (.int .u16) 213],[.int .u16,.int .u8,.sl (.int .u16)],[.d (.int .u16)],[(0,.row (.int .u16) 213)],0,[.int .u16,.sl (.int .u16)]⟩
def q11e_ (t sum:Int) (c:List Int):Option (As [.int .u16,.sl (.int .u16)]) :=
 need (lt (Sx.band .u16 (Sx.bxor .u16 t (cvt .u16 sum)) 15) 16) (zC (at? c (Sx.band .u16 (Sx.bxor .u16 t (cvt .u16 sum)) 15)) fun x=>zC (at? c (Sx.band .u16 (Sx.bxor .u16 t (cvt .u16 sum)) 15)) fun y=>need (lt (Sx.band .u16 (Sx.bxor .u16 (Sx.shr .u16 (Sx.bxor .u16 t (cvt .u16 sum)) 4) y) 15) 16) (zC (at? c (Sx.band .u16 (Sx.bxor .u16 (Sx.shr .u16 (Sx.bxor .u16 t (cvt .u16 sum)) 4) y) 15)) fun x=>zC (at? c (Sx.band .u16 (Sx.bxor .u16 (Sx.shr .u16 (Sx.bxor .u16 t (cvt .u16 sum)) 4) y) 15)) fun y_1=>some (Sx.bxor .u16 (Sx.shr .u16 (Sx.bxor .u16 (Sx.shr .u16 (Sx.bxor .u16 t (cvt .u16 sum)) 4) y) 4) y_1,c,())))
def q13c_ (x:As [.int .u16,.int .u8,.sl (.int .u16)]):Option (As [.int .u16,.sl (.int .u16)]):=q11e_ x.1 x.2.1 x.2.2.1
theorem q1n0_:CtOk Tryz.prog (fun _=>True) 157 ⟨q1b1_,q13c_⟩:=ctn q2_ 6 fun J x=>by kernel_rfl
@[reducible] def qur_:Sh:=⟨[.d (.sl (.int .u8))],[],[.sl (.int .u8)],[.d (.int .u16)],[],0,[.int .u16]⟩
def qzw_:Env:=(cts [(156,(⟨qet_,quj_⟩:Ct)),(157,(⟨q1b1_,q13c_⟩:Ct))])
def q103_:List (Nat×Hint):=[(122,⟨[],[0,3,4,8,9]⟩)]
def qwt_ (b:List Int) (sum t8 t9:Int) (t:List Int):St:=⟨[(0,dL b),(3,.pb 0 0),(4,d6 sum),(8,dI t8),(9,dI t9)],20,[],[(0,.row (.int .u16) 213 t)],1,[],0⟩
@[reducible] def zE13:Type:=List Int->Int->Int->Int->List Int->Option (As [.int .u16])
def qhb_ (self1:zE13) (b:List Int) (sum t8 t9:Int) (t:List Int):Option (As [.int .u16]) :=
 if lt t9 t8=true then zC (at? b t9) fun y=>zC (q13c_ (sum,y,t,())) fun y=>self1 b y.1 t8 (add .i64 t9 1) y.2.1 else some (sum,())
def qwu_ (j1:zE13) (b:List Int):Option (As [.int .u16]) :=
 zC (quj_ ()) fun y=>need (eqi 16 (zF (zG y.1))) (need (eqi 16 (zF (zG y.1 * 1))) (j1 b 65535 (zF (zG b)) 0 y.1))
def qot_ (b:List Int) (sum t8 t9:Int) (t:List Int):Option (As [.int .u16]) :=
 loopF (fun self s=>qhb_ (fun b sum t8 t9 t=>self (b,sum,t8,t9,t)) s.1 s.2.1 s.2.2.1 s.2.2.2.1 s.2.2.2.2) 18446744073709551616 (b,sum,t8,t9,t)
def q123_ (x:As [.sl (.int .u8)]):Option (As [.int .u16]):=qwu_ qot_ x.1
abbrev crc_Sum_P:=zp qzw_ q103_ 97 qur_
theorem q1om_ {J w1 a b c d e}:crc_Sum_P J 122 [w1] (qwt_ a b c d e)=qhb_ (C w1 qwt_) a b c d e:=by kernel_rfl
theorem q1of_ (J:Orc (As [.int .u16])) (x:As [.sl (.int .u8)]):rfn Tryz.prog qzw_ 6 18446744073709551616 (Ev.get q103_) 97 qur_ J x=qwu_ (C (J 122 []) qwt_) x.1:=by kernel_rfl
abbrev crc_Sum_J:=zj qzw_ q103_ 97 qur_
theorem q1os_:C (crc_Sum_J 122 []) qwt_=qot_:=gLC (by decide) (by kernel_rfl) (fun _=>by unfold qot_; rfl) fun _ _=>q1om_.trans (by kernel_rfl)
theorem q1p4_ (x:As [.sl (.int .u8)]):evT Tryz.prog qzw_ 6 18446744073709551616 (Ev.get q103_) 97 qur_ x=q123_ x:=by
 rw [qb_,q1of_,q1os_] <;> rfl
theorem q1am_:CtOk Tryz.prog (fun _=>True) 97 ⟨qur_,q123_⟩:=q7_ (q0_ q1l7_ (q0_ q1n0_ q2_)) q1p4_
@[reducible] def q179_:Sh:=⟨[.d (.sl (.int .u8))],[],[.sl (.int .u8)],[.d (.sl (.int .u8))],[],0,[.sl (.int .u8)]⟩
def q13l_ (b:List Int):Option (As [.sl (.int .u8)]) :=
 zC (q123_ (b,())) fun y=>need (Ev.capOk 0 (add .i64 (zF (zG b)) 2)) (need (small (zI (add .i64 (zF (zG b)) 2))) (need (small (0 + zG b)) (need (small (zG b + Nat.succ (Nat.succ 0))) (some (b++[cvt .u8 y.1,cvt .u8 (Sx.shr .u16 y.1 8)],())))))
def qmn_ (x:As [.sl (.int .u8)]):Option (As [.sl (.int .u8)]):=q13l_ x.1
theorem q1bg_:CtOk Tryz.prog (fun _=>True) 47 ⟨q179_,qmn_⟩:=ctn (q0_ q1am_ q2_) 6 fun J x=>by kernel_rfl
@[reducible] def qyf_:Sh:=⟨[.d (.int .u8)],[],[.int .u8],[.d (.bool)],[],0,[.bool]⟩
def qe2_ (unit:Int):Option (As [.bool]) :=
 if ge unit 1=true then some (le unit 247,()) else some (false,())
def qd8_ (x:As [.int .u8]):Option (As [.bool]):=qe2_ x.1
theorem q13x_:CtOk Tryz.prog (fun _=>True) 160 ⟨qyf_,qd8_⟩:=ctn q2_ 6 fun J x=>by kernel_rfl
@[reducible] def qew_:Sh:=⟨[.d (.int .u8),.d (.sl (.int .u8))],[],[.int .u8,.sl (.int .u8)],[.d (.sl (.int .u8)),.d (.int .i64)],[],0,[.sl (.int .u8),.int .i64]⟩
def qtr_:Env:=(cts [(47,(⟨q179_,qmn_⟩:Ct)),(160,(⟨qyf_,qd8_⟩:Ct))])
def qsk_:List (Nat×Hint):=[(6,⟨[],[0,1,18]⟩)]
def qz1_ (unit:Int) (pdu:List Int) (t18:Bool):St:=⟨[(0,d8 unit),(1,dL pdu),(18,dB t18)],24,[],[],0,[],0⟩
def qpc_ (unit:Int) (pdu:List Int) (t18:Bool):Option (As [.sl (.int .u8),.int .i64]) :=
 if t18=true then some ([],2,()) else need (small (Nat.succ 0 + zG pdu)) (zC (qmn_ (unit::pdu,())) fun y=>some (y.1,0,()))
def qox_ (j1:Int->List Int->Bool->Option (As [.sl (.int .u8),.int .i64])) (unit:Int) (pdu:List Int):Option (As [.sl (.int .u8),.int .i64]) :=
 zC (qd8_ (unit,())) fun y=>if (!y.1)=true then j1 unit pdu true else if lt (zF (zG pdu)) 1=true then j1 unit pdu true else j1 unit pdu (gt (zF (zG pdu)) 253)
def qyb_:=qpc_
def qms_ (x:As [.int .u8,.sl (.int .u8)]):Option (As [.sl (.int .u8),.int .i64]):=qox_ qyb_ x.1 x.2.1
abbrev rtu_Bytes_P:=zp qtr_ qsk_ 102 qew_
theorem q1lx_ {J a b c}:rtu_Bytes_P J 6 [] (qz1_ a b c)=qpc_ a b c:=by kernel_rfl
theorem q1kw_ (J:Orc (As [.sl (.int .u8),.int .i64])) (x:As [.int .u8,.sl (.int .u8)]):rfn Tryz.prog qtr_ 6 18446744073709551616 (Ev.get qsk_) 102 qew_ J x=qox_ (C (J 6 []) qz1_) x.1 x.2.1:=by kernel_rfl
abbrev rtu_Bytes_J:=zj qtr_ qsk_ 102 qew_
theorem q1iv_:C (rtu_Bytes_J 6 []) qz1_=qyb_:=gNC (by decide) fun _=>q1lx_
theorem q1o5_ (x:As [.int .u8,.sl (.int .u8)]):evT Tryz.prog qtr_ 6 18446744073709551616 (Ev.get qsk_) 102 qew_ x=qms_ x:=by
 rw [qb_,q1kw_,q1iv_] <;> rfl
theorem q15c_:CtOk Tryz.prog (fun _=>True) 102 ⟨qew_,qms_⟩:=q7_ (q0_ q1bg_ (q0_ q13x_ q2_)) q1o5_
@[reducible] def q1p3_:Sh:=⟨[.d (.int .u8),.d (.pr (.int .u8) YTT7)],[],[.int .u8,.pr (.int .u8) YTT7],[.d (.sl (.int .u8)),.d (.int .i64)],[],0,[.sl (.int .u8),.int .i64]⟩
def q13h_ (unit:Int) (a:zE7):Option (As [.sl (.int .u8),.int .i64]) :=
 zC (q6o_ (a,())) fun y=>if nei y.2.1 0=true then some ([],y.2.1,()) else zC (qms_ (unit,y.1,())) fun y=>some (y.1,y.2.1,())
def q1df_ (x:As [.int .u8,.pr (.int .u8) YTT7]):Option (As [.sl (.int .u8),.int .i64]):=q13h_ x.1 x.2.1
theorem q1oj_:CtOk Tryz.prog (fun _=>True) 344 ⟨q1p3_,q1df_⟩:=ctn (q0_ qpj_ (q0_ q15c_ q2_)) 6 fun J x=>by kernel_rfl
@[reducible] def q14o_:Sh:=⟨[.d (.un),.d (.int .u8),.d (.int .u16),.d (.pr (.int .u8) YTT7)],[],[.un,.int .u8,.int .u16,.pr (.int .u8) YTT7],[.d (.sl (.int .u8))],[],0,[.sl (.int .u8)]⟩
def qdv_ (v:Unit) (unit tx:Int) (a:zE7):Option (As [.sl (.int .u8)]) :=
 zC (q1df_ (unit,a,())) fun y=>if nei y.2.1 0=true then some ([],()) else some (y.1,())
def qj3_ (x:As [.un,.int .u8,.int .u16,.pr (.int .u8) YTT7]):Option (As [.sl (.int .u8)]):=qdv_ x.1 x.2.1 x.2.2.1 x.2.2.2.1
theorem q13a_:CtOk Tryz.prog (fun _=>True) 341 ⟨q14o_,qj3_⟩:=ctn (q0_ q1oj_ q2_) 6 fun J x=>by kernel_rfl
@[reducible] def q17k_:Sh:=⟨[.d (.un),.d (.int .u16)],[],[.un,.int .u16],[.d (.int .u16)],[],0,[.int .u16]⟩
def q14l_ (v:Unit) (tx:Int):Option (As [.int .u16]) :=
 some (tx,())
def qly_ (x:As [.un,.int .u16]):Option (As [.int .u16]):=q14l_ x.1 x.2.1
theorem q14u_:CtOk Tryz.prog (fun _=>True) 342 ⟨q17k_,qly_⟩:=ctn q2_ 6 fun J x=>by kernel_rfl
@[reducible] def q1nh_:Sh:=⟨[.d (.pr (.int .u8) YTT0)],[],[.pr (.int .u8) YTT0],[.d (.pr (.int .u8) YTT0),.d (.sl (.int .u8))],[],0,[.pr (.int .u8) YTT0,.sl (.int .u8)]⟩
def qza_ (p:zE0):Option (As [.pr (.int .u8) YTT0,.sl (.int .u8)]) :=
 if eqi p.2.1 2=true then zC (qwd_ ((),p.2.2.2.2.2.2.1,())) fun y=>zC (qqx_ ((),p.1,y.1,p.2.2.2.2.2.1,())) fun y_1=>some ((p.1,p.2.1,p.2.2.1,p.2.2.2.1,p.2.2.2.2.1,p.2.2.2.2.2.1,y.1,p.2.2.1,p.2.2.2.2.2.2.2.2),y_1.1,()) else zC (qly_ ((),p.2.2.2.2.2.2.1,())) fun y=>zC (qj3_ ((),p.1,y.1,p.2.2.2.2.2.1,())) fun y_1=>some ((p.1,p.2.1,p.2.2.1,p.2.2.2.1,p.2.2.2.2.1,p.2.2.2.2.2.1,y.1,p.2.2.1,p.2.2.2.2.2.2.2.2),y_1.1,())
def q10e_ (x:As [.pr (.int .u8) YTT0]):Option (As [.pr (.int .u8) YTT0,.sl (.int .u8)]):=qza_ x.1
theorem q171_:CtOk Tryz.prog (fun _=>True) 115 ⟨q1nh_,q10e_⟩:=ctn (q0_ q18e_ (q0_ q18u_ (q0_ q13a_ (q0_ q14u_ q2_)))) 6 fun J x=>by kernel_rfl
@[reducible] def q18h_:Sh:=⟨[.d (.pr (.int .u8) YTT0),.d (.pr (.int .u8) YTT7)],[],[.pr (.int .u8) YTT0,.pr (.int .u8) YTT7],[.d (.pr (.int .u8) YTT0),.d (.sl (.int .u8)),.d (.int .i64)],[],0,[.pr (.int .u8) YTT0,.sl (.int .u8),.int .i64]⟩
def qzb_ (p:zE0) (a:zE7):Option (As [.pr (.int .u8) YTT0,.sl (.int .u8),.int .i64]) :=
 if p.2.2.2.2.1=true then zC (qdk_ (p,())) fun y=>some (y.1,[],30,()) else zC (q5h_ (a,())) fun y=>if (!y.1)=true then zC (qdk_ (p,())) fun y=>some (y.1,[],12,()) else zC (qtp_ (a,())) fun y=>zC (q10e_ ((p.1,p.2.1,p.2.2.1,p.2.2.2.1,true,y.1,p.2.2.2.2.2.2.1,p.2.2.2.2.2.2.2.1,p.2.2.2.1),())) fun y=>some (y.1,y.2.1,0,())
def qmq_ (x:As [.pr (.int .u8) YTT0,.pr (.int .u8) YTT7]):Option (As [.pr (.int .u8) YTT0,.sl (.int .u8),.int .i64]):=qzb_ x.1 x.2.1
theorem q1lt_:CtOk Tryz.prog (fun _=>True) 116 ⟨q18h_,qmq_⟩:=ctn (q0_ qgg_ (q0_ q10u_ (q0_ q171_ (q0_ q12v_ q2_)))) 6 fun J x=>by kernel_rfl
@[reducible] def qer_:Sh:=⟨[.d YTT8],[],[.pr (.int .i64) (.sl (.int .u16))],[.d (.bool)],[],0,[.bool]⟩
def qxs_ (x:Int×List Int):Option (As [.bool]) :=
 if le (zF (zG x.2)) 14=true then if ge x.1 0=true then if lt x.1 64=true then some (le (add .i64 x.1 (zF (zG x.2))) 64,()) else some (false,()) else some (false,()) else some (false,())
def q3t_ (x:As [.pr (.int .i64) (.sl (.int .u16))]):Option (As [.bool]):=qxs_ x.1
theorem q8k_:CtOk Tryz.prog (fun _=>True) 26 ⟨qer_,q3t_⟩:=ctn q2_ 6 fun J x=>by kernel_rfl
@[reducible] def q5x_:Sh:=⟨[.d YTT8],[],[.pr (.int .i64) (.sl (.int .u16))],[.d (.sl (.int .u16))],[],0,[.sl (.int .u16)]⟩
def qhm_:Env:=(cts [(26,(⟨qer_,q3t_⟩:Ct))])
def qii_:List (Nat×Hint):=[(7,⟨[],[3]⟩),(60,⟨[],[3]⟩)]
def qn3_ (l:List Int):St:=⟨[(3,.row 0)],28,[],[(0,.row (.int .u16) 25 l)],1,[],0⟩
def qfz_ (l:List Int):St:=⟨[(3,.row 0)],28,[],[(0,.row (.int .u16) 25 l)],1,[],0⟩
@[reducible] def zE14:Type:=List Int->Option (As [.sl (.int .u16)])
def q10c_ (j2:zE14) (l:List Int):Option (As [.sl (.int .u16)]) :=
 j2 l
def qg2_ (self2:zE14) (l:List Int):Option (As [.sl (.int .u16)]) :=
 if lt (zF (zG l)) 16=true then need (small (zG l + 1)) (self2 (l++[0])) else some (l,())
def qfq_ (j1:zE14) (x:Int×List Int):Option (As [.sl (.int .u16)]) :=
 zC (q3t_ (x,())) fun y=>if y.1=true then need (small (0 + Nat.succ (Nat.succ 0))) (need (small (Nat.succ (Nat.succ 0) + zG x.2)) (j1 (cvt .u16 x.1::cvt .u16 (zF (zG x.2))::x.2))) else j1 (zE 0 0)
def qa3_ (l:List Int):Option (As [.sl (.int .u16)]) :=
 loopF (fun self s=>qg2_ (fun l=>self (l)) s) 18446744073709551616 (l)
def qfr_:=q10c_ (qa3_)
def q6k_ (x:As [.pr (.int .i64) (.sl (.int .u16))]):Option (As [.sl (.int .u16)]):=qfq_ qfr_ x.1
abbrev stage_itself_P:=zp qhm_ qii_ 267 q5x_
theorem q1b0_ {J w2 a}:stage_itself_P J 60 [w2] (qfz_ a)=qg2_ (C w2 qfz_) a:=by kernel_rfl
theorem q1an_ {J a}:stage_itself_P J 7 [] (qn3_ a)=q10c_ (C (J 60 []) qfz_) a:=by kernel_rfl
theorem q1bz_ (J:Orc (As [.sl (.int .u16)])) (x:As [.pr (.int .i64) (.sl (.int .u16))]):rfn Tryz.prog qhm_ 6 18446744073709551616 (Ev.get qii_) 267 q5x_ J x=qfq_ (C (J 7 []) qn3_) x.1:=by kernel_rfl
abbrev stage_itself_J:=zj qhm_ qii_ 267 q5x_
theorem q1bp_:C (stage_itself_J 60 []) qfz_=qa3_:=gLC (by decide) (by kernel_rfl) (fun _=>by unfold qa3_; rfl) fun _ _=>q1b0_.trans (by kernel_rfl)
theorem q1br_:C (stage_itself_J 7 []) qn3_=qfr_:=gNC (by decide) fun _=>q1an_.trans (by rw [q1bp_] <;> kernel_rfl)
theorem q1ec_ (x:As [.pr (.int .i64) (.sl (.int .u16))]):evT Tryz.prog qhm_ 6 18446744073709551616 (Ev.get qii_) 267 q5x_ x=q6k_ x:=by
 rw [qb_,q1bz_,q1br_] <;> rfl
theorem qoy_:CtOk Tryz.prog (fun _=>True) 267 ⟨q5x_,q6k_⟩:=q7_ (q0_ q8k_ q2_) q1ec_
@[reducible] def q18i_:Sh:=⟨[.d (.int .u32)],[],[.int .u32],[.d (.int .u32)],[],0,[.int .u32]⟩
def qy9_ (sum:Int):Option (As [.int .u32]) :=
 if eqi (Sx.band .u32 sum 1) 1=true then some (Sx.bxor .u32 (Sx.shr .u32 sum 1) 3988292384,()) else some (Sx.shr .u32 sum 1,())
def qun_ (x:As [.int .u32]):Option (As [.int .u32]):=qy9_ x.1
theorem q1kx_:CtOk Tryz.prog (fun _=>True) 301 ⟨q18i_,qun_⟩:=ctn q2_ 6 fun J x=>by kernel_rfl
@[reducible] def qmt_:Sh:=⟨[.d (.int .u32),.d (.int .u8)],[],[.int .u32,.int .u8],[.d (.int .u32)],[],0,[.int .u32]⟩
def q108_:Env:=(cts [(301,(⟨q18i_,qun_⟩:Ct))])
def q104_:List (Nat×Hint):=[(58,⟨[],[0,9]⟩)]
def qwm_ (sum t9:Int):St:=⟨[(0,d2 sum),(9,dI t9)],15,[],[],0,[],0⟩
def qp7_ (self1:Int->Int->Option (As [.int .u32])) (sum t9:Int):Option (As [.int .u32]) :=
 if lt t9 8=true then zC (qun_ (sum,())) fun y=>self1 y.1 (add .i64 t9 1) else some (sum,())
def q1bt_ (j1:Int->Int->Option (As [.int .u32])) (sum b:Int):Option (As [.int .u32]) :=
 j1 (Sx.bxor .u32 sum (cvt .u32 b)) 0
def qog_ (sum t9:Int):Option (As [.int .u32]) :=
 loopF (fun self s=>qp7_ (fun sum t9=>self (sum,t9)) s.1 s.2) 18446744073709551616 (sum,t9)
def q11t_ (x:As [.int .u32,.int .u8]):Option (As [.int .u32]):=q1bt_ qog_ x.1 x.2.1
abbrev sum_Add_P:=zp q108_ q104_ 298 qmt_
theorem q1ou_ {J w1 a b}:sum_Add_P J 58 [w1] (qwm_ a b)=qp7_ (C w1 qwm_) a b:=by kernel_rfl
theorem q1oy_ (J:Orc (As [.int .u32])) (x:As [.int .u32,.int .u8]):rfn Tryz.prog q108_ 6 18446744073709551616 (Ev.get q104_) 298 qmt_ J x=q1bt_ (C (J 58 []) qwm_) x.1 x.2.1:=by kernel_rfl
abbrev sum_Add_J:=zj q108_ q104_ 298 qmt_
theorem q1on_:C (sum_Add_J 58 []) qwm_=qog_:=gLC (by decide) (by kernel_rfl) (fun _=>by unfold qog_; rfl) fun _ _=>q1ou_.trans (by kernel_rfl)
theorem q1p5_ (x:As [.int .u32,.int .u8]):evT Tryz.prog q108_ 6 18446744073709551616 (Ev.get q104_) 298 qmt_ x=q11t_ x:=by
 rw [qb_,q1oy_,q1on_] <;> rfl
theorem q1or_:CtOk Tryz.prog (fun _=>True) 298 ⟨qmt_,q11t_⟩:=q7_ (q0_ q1kx_ q2_) q1p5_
end Go.Proofs.Lx
end
