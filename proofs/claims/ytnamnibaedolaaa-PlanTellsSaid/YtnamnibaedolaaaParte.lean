/- Part 5 of 14: PlanTells returns true, whatever it is given. Conditions: those of the given statement, no others. -/
import Derived.Test.YtnamnibaedolaaaPartd
import Derived.Test.YtnamnibaedolaaaParta
import Derived.Test.YtnamnibaedolaaaProg
import Derived.Shelf.SlIterI.Nil
import Derived.Shelf.SlIterI.Sorted
import Derived.Shelf.SortM.Plain
import Derived.Shelf.SortM.SortNone
import Derived.Ground.GgzProg
import Derived.Ground.SlgmProg
import Derived.RangeFuncWrites
import Derived.RangeFuncBox
import Derived.RangeFuncLeaves
import Derived.Shelf.Abstract
import Derived.WalkKit
import Derived.OwnWalkIn
import Derived.TacticsInMore
import Derived.LoopNIn
import Derived.LoopIn
set_option linter.unusedVariables false
set_option linter.unusedSimpArgs false
set_option linter.unusedSectionVars false
section
namespace Rw
open Go Ev Sx Go.RowKit
def dgo (g:TypeId->Option Ty) (P:Program):Nat->List Field->Option (List Ty)
 | _,[]=>some []
 | off,f::r=>(g f.type).bind fun a=>if f.offset=off∧P.cellsOf f.type=a.size then (dgo g P (off + a.size) r).map fun q=>a::q else none
def sumS:List Ty->Nat
 | []=>0
 | a::r=>a.size + sumS r
def dty (P:Program):Nat->TypeId->Option Ty
 | 0,_=>none
 | n + 1,t=>match P.underlying t with
  | some (.int k)=>some (.int k)
  | some .bool=>some .bool
  | some .string=>some .str
  | some (.slice e)=>(dty P n e).bind fun y=>if P.cellsOf e=y.size∧y.size ≠ 0 then some (.sl y) else none
  | some (.struct fs)=>(dgo (dty P n) P 0 fs.toList).bind fun l=>if P.cellsOf t=sumS l then some (strTy l) else none
  | _=>none
def okV:(t:Ty)->Vl t->Prop
 | .int k,x=>(Lit.int k x).wf=true
 | .bool,_=>True
 | .str,x=>x.length≤maxLen
 | .sl t,xs=>xs.length≤maxLen∧∀ x ∈ xs,okV t x
 | .pr a b,x=>okV a x.1∧okV b x.2
 | .wr a,x=>okV a x
 | .un,_=>True
 | .ar n t,xs=>xs.length=n∧∀ x ∈ xs,okV t x
 | .mp _ _,_=>True
section
variable {H:Type} {enc:TypeId×Value->H} {P:Program} {w:World} {base:Nat} {sp:Nat->Bool} {held:Bool}
theorem rp_len {t:Ty} {L:Lx} {cs:List Value} {x:Vl t} (h:(rp t).rel L w cs x):cs.length=t.size:=by rw [(rp t).len h,qd_]
def FieldOk (w:World) (cs:List Value) (off:Nat) (a:Ty):Prop:=∃ v:Vl a,(rp a).rel [] w ((cs.drop off).take a.size) v∧okV a v
def FieldsOk (w:World) (cs:List Value):Nat->List Ty->Prop
 | _,[]=>True
 | off,a::r=>FieldOk w cs off a∧FieldsOk w cs (off + a.size) r
theorem prs_ok {cs:List Value}:∀ (r:List Ty) (a:Ty) (off:Nat),FieldsOk w cs off (a::r)->off + a.size + sumS r=cs.length->∃ v:Vl (strTy.prs a r),(rp (strTy.prs a r)).rel [] w (cs.drop off) v∧okV (strTy.prs a r) v
 | [],a,off,⟨⟨v,h1,h2⟩,_⟩,hl=>by
  have:(cs.drop off).take a.size=cs.drop off:=List.take_of_length_le (by simp [sumS] at hl ⊢; omega)
  rw [this] at h1
  exact ⟨v,h1,h2⟩
 | b::r,a,off,⟨⟨v,h1,h2⟩,h3⟩,hl=>by
  obtain ⟨u,h4,h5⟩:=prs_ok r b (off + a.size) h3 (by simp [sumS] at hl ⊢; omega)
  refine ⟨(v,u),⟨(cs.drop off).take a.size,cs.drop (off + a.size),?_,h1,h4⟩,h2,h5⟩
  rw [<- List.drop_drop]
  exact (List.take_append_drop _ _).symm
theorem str_ok {cs:List Value}:∀ (l:List Ty),FieldsOk w cs 0 l->sumS l=cs.length->∃ v:Vl (strTy l),(rp (strTy l)).rel [] w cs v∧okV (strTy l) v
 | [],_,hl=>⟨(),(by show cs=[]; exact List.eq_nil_of_length_eq_zero hl.symm),trivial⟩
 | [a],⟨⟨v,h1,h2⟩,_⟩,hl=>by
  have:(cs.drop 0).take a.size=cs:=by rw [List.drop_zero]; exact List.take_of_length_le (by simp [sumS] at hl; omega)
  rw [this] at h1
  exact ⟨v,h1,h2⟩
 | a::b::r,h,hl=>prs_ok (b::r) a 0 h (by simp [sumS] at hl ⊢; omega)
theorem dgo_ok {g:TypeId->Option Ty} {cs:List Value} (ih:∀ t y n c x,g t=some y->DataW.trod enc P w base sp held n t c=some x->∃ v:Vl y,(rp y).rel [] w c v∧okV y v) (n:Nat) :
  ∀ (fs:List Field) (off:Nat) (l:List Ty),dgo g P off fs=some l->(∀ f ∈ fs,∃ x,DataW.trod enc P w base sp held n f.type ((cs.drop f.offset).take (P.cellsOf f.type))=some x)->FieldsOk w cs off l
 | [],off,l,h,_=>by cases h; trivial
 | f::r,off,l,h,hx=>by
  obtain ⟨a,h1,h⟩:=Option.bind_eq_some_iff.1 h
  split at h
  ·rename_i hc
   obtain ⟨q,h2,rfl⟩:=Option.map_eq_some_iff.1 h
   obtain ⟨x,h3⟩:=hx f (List.mem_cons_self ..)
   obtain ⟨v,h4,h5⟩:=ih _ _ _ _ _ h1 h3
   rw [hc.1,hc.2] at h4
   exact ⟨⟨v,h4,h5⟩,dgo_ok ih n r _ _ h2 fun f hf=>hx f (List.mem_cons_of_mem _ hf)⟩
  ·cases h
theorem cells_at {a:Addr} {n:Nat} {cs:List Value} (h:w.cells? base a n=some cs):cs.length=n∧∀ j v,cs[j]? = some v->w.cell? (a.add j)=some v:=by
 unfold World.cells? at h
 split at h
 ·have hl:cs.length=n:=by simpa using mapM_some_length h
  refine ⟨hl,fun j v hj=>?_⟩
  have hjl:j < n:=by rw [<- hl]; exact (List.getElem?_eq_some_iff.1 hj).1
  have:=mapM_some_get h j j (by simp [hjl])
  rw [this,hj]
 ·cases h
theorem cell_plain {a:Addr} {v:Value} (h:w.cell? a=some v):a.spot=none∧a.block < w.heap.size:=by
 unfold World.cell? at h
 split at h
 ·rename_i hb
  split at h
  ·cases h
  ·rename_i hs
   exact ⟨by simpa using hs,(Array.getElem?_eq_some_iff.1 hb).1⟩
 ·cases h
theorem add_plain (b o n:Nat):(⟨b,o,none⟩:Addr).add n=⟨b,o + n,none⟩:=by
 unfold Addr.add
 split
 ·rename_i h; subst h; rfl
 ·rfl
theorem add_zero (a:Addr):a.add 0=a:=by unfold Addr.add; rw [if_pos rfl]
theorem trod_ok:∀ (m:Nat) (t:TypeId) (y:Ty) (n:Nat) (cs:List Value) (x:DataW H×List MemPlace),dty P m t=some y->DataW.trod enc P w base sp held n t cs=some x->∃ v:Vl y,(rp y).rel [] w cs v∧okV y v
 | 0,_,_,_,_,_,h,_=>by cases h
 | m + 1,t,y,n,cs,x,h,hx=>by
  unfold dty at h
  split at h
  ·rename_i k ht
   cases h
   obtain ⟨z,rfl,_,hw⟩:=DataW.trod_int ht hx
   exact ⟨z,rfl,hw⟩
  ·rename_i ht
   cases h
   obtain ⟨b,rfl,_⟩:=DataW.trod_bool ht hx
   exact ⟨b,rfl,trivial⟩
  ·rename_i ht
   cases h
   obtain ⟨⟨⟨s⟩⟩,rfl,_,hs⟩:=DataW.trod_string ht hx
   exact ⟨s,rfl,hs⟩
  ·rename_i e ht
   obtain ⟨y',h1,h⟩:=Option.bind_eq_some_iff.1 h
   split at h
   ·rename_i hc
    cases h
    rcases DataW.trod_slice ht hx with ⟨rfl,_⟩ | ⟨a,len,cap,elems,rest,n',_,rfl,_,_,hlc,hcm,hel,hat,_⟩
    ·exact ⟨[],slice_nil _ _ _ _ _,by simp,fun x hx=>by cases hx⟩
    ·have each:∀ i:Fin len,∃ v:Vl y',(∃ c,(rp y').rel [] w c v∧c.length=y'.size∧∀ j u,c[j]? = some u->w.cell? ((a.add (i.1 * P.cellsOf e)).add j)=some u)∧okV y' v:=fun i=>by
      have hi:=hat i.1 i.2
      have:∃ z,elems[i.1]? = some z:=⟨_,List.getElem?_eq_getElem (by rw [hel]; exact i.2)⟩
      obtain ⟨z,hz⟩:=this
      rw [hz] at hi
      obtain ⟨c,hc1,hc2⟩:=Option.bind_eq_some_iff.1 hi
      obtain ⟨v,hv1,hv2⟩:=trod_ok m e y' n' c z h1 hc2
      exact ⟨v,⟨c,hv1,rp_len hv1,(cells_at hc1).2⟩,hv2⟩
     refine ⟨List.ofFn fun i=>Classical.choose (each i),⟨some a,cap,by simp,by simp; omega,fun hne=>?_⟩,by simp; omega,fun v hv=>?_⟩
     ·have hlen:0 < len:=by
       rcases Nat.eq_zero_or_pos len with h0 | h0
       ·subst h0; simp at hne
       ·exact h0
      obtain ⟨⟨c,_,hcl,hcc⟩,_⟩:=Classical.choose_spec (each ⟨0,hlen⟩)
      have hpos:0 < c.length:=by have:=hc.2; omega
      have h0:=cell_plain (hcc 0 c[0] (List.getElem?_eq_getElem hpos))
      rw [show (⟨0,hlen⟩:Fin len).1 * P.cellsOf e=0 from Nat.zero_mul _,add_zero,add_zero] at h0
      obtain ⟨b,o,s⟩:=a
      obtain ⟨hs,hb⟩:=h0
      have hs:s=none:=hs
      subst hs
      refine ⟨b,o,rfl,fun i x hi=>?_⟩
      have hil:i < len:=by have:=(List.getElem?_eq_some_iff.1 hi).1; simpa using this
      have hxe:x=Classical.choose (each ⟨i,hil⟩):=by
       rw [List.getElem?_ofFn,dif_pos hil] at hi
       exact (Option.some.inj hi).symm
      obtain ⟨⟨c,hc1,_,hc3⟩,_⟩:=Classical.choose_spec (each ⟨i,hil⟩)
      subst hxe
      refine ⟨hb,by simp,c,hc1,fun j v hj=>?_⟩
      have:=hc3 j v hj
      rw [qd_,<- hc.1]
      rw [add_plain,add_plain] at this
      exact this
     ·obtain ⟨i,rfl⟩:=List.mem_ofFn.1 hv
      exact (Classical.choose_spec (each i)).2
   ·cases h
  ·rename_i fs ht
   obtain ⟨l,h1,h⟩:=Option.bind_eq_some_iff.1 h
   split at h
   ·rename_i hc
    cases h
    obtain ⟨xs,n',_,_,hl,hxl,hf⟩:=DataW.trod_struct ht hx
    refine str_ok l ?_ (by rw [hl,hc])
    refine dgo_ok (fun t y n c x h1 h2=>trod_ok m t y n c x h1 h2) n' fs.toList 0 l h1 fun f hfm=>?_
    obtain ⟨i,hi,rfl⟩:=List.getElem_of_mem hfm
    have hi':i < fs.size:=by simpa using hi
    have:=hf i fs[i] (Array.getElem?_eq_getElem hi')
    rw [List.getElem?_eq_getElem (by omega)] at this
    exact ⟨_,this⟩
   ·cases h
  ·cases h
theorem val_of {t:TypeId} {y:Ty} {m:Nat} {v:Value} {d:DataW H} {ps:List MemPlace} {r:Reach} {b':Nat} {w':World} (hd:dty P (m + 1) t=some y) (ho:Value.okWide P w' r b' t v) (h:DataW.Trod enc P w base sp held t v d ps):∃ x:Vl y,Den [] [] w (.d y x) v∧okV y x:=by
 obtain ⟨n,hn⟩:=h
 obtain ⟨x,h1,h2⟩:=trod_ok (m + 1) t y n _ _ hd hn
 refine ⟨x,⟨v.cells.toList,h1,?_⟩,h2⟩
 have one:∀ u:Value,v=u->u.cells = #[u]->y.agg=false->v=(rp y).val v.cells.toList:=fun u e hc ha=>by
  subst e
  simp [Rp.val,rp_agg,ha,hc]
 unfold dty at hd
 split at hd
 ·rename_i k ht
  cases hd
  obtain ⟨z,rfl⟩:=Go.WideShapes.okWide_int ht ho
  exact one _ rfl rfl rfl
 ·rename_i ht
  cases hd
  obtain ⟨b,hb,_⟩:=DataW.trod_bool ht hn
  have:∃ b,v = .bool b:=by
   simp only [Value.okWide,ht,Cell.okWide] at ho
   cases v <;> simp_all [Cell.ok]
  obtain ⟨b,rfl⟩:=this
  exact one _ rfl rfl rfl
 ·rename_i ht
  cases hd
  obtain ⟨s,rfl⟩:=Go.WideShapes.okWide_string ht ho
  exact one _ rfl rfl rfl
 ·rename_i e ht
  obtain ⟨y',h3,hd⟩:=Option.bind_eq_some_iff.1 hd
  split at hd
  ·cases hd
   obtain ⟨a,len,cap,rfl⟩:=Go.WideShapes.okWide_slice ht ho
   exact one _ rfl rfl rfl
  ·cases hd
 ·rename_i fs ht
  obtain ⟨l,h3,hd⟩:=Option.bind_eq_some_iff.1 hd
  split at hd
  ·cases hd
   simp only [Value.okWide,ht] at ho
   obtain ⟨cs,rfl,_,_⟩:=ho
   have ha:(strTy l).agg=true:=by
    match l with
    | []=>rfl
    | [a]=>rfl
    | a::b::q=>rfl
   simp [Rp.val,rp_agg,ha,Value.cells]
  ·cases hd
 ·cases hd
end
end Rw
end
section
namespace Rw
open Go Ev Sx Go.RowKit
theorem below_of {W W':World} (h:Blw (Bo [] [] W) W W'):Below W.heap.size W W' :=
 ⟨h.os,h.tape,h.output,h.size,fun k hk=>h.block k hk (by
  rintro (h | h)
  ·cases h
  ·omega)⟩
theorem lok0 (W:World):LOk (Bo [] [] W) (lx [] []) [] W:=⟨.nil,fun k h=>(by cases h),fun k h=>(by cases h),fun k h=>.inr h,fun k h=>(by cases h)⟩
theorem law_calls {P:Program} {f:FuncId} {ts:List TS} {ps:List Ty} {m:As ps->Option (Bool×Unit)} (h:CtOk P (fun _=>True) f ⟨⟨ts,[],ps,[.d .bool],[],0,[.bool]⟩,m⟩) {x:As ps} (hm:m x=some (true,())) {ss:List SV} (hA:fA ts [] (dvAs ps x)=some (ss,[])) {vs:List Value} {W:World} (hd:DenL [] [] W ss vs) :
  Calls P f vs.toArray W (fun e W'=>∃ v,e = .returned v∧v = .bool true∧Below W.heap.size W W'):=by
 refine (h [] W [] x (true,()) ss [] vs hm hA rfl (fun _ _=>trivial) (lok0 W) (fun e he=>by cases he) hd).mono fun e w' he=>?_
 obtain ⟨us,rfl,pl',rr,own',h1,_,_,h4,_,_,h7⟩:=he
 have h1:some ([SV.d .bool true],([]:List (Nat×Ent)))=some (rr,own'):=h1
 cases h1
 obtain ⟨v,q,rfl,h8,h9⟩:=h7
 cases h9
 exact ⟨_,rfl,den_bool h8,below_of h4⟩
def okA:(ps:List Ty)->As ps->Prop
 | [],_=>True
 | a::r,x=>okV a x.1∧okA r x.2
def dS:(ps:List Ty)->As ps->List SV
 | [],_=>[]
 | a::r,x=>.d a x.1::dS r x.2
theorem fL_d:∀ (ps:List Ty) (x:As ps),fL (ps.map TS.d) (dvAs ps x)=some (dS ps x,[])
 | [],_=>rfl
 | a::r,x=>by
  show (fS (.d a) (⟨a,x.1⟩::dvAs r x.2)).bind _=_
  unfold fS
  simp only [q28_,Option.map_some,Option.bind_some]
  rw [fL_d r x.2]
  rfl
theorem fA_d (ps:List Ty) (x:As ps):fA (ps.map TS.d) [] (dvAs ps x)=some (dS ps x,[]):=by
 unfold fA
 rw [fL_d,Option.bind_some]
 rfl
def dtys (P:Program):List TypeId->Option (List Ty)
 | []=>some []
 | t::r=>(dty P 13 t).bind fun y=>(dtys P r).map fun q=>y::q
theorem law_den {P:Program} {H:Type} {enc:TypeId×Value->H} {W:World} {b0:Nat} {sp:Nat->Bool} {held:Bool}:∀ {ts:List TypeId} {ps:List Ty} {vs:List Value} {ds:List (DataW H)} {p:List MemPlace},dtys P ts=some ps ->
  (∀ (j:Nat) t v,ts[j]? = some t->vs[j]? = some v->∃ r b w',Value.okWide P w' r b t v)->DataW.TrodAll enc P W b0 sp held ts vs ds p->∃ x:As ps,okA ps x∧DenL [] [] W (dS ps x) vs
 | [],ps,vs,ds,p,h,_,hA=>by
  cases h
  cases vs with
  | nil=>exact ⟨(),trivial,rfl⟩
  | cons v vs=>cases ds <;> exact absurd hA (by simp [DataW.TrodAll])
 | t::ts,ps,vs,ds,p,h,ho,hA=>by
  obtain ⟨y,h1,h⟩:=Option.bind_eq_some_iff.1 h
  obtain ⟨q,h2,rfl⟩:=Option.map_eq_some_iff.1 h
  match vs,ds,hA with
  | v::vs,d::ds,hA =>
   obtain ⟨p1,p2,h3,h4,_⟩:=hA
   obtain ⟨r,b,w',h5⟩:=ho 0 t v rfl rfl
   obtain ⟨x,hx1,hx2⟩:=val_of h1 h5 h3
   obtain ⟨xs,hy1,hy2⟩:=law_den h2 (fun j t v ht hv=>ho (j + 1) t v ht hv) h4
   exact ⟨(x,xs),⟨hx2,hy1⟩,v,vs,rfl,hx1,hy2⟩
  | [],_,hA=>exact absurd hA (by simp [DataW.TrodAll])
  | _::_,[],hA=>exact absurd hA (by simp [DataW.TrodAll])
theorem law_row {P:Program} {f:FuncId} {ps:List Ty} {m:As ps->Option (Bool×Unit)} (h:CtOk P (fun _=>True) f ⟨⟨ps.map TS.d,[],ps,[.d .bool],[],0,[.bool]⟩,m⟩) (law:∀ x,okA ps x->m x=some (true,()))
  {ts:Array TypeId} (ht:dtys P ts.toList=some ps) {H:Type} {enc:TypeId×Value->H} {W:World} {b0:Nat} {sp:Nat->Bool} {held:Bool} {args:Array Value} {ds:List (DataW H)} {p:List MemPlace}
  (hval:∀ (j:Nat) t v,ts[j]? = some t->args[j]? = some v->∃ r b w',Value.okWide P w' r b t v) (hA:DataW.TrodAll enc P W b0 sp held ts.toList args.toList ds p) :
  Calls P f args W (fun e W'=>∃ v,e = .returned v∧v = .bool true∧Below W.heap.size W W'):=by
 obtain ⟨x,h1,h2⟩:=law_den ht (fun j t v h3 h4=>hval j t v (by simpa using h3) (by simpa using h4)) hA
 have:=law_calls h (law x h1) (fA_d ps x) h2
 simpa using this
end Rw
end
section
open Go Go.Proofs Ev Sx
set_option maxRecDepth 100000
namespace Go.Proofs.Lx
def seqL:Code->Code
 | .seq a _=>a
 | _=>.skip
def seqR:Code->Code
 | .seq _ b=>b
 | _=>.skip
def blkC:Code->Code
 | .block _ c=>c
 | _=>.skip
def rfA:Code->Code
 | .rangeFunc _ _ a _=>a
 | _=>.skip
def rfB:Code->Code
 | .rangeFunc _ _ _ b=>b
 | _=>.skip
def bodyAt (P:Program) (f:Nat):Code:=match P.funcs[f]? with
 | some fn=>fn.body.getD .skip
 | none=>.skip
noncomputable def bkC:Code:=bodyAt Try.prog 8
noncomputable def bk1:Code:=seqL bkC
noncomputable def bk2:Code:=seqL (seqR bkC)
noncomputable def bk3:Code:=seqL (seqR (seqR bkC))
noncomputable def bk4:Code:=seqL (seqL (seqR (seqR (seqR bkC))))
noncomputable def bkRF:Code:=blkC (seqR (seqL (seqR (seqR (seqR bkC)))))
noncomputable def bkA:Code:=rfA bkRF
noncomputable def bkB:Code:=rfB bkRF
noncomputable def bkT:Code:=seqR (seqR (seqR (seqR bkC)))
theorem bk_eq:Try.f8.body=some (.seq bk1 (.seq bk2 (.seq bk3 (.seq (.seq bk4 (.block 0 (.rangeFunc (.tmp 11) #[12] bkA bkB))) bkT)))):=rfl
abbrev bT:Ty:=.pr (.int .i64) (.sl (.int .u16))
abbrev Bk:=Int×List Int
def bkEnv:Env:=cts [(3000026,bxCt)]
def bkNo:Nat->Option Hint:=fun _=>none
@[reducible] def zE0:Type:=List (Int×Int)
def bkS0 (m:zE0):St:={ fr:=[(0,.mp 0)],nt:=74,up:=[],own:=[(0,.dm (.int .i64) (.int .u16) m)],nx:=1,log:=[],ln:=1 }
noncomputable def evN (env:Env) (hs:Nat->Option Hint) (h:Hint) (c:Code) (S:St):Option (Ex×St):=ev Try.prog env (evC (R:=Ex×St) Try.prog env 1000 (fun _ _=>false) 2) 1000 hs 1 c S (fun e S'=>(nrm Try.prog h S').bind fun S1=>some (e,S1))
end Go.Proofs.Lx
end
section
namespace Go.Proofs
open Go.Shelf
def Try.keysA_ren:Go.Shelf.Ren:=⟨fun | 7=>42 | 10=>62 | n=>n,fun | 23=>24 | 26=>3 | 3=>32 | 28=>71 | 0=>0 | 27=>70 | 33=>97 | 4=>4 | n=>n,fun | n=>n⟩
theorem Try.keysA:Go.Proofs.SlLaysZI.n7 Try.prog Try.keysA_ren:={
 mixed:=by kernel_rfl
 f7:=⟨Try.f42.name,by decide,Try.func42.trans (congrArg some (by kernel_rfl))⟩
 f10:=⟨Try.f62.name,by decide,Try.func62.trans (congrArg some (by kernel_rfl))⟩
 t0:=Try.underlying0
 a0:=Try.isAgg0
 z0:=Try.sizeOf0
 v0:=Try.zeroValue0
 t4:=Try.underlying4
 a4:=Try.isAgg4
 z4:=Try.sizeOf4
 v4:=Try.zeroValue4
 t23:=Try.underlying24
 a23:=Try.isAgg24
 z23:=Try.sizeOf24
 v23:=Try.zeroValue24
 t26:=Try.underlying3
 a26:=Try.isAgg3
 z26:=Try.sizeOf3
 v26:=Try.zeroValue3
 t27:=Try.underlying70
 a27:=Try.isAgg70
 z27:=Try.sizeOf70
 v27:=Try.zeroValue70
 t28:=Try.underlying71
 a28:=Try.isAgg71
 z28:=Try.sizeOf71
 v28:=Try.zeroValue71
 t33:=Try.underlying97
 a33:=Try.isAgg97
 z33:=Try.sizeOf97
 v33:=Try.zeroValue97 }
def Try.sortedA_ren:Go.Shelf.Ren:=⟨fun | 6=>41 | 8=>60 | 9=>61 | 11=>75 | 13=>77 | 12=>76 | 23=>96 | 24=>97 | 14=>87 | 15=>88 | 16=>89 | 17=>90 | 18=>91 | 19=>92 | 20=>93 | 21=>94 | 22=>95 | 25=>98 | 26=>99 | 27=>100 | 28=>101 | 29=>102 | 30=>103 | 31=>104 | n=>n,fun | 26=>3 | 28=>71 | 24=>98 | 0=>0 | 3=>3 | 37=>135 | 48=>153 | 50=>127 | 4=>4 | 40=>146 | 39=>145 | 45=>83 | 5=>5 | 9=>9 | 51=>154 | 55=>158 | 57=>160 | 58=>161 | 33=>97 | n=>n,fun | n=>n⟩
theorem Try.sortedA:Go.Proofs.SlLaysZI.n6 Try.prog Try.sortedA_ren:={
 mixed:=by kernel_rfl
 f6:=⟨Try.f41.name,by decide,Try.func41.trans (congrArg some (by kernel_rfl))⟩
 f8:=⟨Try.f60.name,by decide,Try.func60.trans (congrArg some (by kernel_rfl))⟩
 f11:=⟨Try.f75.name,by decide,Try.func75.trans (congrArg some (by kernel_rfl))⟩
 t0:=Try.underlying0
 a0:=Try.isAgg0
 z0:=Try.sizeOf0
 v0:=Try.zeroValue0
 t24:=Try.underlying98
 a24:=Try.isAgg98
 z24:=Try.sizeOf98
 v24:=Try.zeroValue98
 t26:=Try.underlying3
 a26:=Try.isAgg3
 z26:=Try.sizeOf3
 v26:=Try.zeroValue3
 t28:=Try.underlying71
 a28:=Try.isAgg71
 z28:=Try.sizeOf71
 v28:=Try.zeroValue71
 i26:=by kernel_rfl }
def Try.sortA_ren:Go.Shelf.Ren:=⟨fun | 5=>61 | 8=>77 | 7=>76 | 19=>96 | 20=>97 | 10=>87 | 11=>88 | 12=>89 | 13=>90 | 14=>91 | 15=>92 | 16=>93 | 17=>94 | 18=>95 | 30=>98 | 31=>99 | 32=>100 | 33=>101 | 34=>102 | 35=>103 | 40=>104 | n=>n,fun | 23=>98 | 25=>3 | 3=>3 | 32=>135 | 22=>98 | 0=>0 | 44=>153 | 46=>127 | 4=>4 | 36=>146 | 35=>145 | 41=>83 | 5=>5 | 9=>9 | 53=>154 | 57=>158 | 63=>160 | 64=>161 | n=>n,fun | n=>n⟩
theorem Try.sortA:Go.Proofs.SlLaysM.n5 Try.prog Try.sortA_ren:={
 mixed:=by kernel_rfl
 f5:=⟨Try.f61.name,by decide,Try.func61.trans (congrArg some (by kernel_rfl))⟩
 f7:=⟨Try.f76.name,by decide,Try.func76.trans (congrArg some (by kernel_rfl))⟩
 f8:=Try.func77.trans (congrArg some (by kernel_rfl))
 f10:=⟨Try.f87.name,by decide,Try.func87.trans (congrArg some (by kernel_rfl))⟩
 f11:=⟨Try.f88.name,by decide,Try.func88.trans (congrArg some (by kernel_rfl))⟩
 f12:=⟨Try.f89.name,by decide,Try.func89.trans (congrArg some (by kernel_rfl))⟩
 f13:=⟨Try.f90.name,by decide,Try.func90.trans (congrArg some (by kernel_rfl))⟩
 f14:=⟨Try.f91.name,by decide,Try.func91.trans (congrArg some (by kernel_rfl))⟩
 f15:=⟨Try.f92.name,by decide,Try.func92.trans (congrArg some (by kernel_rfl))⟩
 f16:=⟨Try.f93.name,by decide,Try.func93.trans (congrArg some (by kernel_rfl))⟩
 f17:=⟨Try.f94.name,by decide,Try.func94.trans (congrArg some (by kernel_rfl))⟩
 f18:=⟨Try.f95.name,by decide,Try.func95.trans (congrArg some (by kernel_rfl))⟩
 f19:=Try.func96.trans (congrArg some (by kernel_rfl))
 f20:=Try.func97.trans (congrArg some (by kernel_rfl))
 f30:=⟨Try.f98.name,by decide,Try.func98.trans (congrArg some (by kernel_rfl))⟩
 f31:=Try.func99.trans (congrArg some (by kernel_rfl))
 f32:=Try.func100.trans (congrArg some (by kernel_rfl))
 f33:=⟨Try.f101.name,by decide,Try.func101.trans (congrArg some (by kernel_rfl))⟩
 f34:=⟨Try.f102.name,by decide,Try.func102.trans (congrArg some (by kernel_rfl))⟩
 f35:=⟨Try.f103.name,by decide,Try.func103.trans (congrArg some (by kernel_rfl))⟩
 f40:=⟨Try.f104.name,by decide,Try.func104.trans (congrArg some (by kernel_rfl))⟩
 t0:=Try.underlying0
 a0:=Try.isAgg0
 z0:=Try.sizeOf0
 v0:=Try.zeroValue0
 t3:=Try.underlying3
 a3:=Try.isAgg3
 z3:=Try.sizeOf3
 v3:=Try.zeroValue3
 t4:=Try.underlying4
 a4:=Try.isAgg4
 z4:=Try.sizeOf4
 v4:=Try.zeroValue4
 t5:=Try.underlying5
 a5:=Try.isAgg5
 z5:=Try.sizeOf5
 v5:=Try.zeroValue5
 t9:=Try.underlying9
 a9:=Try.isAgg9
 z9:=Try.sizeOf9
 v9:=Try.zeroValue9
 t22:=Try.underlying98
 a22:=Try.isAgg98
 z22:=Try.sizeOf98
 v22:=Try.zeroValue98
 t23:=Try.underlying98
 a23:=Try.isAgg98
 z23:=Try.sizeOf98
 v23:=Try.zeroValue98
 t25:=Try.underlying3
 a25:=Try.isAgg3
 z25:=Try.sizeOf3
 v25:=Try.zeroValue3
 t32:=Try.underlying135
 a32:=Try.isAgg135
 z32:=Try.sizeOf135
 v32:=Try.zeroValue135
 t35:=Try.underlying145
 a35:=Try.isAgg145
 z35:=Try.sizeOf145
 v35:=Try.zeroValue145
 t36:=Try.underlying146
 a36:=Try.isAgg146
 z36:=Try.sizeOf146
 v36:=Try.zeroValue146
 t41:=Try.underlying83
 a41:=Try.isAgg83
 z41:=Try.sizeOf83
 v41:=Try.zeroValue83
 t44:=Try.underlying153
 a44:=Try.isAgg153
 z44:=Try.sizeOf153
 v44:=Try.zeroValue153
 t46:=Try.underlying127
 a46:=Try.isAgg127
 z46:=Try.sizeOf127
 v46:=Try.zeroValue127
 t53:=Try.underlying154
 a53:=Try.isAgg154
 z53:=Try.sizeOf154
 v53:=Try.zeroValue154
 t57:=Try.underlying158
 a57:=Try.isAgg158
 z57:=Try.sizeOf158
 v57:=Try.zeroValue158
 t63:=Try.underlying160
 a63:=Try.isAgg160
 z63:=Try.sizeOf160
 v63:=Try.zeroValue160
 t64:=Try.underlying161
 a64:=Try.isAgg161
 z64:=Try.sizeOf161
 v64:=Try.zeroValue161 }
end Go.Proofs
end
section
set_option maxRecDepth 100000
namespace Go.Proofs.Lx
open Go Go.Proofs Go.RowKit Go.Maps Go.Sort Go.Shelf Ev Sx
attribute [local go_sem] Oper.semAt_some
def anyV (_:Value):Option (DataW Unit×List MemPlace):=some (.lit (.bool true),[])
def inR (x:Int):Prop:=-9223372036854775808≤x∧x≤9223372036854775807
theorem wf_i64 {x:Int} (h:inR x):(Lit.int .i64 x).wf=true:=by
 obtain ⟨h1,h2⟩:=h
 simp [Lit.wf,IntKind.min,IntKind.max,IntKind.signed,IntKind.bits]
 omega
theorem map_owns {w:World} {g:Nat} {vs:List (Int×Value)} (h:MapIs (keyV (.int .i64)) (fun v:Value=>v) w g vs) (hw:∀ e ∈ vs,inR e.1) (hl:vs.length≤1000) :
  ∃ D0:DataW Unit,w.ownsMap Try.prog 3 anyV g vs.length D0∧Maps.size D0=vs.length∧(intKeys D0).Perm (vs.map (·.1)):=by
 obtain ⟨es,clock,hb,hkv,hst⟩:=h
 have hlen:es.toList.length=vs.length:=by have:=congrArg List.length hkv; simpa using this
 have hkeys:es.toList.map (·.key)=vs.map (fun e=>Value.int .i64 e.1):=by
  have:=congrArg (List.map (fun e:Value×Value=>e.1)) hkv
  simpa [List.map_map,Function.comp_def,keyV] using this
 have hk:∀ x ∈ es.toList,∃ a,x.key = .int .i64 a∧inR a:=fun x hx=>by
  have hm:x.key ∈ es.toList.map (·.key):=List.mem_map.2 ⟨x,hx,rfl⟩
  rw [hkeys] at hm
  obtain ⟨e,he,h2⟩:=List.mem_map.1 hm
  exact ⟨e.1,h2.symm,hw e he⟩
 have hu:Try.prog.underlying 3=some (.int .i64):=by kernel_rfl
 have hrd:∀ (x:MapEntry) (a:Int),x.key = .int .i64 a->inR a->Go.WideElems.rd Try.prog 3 anyV x=some (.int .i64 a,.lit (.bool true)):=fun x a e ha=>by
  obtain ⟨k,v,b⟩:=x
  cases e
  exact Go.WideElems.rd_mk (R:=anyV) (keyOf_int_mk hu (wf_i64 ha)) rfl
 have hints:(es.toList.map (Go.WideElems.rg Try.prog 3 anyV)).map (fun p=>Go.intOf p.1)=vs.map (·.1):=by
  have:∀ (l:List MapEntry) (v:List (Int×Value)),(∀ x ∈ l,∃ a,x.key = .int .i64 a∧inR a)->l.map (·.key)=v.map (fun e=>Value.int .i64 e.1)->(l.map (Go.WideElems.rg Try.prog 3 anyV)).map (fun p=>Go.intOf p.1)=v.map (·.1):=by
   intro l
   induction l with
   | nil=>intro v _ h; cases v <;> simp at h ⊢
   | cons x l ih =>
    intro v hl h
    cases v with
    | nil=>simp at h
    | cons e v =>
     simp only [List.map_cons,List.cons.injEq] at h ⊢
     obtain ⟨a,h1,h2⟩:=hl x (List.mem_cons_self ..)
     refine ⟨?_,ih v (fun y hy=>hl y (List.mem_cons_of_mem _ hy)) h.2⟩
     rw [Go.WideElems.rg_of (hrd x a h1 h2)]
     have:=h.1
     rw [h1] at this
     simpa [Go.intOf] using this
  exact this _ _ hk hkeys
 refine ⟨.map ((es.toList.map (Go.WideElems.rg Try.prog 3 anyV)).foldr DataW.insert []),⟨es,clock,hb,⟨?_,hst,fun x hx=>?_⟩,?_,rfl⟩,?_,?_⟩
 ·have:es.size=vs.length:=by simpa using hlen
  rw [this]
  exact Nat.le_trans hl (by decide)
 ·obtain ⟨a,h1,h2⟩:=hk x hx
  exact ⟨_,hrd x a h1 h2⟩
 ·have:es.size=vs.length:=by simpa using hlen
  omega
 ·show ((es.toList.map (Go.WideElems.rg Try.prog 3 anyV)).foldr DataW.insert []).length=_
  rw [(WideShapes.sorted_perm _).length_eq]
  simpa using hlen
 ·show (((es.toList.map (Go.WideElems.rg Try.prog 3 anyV)).foldr DataW.insert []).map fun p=>Go.intOf p.1).Perm _
  rw [<- hints]
  exact (WideShapes.sorted_perm _).map _
theorem sorts_in (m:Nat):AnyZI.SortsIn Try.prog Try.sortedA_ren Fence.wide m :=
 ⟨fun blk off cap ss W hH hblk hsz=>callsIn_wide.2 (AnyM.slices_Sort_int Try.sortA blk off cap ss W hH hblk hsz),
  fun p cap W=>callsIn_wide.2 (AnyM.slices_Sort_int_none Try.sortA p cap W)⟩
def sorted (xs:List Int):List Int:=xs.mergeSort fun x y=>decide (x≤y)
theorem sorted_in {w:World} {g Bm:Nat} {vs:List (Int×Value)} (h:MapIs (keyV (.int .i64)) (fun v:Value=>v) w g vs) (hw:∀ e ∈ vs,inR e.1) (hl:vs.length≤1000) (hB:Bm < w.heap.size) (hm:w.cell? ⟨Bm,0,none⟩=some (.map (some g))) (n:Nat) :
  CallsIn Fence.wide n Try.prog 41 #[.func (.func 62) #[] #[.pointer (some ⟨Bm,0,none⟩)]] w fun e w'=>∃ v,e = .returned v ∧
   w'.ownsRow w.heap.size 3 1 v vs.length ((sorted (vs.map (·.1))).map encZ)∧Below w.heap.size w w':=by
 obtain ⟨D0,h1,h2,h3⟩:=map_owns h hw hl
 have hseq:SeqGives Fence.wide 2 Try.prog 62 #[.pointer (some ⟨Bm,0,none⟩)] encZ (fun ss=>ss.Perm (intKeys D0)) (Maps.size D0) w :=
  AnyZI.keys_gives (ρ:=Try.keysA_ren) { Try.keysA with } Fence.wide _ trivial rfl (by omega) Bm g vs.length D0 w hB hm h1
 have cS:=AnyZI.sorted_in Try.sortedA Fence.wide 5 trivial trivial trivial trivial rfl (by omega) (sorts_in _) (enters_of Try.func61 (by kernel_rfl) rfl) 62 #[.pointer (some ⟨Bm,0,none⟩)] trivial (enters_of Try.func62 (by kernel_rfl) rfl) _ _ (by rw [h2]; exact Nat.le_trans hl (by decide)) (by rw [h2]; exact Nat.le_trans (Nat.mul_le_mul_right 8 hl) (by decide)) _ hseq
 change CallsIn _ _ Try.prog 41 _ _ _ at cS
 refine (callsIn_wide.2 (callsIn_wide.1 cS)).mono fun e w' ⟨v,ss,he,hS,hrow,hnil,hb⟩=>⟨v,he,?_,hb⟩
 have hp:=hS.trans h3
 have hlen:ss.length=vs.length:=by rw [hp.length_eq,List.length_map]
 rw [hlen] at hrow
 have e1:ss.mergeSort (fun x y=>decide (x≤y))=sorted (vs.map (·.1)):=mergeSort_of_perm_i hp
 rw [e1] at hrow
 exact hrow
end Go.Proofs.Lx
end
section
set_option maxRecDepth 100000
namespace Go.Proofs.Lx
open Go Go.Proofs Go.RowKit Go.Maps Go.Sort Go.Shelf Ev Sx
attribute [local go_sem] Oper.semAt_some
theorem maps_keys (mb:Option Nat) (W:World) (n:Nat):CallsIn Fence.wide n Try.prog 42 #[.map mb] W fun e w'=>e = .returned (.func (.func 62) #[] #[.pointer (some ⟨W.heap.size,0,none⟩)])∧w'=W.alloc (.cells #[.map mb] 24) :=
 AnyZI.keys_in Try.keysA Fence.wide n trivial rfl mb W
set_option maxHeartbeats 2000000 in
theorem keys_it (n l Bm g:Nat) (h1:1≤n) (W:World) {vs:List (Int×Value)} (h:MapIs (keyV (.int .i64)) (fun v:Value=>v) W g vs) (hw:∀ e ∈ vs,inR e.1) (hl:vs.length≤1000) (hm:W.cell? ⟨Bm,0,none⟩=some (.map (some g)))
  (J Jx:World->List Int->World->Prop) (h0:∀ Z,Below W.heap.size W Z->J Z [] Z)
  (hk:∀ Z pre W',J Z pre W'->∀ k,W.heap.size≤k->k < Z.heap.size->W'.heap[k]? = Z.heap[k]?)
  (hY:∀ Z pre x W',J Z pre W'->YieldAt Fence.wide (n - 1) Try.prog l #[.int .i64 x] W' fun e W''=>(e = .returned (.bool true)∧J Z (pre++[x]) W'')∨(e = .returned (.bool false)∧Jx Z (pre++[x]) W'')) :
  CallsIn Fence.wide n Try.prog 40 #[.func (.yield l) #[] #[],.pointer (some ⟨Bm,0,none⟩)] W fun e W'=>(∃ v,e = .returned v)∧∃ Z,J Z (sorted (vs.map (·.1))) W'∨∃ k,k≤vs.length∧Jx Z ((sorted (vs.map (·.1))).take k) W':=by
 have hlen:(sorted (vs.map (·.1))).length=vs.length:=by unfold sorted; rw [List.length_mergeSort,List.length_map]
 have hgl:=h.lt
 have cK:=maps_keys (some g) W (n - 1)
 have hm1:MapIs (keyV (.int .i64)) (fun v:Value=>v) (W.alloc (.cells #[.map (some g)] 24)) g vs:=by
  obtain ⟨es,cl,a,b,c⟩:=h
  exact ⟨es,cl,(Below.heap_alloc _ _ g hgl).trans a,b,c⟩
 have cS:=sorted_in (Bm:=W.heap.size) hm1 hw hl (by simp) (by simp) (n - 1)
 generalize sorted (vs.map (·.1))=zs at hlen cS
 have hb0:Below W.heap.size W (W.alloc (.cells #[.map (some g)] 24)):=(Below.refl _ W).alloc (Nat.le_refl _) _
 have hfK:Fence.wide.fn 42:=trivial
 have hfS:Fence.wide.fn 41:=trivial
 refine callsIn_of_wp Try.func40 rfl trivial ?_ rfl
 simp only [Try.ntmps40,List.size_toArray,List.length_cons,List.length_nil,Nat.reduceAdd,Nat.reduceSub,Array.replicate_succ,Array.replicate_zero,List.push_toArray,List.append_toArray,List.nil_append,List.cons_append]
 gi_wp2_with (first
  | (gi_at_call 42; refine cK.mono ?_; rintro e w' ⟨rfl,rfl⟩)
  | (gi_at_call 41; refine cS.mono ?_; rintro e Z ⟨v,rfl,hrow,hb⟩))
 have hbZ:Below W.heap.size W Z:=hb0.trans (hb.mono (by simp))
 have hJ0:=h0 Z hbZ
 rcases hrow.2 with ⟨rfl,hz⟩ | ⟨gb,cap,cur,rfl,hbase,hgb,r1,r2,r3,r4⟩
 ·have hzs:zs=[]:=List.eq_nil_of_length_eq_zero (by omega)
  subst hzs
  simp [go_sem]
  gi_wp2
  gi_loopw [9] (fun i wr=>i = .int .i64 0∧J Z [] wr) (fun _ _=>0)
  case atStart=>exact ⟨rfl,hJ0⟩
  case round =>
   obtain ⟨rfl,hJs⟩:=hrel
   gi_wp2
   go_end0
   exact ⟨⟨_,rfl⟩,Z,.inl hJs⟩
 ·have hgZ:gb < Z.heap.size:=(Array.getElem?_eq_some_iff.1 hgb).1
  simp [go_sem]
  gi_wp2
  gi_loopw [9] (fun i wr=>∃ k:Nat,k≤vs.length∧i = .int .i64 k∧J Z (zs.take k) wr) (fun i _=>vs.length - (Go.RowKit.intOf i).toNat)
  case atStart=>exact ⟨0,Nat.zero_le _,rfl,by simpa using hJ0⟩
  case round =>
   obtain ⟨k,hkl,rfl,hJs⟩:=hrel
   have hgw:wr.heap[gb]? = some (.cells cur 3 (0,0)):=(hk Z _ wr hJs gb (by have:=hbase; simp at this; omega) hgZ).trans hgb
   by_cases hlt:k < vs.length
   ·obtain ⟨x,hx⟩:∃ x,zs[k]? = some x:=⟨_,List.getElem?_eq_getElem (by omega)⟩
    have hcx:wr.cell? ⟨gb,k,none⟩=some (.int .i64 x):=by
     have e1:cur[k]? = some (.int .i64 x):=by
      have e2:(cur.toList.take (vs.length * 1))[k]? = some (.int .i64 x):=by
       rw [r4,List.getElem?_map,hx]
       rfl
      rw [List.getElem?_take_of_lt (by omega)] at e2
      simpa using e2
     simp [World.cell?,hgw,e1]
    have htk:zs.take (k + 1)=zs.take k++[x]:=by rw [List.take_add_one,hx]; rfl
    obtain ⟨fn,tmps,assign,body,hy,hR⟩:=hY Z _ x wr hJs
    gi_wp2
    refine hR.mono ?_
    rintro e W3 (⟨rfl,hJ3⟩ | ⟨rfl,hJx3⟩)
    ·gi_wp2
     go_roundw
     case rel=>exact ⟨k + 1,by omega,by simp,by rw [htk]; exact hJ3⟩
     case measure=>simp [Go.RowKit.intOf]; omega
    ·gi_wp2
     refine bodyPost_ret (results_none rfl _ _ _) rfl ?_
     exact ⟨⟨_,rfl⟩,Z,.inr ⟨k + 1,by omega,by rw [htk]; exact hJx3⟩⟩
   ·obtain rfl:k=vs.length:=by omega
    gi_wp2
    go_end0
    exact ⟨⟨_,rfl⟩,Z,.inl (by rw [<- hlen,List.take_length] at hJs; exact hJs)⟩
end Go.Proofs.Lx
end
section
set_option maxRecDepth 100000
namespace Go.Proofs.Lx
open Go Go.RowKit Ev Sx
structure Sto (B0:Nat->Prop) (p0:List Ev.Place) (F:Lx) (pl:List Ev.Place) (own:List (Nat×Ent)) (w:World):Prop where
 pair:(lx pl own).Pairwise (fun x y=>∀ k,x=some k->y ≠ some k)
 lo:∀ k,some k ∈ lx pl own->B0 k
 hi:∀ k,some k ∈ lx pl own->k < w.heap.size
 far:∀ k,some k ∈ F->some k ∉ lx pl own∧k < w.heap.size
 pre:∀ (i:Nat) (p:Ev.Place),p0[i]? = some p->pl[i]? = some p
 ent:EntsD pl (lx pl own++F) w own
section
variable {B0:Nat->Prop} {p0:List Ev.Place} {F F':Lx} {pl:List Ev.Place} {own:List (Nat×Ent)} {w w':World}
theorem own_mem {e:Nat×Ent} (he:e ∈ own):plb pl e.1 ∈ lx pl own:=List.mem_map_of_mem (f:=fun e:Nat×Ent=>plb pl e.1) he
theorem Sto.grow (h:Sto B0 p0 F pl own w) (hf:Fz [] w w') (hF:∀ k,some k ∈ F'->(some k ∈ F∨w.heap.size≤k)∧k < w'.heap.size):Sto B0 p0 F' pl own w':=by
 have hs:Sub w (lx pl own++F') (lx pl own++F):=fun k hk=>by
  rcases List.mem_append.1 hk with hk | hk
  ·exact .inl (List.mem_append_left _ hk)
  ·rcases (hF k hk).1 with h1 | h1
   ·exact .inl (List.mem_append_right _ h1)
   ·exact .inr h1
 refine ⟨h.pair,h.lo,fun k hk=>Nat.lt_of_lt_of_le (h.hi k hk) hf.size,fun k hk=>⟨?_,(hF k hk).2⟩,h.pre,fun e he=>?_⟩
 ·rcases (hF k hk).1 with h1 | h1
  ·exact (h.far k h1).1
  ·exact fun hm=>by have:=h.hi k hm; omega
 ·refine (h.ent e he).ext ⟨fun _ _ h=>h,fun R _ _ hr=>R.mono (R.grow hr hs) hf.nil,fun R _ _ _ hr=>(hr.grow hs).mono hf.nil⟩ (fun k hk=>?_) (fun R _ xs p hp ho=>⟨ho.1,ho.2.step (M:=[]) hf nilM hs nilB⟩)
  have hm:=own_mem (pl:=pl) he
  rw [hk] at hm
  exact hf.block k (h.hi k hm) nilN
theorem Sto.turn (h:Sto B0 p0 F pl own w) (hf:Fz F w w'):Sto B0 p0 F pl own w':=by
 have hM:∀ k,some k ∈ F->some k ∈ lx pl own++F:=fun k hk=>List.mem_append_right _ hk
 refine ⟨h.pair,h.lo,fun k hk=>Nat.lt_of_lt_of_le (h.hi k hk) hf.size,fun k hk=>⟨(h.far k hk).1,Nat.lt_of_lt_of_le (h.far k hk).2 hf.size⟩,h.pre,fun e he=>?_⟩
 have hm:=own_mem (pl:=pl) he
 refine (h.ent e he).ext ⟨fun _ _ h=>h,fun R _ _ hr=>R.mono hr (hf.sub hM),fun R _ _ _ hr=>hr.mono (hf.sub hM)⟩ (fun k hk=>?_) (fun R _ xs p hp ho=>⟨ho.1,ho.2.step (M:=F) hf hM (Sub.refl _ _) fun k hk hF=>?_⟩)
 ·rw [hk] at hm
  exact hf.block k (h.hi k hm) (fun hF=>(h.far k hF).1 hm)
 ·have:plb pl e.1=some k:=by unfold plb; rw [hp]; exact hk
  rw [this] at hm
  exact (h.far k hF).1 hm
theorem Sto.less (h:Sto B0 p0 F pl own w) (hF:∀ k,some k ∈ F'->some k ∈ F):Sto B0 p0 F' pl own w :=
 h.grow (Fz.refl _ _) fun k hk=>⟨.inl (hF k hk),(h.far k (hF k hk)).2⟩
theorem Sto.sub (h:Sto B0 p0 F pl own w) {own':List (Nat×Ent)} {p1:List Ev.Place} (hs:List.Sublist own' own) (hp:∀ (i:Nat) (p:Ev.Place),p1[i]? = some p->pl[i]? = some p):Sto B0 p1 F pl own' w:=by
 have hm:∀ k,some k ∈ lx pl own'->some k ∈ lx pl own:=fun k hk=>(lx_sub hs).subset hk
 refine ⟨h.pair.sublist (lx_sub hs),fun k hk=>h.lo k (hm k hk),fun k hk=>h.hi k (hm k hk),fun k hk=>⟨fun hx=>(h.far k hk).1 (hm k hx),(h.far k hk).2⟩,hp,fun e he=>?_⟩
 refine (EntsD.sub (fun k hk=>?_) h.ent) e (hs.subset he)
 rcases List.mem_append.1 hk with hk | hk
 ·exact List.mem_append_left _ (hm k hk)
 ·exact List.mem_append_right _ hk
theorem Sto.rel {S:St} {l:List Value} (h:Sto B0 p0 F pl S.own w) (hup:S.up=[]) (hnx:S.nx=pl.length) (hln:S.ln=p0.length) (hnt:l.length=S.nt) (hfr:FrD pl (lx pl S.own++F) w S.fr l) :
  Rel (Bo pl S.own w) F ⟨w,p0,fun _=>True⟩ (here F pl S w) pl S l [] w :=
 {hL:=⟨h.pair,fun k hk=>.inl hk,h.hi,fun k hk=>.inr hk,fun k hk=>⟨fun hb=>by
   rcases hb with hb | hb
   ·exact (h.far k hk).1 hb
   ·have:=(h.far k hk).2; omega,(h.far k hk).2⟩⟩
  hB:=Blw.refl _ _,pre:=h.pre,hI:=fun _ _=>trivial,hln:=hln,nx:=hnx,nt:=hnt,ent:=h.ent,fr:=hfr,up:=by rw [hup]; rfl
  tn:=⟨Fz.refl _ _,Sub.refl _ _,Nat.le_refl _,fun _ _ h=>h,fun e he _=>List.mem_map_of_mem (f:=fun e:Nat×Ent=>e.1) he,fun _ _ _ _ _ _=>rfl⟩ }
theorem sto_of_rel {S S1:St} {wr:Wr} {pl':List Ev.Place} {l':List Value} (hb:∀ k,Bo pl S.own w k->B0 k) (h:Rel (Bo pl S.own w) F ⟨w,p0,fun _=>True⟩ wr pl' S1 l' [] w') :
  Sto B0 p0 F pl' S1.own w'∧Blw (Bo pl S.own w) w w' :=
 ⟨⟨h.hL.pair,fun k hk=>hb k (h.hL.lo k hk),h.hL.hi,fun k hk=>⟨fun hx=>(h.hL.far k hk).1 (h.hL.lo k hx),(h.hL.far k hk).2⟩,h.pre,h.ent⟩,h.hB⟩
theorem exOf_panic {e:Ex}:∀ c,exOf e ≠ .panic c:=by cases e <;> intro c h <;> cases h
theorem q1x_ {env:Env} {hs:Nat->Option Hint} {hint:Hint} (henv:EnvOk Try.prog (fun _=>True) env) {c:Code} {S S1:St} {e0:Ex} {l:List Value}
  (hb:∀ k,Bo pl S.own w k->B0 k) (h:Sto B0 p0 F pl S.own w) (hup:S.up=[]) (hnx:S.nx=pl.length) (hln:S.ln=p0.length) (hnt:l.length=S.nt) (hfr:FrD pl (lx pl S.own++F) w S.fr l)
  (hev:evN env hs hint c S=some (e0,S1)) :
  CW Try.prog c (fun e a w'=>∃ pl' l',e=exOf e0∧a=mk l'∧l'.length=S1.nt∧pl'.length=S1.nx∧Sto B0 p0 F pl' S1.own w'∧FrD pl' (lx pl' S1.own++F) w' S1.fr l'∧Blw (Bo pl S.own w) w w') l w:=by
 refine ev_ok (R:=Ex×St) henv (evC_ok henv (fun _ _ h=>by cases h) 2) (Hn:=False) (fun h=>h.elim) c 1 _ pl S l w _ _ ?_ (h.rel hup hnx hln hnt hfr) hev (fun e wr' pl' S' l' w' h' _ hv=>?_)
 ·rintro c a a' w ⟨pl',l',he,_⟩
  exact absurd he.symm (exOf_panic c)
 ·obtain ⟨S2,h1,h2⟩:=qc_ hv
  cases h2
  obtain ⟨wr2,pl2,h3⟩:=nrm_ok h' h1
  obtain ⟨a,b⟩:=sto_of_rel hb h3
  exact ⟨pl2,l',rfl,rfl,h3.nt,h3.nx.symm,a,h3.fr,b⟩
end
end Go.Proofs.Lx
end
section
set_option maxRecDepth 100000
namespace Go.Proofs.Lx
open Go Go.Proofs Ev Sx
abbrev kT:Ty:=.int .i64
abbrev uT:Ty:=.int .u16
def bkFr:Fr:=[(1,.pb 1 0),(2,.pb 2 0),(3,.pb 3 0),(11,.fn (.func 40) [] [.pb 4 0]),(4,.pb 5 0)]
def bkOwn (m:zE0) (c:SV) (ok b:Bool) (xs:List Bk) (a:Int) (ws:List Int):List (Nat×Ent) :=
 [(0,.dm kT uT m),(1,.box 24 [.mp 0]),(2,.box 26 [c]),(3,.box 4 [.d .bool ok]),(4,.box 24 [.mp 0]),(5,.box 26 [.row 6]),(6,.rowo bT 31 b xs [.d kT a,.row 7]),(7,.row uT 32 ws)]
def nilV:SV:=.k (.slice none 0 0)
def bkSt (fr:Fr) (ln:Nat) (m:zE0) (c:SV) (ok b:Bool) (xs:List Bk) (a:Int) (ws:List Int):St :=
 {fr:=fr,nt:=74,up:=[],own:=bkOwn m c ok b xs a ws,nx:=8,log:=[],ln:=ln }
def bkS1 (m:zE0):St :=
 {fr:=[(1,.pb 1 0),(2,.pb 2 0),(3,.pb 3 0)],nt:=74,up:=[],own:=[(0,.dm kT uT m),(1,.box 24 [.mp 0]),(2,.box 26 [nilV]),(3,.box 4 [.d .bool false])],nx:=4,log:=[],ln:=1 }
def bkS3 (m:zE0):St :=
 {fr:=[(1,.pb 1 0),(2,.pb 2 0),(3,.pb 3 0),(4,.pb 4 0)],nt:=74,up:=[],own:=[(0,.dm kT uT m),(1,.box 24 [.mp 0]),(2,.box 26 [nilV]),(3,.box 4 [.d .bool false]),(4,.box 26 [nilV])],nx:=5,log:=[],ln:=1 }
def hA:Hint:=⟨[],[1,2,3]⟩
def hB:Hint:=⟨[],[1,2,3,4]⟩
def hR:Hint:=⟨[.rwb 4 0 31,.opc 4 0 [(1,32)]],[1,2,3,11,4]⟩
theorem p1_eq (m:zE0):evN bkEnv bkNo hA bk1 (bkS0 m)=some (.n,bkS1 m):=by kernel_rfl
theorem p2_eq (m:zE0):evN bkEnv bkNo hA bk2 (bkS1 m)=if gt (Int.ofNat m.length) 64=true then some (.r,bkS1 m) else some (.n,bkS1 m):=by kernel_rfl
theorem p3_eq (m:zE0):evN bkEnv bkNo hB bk3 (bkS1 m)=some (.n,bkS3 m):=by kernel_rfl
theorem p4_eq (m:zE0):evN bkEnv bkNo hR bk4 (bkS3 m)=some (.n,bkSt bkFr 1 m nilV false false [] 0 []):=by kernel_rfl
def bkL (b:Bool) (xs:List Bk):Int:=if b=true then Int.ofNat (xs.length + 1) else Int.ofNat xs.length
def bkX (b:Bool) (xs:List Bk) (a:Int) (ws:List Int):List Bk:=if b=true then xs++[(a,ws)] else xs
def bkV (m:zE0) (z:Int):Int:=gdV uT (dget kT m z) 0
def bkRet (m:zE0) (b:Bool) (xs:List Bk) (a:Int) (ws:List Int):Option (Ex×St):=some (.r,bkSt bkFr 6 m nilV false b xs a ws)
def bkPush (m:zE0) (b:Bool) (xs:List Bk) (a:Int) (ws:List Int) (z:Int):Option (Ex×St) :=
 if eqi (bkL b xs) 8=true then bkRet m b xs a ws else
  need (small ((bkX b xs a ws).length + 1)) (need (eqi (add .i64 (sub .i64 (bkL b xs) 1) 1) (Int.ofNat (bkX b xs a ws).length)) (need (eqi (add .i64 (sub .i64 (bkL b xs) 1) 1) (Int.ofNat (bkX b xs a ws).length))
   (need (small (0 + Nat.succ 0)) (need (eqi (add .i64 (sub .i64 (bkL b xs) 1) 1) (Int.ofNat (bkX b xs a ws).length)) (need (eqi (add .i64 (sub .i64 (bkL b xs) 1) 1) (Int.ofNat (bkX b xs a ws).length))
    (some (.n,bkSt bkFr 6 m nilV false true (bkX b xs a ws) z [bkV m z])))))))
def n1 (b:Bool) (xs:List Bk) (k:Option (Ex×St)):Option (Ex×St):=need b (need (eqi (sub .i64 (bkL b xs) 1) (Int.ofNat xs.length)) k)
def bkM (m:zE0) (b:Bool) (xs:List Bk) (a:Int) (ws:List Int) (z:Int):Option (Ex×St) :=
 if lt z 0=true then bkRet m b xs a ws else
 if ge z 64=true then bkRet m b xs a ws else
 if lt (sub .i64 (bkL b xs) 1) 0=true then bkPush m b xs a ws z else
 n1 b xs (n1 b xs (n1 b xs (n1 b xs (
 if nei z (add .i64 a (Int.ofNat ws.length))=true then bkPush m b xs a ws z else
 n1 b xs (n1 b xs (
 if eqi (Int.ofNat ws.length) 14=true then bkPush m b xs a ws z else
 n1 b xs (n1 b xs (need (small (ws.length + Nat.succ 0)) (n1 b xs (n1 b xs (some (.n,bkSt bkFr 6 m nilV false true xs a (ws++[bkV m z])))))))))))))
theorem pB_eq (m:zE0) (b:Bool) (xs:List Bk) (a:Int) (ws:List Int) (z:Int) :
  evN bkEnv bkNo hR bkB (bkSt ((5,.d kT z)::bkFr) 6 m nilV false b xs a ws)=bkM m b xs a ws z:=by kernel_rfl
end Go.Proofs.Lx
end
section
namespace Pl
open Go Ev Sx
set_option maxRecDepth 10000
theorem q5_ {σ R:Type} (F:(σ->Option R)->σ->Option R) (n:Nat) (s:σ):loopF F (n + 1) s=F (loopF F n) s:=rfl
theorem loopF_eq {σ R:Type} {F:(σ->Option R)->σ->Option R} {Inv:σ->Prop} {μ:σ->Nat} {G:σ->Option R}
  (step:∀ self s,Inv s->(∀ s',Inv s'->μ s' < μ s->self s'=G s')->F self s=G s):∀ (n:Nat) (s:σ),Inv s->μ s < n->loopF F n s=G s
 | 0,s,_,h=>by omega
 | n + 1,s,hs,h=>by
  rw [q5_]
  exact step _ s hs fun s' hs' hlt=>loopF_eq step n s' hs' (by omega)
theorem w64 {x:Int} (h1:-9223372036854775808≤x) (h2:x≤9223372036854775807):IntKind.i64.wrap x=x:=by
 simp only [IntKind.wrap,IntKind.signed,IntKind.bits]
 simp
 omega
theorem wu8 {x:Int} (h1:0≤x) (h2:x≤255):IntKind.u8.wrap x=x:=by
 simp only [IntKind.wrap,IntKind.signed,IntKind.bits]
 simp
 omega
theorem add64 {a b:Int} (h1:-9223372036854775808≤a + b) (h2:a + b≤9223372036854775807):add .i64 a b=a + b:=w64 h1 h2
theorem sub64 {a b:Int} (h1:-9223372036854775808≤a - b) (h2:a - b≤9223372036854775807):sub .i64 a b=a - b:=w64 h1 h2
theorem mul64 {a b:Int} (h1:-9223372036854775808≤a * b) (h2:a * b≤9223372036854775807):mul .i64 a b=a * b:=w64 h1 h2
theorem neg64 {a:Int} (h1:-9223372036854775808≤-a) (h2:-a≤9223372036854775807):neg .i64 a=-a:=w64 h1 h2
theorem cvt64 {a:Int} (h1:-9223372036854775808≤a) (h2:a≤9223372036854775807):cvt .i64 a=a:=w64 h1 h2
theorem q9_ {n:Nat} (h:n < 4611686018427387904):add .i64 (n:Int) 1=((n + 1:Nat):Int):=by rw [add64 (by omega) (by omega)]; rfl
theorem q0_ (n:Nat):Int.ofNat n=(n:Int):=rfl
theorem q1_ {a b:Int}:lt a b=true ↔ a < b:=by simp [lt]
theorem le_iff {a b:Int}:le a b=true ↔ a≤b:=by simp [le]
theorem q7_ {a b:Int}:gt a b=true ↔ b < a:=by simp [gt]
theorem ge_iff {a b:Int}:ge a b=true ↔ b≤a:=by simp [ge]
theorem qb_ {a b:Int}:eqi a b=true ↔ a=b:=by simp [eqi]
theorem qh_ {a b:Int}:nei a b=true ↔ a ≠ b:=by simp [nei]
theorem q1h_ {a b:List UInt8}:eqs a b=true ↔ a=b:=by simp [eqs]
theorem nes_iff {a b:List UInt8}:nes a b=true ↔ a ≠ b:=by simp [nes]
theorem small_iff {n:Nat}:small n=true ↔ n≤1073741824:=by simp [small]
theorem gt_dec (a b:Int):gt a b=decide (b < a):=rfl
theorem qp_ {b:Bool} {β:Type} {k:Option β} (h:b=true):need b k=k:=by unfold need; rw [if_pos h]
theorem q1v_ {n:Nat} {β:Type} {k:Option β} (h:n≤1073741824):need (small n) k=k:=qp_ (small_iff.2 h)
theorem q4_ {α:Type} {s:List α} {i:Nat} {c:α} (h:s[i]? = some c):at? s (i:Int)=some c:=by
 unfold at?
 simp [h]
theorem at_zero {α:Type} (c:α) (q:List α):at? (c::q) 0=some c:=rfl
theorem at_drop {α:Type} {s:List α} {i:Nat} {c:α} {r:List α} (h:s.drop i=c::r):at? s (i:Int)=some c:=by
 apply q4_
 have:=congrArg (·[0]?) h
 simpa using this
theorem drop_succ {α:Type} {s:List α} {i:Nat} {c:α} {r:List α} (h:s.drop i=c::r):s.drop (i + 1)=r∧i < s.length∧s.length - i=r.length + 1:=by
 have hl:=congrArg List.length h
 simp at hl
 refine ⟨?_,by omega,by omega⟩
 rw [<- List.drop_drop,h]
 rfl
theorem drop_nil {α:Type} {s:List α} {i:Nat} (h:s.drop i=[]):s.length≤i:=by
 have:=congrArg List.length h
 simp at this
 omega
theorem cut_nat {α:Type} {xs:List α} {i j:Nat} (h1:i≤j) (h2:j≤xs.length):cut xs (i:Int) (j:Int)=some ((xs.take j).drop i):=by
 unfold cut
 rw [if_pos ⟨by omega,by omega,by omega⟩]
 simp
theorem cut_from {α:Type} {xs:List α} {i:Nat} (h:i≤xs.length):cut xs (i:Int) (Int.ofNat xs.length)=some (xs.drop i):=by
 rw [q0_,cut_nat h (Nat.le_refl _)]
 simp
theorem cut_one {α:Type} (c:α) (q:List α):cut (c::q) 1 (Int.ofNat (c::q).length)=some q:=by
 have:=cut_from (xs:=c::q) (i:=1) (by simp)
 simpa using this
theorem split_at (c:UInt8) (s:List UInt8):(c ∉ s)∨∃ p q,s=p++c::q∧c ∉ p:=by
 induction s with
 | nil=>exact .inl (by simp)
 | cons b r ih =>
  by_cases hb:b=c
  ·exact .inr ⟨[],r,by simp [hb],by simp⟩
  ·rcases ih with h | ⟨p,q,h1,h2⟩
   ·exact .inl (by simp; exact ⟨fun e=>hb e.symm,h⟩)
   ·exact .inr ⟨b::p,q,by simp [h1],by simp; exact ⟨fun e=>hb e.symm,h2⟩⟩
theorem all8 {p:Nat->Bool} (h:(List.range 256).all p=true) (c:UInt8):p c.toNat=true:=List.all_eq_true.1 h _ (List.mem_range.2 c.toNat_lt)
theorem eqV_refl:∀ (t:Ty) (x:Vl t),eqV t x x=true:=by
 have hl:∀ {α:Type} {f:α->α->Bool},(∀ a,f a a=true)->∀ x:List α,eqL f x x=true:=fun h x=>by
  induction x with
  | nil=>rfl
  | cons a q ih=>simp [eqL,h,ih]
 intro t
 induction t with
 | int k=>intro x; simp [eqV,eqi]
 | bool=>intro x; simp [eqV,eqb]
 | str=>intro x; simp [eqV,eqs]
 | sl t ih=>intro x; exact hl ih x
 | pr a b iha ihb=>intro x; simp [eqV,iha,ihb]
 | wr a ih=>intro x; exact ih x
 | un=>intro x; rfl
 | ar n t ih=>intro x; exact hl ih x
 | mp k v ihk ihv=>intro x; exact hl (fun a=>by rw [ihk,ihv]; rfl) x
theorem eqAs_refl:∀ (rs:List Ty) (x:As rs),eqAs rs x x=true
 | [],_=>rfl
 | t::r,x=>by simp [eqAs,eqV_refl,eqAs_refl r]
theorem amb2 {R:Type} {eq:R->R->Bool} (h:∀ x,eq x x=true) (a:Option R):amb eq [a,a]=a:=by
 cases a <;> simp [amb,ambC,h]
end Pl
end
section
set_option maxRecDepth 100000
namespace Go.Proofs.Lx
open Go Go.Proofs Ev Sx Pl
def bkStep (m:zE0) (l:List Bk) (z:Int):Option (List Bk) :=
 if z < 0∨64≤z then none else
 match l.getLast? with
 | none=>some [(z,[bkV m z])]
 | some (a,ws)=>if z ≠ a + (ws.length:Int)∨ws.length=14 then (if l.length=8 then none else some (l++[(z,[bkV m z])])) else some (l.dropLast++[(a,ws++[bkV m z])])
structure BkI (b:Bool) (xs:List Bk) (a:Int) (ws:List Int):Prop where
 emp:b=false->xs=[]
 len:(bkX b xs a ws).length≤8
 rng:b=true->0≤a∧a < 64∧1≤ws.length∧ws.length≤14
theorem BkI.start:BkI false [] 0 []:=⟨fun _=>rfl,by decide,(fun h=>by cases h)⟩
theorem push_eq {m:List (Int×Int)} {b:Bool} {xs:List Bk} {a:Int} {ws:List Int} {z:Int} (hL:bkL b xs=((bkX b xs a ws).length:Int)) (h8:(bkX b xs a ws).length≤8) :
  bkPush m b xs a ws z=if (bkX b xs a ws).length=8 then bkRet m b xs a ws else some (.n,bkSt bkFr 6 m nilV false true (bkX b xs a ws) z [bkV m z]):=by
 have e1:eqi (add .i64 (sub .i64 (bkL b xs) 1) 1) (Int.ofNat (bkX b xs a ws).length)=true:=by
  rw [hL,sub64 (by omega) (by omega),add64 (by omega) (by omega),qb_]
  show _=((bkX b xs a ws).length:Int)
  omega
 unfold bkPush
 by_cases h:(bkX b xs a ws).length=8
 ·rw [if_pos (by rw [qb_,hL]; omega),if_pos h]
 ·rw [if_neg (by rw [qb_,hL]; omega),if_neg h,qp_ (small_iff.2 (by omega)),qp_ e1,qp_ e1,qp_ (by decide),qp_ e1,qp_ e1]
theorem n1_eq {xs:List Bk} {k:Option (Ex×St)} (h:xs.length≤8):n1 true xs k=k:=by
 unfold n1
 rw [qp_ rfl,qp_]
 rw [qb_]
 show sub .i64 ((xs.length + 1:Nat):Int) 1=(xs.length:Int)
 rw [sub64 (by omega) (by omega)]
 omega
theorem bk_spec {m:List (Int×Int)} {b:Bool} {xs:List Bk} {a:Int} {ws:List Int} (h:BkI b xs a ws) (z:Int) :
  (bkStep m (bkX b xs a ws) z=none∧bkM m b xs a ws z=bkRet m b xs a ws) ∨
  ∃ xs' a' ws',bkStep m (bkX b xs a ws) z=some (bkX true xs' a' ws')∧bkM m b xs a ws z=some (.n,bkSt bkFr 6 m nilV false true xs' a' ws')∧BkI true xs' a' ws':=by
 have h8:=h.len
 by_cases h1:z < 0
 ·exact .inl ⟨by unfold bkStep; rw [if_pos (.inl h1)],by unfold bkM; rw [if_pos (q1_.2 h1)]⟩
 by_cases h2:64≤z
 ·exact .inl ⟨by unfold bkStep; rw [if_pos (.inr h2)],by unfold bkM; rw [if_neg (by rw [q1_]; exact h1),if_pos (ge_iff.2 h2)]⟩
 have hm:∀ k,bkM m b xs a ws z=k->bkM m b xs a ws z=k:=fun _ h=>h
 cases b with
 | false =>
  obtain rfl:=h.emp rfl
  refine .inr ⟨[],z,[bkV m z],?_,?_,⟨(fun h=>by cases h),by show (1:Nat)≤8; decide,fun _=>⟨by omega,by omega,by simp,by simp⟩⟩⟩
  ·unfold bkStep
   rw [if_neg (by omega)]
   rfl
  ·unfold bkM
   rw [if_neg (by rw [q1_]; exact h1),if_neg (by rw [ge_iff]; omega),if_pos (by decide),push_eq rfl h8,if_neg (by show ¬ (0:Nat)=8; decide)]
   rfl
 | true =>
  obtain ⟨r1,r2,r3,r4⟩:=h.rng rfl
  have hl:(bkX true xs a ws).length=xs.length + 1:=by simp [bkX]
  have hX:(bkX true xs a ws).getLast? = some (a,ws):=by simp [bkX]
  have hD:(bkX true xs a ws).dropLast=xs:=by simp [bkX]
  have hx8:xs.length≤7:=by omega
  have hpush:=push_eq (m:=m) (z:=z) (b:=true) (xs:=xs) (a:=a) (ws:=ws) (by rw [hl]; rfl) h8
  have hst:bkStep m (bkX true xs a ws) z=if z ≠ a + (ws.length:Int)∨ws.length=14 then (if (bkX true xs a ws).length=8 then none else some (bkX true xs a ws++[(z,[bkV m z])])) else some (xs++[(a,ws++[bkV m z])]):=by
   unfold bkStep
   rw [if_neg (by omega),hX,hD]
  have hM:bkM m true xs a ws z=if z ≠ a + (ws.length:Int)∨ws.length=14 then bkPush m true xs a ws z else some (.n,bkSt bkFr 6 m nilV false true xs a (ws++[bkV m z])):=by
   unfold bkM
   rw [if_neg (by rw [q1_]; exact h1),if_neg (by rw [ge_iff]; omega),if_neg (by
    rw [q1_]
    show ¬ sub .i64 ((xs.length + 1:Nat):Int) 1 < 0
    rw [sub64 (by omega) (by omega)]
    omega)]
   rw [n1_eq (by omega),n1_eq (by omega),n1_eq (by omega),n1_eq (by omega)]
   have ea:add .i64 a (Int.ofNat ws.length)=a + (ws.length:Int):=add64 (by show _≤a + (ws.length:Int); omega) (by show a + (ws.length:Int)≤_; omega)
   rw [ea]
   by_cases c1:z ≠ a + (ws.length:Int)
   ·rw [if_pos (qh_.2 c1),if_pos (.inl c1)]
   ·rw [if_neg (by rw [qh_]; exact c1),n1_eq (by omega),n1_eq (by omega)]
    by_cases c2:ws.length=14
    ·rw [if_pos (by rw [qb_,c2]; rfl),if_pos (.inr c2)]
    ·rw [if_neg (by rw [qb_]; show ¬ (ws.length:Int)=14; omega),if_neg (by omega),n1_eq (by omega),n1_eq (by omega),qp_ (small_iff.2 (by show ws.length + 1≤_; omega)),n1_eq (by omega),n1_eq (by omega)]
  rw [hst,hM]
  by_cases c:z ≠ a + (ws.length:Int)∨ws.length=14
  ·rw [if_pos c,if_pos c,hpush]
   by_cases c8:(bkX true xs a ws).length=8
   ·rw [if_pos c8,if_pos c8]
    exact .inl ⟨rfl,rfl⟩
   ·rw [if_neg c8,if_neg c8]
    exact .inr ⟨bkX true xs a ws,z,[bkV m z],rfl,rfl,⟨(fun h=>by cases h),by simp [bkX] at hl c8 ⊢; omega,fun _=>⟨by omega,by omega,by simp,by simp⟩⟩⟩
  ·rw [if_neg c,if_neg c]
   exact .inr ⟨xs,a,ws++[bkV m z],rfl,rfl,⟨(fun h=>by cases h),by simp [bkX]; omega,fun _=>⟨r1,r2,by simp,by simp; omega⟩⟩⟩
end Go.Proofs.Lx
end
section
set_option maxRecDepth 100000
namespace Go.Proofs.Lx
open Go Go.Proofs Go.RowKit Ev Sx
theorem frD_nil {pl:List Ev.Place} {L:Lx} {w:World} {l:List Value}:FrD pl L w [] l:=fun t s h=>by cases h
theorem ql_ {pl:List Ev.Place} {L:Lx} {w:World} {l:List Value} {t:Nat} {s:SV} {fr:Fr} (h:Den pl L w s (l.getD t undef)) (hf:FrD pl L w fr l):FrD pl L w ((t,s)::fr) l:=fun t' s' hg=>by
 unfold Ev.get at hg
 split at hg
 ·rename_i e; cases hg; subst e; exact h
 ·exact hf t' s' hg
structure Slots (p0:List Ev.Place) (l:List Value):Prop where
 len:l.length=74
 p:p0.length=6
 s1:Den p0 [] default (.pb 1 0) (l.getD 1 undef)
 s2:Den p0 [] default (.pb 2 0) (l.getD 2 undef)
 s3:Den p0 [] default (.pb 3 0) (l.getD 3 undef)
 s11:Den p0 [] default (.fn (.func 40) [] [.pb 4 0]) (l.getD 11 undef)
 s4:Den p0 [] default (.pb 5 0) (l.getD 4 undef)
theorem den_pb {p0 pl:List Ev.Place} {L L':Lx} {w w':World} {i o:Nat} {u:Value} (hp:∀ (i:Nat) (p:Ev.Place),p0[i]? = some p->pl[i]? = some p) (h:Den p0 L w (.pb i o) u):Den pl L' w' (.pb i o) u:=by
 obtain ⟨g,n,c,h1,h2⟩:=h
 exact ⟨g,n,c,hp _ _ h1,h2⟩
theorem den_fn1 {p0 pl:List Ev.Place} {L L':Lx} {w w':World} {f:Fn} {i o:Nat} {u:Value} (hp:∀ (i:Nat) (p:Ev.Place),p0[i]? = some p->pl[i]? = some p) (h:Den p0 L w (.fn f [] [.pb i o]) u):Den pl L' w' (.fn f [] [.pb i o]) u:=by
 obtain ⟨us,vs,h1,⟨v,q,h2,h3,h4⟩,h5⟩:=h
 exact ⟨us,vs,h1,⟨v,q,h2,den_pb hp h3,h4⟩,h5⟩
theorem Slots.fr {p0 pl:List Ev.Place} {l l':List Value} {L:Lx} {w:World} (h:Slots p0 l) (hp:∀ (i:Nat) (p:Ev.Place),p0[i]? = some p->pl[i]? = some p) (hl:∀ t ∈ [1,2,3,11,4],l'.getD t undef=l.getD t undef):FrD pl L w bkFr l':=by
 refine ql_ ?_ (ql_ ?_ (ql_ ?_ (ql_ ?_ (ql_ ?_ frD_nil))))
 ·rw [hl 1 (by simp)]; exact den_pb hp h.s1
 ·rw [hl 2 (by simp)]; exact den_pb hp h.s2
 ·rw [hl 3 (by simp)]; exact den_pb hp h.s3
 ·rw [hl 11 (by simp)]; exact den_fn1 hp h.s11
 ·rw [hl 4 (by simp)]; exact den_pb hp h.s4
theorem bkEnv_ok:EnvOk Try.prog (fun _=>True) bkEnv:=q2_ bx_ok q6_
noncomputable def bkRec (fn:FuncId) (l:List Value) (D:Nat) (st:LoopState) (pend:Option Code):Loop :=
 {state:=st,pending:=pend,fn:=fn,tmps:=l.toArray,params:=#[12],assign:=bkA,body:=bkB,defers:=D }
theorem fz_putObj (w:World) (l:Nat) (o:Obj):Fz [some l] w (w.putObj l o) :=
 ⟨rfl,rfl,rfl,by simp,fun k _ hn=>World.putObj_heap_other (fun e=>hn (by simp [e]))⟩
theorem blw_fz {B:Nat->Prop} {M:Lx} {w w':World} (h:Fz M w w') (hM:∀ k,some k ∈ M->B k):Blw B w w':=⟨h.os,h.tape,h.output,h.size,fun k hk hn=>h.block k hk (fun hm=>hn (hM k hm))⟩
theorem qo_ {B B':Nat->Prop} {w w':World} (h:Blw B w w') (hb:∀ k,B k->B' k):Blw B' w w':=⟨h.os,h.tape,h.output,h.size,fun k hk hn=>h.block k hk (fun hm=>hn (hb k hm))⟩
theorem bkA_eq:∃ id ty pos af g,bkA = .region id #[⟨some 5,.assign (.tmp 12),ty,pos,af,g⟩] false∧g=none:=⟨_,_,_,_,_,rfl,rfl⟩
theorem round {B0:Nat->Prop} {p0:List Ev.Place} {F:Lx} {pl:List Ev.Place} {m:List (Int×Int)} {b:Bool} {xs:List Bk} {a:Int} {ws:List Int} {W:World} {l:List Value} {fn:FuncId} {D lb:Nat} {x:Int}
  (hst:Sto B0 p0 F pl (bkOwn m nilV false b xs a ws) W) (hpl:pl.length=8) (hs:Slots p0 l) (hI:BkI b xs a ws) (hr:W.heap[lb]? = some (.loop (bkRec fn l D .ready none))) (hlb:some lb ∈ F) (hlB:B0 lb) (hB:∀ k,W.heap.size≤k->B0 k) :
  YieldAt Fence.wide 0 Try.prog lb #[.int .i64 x] W fun e W'=>∃ pl' b' xs' a' ws',Sto B0 p0 F pl' (bkOwn m nilV false b' xs' a' ws') W'∧pl'.length=8∧BkI b' xs' a' ws'∧Blw B0 W W'∧(∀ k,some k ∈ F->k ≠ lb->W'.heap[k]? = W.heap[k]?) ∧
   ((e = .returned (.bool true)∧bkStep m (bkX b xs a ws) x=some (bkX b' xs' a' ws')∧W'.heap[lb]? = some (.loop (bkRec fn l D .ready none))) ∨
    (e = .returned (.bool false)∧bkStep m (bkX b xs a ws) x=none∧W'.heap[lb]? = some (.loop (bkRec fn l D .done (some .ret))))):=by
 have hlt:lb < W.heap.size:=(Array.getElem?_eq_some_iff.1 hr).1
 have hy:=run_yield (P:=Try.prog) (args:=#[.int .i64 x]) hr rfl
 refine ⟨fn,_,bkA,bkB,hy,roundIn_of_wpIn trivial ?_⟩
 have he:((bkRec fn l D .ready none).params.zip #[Value.int .i64 x]).foldl (fun tmps (t,a)=>tmps.setIfInBounds t a) (bkRec fn l D .ready none).tmps=(l.set 12 (.int .i64 x)).toArray:=by
  simp [bkRec]
 rw [he]
 obtain ⟨l1,hl1⟩:∃ l1,l1=(l.set 12 (.int .i64 x)).set 5 (.int .i64 x):=⟨_,rfl⟩
 have hl1n:l1.length=74:=by rw [hl1,List.length_set,List.length_set,hs.len]
 have hl15:l1.getD 5 undef = .int .i64 x:=by
  rw [hl1,List.getD_eq_getElem?_getD,List.getElem?_set_self (by rw [List.length_set,hs.len]; decide)]
  rfl
 have hl1o:∀ t ∈ [1,2,3,11,4],l1.getD t undef=l.getD t undef:=fun t ht=>by
  have h5:5 ≠ t:=fun e=>by subst e; simp at ht
  have h12:12 ≠ t:=fun e=>by subst e; simp at ht
  rw [hl1,List.getD_eq_getElem?_getD,List.getElem?_set_ne h5,List.getElem?_set_ne h12,<- List.getD_eq_getElem?_getD]
 have hasg:CW Try.prog bkA (Exit.then (fun a₁ w₁=>a₁=mk l1∧w₁=W) (fun _ _ _=>False)) (l.set 12 (.int .i64 x)) W:=by
  obtain ⟨id,ty,pos,af,g,h1,rfl⟩:=bkA_eq
  rw [h1]
  refine cw_region (ops:=[_]) (wl_val (v:=.int .i64 x) rfl (run_assign ?_) (wl_nil ⟨?_,rfl⟩))
  ·show (l.set 12 (.int .i64 x)).getD 12 undef=_
   rw [List.getD_eq_getElem?_getD,List.getElem?_set_self (by rw [hs.len]; decide)]
   rfl
  ·rw [hl1]
   rfl
 refine Code.wpIn_mono ?_ (hasg (some lb))
 rintro e a₁ w₁ hq
 cases e with
 | normal =>
  obtain ⟨rfl,rfl⟩:=hq
  refine ⟨_,run_beginRound hr rfl,?_⟩
  obtain ⟨W2,hW2⟩:∃ W2,w₁.putObj lb (.loop { bkRec fn l D .ready none with state:=.busy })=W2:=⟨_,rfl⟩
  rw [hW2]
  have hf2:Fz [some lb] w₁ W2:=by rw [<- hW2]; exact fz_putObj _ _ _
  have hr2:W2.heap[lb]? = some (.loop { bkRec fn l D .ready none with state:=.busy }):=by rw [<- hW2]; exact World.putObj_heap_same hlt
  have hst2:Sto B0 p0 F pl (bkOwn m nilV false b xs a ws) W2:=hst.turn (hf2.sub fun k hk=>by simp at hk; subst hk; exact hlb)
  have hbo:∀ k,Bo pl (bkOwn m nilV false b xs a ws) W2 k->B0 k:=fun k hk=>by
   rcases hk with hk | hk
   ·exact hst2.lo k hk
   ·exact hB k (Nat.le_trans hf2.size hk)
  have hfr:FrD pl (lx pl (bkOwn m nilV false b xs a ws)++F) W2 ((5,.d kT x)::bkFr) l1:=ql_ (by rw [hl15]; exact ⟨[.int .i64 x],rfl,rfl⟩) (hs.fr hst.pre hl1o)
  have hspec:=bk_spec (m:=m) hI x
  have fin:∀ (e0:Ex) (b':Bool) (xs':List Bk) (a':Int) (ws':List Int) (pl':List Ev.Place) (W3:World) (jump:Option Code),pl'.length=8->Sto B0 p0 F pl' (bkOwn m nilV false b' xs' a' ws') W3->Blw (Bo pl (bkOwn m nilV false b xs a ws) W2) W2 W3 ->
    ∃ W4,(Instr.endRound lb jump).run Try.prog W3 = .ok (.bool jump.isNone) W4∧Sto B0 p0 F pl' (bkOwn m nilV false b' xs' a' ws') W4∧Blw B0 w₁ W4∧(∀ k,some k ∈ F->k ≠ lb->W4.heap[k]? = w₁.heap[k]?)∧W4.heap[lb]? = some (.loop { bkRec fn l D .ready none with state:=if jump.isNone then .ready else .done,pending:=jump }):=by
   intro e0 b' xs' a' ws' pl' W3 jump hp' hst3 hb3
   have keep:∀ k,some k ∈ F->W3.heap[k]? = W2.heap[k]?:=fun k hk=>hb3.block k (hst2.far k hk).2 (fun hx=>by
    rcases hx with hx | hx
    ·exact (hst2.far k hk).1 hx
    ·have:=(hst2.far k hk).2; omega)
   have hr3:=(keep lb hlb).trans hr2
   have hlt3:=(Array.getElem?_eq_some_iff.1 hr3).1
   have hf4:=fz_putObj W3 lb (.loop { bkRec fn l D .ready none with state:=if jump.isNone then .ready else .done,pending:=jump })
   refine ⟨_,run_endRound jump hr3,hst3.turn (hf4.sub fun k hk=>by simp at hk; subst hk; exact hlb),?_,fun k hk hne=>?_,World.putObj_heap_same hlt3⟩
   ·exact ((blw_fz hf2 (fun k hk=>by simp at hk; subst hk; exact hlB)).trans (qo_ hb3 hbo)).trans (blw_fz hf4 (fun k hk=>by simp at hk; subst hk; exact hlB))
   ·have hklt:=(hst2.far k hk).2
    rw [hf4.block k (Nat.lt_of_lt_of_le hklt hb3.size) (by simp [hne]),keep k hk]
    exact hf2.block k (hst.far k hk).2 (by simp [hne])
  rcases hspec with ⟨h1,h2⟩ | ⟨xs',a',ws',h1,h2,h3⟩
  ·have hp:=q1x_ (S:=bkSt ((5,.d kT x)::bkFr) 6 m nilV false b xs a ws) (hint:=hR) (hs:=bkNo) (l:=l1) bkEnv_ok hbo hst2 rfl (show 8=pl.length by rw [hpl]) (show 6=p0.length by rw [hs.p]) hl1n hfr ((pB_eq m b xs a ws x).trans h2)
   refine Code.wpIn_mono ?_ (hp (some lb))
   rintro e a3 W3 ⟨pl',l',rfl,rfl,_,hp',hst3,_,hb3⟩
   obtain ⟨W4,q1,q2,q3,q4,q5⟩:=fin .r b xs a ws pl' W3 (some .ret) hp' hst3 hb3
   exact ⟨_,W4,q1,pl',b,xs,a,ws,q2,hp',hI,q3,q4,.inr ⟨rfl,h1,q5⟩⟩
  ·have hp:=q1x_ (S:=bkSt ((5,.d kT x)::bkFr) 6 m nilV false b xs a ws) (hint:=hR) (hs:=bkNo) (l:=l1) bkEnv_ok hbo hst2 rfl (show 8=pl.length by rw [hpl]) (show 6=p0.length by rw [hs.p]) hl1n hfr ((pB_eq m b xs a ws x).trans h2)
   refine Code.wpIn_mono ?_ (hp (some lb))
   rintro e a3 W3 ⟨pl',l',rfl,rfl,_,hp',hst3,_,hb3⟩
   obtain ⟨W4,q1,q2,q3,q4,q5⟩:=fin .n true xs' a' ws' pl' W3 none hp' hst3 hb3
   exact ⟨_,W4,q1,pl',true,xs',a',ws',q2,hp',h3,q3,q4,.inl ⟨rfl,h1,q5⟩⟩
 | exit id=>exact hq
 | goto t=>exact hq
 | ret=>exact hq
 | panic c=>exact hq
 | outgrown=>exact hq
end Go.Proofs.Lx
end
section
set_option maxRecDepth 100000
namespace Go.Proofs.Lx
open Go Go.Proofs Go.RowKit Ev Sx
theorem bkT_eq:∃ id o1 o2 o3,bkT = .seq (.region id #[o1,o2,o3] false) .ret∧o1={ o1 with dst:=some 73,op:=.load 26 (.tmp 4),guard:=none }∧o2={ o2 with dst:=none,op:=.store 26 (.tmp 2) (.tmp 73),guard:=none }∧o3={ o3 with dst:=none,op:=.store 4 (.tmp 3) (.const (.bool true)),guard:=none }:=⟨_,_,_,_,rfl,rfl,rfl,rfl⟩
section
variable {P:Program} {l:List Value} {w:World} {d:Option Tmp} {ty:TypeId} {pos:String} {af:Array Edge} {gd:Option (Nat×Bool)}
theorem run_store_box {t:TypeId} {x y:Operand} {g j n:Nat} {cs vs:List Value} {T:TypeId} {v:Value} (hs:szOf P t=some n)
  (hx:ev l x = .pointer (some ⟨g,j,none⟩)) (hy:ev l y=v) (hv:v.cells.toList=vs) (hl:vs.length=n) (h1:∀ u ∈ vs,u.oneCell'=true)
  (hb:Bx w g cs T) (hj:j + n≤cs.length) :
  ∃ w',(execOp (ev l) ⟨d,.store t x y,ty,pos,af,gd⟩).run P w = .ok .skip w'∧w'.heap.size=w.heap.size∧Fz [some g] w w'∧Bx w' g (cs.take j++vs++cs.drop (j + n)) T:=by
 have hst:=run_storeCells_at P g j T vs 0 cs.toArray w hb (by simpa [hl] using hj) h1
 simp only [Nat.add_zero,hl] at hst
 have hsz:v.cells.size=n:=by rw [<- hl,<- hv,Array.length_toList]
 refine ⟨w.setRow g (cs.take j++vs++cs.drop (j + n)).toArray,?_,?_,?_,?_⟩
 ·simp only [execOp,hx,hy,Instr.storeAt,Instr.sureAddr,storeVar,Sem.run_bind,Sem.run_pure,Result.andThen_ok,Sx.run_sizeOf hs,hsz,ne_eq,not_true_eq_false,if_false,hv,hst]
 ·simp [World.setRow]
 ·exact ⟨rfl,rfl,rfl,by simp [World.setRow],fun k hk hn=>setRow_other w g k _ (fun e=>hn (by simp [e]))⟩
 ·exact setRow_heap w g cs.toArray _ T (0,0) hb
theorem eval_ds (l:List Value) (ds:List Deferred):(⟨l.toArray,ds⟩:Act).eval=ev l:=by
 rw [<- eval_mk]
 rfl
theorem wld_val {n:Nat} {ops:Array Oper} {rest:List Oper} {o:Oper} {Q:Exit->Act->World->Prop} {ds:List Deferred} {v:Value} {w':World} {dd:Nat} (hg:o.guard=none) (hd:o.dst=some dd) (hr:(execOp (ev l) o).run P w = .ok (.value v) w')
  (h:wpListIn Fence.wide n P ops Q rest ⟨(l.set dd v).toArray,ds⟩ w'):wpListIn Fence.wide n P ops Q (o::rest) ⟨l.toArray,ds⟩ w:=by
 unfold wpListIn
 rw [if_pos (by simp [Region.wanted,hg])]
 refine ⟨fun _ _=>trivial,?_⟩
 rw [eval_ds,show Fence.wide.round=none from rfl,Oper.semAt_none,hr,Oper.uponIn_value,hd]
 have e:(⟨l.toArray,ds⟩:Act).put (some dd) v=⟨(l.set dd v).toArray,ds⟩:=by simp [Act.put,List.setIfInBounds_toArray]
 rw [e]
 exact h
theorem wld_skip {n:Nat} {ops:Array Oper} {rest:List Oper} {o:Oper} {Q:Exit->Act->World->Prop} {ds:List Deferred} {w':World} (hg:o.guard=none) (hd:o.dst=none) (hr:(execOp (ev l) o).run P w = .ok .skip w')
  (h:wpListIn Fence.wide n P ops Q rest ⟨l.toArray,ds⟩ w'):wpListIn Fence.wide n P ops Q (o::rest) ⟨l.toArray,ds⟩ w:=by
 unfold wpListIn
 rw [if_pos (by simp [Region.wanted,hg])]
 refine ⟨fun _ _=>trivial,?_⟩
 rw [eval_ds,show Fence.wide.round=none from rfl,Oper.semAt_none,hr,Oper.uponIn_skip,hd]
 exact h
end
section
variable {B0:Nat->Prop} {p0:List Ev.Place} {F:Lx} {pl:List Ev.Place} {own:List (Nat×Ent)} {w w':World}
theorem Sto.put (h:Sto B0 p0 F pl own w) (hB:∀ k,w.heap.size≤k->B0 k) (hp:p0.length≤pl.length) {i:Nat} {e e':Ent} (hg:Ev.get own i=some e) (hf:Fz [plb pl i] w w') (he:EntD pl (lx pl own++F) w' i e'):Sto B0 p0 F pl (pute i e' own) w':=by
 have hr:=h.rel (S:={ fr:=[],nt:=0,up:=[],own:=own,nx:=pl.length,log:=[],ln:=p0.length }) (l:=[]) rfl rfl rfl rfl frD_nil
 have hm:plb pl i ∈ lx pl own:=own_mem (Ev.get_mem hg)
 have hr2:=hr.mod (e':=e') hg ⟨hf,fun k hk=>by simp at hk; rw [hk]; exact hm,Sub.refl _ _,hr.hL.step hf.size⟩ he
 exact (sto_of_rel (fun k hk=>by
  rcases hk with hk | hk
  ·exact h.lo k hk
  ·exact hB k hk) hr2).1
end
theorem tail_wp {B0:Nat->Prop} {p0:List Ev.Place} {F:Lx} {pl:List Ev.Place} {m:List (Int×Int)} {b:Bool} {xs:List Bk} {a:Int} {ws:List Int} {W:World} {l:List Value} {ds:List Deferred} {Q:Exit->Act->World->Prop}
  (hst:Sto B0 p0 F pl (bkOwn m nilV false b xs a ws) W) (hpl:pl.length=8) (hs:Slots p0 l) (hB:∀ k,W.heap.size≤k->B0 k)
  (hQ:∀ W' l',Sto B0 p0 F pl (bkOwn m (.row 6) true b xs a ws) W'->Slots p0 l'->Blw B0 W W'->(∀ k,some k ∈ F->W'.heap[k]? = W.heap[k]?)->Q .ret ⟨l'.toArray,ds⟩ W') :
  bkT.wpIn Fence.wide 2 Try.prog Q ⟨l.toArray,ds⟩ W:=by
 obtain ⟨id,o1,o2,o3,h0,h1,h2,h3⟩:=bkT_eq
 rw [h0]
 obtain ⟨g5,n5,c5,us5,q1,q2,⟨v5,r5,rfl,⟨p6,q4,rfl⟩,rfl⟩,q6⟩:=hst.ent (5,.box 26 [.row 6]) (by simp [bkOwn])
 obtain ⟨g2,n2,c2,us2,t1,t2,⟨v2,r2,rfl,t3,rfl⟩,t4⟩:=hst.ent (2,.box 26 [nilV]) (by simp [bkOwn])
 obtain ⟨g3,n3,c3,us3,u1,u2,⟨v3,r3,rfl,u3,rfl⟩,u4⟩:=hst.ent (3,.box 4 [.d .bool false]) (by simp [bkOwn])
 have pinj:∀ {i:Nat} {g n c g' n' c'},p0[i]? = some ⟨some ⟨g,0,none⟩,n,c⟩->pl[i]? = some ⟨some ⟨g',0,none⟩,n',c'⟩->g=g':=fun h h'=>by
  have:=hst.pre _ _ h
  rw [this] at h'
  cases h'
  rfl
 obtain ⟨g,n,c,e1,e2⟩:=hs.s4
 obtain rfl:=pinj e1 q1
 obtain ⟨g',n',c',e3,e4⟩:=hs.s2
 obtain rfl:=pinj e3 t1
 obtain ⟨g'',n'',c'',e5,e6⟩:=hs.s3
 obtain rfl:=pinj e5 u1
 refine wpIn_seq (wpIn_region_lit (l:=[o1,o2,o3]) ?_)
 rw [h1,h2,h3]
 have hv:(l.set 73 (.slice p6.a p6.n p6.c)).getD 73 undef = .slice p6.a p6.n p6.c:=by
  rw [List.getD_eq_getElem?_getD,List.getElem?_set_self (by rw [hs.len]; decide)]
  rfl
 have hoth:∀ t,t ≠ 73->(l.set 73 (.slice p6.a p6.n p6.c)).getD t undef=l.getD t undef:=fun t ht=>by
  rw [List.getD_eq_getElem?_getD,List.getElem?_set_ne (fun e=>ht e.symm),<- List.getD_eq_getElem?_getD]
 have hs':Slots p0 (l.set 73 (.slice p6.a p6.n p6.c)):=⟨by rw [List.length_set]; exact hs.len,hs.p,by rw [hoth 1 (by decide)]; exact hs.s1,by rw [hoth 2 (by decide)]; exact hs.s2,by rw [hoth 3 (by decide)]; exact hs.s3,by rw [hoth 11 (by decide)]; exact hs.s11,by rw [hoth 4 (by decide)]; exact hs.s4⟩
 refine wld_val (dd:=73) rfl rfl (run_load_box1 (cs:=[.slice p6.a p6.n p6.c]) (T:=26) (dd:=.slice 31) (by kernel_rfl) rfl e2 q2 rfl) ?_
 obtain ⟨W1,w1,w2,w3,w4⟩:=run_store_box (P:=Try.prog) (l:=l.set 73 (.slice p6.a p6.n p6.c)) (w:=W) (d:=none) (ty:=o2.type) (pos:=o2.pos) (af:=o2.after) (gd:=none) (t:=26) (x:=.tmp 2) (y:=.tmp 73) (g:=g') (j:=0) (n:=1) (vs:=[.slice p6.a p6.n p6.c]) (by kernel_rfl) ((hoth 2 (by decide)).trans e4) hv rfl rfl (by simp [Value.oneCell']) t2 (by simp)
 refine wld_skip rfl rfl w1 ?_
 have hst1:Sto B0 p0 F pl (bkOwn m (.row 6) false b xs a ws) W1:=hst.put hB (by rw [hpl,hs.p]; decide) (i:=2) (e:=.box 26 [nilV]) (e':=.box 26 [.row 6]) rfl (by unfold plb; rw [t1]; exact w3) ⟨g',n2,c2,[.slice p6.a p6.n p6.c],t1,by simpa using w4,⟨_,[],rfl,⟨p6,q4,rfl⟩,rfl⟩,by simp [Value.oneCell']⟩
 have hg3:g'' ≠ g':=fun e=>by
  subst e
  have:=hst.pair
  simp [bkOwn,lx,plb,t1,u1,blk] at this
 have u2':Bx W1 g'' [v3] 4:=u2.step w3 (by simp [hg3])
 obtain ⟨W2,x1,x2,x3,x4⟩:=run_store_box (P:=Try.prog) (l:=l.set 73 (.slice p6.a p6.n p6.c)) (w:=W1) (d:=none) (ty:=o3.type) (pos:=o3.pos) (af:=o3.after) (gd:=none) (t:=4) (x:=.tmp 3) (y:=.const (.bool true)) (g:=g'') (j:=0) (n:=1) (vs:=[.bool true]) (by kernel_rfl) ((hoth 3 (by decide)).trans e6) rfl rfl rfl (by simp [Value.oneCell']) u2' (by simp)
 refine wld_skip rfl rfl x1 ?_
 have hst2:Sto B0 p0 F pl (bkOwn m (.row 6) true b xs a ws) W2:=hst1.put (fun k hk=>hB k (by rw [w2] at hk; exact hk)) (by rw [hpl,hs.p]; decide) (i:=3) (e:=.box 4 [.d .bool false]) (e':=.box 4 [.d .bool true]) rfl (by unfold plb; rw [u1]; exact x3) ⟨g'',n3,c3,[.bool true],u1,by simpa using x4,⟨_,[],rfl,⟨[.bool true],rfl,rfl⟩,rfl⟩,by simp [Value.oneCell']⟩
 have m2:some g' ∈ lx pl (bkOwn m nilV false b xs a ws):=by
  have:=own_mem (pl:=pl) (own:=bkOwn m nilV false b xs a ws) (e:=(2,.box 26 [nilV])) (by simp [bkOwn])
  unfold plb at this
  rw [t1] at this
  exact this
 have m3:some g'' ∈ lx pl (bkOwn m nilV false b xs a ws):=by
  have:=own_mem (pl:=pl) (own:=bkOwn m nilV false b xs a ws) (e:=(3,.box 4 [.d .bool false])) (by simp [bkOwn])
  unfold plb at this
  rw [u1] at this
  exact this
 refine wpListIn_nil (wpIn_ret (hQ W2 _ hst2 hs' ?_ fun k hk=>?_))
 ·exact (blw_fz w3 (fun k hk=>by simp at hk; subst hk; exact hst.lo _ m2)).trans (blw_fz x3 (fun k hk=>by simp at hk; subst hk; exact hst.lo _ m3))
 ·have hk2:=hst.far k hk
  rw [x3.block k (by rw [w2]; exact hk2.2) (fun e=>by simp at e; subst e; exact hk2.1 m3),w3.block k hk2.2 (fun e=>by simp at e; subst e; exact hk2.1 m2)]
end Go.Proofs.Lx
end
section
set_option maxRecDepth 100000
namespace Go.Proofs.Lx
open Go Go.Proofs Go.RowKit Ev Sx
def bkAll (m:zE0):List Int->Option (List Bk)->Option (List Bk)
 | [],r=>r
 | z::q,r=>bkAll m q (r.bind fun l=>bkStep m l z)
theorem bkAll_snoc (m:zE0):∀ (ks:List Int) (z:Int) (r:Option (List Bk)),bkAll m (ks++[z]) r=(bkAll m ks r).bind fun l=>bkStep m l z
 | [],_,_=>rfl
 | _::q,z,r=>bkAll_snoc m q z _
theorem bkAll_none (m:zE0):∀ ks:List Int,bkAll m ks none=none
 | []=>rfl
 | _::q=>bkAll_none m q
theorem bkAll_app (m:zE0):∀ (ks qs:List Int) (r:Option (List Bk)),bkAll m (ks++qs) r=bkAll m qs (bkAll m ks r)
 | [],_,_=>rfl
 | _::q,qs,_=>bkAll_app m q qs _
@[reducible] def q2i_:Ev.Sh:=⟨[.mp 0],[.dm (.int .i64) (.int .u16)],[.sl (.pr (.int .i64) (.int .u16))],[.d (.sl (.pr (.int .i64) (.sl (.int .u16)))),.d .bool],[(0,.dm (.int .i64) (.int .u16))],0,[.sl (.pr (.int .i64) (.sl (.int .u16))),.bool,.sl (.pr (.int .i64) (.int .u16))]⟩
def keyOk (e:Int×Int):Bool:=decide (-9223372036854775808≤e.1) && decide (e.1≤9223372036854775807)
def bkRes (m:zE0):List Bk×Bool :=
 if m.length > 64 then ([],false) else match bkAll m (sorted (m.map (·.1))) (some []) with
  | some l=>(l,true)
  | none=>([],false)
def q1q_ (x:As q2i_.ps):Option (As q2i_.rs):=if x.1.all keyOk=true then some ((bkRes x.1).1,(bkRes x.1).2,x.1,()) else none
theorem keyOk_iff {e:Int×Int}:keyOk e=true ↔ inR e.1:=by simp [keyOk,inR]
theorem fin_after {F F':Lx} {w0 W:World} {pl0 pl':List Ev.Place} {m:List (Int×Int)} {own':List (Nat×Ent)} {B1:Nat->Prop} {p1:List Ev.Place} {L:List Bk} {ok:Bool} {us:List Value}
  (hpl:pl0.length=1) (hL:LOk (Bo pl0 [(0,.dm kT uT m)] w0) (lx pl0 [(0,.dm kT uT m)]) F w0) (hpre:∀ p,pl'[0]? = some p->pl0[0]? = some p)
  (hF:∀ k,some k ∈ F->some k ∈ F') (hst:Sto B1 p1 F' pl' own' W) (hm:(0,.dm kT uT m) ∈ own') (hB:Blw (Bo pl0 [(0,.dm kT uT m)] w0) w0 W)
  (hd:DenL pl' (lx pl' own'++F') W [.d (.sl bT) L,.d .bool ok] us):After q2i_ (L,ok,m,()) F w0 pl0 [(0,.dm kT uT m)] W us:=by
 obtain ⟨g,n,c,vs,e1,e2,e3⟩:=hst.ent _ hm
 have e0:=hpre _ e1
 have hlx:lx pl0 [(0,Ent.dm kT uT m)]=[some g]:=by simp [lx,plb,e0,blk]
 have hmem:some g ∈ lx pl' own':=by
  have:=own_mem (pl:=pl') hm
  unfold plb at this
  rw [e1] at this
  exact this
 have hsub:∀ k,some k ∈ lx pl0 [(0,Ent.dm kT uT m)]++F->some k ∈ lx pl' own'++F':=fun k hk=>by
  rcases List.mem_append.1 hk with hk | hk
  ·rw [hlx] at hk
   simp at hk
   subst hk
   exact List.mem_append_left _ hmem
  ·exact List.mem_append_right _ (hF k hk)
 refine ⟨pl0,[.d (.sl bT) L,.d .bool ok],[(0,.dm kT uT m)],rfl,fun _ _ h=>h,hpl,hB,⟨hL.pair,hL.lo,fun k hk=>?_,hL.baseS hB.size,hL.farS hB.size⟩,fun e he=>?_,?_⟩
 ·exact Nat.lt_of_lt_of_le (hL.hi k hk) hB.size
 ·simp at he
  subst he
  exact ⟨g,n,c,vs,e0,e2,e3.ext (Ext.sub (pl:=pl') hsub)⟩
 ·obtain ⟨v,q,h1,⟨cs,h2,h3⟩,v',q',h4,⟨cs',h5,h6⟩,h7⟩:=hd
  exact ⟨v,q,h1,⟨cs,Rp.grow _ h2 (sub_of hsub),h3⟩,v',q',h4,⟨cs',Rp.grow _ h5 (sub_of hsub),h6⟩,h7⟩
theorem fin_res {B1:Nat->Prop} {p1:List Ev.Place} {F':Lx} {pl:List Ev.Place} {S S1:St} {l:List Value} {W:World} {L:List Bk} {ok:Bool} (hb:∀ k,Bo pl S.own W k->B1 k)
  (hst:Sto B1 p1 F' pl S.own W) (hup:S.up=[]) (hnx:S.nx=pl.length) (hln:S.ln=p1.length) (hnt:l.length=S.nt) (hfr:FrD pl (lx pl S.own++F') W S.fr l)
  (hn:nrm Try.prog ⟨[.frb 2],[2,3]⟩ S=some S1) (hr:resK Try.prog S1 Try.f8.results.toList (fun ss=>some ss)=some [.d (.sl bT) L,.d .bool ok]) :
  ∃ pl' us,Sto B1 p1 F' pl' S1.own W∧DenL pl' (lx pl' S1.own++F') W [.d (.sl bT) L,.d .bool ok] us∧∀ R:Ending->World->Prop,R (.returned (retV us)) W->∃ v,(results Try.f8 l.toArray).run Try.prog W = .ok v W∧R (.returned v) W:=by
 have h1:=hst.rel hup hnx hln hnt hfr
 obtain ⟨wr2,pl2,h2⟩:=nrm_ok h1 hn
 obtain ⟨ss,us,h3,h4,h5⟩:=resK_ok h2 hr
 cases h3
 exact ⟨pl2,us,(sto_of_rel hb h2).1,h5,fun R hR=>(ret_post (fn:=Try.f8) (by decide) h4 hR).2⟩
theorem n1_fin (m:zE0):∃ S1,nrm Try.prog ⟨[.frb 2],[2,3]⟩ (bkS1 m)=some S1∧(0,Ent.dm kT uT m) ∈ S1.own∧resK Try.prog S1 Try.f8.results.toList (fun ss=>some ss)=some [.d (.sl bT) [],.d .bool false]:=by
 refine ⟨{ fr:=[(2,.pb 1 0),(3,.pb 2 0)],nt:=74,up:=[],own:=[(0,.dm kT uT m),(1,.box 26 [.d (.sl bT) []]),(2,.box 4 [.d .bool false])],nx:=3,log:=[],ln:=1 },by kernel_rfl,by simp,by kernel_rfl⟩
theorem n2_fin (m:zE0) (b:Bool) (xs:List Bk) (a:Int) (ws:List Int):∃ S1,nrm Try.prog ⟨[.frb 2],[2,3]⟩ (bkSt bkFr 6 m nilV false b xs a ws)=some S1∧(0,Ent.dm kT uT m) ∈ S1.own∧resK Try.prog S1 Try.f8.results.toList (fun ss=>some ss)=some [.d (.sl bT) [],.d .bool false]:=by
 refine ⟨{ fr:=[(2,.pb 2 0),(3,.pb 3 0)],nt:=74,up:=[],own:=[(0,.dm kT uT m),(1,.box 24 [.mp 0]),(2,.box 26 [.d (.sl bT) []]),(3,.box 4 [.d .bool false]),(4,.box 24 [.mp 0]),(5,.box 26 [.row 6]),(6,.rowo bT 31 b xs [.d kT a,.row 7]),(7,.row uT 32 ws)],nx:=8,log:=[],ln:=6 },by kernel_rfl,by simp,by kernel_rfl⟩
theorem n3_fin (m:zE0) (b:Bool) (xs:List Bk) (a:Int) (ws:List Int):∃ S1,nrm Try.prog ⟨[.frb 2],[2,3]⟩ (bkSt bkFr 6 m (.row 6) true b xs a ws)=some S1∧(0,Ent.dm kT uT m) ∈ S1.own∧resK Try.prog S1 Try.f8.results.toList (fun ss=>some ss)=some [.d (.sl bT) (bkX b xs a ws),.d .bool true]:=by
 refine ⟨{ fr:=[(2,.pb 2 0),(3,.pb 3 0)],nt:=74,up:=[],own:=[(0,.dm kT uT m),(1,.box 24 [.mp 0]),(2,.box 26 [.d (.sl bT) (bkX b xs a ws)]),(3,.box 4 [.d .bool true]),(4,.box 24 [.mp 0]),(5,.box 26 [.d (.sl bT) (bkX b xs a ws)])],nx:=6,log:=[],ln:=6 },by kernel_rfl,by simp,by kernel_rfl⟩
end Go.Proofs.Lx
end
section
set_option maxRecDepth 100000
namespace Go.Proofs.Lx
open Go Go.Proofs Go.RowKit Ev Sx
theorem cw_wide {P:Program} {c:Code} {Q:Exit->Act->World->Prop} {l:List Value} {w:World} (h:CW P c Q l w) (n:Nat):c.wpIn Fence.wide n P Q (mk l) w:=wpIn_wide.2 (wpIn_wide.1 (h none))
theorem dm_keys {L:Lx} {w:World}:∀ {vs:List (Int×Value)} {m:List (Int×Int)},DmD (kt:=kT) (vt:=uT) L w vs m->vs.map (·.1)=m.map (·.1)
 | [],_,h=>by cases h; rfl
 | _::_,_,⟨b,q,h1,h2,_,h3⟩=>by subst h1; simp only [List.map_cons]; rw [h2,dm_keys h3]
def between (i j:Nat):Lx:=(List.range' i (j - i)).map some
theorem between_mem {i j k:Nat}:some k ∈ between i j ↔ i≤k∧k < j:=by
 unfold between
 simp [List.mem_range']
 constructor
 ·rintro ⟨a,h1,h2⟩; omega
 ·rintro ⟨h1,h2⟩; exact ⟨k - i,by omega,by omega⟩
theorem qn9_ {I:World->Prop}:CtOk Try.prog I 8 ⟨q2i_,q1q_⟩:=by
 intro F w0 pl0 x y ss own vs hx hA hpl hI0 hL hE hD
 obtain ⟨m,u0⟩:=x
 have hx:(if m.all keyOk=true then some ((bkRes m).1,(bkRes m).2,m,()) else none)=some y:=hx
 split at hx
 case isFalse=>cases hx
 rename_i hkeys
 cases hx
 have hA:some ([SV.mp 0],[(0,Ent.dm kT uT m)])=some (ss,own):=hA
 cases hA
 have hpl:pl0.length=1:=hpl
 obtain ⟨u,q,rfl,⟨g,n,c,hp0,rfl⟩,rfl⟩:=hD
 obtain ⟨B0,hB0⟩:∃ B0,B0=Bo pl0 [(0,Ent.dm kT uT m)] w0:=⟨_,rfl⟩
 have hst0:Sto B0 pl0 F pl0 [(0,.dm kT uT m)] w0:=by
  subst hB0
  exact ⟨hL.pair,hL.lo,hL.hi,fun k hk=>⟨fun hx=>(hL.far k hk).1 (hL.lo k hx),(hL.far k hk).2⟩,fun _ _ h=>h,hE⟩
 have hbase:∀ k,w0.heap.size≤k->B0 k:=fun k hk=>by subst hB0; exact .inr hk
 have hbo:∀ {p1:List Ev.Place} {F1:Lx} {pl:List Ev.Place} {own:List (Nat×Ent)} {w:World},w0.heap.size≤w.heap.size->Sto B0 p1 F1 pl own w->∀ k,Bo pl own w k->B0 k:=fun hs hst k hk=>by
  rcases hk with hk | hk
  ·exact hst.lo k hk
  ·exact hbase k (Nat.le_trans hs hk)
 refine (callsIn_wide (n:=2)).1 ?_
 refine callsIn_of_wp_marks Try.func8 bk_eq trivial ?_ rfl
 obtain ⟨l0,hl0⟩:∃ l0:List Value,l0 = .map (some g)::List.replicate 73 undef:=⟨_,rfl⟩
 have hact:(⟨[Value.map (some g)].toArray++Array.replicate (Try.f8.ntmps - [Value.map (some g)].toArray.size) undef,[]⟩:Act)=mk l0:=by
  subst hl0
  show (⟨[Value.map (some g)].toArray++Array.replicate 73 undef,[]⟩:Act)=mk (.map (some g)::List.replicate 73 undef)
  simp [mk]
 rw [hact]
 generalize hR:(fun (e:Ending) (w':World)=>∃ us,e = .returned (retV us)∧After q2i_ ((bkRes m).1,(bkRes m).2,m,()) F w0 pl0 [(0,Ent.dm kT uT m)] w' us)=R
 have hRe:∀ {W:World} {us:List Value},After q2i_ ((bkRes m).1,(bkRes m).2,m,()) F w0 pl0 [(0,Ent.dm kT uT m)] W us->R (.returned (retV us)) W:=fun h=>by subst hR; exact ⟨_,rfl,h⟩
 have hfr0:FrD pl0 (lx pl0 [(0,Ent.dm kT uT m)]++F) w0 [(0,.mp 0)] l0:=ql_ (by subst hl0; exact ⟨g,n,c,hp0,rfl⟩) frD_nil
 have r1:=q1x_ (S:=bkS0 m) (l:=l0) bkEnv_ok (hbo (Nat.le_refl _) hst0) hst0 rfl (show 1=pl0.length from hpl.symm) (show 1=pl0.length from hpl.symm) (by subst hl0; rfl) hfr0 (p1_eq m)
 refine wpIn_seq (Code.wpIn_mono ?_ (cw_wide r1 2))
 rintro e a w1 ⟨pl1,l1,rfl,rfl,hl1,hn1,st1,fr1,bl1⟩
 have bw1:Blw B0 w0 w1:=qo_ bl1 (hbo (Nat.le_refl _) hst0)
 refine wpIn_seq ?_
 by_cases hlen:m.length > 64
 ·-- too many
  have r2:=q1x_ (S:=bkS1 m) (l:=l1) bkEnv_ok (hbo bw1.size st1) st1 rfl hn1.symm (show 1=pl0.length from hpl.symm) hl1 fr1 ((p2_eq m).trans (if_pos (by simp [gt]; omega)))
  refine Code.wpIn_mono ?_ (cw_wide r2 2)
  rintro e a w2 ⟨pl2,l2,rfl,rfl,hl2,hn2,st2,fr2,bl2⟩
  have bw2:Blw B0 w0 w2:=bw1.trans (qo_ bl2 (hbo bw1.size st1))
  obtain ⟨S1,z1,z2,z3⟩:=n1_fin m
  obtain ⟨pl',us,z4,z5,z6⟩:=fin_res (S:=bkS1 m) (hbo bw2.size st2) st2 rfl hn2.symm (show 1=pl0.length from hpl.symm) hl2 fr2 z1 z3
  refine z6 R (hRe ?_)
  have:bkRes m=([],false):=by unfold bkRes; rw [if_pos hlen]
  rw [this]
  subst hB0
  exact fin_after hpl hL (fun p hp=>by
   have:=z4.pre 0 ⟨some ⟨g,0,none⟩,n,c⟩ hp0
   rw [this] at hp
   rw [hp0]
   exact hp) (fun _ h=>h) z4 z2 bw2 z5
 have r2:=q1x_ (S:=bkS1 m) (l:=l1) bkEnv_ok (hbo bw1.size st1) st1 rfl hn1.symm (show 1=pl0.length from hpl.symm) hl1 fr1 ((p2_eq m).trans (if_neg (by simp [gt]; omega)))
 refine Code.wpIn_mono ?_ (cw_wide r2 2)
 rintro e a w2 ⟨pl2,l2,rfl,rfl,hl2,hn2,st2,fr2,bl2⟩
 have bw2:Blw B0 w0 w2:=bw1.trans (qo_ bl2 (hbo bw1.size st1))
 have r3:=q1x_ (S:=bkS1 m) (l:=l2) bkEnv_ok (hbo bw2.size st2) st2 rfl hn2.symm (show 1=pl0.length from hpl.symm) hl2 fr2 (p3_eq m)
 refine wpIn_seq (Code.wpIn_mono ?_ (cw_wide r3 2))
 rintro e a w3 ⟨pl3,l3,rfl,rfl,hl3,hn3,st3,fr3,bl3⟩
 have bw3:Blw B0 w0 w3:=bw2.trans (qo_ bl3 (hbo bw2.size st2))
 have r4:=q1x_ (S:=bkS3 m) (l:=l3) bkEnv_ok (hbo bw3.size st3) st3 rfl hn3.symm (show 1=pl0.length from hpl.symm) hl3 fr3 (p4_eq m)
 refine wpIn_seq (wpIn_seq (Code.wpIn_mono ?_ (cw_wide r4 2)))
 rintro e a w4 ⟨pl4,l4,rfl,rfl,hl4,hn4,st4,fr4,bl4⟩
 have bw4:Blw B0 w0 w4:=bw3.trans (qo_ bl4 (hbo bw3.size st3))
 have hn4:pl4.length=8:=hn4
 have hl4:l4.length=74:=hl4
 obtain ⟨p0,hp0e⟩:∃ p0,p0=pl4.take 6:=⟨_,rfl⟩
 have hp0l:p0.length=6:=by rw [hp0e,List.length_take]; omega
 have hp0p:∀ (i:Nat) (p:Ev.Place),p0[i]? = some p->pl4[i]? = some p:=fun i p h=>by
  rw [hp0e] at h
  have hi:=(List.getElem?_eq_some_iff.1 h).1
  rw [List.length_take] at hi
  rw [List.getElem?_take_of_lt (by omega)] at h
  exact h
 have hp0b:∀ (i:Nat) (p:Ev.Place),i < 6->pl4[i]? = some p->p0[i]? = some p:=fun i p hi h=>by rw [hp0e,List.getElem?_take_of_lt hi]; exact h
 have dpb:∀ {t i:Nat},i < 6->Ev.get bkFr t=some (.pb i 0)->Den p0 [] default (.pb i 0) (l4.getD t undef):=fun hi hg=>by
  obtain ⟨a,b,c,h1,h2⟩:=fr4 _ _ hg
  exact ⟨a,b,c,hp0b _ _ hi h1,h2⟩
 have hs:Slots p0 l4:=⟨hl4,hp0l,dpb (by decide) rfl,dpb (by decide) rfl,dpb (by decide) rfl,by
  obtain ⟨us,vs,h1,⟨v,q,h2,⟨a,b,c,h3,h4⟩,h5⟩,h6⟩:=fr4 11 _ rfl
  exact ⟨us,vs,h1,⟨v,q,h2,⟨a,b,c,hp0b _ _ (by decide) h3,h4⟩,h5⟩,h6⟩,dpb (by decide) rfl⟩
 obtain ⟨g0,n0,c0,vs,e1,e2,e3⟩:=st4.ent (0,.dm kT uT m) (by simp [bkSt,bkOwn])
 obtain ⟨Bm,nm,cm,us,b1,b2,⟨v,r,rfl,⟨g',n',c',b3,rfl⟩,rfl⟩,b4⟩:=st4.ent (4,.box 24 [.mp 0]) (by simp [bkSt,bkOwn])
 obtain rfl:g'=g0:=by rw [b3] at e1; cases e1; rfl
 have hvk:=dm_keys e3
 have hvl:vs.length=m.length:=by have:=congrArg List.length hvk; simpa using this
 have hvr:∀ e ∈ vs,inR e.1:=fun e he=>by
  have h1:e.1 ∈ m.map (·.1):=by rw [<- hvk]; exact List.mem_map_of_mem (f:=fun x:Int×Value=>x.1) he
  obtain ⟨e',h2,h3⟩:=List.mem_map.1 h1
  rw [<- h3]
  exact keyOk_iff.1 (List.all_eq_true.1 hkeys e' h2)
 have hf11:(mk l4).eval (.tmp 11) = .func (.func 40) #[] #[.pointer (some ⟨Bm,0,none⟩)]:=by
  rw [eval_mk]
  obtain ⟨us,vs,h1,⟨v,q,h2,⟨a,b,c,h3,h4⟩,h5⟩,h6⟩:=fr4 11 _ rfl
  rw [b1] at h3
  cases h3
  cases h1
  cases h5
  subst h2 h4
  exact h6
 refine wpIn_block (wpIn_rangeFunc ?_)
 intro fn hfn
 obtain ⟨W1,hW1⟩:∃ W1,(w4.alloc (.deferred (some []))).alloc (.loop (bkRec fn l4 w4.heap.size .ready none))=W1:=⟨_,rfl⟩
 have hs1:W1.heap.size=w4.heap.size + 2:=by rw [<- hW1]; simp
 have hfz1:Fz [] w4 W1:=by rw [<- hW1]; exact (Fz.alloc _ _ _).trans (Fz.alloc _ _ _)
 have hD1:W1.heap[w4.heap.size]? = some (.deferred (some [])):=by
  rw [<- hW1]; exact (Below.heap_alloc _ _ _ (by simp)).trans (World.alloc_heap_new w4 _)
 have hr1:W1.heap[w4.heap.size + 1]? = some (.loop (bkRec fn l4 w4.heap.size .ready none)):=by
  rw [<- hW1]; have:=World.alloc_heap_new (w4.alloc (.deferred (some []))) (.loop (bkRec fn l4 w4.heap.size .ready none)); rwa [World.size_alloc] at this
 have hmap1:MapIs (keyV (.int .i64)) (fun v:Value=>v) W1 g' vs:=by
  have hlt:=e2.lt
  obtain ⟨es,cl,a,b,c⟩:=e2
  exact ⟨es,cl,(hfz1.block _ hlt nilN).trans a,b,c⟩
 have hcell1:W1.cell? ⟨Bm,0,none⟩=some (.map (some g')):=(b2.step hfz1 nilN).cell rfl
 have hkeys2:sorted (vs.map (·.1))=sorted (m.map (·.1)):=by rw [hvk]
 refine ⟨w4.heap.size + 1,[{ target:=.collected w4.heap.size,args:=#[] }],W1,{ target:=.fn (.func 40) #[.pointer (some ⟨Bm,0,none⟩)],args:=#[.func (.yield (w4.heap.size + 1)) #[] #[]] },W1,40,
  #[.func (.yield (w4.heap.size + 1)) #[] #[]]++#[.pointer (some ⟨Bm,0,none⟩)],W1,?_,?_,fun _ _=>trivial,?_,(fun h=>by cases h),?_⟩
 ·rw [<- hW1]; exact run_enterLoop_outer _ _ _ _ _
 ·simp only [resolve,hf11]
  simp [go_sem]
 ·have:=enters_of Try.func40 (by kernel_rfl) rfl
  simp [invoke,go_sem,this]
 ·-- the rounds
  let FF:World->Lx:=fun Z=>F++between w4.heap.size Z.heap.size
  have hFm:∀ Z k,some k ∈ FF Z ↔ some k ∈ F∨(w4.heap.size≤k∧k < Z.heap.size):=fun Z k=>by
   show some k ∈ F++between _ _ ↔ _
   rw [List.mem_append,between_mem]
  have key:=keys_it 1 (w4.heap.size + 1) Bm g' (Nat.le_refl _) W1 hmap1 hvr (by omega) hcell1
   (fun Z pre W=>∃ pl b xs a ws,Sto B0 p0 (FF Z) pl (bkOwn m nilV false b xs a ws) W∧pl.length=8∧BkI b xs a ws∧W.heap[w4.heap.size]? = some (.deferred (some []))∧Blw B0 w0 W∧W1.heap.size≤Z.heap.size ∧
    bkAll m pre (some [])=some (bkX b xs a ws)∧W.heap[w4.heap.size + 1]? = some (.loop (bkRec fn l4 w4.heap.size .ready none))∧∀ k,W1.heap.size≤k->k < Z.heap.size->W.heap[k]? = Z.heap[k]?)
   (fun Z pre W=>∃ pl b xs a ws,Sto B0 p0 (FF Z) pl (bkOwn m nilV false b xs a ws) W∧pl.length=8∧BkI b xs a ws∧W.heap[w4.heap.size]? = some (.deferred (some []))∧Blw B0 w0 W∧W1.heap.size≤Z.heap.size ∧
    bkAll m pre (some [])=none∧W.heap[w4.heap.size + 1]? = some (.loop (bkRec fn l4 w4.heap.size .done (some .ret))))
   (fun Z hZ=>by
    have hz:Fz [] w4 Z:=hfz1.trans (Fz.of_below hZ [])
    refine ⟨pl4,false,[],0,[],?_,hn4,BkI.start,(hZ.block _ (by omega)).trans hD1,bw4.trans (blw_fz hz (fun k hk=>by cases hk)),hZ.size,rfl,(hZ.block _ (by omega)).trans hr1,fun k _ _=>rfl⟩
    refine (st4.sub (List.Sublist.refl _) hp0p).grow hz fun k hk=>?_
    rcases (hFm Z k).1 hk with h | ⟨h1,h2⟩
    ·exact ⟨.inl h,Nat.lt_of_lt_of_le (st4.far k h).2 hz.size⟩
    ·exact ⟨.inr h1,h2⟩)
   (fun Z pre W hJ k h1 h2=>by
    obtain ⟨_,_,_,_,_,_,_,_,_,_,_,_,_,h⟩:=hJ
    exact h k h1 h2)
   (fun Z pre x W hJ=>by
    obtain ⟨pl,b,xs,a,ws,j1,j2,j3,j4,j5,j6,j7,j8,j9⟩:=hJ
    have hlb:some (w4.heap.size + 1) ∈ FF Z:=(hFm Z _).2 (.inr ⟨by omega,by omega⟩)
    obtain ⟨fn',tmps,asg,bd,y1,y2⟩:=round (x:=x) j1 j2 hs j3 j8 hlb (hbase _ (by have:=bw4.size; omega)) (fun k hk=>hbase k (Nat.le_trans j5.size hk))
    refine ⟨fn',tmps,asg,bd,y1,y2.mono ?_⟩
    rintro e W' ⟨pl',b',xs',a',ws',k1,k2,k3,k4,k5,k6⟩
    have kD:W'.heap[w4.heap.size]? = some (.deferred (some [])):=(k5 _ ((hFm Z _).2 (.inr ⟨Nat.le_refl _,by omega⟩)) (by omega)).trans j4
    rcases k6 with ⟨rfl,k7,k8⟩ | ⟨rfl,k7,k8⟩
    ·refine .inl ⟨rfl,pl',b',xs',a',ws',k1,k2,k3,kD,j5.trans k4,j6,?_,k8,fun k h1 h2=>?_⟩
     ·rw [bkAll_snoc,j7]
      exact k7
     ·exact (k5 k ((hFm Z k).2 (.inr ⟨by omega,h2⟩)) (by omega)).trans (j9 k h1 h2)
    ·refine .inr ⟨rfl,pl',b',xs',a',ws',k1,k2,k3,kD,j5.trans k4,j6,?_,k8⟩
     rw [bkAll_snoc,j7]
     exact k7)
  refine key.mono ?_
  rintro e W2 ⟨⟨v0,rfl⟩,Z,hJ⟩
  have leave:∀ (pl:List Ev.Place) (cc:SV) (ok b:Bool) (xs:List Bk) (a:Int) (ws:List Int) (l':List Value) (W:World) (L:List Bk),Sto B0 p0 (FF Z) pl (bkOwn m cc ok b xs a ws) W->pl.length=8->Slots p0 l'->W.heap[w4.heap.size]? = some (.deferred (some []))->Blw B0 w0 W->W1.heap.size≤Z.heap.size->bkRes m=(L,ok) ->
    (∃ S1,nrm Try.prog ⟨[.frb 2],[2,3]⟩ (bkSt bkFr 6 m cc ok b xs a ws)=some S1∧(0,Ent.dm kT uT m) ∈ S1.own∧resK Try.prog S1 Try.f8.results.toList (fun ss=>some ss)=some [.d (.sl bT) L,.d .bool ok]) ->
    bodyPostM Fence.wide 2 Try.prog Try.f8 R .ret ⟨l'.toArray,[{ target:=.collected w4.heap.size,args:=#[] }]⟩ W:=by
   intro pl cc ok b xs a ws l' W L k1 k2 k3 k4 k5 k6 k7 ⟨S1,z1,z2,z3⟩
   have hf6:=fz_putObj W w4.heap.size (.deferred none)
   have hDF:some w4.heap.size ∈ FF Z:=(hFm Z _).2 (.inr ⟨Nat.le_refl _,by omega⟩)
   have k1':=k1.turn (hf6.sub fun k hk=>by simp at hk; subst hk; exact hDF)
   have k5':Blw B0 w0 (W.putObj w4.heap.size (.deferred none)):=k5.trans (blw_fz hf6 (fun k hk=>by simp at hk; subst hk; exact hbase _ bw4.size))
   obtain ⟨pl',us,z4,z5,z6⟩:=fin_res (S:=bkSt bkFr 6 m cc ok b xs a ws) (l:=l') (hbo k5'.size k1') k1' rfl k2.symm (show 6=p0.length from hp0l.symm) k3.len (k3.fr k1'.pre (fun _ _=>rfl)) z1 z3
   refine ⟨by simp,.inl ⟨_,_,rfl,run_takeDeferred k4,?_⟩⟩
   refine z6 R (hRe ?_)
   rw [k7]
   subst hB0
   exact fin_after hpl hL (fun p hp=>by
    have:=z4.pre 0 ⟨some ⟨g,0,none⟩,n,c⟩ (hp0b _ _ (by decide) (st4.pre 0 _ hp0))
    rw [this] at hp
    rw [hp0]
    exact hp) (fun k hk=>(hFm Z k).2 (.inl hk)) z4 z2 k5' z5
  rcases hJ with ⟨pl,b,xs,a,ws,j1,j2,j3,j4,j5,j6,j7,j8,j9⟩ | ⟨k,hk,pl,b,xs,a,ws,j1,j2,j3,j4,j5,j6,j7,j8⟩
  ·have hend:=run_endLoop (P:=Try.prog) j8 (by simp [bkRec])
   have hf5:=fz_putObj W2 (w4.heap.size + 1) (.loop { bkRec fn l4 w4.heap.size .ready none with state:=.exhausted })
   have hlb:some (w4.heap.size + 1) ∈ FF Z:=(hFm Z _).2 (.inr ⟨by omega,by omega⟩)
   refine ⟨none,_,hend,?_⟩
   have j1':=j1.turn (hf5.sub fun k hk=>by simp at hk; subst hk; exact hlb)
   have j5':=j5.trans (blw_fz hf5 (fun k hk=>by simp at hk; subst hk; exact hbase _ (by have:=bw4.size; omega)))
   refine tail_wp (ds:=[{ target:=.collected w4.heap.size,args:=#[] }]) j1' j2 hs (fun k hk=>hbase k (Nat.le_trans j5'.size hk)) fun W' l' t1 t2 t3 t4=>?_
   refine leave pl _ _ b xs a ws l' W' _ t1 j2 t2 ((t4 _ ((hFm Z _).2 (.inr ⟨Nat.le_refl _,by omega⟩))).trans ((World.putObj_heap_other (by omega)).trans j4)) (j5'.trans t3) j6 ?_ (n3_fin m b xs a ws)
   unfold bkRes
   rw [if_neg hlen,<- hkeys2,j7]
  ·have hend:=run_endLoop (P:=Try.prog) j8 (by simp [bkRec])
   have hf5:=fz_putObj W2 (w4.heap.size + 1) (.loop { bkRec fn l4 w4.heap.size .done (some .ret) with state:=.exhausted })
   have hlb:some (w4.heap.size + 1) ∈ FF Z:=(hFm Z _).2 (.inr ⟨by omega,by omega⟩)
   refine ⟨some .ret,_,hend,?_⟩
   have j1':=j1.turn (hf5.sub fun k hk=>by simp at hk; subst hk; exact hlb)
   have j5':=j5.trans (blw_fz hf5 (fun k hk=>by simp at hk; subst hk; exact hbase _ (by have:=bw4.size; omega)))
   refine wpIn_ret ?_
   refine leave pl _ _ b xs a ws l4 _ _ j1' j2 hs ((World.putObj_heap_other (by omega)).trans j4) j5' j6 ?_ (n2_fin m b xs a ws)
   unfold bkRes
   rw [if_neg hlen,<- hkeys2,<- List.take_append_drop k (sorted (vs.map (·.1))),bkAll_app,j7,bkAll_none]
end Go.Proofs.Lx
end
section
open Go Go.Proofs Ev Sx
set_option maxRecDepth 100000
namespace Go.Proofs.Lx
abbrev QJT0:Ty:=(.pr (.int .i64) (.sl (.int .u16)))
abbrev QJT1:Ty:=(.pr (.int .i64) (.int .u16))
@[reducible] def q97_:Sh:=⟨[.d (.sl (.int .u16)),.d (.sl .bool)],[],[.sl (.int .u16),.sl .bool],[.mp 0],[(0,.dm (.int .i64) (.int .u16))],1,[.sl QJT1]⟩
def qjk_:Env:=(cts [])
def qjh_:List (Nat×Hint):=[(58,⟨[],[0,1,5,9,10,18,19,20,21]⟩),(3737,⟨[.agd 18 (.sl .bool),.agd 19 (.int .i64),.agd 21 .bool],[0,1,5,6,9,10,22]⟩)]
def q53_ (w:List Int) (is':List Bool) (t9 t10:Int) (out:zE0):St:=⟨[(0,dW w),(1,.d (.sl .bool) is'),(5,.mp 0),(9,dI t9),(10,dI t10)],31,[],[(0,.dm (.int .i64) (.int .u16) out)],1,[],0⟩
def qm7_ (w:List Int) (is':List Bool) (i t9 t10:Int) (t22:Bool) (out:zE0):St:=⟨[(0,dW w),(1,.d (.sl .bool) is'),(5,.mp 0),(6,dI i),(9,dI t9),(10,dI t10),(22,dB t22)],31,[],[(0,.dm (.int .i64) (.int .u16) out)],1,[],0⟩
@[reducible] def zE1:Type:=List Int->List Bool->Int->Int->List (Int×Int)->Option (As [.sl QJT1])
def q7a_ (j2:List Int->List Bool->Int->Int->Int->Bool->List (Int×Int)->Option (As [.sl QJT1])) (self1:zE1) (w:List Int) (is':List Bool) (t9 t10:Int) (out:zE0):Option (As [.sl QJT1]) :=
 if lt t10 t9=true then if lt t10 (Int.ofNat (List.length is'))=true then Option.bind (at? is' t10) fun y=>j2 w is' t10 t9 t10 y out else j2 w is' t10 t9 t10 false out else some (out,())
def qff_ (self1:zE1) (w:List Int) (is':List Bool) (i t9 t10:Int) (t22:Bool) (out:zE0):Option (As [.sl QJT1]) :=
 if t22=true then Option.bind (at? w i) fun y=>self1 w is' t9 (add .i64 t10 1) (Ev.dput (.int .i64) out i y) else self1 w is' t9 (add .i64 t10 1) out
def qr7_ (j1:zE1) (w:List Int) (is':List Bool):Option (As [.sl QJT1]) :=
 j1 w is' (Int.ofNat (List.length w)) 0 []
def qfz_ (u1:zE1):=qff_ u1
def qfc_ (w:List Int) (is':List Bool) (t9 t10:Int) (out:zE0):Option (As [.sl QJT1]) :=
 loopF (fun self s=>q7a_ (qfz_ (fun w is' t9 t10 out=>self (w,is',t9,t10,out))) (fun w is' t9 t10 out=>self (w,is',t9,t10,out)) s.1 s.2.1 s.2.2.1 s.2.2.2.1 s.2.2.2.2) 18446744073709551616 (w,is',t9,t10,out)
def q6b_ (x:As [.sl (.int .u16),.sl .bool]):Option (As [.sl QJT1]):=qr7_ qfc_ x.1 x.2.1
noncomputable abbrev law16_row_P:=pfn Try.prog qjk_ 6 18446744073709551616 (Ev.get qjh_) 7 q97_
theorem q13r_ {J w1 w is' i t9 t10 t22 out}:law16_row_P J 3737 [w1] (qm7_ w is' i t9 t10 t22 out)=qff_ (fun w is' t9 t10 out=>w1 (q53_ w is' t9 t10 out)) w is' i t9 t10 t22 out:=by kernel_rfl
theorem q151_ {J w1 w is' t9 t10 out}:law16_row_P J 58 [w1] (q53_ w is' t9 t10 out)=q7a_ (fun w is' i t9 t10 t22 out=>J 3737 [w1] (qm7_ w is' i t9 t10 t22 out)) (fun w is' t9 t10 out=>w1 (q53_ w is' t9 t10 out)) w is' t9 t10 out:=by kernel_rfl
theorem q15f_ (J:Orc (As [.sl QJT1])) (x:As [.sl (.int .u16),.sl .bool]):rfn Try.prog qjk_ 6 18446744073709551616 (Ev.get qjh_) 7 q97_ J x=qr7_ (fun w is' t9 t10 out=>J 58 [] (q53_ w is' t9 t10 out)) x.1 x.2.1:=by kernel_rfl
noncomputable abbrev law16_row_J:=jfn Try.prog qjk_ 6 18446744073709551616 (Ev.get qjh_) 7 q97_
theorem q146_  (w1 w is' i t9 t10 t22 out):law16_row_J 3737 [w1] (qm7_ w is' i t9 t10 t22 out)=qfz_ (fun w is' t9 t10 out=>w1 (q53_ w is' t9 t10 out)) w is' i t9 t10 t22 out:=gN (by decide) q13r_
theorem q14c_  (w is' t9 t10 out):law16_row_J 58 [] (q53_ w is' t9 t10 out)=qfc_ w is' t9 t10 out:=gL (σ:=(List Int)×(List Bool)×(Int)×(Int)×(List (Int×Int))) (mk:=fun s=>q53_ s.1 s.2.1 s.2.2.1 s.2.2.2.1 s.2.2.2.2) (by decide) (by kernel_rfl) (fun w1 s=>q151_.trans (by simp only [q146_])) (w,is',t9,t10,out)
theorem q167_ (x:As [.sl (.int .u16),.sl .bool]):evT Try.prog qjk_ 6 18446744073709551616 (Ev.get qjh_) 7 q97_ x=q6b_ x:=by
 rw [qi_,q15f_]
 simp only [q14c_]
 rfl
theorem q15l_:CtOk Try.prog (fun _=>True) 7 ⟨q97_,q6b_⟩:=qa_ q6_ q167_
@[reducible] def q4u_:Sh:=⟨[.d (.sl (.int .u16))],[],[.sl (.int .u16)],[.row 0],[(0,.row (.int .u16) 32)],1,[.sl (.int .u16)]⟩
def q40_ (s:List Int):Option (As [.sl (.int .u16)]) :=
 if eqi (Int.ofNat (List.length s)) 0=true then amb (eqAs q4u_.rs) [some ([],()),need (small (0 + List.length s)) (some (s,()))] else need (small (0 + List.length s)) (some (s,()))
def q31_ (x:As [.sl (.int .u16)]):Option (As [.sl (.int .u16)]):=q40_ x.1
theorem qlh_:CtOk Try.prog (fun _=>True) 26 ⟨q4u_,q31_⟩:=ctn q6_ 6 fun J x=>by kernel_rfl
@[reducible] def q6t_:Sh:=⟨[.d (.sl (.int .u16)),.d (.sl QJT0)],[],[.sl (.int .u16),.sl QJT0],[.d (.sl (.int .u16))],[],0,[.sl (.int .u16)]⟩
def qj8_:Env:=(cts [(26,(⟨q4u_,q31_⟩:Ct))])
def qj5_:List (Nat×Hint):=[(58,⟨[],[0,12,13,14,33,34,35,36]⟩),(14950,⟨[],[0,6,12,13,14,19,20,21,33,34,35,36]⟩),(1913651,⟨[.agd 33 (.int .i64),.agd 35 (.int .i64),.agd 36 .bool],[0,6,8,9,12,13,14,19,20,21,37]⟩)]
@[reducible] def zE2:Type:=List (Int×List Int)
def q2c_ (t12:zE2) (t13 t14:Int) (bank:List Int):St:=⟨[(0,.row 0),(12,.d (.sl QJT0) t12),(13,dI t13),(14,dI t14)],45,[],[(0,.row (.int .u16) 32 bank)],1,[],0⟩
def q51_ (t12:zE2) (t13 t14:Int) (t19:List Int) (t20 t21:Int) (bank:List Int) (x:Int×List Int):St:=⟨[(0,.row 0),(6,.pb 1 0),(12,.d (.sl QJT0) t12),(13,dI t13),(14,dI t14),(19,dW t19),(20,dI t20),(21,dI t21)],45,[],[(0,.row (.int .u16) 32 bank),(1,.box 31 [dI x.1,dW x.2])],2,[],0⟩
def qlj_ (w at':Int) (t12:zE2) (t13 t14:Int) (t19:List Int) (t20 t21:Int) (t37:Bool) (bank:List Int) (x:Int×List Int):St:=⟨[(0,.row 0),(6,.pb 1 0),(8,d6 w),(9,dI at'),(12,.d (.sl QJT0) t12),(13,dI t13),(14,dI t14),(19,dW t19),(20,dI t20),(21,dI t21),(37,dB t37)],45,[],[(0,.row (.int .u16) 32 bank),(1,.box 31 [dI x.1,dW x.2])],2,[],0⟩
@[reducible] def zE3:Type:=List (Int×List Int)->Int->Int->List Int->Int->Int->List Int->Int×List Int->Option (As [.sl (.int .u16)])
@[reducible] def zE4:Type:=List (Int×List Int)->Int->Int->List Int->Option (As [.sl (.int .u16)])
def q7j_ (j2:zE3) (self1:zE4) (t12:zE2) (t13 t14:Int) (bank:List Int):Option (As [.sl (.int .u16)]) :=
 if lt t14 t13=true then Option.bind (at? t12 t14) fun y=>j2 t12 t13 t14 y.2 (Int.ofNat (List.length y.2)) 0 bank y else some (bank,())
def q89_ (j3:Int->Int->List (Int×List Int)->Int->Int->List Int->Int->Int->Bool->List Int->Int×List Int->Option (As [.sl (.int .u16)])) (self1:zE4) (self2:zE3) (t12:zE2) (t13 t14:Int) (t19:List Int) (t20 t21:Int) (bank:List Int) (x:Int×List Int):Option (As [.sl (.int .u16)]) :=
 if lt t21 t20=true then Option.bind (at? t19 t21) fun y=>if ge (add .i64 x.1 t21) 0=true then j3 y (add .i64 x.1 t21) t12 t13 t14 t19 t20 t21 (lt (add .i64 x.1 t21) (Int.ofNat (List.length bank))) bank x else j3 y (add .i64 x.1 t21) t12 t13 t14 t19 t20 t21 false bank x else self1 t12 t13 (add .i64 t14 1) bank
def qg6_ (self1:zE4) (self2:zE3) (w at':Int) (t12:zE2) (t13 t14:Int) (t19:List Int) (t20 t21:Int) (t37:Bool) (bank:List Int) (x:Int×List Int):Option (As [.sl (.int .u16)]) :=
 if t37=true then Option.bind (at? bank at') fun x_1=>Option.bind (at? bank at') fun x_2=>self2 t12 t13 t14 t19 t20 (add .i64 t21 1) (List.set bank (Int.toNat at') w) x else self2 t12 t13 t14 t19 t20 (add .i64 t21 1) bank x
def qfp_ (j1:zE4) (bank:List Int) (l:zE2):Option (As [.sl (.int .u16)]) :=
 Option.bind (q31_ (bank,())) fun y=>j1 l (Int.ofNat (List.length l)) 0 y.1
def q9z_ (u1:zE4) (u2:zE3):=qg6_ u1 u2
def qac_ (u1:zE4) (t12:zE2) (t13 t14:Int) (t19:List Int) (t20 t21:Int) (bank:List Int) (x:Int×List Int):Option (As [.sl (.int .u16)]) :=
 loopF (fun self s=>q89_ (q9z_ u1 (fun t12 t13 t14 t19 t20 t21 bank x=>self (t12,t13,t14,t19,t20,t21,bank,x))) u1 (fun t12 t13 t14 t19 t20 t21 bank x=>self (t12,t13,t14,t19,t20,t21,bank,x)) s.1 s.2.1 s.2.2.1 s.2.2.2.1 s.2.2.2.2.1 s.2.2.2.2.2.1 s.2.2.2.2.2.2.1 s.2.2.2.2.2.2.2) 18446744073709551616 (t12,t13,t14,t19,t20,t21,bank,x)
def qgp_ (t12:zE2) (t13 t14:Int) (bank:List Int):Option (As [.sl (.int .u16)]) :=
 loopF (fun self s=>q7j_ (qac_ (fun t12 t13 t14 bank=>self (t12,t13,t14,bank))) (fun t12 t13 t14 bank=>self (t12,t13,t14,bank)) s.1 s.2.1 s.2.2.1 s.2.2.2) 18446744073709551616 (t12,t13,t14,bank)
def q62_ (x:As [.sl (.int .u16),.sl QJT0]):Option (As [.sl (.int .u16)]):=qfp_ qgp_ x.1 x.2.1
noncomputable abbrev plan_Over_P:=pfn Try.prog qj8_ 6 18446744073709551616 (Ev.get qj5_) 10 q6t_
theorem q15e_ {J w1 w2 w at' t12 t13 t14 t19 t20 t21 t37 bank x}:plan_Over_P J 1913651 [w1,w2] (qlj_ w at' t12 t13 t14 t19 t20 t21 t37 bank x)=qg6_ (fun t12 t13 t14 bank=>w1 (q2c_ t12 t13 t14 bank)) (fun t12 t13 t14 t19 t20 t21 bank x=>w2 (q51_ t12 t13 t14 t19 t20 t21 bank x)) w at' t12 t13 t14 t19 t20 t21 t37 bank x:=by kernel_rfl
theorem q147_ {J w1 w2 t12 t13 t14 t19 t20 t21 bank x}:plan_Over_P J 14950 [w1,w2] (q51_ t12 t13 t14 t19 t20 t21 bank x)=q89_ (fun w at' t12 t13 t14 t19 t20 t21 t37 bank x=>J 1913651 [w1,w2] (qlj_ w at' t12 t13 t14 t19 t20 t21 t37 bank x)) (fun t12 t13 t14 bank=>w1 (q2c_ t12 t13 t14 bank)) (fun t12 t13 t14 t19 t20 t21 bank x=>w2 (q51_ t12 t13 t14 t19 t20 t21 bank x)) t12 t13 t14 t19 t20 t21 bank x:=by kernel_rfl
theorem q143_ {J w1 t12 t13 t14 bank}:plan_Over_P J 58 [w1] (q2c_ t12 t13 t14 bank)=q7j_ (fun t12 t13 t14 t19 t20 t21 bank x=>J 14950 [w1] (q51_ t12 t13 t14 t19 t20 t21 bank x)) (fun t12 t13 t14 bank=>w1 (q2c_ t12 t13 t14 bank)) t12 t13 t14 bank:=by kernel_rfl
theorem q14h_ (J:Orc (As [.sl (.int .u16)])) (x:As [.sl (.int .u16),.sl QJT0]):rfn Try.prog qj8_ 6 18446744073709551616 (Ev.get qj5_) 10 q6t_ J x=qfp_ (fun t12 t13 t14 bank=>J 58 [] (q2c_ t12 t13 t14 bank)) x.1 x.2.1:=by kernel_rfl
noncomputable abbrev plan_Over_J:=jfn Try.prog qj8_ 6 18446744073709551616 (Ev.get qj5_) 10 q6t_
theorem q14g_  (w1 w2 w at' t12 t13 t14 t19 t20 t21 t37 bank x):plan_Over_J 1913651 [w1,w2] (qlj_ w at' t12 t13 t14 t19 t20 t21 t37 bank x)=q9z_ (fun t12 t13 t14 bank=>w1 (q2c_ t12 t13 t14 bank)) (fun t12 t13 t14 t19 t20 t21 bank x=>w2 (q51_ t12 t13 t14 t19 t20 t21 bank x)) w at' t12 t13 t14 t19 t20 t21 t37 bank x:=gN (by decide) q15e_
theorem q15o_  (w1 t12 t13 t14 t19 t20 t21 bank x):plan_Over_J 14950 [w1] (q51_ t12 t13 t14 t19 t20 t21 bank x)=qac_ (fun t12 t13 t14 bank=>w1 (q2c_ t12 t13 t14 bank)) t12 t13 t14 t19 t20 t21 bank x:=gL (σ:=(List (Int×List Int))×(Int)×(Int)×(List Int)×(Int)×(Int)×(List Int)×(Int×List Int)) (mk:=fun s=>q51_ s.1 s.2.1 s.2.2.1 s.2.2.2.1 s.2.2.2.2.1 s.2.2.2.2.2.1 s.2.2.2.2.2.2.1 s.2.2.2.2.2.2.2) (by decide) (by kernel_rfl) (fun w2 s=>q147_.trans (by simp only [q14g_])) (t12,t13,t14,t19,t20,t21,bank,x)
theorem q15g_  (t12 t13 t14 bank):plan_Over_J 58 [] (q2c_ t12 t13 t14 bank)=qgp_ t12 t13 t14 bank:=gL (σ:=(List (Int×List Int))×(Int)×(Int)×(List Int)) (mk:=fun s=>q2c_ s.1 s.2.1 s.2.2.1 s.2.2.2) (by decide) (by kernel_rfl) (fun w1 s=>q143_.trans (by simp only [q15o_])) (t12,t13,t14,bank)
theorem q15u_ (x:As [.sl (.int .u16),.sl QJT0]):evT Try.prog qj8_ 6 18446744073709551616 (Ev.get qj5_) 10 q6t_ x=q62_ x:=by
 rw [qi_,q14h_]
 simp only [q15g_]
 rfl
theorem qsb_:CtOk Try.prog (fun _=>True) 10 ⟨q6t_,q62_⟩:=qa_ (q2_ qlh_ q6_) q15u_
@[reducible] def q38_:Sh:=⟨[.d (.sl (.int .u16)),.d (.sl (.int .u16))],[],[.sl (.int .u16),.sl (.int .u16)],[.d (.bool)],[],0,[.bool]⟩
def qgt_:Env:=(cts [])
def qgq_:List (Nat×Hint):=[(58,⟨[],[0,1,12,13]⟩)]
def q8t_ (a b:List Int) (t12 t13:Int):St:=⟨[(0,dW a),(1,dW b),(12,dI t12),(13,dI t13)],26,[],[],0,[],0⟩
def q5y_ (self1:List Int->List Int->Int->Int->Option (As [.bool])) (a b:List Int) (t12 t13:Int):Option (As [.bool]) :=
 if lt t13 t12=true then Option.bind (at? a t13) fun y=>Option.bind (at? b t13) fun y_1=>if nei y y_1=true then some (false,()) else self1 a b t12 (add .i64 t13 1) else some (true,())
def qeh_ (j1:List Int->List Int->Int->Int->Option (As [.bool])) (a b:List Int):Option (As [.bool]) :=
 if nei (Int.ofNat (List.length a)) (Int.ofNat (List.length b))=true then some (false,()) else j1 a b (Int.ofNat (List.length a)) 0
def qdx_ (a b:List Int) (t12 t13:Int):Option (As [.bool]) :=
 loopF (fun self s=>q5y_ (fun a b t12 t13=>self (a,b,t12,t13)) s.1 s.2.1 s.2.2.1 s.2.2.2) 18446744073709551616 (a,b,t12,t13)
def q32_ (x:As [.sl (.int .u16),.sl (.int .u16)]):Option (As [.bool]):=qeh_ qdx_ x.1 x.2.1
noncomputable abbrev law06_Regs_P:=pfn Try.prog qgt_ 6 18446744073709551616 (Ev.get qgq_) 11 q38_
theorem q13c_ {J w1 a b t12 t13}:law06_Regs_P J 58 [w1] (q8t_ a b t12 t13)=q5y_ (fun a b t12 t13=>w1 (q8t_ a b t12 t13)) a b t12 t13:=by kernel_rfl
theorem q10q_ (J:Orc (As [.bool])) (x:As [.sl (.int .u16),.sl (.int .u16)]):rfn Try.prog qgt_ 6 18446744073709551616 (Ev.get qgq_) 11 q38_ J x=qeh_ (fun a b t12 t13=>J 58 [] (q8t_ a b t12 t13)) x.1 x.2.1:=by kernel_rfl
noncomputable abbrev law06_Regs_J:=jfn Try.prog qgt_ 6 18446744073709551616 (Ev.get qgq_) 11 q38_
theorem q11q_  (a b t12 t13):law06_Regs_J 58 [] (q8t_ a b t12 t13)=qdx_ a b t12 t13:=gL (σ:=(List Int)×(List Int)×(Int)×(Int)) (mk:=fun s=>q8t_ s.1 s.2.1 s.2.2.1 s.2.2.2) (by decide) (by kernel_rfl) (fun w1 s=>q13c_) (a,b,t12,t13)
theorem q15m_ (x:As [.sl (.int .u16),.sl (.int .u16)]):evT Try.prog qgt_ 6 18446744073709551616 (Ev.get qgq_) 11 q38_ x=q32_ x:=by
 rw [qi_,q10q_]
 simp only [q11q_]
 rfl
theorem qks_:CtOk Try.prog (fun _=>True) 11 ⟨q38_,q32_⟩:=qa_ q6_ q15m_
@[reducible] def q3c_:Sh:=⟨[.d (.sl QJT0),.d (.sl QJT0)],[],[.sl QJT0,.sl QJT0],[.d (.bool)],[],0,[.bool]⟩
def qga_:Env:=(cts [(11,(⟨q38_,q32_⟩:Ct))])
def qg9_:List (Nat×Hint):=[(58,⟨[],[0,1,12,13,28,29,30,31,32,33,34,35,36,37,38,39]⟩),(3737,⟨[.agd 28 (.sl QJT0),.agd 29 (.int .i64),.agd 32 (.sl (.int .u16)),.agd 33 (.sl QJT0),.agd 34 (.int .i64),.agd 37 (.sl (.int .u16)),.agd 38 .bool,.agd 39 .bool],[0,1,12,13,40]⟩)]
def q3r_ (a b:zE2) (t12 t13:Int):St:=⟨[(0,.d (.sl QJT0) a),(1,.d (.sl QJT0) b),(12,dI t12),(13,dI t13)],42,[],[],0,[],0⟩
def qka_ (a b:zE2) (t12 t13:Int) (t40:Bool):St:=⟨[(0,.d (.sl QJT0) a),(1,.d (.sl QJT0) b),(12,dI t12),(13,dI t13),(40,dB t40)],42,[],[],0,[],0⟩
@[reducible] def zE5:Type:=List (Int×List Int)->List (Int×List Int)->Int->Int->Option (As [.bool])
def q5v_ (j2:List (Int×List Int)->List (Int×List Int)->Int->Int->Bool->Option (As [.bool])) (self1:zE5) (a b:zE2) (t12 t13:Int):Option (As [.bool]) :=
 if lt t13 t12=true then Option.bind (at? a t13) fun y=>Option.bind (at? b t13) fun y_1=>if nei y.1 y_1.1=true then j2 a b t12 t13 true else Option.bind (at? a t13) fun y=>Option.bind (at? b t13) fun y_2=>Option.bind (q32_ (y.2,y_2.2,())) fun y=>j2 a b t12 t13 !y.1 else some (true,())
def qev_ (self1:zE5) (a b:zE2) (t12 t13:Int) (t40:Bool):Option (As [.bool]) :=
 if t40=true then some (false,()) else self1 a b t12 (add .i64 t13 1)
def qec_ (j1:zE5) (a b:zE2):Option (As [.bool]) :=
 if nei (Int.ofNat (List.length a)) (Int.ofNat (List.length b))=true then some (false,()) else j1 a b (Int.ofNat (List.length a)) 0
def q92_ (u1:zE5):=qev_ u1
def qem_ (a b:zE2) (t12 t13:Int):Option (As [.bool]) :=
 loopF (fun self s=>q5v_ (q92_ (fun a b t12 t13=>self (a,b,t12,t13))) (fun a b t12 t13=>self (a,b,t12,t13)) s.1 s.2.1 s.2.2.1 s.2.2.2) 18446744073709551616 (a,b,t12,t13)
def q2g_ (x:As [.sl QJT0,.sl QJT0]):Option (As [.bool]):=qec_ qem_ x.1 x.2.1
noncomputable abbrev law16_Same_P:=pfn Try.prog qga_ 6 18446744073709551616 (Ev.get qg9_) 16 q3c_
theorem q12u_ {J w1 a b t12 t13 t40}:law16_Same_P J 3737 [w1] (qka_ a b t12 t13 t40)=qev_ (fun a b t12 t13=>w1 (q3r_ a b t12 t13)) a b t12 t13 t40:=by kernel_rfl
theorem q11m_ {J w1 a b t12 t13}:law16_Same_P J 58 [w1] (q3r_ a b t12 t13)=q5v_ (fun a b t12 t13 t40=>J 3737 [w1] (qka_ a b t12 t13 t40)) (fun a b t12 t13=>w1 (q3r_ a b t12 t13)) a b t12 t13:=by kernel_rfl
theorem q137_ (J:Orc (As [.bool])) (x:As [.sl QJT0,.sl QJT0]):rfn Try.prog qga_ 6 18446744073709551616 (Ev.get qg9_) 16 q3c_ J x=qec_ (fun a b t12 t13=>J 58 [] (q3r_ a b t12 t13)) x.1 x.2.1:=by kernel_rfl
noncomputable abbrev law16_Same_J:=jfn Try.prog qga_ 6 18446744073709551616 (Ev.get qg9_) 16 q3c_
theorem q12p_  (w1 a b t12 t13 t40):law16_Same_J 3737 [w1] (qka_ a b t12 t13 t40)=q92_ (fun a b t12 t13=>w1 (q3r_ a b t12 t13)) a b t12 t13 t40:=gN (by decide) q12u_
theorem q10z_  (a b t12 t13):law16_Same_J 58 [] (q3r_ a b t12 t13)=qem_ a b t12 t13:=gL (σ:=(List (Int×List Int))×(List (Int×List Int))×(Int)×(Int)) (mk:=fun s=>q3r_ s.1 s.2.1 s.2.2.1 s.2.2.2) (by decide) (by kernel_rfl) (fun w1 s=>q11m_.trans (by simp only [q12p_])) (a,b,t12,t13)
theorem q158_ (x:As [.sl QJT0,.sl QJT0]):evT Try.prog qga_ 6 18446744073709551616 (Ev.get qg9_) 16 q3c_ x=q2g_ x:=by
 rw [qi_,q137_]
 simp only [q10z_]
 rfl
theorem qkb_:CtOk Try.prog (fun _=>True) 16 ⟨q3c_,q2g_⟩:=qa_ (q2_ qks_ q6_) q158_
@[reducible] def q5n_:Sh:=⟨[],[],[],[.d (.bool)],[],0,[.bool]⟩
def qel_:Env:=(cts [(8,(⟨q2i_,q1q_⟩:Ct)),(10,(⟨q6t_,q62_⟩:Ct)),(11,(⟨q38_,q32_⟩:Ct)),(16,(⟨q3c_,q2g_⟩:Ct))])
def qf0_:List (Nat×Hint):=[(15,⟨[],[1,2,3,37,40,41,44,45,46,47,48,49,50,53,54,55,58,59,60,61,62,63,66,67,68,69,70,73,74,75,76,77]⟩),(122,⟨[],[1,2,3,16,37,40,41,44,45,46,47,48,49,50,53,54,55,58,59,60,61,62,63,66,67,68,69,70,73,74,75,76,77]⟩)]
def q8a_ (a:zE2) (x:Bool) (t16:Int) (m:zE0):St:=⟨[(1,.d (.sl QJT0) a),(2,dB x),(3,.mp 0),(16,dI t16)],79,[],[(0,.dm (.int .i64) (.int .u16) m)],1,[],0⟩
def qiy_ (a:zE2) (x:Bool) (m:zE0):St:=⟨[(1,.d (.sl QJT0) a),(2,dB x),(3,.mp 0)],79,[],[(0,.dm (.int .i64) (.int .u16) m)],1,[],0⟩
@[reducible] def zE6:Type:=List (Int×List Int)->Bool->Int->List (Int×Int)->Option (As [.bool])
def qoo_ (j2:List (Int×List Int)->Bool->List (Int×Int)->Option (As [.bool])) (self1:zE6) (a:zE2) (x:Bool) (t16:Int) (m:zE0):Option (As [.bool]) :=
 if lt t16 15=true then self1 a x (add .i64 t16 1) (Ev.dput (.int .i64) m t16 (cvt .u16 t16)) else j2 a x m
def qbo_ (a:zE2) (x:Bool) (m:zE0):Option (As [.bool]) :=
 Option.bind (q1q_ (m,())) fun y=>Option.bind (q1q_ ([(64,1)],())) fun y_1=>if x=true then if y.2.1=true then if (!y_1.2.1)=true then Option.bind (q2g_ (a,[(3,[7,8]),(6,[9])],())) fun y_2=>if y_2.1=true then if eqi (Int.ofNat (List.length y.1)) 2=true then Option.bind (at? y.1 0) fun y_3=>if eqi (Int.ofNat (List.length y_3.2)) 14=true then Option.bind (at? y.1 1) fun y=>if eqi y.1 14=true then Option.bind (q62_ ([0,0,0,0,0,0,0],a,())) fun y=>Option.bind (q32_ (y.1,[0,0,0,7,8,0,9],())) fun y=>some (y.1,()) else some (false,()) else some (false,()) else some (false,()) else some (false,()) else some (false,()) else some (false,()) else some (false,())
def qbd_ (j1:zE6):Option (As [.bool]) :=
 Option.bind (q1q_ ([(3,7),(4,8),(6,9)],())) fun y=>j1 y.1 y.2.1 0 []
def qhq_:=qbo_
def q84_ (a:zE2) (x:Bool) (t16:Int) (m:zE0):Option (As [.bool]) :=
 loopF (fun self s=>qoo_ (qhq_) (fun a x t16 m=>self (a,x,t16,m)) s.1 s.2.1 s.2.2.1 s.2.2.2) 18446744073709551616 (a,x,t16,m)
def q1b_ (x:As []):Option (As [.bool]):=qbd_ q84_
noncomputable abbrev law16_awake_P:=pfn Try.prog qel_ 6 18446744073709551616 (Ev.get qf0_) 9 q5n_
theorem qxd_ {J a x m}:law16_awake_P J 15 [] (qiy_ a x m)=qbo_ a x m:=by kernel_rfl
theorem qxz_ {J w1 a x t16 m}:law16_awake_P J 122 [w1] (q8a_ a x t16 m)=qoo_ (fun a x m=>J 15 [] (qiy_ a x m)) (fun a x t16 m=>w1 (q8a_ a x t16 m)) a x t16 m:=by kernel_rfl
theorem qv0_ (J:Orc (As [.bool])) (x:As []):rfn Try.prog qel_ 6 18446744073709551616 (Ev.get qf0_) 9 q5n_ J x=qbd_ (fun a x t16 m=>J 122 [] (q8a_ a x t16 m)):=by kernel_rfl
noncomputable abbrev law16_awake_J:=jfn Try.prog qel_ 6 18446744073709551616 (Ev.get qf0_) 9 q5n_
theorem qum_  (a x m):law16_awake_J 15 [] (qiy_ a x m)=qhq_ a x m:=gN (by decide) qxd_
theorem qx8_  (a x t16 m):law16_awake_J 122 [] (q8a_ a x t16 m)=q84_ a x t16 m:=gL (σ:=(List (Int×List Int))×(Bool)×(Int)×(List (Int×Int))) (mk:=fun s=>q8a_ s.1 s.2.1 s.2.2.1 s.2.2.2) (by decide) (by kernel_rfl) (fun w1 s=>qxz_.trans (by simp only [qum_])) (a,x,t16,m)
theorem q133_ (x:As []):evT Try.prog qel_ 6 18446744073709551616 (Ev.get qf0_) 9 q5n_ x=q1b_ x:=by
 rw [qi_,qv0_]
 simp only [qx8_]
 rfl
theorem qx9_:CtOk Try.prog (fun _=>True) 9 ⟨q5n_,q1b_⟩:=qa_ (q2_ qn9_ (q2_ qsb_ (q2_ qks_ (q2_ qkb_ q6_)))) q133_
@[reducible] def zE7:Type:=List Bool->List (Int×List Int)->Bool->Int->Int->Int->Int->List (Int×Int)->Option (As [.bool])
@[reducible] def qrz_:Sh:=⟨[.d (.sl (.int .u16)),.d (.sl .bool)],[],[.sl (.int .u16),.sl .bool],[.d (.bool)],[],0,[.bool]⟩
def qqg_ (j2:zE7) (w:List Int) (is':List Bool) (words:List Int) (have':List Bool):Option (As [.bool]) :=
 need (le (Int.ofNat (0 + List.length words)) (Int.ofNat (List.length words))) (need (le (Int.ofNat (0 + List.length have')) (Int.ofNat (List.length have'))) (Option.bind (q6b_ (List.take (Int.toNat (Int.ofNat (List.length words))) w++List.drop (0 + List.length (List.take (Int.toNat (Int.ofNat (List.length words))) w)) words,List.take (Int.toNat (Int.ofNat (List.length have'))) is'++List.drop (0 + List.length (List.take (Int.toNat (Int.ofNat (List.length have'))) is')) have',())) fun y=>Option.bind (q1q_ (y.1,())) fun y=>j2 (List.take (Int.toNat (Int.ofNat (List.length have'))) is'++List.drop (0 + List.length (List.take (Int.toNat (Int.ofNat (List.length have'))) is')) have') y.1 y.2.1 0 0 (Int.ofNat (List.length (List.take (Int.toNat (Int.ofNat (List.length have'))) is'++List.drop (0 + List.length (List.take (Int.toNat (Int.ofNat (List.length have'))) is')) have'))) 0 y.2.2.1))
def qq5_ (j3:zE7) (j4:zE6) (self2:zE7) (have':List Bool) (l:zE2) (ok:Bool) (runs least t42 t43:Int) (m:zE0):Option (As [.bool]) :=
 if lt t43 t42=true then Option.bind (at? have' t43) fun y=>if (!y)=true then self2 have' l ok 0 least t42 (add .i64 t43 1) m else if eqi (rem runs 14) 0=true then j3 have' l ok runs (add .i64 least 1) t42 t43 m else j3 have' l ok runs least t42 t43 m else j4 l ok least m
def qpv_ (self2:zE7) (have':List Bool) (l:zE2) (ok:Bool) (runs least t42 t43:Int) (m:zE0):Option (As [.bool]) :=
 self2 have' l ok (add .i64 runs 1) least t42 (add .i64 t43 1) m
@[reducible] def zE8:Type:=List (Int×List Int)->Int->Int->List (Int×List Int)->Int->Int->List (Int×Int)->Option (As [.bool])
def qqa_ (j5:zE8) (l:zE2) (ok:Bool) (least:Int) (m:zE0):Option (As [.bool]) :=
 if Sx.neb ok (le least 8)=true then some (false,()) else if (!ok)=true then if eqi (Int.ofNat (List.length l)) 0=true then Option.bind (q1b_ ()) fun y=>some (y.1,()) else some (false,()) else j5 l least 0 l (Int.ofNat (List.length l)) 0 m
def qqm_ (j6:List (Int×List Int)->Int->Int->Int->List (Int×List Int)->Int->Int->Bool->List (Int×Int)->Int×List Int->Option (As [.bool])) (j7:List (Int×List Int)->Int->Int->List (Int×Int)->Option (As [.bool])) (self5:zE8) (l:zE2) (least met:Int) (t71:zE2) (t72 t73:Int) (m:zE0):Option (As [.bool]) :=
 if lt t73 t72=true then Option.bind (at? t71 t73) fun y=>if lt (Int.ofNat (List.length y.2)) 1=true then j6 l least met t73 t71 t72 t73 true m y else j6 l least met t73 t71 t72 t73 (gt (Int.ofNat (List.length y.2)) 14) m y else j7 l least met m
@[reducible] def zE9:Type:=List (Int×List Int)->Int->Int->List (Int×List Int)->Int->Int->List (Int×Int)->Int×List Int->Option (As [.bool])
def qqh_ (j8:List (Int×List Int)->Int->Int->List (Int×List Int)->Int->Int->Bool->List (Int×Int)->Int×List Int->Option (As [.bool])) (j9:zE9) (self5:zE8) (l:zE2) (least met i:Int) (t71:zE2) (t72 t73:Int) (t87:Bool) (m:zE0) (b:Int×List Int):Option (As [.bool]) :=
 if t87=true then some (false,()) else if gt i 0=true then Option.bind (at? l (Sx.sub .i64 i 1)) fun y=>Option.bind (at? l (Sx.sub .i64 i 1)) fun y_1=>if lt b.1 (add .i64 y.1 (Int.ofNat (List.length y_1.2)))=true then j8 l least met t71 t72 t73 true m b else if eqi b.1 (add .i64 y.1 (Int.ofNat (List.length y_1.2)))=true then Option.bind (at? l (Sx.sub .i64 i 1)) fun y=>j8 l least met t71 t72 t73 (lt (Int.ofNat (List.length y.2)) 14) m b else j8 l least met t71 t72 t73 false m b else j9 l least met t71 t72 t73 m b
def qqe_ (l:zE2) (least met:Int) (m:zE0):Option (As [.bool]) :=
 Option.bind (q1q_ (Ev.dput (.int .i64) m 64 1,())) fun y=>Option.bind (q1q_ (Ev.dput (.int .i64) (Ev.ddel (.int .i64) y.2.2.1 64) (-1) 1,())) fun y_1=>if eqi met (Sx.sub .i64 (Int.ofNat (List.length y_1.2.2.1)) 1)=true then if eqi (Int.ofNat (List.length l)) least=true then if (!y.2.1)=true then if (!y_1.2.1)=true then Option.bind (q1b_ ()) fun y=>some (y.1,()) else some (false,()) else some (false,()) else some (false,()) else some (false,())
def qq3_ (j9:zE9) (self5:zE8) (l:zE2) (least met:Int) (t71:zE2) (t72 t73:Int) (t123:Bool) (m:zE0) (b:Int×List Int):Option (As [.bool]) :=
 if t123=true then some (false,()) else j9 l least met t71 t72 t73 m b
@[reducible] def zE10:Type:=List (Int×List Int)->Int->Int->List (Int×List Int)->Int->Int->List Int->Int->Int->List (Int×Int)->Int×List Int->Option (As [.bool])
def qqd_ (j10:zE10) (self5:zE8) (l:zE2) (least met:Int) (t71:zE2) (t72 t73:Int) (m:zE0) (b:Int×List Int):Option (As [.bool]) :=
 j10 l least met t71 t72 t73 b.2 (Int.ofNat (List.length b.2)) 0 m b
def qos_ (j11:List (Int×List Int)->Int->Int->List (Int×List Int)->Int->Int->List Int->Int->Int->Bool->List (Int×Int)->Int×List Int->Option (As [.bool])) (self5:zE8) (self10:zE10) (l:zE2) (least met:Int) (t71:zE2) (t72 t73:Int) (t125:List Int) (t126 t127:Int) (m:zE0) (b:Int×List Int):Option (As [.bool]) :=
 if lt t127 t126=true then Option.bind (at? t125 t127) fun y=>if (!Ev.isV (.int .u16) (Ev.dget (.int .i64) m (add .i64 b.1 t127)))=true then j11 l least met t71 t72 t73 t125 t126 t127 true m b else j11 l least met t71 t72 t73 t125 t126 t127 (nei (Ev.gdV (.int .u16) (Ev.dget (.int .i64) m (add .i64 b.1 t127)) 0) y) m b else self5 l least met t71 t72 (add .i64 t73 1) m
def qoy_ (self5:zE8) (self10:zE10) (l:zE2) (least met:Int) (t71:zE2) (t72 t73:Int) (t125:List Int) (t126 t127:Int) (t147:Bool) (m:zE0) (b:Int×List Int):Option (As [.bool]) :=
 if t147=true then some (false,()) else self10 l least (add .i64 met 1) t71 t72 t73 t125 t126 (add .i64 t127 1) m b
def qpw_ (j1:List Int->List Bool->List Int->List Bool->Option (As [.bool])) (w:List Int) (is':List Bool):Option (As [.bool]) :=
 amb (eqAs qrz_.rs) [j1 w is' (List.replicate 64 0) (List.replicate 64 false),j1 w is' (List.replicate 64 0) (List.replicate 64 false)]
def qpx_ (u2:zE7):=qpv_ u2
def qou_ (u5:zE8) (u10:zE10):=qoy_ u5 u10
def qor_ (u5:zE8) (l:zE2) (least met:Int) (t71:zE2) (t72 t73:Int) (t125:List Int) (t126 t127:Int) (m:zE0) (b:Int×List Int):Option (As [.bool]) :=
 loopF (fun self s=>qos_ (qou_ u5 (fun l least met t71 t72 t73 t125 t126 t127 m b=>self (l,least,met,t71,t72,t73,t125,t126,t127,m,b))) u5 (fun l least met t71 t72 t73 t125 t126 t127 m b=>self (l,least,met,t71,t72,t73,t125,t126,t127,m,b)) s.1 s.2.1 s.2.2.1 s.2.2.2.1 s.2.2.2.2.1 s.2.2.2.2.2.1 s.2.2.2.2.2.2.1 s.2.2.2.2.2.2.2.1 s.2.2.2.2.2.2.2.2.1 s.2.2.2.2.2.2.2.2.2.1 s.2.2.2.2.2.2.2.2.2.2) 18446744073709551616 (l,least,met,t71,t72,t73,t125,t126,t127,m,b)
def qgv_ (u5:zE8):=qqd_ (qor_ u5) u5
def qqf_ (u5:zE8):=qq3_ (qgv_ u5) u5
def qpy_ (u5:zE8):=qqh_ (qqf_ u5) (qgv_ u5) u5
def qq9_:=qqe_
def qq6_ (l:zE2) (least met:Int) (t71:zE2) (t72 t73:Int) (m:zE0):Option (As [.bool]) :=
 loopF (fun self s=>qqm_ (qpy_ (fun l least met t71 t72 t73 m=>self (l,least,met,t71,t72,t73,m))) (qq9_) (fun l least met t71 t72 t73 m=>self (l,least,met,t71,t72,t73,m)) s.1 s.2.1 s.2.2.1 s.2.2.2.1 s.2.2.2.2.1 s.2.2.2.2.2.1 s.2.2.2.2.2.2) 18446744073709551616 (l,least,met,t71,t72,t73,m)
def qql_:=qqa_ (qq6_)
def qqc_ (have':List Bool) (l:zE2) (ok:Bool) (runs least t42 t43:Int) (m:zE0):Option (As [.bool]) :=
 loopF (fun self s=>qq5_ (qpx_ (fun have' l ok runs least t42 t43 m=>self (have',l,ok,runs,least,t42,t43,m))) (qql_) (fun have' l ok runs least t42 t43 m=>self (have',l,ok,runs,least,t42,t43,m)) s.1 s.2.1 s.2.2.1 s.2.2.2.1 s.2.2.2.2.1 s.2.2.2.2.2.1 s.2.2.2.2.2.2.1 s.2.2.2.2.2.2.2) 18446744073709551616 (have',l,ok,runs,least,t42,t43,m)
def qq1_:=qqg_ (qqc_)
def q16i_ (x:As [.sl (.int .u16),.sl .bool]):Option (As [.bool]):=qpw_ qq1_ x.1 x.2.1
end Go.Proofs.Lx
end
section
set_option maxRecDepth 100000
namespace Go.Proofs.Lx
open Go Go.Proofs Go.RowKit Ev Sx Pl
def dS0 (m:zE0):St:={ fr:=[(0,.d (.mp kT uT) m)],nt:=74,up:=[],own:=[],nx:=1,log:=[],ln:=1 }
def qx_ (m:zE0) (c:SV) (ok b:Bool) (xs:List Bk) (a:Int) (ws:List Int):List (Nat×Ent) :=
 [(1,.box 24 [.d (.mp kT uT) m]),(2,.box 26 [c]),(3,.box 4 [.d .bool ok]),(4,.box 24 [.d (.mp kT uT) m]),(5,.box 26 [.row 6]),(6,.rowo bT 31 b xs [.d kT a,.row 7]),(7,.row uT 32 ws)]
def d_bkSt (fr:Fr) (ln:Nat) (m:zE0) (c:SV) (ok b:Bool) (xs:List Bk) (a:Int) (ws:List Int):St :=
 {fr:=fr,nt:=74,up:=[],own:=qx_ m c ok b xs a ws,nx:=8,log:=[],ln:=ln }
def d_bkS1 (m:zE0):St :=
 {fr:=[(1,.pb 1 0),(2,.pb 2 0),(3,.pb 3 0)],nt:=74,up:=[],own:=[(1,.box 24 [.d (.mp kT uT) m]),(2,.box 26 [nilV]),(3,.box 4 [.d .bool false])],nx:=4,log:=[],ln:=1 }
def d_bkS3 (m:zE0):St :=
 {fr:=[(1,.pb 1 0),(2,.pb 2 0),(3,.pb 3 0),(4,.pb 4 0)],nt:=74,up:=[],own:=[(1,.box 24 [.d (.mp kT uT) m]),(2,.box 26 [nilV]),(3,.box 4 [.d .bool false]),(4,.box 26 [nilV])],nx:=5,log:=[],ln:=1 }
theorem d_p1_eq (m:zE0):evN bkEnv bkNo hA bk1 (dS0 m)=some (.n,d_bkS1 m):=by kernel_rfl
theorem d_p2_eq (m:zE0):evN bkEnv bkNo hA bk2 (d_bkS1 m)=if gt (Int.ofNat m.length) 64=true then some (.r,d_bkS1 m) else some (.n,d_bkS1 m):=by kernel_rfl
theorem d_p3_eq (m:zE0):evN bkEnv bkNo hB bk3 (d_bkS1 m)=some (.n,d_bkS3 m):=by kernel_rfl
theorem d_p4_eq (m:zE0):evN bkEnv bkNo hR bk4 (d_bkS3 m)=some (.n,d_bkSt bkFr 1 m nilV false false [] 0 []):=by kernel_rfl
def d_bkRet (m:zE0) (b:Bool) (xs:List Bk) (a:Int) (ws:List Int):Option (Ex×St):=some (.r,d_bkSt bkFr 6 m nilV false b xs a ws)
def d_bkPush (m:zE0) (b:Bool) (xs:List Bk) (a:Int) (ws:List Int) (z:Int):Option (Ex×St) :=
 if eqi (bkL b xs) 8=true then d_bkRet m b xs a ws else
  need (small ((bkX b xs a ws).length + 1)) (need (eqi (add .i64 (sub .i64 (bkL b xs) 1) 1) (Int.ofNat (bkX b xs a ws).length)) (need (eqi (add .i64 (sub .i64 (bkL b xs) 1) 1) (Int.ofNat (bkX b xs a ws).length))
   (need (small (0 + Nat.succ 0)) (need (eqi (add .i64 (sub .i64 (bkL b xs) 1) 1) (Int.ofNat (bkX b xs a ws).length)) (need (eqi (add .i64 (sub .i64 (bkL b xs) 1) 1) (Int.ofNat (bkX b xs a ws).length))
    (some (.n,d_bkSt bkFr 6 m nilV false true (bkX b xs a ws) z [bkV m z])))))))
def d_n1 (b:Bool) (xs:List Bk) (k:Option (Ex×St)):Option (Ex×St):=need b (need (eqi (sub .i64 (bkL b xs) 1) (Int.ofNat xs.length)) k)
def d_bkM (m:zE0) (b:Bool) (xs:List Bk) (a:Int) (ws:List Int) (z:Int):Option (Ex×St) :=
 if lt z 0=true then d_bkRet m b xs a ws else
 if ge z 64=true then d_bkRet m b xs a ws else
 if lt (sub .i64 (bkL b xs) 1) 0=true then d_bkPush m b xs a ws z else
 d_n1 b xs (d_n1 b xs (d_n1 b xs (d_n1 b xs (
 if nei z (add .i64 a (Int.ofNat ws.length))=true then d_bkPush m b xs a ws z else
 d_n1 b xs (d_n1 b xs (
 if eqi (Int.ofNat ws.length) 14=true then d_bkPush m b xs a ws z else
 d_n1 b xs (d_n1 b xs (need (small (ws.length + Nat.succ 0)) (d_n1 b xs (d_n1 b xs (some (.n,d_bkSt bkFr 6 m nilV false true xs a (ws++[bkV m z])))))))))))))
theorem d_pB_eq (m:zE0) (b:Bool) (xs:List Bk) (a:Int) (ws:List Int) (z:Int) :
  evN bkEnv bkNo hR bkB (d_bkSt ((5,.d kT z)::bkFr) 6 m nilV false b xs a ws)=d_bkM m b xs a ws z:=by kernel_rfl
theorem d_push_eq {m:List (Int×Int)} {b:Bool} {xs:List Bk} {a:Int} {ws:List Int} {z:Int} (hL:bkL b xs=((bkX b xs a ws).length:Int)) (h8:(bkX b xs a ws).length≤8) :
  d_bkPush m b xs a ws z=if (bkX b xs a ws).length=8 then d_bkRet m b xs a ws else some (.n,d_bkSt bkFr 6 m nilV false true (bkX b xs a ws) z [bkV m z]):=by
 have e1:eqi (add .i64 (sub .i64 (bkL b xs) 1) 1) (Int.ofNat (bkX b xs a ws).length)=true:=by
  rw [hL,sub64 (by omega) (by omega),add64 (by omega) (by omega),qb_]
  show _=((bkX b xs a ws).length:Int)
  omega
 unfold d_bkPush
 by_cases h:(bkX b xs a ws).length=8
 ·rw [if_pos (by rw [qb_,hL]; omega),if_pos h]
 ·rw [if_neg (by rw [qb_,hL]; omega),if_neg h,qp_ (small_iff.2 (by omega)),qp_ e1,qp_ e1,qp_ (by decide),qp_ e1,qp_ e1]
theorem d_n1_eq {xs:List Bk} {k:Option (Ex×St)} (h:xs.length≤8):d_n1 true xs k=k:=by
 unfold d_n1
 rw [qp_ rfl,qp_]
 rw [qb_]
 show sub .i64 ((xs.length + 1:Nat):Int) 1=(xs.length:Int)
 rw [sub64 (by omega) (by omega)]
 omega
theorem d_bk_spec {m:List (Int×Int)} {b:Bool} {xs:List Bk} {a:Int} {ws:List Int} (h:BkI b xs a ws) (z:Int) :
  (bkStep m (bkX b xs a ws) z=none∧d_bkM m b xs a ws z=d_bkRet m b xs a ws) ∨
  ∃ xs' a' ws',bkStep m (bkX b xs a ws) z=some (bkX true xs' a' ws')∧d_bkM m b xs a ws z=some (.n,d_bkSt bkFr 6 m nilV false true xs' a' ws')∧BkI true xs' a' ws':=by
 have h8:=h.len
 by_cases h1:z < 0
 ·exact .inl ⟨by unfold bkStep; rw [if_pos (.inl h1)],by unfold d_bkM; rw [if_pos (q1_.2 h1)]⟩
 by_cases h2:64≤z
 ·exact .inl ⟨by unfold bkStep; rw [if_pos (.inr h2)],by unfold d_bkM; rw [if_neg (by rw [q1_]; exact h1),if_pos (ge_iff.2 h2)]⟩
 have hm:∀ k,d_bkM m b xs a ws z=k->d_bkM m b xs a ws z=k:=fun _ h=>h
 cases b with
 | false =>
  obtain rfl:=h.emp rfl
  refine .inr ⟨[],z,[bkV m z],?_,?_,⟨(fun h=>by cases h),by show (1:Nat)≤8; decide,fun _=>⟨by omega,by omega,by simp,by simp⟩⟩⟩
  ·unfold bkStep
   rw [if_neg (by omega)]
   rfl
  ·unfold d_bkM
   rw [if_neg (by rw [q1_]; exact h1),if_neg (by rw [ge_iff]; omega),if_pos (by decide),d_push_eq rfl h8,if_neg (by show ¬ (0:Nat)=8; decide)]
   rfl
 | true =>
  obtain ⟨r1,r2,r3,r4⟩:=h.rng rfl
  have hl:(bkX true xs a ws).length=xs.length + 1:=by simp [bkX]
  have hX:(bkX true xs a ws).getLast? = some (a,ws):=by simp [bkX]
  have hD:(bkX true xs a ws).dropLast=xs:=by simp [bkX]
  have hx8:xs.length≤7:=by omega
  have hpush:=d_push_eq (m:=m) (z:=z) (b:=true) (xs:=xs) (a:=a) (ws:=ws) (by rw [hl]; rfl) h8
  have hst:bkStep m (bkX true xs a ws) z=if z ≠ a + (ws.length:Int)∨ws.length=14 then (if (bkX true xs a ws).length=8 then none else some (bkX true xs a ws++[(z,[bkV m z])])) else some (xs++[(a,ws++[bkV m z])]):=by
   unfold bkStep
   rw [if_neg (by omega),hX,hD]
  have hM:d_bkM m true xs a ws z=if z ≠ a + (ws.length:Int)∨ws.length=14 then d_bkPush m true xs a ws z else some (.n,d_bkSt bkFr 6 m nilV false true xs a (ws++[bkV m z])):=by
   unfold d_bkM
   rw [if_neg (by rw [q1_]; exact h1),if_neg (by rw [ge_iff]; omega),if_neg (by
    rw [q1_]
    show ¬ sub .i64 ((xs.length + 1:Nat):Int) 1 < 0
    rw [sub64 (by omega) (by omega)]
    omega)]
   rw [d_n1_eq (by omega),d_n1_eq (by omega),d_n1_eq (by omega),d_n1_eq (by omega)]
   have ea:add .i64 a (Int.ofNat ws.length)=a + (ws.length:Int):=add64 (by show _≤a + (ws.length:Int); omega) (by show a + (ws.length:Int)≤_; omega)
   rw [ea]
   by_cases c1:z ≠ a + (ws.length:Int)
   ·rw [if_pos (qh_.2 c1),if_pos (.inl c1)]
   ·rw [if_neg (by rw [qh_]; exact c1),d_n1_eq (by omega),d_n1_eq (by omega)]
    by_cases c2:ws.length=14
    ·rw [if_pos (by rw [qb_,c2]; rfl),if_pos (.inr c2)]
    ·rw [if_neg (by rw [qb_]; show ¬ (ws.length:Int)=14; omega),if_neg (by omega),d_n1_eq (by omega),d_n1_eq (by omega),qp_ (small_iff.2 (by show ws.length + 1≤_; omega)),d_n1_eq (by omega),d_n1_eq (by omega)]
  rw [hst,hM]
  by_cases c:z ≠ a + (ws.length:Int)∨ws.length=14
  ·rw [if_pos c,if_pos c,hpush]
   by_cases c8:(bkX true xs a ws).length=8
   ·rw [if_pos c8,if_pos c8]
    exact .inl ⟨rfl,rfl⟩
   ·rw [if_neg c8,if_neg c8]
    exact .inr ⟨bkX true xs a ws,z,[bkV m z],rfl,rfl,⟨(fun h=>by cases h),by simp [bkX] at hl c8 ⊢; omega,fun _=>⟨by omega,by omega,by simp,by simp⟩⟩⟩
  ·rw [if_neg c,if_neg c]
   exact .inr ⟨xs,a,ws++[bkV m z],rfl,rfl,⟨(fun h=>by cases h),by simp [bkX]; omega,fun _=>⟨r1,r2,by simp,by simp; omega⟩⟩⟩
end Go.Proofs.Lx
end
section
set_option maxRecDepth 100000
namespace Go.Proofs.Lx
open Go Go.Proofs Go.RowKit Ev Sx Pl
theorem d_round {B0:Nat->Prop} {p0:List Ev.Place} {F:Lx} {pl:List Ev.Place} {m:List (Int×Int)} {b:Bool} {xs:List Bk} {a:Int} {ws:List Int} {W:World} {l:List Value} {fn:FuncId} {D lb:Nat} {x:Int}
  (hst:Sto B0 p0 F pl (qx_ m nilV false b xs a ws) W) (hpl:pl.length=8) (hs:Slots p0 l) (hI:BkI b xs a ws) (hr:W.heap[lb]? = some (.loop (bkRec fn l D .ready none))) (hlb:some lb ∈ F) (hlB:B0 lb) (hB:∀ k,W.heap.size≤k->B0 k) :
  YieldAt Fence.wide 0 Try.prog lb #[.int .i64 x] W fun e W'=>∃ pl' b' xs' a' ws',Sto B0 p0 F pl' (qx_ m nilV false b' xs' a' ws') W'∧pl'.length=8∧BkI b' xs' a' ws'∧Blw B0 W W'∧(∀ k,some k ∈ F->k ≠ lb->W'.heap[k]? = W.heap[k]?) ∧
   ((e = .returned (.bool true)∧bkStep m (bkX b xs a ws) x=some (bkX b' xs' a' ws')∧W'.heap[lb]? = some (.loop (bkRec fn l D .ready none))) ∨
    (e = .returned (.bool false)∧bkStep m (bkX b xs a ws) x=none∧W'.heap[lb]? = some (.loop (bkRec fn l D .done (some .ret))))):=by
 have hlt:lb < W.heap.size:=(Array.getElem?_eq_some_iff.1 hr).1
 have hy:=run_yield (P:=Try.prog) (args:=#[.int .i64 x]) hr rfl
 refine ⟨fn,_,bkA,bkB,hy,roundIn_of_wpIn trivial ?_⟩
 have he:((bkRec fn l D .ready none).params.zip #[Value.int .i64 x]).foldl (fun tmps (t,a)=>tmps.setIfInBounds t a) (bkRec fn l D .ready none).tmps=(l.set 12 (.int .i64 x)).toArray:=by
  simp [bkRec]
 rw [he]
 obtain ⟨l1,hl1⟩:∃ l1,l1=(l.set 12 (.int .i64 x)).set 5 (.int .i64 x):=⟨_,rfl⟩
 have hl1n:l1.length=74:=by rw [hl1,List.length_set,List.length_set,hs.len]
 have hl15:l1.getD 5 undef = .int .i64 x:=by
  rw [hl1,List.getD_eq_getElem?_getD,List.getElem?_set_self (by rw [List.length_set,hs.len]; decide)]
  rfl
 have hl1o:∀ t ∈ [1,2,3,11,4],l1.getD t undef=l.getD t undef:=fun t ht=>by
  have h5:5 ≠ t:=fun e=>by subst e; simp at ht
  have h12:12 ≠ t:=fun e=>by subst e; simp at ht
  rw [hl1,List.getD_eq_getElem?_getD,List.getElem?_set_ne h5,List.getElem?_set_ne h12,<- List.getD_eq_getElem?_getD]
 have hasg:CW Try.prog bkA (Exit.then (fun a₁ w₁=>a₁=mk l1∧w₁=W) (fun _ _ _=>False)) (l.set 12 (.int .i64 x)) W:=by
  obtain ⟨id,ty,pos,af,g,h1,rfl⟩:=bkA_eq
  rw [h1]
  refine cw_region (ops:=[_]) (wl_val (v:=.int .i64 x) rfl (run_assign ?_) (wl_nil ⟨?_,rfl⟩))
  ·show (l.set 12 (.int .i64 x)).getD 12 undef=_
   rw [List.getD_eq_getElem?_getD,List.getElem?_set_self (by rw [hs.len]; decide)]
   rfl
  ·rw [hl1]
   rfl
 refine Code.wpIn_mono ?_ (hasg (some lb))
 rintro e a₁ w₁ hq
 cases e with
 | normal =>
  obtain ⟨rfl,rfl⟩:=hq
  refine ⟨_,run_beginRound hr rfl,?_⟩
  obtain ⟨W2,hW2⟩:∃ W2,w₁.putObj lb (.loop { bkRec fn l D .ready none with state:=.busy })=W2:=⟨_,rfl⟩
  rw [hW2]
  have hf2:Fz [some lb] w₁ W2:=by rw [<- hW2]; exact fz_putObj _ _ _
  have hr2:W2.heap[lb]? = some (.loop { bkRec fn l D .ready none with state:=.busy }):=by rw [<- hW2]; exact World.putObj_heap_same hlt
  have hst2:Sto B0 p0 F pl (qx_ m nilV false b xs a ws) W2:=hst.turn (hf2.sub fun k hk=>by simp at hk; subst hk; exact hlb)
  have hbo:∀ k,Bo pl (qx_ m nilV false b xs a ws) W2 k->B0 k:=fun k hk=>by
   rcases hk with hk | hk
   ·exact hst2.lo k hk
   ·exact hB k (Nat.le_trans hf2.size hk)
  have hfr:FrD pl (lx pl (qx_ m nilV false b xs a ws)++F) W2 ((5,.d kT x)::bkFr) l1:=ql_ (by rw [hl15]; exact ⟨[.int .i64 x],rfl,rfl⟩) (hs.fr hst.pre hl1o)
  have hspec:=d_bk_spec (m:=m) hI x
  have fin:∀ (e0:Ex) (b':Bool) (xs':List Bk) (a':Int) (ws':List Int) (pl':List Ev.Place) (W3:World) (jump:Option Code),pl'.length=8->Sto B0 p0 F pl' (qx_ m nilV false b' xs' a' ws') W3->Blw (Bo pl (qx_ m nilV false b xs a ws) W2) W2 W3 ->
    ∃ W4,(Instr.endRound lb jump).run Try.prog W3 = .ok (.bool jump.isNone) W4∧Sto B0 p0 F pl' (qx_ m nilV false b' xs' a' ws') W4∧Blw B0 w₁ W4∧(∀ k,some k ∈ F->k ≠ lb->W4.heap[k]? = w₁.heap[k]?)∧W4.heap[lb]? = some (.loop { bkRec fn l D .ready none with state:=if jump.isNone then .ready else .done,pending:=jump }):=by
   intro e0 b' xs' a' ws' pl' W3 jump hp' hst3 hb3
   have keep:∀ k,some k ∈ F->W3.heap[k]? = W2.heap[k]?:=fun k hk=>hb3.block k (hst2.far k hk).2 (fun hx=>by
    rcases hx with hx | hx
    ·exact (hst2.far k hk).1 hx
    ·have:=(hst2.far k hk).2; omega)
   have hr3:=(keep lb hlb).trans hr2
   have hlt3:=(Array.getElem?_eq_some_iff.1 hr3).1
   have hf4:=fz_putObj W3 lb (.loop { bkRec fn l D .ready none with state:=if jump.isNone then .ready else .done,pending:=jump })
   refine ⟨_,run_endRound jump hr3,hst3.turn (hf4.sub fun k hk=>by simp at hk; subst hk; exact hlb),?_,fun k hk hne=>?_,World.putObj_heap_same hlt3⟩
   ·exact ((blw_fz hf2 (fun k hk=>by simp at hk; subst hk; exact hlB)).trans (qo_ hb3 hbo)).trans (blw_fz hf4 (fun k hk=>by simp at hk; subst hk; exact hlB))
   ·have hklt:=(hst2.far k hk).2
    rw [hf4.block k (Nat.lt_of_lt_of_le hklt hb3.size) (by simp [hne]),keep k hk]
    exact hf2.block k (hst.far k hk).2 (by simp [hne])
  rcases hspec with ⟨h1,h2⟩ | ⟨xs',a',ws',h1,h2,h3⟩
  ·have hp:=q1x_ (S:=d_bkSt ((5,.d kT x)::bkFr) 6 m nilV false b xs a ws) (hint:=hR) (hs:=bkNo) (l:=l1) bkEnv_ok hbo hst2 rfl (show 8=pl.length by rw [hpl]) (show 6=p0.length by rw [hs.p]) hl1n hfr ((d_pB_eq m b xs a ws x).trans h2)
   refine Code.wpIn_mono ?_ (hp (some lb))
   rintro e a3 W3 ⟨pl',l',rfl,rfl,_,hp',hst3,_,hb3⟩
   obtain ⟨W4,q1,q2,q3,q4,q5⟩:=fin .r b xs a ws pl' W3 (some .ret) hp' hst3 hb3
   exact ⟨_,W4,q1,pl',b,xs,a,ws,q2,hp',hI,q3,q4,.inr ⟨rfl,h1,q5⟩⟩
  ·have hp:=q1x_ (S:=d_bkSt ((5,.d kT x)::bkFr) 6 m nilV false b xs a ws) (hint:=hR) (hs:=bkNo) (l:=l1) bkEnv_ok hbo hst2 rfl (show 8=pl.length by rw [hpl]) (show 6=p0.length by rw [hs.p]) hl1n hfr ((d_pB_eq m b xs a ws x).trans h2)
   refine Code.wpIn_mono ?_ (hp (some lb))
   rintro e a3 W3 ⟨pl',l',rfl,rfl,_,hp',hst3,_,hb3⟩
   obtain ⟨W4,q1,q2,q3,q4,q5⟩:=fin .n true xs' a' ws' pl' W3 none hp' hst3 hb3
   exact ⟨_,W4,q1,pl',true,xs',a',ws',q2,hp',h3,q3,q4,.inl ⟨rfl,h1,q5⟩⟩
 | exit id=>exact hq
 | goto t=>exact hq
 | ret=>exact hq
 | panic c=>exact hq
 | outgrown=>exact hq
theorem d_tail_wp {B0:Nat->Prop} {p0:List Ev.Place} {F:Lx} {pl:List Ev.Place} {m:List (Int×Int)} {b:Bool} {xs:List Bk} {a:Int} {ws:List Int} {W:World} {l:List Value} {ds:List Deferred} {Q:Exit->Act->World->Prop}
  (hst:Sto B0 p0 F pl (qx_ m nilV false b xs a ws) W) (hpl:pl.length=8) (hs:Slots p0 l) (hB:∀ k,W.heap.size≤k->B0 k)
  (hQ:∀ W' l',Sto B0 p0 F pl (qx_ m (.row 6) true b xs a ws) W'->Slots p0 l'->Blw B0 W W'->(∀ k,some k ∈ F->W'.heap[k]? = W.heap[k]?)->Q .ret ⟨l'.toArray,ds⟩ W') :
  bkT.wpIn Fence.wide 2 Try.prog Q ⟨l.toArray,ds⟩ W:=by
 obtain ⟨id,o1,o2,o3,h0,h1,h2,h3⟩:=bkT_eq
 rw [h0]
 obtain ⟨g5,n5,c5,us5,q1,q2,⟨v5,r5,rfl,⟨p6,q4,rfl⟩,rfl⟩,q6⟩:=hst.ent (5,.box 26 [.row 6]) (by simp [qx_])
 obtain ⟨g2,n2,c2,us2,t1,t2,⟨v2,r2,rfl,t3,rfl⟩,t4⟩:=hst.ent (2,.box 26 [nilV]) (by simp [qx_])
 obtain ⟨g3,n3,c3,us3,u1,u2,⟨v3,r3,rfl,u3,rfl⟩,u4⟩:=hst.ent (3,.box 4 [.d .bool false]) (by simp [qx_])
 have pinj:∀ {i:Nat} {g n c g' n' c'},p0[i]? = some ⟨some ⟨g,0,none⟩,n,c⟩->pl[i]? = some ⟨some ⟨g',0,none⟩,n',c'⟩->g=g':=fun h h'=>by
  have:=hst.pre _ _ h
  rw [this] at h'
  cases h'
  rfl
 obtain ⟨g,n,c,e1,e2⟩:=hs.s4
 obtain rfl:=pinj e1 q1
 obtain ⟨g',n',c',e3,e4⟩:=hs.s2
 obtain rfl:=pinj e3 t1
 obtain ⟨g'',n'',c'',e5,e6⟩:=hs.s3
 obtain rfl:=pinj e5 u1
 refine wpIn_seq (wpIn_region_lit (l:=[o1,o2,o3]) ?_)
 rw [h1,h2,h3]
 have hv:(l.set 73 (.slice p6.a p6.n p6.c)).getD 73 undef = .slice p6.a p6.n p6.c:=by
  rw [List.getD_eq_getElem?_getD,List.getElem?_set_self (by rw [hs.len]; decide)]
  rfl
 have hoth:∀ t,t ≠ 73->(l.set 73 (.slice p6.a p6.n p6.c)).getD t undef=l.getD t undef:=fun t ht=>by
  rw [List.getD_eq_getElem?_getD,List.getElem?_set_ne (fun e=>ht e.symm),<- List.getD_eq_getElem?_getD]
 have hs':Slots p0 (l.set 73 (.slice p6.a p6.n p6.c)):=⟨by rw [List.length_set]; exact hs.len,hs.p,by rw [hoth 1 (by decide)]; exact hs.s1,by rw [hoth 2 (by decide)]; exact hs.s2,by rw [hoth 3 (by decide)]; exact hs.s3,by rw [hoth 11 (by decide)]; exact hs.s11,by rw [hoth 4 (by decide)]; exact hs.s4⟩
 refine wld_val (dd:=73) rfl rfl (run_load_box1 (cs:=[.slice p6.a p6.n p6.c]) (T:=26) (dd:=.slice 31) (by kernel_rfl) rfl e2 q2 rfl) ?_
 obtain ⟨W1,w1,w2,w3,w4⟩:=run_store_box (P:=Try.prog) (l:=l.set 73 (.slice p6.a p6.n p6.c)) (w:=W) (d:=none) (ty:=o2.type) (pos:=o2.pos) (af:=o2.after) (gd:=none) (t:=26) (x:=.tmp 2) (y:=.tmp 73) (g:=g') (j:=0) (n:=1) (vs:=[.slice p6.a p6.n p6.c]) (by kernel_rfl) ((hoth 2 (by decide)).trans e4) hv rfl rfl (by simp [Value.oneCell']) t2 (by simp)
 refine wld_skip rfl rfl w1 ?_
 have hst1:Sto B0 p0 F pl (qx_ m (.row 6) false b xs a ws) W1:=hst.put hB (by rw [hpl,hs.p]; decide) (i:=2) (e:=.box 26 [nilV]) (e':=.box 26 [.row 6]) rfl (by unfold plb; rw [t1]; exact w3) ⟨g',n2,c2,[.slice p6.a p6.n p6.c],t1,by simpa using w4,⟨_,[],rfl,⟨p6,q4,rfl⟩,rfl⟩,by simp [Value.oneCell']⟩
 have hg3:g'' ≠ g':=fun e=>by
  subst e
  have:=hst.pair
  simp [qx_,lx,plb,t1,u1,blk] at this
 have u2':Bx W1 g'' [v3] 4:=u2.step w3 (by simp [hg3])
 obtain ⟨W2,x1,x2,x3,x4⟩:=run_store_box (P:=Try.prog) (l:=l.set 73 (.slice p6.a p6.n p6.c)) (w:=W1) (d:=none) (ty:=o3.type) (pos:=o3.pos) (af:=o3.after) (gd:=none) (t:=4) (x:=.tmp 3) (y:=.const (.bool true)) (g:=g'') (j:=0) (n:=1) (vs:=[.bool true]) (by kernel_rfl) ((hoth 3 (by decide)).trans e6) rfl rfl rfl (by simp [Value.oneCell']) u2' (by simp)
 refine wld_skip rfl rfl x1 ?_
 have hst2:Sto B0 p0 F pl (qx_ m (.row 6) true b xs a ws) W2:=hst1.put (fun k hk=>hB k (by rw [w2] at hk; exact hk)) (by rw [hpl,hs.p]; decide) (i:=3) (e:=.box 4 [.d .bool false]) (e':=.box 4 [.d .bool true]) rfl (by unfold plb; rw [u1]; exact x3) ⟨g'',n3,c3,[.bool true],u1,by simpa using x4,⟨_,[],rfl,⟨[.bool true],rfl,rfl⟩,rfl⟩,by simp [Value.oneCell']⟩
 have m2:some g' ∈ lx pl (qx_ m nilV false b xs a ws):=by
  have:=own_mem (pl:=pl) (own:=qx_ m nilV false b xs a ws) (e:=(2,.box 26 [nilV])) (by simp [qx_])
  unfold plb at this
  rw [t1] at this
  exact this
 have m3:some g'' ∈ lx pl (qx_ m nilV false b xs a ws):=by
  have:=own_mem (pl:=pl) (own:=qx_ m nilV false b xs a ws) (e:=(3,.box 4 [.d .bool false])) (by simp [qx_])
  unfold plb at this
  rw [u1] at this
  exact this
 refine wpListIn_nil (wpIn_ret (hQ W2 _ hst2 hs' ?_ fun k hk=>?_))
 ·exact (blw_fz w3 (fun k hk=>by simp at hk; subst hk; exact hst.lo _ m2)).trans (blw_fz x3 (fun k hk=>by simp at hk; subst hk; exact hst.lo _ m3))
 ·have hk2:=hst.far k hk
  rw [x3.block k (by rw [w2]; exact hk2.2) (fun e=>by simp at e; subst e; exact hk2.1 m3),w3.block k hk2.2 (fun e=>by simp at e; subst e; exact hk2.1 m2)]
end Go.Proofs.Lx
end
