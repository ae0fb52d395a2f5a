/- Proved in the last of these 20 parts (this is part 4): SlaveTells. Conditions: those of the given statement, and no others. -/
import Derived.Test.YtkcmbampiiolbaaGreatPartc
import Derived.Maps.RangeRun
import Derived.ArgAppend
set_option linter.unusedVariables false
set_option linter.unusedSimpArgs false
set_option linter.unusedSectionVars false
open Option renaming bind_some → zD
open Go.Result renaming andThen_ok → zL
open Bool renaming and_eq_true → zO
open List renaming mem_cons_of_mem → zS, getElem?_eq_getElem → zU, getD_eq_getElem?_getD → zW, length_take → kA
noncomputable section
namespace Ev
open Go Go.RowKit Sx Go.MapKept
def vE(kt:Ty){V:Type}:List (Vl kt×V)->Vl kt->Option V
 | [],_=>none
 | (a,b)::r,k=>if keq kt a k=true then some b else vE kt r k
def F7(kt:Ty){V:Type}:List (Vl kt×V)->Vl kt->V->List (Vl kt×V)
 | [],k,v=>[(k,v)]
 | (a,b)::r,k,v=>if keq kt a k=true then (a,v)::r else (a,b)::F7 kt r k v
def sO:Ty->Bool
 | .int _=>true
 | .str=>true
 | .bool=>true
 | _=>false
def qo:Ty->Bool
 | .pr a b=>sO a && qo b
 | .int _=>true
 | .str=>true
 | .bool=>true
 | _=>false
def xu:Ty->Bool
 | .int _=>true
 | .str=>true
 | .pr a b=>sO a && qo b
 | _=>false
theorem BU:∀{t:Ty},sO t=true->qo t=true
 | .int _,_=>rfl
 | .str,_=>rfl
 | .bool,_=>rfl
theorem akQ:∀{t:Ty},xu t=true->qo t=true
 | .int _,_=>rfl
 | .str,_=>rfl
 | .pr _ _,h=>h
theorem N6:∀{t:Ty},qo t=true->∀x:Vl t,keq t x x=true
 | .int _,_,x=>by simp[keq,eqi]
 | .str,_,x=>by simp[keq,eqs]
 | .bool,_,x=>by simp[keq,eqb]
 | .pr a b,h,x=>by simp_all[sO,qo,zO,keq,N6,BU,Bool.and_self]
theorem qI{t:Ty}(ht:xu t=true)(x y:Vl t):keq t x y=true↔x=y :=
 ⟨EN,fun h=>by simp_all[N6,akQ]⟩
theorem mg:∀{t:Ty},sO t=true->∀x:Vl t,∃v,iV t x=[v]
 | .int _,_,_=>⟨_,rfl⟩
 | .str,_,_=>⟨_,rfl⟩
 | .bool,_,_=>⟨_,rfl⟩
theorem C9:∀{t:Ty},qo t=true->∀x y:Vl t,iV t x=iV t y->x=y
 | .int _,_,x,y,h=>by simpa [iV]using h
 | .str,_,x,y,h=>by simpa [iV,vk]using h
 | .bool,_,x,y,h=>by simpa [iV]using h
 | .pr a b,hb,x,y,h=>by have hb:(sO a && qo b)=true:=hb;rw[zO]at hb;obtain⟨u,hu⟩:=mg hb.1 x.1;obtain⟨v,hv⟩:=mg hb.1 y.1;have h:iV a x.1++iV b x.2=iV a y.1++iV b y.2:=h;rw[hu,hv]at h;simp only[List.cons_append,List.nil_append,List.cons.injEq]at h;exact Prod.ext (C9 (BU hb.1) _ _ (by rw[hu,hv,h.1])) (C9 hb.2 _ _ h.2)
theorem xA:∀{t:Ty},qo t=true->∀x:Vl t,∀v∈iV t x,∃d,IsKey d v
 | .int k,_,x,v,h=>⟨.int k,by simp[iV]at h;subst h;rfl⟩
 | .str,_,x,v,h=>⟨.string,by simp[iV,vk]at h;subst h;trivial⟩
 | .bool,_,x,v,h=>⟨.bool,by simp[iV]at h;subst h;trivial⟩
 | .pr a b,hb,x,v,h=>by
  have hb:(sO a && qo b)=true:=hb;rw[zO]at hb;rcases List.mem_append.1 (show v∈iV a x.1++iV b x.2 from h) with h | h
  ·exact xA (BU hb.1) _ _ h
  ·exact xA hb.2 _ _ h
def BV(P:Program)(t:TypeId)(y:Ty):Bool:=match P.underlying t with
 | some (.int k)=>match y with
  | .int k'=>decide (k'=k)
  | _=>false
 | some .string=>match y with
  | .str=>true
  | _=>false
 | some .bool=>match y with
  | .bool=>true
  | _=>false
 | _=>false
theorem xB{P:Program}{t:TypeId}{y:Ty}(h:BV P t y=true):∃dd,P.underlying t=some dd∧tL dd=false∧sO y=true ∧
  (∀(x:Vl y) (v:Value),iV y x=[v]->∀e n w,(Instr.checkKey e (n+1) t v).run P w = .ok () w) ∧
  ∀(x x':Vl y) (v v':Value),iV y x=[v]->iV y x'=[v']->∀d,∃r,(∀w,(Op.equalIn (d+1) t v v').run P w = .ok r w)∧(r=true↔x=x'):=by
 unfold BV at h;split at h
 ·rename_i k hk
  split at h
  ·rename_i k'
   have:k'=k:=of_decide_eq_true h;subst this;refine⟨_,hk,rfl,rfl,fun x v hv e n w=>?_,fun x x' v v' hv hv' d=>?_⟩
   ·have hv:[Value.int k' x]=[v]:=hv
    cases hv
    exact run_checkKey (k:=.int k' x) hk rfl e n
   ·have hv:[Value.int k' x]=[v]:=hv
    have hv':[Value.int k' x']=[v']:=hv';cases hv;cases hv';simp_all[eq_int,eqi]
  grind
 ·rename_i hk
  split at h
  ·refine⟨_,hk,rfl,rfl,fun x v hv e n w=>?_,fun x x' v v' hv hv' d=>?_⟩
   ·have hv:[vk x]=[v]:=hv
    cases hv
    exact run_checkKey (k:=vk x) hk trivial e n
   ·have hv:[vk x]=[v]:=hv
    have hv':[vk x']=[v']:=hv';cases hv;cases hv';exact⟨_,aks hk,by simp[eqs]⟩
  grind
 ·rename_i hk
  split at h
  ·refine⟨_,hk,rfl,rfl,fun x v hv e n w=>?_,fun x x' v v' hv hv' d=>?_⟩
   ·have hv:[Value.bool x]=[v]:=hv
    cases hv
    exact run_checkKey (k:=Value.bool x) hk trivial e n
   ·have hv:[Value.bool x]=[v]:=hv
    have hv':[Value.bool x']=[v']:=hv';cases hv;cases hv';simp_all[Uc,eqb]
  grind
 grind
def pZ(P:Program):Nat->List Field->Ty->Bool
 | _,[],_=>false
 | off, f :: q, y => decide (f.name ≠ "_") && (decide (f.offset = off) && match y, q with
  | .pr a b,q=>BV P f.type a && pZ P (off+1) q b
  | y,[]=>BV P f.type y
  | _,_=>false)
theorem drop_one{us:List Value}{off:Nat}{v:Value}{r:List Value}(h:us.drop off=v::r):us[off]? = some v∧us.drop (off+1)=r:=by
 constructor
 ·have:=congrArg (·[0]?) h
  grind
 ·rw[<- List.drop_drop,h]
  rfl
theorem zl {P : Program} {off : Nat} {f : Field} {q : List Field} {y : Ty} (h : pZ P off (f :: q) y = true) : f.name ≠ "_" ∧ f.offset = off ∧
  ((∃a b,y = .pr a b∧BV P f.type a=true∧pZ P (off+1) q b=true)∨(q=[]∧BV P f.type y=true)):=by
 unfold pZ at h;grind
theorem EX{P:Program}{d:Nat}{xs ys:Array Value}:∀(fs:List Field) (off:Nat) (y:Ty) (x x':Vl y),pZ P off fs y=true->xs.toList.drop off=iV y x->ys.toList.drop off=iV y x' ->
  ∃ r, AllEq P (d + 1) xs ys (fs.map fun f => (f.name == "_", f.type, f.offset)) r ∧ (r = true ↔ x = x')
 | [],_,_,_,_,h,_,_=>by cases h
 | f::q,off,y,x,x',h,hx,hy=>by
  obtain ⟨h1,h2,h3⟩:=zl h;have h1 : (f.name == "_") = false := by simp_all
  rw[List.map_cons,h1,h2];rcases h3 with ⟨a,b,rfl,h4,h5⟩ | ⟨rfl,h4⟩
  ·obtain⟨dd,e1,e2,e3,_,e5⟩:=xB h4
   obtain⟨u,hu⟩:=mg e3 x.1;obtain⟨v,hv⟩:=mg e3 x'.1;have hx:xs.toList.drop off=iV a x.1++iV b x.2:=hx;have hy:ys.toList.drop off=iV a x'.1++iV b x'.2:=hy;rw[hu]at hx;rw[hv]at hy;obtain⟨g1,g2⟩:=drop_one hx;obtain⟨g3,g4⟩:=drop_one hy;obtain⟨r,i1,i2⟩:=EX (d:=d) q (off+1) b x.2 x'.2 h5 g2 g4;obtain⟨r0,j1,j2⟩:=e5 x.1 x'.1 u v hu hv d;refine⟨r0 && r,.cons (kN e1 e2 (by simp_all)) (kN e1 e2 (by simp_all)) j1 i1,?_⟩;grind
  ·obtain⟨dd,e1,e2,e3,_,e5⟩:=xB h4
   obtain⟨u,hu⟩:=mg e3 x;obtain⟨v,hv⟩:=mg e3 x';rw[hu]at hx;rw[hv]at hy;obtain⟨g1,g2⟩:=drop_one hx;obtain⟨g3,g4⟩:=drop_one hy;obtain⟨r0,j1,j2⟩:=e5 x x' u v hu hv d;refine⟨r0 && true,.cons (kN e1 e2 (by simp_all)) (kN e1 e2 (by simp_all)) j1 .nil,?_⟩;simp_all
theorem VE{P:Program}{kt:TypeId}{fs:Array Field}{y:Ty}(hs:P.underlying kt=some (.struct fs))(hf:pZ P 0 fs.toList y=true)(x:Vl y)(e:Bool)(w:World):(Instr.checkKey e 10000 kt (.agg (iV y x).toArray)).run P w = .ok () w:=by
 rw[show (10000:Nat)=9998+1+1 from rfl,Instr.checkKey];simp only[Sem.run_bind,run_underlying hs,zL];rw[<- Array.forIn_toList];have hx:(iV y x).toArray.toList.drop 0=iV y x:=rfl;generalize (iV y x).toArray=us at hx;generalize fs.toList=L at hf;generalize 0=off at hf hx
 induction L generalizing off y with
 | nil=>simp
 | cons f L ih =>
  obtain⟨h1,h2,h3⟩:=zl hf;rcases h3 with ⟨a,b,rfl,h4,h5⟩ | ⟨rfl,h4⟩
  ·obtain⟨dd,e1,e2,e3,e4,_⟩:=xB h4
   obtain⟨u,hu⟩:=mg e3 x.1;have hx:us.toList.drop off=iV a x.1++iV b x.2:=hx;rw[hu]at hx;obtain⟨g1,g2⟩:=drop_one hx;have p1:=kN e1 e2 (xs:=us) (off:=f.offset) (v:=u) (by simp_all) w;have p2:=e4 x.1 u hu e 9998 w;simp only[List.forIn_cons,Sem.run_bind,h1,ne_eq,not_false_eq_true,if_true,zL,p1,p2,Sem.run_pure];exact ih x.2 (off+1) h5 g2
  ·obtain⟨dd,e1,e2,e3,e4,_⟩:=xB h4
   obtain⟨u,hu⟩:=mg e3 x;rw[hu]at hx;obtain⟨g1,g2⟩:=drop_one hx;have p1:=kN e1 e2 (xs:=us) (off:=f.offset) (v:=u) (by simp_all) w;have p2:=e4 x u hu e 9998 w;simp_all
theorem atE{P:Program}{kt:TypeId}{K:Type}{kv:K->Value}(heq:∀a b,∃r:Bool,(∀w,(Op.equal kt (kv a) (kv b)).run P w = .ok r w)∧(r=true↔a=b))(hinj:∀a b,kv a=kv b->a=b)(w:World)(k:K):∀(es:List MapEntry) (i:Nat),(∀x∈es,∃a,x.key=kv a) ->
  ((Instr.findAsking kt (kv k) es i).run P w = .ok none w∧∀x∈es,x.key≠kv k)∨∃j e,(Instr.findAsking kt (kv k) es i).run P w = .ok (some (i+j,e.val)) w∧es[j]? = some e∧e.key=kv k
 | [],i,_=>.inl ⟨by rfl,by simp⟩
 | e::es,i,h=>by
  obtain⟨a,ha⟩:=h e (by simp);obtain⟨r,h1,h2⟩:=heq k a;unfold Instr.findAsking;rw[Sem.run_bind,ha,h1,zL];by_cases hr:r=true
  ·have:=h2.1 hr
   subst this;refine .inr ⟨0,e,?_,rfl,ha⟩;simp_all
  ·have hne:k≠a:=fun e=>hr (h2.2 e)
   rw[if_neg hr];rcases atE heq hinj w k es (i+1) (fun x hx=>h x (zS _ hx)) with ⟨q1,q2⟩ | ⟨j,e',q1,q2,q3⟩
   ·grind
   ·exact .inr ⟨j+1,e',by grind,by simp_all,q3⟩
theorem Kj:∀{l:List Value},(∀v∈l,∃d,IsKey d v)->∀n,((l.zip l).all fun x=>Instr.sameBits n x.1 x.2)=true
 | [],_,_=>rfl
 | v::l,h,n=>by obtain⟨d,hd⟩:=h v (by simp);rw[List.zip_cons_cons,List.all_cons,sameBits_self hd,Kj (fun u hu=>h u (zS _ hu)) n];rfl
theorem Kp.fields{P:Program}{kt:TypeId}{fs:Array Field}{a b:Ty}(hs:P.underlying kt=some (.struct fs))(hp:P.stoodInHeld kt=false)(hf:pZ P 0 fs.toList (.pr a b)=true)(hb:qo (.pr a b)=true):Kp P kt (jr (.pr a b)):=by
 have hinj:∀x y:Vl (.pr a b),jr (.pr a b) x=jr (.pr a b) y->x=y:=fun x y h=>by have h:Value.agg (iV (.pr a b) x).toArray=Value.agg (iV (.pr a b) y).toArray:=h;grind[Value.agg.injEq,C9]
 have heq:∀x y:Vl (.pr a b),∃r:Bool,(∀w,(Op.equal kt (jr (.pr a b) x) (jr (.pr a b) y)).run P w = .ok r w)∧(r=true↔x=y):=fun x y=>by
  obtain⟨r,h1,h2⟩:=EX (P:=P) (d:=9998) (xs:=(iV (.pr a b) x).toArray) (ys:=(iV (.pr a b) y).toArray) fs.toList 0 (.pr a b) x y hf rfl rfl;have hst:P.underlying kt=some (.struct (P.fieldsOf kt)):=by simp_all[Program.fieldsOf]
  have hfo:P.fieldsOf kt=fs:=by simp_all
  exact⟨r,fun w=>Ka (d:=9999) hst hp (by rw[hfo]) h1 w,h2⟩
 refine⟨hinj,fun w e k=>VE hs hf k e w,fun w k es h=>?_,fun w k=>?_⟩
 ·rcases atE heq hinj w k es 0 h with ⟨q1,q2⟩ | ⟨j,e,q1,q2,q3⟩
  ·refine .inl ⟨?_,q2⟩
   cases es with
   | nil=>simp[Instr.findKey,run_underlying hs,Instr.findNow,Sem.run_pure]
   | cons x es=>simp[Instr.findKey,run_underlying hs,Instr.findNow,Instr.sameNow,q1]
  ·refine .inr ⟨j,e,?_,q2,q3⟩
   rw[Nat.zero_add]at q1
   cases es with
   | nil=>grind
   | cons x es=>simp[Instr.findKey,run_underlying hs,Instr.findNow,Instr.sameNow,q1]
 ·have:Instr.sameBits 10000 (jr (.pr a b) k) (jr (.pr a b) k)=true:=by show Instr.sameBits (9999+1) (Value.agg (iV (.pr a b) k).toArray) (Value.agg (iV (.pr a b) k).toArray)=true;simp only[Instr.sameBits,beq_self_eq_true,Bool.true_and];exact Kj (xA hb k) 9999
  unfold Instr.keyThatStays;rw[if_pos this];rfl
def zm(P:Program)(kt:TypeId)(t:Ty):Bool:=match P.underlying kt with
 | some (.int k)=>match t with
  | .int k'=>decide (k'=k)
  | _=>false
 | some .string=>match t with
  | .str=>true
  | _=>false
 | some (.struct fs)=>match t with
  | .pr a b=>qo (.pr a b) && (decide (P.stoodInHeld kt=false) && pZ P 0 fs.toList (.pr a b))
  | _=>false
 | _=>false
theorem tC{P:Program}{kt:TypeId}{t:Ty}(h:zm P kt t=true):xu t=true∧Nonempty (Kp P kt (jr t)):=by
 unfold zm at h;split at h
 ·rename_i k hk
  split at h
  ·rename_i k'
   have:k'=k:=of_decide_eq_true h;subst this;exact⟨rfl,⟨Kp.int hk⟩⟩
  grind
 ·rename_i hk
  split at h
  ·exact⟨rfl,⟨Kp.str hk⟩⟩
  grind
 ·rename_i fs hk
  split at h
  ·rename_i a b
   rw[zO,zO,decide_eq_true_eq]at h;exact⟨h.1,⟨Kp.fields hk h.2.1 h.2.2 h.1⟩⟩
  grind
 grind
section
variable {kt vt:Ty}{L:Lx}{w:World}[DecidableEq (Vl kt)]
theorem Da(ht:xu kt=true)(k:Vl kt):∀{vs:List (Vl kt×Value)} {xs:List (Vl kt×Vl vt)},DmD L w vs xs ->
  (vE kt xs k=none∧kG vs k=none)∨∃y v cs,vE kt xs k=some y∧kG vs k=some v∧(rp vt).rel L w cs y∧v=(rp vt).val cs
 | [],xs,h=>by have h:xs=[]:=h;subst h;exact .inl ⟨rfl,rfl⟩
 | a::r,xs,⟨b,q,h1,h2,⟨cs,h3,h4⟩,h5⟩=>by
  subst h1;obtain⟨a1,a2⟩:=a;obtain⟨b1,b2⟩:=b;simp only at h2 h3 h4;subst h2;by_cases hk:a1=k
  ·refine .inr ⟨b2,a2,cs,?_,?_,h3,h4⟩
   ·simp_all[vE,if_pos,qI]
   simp_all[kG,if_pos]
  ·have hk':¬ keq kt a1 k=true:=fun e=>hk ((qI ht _ _).1 e)
   rcases Da ht k h5 with ⟨q1,q2⟩ | ⟨y,v,cs',q1,q2,q3⟩
   ·simp_all[vE,if_neg,kG]
   ·exact .inr ⟨y,v,cs',by simp_all[vE,if_neg],by simp_all[kG,if_neg],q3⟩
theorem N7(ht:xu kt=true)(k:Vl kt){y:Vl vt}{cs:List Value}(hy:(rp vt).rel L w cs y):∀{vs:List (Vl kt×Value)} {xs:List (Vl kt×Vl vt)},DmD L w vs xs->DmD L w (tO vs k ((rp vt).val cs)) (F7 kt xs k y)
 | [],xs,h=>by have h:xs=[]:=h;subst h;exact⟨_,_,rfl,rfl,⟨cs,hy,rfl⟩,rfl⟩
 | a::r,xs,⟨b,q,h1,h2,⟨cs',h3,h4⟩,h5⟩=>by
  subst h1;obtain⟨a1,a2⟩:=a;obtain⟨b1,b2⟩:=b;simp only at h2 h3 h4;subst h2;by_cases hk:a1=k
  ·unfold tO F7
   rw[if_pos hk,if_pos ((qI ht _ _).2 hk)];exact⟨_,_,rfl,rfl,⟨cs,hy,rfl⟩,h5⟩
  ·have hk':¬ keq kt a1 k=true:=fun e=>hk ((qI ht _ _).1 e)
   unfold tO F7;rw[if_neg hk,if_neg hk'];exact⟨_,_,rfl,rfl,⟨cs',h3,h4⟩,N7 ht k hy h5⟩
end
theorem DmD.len{kt vt:Ty}{L:Lx}{w:World}:∀{vs:List (Vl kt×Value)} {xs:List (Vl kt×Vl vt)},DmD L w vs xs->vs.length=xs.length
 | [],xs,h=>by have h:xs=[]:=h;subst h;rfl
 | a::r,xs,⟨b,q,h1,h2,h3,h5⟩=>by subst h1;simp[DmD.len h5]
def amW:Value->SV
 | .agg ⟨cs⟩=>.agg (cs.map ofV)
 | v=>ofV v
section
variable {R:Type}{B:Nat->Prop}{F:Lx}{w0:Bs}{wr:Wr}{pl pl':List Place}{S S':St}{l l':List Value}{ls:List (List Value)}{w w':World}{L L' M:Lx}{P:Program}{d:Option Tmp}{ty:TypeId}{pos:String}{af:Array Edge}{gd:Option (Nat×Bool)}
 {Q:Exit->Act->World->Prop} {KK:List Value->World->Prop} {K:St->SV->Option R} {r:R}
def BX(P:Program)(t:TypeId):Option SV:=match (P.info? t).bind (·.zero) with
 | some z=>if z.cells.toList.all Value.oneCell'=true then some (amW z) else none
 | none=>none
theorem amX{v:Value}(h:∀u∈v.cells.toList,u.oneCell'=true):Den pl L w (amW v) v:=by
 unfold amW;split
 ·exact⟨_,mH _,h,rfl⟩
 ·exact FL v
theorem xC{t:TypeId}{s:SV}(h:BX P t=some s):∃z,(P.info? t).bind (·.zero)=some z∧∀(pl:List Place) (L:Lx) (w:World),Den pl L w s z:=by grind[BX,amX,List.all_eq_true]
def mapOf(P:Program)(t:TypeId):Option (TypeId×TypeId):=match P.underlying t with
 | some (.map k e)=>some (k,e)
 | _=>none
theorem N8{t k e:TypeId}(h:mapOf P t=some (k,e)):P.underlying t=some (.map k e):=by grind[mapOf]
def akR(P:Program)(t:TypeId):Bool:=match P.underlying t with
 | some (.int _)=>true
 | some .string=>true
 | _=>false
def okS(ok:Bool)(s:SV)(b:Bool):SV:=if ok=true then .tup [s,.d .bool b] else s
def lkS(kt:Ty)(k:Vl kt)(ok:Bool)(z:SV)(K:SV->Option R):List (Nat×Vl kt×SV)->Option R
 | []=>K (okS ok z false)
 | (_,a,s)::r=>if keq kt a k=true then K (okS ok s true) else lkS kt k ok z K r
@[reducible] def gdV(vt:Ty)(o:Option (Vl vt))(z:Vl vt):Vl vt:=o.getD z
@[reducible] def isV(vt:Ty)(o:Option (Vl vt)):Bool:=o.isSome
def VF(P:Program)(own:List (Nat×Ent))(t:TypeId)(m k:SV)(ok:Bool)(K:SV->List Nat->Option R):Option R :=
 match mapOf P t with
 | some (ktid,et)=>match m with
  | .mp i=>match get own i with
   | some (.dm kt vt xs)=>match BX P et,toD kt k with
    | some zs,some y=>match toD vt zs with
     | some z=>if zm P ktid kt=true then K (okS ok (.d vt (gdV vt (vE kt xs y) z)) (isV vt (vE kt xs y))) [i] else none
     | none=>none
    | _,_=>none
   | some (.sm kt _ es)=>match BX P et,toD kt k with
    | some zs,some y=>if zm P ktid kt=true then lkS kt y ok zs (fun s=>K s [i]) es else none
    | _,_=>none
   | _=>none
  | .k (.map none)=>match BX P et with
   | some zs=>if akR P ktid=true then K (okS ok zs false) [] else none
   | none=>none
  | .d (.mp kt vt) xs=>match BX P et,toD kt k with
   | some zs,some y=>match toD vt zs with
    | some z=>if zm P ktid kt=true then K (okS ok (.d vt (gdV vt (vE kt xs y) z)) (isV vt (vE kt xs y))) [] else none
    | none=>none
   | _,_=>none
  | _=>none
 | none=>none
theorem qJ{ok:Bool}{s:SV}{v:Value}(b:Bool)(h:Den pl L w s v):Den pl L w (okS ok s b) (if ok then .tuple #[v,.bool b] else v):=by
 unfold okS
 cases ok with
 | true=>exact⟨[v,.bool b],⟨_,_,rfl,h,⟨_,_,rfl,mD b,rfl⟩⟩,rfl⟩
 | false=>exact h
theorem Db:∀{t:Ty},qo t=true->∀{x:Vl t} {cs:List Value},(rp t).rel L w cs x->cs=iV t x
 | .int _,_,_,_,h=>h
 | .str,_,_,_,h=>h
 | .bool,_,_,_,h=>h
 | .pr a b,hb,x,cs,h=>by have hb:(sO a && qo b)=true:=hb;rw[zO]at hb;obtain⟨c1,c2,e,h1,h2⟩:=h;rw[e,Db (BU hb.1) h1,Db hb.2 h2];rfl
theorem vY{kt:Ty}(ht:xu kt=true){s:SV}{y:Vl kt}{u:Value}(h:toD kt s=some y)(hd:Den pl L w s u):u=jr kt y:=by obtain⟨cs,h1,h2⟩:=lT h hd;have h3:=Db (akQ ht) h1;subst h3;rw[h2];cases kt<;>simp[xu]at ht<;>rfl
def smL{kt:Ty}(vs:List MapEntry)(es:List (Nat×Vl kt×SV)):List (Vl kt×Value):=(es.zip vs).map fun p=>(p.1.2.1,p.2.val)
theorem N9{kt:Ty}:∀{vs:List MapEntry} {es:List (Nat×Vl kt×SV)},SmD pl L w vs es->vs.map (fun e=>(e.key,e.val))=(smL vs es).map (fun x=>(jr kt x.1,x.2))∧vs.length=es.length
 | [],es,h=>by have h:es=[]:=h;subst h;exact⟨rfl,rfl⟩
 | a::r,es,⟨b,q,h1,h2,h3,h4,h5⟩=>by subst h1;obtain⟨i1,i2⟩:=N9 h5;simp_all[jr,smL]
theorem akS{kt:Ty}[DecidableEq (Vl kt)](ht:xu kt=true){k:Vl kt}{ok:Bool}{z:SV}{zv:Value}(hz:Den pl L w z zv){K:SV->Option R}:∀{vs:List MapEntry} {es:List (Nat×Vl kt×SV)},SmD pl L w vs es->lkS kt k ok z K es=some r ->
  ∃s,K s=some r∧Den pl L w s (if ok then .tuple #[(kG (smL vs es) k).getD zv,.bool (kG (smL vs es) k).isSome] else (kG (smL vs es) k).getD zv)
 | [],es,h,hv=>by have h:es=[]:=h;subst h;exact⟨_,hv,qJ false hz⟩
 | a::q,es,⟨b,q',h1,h2,h3,h4,h5⟩,hv=>by
  subst h1;obtain⟨b0,b1,b2⟩:=b;unfold lkS at hv;have e1:smL (a::q) ((b0,b1,b2)::q')=(b1,a.val)::smL q q':=rfl;rw[e1];by_cases hk:b1=k
  ·rw[if_pos ((qI ht _ _).2 hk)]at hv
   refine⟨_,hv,?_⟩;simp_all[kG,if_pos,qJ]
  ·rw[if_neg (fun e=>hk ((qI ht _ _).1 e))]at hv
   obtain⟨s,i1,i2⟩:=akS ht hz h5 hv;refine⟨s,i1,?_⟩;simp_all[kG,if_neg]
theorem amY{own:List (Nat×Ent)}(he:EntsD pl L w own){t:TypeId}{x y:Operand}{ok:Bool}{m k:SV}{K:SV->List Nat->Option R}(h:VF P own t m k ok K=some r)(hx:Den pl L w m (ev l x))(hy:Den pl L w k (ev l y)) :
  ∃s' rd,K s' rd=some r∧Yv P pl L w l ⟨d,.lookup t x y ok,ty,pos,af,gd⟩ s' rd:=by
 unfold VF at h;split at h
 ·rename_i ktid et hmap
  have hmap:=N8 hmap;split at h
  ·rename_i i
   split at h
   ·rename_i kt vt xs hg
    split at h
    ·rename_i zs y' hz hyk
     split at h
     ·rename_i z hzz
      split at h
      ·rename_i hkk
       obtain⟨ht,⟨D⟩⟩:=tC hkk;obtain⟨zv,hz1,hz2⟩:=xC hz;obtain⟨g,n,c,vs,h1,h2,h3⟩:=he.get hg;obtain⟨g',n',c',h4,hu⟩:=hx;rw[h1]at h4;cases h4;have hkey:=vY ht hyk hy
       letI:DecidableEq (Vl kt):=fun a b=>Classical.propDecidable (a=b)
       refine⟨_,_,h,(if ok then .tuple #[(kG vs y').getD zv,.bool (kG vs y').isSome] else (kG vs y').getD zv),?_,fun w' hF hrd=>?_⟩
       ·obtain⟨zc,hzc1,hzc2⟩:=lT hzz (hz2 pl L w)
        rcases Da ht y' h3 with ⟨q1,q2⟩ | ⟨yy,v,cs,q1,q2,q3,q4⟩
        ·rw[q1,q2]
         exact qJ false ⟨zc,hzc1,hzc2⟩
        ·rw[q1,q2]
         exact qJ true ⟨cs,q3,q4⟩
       ·have hM:MapIs (jr kt) (fun v:Value=>v) w' g vs:=by obtain⟨es,cl,q1,q2⟩:=h2;exact⟨es,cl,by rw[hrd i (by simp) g (by rw[iJ h1];rfl)];exact q1,q2⟩
        grind[CV]
      grind
     grind
    grind
   ·rename_i kt cl es hg
    split at h
    ·rename_i zs y' hz hyk
     split at h
     ·rename_i hkk
      obtain⟨ht,⟨D⟩⟩:=tC hkk;obtain⟨zv,hz1,hz2⟩:=xC hz;obtain⟨g,n,c,vs,h1,h2,h3⟩:=he.get hg;obtain⟨g',n',c',h4,hu⟩:=hx;rw[h1]at h4;cases h4;have hkey:=vY ht hyk hy
      letI:DecidableEq (Vl kt):=fun a b=>Classical.propDecidable (a=b)
      obtain⟨s,i1,i2⟩:=akS ht (hz2 pl L w) h3 h;refine⟨s,_,i1,_,i2,fun w' hF hrd=>?_⟩
      have hM:MapIs (jr kt) (fun v:Value=>v) w' g (smL vs.toList es) :=
       ⟨vs,cl,by rw[hrd i (by simp) g (by rw[iJ h1];rfl)];grind,(N9 h3).1,h2.2⟩
      grind[CV]
     grind
    grind
   grind
  ·split at h
   ·rename_i zs hz
    split at h
    ·rename_i hkt
     obtain⟨zv,hz1,hz2⟩:=xC hz;refine⟨_,_,h,Yv.of (qJ false (hz2 pl L w)) (fun w'=>?_)⟩
     have hzz:(zeroValue et).run P w' = .ok zv w':=by
      cases hinf:P.info? et with
      | none=>simp_all
      | some i=>simp_all[zeroValue,typeInfo,Sem.run]
     have hx:ev l x = .map none:=hx;unfold akR at hkt;split at hkt
     ·rename_i k' hk'
      have hck0:∀n v,(Instr.checkKey true (n+1) ktid v).run P w' = .ok () w':=fun n v=>by simp[Instr.checkKey,run_underlying hk']
      have hck:∀v,(Instr.checkKey true 10000 ktid v).run P w' = .ok () w':=hck0 9999;simp_all[Instr.findKey,run_underlying,Instr.findNow,Sem.run_pure,execOp,Instr.lookup,Result.andThen]
     ·rename_i hk'
      have hck0:∀n v,(Instr.checkKey true (n+1) ktid v).run P w' = .ok () w':=fun n v=>by simp[Instr.checkKey,run_underlying hk']
      have hck:∀v,(Instr.checkKey true 10000 ktid v).run P w' = .ok () w':=hck0 9999;simp_all[Instr.findKey,run_underlying,Instr.findNow,Sem.run_pure,execOp,Instr.lookup,Result.andThen]
     simp_all
    grind
   grind
  ·rename_i kt vt xs
   split at h
   ·rename_i zs y' hz hyk
    split at h
    ·rename_i z hzz
     split at h
     ·rename_i hkk
      obtain⟨ht,⟨D⟩⟩:=tC hkk;obtain⟨zv,hz1,hz2⟩:=xC hz;obtain⟨cs0,⟨g,vs,rfl,hg1,hg2,h2,h3⟩,hu⟩:=hx;have h3:DmD L w vs xs:=DmD.iff.1 h3;have hu:ev l x = .map (some g):=hu;have hkey:=vY ht hyk hy
      letI:DecidableEq (Vl kt):=fun a b=>Classical.propDecidable (a=b)
      refine⟨_,_,h,(if ok then .tuple #[(kG vs y').getD zv,.bool (kG vs y').isSome] else (kG vs y').getD zv),?_,fun w' hF hrd=>?_⟩
      ·obtain⟨zc,hzc1,hzc2⟩:=lT hzz (hz2 pl L w)
       rcases Da ht y' h3 with ⟨q1,q2⟩ | ⟨yy,v,cs,q1,q2,q3,q4⟩
       ·rw[q1,q2]
        exact qJ false ⟨zc,hzc1,hzc2⟩
       ·rw[q1,q2]
        exact qJ true ⟨cs,q3,q4⟩
      ·have hM:MapIs (jr kt) (fun v:Value=>v) w' g vs:=by obtain⟨es,cl,q1,q2⟩:=h2;exact⟨es,cl,(hF.block g hg2 hg1).trans q1,q2⟩
       grind[CV]
     grind
    grind
   grind
  grind
 grind
def Dc(P:Program)(S:St)(t:TypeId)(K:St->SV->Option R):Option R :=
 match mapOf P t with
 | some (kt,et)=>match tyc P kt with
  | some k=>if zm P kt k=true then (match tyc P et with
   | some v=>K { S with own:=(S.nx,.dm k v [])::S.own,nx:=S.nx+1 } (.mp S.nx)
   | none=>K { S with own:=(S.nx,.sm k 0 [])::S.own,nx:=S.nx+1 } (.mp S.nx)) else none
  | none=>none
 | none=>none
theorem TV(h:Rel B F w0 wr pl S l ls w){t:TypeId}(hv:Dc P S t K=some r)(hk:Hand B F w0 wr S.nt l ls d K r KK):OW P ⟨d,.makeMap t none,ty,pos,af,gd⟩ l w KK Q:=by
 unfold Dc at hv;split at hv
 ·split at hv
  ·rename_i k hkt
   split at hv
   ·rename_i hkk
    obtain⟨ht,⟨D⟩⟩:=tC hkk;have hrun:(execOp (Sx.ev l) ⟨d,.makeMap t none,ty,pos,af,gd⟩).run P w = .ok (.value (.map (some w.heap.size))) (w.alloc (.map #[] 0)):=rfl;have hS:Stp B (lx pl S.own) (some w.heap.size::lx pl S.own) F [] w (w.alloc (.map #[] 0)):=Stp.new h.hL (Fz.alloc _ _ _) rfl (by simp);split at hv
    ·rename_i v hvt
     have hr:=h.push ⟨some ⟨w.heap.size,0,none⟩,0,0⟩ (.dm k v []) hS ⟨w.heap.size,0,0,[],jQ _,⟨#[],0,J9 w _,rfl,stamped_empty 0⟩,rfl⟩;exact jZ hrun (hk _ _ (.mp S.nx) _ _ hr rfl ⟨w.heap.size,0,0,by rw[h.nx];simp,rfl⟩ hv)
    ·have hr:=h.push ⟨some ⟨w.heap.size,0,none⟩,0,0⟩ (.sm k 0 []) hS ⟨w.heap.size,0,0,#[],jQ _,⟨J9 w _,stamped_empty 0⟩,rfl⟩
     exact jZ hrun (hk _ _ (.mp S.nx) _ _ hr rfl ⟨w.heap.size,0,0,by rw[h.nx];simp,rfl⟩ hv)
   grind
  grind
 grind
def Lb{kt:Ty}(k:Vl kt):List (Nat×Vl kt×SV)->Bool
 | []=>true
 | (_,a,_)::r=>!keq kt a k && Lb k r
def BZ(P:Program)(S:St)(t:TypeId)(m k x:SV)(K:St->SV->Option R):Option R :=
 match mapOf P t with
 | some (ktid,_)=>match m with
  | .mp i=>match get S.own i with
   | some (.dm kt vt xs)=>match toD kt k,toD vt x with
    | some a,some b=>if zm P ktid kt=true then K { S with own:=jE i (.dm kt vt (F7 kt xs a b)) S.own,log:=i::S.log } (.k undef) else none
    | _,_=>none
   | some (.sm kt cl es)=>match toD kt k with
    | some a=>if zm P ktid kt=true∧Lb a es=true then K { S with own:=jE i (.sm kt (cl+1) (es++[(cl,a,x)])) S.own,log:=i::S.log } (.k undef) else none
    | none=>none
   | _=>none
  | _=>none
 | none=>none
theorem Uu{i:Nat}{e:Ent}{g n c:Nat}(hg:get S.own i=some e)(h1:pl[i]? = some ⟨some ⟨g,0,none⟩,n,c⟩):plb pl i=some g∧some g∈lx pl S.own:=by have hpl:plb pl i=some g:=iJ h1;exact⟨hpl,by rw[<- hpl];exact List.mem_map_of_mem (f:=fun e:Nat×Ent=>plb pl e.1) (iI hg)⟩
theorem SmD.app{kt:Ty}{b:Nat×Vl kt×SV}{a:MapEntry}(h1:a.born=b.1)(h2:a.key=jr kt b.2.1)(h3:Den pl L w b.2.2 a.val):∀{vs:List MapEntry} {es:List (Nat×Vl kt×SV)},SmD pl L w vs es->SmD pl L w (vs++[a]) (es++[b])
 | [],es,h=>by have h:es=[]:=h;subst h;exact⟨b,[],rfl,h1,h2,h3,rfl⟩
 | v::vs,es,⟨b',q,e1,e2,e3,e4,e5⟩=>by subst e1;exact⟨b',_,rfl,e2,e3,e4,SmD.app h1 h2 h3 e5⟩
theorem Oa{kt:Ty}(ht:xu kt=true)(hinj:∀a b,jr kt a=jr kt b->a=b){k:Vl kt}:∀{vs:List MapEntry} {es:List (Nat×Vl kt×SV)},SmD pl L w vs es->Lb k es=true->∀x∈vs,x.key≠jr kt k
 | [],es,h,_,x,hx=>by cases hx
 | v::vs,es,⟨b',q,e1,e2,e3,e4,e5⟩,hn,x,hx=>by
  subst e1;obtain⟨b0,b1,b2⟩:=b';simp only[Lb,zO,Bool.not_eq_true']at hn;rcases List.mem_cons.1 hx with hx | hx
  ·subst hx
   intro he;rw[e3]at he;have:=(qI ht b1 k).2 (hinj _ _ he);rw[hn.1]at this;cases this
  ·exact Oa ht hinj e5 hn.2 x hx
theorem EY(h:Rel B F w0 wr pl S l ls w){t:TypeId}{x i y:Operand}{m k v:SV}{op:Op}(ho:op = .mapUpdate t x i y∨op = .insert t x i y)(hv:BZ P S t m k v K=some r)(hx:Den pl (lx pl S.own++F) w m (ev l x))(hi:Den pl (lx pl S.own++F) w k (ev l i))(hy:Den pl (lx pl S.own++F) w v (ev l y))
  (hk:Hand B F w0 wr S.nt l ls d K r KK):OW P ⟨d,op,ty,pos,af,gd⟩ l w KK Q:=by
 unfold BZ at hv;split at hv
 ·rename_i ktid et hmap
  have hmap:=N8 hmap;split at hv
  ·rename_i j
   split at hv
   ·rename_i kt vt xs hg
    split at hv
    ·rename_i a b ha hb
     split at hv
     ·rename_i hkk
      obtain⟨ht,⟨D⟩⟩:=tC hkk
      letI:DecidableEq (Vl kt):=fun a b=>Classical.propDecidable (a=b)
      obtain⟨g,n,c,vs,h1,h2,h3⟩:=h.ent _ (iI hg);obtain⟨g',n',c',h4,hu⟩:=hx;rw[h1]at h4;cases h4;obtain⟨hpl,hmem⟩:=Uu hg h1;obtain⟨cs,hc1,hc2⟩:=lT hb hy;refine akr D hmap (vv:=fun v:Value=>v) hu (vY ht ha hi) hc2 h.hL h2 hmem ho (fun w' hS hM=>?_);have hE:=Ext.of_stp (pl:=pl) (pl':=pl) hS (fun _ _ h=>h);have hr:=h.mod (e':=.dm kt vt (F7 kt xs a b)) hg (by simp_all) ⟨g,n,c,_,h1,hM,N7 ht a (hE.rel _ hc1) (h3.ext hE)⟩;exact hk pl _ (.k undef) undef w' hr rfl rfl hv
     grind
    grind
   ·rename_i kt cl es hg
    split at hv
    ·rename_i a ha
     split at hv
     ·rename_i hkk
      obtain⟨hkk,hno⟩:=hkk;obtain⟨ht,⟨D⟩⟩:=tC hkk;obtain⟨g,n,c,vs,h1,⟨h2,h2s⟩,h3⟩:=h.ent _ (iI hg);obtain⟨g',n',c',h4,hu⟩:=hx;rw[h1]at h4;cases h4;obtain⟨hpl,hmem⟩:=Uu hg h1;have hkey:=vY ht ha hi
      have hkeys:∀e∈vs.toList,∃a,e.key=jr kt a:=fun e he=>by
       letI:DecidableEq (Vl kt):=fun a b=>Classical.propDecidable (a=b)
       exact M7 (vv:=fun v:Value=>v) (N9 h3).1 e he
      have hne:=Oa ht D.inj h3 hno
      have hfn:(Instr.findKey ktid (jr kt a) vs.toList).run P w = .ok none w:=by
       rcases D.fnd w a vs.toList hkeys with ⟨q1,q2⟩ | ⟨jj,e0,q1,q2,q3⟩
       ·exact q1
       grind
      have hrun:(Instr.mapUpdate t (.map (some g)) (jr kt a) (ev l y)).run P w = .ok () { w with heap:=w.heap.setIfInBounds g (.map (vs.push ⟨jr kt a,ev l y,cl⟩) (cl+1)) }:=by simp[Instr.mapUpdate,run_underlying hmap,MapKept.run_getObj_map h2,D.chk,hfn,MapKept.run_setObj_map _ h2,Result.andThen]
      have hf:Fz [some g] w { w with heap:=w.heap.setIfInBounds g (.map (vs.push ⟨jr kt a,ev l y,cl⟩) (cl+1)) }:=Fz.setobj w g _;have hS:Stp B (lx pl S.own) (lx pl S.own) F [some g] w { w with heap:=w.heap.setIfInBounds g (.map (vs.push ⟨jr kt a,ev l y,cl⟩) (cl+1)) }:=Stp.store h.hL hmem hf;have hE:=Ext.of_stp (pl:=pl) (pl':=pl) hS (fun _ _ h=>h)
      have hr:=h.mod (e':=.sm kt (cl+1) (es++[(cl,a,v)])) hg (by rw[hpl];exact hS) ⟨g,n,c,vs.push ⟨jr kt a,ev l y,cl⟩,h1,⟨(heap_set h2).1,stamped_push h2s hne⟩,by
       rw[Array.toList_push]
       exact SmD.app rfl rfl (hy.ext hE) (h3.ext hE)⟩
      refine vP (w':={ w with heap:=w.heap.setIfInBounds g (.map (vs.push ⟨jr kt a,ev l y,cl⟩) (cl+1)) }) ?_ (hk pl _ (.k undef) undef _ hr rfl rfl hv);rcases ho with rfl | rfl<;>simp[execOp,hu,hkey,hrun]
     grind
    grind
   grind
  grind
 grind
def F8(P:Program)(S:St)(t:TypeId)(m k:SV)(K:St->SV->Option R):Option R:=none
theorem VG(h:Rel B F w0 wr pl S l ls w){t t':TypeId}{x i:Operand}{m k:SV}(hv:F8 P S t m k K=some r)(hx:Den pl (lx pl S.own++F) w m (ev l x))(hi:Den pl (lx pl S.own++F) w k (ev l i))(hk:Hand B F w0 wr S.nt l ls d K r KK) :
  OW P ⟨d,.call ⟨.builtin .delete,#[x,i],#[t,t']⟩,ty,pos,af,gd⟩ l w KK Q:=by
 unfold F8 at hv;cases hv
def B5(P:Program)(own:List (Nat×Ent))(t:TypeId)(m:SV)(K:SV->List Nat->Option R):Option R:=none
theorem EZ{own:List (Nat×Ent)}(he:EntsD pl L w own){t:TypeId}{x:Operand}{m:SV}{K:SV->List Nat->Option R}(h:B5 P own t m K=some r)(hx:Den pl L w m (ev l x)) :
  ∃s' rd,K s' rd=some r∧Yv P pl L w l ⟨d,.call { callee:=.builtin .len,args:=#[x],argTypes:=#[t] },ty,pos,af,gd⟩ s' rd:=by
 unfold B5 at h;cases h
end
end Ev
end
noncomputable section
namespace Ev
open Go Go.RowKit Sx Go.MapKept
section
variable {R:Type}
def De(eq:R->R->Bool):Option R->List (Option R)->Option R
 | a,[]=>a
 | a,b::q=>match a,De eq b q with
  | some x,some y=>if eq x y=true then some x else none
  | _,_=>none
def amb(eq:R->R->Bool):List (Option R)->Option R
 | []=>none
 | a::q=>De eq a q
theorem Uv{eq:R->R->Bool}(heq:∀a b,eq a b=true->a=b){r:R}:∀{q:List (Option R)} {a:Option R},De eq a q=some r->∀x∈a::q,x=some r
 | [],a,h,x,hx=>by simp only[List.mem_singleton]at hx;subst hx;exact h
 | b::q,a,h,x,hx=>by
  unfold De at h
  cases a with
  | none=>cases h
  | some u =>
   cases hq:De eq b q with
   | none=>rw[hq]at h;cases h
   | some v =>
    rw[hq]at h;simp only at h;split at h
    ·rename_i he
     cases h
     have:=heq _ _ he;subst this;rcases List.mem_cons.1 hx with hx | hx
     ·exact hx
     ·exact Uv heq hq x hx
    ·cases h
theorem akT{eq:R->R->Bool}(heq:∀a b,eq a b=true->a=b){r:R}:∀{l:List (Option R)},amb eq l=some r->∀x∈l,x=some r
 | [],h,x,hx=>by cases hx
 | a::q,h,x,hx=>Uv heq h x hx
end
section
variable {R:Type}{B:Nat->Prop}{F:Lx}{w0:Bs}{wr:Wr}{pl pl':List Place}{S S':St}{l l':List Value}{ls:List (List Value)}{w w':World}{L L' M:Lx}{P:Program}{d:Option Tmp}{ty:TypeId}{pos:String}{af:Array Edge}{gd:Option (Nat×Bool)}
 {Q:Exit->Act->World->Prop} {KK:List Value->World->Prop} {K:St->SV->Option R} {r:R}
theorem SmD.back{kt:Ty}:∀{vs:List MapEntry} {es:List (Nat×Vl kt×SV)},SmD pl L w vs es->∀b∈es,∃x∈vs,x.born=b.1∧x.key=jr kt b.2.1∧Den pl L w b.2.2 x.val
 | [],es,h,b,hb=>by have h:es=[]:=h;subst h;cases hb
 | v::vs,es,⟨b',q,e1,e2,e3,e4,e5⟩,b,hb=>by
  subst e1;rcases List.mem_cons.1 hb with hb | hb
  ·subst hb;exact⟨v,List.mem_cons_self ..,e2,e3,e4⟩
  ·obtain⟨x,h1,h2⟩:=SmD.back e5 b hb
   exact⟨x,zS _ h1,h2⟩
end
end Ev
end
noncomputable section
namespace Ev
open Go Go.RowKit Sx
section
variable {R:Type}{B:Nat->Prop}{F:Lx}{w0:Bs}{wr:Wr}{pl pl':List Place}{S S':St}{l l':List Value}{ls:List (List Value)}{w w':World}{L L' M:Lx}{P:Program}{d:Option Tmp}{ty:TypeId}{pos:String}{af:Array Edge}{gd:Option (Nat×Bool)}
 {Q:Exit->Act->World->Prop} {KK:List Value->World->Prop} {K:St->SV->Option R} {r:R}
def Ob(own:List (Nat×Ent))(i:Nat):Bool:=match get own i with
 | some (.rowo _ _ _ _ _)=>true
 | _=>false
def isO(own:List (Nat×Ent)):SV->Bool
 | .row k=>Ob own k
 | _=>false
def VH(P:Program)(own:List (Nat×Ent))(t:TypeId)(s:SV)(K:SV->List Nat->Option R):Option R:=none
theorem amZ{own:List (Nat×Ent)}(he:EntsD pl L w own){t:TypeId}{x:Operand}{s:SV}{K:SV->List Nat->Option R}(h:VH P own t s K=some r)(hx:Den pl L w s (ev l x)) :
  ∃s' rd,K s' rd=some r∧Yv P pl L w l ⟨d,.call { callee:=.builtin .len,args:=#[x],argTypes:=#[t] },ty,pos,af,gd⟩ s' rd:=by
 unfold VH at h;cases h
def F9(P:Program)(own:List (Nat×Ent))(t:TypeId)(s i:SV)(K:SV->List Nat->Option R):Option R:=none
theorem VI{own:List (Nat×Ent)}(he:EntsD pl L w own){t:TypeId}{x y:Operand}{s i:SV}{K:SV->List Nat->Option R}(h:F9 P own t s i K=some r)(hx:Den pl L w s (ev l x))(hi:Den pl L w i (ev l y)) :
  ∃s' rd,K s' rd=some r∧Yv P pl L w l ⟨d,.indexAddr t x y,ty,pos,af,gd⟩ s' rd:=by
 unfold F9 at h;cases h
def Oc(P:Program)(own:List (Nat×Ent))(t:TypeId)(s:SV)(K:SV->List Nat->Option R):Option R:=none
theorem akU{own:List (Nat×Ent)}(he:EntsD pl L w own){t:TypeId}{x:Operand}{s:SV}{K:SV->List Nat->Option R}(h:Oc P own t s K=some r)(hx:Den pl L w s (ev l x)) :
  ∃s' rd,K s' rd=some r∧Yv P pl L w l ⟨d,.load t x,ty,pos,af,gd⟩ s' rd:=by
 unfold Oc at h;cases h
def Ga(P:Program)(S:St)(t:TypeId)(a s:SV)(K:St->SV->Option R):Option R:=none
theorem VJ(h:Rel B F w0 wr pl S l ls w){t:TypeId}{x y:Operand}{a s:SV}(hv:Ga P S t a s K=some r)(hx:Den pl (lx pl S.own++F) w a (ev l x))(hy:Den pl (lx pl S.own++F) w s (ev l y))
  (hk:Hand B F w0 wr S.nt l ls d K r KK):OW P ⟨d,.store t x y,ty,pos,af,gd⟩ l w KK Q:=by
 unfold Ga at hv;cases hv
def VK(P:Program)(S:St)(t:TypeId)(len:Nat)(q:List (Nat×Operand))(K:St->SV->Option R):Option R:=none
theorem am0(h:Rel B F w0 wr pl S l ls w){t:TypeId}{len:Nat}{q:Array (Nat×Operand)}(hv:VK P S t len q.toList K=some r)(hk:Hand B F w0 wr S.nt l ls d K r KK):OW P ⟨d,.buildSlice t len q,ty,pos,af,gd⟩ l w KK Q:=by unfold VK at hv;cases hv
def VL(P:Program)(S:St)(t:TypeId)(s1 s2:SV)(K:St->SV->Option R):Option R:=none
theorem am1(h:Rel B F w0 wr pl S l ls w){t:TypeId}{x y:Operand}{s1 s2:SV}(hv:VL P S t s1 s2 K=some r)(hx:Den pl (lx pl S.own++F) w s1 (ev l x))
  (hy:Den pl (lx pl S.own++F) w s2 (ev l y)) (hk:Hand B F w0 wr S.nt l ls d K r KK):OW P ⟨d,.call ⟨.builtin .append,#[x,y],#[t,t]⟩,ty,pos,af,gd⟩ l w KK Q:=by
 unfold VL at hv;cases hv
end
end Ev
end
noncomputable section
namespace Sx
open Go Go.RowKit
section
variable {P:Program}{l:List Value}{w:World}{d:Option Tmp}{ty:TypeId}{pos:String}{af:Array Edge}{gd:Option (Nat×Bool)}
 {Q:Exit->Act->World->Prop} {K:List Value->World->Prop} {α:Type} {R:Rp α}
end
end Sx
namespace Ev
open Go Go.RowKit Sx
section
variable {P:Program}{R:Type}{B:Nat->Prop}{F:Lx}{w0:Bs}{wr:Wr}{pl:List Place}{S:St}{l:List Value}{ls:List (List Value)}{w:World}{r:R}{K:St->SV->Option R}
 {d:Option Tmp} {ty:TypeId} {pos:String} {af:Array Edge} {gd:Option (Nat×Bool)} {KK:List Value->World->Prop} {Q:Exit->Act->World->Prop}
def VM(P:Program)(S:St)(t:TypeId)(s:SV)(lo hi:Option Operand)(mx:Operand)(K:St->SV->Option R):Option R:=none
def VN(P:Program)(S:St)(t:TypeId)(s1 s2:SV)(K:St->SV->Option R):Option R:=none
theorem am2(h:Rel B F w0 wr pl S l ls w){t:TypeId}{x:Operand}{s:SV}{lo hi:Option Operand}{mx:Operand}(hv:VM P S t s lo hi mx K=some r)(hx:Den pl (lx pl S.own++F) w s (Sx.ev l x))(hk:Hand B F w0 wr S.nt l ls d K r KK) :
  OW P ⟨d,.slice t x lo hi (some mx),ty,pos,af,gd⟩ l w KK Q:=by
 unfold VM at hv;cases hv
theorem am3(h:Rel B F w0 wr pl S l ls w){t:TypeId}{x y:Operand}{s1 s2:SV}(hv:VN P S t s1 s2 K=some r)(hx:Den pl (lx pl S.own++F) w s1 (ev l x))
  (hy:Den pl (lx pl S.own++F) w s2 (ev l y)) (hk:Hand B F w0 wr S.nt l ls d K r KK):OW P ⟨d,.call ⟨.builtin .append,#[x,y],#[t,t]⟩,ty,pos,af,gd⟩ l w KK Q:=by
 unfold VN at hv;cases hv
end
end Ev
end
noncomputable section
namespace Ev
open Go Go.RowKit Sx
section
variable {R:Type}{P:Program}{pl:List Place}{L:Lx}{w:World}{l:List Value}{d:Option Tmp}{ty:TypeId}{pos:String}{af:Array Edge}{gd:Option (Nat×Bool)}{r:R}
def azV(own:List (Nat×Ent))(i:Nat):Bool:=match get own i with
 | some (.rowq _ _ _ _)=>true
 | _=>false
def Gb(P:Program)(own:List (Nat×Ent))(t:TypeId)(s i:SV)(K:SV->List Nat->Option R):Option R:=none
theorem VO{own:List (Nat×Ent)}(he:EntsD pl L w own){t:TypeId}{x y:Operand}{s i:SV}{K:SV->List Nat->Option R}(h:Gb P own t s i K=some r)(hx:Den pl L w s (ev l x))(hi:Den pl L w i (ev l y)) :
  ∃s' rd,K s' rd=some r∧Yv P pl L w l ⟨d,.indexAddr t x y,ty,pos,af,gd⟩ s' rd:=by
 unfold Gb at h;cases h
def Od(P:Program)(own:List (Nat×Ent))(t:TypeId)(s:SV)(K:SV->List Nat->Option R):Option R:=none
theorem akV{own:List (Nat×Ent)}(he:EntsD pl L w own){t:TypeId}{x:Operand}{s:SV}{K:SV->List Nat->Option R}(h:Od P own t s K=some r)(hx:Den pl L w s (ev l x)) :
  ∃s' rd,K s' rd=some r∧Yv P pl L w l ⟨d,.load t x,ty,pos,af,gd⟩ s' rd:=by
 unfold Od at h;cases h
end
end Ev
end
noncomputable section
namespace Ev
open Go Go.RowKit Sx Go.MapKept
section
variable {R:Type}
def Gc(P:Program)(S:St)(t:TypeId)(m:SV)(K:St->SV->Option R):Option R:=none
def Oe(eq:R->R->Bool)(S:St)(it:SV)(K:St->SV->Option R):Option R:=none
def Gd(own:List (Nat×Ent))(it:SV)(K:SV->List Nat->Option R):Option R:=none
end
section
variable {R:Type}{B:Nat->Prop}{F:Lx}{w0:Bs}{wr:Wr}{pl pl':List Place}{S S':St}{l l':List Value}{ls:List (List Value)}{w w':World}{L L' M:Lx}{P:Program}{d:Option Tmp}{ty:TypeId}{pos:String}{af:Array Edge}{gd:Option (Nat×Bool)}
 {Q:Exit->Act->World->Prop} {KK:List Value->World->Prop} {K:St->SV->Option R} {r:R}
theorem DmR.split{α β:Type}{R:Rp β}:∀{v1:List (α×Value)} {v:α×Value} {v2:List (α×Value)} {xs:List (α×β)},DmR R L w (v1++v::v2) xs ->
  ∃r1 x r2,xs=r1++x::r2∧(v.1=x.1∧∃cs,R.rel L w cs x.2∧v.2=R.val cs)∧DmR R L w (v1++v2) (r1++r2)
 | [],v,v2,xs,⟨b,q,h1,h2,h3,h4⟩=>⟨[],b,q,h1,⟨h2,h3⟩,h4⟩
 | a::v1,v,v2,xs,⟨b,q,h1,h2,h3,h4⟩=>by obtain⟨r1,x,r2,e1,e2,e3⟩:=DmR.split h4;exact⟨b::r1,x,r2,by simp_all,e2,b,r1++r2,rfl,h2,h3,e3⟩
theorem VP(h:Rel B F w0 wr pl S l ls w){t:TypeId}{x:Operand}{m:SV}(hv:Gc P S t m K=some r)(hx:Den pl (lx pl S.own++F) w m (ev l x))(hk:Hand B F w0 wr S.nt l ls d K r KK):OW P ⟨d,.range t x,ty,pos,af,gd⟩ l w KK Q:=by unfold Gc at hv;cases hv
theorem akW{eq:R->R->Bool}(heq:∀a b,eq a b=true->a=b)(h:Rel B F w0 wr pl S l ls w){x:Operand}{it:SV}(hv:Oe eq S it K=some r)(hx:Den pl (lx pl S.own++F) w it (ev l x))(hk:Hand B F w0 wr S.nt l ls d K r KK) :
  OW P ⟨d,.next x false,ty,pos,af,gd⟩ l w KK Q:=by
 unfold Oe at hv;cases hv
theorem VQ{own:List (Nat×Ent)}(he:EntsD pl L w own){x:Operand}{it:SV}{K:SV->List Nat->Option R}(h:Gd own it K=some r)(hx:Den pl L w it (ev l x)) :
  ∃s' rd,K s' rd=some r∧Yv P pl L w l ⟨d,.entry x,ty,pos,af,gd⟩ s' rd:=by
 unfold Gd at h;cases h
end
end Ev
end
noncomputable section
namespace Sx
open Go Go.RowKit Ev
section
variable {P:Program}{l:List Value}{w:World}{d:Option Tmp}{ty:TypeId}{pos:String}{af:Array Edge}{gd:Option (Nat×Bool)}
 {Q:Exit->Act->World->Prop} {K:List Value->World->Prop} {α:Type} {R:Rp α}
theorem Oq.cell{e:TypeId}{L:Lx}{a:Option Addr}{n c:Nat}{xs:List α}(h:Oq R e L w a n c xs)(hne:xs ≠ []) :
  ∃g o cells,a=some ⟨g,o,none⟩∧RowsOf R L w cells xs∧∀j u,cells[j]? = some u->∀w':World,w'.heap[g]? = w.heap[g]?->w'.cell? ⟨g,o+j,none⟩=some u:=by
 obtain⟨h1,h2,h3,h4,h5⟩:=h;have hp:=List.length_pos_iff.2 hne;obtain⟨g,o,cur,cells,rfl,h6,h7,h8,h9⟩:=h5 (by omega);refine⟨g,o,cells,rfl,h8,fun j u hj w' hw=>?_⟩;rw[cell_of_row w' g (o+j) cur e (0,0) (by rw[hw];exact h6)];rw[<- h9,List.getElem?_take]at hj;split at hj
 ·rw[List.getElem?_drop]at hj
  simpa using hj
 ·cases hj
end
end Sx
namespace Ev
open Go Go.RowKit Sx
section
variable {R:Type}{B:Nat->Prop}{F:Lx}{w0:Bs}{wr:Wr}{pl pl':List Place}{S S':St}{l l':List Value}{ls:List (List Value)}{w w':World}{L L' M:Lx}{P:Program}{d:Option Tmp}{ty:TypeId}{pos:String}{af:Array Edge}{gd:Option (Nat×Bool)}
 {Q:Exit->Act->World->Prop} {KK:List Value->World->Prop} {K:St->SV->Option R} {r:R}
def Df(own:List (Nat×Ent))(i:Nat):Bool:=match get own i with
 | some (.que _ _ _)=>true
 | _=>false
def VR(P:Program)(own:List (Nat×Ent))(t:TypeId)(s:SV)(K:SV->List Nat->Option R):Option R:=none
theorem am4{own:List (Nat×Ent)}(he:EntsD pl L w own){t:TypeId}{x:Operand}{s:SV}{K:SV->List Nat->Option R}(h:VR P own t s K=some r)(hx:Den pl L w s (ev l x)) :
  ∃s' rd,K s' rd=some r∧Yv P pl L w l ⟨d,.call { callee:=.builtin .len,args:=#[x],argTypes:=#[t] },ty,pos,af,gd⟩ s' rd:=by
 unfold VR at h;cases h
def Gf(P:Program)(own:List (Nat×Ent))(t:TypeId)(s i:SV)(K:SV->List Nat->Option R):Option R:=none
theorem VT{own:List (Nat×Ent)}(he:EntsD pl L w own){t:TypeId}{x y:Operand}{s i:SV}{K:SV->List Nat->Option R}(h:Gf P own t s i K=some r)(hx:Den pl L w s (ev l x))(hi:Den pl L w i (ev l y)) :
  ∃s' rd,K s' rd=some r∧Yv P pl L w l ⟨d,.indexAddr t x y,ty,pos,af,gd⟩ s' rd:=by
 unfold Gf at h;cases h
def Og(P:Program)(own:List (Nat×Ent))(t:TypeId)(s:SV)(K:SV->List Nat->Option R):Option R:=none
theorem akX{own:List (Nat×Ent)}(he:EntsD pl L w own){t:TypeId}{x:Operand}{s:SV}{K:SV->List Nat->Option R}(h:Og P own t s K=some r)(hx:Den pl L w s (ev l x)) :
  ∃s' rd,K s' rd=some r∧Yv P pl L w l ⟨d,.load t x,ty,pos,af,gd⟩ s' rd:=by
 unfold Og at h;cases h
def Gg(P:Program)(S:St)(t:TypeId)(s:SV)(lo hi:Option Operand)(K:SV->List Nat->Option R):Option R:=none
theorem Oq.exact{α:Type}{R:Rp α}{e:TypeId}{p:Place}{xs:List α}{sz:Nat}(h:Oq R e L w p.a p.n p.c xs):(p.c≠0->(0:Int).toNat+p.c≤p.c∧∃g o,p.a=some ⟨g,o,none⟩∧p.a=some ⟨g,o+(0:Int).toNat*sz,none⟩)∧(p.c≠0->blk p.a=blk p.a) :=
 ⟨fun hne=>by
  obtain⟨g,o,cur,cells,e1,_⟩:=h.2.2.2.2 hne
  exact⟨by simp,g,o,e1,by simp[e1]⟩,fun _=>rfl⟩
theorem VU(hf:FrD pl L w S.fr l)(he:EntsD pl L w S.own){t:TypeId}{x:Operand}{s:SV}{lo hi:Option Operand}{K:SV->List Nat->Option R}(h:Gg P S t s lo hi K=some r)(hx:Den pl L w s (ev l x)) :
  ∃s' rd,K s' rd=some r∧Yv P pl L w l ⟨d,.slice t x lo hi none,ty,pos,af,gd⟩ s' rd:=by
 unfold Gg at h;cases h
def VW(P:Program)(S:St)(t:TypeId)(s:SV)(lo hi:Option Operand)(mx:Operand)(K:SV->List Nat->Option R):Option R:=none
theorem am5(hf:FrD pl L w S.fr l)(he:EntsD pl L w S.own){t:TypeId}{x:Operand}{s:SV}{lo hi:Option Operand}{mx:Operand}{K:SV->List Nat->Option R}(hv:VW P S t s lo hi mx K=some r)(hx:Den pl L w s (Sx.ev l x)) :
  ∃s' rd,K s' rd=some r∧Yv P pl L w l ⟨d,.slice t x lo hi (some mx),ty,pos,af,gd⟩ s' rd:=by
 unfold VW at hv;cases hv
def VX(P:Program)(S:St)(t:TypeId)(s:SV)(lo hi:Option Operand)(mx:Operand)(K:St->SV->Option R):Option R:=none
theorem am6(h:Rel B F w0 wr pl S l ls w){t:TypeId}{x:Operand}{s:SV}{lo hi:Option Operand}{mx:Operand}(hv:VX P S t s lo hi mx K=some r)(hx:Den pl (lx pl S.own++F) w s (Sx.ev l x))(hk:Hand B F w0 wr S.nt l ls d K r KK) :
  OW P ⟨d,.slice t x lo hi (some mx),ty,pos,af,gd⟩ l w KK Q:=by
 unfold VX at hv;cases hv
theorem Oq.sub{α:Type}{R:Rp α}{e:TypeId}{a a':Option Addr}{n c c':Nat}{xs:List α}{lo m:Int}(h:Oq R e L w a n c xs)(h0:0≤lo)(h1:0≤m)(h2:lo+m≤n)(h3:m.toNat≤c')
  (hc:c'≠0->lo.toNat+c'≤c∧∃g o,a=some ⟨g,o,none⟩∧a'=some ⟨g,o+lo.toNat*R.size,none⟩) (hb:blk a'=blk a):Oq R e L w a' m.toNat c' (prt xs lo m):=by
 obtain⟨rfl,q2,q3,q4,q5⟩:=h;have hle:lo.toNat+m.toNat≤xs.length:=by clear q5 hc;omega
 have hpl:m.toNat=(prt xs lo m).length:=by unfold prt;rw[kA,List.length_drop];clear q5 hc;omega
 refine⟨hpl,h3,?_,fun k hk=>q4 k (by rw[<- hb];exact hk),fun hne=>?_⟩
 ·by_cases hz:c'=0
  ·omega
  ·have:=(hc hz).1;omega
 ·obtain⟨k1,g,o,k2,rfl⟩:=hc hne
  obtain⟨g2,o2,cur,cells,e1,e2,e3,e4,e5⟩:=q5 (by omega);rw[k2]at e1;cases e1;have hl:=e4.len;clear q5 hc;have hle:(lo.toNat+m.toNat)*R.size≤xs.length*R.size:=Nat.mul_le_mul_right _ hle;have hle2:(lo.toNat+c')*R.size≤c*R.size:=Nat.mul_le_mul_right _ k1;rw[Nat.add_mul]at hle hle2;refine⟨g,_,cur,(cells.drop (lo.toNat*R.size)).take (m.toNat*R.size),rfl,e2,by omega,RowsOf.take m.toNat (RowsOf.drop lo.toNat e4),?_⟩;have hl2:((cells.drop (lo.toNat*R.size)).take (m.toNat*R.size)).length=m.toNat*R.size:=by rw[kA,List.length_drop];omega
  rw[hl2]
  have e6:cells.drop (lo.toNat*R.size)=(cur.toList.drop (o+lo.toNat*R.size)).take (cells.length - lo.toNat*R.size):=by
   conv=>lhs;rw[<- e5]
   rw[List.drop_take,List.drop_drop]
  rw[e6,List.take_take,Nat.min_eq_left (by omega)]
def VY(P:Program)(S:St)(t:TypeId)(a:Operand)(i sz:Nat)(lo n:Int)(K:St->SV->Option R):Option R:=none
theorem am7(h:Rel B F w0 wr pl S l ls w){t:TypeId}{x y:Operand}{i sz:Nat}{lo n:Int}(hv:VY P S t x i sz lo n K=some r)(hy:Den pl (lx pl S.own++F) w (.sub i sz lo n) (ev l y))(hk:Hand B F w0 wr S.nt l ls d K r KK) :
  OW P ⟨d,.store t x y,ty,pos,af,gd⟩ l w KK Q:=by
 unfold VY at hv;cases hv
def VZ(P:Program)(S:St)(t:TypeId)(s1 s2:SV)(K:St->SV->Option R):Option R:=none
theorem am8(h:Rel B F w0 wr pl S l ls w){t:TypeId}{x y:Operand}{s1 s2:SV}(hv:VZ P S t s1 s2 K=some r)(hx:Den pl (lx pl S.own++F) w s1 (ev l x))
  (hy:Den pl (lx pl S.own++F) w s2 (ev l y)) (hk:Hand B F w0 wr S.nt l ls d K r KK):OW P ⟨d,.call ⟨.builtin .append,#[x,y],#[t,t]⟩,ty,pos,af,gd⟩ l w KK Q:=by
 unfold VZ at hv;cases hv
theorem DenL.setv{L:Lx}:∀{cs:List SV} {us:List Value} {j:Nat} {s:SV} {u:Value},DenL pl L w cs us->us[j]? = some u->Den pl L w s u->DenL pl L w (cs.set j s) us
 | [],us,j,s,u,h,hj,hs=>by simp_all
 | c::q,us,0,s,u,⟨v,vs,h1,h2,h3⟩,hj,hs=>by subst h1;simp at hj;subst hj;exact⟨v,vs,rfl,hs,h3⟩
 | c::q,us,j+1,s,u,⟨v,vs,h1,h2,h3⟩,hj,hs=>by subst h1;exact⟨v,vs,rfl,h2,DenL.setv h3 (by simp_all) hs⟩
def V2(P:Program)(i j:Nat)(e:TypeId)(S:St):St:=match nH P e with
 | some ⟨t0,_⟩=>match get ((S.nx,Ent.que t0 e [])::S.own) i with
  | some (.box T cs)=>match cs[j]? with
   | some (.k (.slice none 0 0))=>{ S with own:=jE i (.box T (cs.set j (.row S.nx))) ((S.nx,.que t0 e [])::S.own),nx:=S.nx+1,log:=i::S.log }
   | _=>S
  | _=>S
 | none=>S
theorem ayt(h:Rel B F w0 wr pl S l ls w){i j:Nat}{e:TypeId}:∃pl',Rel B F w0 wr pl' (V2 P i j e S) l ls w∧(V2 P i j e S).nt=S.nt:=by
 unfold V2;split
 ·rename_i t0 z hr
  split
  ·rename_i T cs ho
   split
   ·rename_i hc
    have hS:Stp B (lx pl S.own) (blk (none:Option Addr)::lx pl S.own) F [] w w:=Stp.none h.hL rfl;have a:=h.push ⟨none,0,0⟩ (.que t0 e []) hS ⟨_,jQ _,Oq.of_ow (Ow.nil _ _ _ _)⟩;have ho':get ({ S with own:=(S.nx,Ent.que t0 e [])::S.own,nx:=S.nx+1 }:St).own i=some (.box T cs):=ho;obtain⟨g,n,c,us,h1,h2,h3,h4⟩:=a.ent (i,.box T cs) (iI ho');obtain⟨u,q1,q2⟩:=h3.at hc;have q2:u = .slice none 0 0:=q2;subst q2;have m:=a.told (e':=.box T (cs.set j (.row S.nx))) ho' ⟨g,n,c,us,h1,h2,h3.setv q1 (s:=.row S.nx) ⟨⟨none,0,0⟩,by rw[h.nx];simp,rfl⟩,h4⟩;exact⟨_,m,rfl⟩
   ·exact⟨_,h,rfl⟩
  ·exact⟨_,h,rfl⟩
 ·exact⟨_,h,rfl⟩
def am9(P:Program):Nat->TypeId->List TypeId
 | 0,t=>[t]
 | n+1,t=>match P.underlying t with
  | some (.struct fs)=>fs.toList.flatMap fun f=>am9 P n f.type
  | some (.array m e)=>(List.range m).flatMap fun _=>am9 P n e
  | _=>[t]
def Oh(P:Program)(q:TypeId->Bool)(i:Nat):Nat->List TypeId->St->St
 | _,[],S=>S
 | j,t::r,S=>Oh P q i (j+1) r (if q t=true then match nk P t with
  | some (e,_)=>V2 P i j e S
  | none=>S else S)
theorem B6{q:TypeId->Bool}{i:Nat}:∀{r:List TypeId} {j:Nat} {pl:List Place} {S:St},Rel B F w0 wr pl S l ls w->∃pl',Rel B F w0 wr pl' (Oh P q i j r S) l ls w∧(Oh P q i j r S).nt=S.nt
 | [],j,pl,S,h=>⟨pl,h,rfl⟩
 | t::r,j,pl,S,h=>by
  unfold Oh;split
  ·split
   ·rename_i e n _
    obtain⟨pl1,h1,h2⟩:=ayt (P:=P) (i:=i) (j:=j) (e:=e) h;obtain⟨pl2,h3,h4⟩:=B6 (r:=r) (j:=j+1) h1;exact⟨pl2,h3,h4.trans h2⟩
   ·exact B6 h
  ·exact B6 h
def Oi(P:Program)(q:TypeId->Bool):List Operand->St->St
 | [],S=>S
 | x::r,S=>Oi P q r (match opv S x with
  | some (.pb i 0)=>match get S.own i with
   | some (.box T _)=>Oh P q i 0 (am9 P 6 T) S
   | _=>S
  | _=>S)
theorem Ca{q:TypeId->Bool}:∀{r:List Operand} {pl:List Place} {S:St},Rel B F w0 wr pl S l ls w->∃pl',Rel B F w0 wr pl' (Oi P q r S) l ls w∧(Oi P q r S).nt=S.nt
 | [],pl,S,h=>⟨pl,h,rfl⟩
 | x::r,pl,S,h=>by
  unfold Oi;split
  ·split
   ·obtain⟨pl1,h1,h2⟩:=B6 (P:=P) (q:=q) (i:=_) (j:=0) (r:=_) h
    obtain⟨pl2,h3,h4⟩:=Ca (r:=r) h1;exact⟨pl2,h3,h4.trans h2⟩
   ·exact Ca h
  ·exact Ca h
end
end Ev
end
noncomputable section
namespace Ev
open Go Go.RowKit Sx
section
variable {R:Type}{B:Nat->Prop}{F:Lx}{w0:Bs}{wr:Wr}{pl pl':List Place}{S S':St}{l l':List Value}{ls:List (List Value)}{w w':World}{L L' M:Lx}{P:Program}{d:Option Tmp}{ty:TypeId}{pos:String}{af:Array Edge}{gd:Option (Nat×Bool)}
 {Q:Exit->Act->World->Prop} {KK:List Value->World->Prop} {K:St->SV->Option R} {r:R}
def V3(own:List (Nat×Ent))(i:Nat):Bool:=match get own i with
 | some (.row (.cl _) _ _)=>true
 | _=>false
def clB:Value->Bool
 | .slice _ 0 0=>true
 | .slice _ _ _=>false
 | _=>true
theorem azW{v:Value}(h:clB v=true):ClV v:=by intro a c e;grind[clB]
def clS:SV->Bool
 | .k v=>clB v
 | .d t _=>t.flat
 | _=>false
theorem Oj:∀{cs:List SV} {us:List Value},cs.all clS=true->DenL pl L w cs us->(∀v∈us,v.oneCell'=true)->∀v∈us,ClV v
 | [],us,_,h,_,v,hv=>by cases h;cases hv
 | s::q,us,hc,⟨u,vs,e,h1,h2⟩,h1c,v,hv=>by
  subst e;simp only[List.all_cons,zO]at hc;rcases List.mem_cons.1 hv with rfl | hv
  ·obtain⟨hc,_⟩:=hc
   unfold clS at hc;split at hc
   ·cases h1;exact azW hc
   ·rename_i t x
    obtain⟨cs,h3,h4⟩:=h1;have hv1:=h1c v (by simp);have h5:=sW hc h3
    cases ha:t.agg with
    | true =>
     simp only[Rp.val,jf,ha,if_true]at h4;intro a c e;rw[h4]at e;cases e
    | false =>
     have hl:=(rp t).len h3;rw[nP t ha]at hl;obtain⟨z,rfl⟩:=List.length_eq_one_iff.1 hl;simp[Rp.val,jf,ha]at h4;subst h4;exact h5 v (by simp)
   ·cases hc
  ·exact Oj hc.2 h2 (fun z hz=>h1c z (zS _ hz)) v hv
def Gh(P:Program)(S:St)(t:TypeId)(K:St->SV->Option R):Option R :=
 match tyc P t,(P.info? t).bind (·.zero) with
 | some ty,some (.agg ⟨cs⟩)=>if cs.all Value.oneCell'=true∧(cs.map ofV).all clS=true then (match toD ty (.agg (cs.map ofV)) with
  | some x=>La S t (.cl ty) x K
  | none=>none) else none
 | _,_=>none
theorem V4(h:Rel B F w0 wr pl S l ls w){t:TypeId}(hv:Gh P S t K=some r)(hk:Hand B F w0 wr S.nt l ls d K r KK):OW P ⟨d,.alloc t,ty,pos,af,gd⟩ l w KK Q:=by
 unfold Gh at hv;split at hv
 ·rename_i cs _ hz
  split at hv
  ·rename_i hone
   split at hv
   ·rename_i x hx
    have hone1:=List.all_eq_true.1 hone.1;have hden:=mH (pl:=pl) (L:=lx pl S.own++F) (w:=w) cs;have h1:=uM (pl:=pl) (L:=lx pl S.own++F) (w:=w) (u:=.agg cs.toArray) hx ⟨cs,hden,hone1,rfl⟩;exact rG hz rfl h.hL (fun g w' hS hb=>xg h hv hk hS hb ⟨h1,fun v hv=>Oj hone.2 hden hone1 v hv⟩)
   grind
  grind
 grind
def aO7:SV->Bool
 | .agg cs=>cs.all clS
 | .d (.cl _) _=>true
 | _=>false
def V5(P:Program)(S:St)(t:TypeId)(s:SV)(K:St->SV->Option R):Option R:=none
theorem ana(h:Rel B F w0 wr pl S l ls w){t:TypeId}{x:Operand}{s:SV}(hv:V5 P S t s K=some r)(hx:Den pl (lx pl S.own++F) w s (ev l x))(hk:Hand B F w0 wr S.nt l ls d K r KK):OW P ⟨d,.box t x,ty,pos,af,gd⟩ l w KK Q:=by unfold V5 at hv;cases hv
def E4(P:Program)(own:List (Nat×Ent))(t:TypeId)(s:SV)(K:SV->List Nat->Option R):Option R :=
 match s with
 | .prw i j sz o=>match get own i,tyc P t with
  | some (.row (.cl t0) _ xs),some fy=>if sz=t0.size∧o=0∧t0=fy then (at? xs j).bind fun y=>K (.d (.cl t0) y) [i] else KT P own t (.prw i j sz o) K
  | _,_=>none
 | .pra i j sz o m ft k o2=>match get own i,tyc P t with
  | some (.row (.cl t0) _ xs),some (.sl u)=>if sz=t0.size then (at? xs j).bind fun y=>match prj t0 o (.ar m ft) y with
   | some ys=>(at? (show List (Vl ft) from ys) k).bind fun z=>match prj ft o2 (.sl u) z with
    | some v=>K (.d (.cl (.sl u)) v) [i]
    | none=>none
   | none=>none
   else none
  | some (.row (.cl t0) _ xs),some fy=>if sz=t0.size then (at? xs j).bind fun y=>match prj t0 o (.ar m ft) y with
   | some ys=>(at? (show List (Vl ft) from ys) k).bind fun z=>match prj ft o2 fy z with
    | some v=>K (.d fy v) [i]
    | none=>none
   | none=>none
   else none
  | _,_=>none
 | _=>none
theorem atF{own:List (Nat×Ent)}(he:EntsD pl L w own){t:TypeId}{x:Operand}{i:Nat}{j:Int}{sz o m:Nat}{ft:Ty}{q:Int}{o2:Nat}{t0:Ty}{e:TypeId}{xs:List (Vl t0)}{fy:Ty}{y:Vl t0}{ys:Vl (.ar m ft)}{z:Vl ft}{v:Vl fy}
  (hg:get own i=some (.row (.cl t0) e xs)) (hy:tyc P t=some fy) (hsz:sz=t0.size) (hy1:at? xs j=some y) (hp:prj t0 o (.ar m ft) y=some ys) (hz1:at? (show List (Vl ft) from ys) q=some z) (hp2:prj ft o2 fy z=some v)
  (hx:Den pl L w (.pra i j sz o m ft q o2) (ev l x)) :
  ∃c1,(rp fy).rel L w c1 v∧(∀u∈c1,ClV u)∧∀w',Fz L w w'->(∀a ∈ [i],∀k,plb pl a=some k->w'.heap[k]? = w.heap[k]?)->(execOp (ev l) ⟨d,.load t x,ty,pos,af,gd⟩).run P w' = .ok (.value ((rp fy).val c1)) w':=by
 have hty:=kg hy;obtain⟨a,b0,n,c,h1,h2⟩:=hx;obtain⟨p,h3,h4⟩:=he.get hg;rw[h1]at h3;cases h3;obtain⟨h5,h6,h7⟩:=lD hy1;obtain⟨_,hb0⟩:=h4.addr h7;cases hb0;obtain⟨_,hz6,_⟩:=lD hz1;obtain⟨cs,h8,h9⟩:=l9 h4 h6;obtain⟨pre,c1,post,rfl,h10,h11⟩:=aku hp hz6 hp2 h8.1;refine⟨c1,h11,fun u hu=>h8.2 u (by grind),fun w' hF hrd=>nO h2 ?_⟩;refine kX hty ((rp _).len h11) (fun k v hk=>?_);rw[World.cell?_of_block (w:=w) (hrd i (by simp) a (by rw[iJ h1];rfl))];have:=h9 (o+q.toNat*ft.size+o2+k) v (by grind);have e:(rp (Ty.cl t0)).size=t0.size:=iW (.cl t0);grind
theorem Kk{own:List (Nat×Ent)}(he:EntsD pl L w own){t:TypeId}{x:Operand}{s:SV}{K:SV->List Nat->Option R}{r:R}(h:E4 P own t s K=some r)(hx:Den pl L w s (ev l x)) :
  ∃s' rd,K s' rd=some r∧Yv P pl L w l ⟨d,.load t x,ty,pos,af,gd⟩ s' rd:=by
 unfold E4 at h;split at h
 ·rename_i i j sz o
  split at h
  ·rename_i t0 e xs fy hg hy
   split at h
   ·rename_i hc
    obtain⟨hsz,rfl,rfl⟩:=hc;have hty:=kg hy;obtain⟨y,hy1,h⟩:=iy h;obtain⟨a,b0,n,c,h1,h2⟩:=hx;obtain⟨p,h3,h4⟩:=he.get hg;rw[h1]at h3;cases h3;obtain⟨h5,h6,h7⟩:=lD hy1;obtain⟨_,hb0⟩:=h4.addr h7;cases hb0;obtain⟨cs,h8,h9⟩:=l9 h4 h6;refine⟨_,_,h,(rp (.cl t0)).val cs,⟨cs,h8,rfl⟩,fun w' hF hrd=>nO h2 ?_⟩;have e0:(rp (Ty.cl t0)).val cs=(rp t0).val cs:=rfl;rw[e0];refine kX hty ((rp _).len h8.1) (fun k v hk=>?_);rw[World.cell?_of_block (w:=w) (hrd i (by simp) a (by rw[iJ h1];rfl))];have:=h9 k v hk;have e:(rp (Ty.cl t0)).size=t0.size:=iW (.cl t0);simp_all
   ·exact Ni he h hx
  grind
 ·split at h
  ·rename_i t0 e xs u hg hy
   split at h
   ·rename_i hsz
    obtain⟨y,hy1,h⟩:=iy h;split at h
    ·rename_i ys hp
     obtain⟨z,hz1,h⟩:=iy h;split at h
     ·rename_i v hp2
      obtain⟨c1,h1,h2,h3⟩:=atF (d:=d) (ty:=ty) (pos:=pos) (af:=af) (gd:=gd) he hg hy hsz hy1 hp hz1 hp2 hx;exact⟨_,_,h,_,⟨c1,⟨h1,h2⟩,rfl⟩,h3⟩
     grind
    grind
   grind
  ·rename_i t0 e xs fy _ hg hy
   split at h
   ·rename_i hsz
    obtain⟨y,hy1,h⟩:=iy h;split at h
    ·rename_i ys hp
     obtain⟨z,hz1,h⟩:=iy h;split at h
     ·rename_i v hp2
      obtain⟨c1,h1,h2,h3⟩:=atF (d:=d) (ty:=ty) (pos:=pos) (af:=af) (gd:=gd) he hg hy hsz hy1 hp hz1 hp2 hx;exact⟨_,_,h,_,⟨c1,h1,rfl⟩,h3⟩
     grind
    grind
   grind
  grind
 grind
def V6(fy:Ty)(s:SV):Option (Vl fy):=if fy.flat=true then toD fy s else match s with
 | .d (.cl t') y=>iX t' fy y
 | .agg l=>if l.all clS=true then toD fy (.agg l) else none
 | _=>none
theorem Uw{fy:Ty}{s:SV}{z:Vl fy}{u:Value}(hz:V6 fy s=some z)(hy:Den pl L w s u):∃c,(rp fy).rel L w c z∧u=(rp fy).val c∧(∀v∈c,ClV v)∧u.cells.toList=c:=by
 obtain⟨c,h8,h9,h10⟩:∃c,(rp fy).rel L w c z∧u=(rp fy).val c∧∀v∈c,ClV v:=by
  unfold V6 at hz;split at hz
  ·grind[lT,sW]
  ·split at hz
   ·rename_i t' y'
    obtain⟨e',hz⟩:=mq hz;subst e';subst hz;obtain⟨c,⟨h8,h8c⟩,h9⟩:=hy;exact⟨c,h8,h9,h8c⟩
   ·rename_i l
    split at hz
    ·rename_i hc
     have hy0:=hy;obtain⟨us,k1,k2,k3⟩:=hy0;grind[lT,toD,leaf,Rp.val,jf,Oj]
    grind
   grind
 refine⟨c,h8,h9,h10,?_⟩;rw[h9]
 cases ha:fy.agg with
 | true=>simp[Rp.val,jf,ha,Value.cells]
 | false =>
  have hl:=(rp fy).len h8;rw[nP fy ha]at hl;obtain⟨v,rfl⟩:=List.length_eq_one_iff.1 hl;simp only[Rp.val,jf,ha,Bool.false_eq_true,if_false,List.headD_cons];exact rJ ((rp fy).one h8 v (by simp))
theorem akY{cs c:List Value}{a b:Nat}(h1:∀v∈cs,ClV v)(h2:∀v∈c,ClV v):∀v∈cs.take a++c++cs.drop b,ClV v:=fun v hv=>by grind
def Cb(P:Program)(S:St)(t:TypeId)(a s:SV)(K:St->SV->Option R):Option R :=
 match a with
 | .prw i j sz o=>match get S.own i,tyc P t with
  | some (.row (.cl t0) e xs),some fy=>if sz=t0.size then match V6 fy s with
   | some y=>(at? xs j).bind fun x=>match upd t0 o fy y x with
    | some z=>K { S with own:=jE i (.row (.cl t0) e ((show List (Vl (.cl t0)) from xs).set j.toNat z)) S.own,log:=i::S.log } (.k undef)
    | none=>none
   | none=>none
   else none
  | _,_=>none
 | .pra i j sz o m ft k o2=>match get S.own i,tyc P t with
  | some (.row (.cl t0) e xs),some fy=>if sz=t0.size then match V6 fy s with
   | some y=>(at? xs j).bind fun x=>match prj t0 o (.ar m ft) x with
    | some ys=>(at? (show List (Vl ft) from ys) k).bind fun z=>match upd ft o2 fy y z with
     | some z'=>match upd t0 o (.ar m ft) (show Vl (.ar m ft) from (show List (Vl ft) from ys).set k.toNat z') x with
      | some x'=>K { S with own:=jE i (.row (.cl t0) e ((show List (Vl (.cl t0)) from xs).set j.toNat x')) S.own,log:=i::S.log } (.k undef)
      | none=>none
     | none=>none
    | none=>none
   | none=>none
   else none
  | _,_=>none
 | _=>none
theorem E5(h:Rel B F w0 wr pl S l ls w){t:TypeId}{x y:Operand}{a s:SV}(hv:Cb P S t a s K=some r)(hx:Den pl (lx pl S.own++F) w a (ev l x))(hy:Den pl (lx pl S.own++F) w s (ev l y))(hk:Hand B F w0 wr S.nt l ls d K r KK):OW P ⟨d,.store t x y,ty,pos,af,gd⟩ l w KK Q:=by
 unfold Cb at hv;split at hv
 ·rename_i i j sz o
  split at hv
  ·rename_i t0 e xs fy hg hfy
   split at hv
   ·rename_i hsz
    split at hv
    ·rename_i z hz
     obtain⟨y0,hy0,hv⟩:=iy hv;split at hv
     ·rename_i z' hu
      obtain⟨g,b0,n1,c1,h1,h2⟩:=hx;obtain⟨p,h3,h4⟩:=h.ent _ (iI hg);rw[h1]at h3;cases h3;obtain⟨h5,h6,h7⟩:=lD hy0;obtain⟨_,hb0⟩:=h4.addr h7;cases hb0;obtain⟨c,h8,h9,h10,hcells⟩:=Uw hz hy;have hpl:plb pl i=some g:=iJ h1;have esz:(rp (Ty.cl t0)).size=t0.size:=iW (.cl t0);refine pE (R:=rp (.cl t0)) (vs:=c) (b:=g) (i:=j.toNat) (off:=o) (u:=y0) (u':=z') ?_ (by simp_all) rfl hcells h.hL h4 h6 ((rp fy).one h8) (fun cs hcs=>?_) (by rw[<- hpl];exact List.mem_map_of_mem (f:=fun e:Nat×Ent=>plb pl e.1) (iI hg)) (fun w' hS hO=>?_)
      ·rw[(rp fy).len h8];exact (kg hfy).size
      ·obtain⟨k1,k2⟩:=pY hu hcs.1 h8
       exact⟨k1,k2,akY hcs.2 h10⟩
      ·have hr:=h.mod (e':=.row (.cl t0) e ((show List (Vl (.cl t0)) from xs).set j.toNat z')) hg (by simp_all) ⟨_,h1,hO⟩
       exact hk pl _ (.k undef) undef w' hr rfl rfl hv
     grind
    grind
   grind
  grind
 ·rename_i i j sz o m ft q o2
  split at hv
  ·rename_i t0 e xs fy hg hfy
   split at hv
   ·rename_i hsz
    split at hv
    ·rename_i z hz
     obtain⟨y0,hy0,hv⟩:=iy hv;split at hv
     ·rename_i ys hpr
      obtain⟨z0,hz0,hv⟩:=iy hv;split at hv
      ·rename_i z1 hu1
       split at hv
       ·rename_i z' hu
        obtain⟨g,b0,n1,c1,h1,h2⟩:=hx;obtain⟨p,h3,h4⟩:=h.ent _ (iI hg);rw[h1]at h3;cases h3;obtain⟨h5,h6,h7⟩:=lD hy0;obtain⟨_,hb0⟩:=h4.addr h7;cases hb0;obtain⟨_,hz6,_⟩:=lD hz0;obtain⟨c,h8,h9,h10,hcells⟩:=Uw hz hy;have hpl:plb pl i=some g:=iJ h1;have esz:(rp (Ty.cl t0)).size=t0.size:=iW (.cl t0);refine pE (R:=rp (.cl t0)) (vs:=c) (b:=g) (i:=j.toNat) (off:=o+q.toNat*ft.size+o2) (u:=y0) (u':=z') ?_ (by simp_all) rfl hcells h.hL h4 h6 ((rp fy).one h8) (fun cs hcs=>?_) (by rw[<- hpl];exact List.mem_map_of_mem (f:=fun e:Nat×Ent=>plb pl e.1) (iI hg)) (fun w' hS hO=>?_)
        ·rw[(rp fy).len h8];exact (kg hfy).size
        ·obtain⟨k1,k2⟩:=akv hpr hz6 hu1 hu hcs.1 h8
         exact⟨k1,k2,akY hcs.2 h10⟩
        ·have hr:=h.mod (e':=.row (.cl t0) e ((show List (Vl (.cl t0)) from xs).set j.toNat z')) hg (by simp_all) ⟨_,h1,hO⟩
         exact hk pl _ (.k undef) undef w' hr rfl rfl hv
       grind
      grind
     grind
    grind
   grind
  grind
 grind
theorem app0{α:Type}{Rr:Rp α}{e:TypeId}{z:α}{t:TypeId}(hr:TyRow P e Rr z)(ht:P.underlying t=some (.slice e))(a a2:Option Addr)(c2:Nat) :
  (Builtin.append_ #[t,t] ty #[.slice a 0 0,.slice a2 0 c2]).run P w = .ok (.slice a 0 0) w:=by
 obtain⟨i,zv,hi,hz,hsz,hby,hzs,hzr⟩:=hr.info
 cases a2 with
 | none=>cases a<;>simp[Builtin.append_,run_underlying ht,Go.sizeOf,typeInfo,hi,Builtin.lenOf,Builtin.firstCells,storeCells]
 | some ad=>cases a<;>simp[Builtin.append_,run_underlying ht,Go.sizeOf,typeInfo,hi,Builtin.lenOf,Builtin.firstCells,loadCells,loadCellsFrom,storeCells]
def V7(P:Program)(S:St)(t:TypeId)(s1 s2:SV)(K:St->SV->Option R):Option R :=
 match s1,nk P t with
 | .d (.cl (.sl t1)) xs,some (e,_)=>match nH P e with
  | some ⟨t0,_⟩=>if t1=t0 then need (eqi ((show List (Vl t1) from xs).length:Int) 0) (match leaf (.sl t0) s2 with
   | some ys=>need (small (show List (Vl t0) from ys).length) (K S (.d (.cl (.sl t0)) ys))
   | none=>none) else none
  | none=>none
 | _,_=>none
theorem anb(h:Rel B F w0 wr pl S l ls w){t:TypeId}{x y:Operand}{s1 s2:SV}(hv:V7 P S t s1 s2 K=some r)(hx:Den pl (lx pl S.own++F) w s1 (ev l x))
  (hy:Den pl (lx pl S.own++F) w s2 (ev l y)) (hk:Hand B F w0 wr S.nt l ls d K r KK):OW P ⟨d,.call ⟨.builtin .append,#[x,y],#[t,t]⟩,ty,pos,af,gd⟩ l w KK Q:=by
 unfold V7 at hv;split at hv
 ·rename_i t1 xs e n hel
  split at hv
  ·rename_i t0 z hr
   split at hv
   ·rename_i ht
    subst ht;obtain⟨hl0,hv⟩:=iR hv;split at hv
    ·rename_i ys hys
     obtain⟨hsm,hv⟩:=iR hv;obtain⟨cs,⟨⟨a,c,hcs,_⟩,hcl⟩,hxv⟩:=hx;have hxs:(show List (Vl t1) from xs).length=0:=by simp_all[eqi]
     subst hcs;have hc0:c=0:=hcl (.slice a (show List (Vl t1) from xs).length c) (by simp) a c (by rw[hxs]);have hxv:ev l x = .slice a (List.length (show List (Vl t1) from xs)) c:=hxv;rw[hc0,hxs]at hxv;have hy':=tT (t:=.sl t1) rfl hys hy;have hrow:=tV hr;obtain⟨a2,n2,c2,e2,hy'⟩:=zh hy';by_cases hne:ys=[]
     ·subst hne
      have hn2:n2=0:=yX hy';subst hn2;have hrun:=app0 (w:=w) (ty:=ty) hrow (jJ hel).1 a a2 c2;refine jZ (v:=.slice a 0 0) (w':=w) ?_ (hk pl S (.d (.cl (.sl t1)) []) _ w h rfl ⟨[.slice a 0 0],⟨rE _ _ _ a 0,fun u hu b k hb=>?_⟩,rfl⟩ hv)
      ·grind[execOp,resolve,invoke,builtin,Sem.run_bind,Sem.run_pure,zL]
      grind
     have hL0:LOk B ([]++blk (none:Option Addr)::lx pl S.own) F w:=(Stp.none h.hL rfl).hL;have hsub:Sub w (([]++blk (none:Option Addr)::lx pl S.own)++F) (lx pl S.own++F):=(Stp.none (B:=B) h.hL rfl).hs;refine EG (pre:=[]) (post:=lx pl S.own) (F:=F) (B:=B) (xs:=([]:List (Vl t1))) (jJ hel).1 hrow (.inr ⟨rfl,rfl,rfl,a,hxv⟩) e2 hL0 (Ow.nil _ _ _ _) (Rp.grow _ hy' hsub) (by grind) (fun v a' n' c' w' hv' hS hO=>?_);have hfz:Fz [] w w':=⟨hS.hf.os,hS.hf.tape,hS.hf.output,hS.hf.size,fun k hk hn=>hS.hf.block k hk (by simp[blk])⟩;have hlen:=hO.len;have hpos:0<ys.length:=List.length_pos_iff.2 hne;rw[List.nil_append]at hlen;refine hk pl S (.d (.cl (.sl t1)) ys) v w' (h.call hfz) rfl ?_ hv;rcases hv' with rfl | ⟨_,h7,_⟩
     ·have hf:=hO.freeze (L':=lx pl S.own++F) (CQ w' [] (lx pl S.own) F (blk a')) (fun k hk=>hS.hL.gone k hk)
      refine⟨[.slice a' n' c'],⟨(show (Rp.slice (rp t1)).rel (lx pl S.own++F) w' [.slice a' n' c'] ys from by grind),fun u hu b k hb=>?_⟩,rfl⟩;grind
     ·omega
    grind
   grind
  grind
 grind
end
end Ev
end
noncomputable section
namespace Ev
open Go Go.RowKit Sx
def rowsOf:SV->List Nat
 | .row i=>[i]
 | .rowz i=>[i]
 | .sub i _ _ _=>[i]
 | .agg l=>l.filterMap fun
  | .row i=>some i
  | .rowz i=>some i
  | .sub i _ _ _=>some i
  | _=>none
 | _=>[]
def akZ(S:St):List Operand->List Nat
 | []=>[]
 | x::q=>(match opv S x with
  | some s=>rowsOf s
  | none=>[])++akZ S q
section
variable {R:Type}{B:Nat->Prop}{F:Lx}{w0:Bs}{wr:Wr}{pl pl':List Place}{S S':St}{l l':List Value}{ls:List (List Value)}{w w':World}{L L' M:Lx}{P:Program}{d:Option Tmp}{ty:TypeId}{pos:String}{af:Array Edge}{gd:Option (Nat×Bool)}
 {Q:Exit->Act->World->Prop} {KK:List Value->World->Prop} {K:St->SV->Option R} {r:R}
def atG(P:Program)(t:TypeId):Bool:=match P.underlying t with
 | some (.interface _)=>true
 | some _=>false
 | none=>true
def aO8:SV->Bool
 | .pb _ _=>true
 | _=>false
def qv2(P:Program)(S:St)(op:Op)(K:SV->List Nat->Option R):Option R :=
 match op with
 | .build t q=>NF P S t q.toList K
 | .makeFunc fn a b=>match zi S a.toList,zi S b.toList with
  | some x,some y=>K (.fn fn x y) []
  | _,_=>none
 | .makeInterface t x=>if atG P t=false then (match opv S x with
  | some s=>K (.ifc t s) []
  | none=>none) else none
 | .binOp op t x y u=>match opv S x with
  | some a=>match aO5 P t y a with
   | some _=>amy P op t y a K
   | none=>match opv S y with
    | some b=>if aO8 a=true then amz P op t a b K else if azR a=true then qEq P op t a b K else qv P S (.binOp op t x y u) K
    | none=>none
  | none=>none
 | .lookup t x y ok=>match opv S x,opv S y with
  | some m,some k=>VF P S.own t m k ok K
  | _,_=>none
 | .entry x=>match opv S x with
  | some it=>Gd S.own it K
  | none=>none
 | .call ⟨.builtin .len,⟨[x]⟩,⟨[t]⟩⟩=>match opv S x with
  | some (.mp i)=>B5 P S.own t (.mp i) K
  | some (.d (.mp a b) xs)=>B5 P S.own t (.d (.mp a b) xs) K
  | some (.row i)=>if Ob S.own i=true then VH P S.own t (.row i) K else if Df S.own i=true then VR P S.own t (.row i) K else qv P S (.call ⟨.builtin .len,⟨[x]⟩,⟨[t]⟩⟩) K
  | _=>qv P S (.call ⟨.builtin .len,⟨[x]⟩,⟨[t]⟩⟩) K
 | .load t x=>match opv S x with
  | some (.prw i j sz o)=>if V3 S.own i=true then E4 P S.own t (.prw i j sz o) K else if Ob S.own i=true then Oc P S.own t (.prw i j sz o) K else if azV S.own i=true then Od P S.own t (.prw i j sz o) K else if Df S.own i=true then Og P S.own t (.prw i j sz o) K else qv P S (.load t x) K
  | some (.pra i j sz o m ft k o2)=>if V3 S.own i=true then E4 P S.own t (.pra i j sz o m ft k o2) K else qv P S (.load t x) K
  | _=>qv P S (.load t x) K
 | .indexAddr t x y=>match opv S x,opv S y with
  | some (.row i),some j=>if Ob S.own i=true then F9 P S.own t (.row i) j K else if azV S.own i=true then Gb P S.own t (.row i) j K else if Df S.own i=true then Gf P S.own t (.row i) j K else qv P S (.indexAddr t x y) K
  | _,_=>qv P S (.indexAddr t x y) K
 | .slice t x lo hi none=>match opv S x with
  | some (.row i)=>if Df S.own i=true then Gg P S t (.row i) lo hi K else qv P S (.slice t x lo hi none) K
  | _=>qv P S (.slice t x lo hi none) K
 | .slice t x lo hi (some m)=>match opv S x with
  | some (.row i)=>if Df S.own i=true then VW P S t (.row i) lo hi m K else qv P S (.slice t x lo hi (some m)) K
  | _=>qv P S (.slice t x lo hi (some m)) K
 | op=>qv P S op K
theorem E6(hf:FrD pl L w S.fr l)(he:EntsD pl L w S.own){op:Op}{K:SV->List Nat->Option R}{r:R}(h:qv2 P S op K=some r) :
  ∃s rd,K s rd=some r∧Yv P pl L w l ⟨d,op,ty,pos,af,gd⟩ s rd:=by
 unfold qv2 at h;split at h
 ·exact akH hf h
 ·split at h
  ·rename_i fn a b _ _ x y h1 h2
   refine⟨_,_,h,Yv.of (v:=.func fn (a.map (ev l)) (b.map (ev l))) ⟨_,_,tZ hf h1,tZ hf h2,by rw[show a.map (ev l)=(a.toList.map (ev l)).toArray from Array.ext' (by simp),show b.map (ev l)=(b.toList.map (ev l)).toArray from Array.ext' (by simp)]⟩ (fun w'=>?_)⟩;rfl
  grind
 ·split at h
  ·rename_i hi
   split at h
   ·rename_i t x _ s hs
    refine⟨_,_,h,Yv.of (v:=.iface t (ev l x)) ⟨_,gB hf hs,rfl⟩ (fun w'=>?_)⟩;unfold atG at hi;split at hi
    ·cases hi
    ·simp_all[Instr.makeInterface,ev,Sem.run_bind,run_underlying,zL,execOp,Sem.run_pure]
    grind
   grind
  grind
 ·split at h
  ·rename_i a h1
   split at h
   ·exact ayi h (gB hf h1)
   ·split at h
    ·rename_i h2
     split at h
     ·exact ayj h (gB hf h1) (gB hf h2)
     ·split at h
      ·exact azS h (gB hf h1) (gB hf h2)
      ·exact oF hf he h
    grind
  grind
 ·split at h
  ·rename_i h1 h2
   exact amY he h (gB hf h1) (gB hf h2)
  grind
 ·split at h
  ·rename_i h1
   exact VQ he h (gB hf h1)
  grind
 ·split at h
  ·rename_i h1
   exact EZ he h (gB hf h1)
  ·rename_i h1
   exact EZ he h (gB hf h1)
  ·rename_i h1
   split at h
   ·exact amZ he h (gB hf h1)
   ·split at h
    ·exact am4 he h (gB hf h1)
    ·exact oF hf he h
  ·exact oF hf he h
 ·split at h
  ·rename_i h1
   split at h
   ·exact Kk he h (gB hf h1)
   split at h
   ·exact akU he h (gB hf h1)
   ·split at h
    ·exact akV he h (gB hf h1)
    ·split at h
     ·exact akX he h (gB hf h1)
     ·exact oF hf he h
  ·rename_i h1
   split at h
   ·exact Kk he h (gB hf h1)
   ·exact oF hf he h
  ·exact oF hf he h
 ·split at h
  ·rename_i h1 h2
   split at h
   ·exact VI he h (gB hf h1) (gB hf h2)
   ·split at h
    ·exact VO he h (gB hf h1) (gB hf h2)
    ·split at h
     ·exact VT he h (gB hf h1) (gB hf h2)
     ·exact oF hf he h
  ·exact oF hf he h
 ·split at h
  ·rename_i h1
   split at h
   ·exact VU hf he h (gB hf h1)
   ·exact oF hf he h
  ·exact oF hf he h
 ·split at h
  ·rename_i h1
   split at h
   ·exact am5 hf he h (gB hf h1)
   ·exact oF hf he h
  ·exact oF hf he h
 ·exact oF hf he h
def V8(P:Program)(S:St)(eq:R->R->Bool)(o:BinOp)(t:TypeId)(x:Operand)(u:TypeId)(K:St->SV->Option R):Option R :=
 match opv S x,P.underlying t with
 | some (.d (.sl _) xs),some (.slice _)=>if eqi (Int.ofNat xs.length) 0=true then amb eq [K S (.d .bool true),K S (.d .bool false)] else K S (.d .bool (if o = .eql then false else true))
 | _,_=>qv2 P S (.binOp o t x (.const (.slice none 0 0)) u) (fun s _=>K S s)
theorem Ux{eq:R->R->Bool}(heq:∀a b,eq a b=true->a=b)(h:Rel B F w0 wr pl S l ls w){o:BinOp}(ho:o = .eql∨o = .neq){t:TypeId}{x:Operand}{u:TypeId}(hv:V8 P S eq o t x u K=some r)(hk:Hand B F w0 wr S.nt l ls d K r KK) :
  OW P ⟨d,.binOp o t x (.const (.slice none 0 0)) u,ty,pos,af,gd⟩ l w KK Q:=by
 unfold V8 at hv;split at hv
 ·rename_i y xs e hx he
  obtain⟨cs,⟨a,cap,hcs,hcap,hel⟩,hval⟩:=gB h.fr hx;subst hcs;have hxv:Sx.ev l x = .slice a xs.length cap:=by simp_all[Rp.val,jf,Ty.agg]
  obtain⟨b,hb,hnb⟩:∃b,NilPair P t (Sx.ev l x) (.slice none 0 0) b∧(xs ≠ []->b=false):=by
   rw[hxv]
   cases a with
   | none=>exact⟨true,.sv he,fun hne=>by simp_all⟩
   | some a=>exact⟨false,.sa he,fun _=>rfl⟩
  have hrun:=hb.run (d:=d) (ty:=ty) (pos:=pos) (af:=af) (g:=gd) (u:=u) (w:=w) ho;refine jZ hrun (hk pl S (.d .bool (if o = .eql then b else !b)) _ w h rfl (mD _) ?_);split at hv
  ·have hall:=akT heq hv
   cases (if o = .eql then b else !b)
   ·exact hall _ (by simp)
   ·exact hall _ (by simp)
  ·rename_i hl
   have hne:xs ≠ []:=fun e=>hl (by subst e;rfl);grind
 ·obtain⟨s,rd,h1,v,h2,h3⟩:=E6 h.fr h.ent hv
  exact jZ (h3 w (Fz.refl _ _) (fun _ _ _ _=>rfl)) (hk pl S s v w h rfl h2 h1)
def jw(S:St)(q:List Operand):St:=nS (akZ S q) S
def bxT(env:Env)(t:TypeId):Bool:=match env (1000000+t) with
 | []=>false
 | _=>true
def fzT(env:Env)(t:TypeId):Bool:=match env (2000000+t) with
 | []=>false
 | _=>true
def opT(env:Env)(t:TypeId):Bool:=match env (3000000+t) with
 | []=>false
 | _=>true
def nxT(env:Env)(t:TypeId):Bool:=match env (6000000+t) with
 | []=>false
 | _=>true
def clT(env:Env)(t:TypeId):Bool:=match env (4000000+t) with
 | []=>false
 | _=>true
def opX(env:Env)(t:TypeId):Bool:=match env (5000000+t) with
 | []=>false
 | _=>true
def quT(env:Env)(t:TypeId):Bool:=match env (9000000+t) with
 | []=>false
 | _=>true
def E7(P:Program)(env:Env)(q:List Operand)(S:St):St:=match env 9999999 with
 | []=>S
 | _=>Oi P (quT env) q S
theorem Ol{env:Env}{q:List Operand}(h:Rel B F w0 wr pl S l ls w):∃pl',Rel B F w0 wr pl' (E7 P env q S) l ls w∧(E7 P env q S).nt=S.nt:=by
 unfold E7;split
 ·exact⟨_,h,rfl⟩
 ·exact Ca h
def anc(P:Program)(env:Env)(a:Operand)(K:St->SV->Option R)(S:St)(s:SV):Option R:=match env 9999999 with
 | []=>K S s
 | _=>match s with
  | .k u=>K (E7 P env [a] S) (.k u)
  | _=>none
theorem ayu{env:Env}{a:Operand}{n:Nat}(hk:Hand B F w0 wr n l ls d K r KK):Hand B F w0 wr n l ls d (anc P env a K) r KK:=fun pl' S' s v w' h1 h2 h3 h4=>by
 unfold anc at h4;split at h4
 ·exact hk pl' S' s v w' h1 h2 h3 h4
 ·split at h4
  ·obtain⟨pl2,h5,h6⟩:=Ol (P:=P) (env:=env) (q:=[a]) h1
   exact hk pl2 _ (.k _) v w' h5 (by rw[h6];exact h2) h3 h4
  ·cases h4
def aBH(S:St)(x:Operand):Bool:=match opv S x with
 | some (.row i)=>Df S.own i
 | _=>false
def aO9(S:St)(x:Operand):Bool:=match opv S x with
 | some (.dx _ _)=>true
 | _=>false
def aPa(S:St)(x:Operand):Bool:=match opv S x with
 | some (.d (.cl _) _)=>true
 | _=>false
def isOp(S:St)(y:Operand):Bool:=match opv S y with
 | some s=>isO S.own s
 | none=>false
def opL(P:Program)(env:Env)(cl:Cl R)(S:St)(op:Op)(ty:TypeId)(K:St->SV->Option R):Option R :=
 match op with
 | .alloc t=>if bxT env t=true∧nxT env t=false then ze P S t K else if clT env t=true then Gh P S t K else F6 P S t K
 | .box t x=>match opv S x with
  | some s=>if bxT env t=true then Ny S t s K else if clT env t=true∧aO7 s=true then V5 P S t s K else if fzT env t=true then (match opv (jw S [x]) x with
   | some s=>Vy P (jw S [x]) t s K
   | none=>none) else VA P S t s K
  | none=>none
 | .store t a x=>match opv S a with
  | some (.prw i j sz o)=>if V3 S.own i=true then (match opv S x with
   | some s=>Cb P S t (.prw i j sz o) s K
   | none=>none) else if Ob S.own i=true then (match opv S x with
   | some s=>Ga P S t (.prw i j sz o) s K
   | none=>none) else match opv (jw S [x]) a,opv (jw S [x]) x with
   | some a',some s=>vV P (jw S [x]) t a' s K
   | _,_=>none
  | some (.pra i j sz o m ft k o2)=>if V3 S.own i=true then (match opv S x with
   | some s=>Cb P S t (.pra i j sz o m ft k o2) s K
   | none=>none) else match opv (jw S [x]) a,opv (jw S [x]) x with
   | some a',some s=>vV P (jw S [x]) t a' s K
   | _,_=>none
  | some a'=>match opv S x with
   | some (.sub i sz lo n)=>if Df S.own i=true then VY P S t a i sz lo n K else BS P S t a' (.sub i sz lo n) K
   | some s=>BS P S t a' s (anc P env a K)
   | none=>none
  | none=>none
 | .makeSlice t a b=>match opv S a,opv S b with
  | some x,some y=>Vn P S t x y K
  | _,_=>none
 | .buildSlice t n q=>if opT env t=true then VK P S t n q.toList K else amK P (jw S (q.toList.map (·.2))) t n q.toList K
 | .slice t x lo hi (some m)=>match opv S x with
  | some s=>if aBH S x=true then VX P S t s lo hi m K else if opX env t=true then VM P S t s lo hi m K else amG P S t s lo hi m K
  | none=>none
 | .convert t u x=>match opv S x,vT P u with
  | some (.d .str b),some _=>NZ P S t u (.d .str b) K
  | _,_=>qv2 P S (.convert t u x) (fun s _=>K S s)
 | .call ⟨.builtin .append,⟨[x,y]⟩,⟨[t,t']⟩⟩=>if aPa S x=true then (match opv (jw S [y]) x,opv (jw S [y]) y with
  | some s1,some s2=>if t=t' then V7 P (jw S [y]) t s1 s2 K else none
  | _,_=>none) else if isOp S y=true then (match opv S x,opv S y with
  | some s1,some s2=>if t=t' then VL P S t s1 s2 K else none
  | _,_=>none) else match opv (jw S [y]) x,opv (jw S [y]) y with
  | some s1,some s2=>if t=t' then (if quT env t=true then VZ P (jw S [y]) t s1 s2 K else if aO9 (jw S [y]) x=true then VN P (jw S [y]) t s1 s2 K else FQ P (jw S [y]) t s1 s2 K) else C4 P (jw S [y]) t t' s1 s2 K
  | _,_=>none
 | .call ⟨.builtin .copy,⟨[x,y]⟩,⟨[t,_]⟩⟩=>match opv (jw S [y]) x,opv (jw S [y]) y with
  | some s1,some s2=>VC P (jw S [y]) t s1 s2 K
  | _,_=>none
 | .call ⟨.builtin .delete,⟨[x,i]⟩,⟨[t,_]⟩⟩=>match opv S x,opv S i with
  | some m,some k=>F8 P S t m k K
  | _,_=>none
 | .call ⟨.builtin .unsafeSliceData,⟨[x]⟩,_⟩=>match opv S x with
  | some s=>lSD P S ty s K
  | none=>none
 | .call ⟨.builtin .unsafeString,⟨[x,y]⟩,⟨[pt,_]⟩⟩=>match opv S x,opv S y with
  | some s,some n=>lUS P S pt s n K
  | _,_=>none
 | .call ⟨.value x,args,_⟩=>match x with
  | .func f=>match xk P f,zi S args.toList with
   | some k,some ss=>amU k S ss K
   | _,_=>ET env cl (KZ P x args.toList) (E7 P env args.toList S) K
  | _=>ET env cl (KZ P x args.toList) S K
 | .call ⟨.invoke x name,args,_⟩=>ET env cl (amV P x name args.toList) S K
 | .makeMap t none=>Dc P S t K
 | .mapUpdate t x i y=>match opv (jw S [y]) x,opv (jw S [y]) i,opv (jw S [y]) y with
  | some m,some k,some v=>BZ P (jw S [y]) t m k v K
  | _,_,_=>none
 | .insert t x i y=>match opv (jw S [y]) x,opv (jw S [y]) i,opv (jw S [y]) y with
  | some m,some k,some v=>BZ P (jw S [y]) t m k v K
  | _,_,_=>none
 | .range t x=>match opv S x with
  | some m=>Gc P S t m K
  | none=>none
 | .next x false=>match opv S x with
  | some it=>Oe cl.eq S it K
  | none=>none
 | .binOp .eql t x (.const (.slice none 0 0)) u=>V8 P S cl.eq .eql t x u K
 | .binOp .neq t x (.const (.slice none 0 0)) u=>V8 P S cl.eq .neq t x u K
 | op=>qv2 P S op (fun s _=>K S s)
theorem Om{env:Env}{cl:Cl R}(henv:nI P w0.I env)(hcl:w9 P w0.I cl)(h:Rel B F w0 wr pl S l ls w){op:Op}(hv:opL P env cl S op ty K=some r)(hk:Hand B F w0 wr S.nt l ls d K r KK) :
  OW P ⟨d,op,ty,pos,af,gd⟩ l w KK Q:=by
 have hq:∀op,qv2 P S op (fun s _=>K S s)=some r->OW P ⟨d,op,ty,pos,af,gd⟩ l w KK Q:=fun op hv=>by obtain⟨s,rd,h1,v,h2,h3⟩:=E6 h.fr h.ent hv;exact jZ (h3 w (Fz.refl _ _) (fun _ _ _ _=>rfl)) (hk pl S s v w h rfl h2 h1)
 have hz:∀q,Rel B F w0 wr pl (jw S q) l ls w∧(jw S q).nt=S.nt:=fun q=>tq h;unfold opL at hv;split at hv
 ·grind[zf,V4,Vz]
 ·rename_i t x
  split at hv
  ·rename_i s hs
   split at hv
   ·exact FR h hv (gB h.fr hs) hk
   ·split at hv
    ·exact ana h hv (gB h.fr hs) hk
    ·split at hv
     ·obtain⟨h1,h2⟩:=hz [x]
      split at hv
      ·rename_i s' hs'
       exact amQ h1 hv (gB h1.fr hs') (by simp_all)
      grind
     ·exact amR h hv (gB h.fr hs) hk
  grind
 ·split at hv
  ·rename_i t a x _ _ _ _ _ ha0
   split at hv
   ·split at hv
    ·rename_i s hs
     exact E5 h hv (gB h.fr ha0) (gB h.fr hs) hk
    grind
   split at hv
   ·split at hv
    ·rename_i s hs
     exact VJ h hv (gB h.fr ha0) (gB h.fr hs) hk
    grind
   ·obtain⟨h1,h2⟩:=hz [x]
    split at hv
    ·rename_i a' s ha hs
     exact uL h1 hv (gB h1.fr ha) (gB h1.fr hs) (by simp_all)
    grind
  ·rename_i t a x _ _ _ _ _ _ _ _ _ ha0
   split at hv
   ·split at hv
    ·rename_i s hs
     exact E5 h hv (gB h.fr ha0) (gB h.fr hs) hk
    grind
   ·obtain⟨h1,h2⟩:=hz [x]
    split at hv
    ·rename_i a' s ha hs
     exact uL h1 hv (gB h1.fr ha) (gB h1.fr hs) (by simp_all)
    grind
  ·rename_i a' _ ha
   split at hv
   ·rename_i hs
    split at hv
    ·exact am7 h hv (gB h.fr hs) hk
    ·exact EW h hv (gB h.fr ha) (gB h.fr hs) hk
   ·rename_i hs
    exact EW h hv (gB h.fr ha) (gB h.fr hs) (ayu hk)
   grind
  grind
 ·split at hv
  ·rename_i h1 h2
   exact amH h hv (gB h.fr h1) (gB h.fr h2) hk
  grind
 ·grind[am0,ayp]
 ·split at hv
  ·rename_i hs
   split at hv
   ·exact am6 h hv (gB h.fr hs) hk
   ·split at hv
    ·exact am2 h hv (gB h.fr hs) hk
    ·exact ayo h hv (gB h.fr hs) hk
  grind
 ·split at hv
  ·rename_i hs _
   exact akP h hv (gB h.fr hs) hk
  simp_all
 ·split at hv
  ·split at hv
   ·rename_i h3 h4
    obtain⟨h1,h2⟩:=hz [_];split at hv
    ·rename_i ht
     have hv2:=hv;subst ht;exact anb h1 hv2 (gB h1.fr h3) (gB h1.fr h4) (by simp_all)
    grind
   grind
  ·split at hv
   ·split at hv
    ·rename_i h3 h4
     split at hv
     ·rename_i ht
      have hv2:=hv;subst ht;exact am1 h hv2 (gB h.fr h3) (gB h.fr h4) hk
     grind
    grind
   ·split at hv
    ·rename_i h3 h4
     obtain⟨h1,h2⟩:=hz [_];split at hv
     ·rename_i ht
      have hv2:=hv;subst ht;split at hv2
      ·exact am8 h1 hv2 (gB h1.fr h3) (gB h1.fr h4) (by simp_all)
      ·split at hv2
       ·exact am3 h1 hv2 (gB h1.fr h3) (gB h1.fr h4) (by simp_all)
       ·exact Vo h1 hv2 (gB h1.fr h3) (gB h1.fr h4) (by simp_all)
     ·exact TU h1 hv (gB h1.fr h3) (gB h1.fr h4) (by simp_all)
    grind
 ·split at hv
  ·rename_i h3 h4
   obtain⟨h1,h2⟩:=hz [_];exact amT h1 hv (gB h1.fr h3) (gB h1.fr h4) (by simp_all)
  grind
 ·split at hv
  ·rename_i h3 h4
   exact VG h hv (gB h.fr h3) (gB h.fr h4) hk
  grind
 ·split at hv
  ·rename_i h3
   exact azT h hv (gB h.fr h3) hk
  grind
 ·split at hv
  ·rename_i h3 h4
   exact azU h hv (gB h.fr h3) (gB h.fr h4) hk
  grind
 ·split at hv
  ·split at hv
   ·grind[ayr]
   ·obtain⟨pl1,h1,h2⟩:=Ol (P:=P) (env:=env) (q:=_) h
    exact C6 henv hcl h1 NU hv (by rw[h2];exact hk)
  ·exact C6 henv hcl h NU hv hk
 ·exact C6 henv hcl h ays hv hk
 ·grind[TV]
 ·split at hv
  ·rename_i h3 h4 h5
   obtain⟨h1,h2⟩:=hz [_];exact EY h1 (.inl rfl) hv (gB h1.fr h3) (gB h1.fr h4) (gB h1.fr h5) (by simp_all)
  grind
 ·split at hv
  ·rename_i h3 h4 h5
   obtain⟨h1,h2⟩:=hz [_];exact EY h1 (.inr rfl) hv (gB h1.fr h3) (gB h1.fr h4) (gB h1.fr h5) (by simp_all)
  grind
 ·split at hv
  ·rename_i h3
   exact VP h hv (gB h.fr h3) hk
  grind
 ·split at hv
  ·rename_i h3
   exact akW hcl.1 h hv (gB h.fr h3) hk
  grind
 ·exact Ux hcl.1 h (.inl rfl) hv hk
 ·exact Ux hcl.1 h (.inr rfl) hv hk
 simp_all
def oP(S:St)(d:Option Tmp)(s:SV)(k:St->Option R):Option R :=
 match d with
 | none=>k S
 | some t=>if t<S.nt then k { S with fr:=(t,s)::S.fr } else none
theorem Uy(h:Rel B F w0 wr pl S l ls w){d:Option Tmp}{s:SV}{v:Value}(hd:Den pl (lx pl S.own++F) w s v){k:St->Option R}(hv:oP S d s k=some r):∃S',Rel B F w0 wr pl S' (st l d v) ls w∧k S'=some r:=by
 unfold oP at hv;split at hv
 ·exact⟨S,h,hv⟩
 ·split at hv
  ·rename_i t ht
   exact⟨_,h.set ht hd,hv⟩
  grind
def grd(ops:List Oper)(S:St)(o:Oper)(run skip:St->Option R):Option R :=
 match o.guard with
 | none=>run S
 | some (j,want)=>match (ops[j]?).bind (·.dst) with
  | some t=>if t<S.nt then match get S.fr t with
   | some (.d .bool b)=>if b=true then (if want=true then run { S with fr:=(t,.d .bool true)::S.fr } else skip { S with fr:=(t,.d .bool true)::S.fr })
    else (if want=true then skip { S with fr:=(t,.d .bool false)::S.fr } else run { S with fr:=(t,.d .bool false)::S.fr })
   | some (.k (.tuple ⟨[]⟩))=>skip S
   | _=>none else none
  | none=>none
theorem zn(h:Rel B F w0 wr pl S l ls w){ops:List Oper}{o:Oper}{run skip:St->Option R}(hv:grd ops S o run skip=some r) :
  ∃S',Rel B F w0 wr pl S' l ls w∧S'.log=S.log∧S'.own=S.own∧S'.nx=S.nx∧((wtd ops.toArray o l=true∧run S'=some r)∨(wtd ops.toArray o l=false∧skip S'=some r)):=by
 unfold grd at hv;split at hv
 ·rename_i hg
  exact⟨S,h,rfl,rfl,rfl,.inl ⟨by simp_all[wtd,Region.wanted],hv⟩⟩
 ·rename_i j want hg
  split at hv
  ·rename_i t ht
   split at hv
   ·rename_i hlt
    have hlen:=h.nt;have hat:(mk l).tmps[t]? = some (l.getD t undef):=by simp_all[mk]
    have key:∀b:Bool,get S.fr t=some (.d .bool b)->Rel B F w0 wr pl { S with fr:=(t,.d .bool b)::S.fr } l ls w∧wtd ops.toArray o l=(some b == some want):=fun b hb=>by
     have hd:=lG (h.fr t _ hb);constructor
     ·have h2:=h.set hlt (h.fr t _ hb)
      have e:l.set t (l.getD t undef)=l:=by
       have:t<l.length:=by simp_all
       rw[zW,zU this];simp
      simp_all
     simp_all[wtd,Region.wanted,yielded,mk,zD]
    split at hv
    ·grind
    ·rename_i hu
     refine⟨S,h,rfl,rfl,rfl,.inr ⟨?_,hv⟩⟩;have hd:l.getD t undef = .tuple ⟨[]⟩:=h.fr t _ hu;simp_all[wtd,Region.wanted,yielded,mk,zD]
    grind
   grind
  grind
def rg(P:Program)(env:Env)(cl:Cl R)(ops:List Oper):List Oper->St->(St->Option R)->Option R
 | [],S,k=>k S
 | o::q,S,k=>grd ops S o (fun S1=>opL P env cl S1 o.op o.type fun S2 s=>oP S2 o.dst s fun S3=>rg P env cl ops q S3 k) (fun S1=>oP S1 o.dst (.k undef) fun S3=>rg P env cl ops q S3 k)
theorem V9{env:Env}{cl:Cl R}(henv:nI P w0.I env)(hcl:w9 P w0.I cl){ops:List Oper}:∀{q:List Oper} {pl:List Place} {S:St} {l:List Value} {w:World} {k:St->Option R},Rel B F w0 wr pl S l ls w->rg P env cl ops q S k=some r ->
  (∀pl' S' l' w',Rel B F w0 wr pl' S' l' ls w'->k S'=some r->Q .normal (mk l') w')->WL P ops.toArray Q q l w
 | [],pl,S,l,w,k,h,hv,hk=>azx (hk _ _ _ _ h hv)
 | o::q,pl,S,l,w,k,h,hv,hk=>by
  unfold rg at hv;obtain⟨S1,h1,_,_,_,h2⟩:=zn h hv;rcases h2 with ⟨hw,hv⟩ | ⟨hw,hv⟩
  ·obtain⟨d,op,ty,pos,af,gd⟩:=o
   refine aBD hw (Om henv hcl h1 hv (fun pl' S' s v w' a1 a2 a3 a4=>?_));obtain⟨S3,b1,b2⟩:=Uy a1 a3 a4;exact V9 henv hcl b1 b2 hk
  ·obtain⟨S3,b1,b2⟩:=Uy (s:=.k undef) (v:=undef) h1 rfl hv
   exact azy hw (V9 henv hcl b1 b2 hk)
end
end Ev
end
noncomputable section
namespace Ev
open Go Go.RowKit Sx
def msk(acc:List Nat)(s:Nat)(e:Edge):Nat:=if Region.binds .any e=true then s ||| 2 ^ e.on ||| acc.getD e.on 0 else s
def dps:List Oper->List Nat->List Nat
 | [],acc=>acc
 | o::q,acc=>dps q (acc++[o.after.toList.foldl (msk acc) 0])
section
variable {ops:Array Oper}
def vZ(ops:Array Oper)(acc:List Nat):Prop:=∀(j m p:Nat),acc[j]? = some m->m.testBit p=true->Dep ops j p
theorem Kl{acc:List Nat}(h:vZ ops acc){j:Nat}{o:Oper}(ho:ops[j]? = some o):∀(es:List Edge) (s:Nat),(∀e∈es,e∈o.after.toList)->(∀p,s.testBit p=true->Dep ops j p) ->
  ∀p,(es.foldl (msk acc) s).testBit p=true->Dep ops j p
 | [],s,_,hs,p,hp=>hs p hp
 | e::es,s,he,hs,p,hp=>by
  refine Kl h ho es (msk acc s e) (fun e' h'=>he e' (zS _ h')) (fun q hq=>?_) p hp;unfold msk at hq;split at hq
  ·rename_i hb
   have hmem:e∈o.after:=by simp_all
   rw[Nat.testBit_or,Nat.testBit_or,Bool.or_eq_true,Bool.or_eq_true]at hq;rcases hq with (hq | hq) | hq
   ·simp_all
   ·rw[Nat.testBit_two_pow]at hq
    exact .one ho hmem hb (of_decide_eq_true hq)
   ·rw[zW]at hq
    cases ha:acc[e.on]? with
    | none=>simp_all
    | some m =>
     rw[ha]at hq;exact .step ho hmem hb rfl (h _ _ _ ha hq)
  simp_all
theorem Oo:∀(q:List Oper) (pre:List Oper) (acc:List Nat),ops=(pre++q).toArray->acc.length=pre.length->vZ ops acc->vZ ops (dps q acc)
 | [],_,_,_,_,h=>h
 | o::q,pre,acc,ho,hl,h=>by
  have hat:ops[pre.length]? = some o:=by simp_all
  refine Oo q (pre++[o]) _ (by simp_all) (by grind) (fun j m p hj hp=>?_);rcases Nat.lt_or_ge j acc.length with hlt | hge
  ·rw[List.getElem?_append_left hlt]at hj
   exact h j m p hj hp
  ·rw[List.getElem?_append_right hge]at hj
   have:j=acc.length:=by grind
   subst this;rw[Nat.sub_self]at hj;grind[msk,Kl]
end
abbrev Tl:=List (Nat×List Nat×Bool)
def chk(ds:List Nat)(i:Nat)(log:List Nat)(own:List (Nat×Ent)):Tl->Option Tl
 | []=>some []
 | (p,rd,al)::q=>(chk ds i log own q).bind fun q' =>
  if al=true∧rd.all (fun x=>!log.contains x && (get own x).isSome)=true then some ((p,rd,true)::q')
  else if (ds.getD i 0).testBit p=true then some ((p,rd,false)::q') else none
section
variable {R:Type}{B:Nat->Prop}{F:Lx}{w0:Bs}{wr:Wr}{pl pl':List Place}{S S':St}{l l':List Value}{ls:List (List Value)}{w w':World}{L L' M:Lx}{P:Program}{d:Option Tmp}{ty:TypeId}{pos:String}{af:Array Edge}{gd:Option (Nat×Bool)}
 {Q:Exit->Act->World->Prop} {KK:List Value->World->Prop} {K:St->SV->Option R} {r:R}
structure Asks(F:Lx) (pl:List Place) (own:List (Nat×Ent)) (w:World) (rd:List Nat) (Y:World->Prop):Prop where
 out:∃(plp:List Place) (Lp:Lx) (wp:World),(∀w',Y w'↔(Fz Lp wp w'∧∀i∈rd,∀k,plb plp i=some k->w'.heap[k]? = wp.heap[k]?))∧Y w∧Sub wp (lx pl own++F) Lp∧(∀(i:Nat) (p:Place),plp[i]? = some p->pl[i]? = some p)
def TOk(F:Lx)(pl:List Place)(own:List (Nat×Ent))(w:World):Tl->Tk->Prop
 | [],T=>T=[]
 | (p,rd,al)::q,T=>∃Y r,T=(p,Y)::r∧(al=true->Asks F pl own w rd Y)∧TOk F pl own w q r
theorem Ot{opl:List Oper}{ds:List Nat}(hds:vZ opl.toArray ds){i:Nat}{pl1 pl2:List Place}{S1 S2:St}{l1 l2:List Value}{ls1 ls2:List (List Value)}{w1 w2:World}(h1:Rel B F w0 wr pl1 S1 l1 ls1 w1)(h2:Rel B F w0 (here F pl1 S1 w1) pl2 S2 l2 ls2 w2) :
  ∀{T T':Tl} {Tk:Tk},chk ds i S2.log S2.own T=some T'->TOk F pl1 S1.own w1 T Tk->TOk F pl2 S2.own w2 T' Tk∧ST opl.toArray Tk i w2
 | [],T',Tk,h,ht=>by cases h;cases ht;exact⟨rfl,fun x hx=>by cases hx⟩
 | (p,rd,al)::q,T',Tk,h,⟨Y,r,hT,ha,hr⟩=>by
  subst hT;obtain⟨q',hq,h⟩:=iy h;obtain⟨i1,i2⟩:=Ot hds h1 h2 hq hr
  have dead:(ds.getD i 0).testBit p=true->Dep opl.toArray i p:=fun hb=>by
   rw[zW]at hb
   cases hd:ds[i]? with
   | none=>simp_all
   | some m=>rw[hd]at hb;exact hds i m p hd hb
  split at h
  ·rename_i hcond
   cases h
   obtain⟨plp,Lp,wp,k1,k2,k3,k4⟩:=(ha hcond.1).out;have k2':=(k1 w1).1 k2;have hsz:=k2'.1.size;have hf:=h2.tn.fz
   have hY:Y w2:=by
    refine (k1 w2).2 ⟨⟨hf.os.trans k2'.1.os,hf.tape.trans k2'.1.tape,hf.output.trans k2'.1.output,Nat.le_trans hsz hf.size,fun k hk hn=>?_⟩,fun x hx k hk=>?_⟩
    ·rw[hf.block k (Nat.lt_of_lt_of_le hk hsz) (fun hm=>?_)]
     ·exact k2'.1.block k hk hn
     ·rcases k3 k hm with h3 | h3
      ·grind
      ·omega
    ·have hall:=List.all_eq_true.1 hcond.2 x hx
     simp only[zO,Bool.not_eq_true',Option.isSome_iff_exists]at hall;obtain⟨hnl,e,hg⟩:=hall;have hpl1:plb pl1 x=some k:=Ue k4 hk;have hlt:x<S1.nx:=by unfold plb at hpl1;obtain⟨pp,hp1,_⟩:=Option.bind_eq_some_iff.1 hpl1;rw[h1.nx];grind
     rw[h2.tn.keep (x,e) (iI hg) hlt (by simp_all) k (Ue h2.tn.pls hpl1)];exact k2'.2 x hx k hk
   refine⟨⟨Y,r,rfl,fun _=>⟨plp,Lp,wp,k1,hY,fun k hk=>?_,fun j p hj=>h2.tn.pls j p (k4 j p hj)⟩,i1⟩,fun x hx=>?_⟩
   ·rcases h2.tn.sb k hk with h3 | h3
    ·exact k3 k h3
    ·exact .inr (Nat.le_trans hsz h3)
   ·rcases List.mem_cons.1 hx with hx | hx
    ·subst hx;grind
    ·exact i2 x hx
  ·split at h
   ·rename_i hb
    cases h
    refine⟨⟨Y,r,rfl,fun h=>(by cases h),i1⟩,fun x hx=>?_⟩;rcases List.mem_cons.1 hx with hx | hx
    ·simp_all
    ·exact i2 x hx
   grind
theorem TOk.same:∀{T:Tl} {Tk:Tk} {own own':List (Nat×Ent)},TOk F pl own w T Tk->lx pl own'=lx pl own->TOk F pl own' w T Tk
 | [],_,_,_,h,_=>h
 | (p,rd,al)::q,_,own,own',⟨Y,r,hT,ha,hr⟩,he=>⟨Y,r,hT,fun hal=>by
   obtain⟨plp,Lp,wp,h1,h2,h3,h4⟩:=(ha hal).out
   exact⟨plp,Lp,wp,h1,h2,by simp_all,h4⟩,TOk.same hr he⟩
def rdw(P:Program)(env:Env)(cl:Cl R)(ops:List Oper)(ds:List Nat):List (Nat×Bool×Oper)->Tl->St->(St->Option R)->Option R
 | [],_,S,k=>k S
 | (i,true,o)::q,T,S,k=>grd ops S o (fun S1=>qv2 P S1 o.op fun s rd=>oP S1 o.dst s fun S3=>rdw P env cl ops ds q ((i,rd,true)::T) S3 k)
   (fun S1=>oP S1 o.dst (.k undef) fun S3=>rdw P env cl ops ds q ((i,[],true)::T) S3 k)
 | (i,false,o)::q,T,S,k=>grd ops S o (fun S1=>opL P env cl { S1 with log:=[] } o.op o.type fun S2 s=>match chk ds i S2.log S2.own T with
    | some T'=>oP { S2 with log:=S1.log++S2.log } o.dst s fun S3=>rdw P env cl ops ds q T' S3 k
    | none=>none)
   (fun S1=>oP S1 o.dst (.k undef) fun S3=>rdw P env cl ops ds q T S3 k)
theorem nT(h:Rel B F w0 wr pl S l ls w){d:Option Tmp}{s:SV}{v:Value}(hd:Den pl (lx pl S.own++F) w s v){k:St->Option R}(hv:oP S d s k=some r):∃S',Rel B F w0 wr pl S' (st l d v) ls w∧k S'=some r∧S'.own=S.own:=by
 unfold oP at hv;split at hv
 ·exact⟨S,h,hv,rfl⟩
 ·split at hv
  ·rename_i t ht
   exact⟨_,h.set ht hd,hv,rfl⟩
  grind
theorem zo{env:Env}{cl:Cl R}(henv:nI P w0.I env)(hcl:w9 P w0.I cl){ops:List Oper}{ds:List Nat}(hds:vZ ops.toArray ds):∀{q:List (Nat×Bool×Oper)} {T:Tl} {Tk:Tk} {pl:List Place} {S:St} {l:List Value} {w:World} {k:St->Option R},
  Rel B F w0 wr pl S l ls w->TOk F pl S.own w T Tk->rdw P env cl ops ds q T S k=some r ->
  (∀pl' S' l' w',Rel B F w0 wr pl' S' l' ls w'->k S'=some r->Q .normal (mk l') w')->WY P ops.toArray Q q Tk l w
 | [],T,Tk,pl,S,l,w,k,h,ht,hv,hk=>hk _ _ _ _ h hv
 | (i,true,o)::q,T,Tk,pl,S,l,w,k,h,ht,hv,hk=>by
  unfold rdw at hv;obtain⟨S1,h1,_,e2,_,h2⟩:=zn h hv;have ht1:TOk F pl S1.own w T Tk:=ht.same (by rw[e2]);rcases h2 with ⟨hw,hv⟩ | ⟨hw,hv⟩
  ·obtain⟨d,op,ty,pos,af,gd⟩:=o
   obtain⟨s,rd,hv,v,hd,hy⟩:=E6 (d:=d) (ty:=ty) (pos:=pos) (af:=af) (gd:=gd) h1.fr h1.ent hv;obtain⟨S3,b1,b2,b3⟩:=nT h1 hd hv;refine⟨v,fun w'=>Fz (lx pl S1.own++F) w w'∧∀x∈rd,∀k,plb pl x=some k->w'.heap[k]? = w.heap[k]?,.inl ⟨hw,fun w' hY=>by rw[qD];exact hy w' hY.1 hY.2⟩,⟨Fz.refl _ _,fun _ _ _ _=>rfl⟩,?_⟩;refine zo (T:=(i,rd,true)::T) henv hcl hds b1 ⟨_,_,rfl,fun _=>⟨pl,lx pl S1.own++F,w,fun w'=>Iff.rfl,⟨Fz.refl _ _,fun _ _ _ _=>rfl⟩,by rw[b3];exact Sub.refl _ _,fun _ _ h=>h⟩,ht1.same (by rw[b3])⟩ b2 hk
  ·obtain⟨S3,b1,b2,b3⟩:=nT (s:=.k undef) (v:=undef) h1 rfl hv
   refine⟨undef,fun w'=>Fz (lx pl S1.own++F) w w'∧∀x∈([]:List Nat),∀k,plb pl x=some k->w'.heap[k]? = w.heap[k]?,.inr ⟨hw,rfl⟩,⟨Fz.refl _ _,fun _ h=>by cases h⟩,?_⟩;refine zo (T:=(i,[],true)::T) henv hcl hds b1 ⟨_,_,rfl,fun _=>⟨pl,lx pl S1.own++F,w,fun w'=>Iff.rfl,⟨Fz.refl _ _,fun _ h=>by cases h⟩,by rw[b3];exact Sub.refl _ _,fun _ _ h=>h⟩,ht1.same (by rw[b3])⟩ b2 hk
 | (i,false,o)::q,T,Tk,pl,S,l,w,k,h,ht,hv,hk=>by
  unfold rdw at hv;obtain⟨S1,h1,_,e2,_,h2⟩:=zn h hv;have ht1:TOk F pl S1.own w T Tk:=ht.same (by rw[e2]);rcases h2 with ⟨hw,hv⟩ | ⟨hw,hv⟩
  ·obtain⟨d,op,ty,pos,af,gd⟩:=o
   show if wtd ops.toArray _ l=true then _ else _;rw[if_pos hw];refine Om henv hcl h1.base hv (fun pl' S' s v w' a1 a2 a3 a4=>?_);split at a4
   ·rename_i T' hT'
    have hb:=h1.back a1;obtain⟨t1,t2⟩:=Ot hds h1 a1 hT' ht1;obtain⟨S3,b1,b2,b3⟩:=nT hb a3 a4;exact⟨t2,zo henv hcl hds b1 (t1.same (by rw[b3])) b2 hk⟩
   ·cases a4
  ·obtain⟨S3,b1,b2,b3⟩:=nT (s:=.k undef) (v:=undef) h1 rfl hv
   show if wtd ops.toArray _ l=true then _ else _;rw[if_neg (by rw[hw];decide)];exact zo henv hcl hds b1 (ht1.same (by rw[b3])) b2 hk
end
end Ev
end
noncomputable section
namespace Ev
open Go Go.RowKit Sx
inductive Sg where
 | nil
 | tk (i:Nat) (q:Sg)
 | alt (i:Nat) (q r:Sg)
 | stop
def Sg.sz:Sg->Nat
 | .nil=>1
 | .tk _ q=>q.sz+1
 | .alt _ q r=>q.sz+r.sz+1
 | .stop=>1
def Sg.isStop:Sg->Bool
 | .stop=>true
 | _=>false
def Sg.idx:Sg->List Nat
 | .alt i _ r=>i::r.idx
 | _=>[]
def qK(ops:Array Oper):Bool->Sg->Array Bool->Bool
 | c,.nil,listed=>!c && (Region.ready .any ops listed).isEmpty
 | c,.tk i q,listed=>!c && Region.free .any ops listed i && (Region.ready .any ops listed).contains i && decide (i<ops.size) && qK ops false q (listed.setIfInBounds i true)
 | c,.alt i q r,listed=>(c || ((Region.ready .any ops listed).all (fun j=>(Sg.alt i q r).idx.contains j) && !(Region.ready .any ops listed).isEmpty)) && decide (i<ops.size) && qK ops false q (listed.setIfInBounds i true) && qK ops true r listed
 | c,.stop,_=>c
section
variable {P:Program}{ops:Array Oper}{Q:Exit->Act->World->Prop}
def ane(P:Program)(opl:List Oper)(Q:Exit->Act->World->Prop)(i:Nat)(T:Tk)(l:List Value)(w:World)(C:List Value->World->Prop):Prop :=
 ∃o,opl[i]? = some o∧(if wtd opl.toArray o l=true then OW P o l w (fun l' w'=>ST opl.toArray T i w'∧C l' w') Q else C (st l o.dst undef) w)
def WYT(P:Program)(opl:List Oper)(Q:Exit->Act->World->Prop):Sg->Tk->List Value->World->Prop
 | .nil,_,l,w=>Q .normal (mk l) w
 | .tk i q,T,l,w=>∃o,opl[i]? = some o∧∃v Y,YieldsIf P opl.toArray Y o v (mk l)∧Y w∧WYT P opl Q q ((i,Y)::T) (st l o.dst v) w
 | .alt i q r,T,l,w=>ane P opl Q i T l w (fun l' w'=>WYT P opl Q q T l' w')∧WYT P opl Q r T l w
 | .stop,_,_,_=>True
theorem Uz{opl:List Oper}{T:Tk}{l:List Value}{w:World}{listed:Array Bool}:∀{s:Sg} {c:Bool},qK opl.toArray c s listed=true->WYT P opl Q s T l w->∀j∈s.idx,∃q:Sg,q.sz<s.sz∧qK opl.toArray false q (listed.setIfInBounds j true)=true∧ane P opl Q j T l w (fun l' w'=>WYT P opl Q q T l' w')
 | .alt i q r,c,hk,⟨h1,h2⟩,j,hj=>by
  simp only[qK,zO]at hk;rcases List.mem_cons.1 hj with rfl | hj
  ·exact⟨q,by simp[Sg.sz];omega,hk.1.2,h1⟩
  ·obtain⟨q',h3,h4,h5⟩:=Uz hk.2 h2 j hj
   exact⟨q',by simp[Sg.sz];omega,h4,h5⟩
 | .nil,_,_,_,j,hj=>by cases hj
 | .tk _ _,_,_,_,j,hj=>by cases hj
 | .stop,_,_,_,j,hj=>by cases hj
theorem ayv{rd:Option Nat}{opl:List Oper}(hs:Region.noSelect opl.toArray=true)(hQ:∀c a a' w,Q (.panic c) a w->Q (.panic c) a' w) :
  ∀(n:Nat) (s:Sg) (fuel:Nat) (listed:Array Bool) (T:Tk) (l:List Value) (w:World),s.sz≤n->qK opl.toArray false s listed=true->(listed.toList.filter (fun b=>!b)).length≤fuel->listed.size=opl.length->Closed opl.toArray listed ->
   WYT P opl Q s T l w->wpAnyG rd P opl.toArray Q (ST opl.toArray T) fuel listed (mk l) w:=by
 have dec:∀{listed:Array Bool} {i:Nat},listed.size=opl.length->i∈Region.ready .any opl.toArray listed->i<opl.length->((listed.setIfInBounds i true).toList.filter (fun b=>!b)).length+1≤(listed.toList.filter (fun b=>!b)).length:=by
  intro listed i hsz hi hlt;have hun:=(mem_ready.1 hi).1;obtain⟨L⟩:=listed;simp at hsz hun ⊢;have hil:i<L.length:=by omega
  have hg:L[i]? = some false:=by simp_all
  clear hun hi
  have:∀(L:List Bool) (i:Nat),L[i]? = some false->((L.set i true).filter (fun b=>!b)).length+1≤(L.filter (fun b=>!b)).length:=by
   intro L
   induction L with
   | nil=>simp
   | cons a L ih =>
    intro i h
    cases i with
    | zero=>simp_all
    | succ i =>
     grind
  simp_all
 intro n
 induction n with
 | zero=>intro s _ _ _ _ _ h;cases s<;>simp[Sg.sz]at h
 | succ n ih =>
  intro s fuel listed T l w hn hB hf hsz hc h
  cases s with
  | stop=>grind[qK]
  | nil =>
   have hr:Region.ready .any opl.toArray listed=[]:=by simp_all[qK]
   cases fuel with
   | zero=>exact⟨hr,h⟩
   | succ m=>exact⟨fun _=>h,by simp_all⟩
  | tk i q =>
   simp only[qK,zO,decide_eq_true_eq]at hB;obtain⟨⟨⟨⟨_,h1⟩,h2⟩,h3⟩,h4⟩:=hB;obtain⟨o,ho,v,Y,hy,hY,hr⟩:=h;have hrd:i∈Region.ready .any opl.toArray listed:=by simp_all
   have hd:=dec hsz hrd (by omega)
   cases fuel with
   | zero=>omega
   | succ m =>
    refine yY (by simp_all) (Region.noSelect_spec hs) (fun c a w=>hQ c _ _ w) m listed (mk l) w hc (Region.free_spec (by simp_all) h1) hrd hy hY ?_;rw[rD];have:=ih q m _ ((i,Y)::T) _ w (by simp_all[Sg.sz]) h4 (by omega) (by simp_all) (hc.push hrd) hr;exact wpAnyG.weak (fun j w h=>⟨fun x hx=>h x (zS _ hx),h (i,Y) (List.mem_cons_self ..)⟩) _ _ _ _ this
  | alt i q r =>
   have hB0:=hB;simp only[qK,zO,decide_eq_true_eq,Bool.false_or]at hB;obtain⟨⟨⟨⟨hall,hne⟩,h3⟩,h4⟩,h5⟩:=hB;have hne':Region.ready .any opl.toArray listed ≠ []:=by simp_all
   have hfu:∃m,fuel=m+1:=by
    cases fuel with
    | zero =>
     grind[List.exists_mem_of_ne_nil,mem_ready,Array.getElem?_eq_some_iff]
    | succ m=>simp
   obtain⟨m,rfl⟩:=hfu;refine⟨fun h0=>absurd h0 hne',fun j hj=>?_⟩;have hji:j∈(Sg.alt i q r).idx:=by simp_all
   obtain⟨q',g1,g2,o,ho,g3⟩:=Uz hB0 h j hji;have hjl:j<opl.length:=(List.getElem?_eq_some_iff.1 ho).1;have hd:=dec hsz hj hjl;unfold wpOpIn;have ho':opl.toArray[j]? = some o:=by simp_all
   simp only[ho'];by_cases hw:wtd opl.toArray o l=true
   ·rw[if_pos hw]at g3
    unfold wtd at hw;rw[if_pos hw];refine Oper.wpIn_mono (fun a w' hk=>?_) (g3 rd);obtain⟨l',rfl,hS',hk⟩:=hk;exact⟨.inr hS',ih q' m _ T _ w' (by omega) g2 (by omega) (by simp_all) (hc.push hj) hk⟩
   ·rw[if_neg hw]at g3
    unfold wtd at hw;rw[if_neg hw,rD];exact⟨fun _ _=>trivial,by simp,ih q' m _ T _ w (by omega) g2 (by omega) (by simp_all) (hc.push hj) g3⟩
theorem Gi{id:Nat}{opl:List Oper}{l:List Value}{w:World}(s:Sg)(hm:P.follows .mixedOrders=true)
  (hB:(Region.noSelect opl.toArray && qK opl.toArray false s (Array.replicate opl.toArray.size false))=true)
  (hQ:∀c a a' w,Q (.panic c) a w->Q (.panic c) a' w)
  (h:WYT P opl Q s [] l w.drew):CW P (.region id opl.toArray true) Q l w:=by
 simp only[zO]at hB;obtain⟨h1,h2⟩:=hB;refine fun rd=>wpIn_region_any hm (wI _ _ _ _ (ayv h1 hQ _ s _ _ _ _ _ (Nat.le_refl _) h2 ?_ (by simp) (Closed.start _) h));simp
end
section
variable {R:Type}
def two(eq:R->R->Bool)(one:Bool)(x y:Option R):Option R:=if one=true then x else amb eq [x,y]
def rdt(P:Program)(env:Env)(cl:Cl R)(ops:List Oper)(ds:List Nat):Sg->Tl->St->(St->Option R)->Option R
 | .nil,_,S,k=>k S
 | .tk i q,T,S,k=>match ops[i]? with
  | none=>none
  | some o=>grd ops S o (fun S1=>qv2 P S1 o.op fun s rd=>oP S1 o.dst s fun S3=>rdt P env cl ops ds q ((i,rd,true)::T) S3 k)
   (fun S1=>oP S1 o.dst (.k undef) fun S3=>rdt P env cl ops ds q ((i,[],true)::T) S3 k)
 | .alt i q r,T,S,k =>
  two cl.eq r.isStop (match ops[i]? with
   | none=>none
   | some o=>grd ops S o (fun S1=>opL P env cl { S1 with log:=[] } o.op o.type fun S2 s=>match chk ds i S2.log S2.own T with
     | some T'=>oP { S2 with log:=S1.log++S2.log } o.dst s fun S3=>rdt P env cl ops ds q T' S3 k
     | none=>none)
    (fun S1=>oP S1 o.dst (.k undef) fun S3=>rdt P env cl ops ds q T S3 k)) (rdt P env cl ops ds r T S k)
 | .stop,_,_,_=>none
end
section
variable {R:Type}{B:Nat->Prop}{F:Lx}{w0:Bs}{wr:Wr}{ls:List (List Value)}{P:Program}{Q:Exit->Act->World->Prop}{r:R}
theorem wm{env:Env}{cl:Cl R}(henv:nI P w0.I env)(hcl:w9 P w0.I cl){ops:List Oper}{ds:List Nat}(hds:vZ ops.toArray ds):∀{s:Sg} {T:Tl} {Tk:Tk} {pl:List Place} {S:St} {l:List Value} {w:World} {k:St->Option R},
  Rel B F w0 wr pl S l ls w->TOk F pl S.own w T Tk->rdt P env cl ops ds s T S k=some r ->
  (∀pl' S' l' w',Rel B F w0 wr pl' S' l' ls w'->k S'=some r->Q .normal (mk l') w')->WYT P ops Q s Tk l w
 | .nil,T,Tk,pl,S,l,w,k,h,ht,hv,hk=>hk _ _ _ _ h hv
 | .stop,T,Tk,pl,S,l,w,k,h,ht,hv,hk=>trivial
 | .tk i q,T,Tk,pl,S,l,w,k,h,ht,hv,hk=>by
  unfold rdt at hv;split at hv
  ·cases hv
  ·rename_i o ho
   obtain⟨S1,h1,_,e2,_,h2⟩:=zn h hv;have ht1:TOk F pl S1.own w T Tk:=ht.same (by rw[e2]);refine⟨o,ho,?_⟩;rcases h2 with ⟨hw,hv⟩ | ⟨hw,hv⟩
   ·obtain⟨d,op,ty,pos,af,gd⟩:=o
    obtain⟨s,rd,hv,v,hd,hy⟩:=E6 (d:=d) (ty:=ty) (pos:=pos) (af:=af) (gd:=gd) h1.fr h1.ent hv;obtain⟨S3,b1,b2,b3⟩:=nT h1 hd hv;refine⟨v,fun w'=>Fz (lx pl S1.own++F) w w'∧∀x∈rd,∀k,plb pl x=some k->w'.heap[k]? = w.heap[k]?,.inl ⟨hw,fun w' hY=>by rw[qD];exact hy w' hY.1 hY.2⟩,⟨Fz.refl _ _,fun _ _ _ _=>rfl⟩,?_⟩;refine wm (T:=(i,rd,true)::T) henv hcl hds b1 ⟨_,_,rfl,fun _=>⟨pl,lx pl S1.own++F,w,fun w'=>Iff.rfl,⟨Fz.refl _ _,fun _ _ _ _=>rfl⟩,by rw[b3];exact Sub.refl _ _,fun _ _ h=>h⟩,ht1.same (by rw[b3])⟩ b2 hk
   ·obtain⟨S3,b1,b2,b3⟩:=nT (s:=.k undef) (v:=undef) h1 rfl hv
    refine⟨undef,fun w'=>Fz (lx pl S1.own++F) w w'∧∀x∈([]:List Nat),∀k,plb pl x=some k->w'.heap[k]? = w.heap[k]?,.inr ⟨hw,rfl⟩,⟨Fz.refl _ _,fun _ h=>by cases h⟩,?_⟩;refine wm (T:=(i,[],true)::T) henv hcl hds b1 ⟨_,_,rfl,fun _=>⟨pl,lx pl S1.own++F,w,fun w'=>Iff.rfl,⟨Fz.refl _ _,fun _ h=>by cases h⟩,by rw[b3];exact Sub.refl _ _,fun _ _ h=>h⟩,ht1.same (by rw[b3])⟩ b2 hk
 | .alt i q rr,T,Tk,pl,S,l,w,k,h,ht,hv,hk=>by
  have one:∀{x:Option R},x=(match ops[i]? with
   | none=>none
   | some o=>grd ops S o (fun S1=>opL P env cl { S1 with log:=[] } o.op o.type fun S2 s=>match chk ds i S2.log S2.own T with
     | some T'=>oP { S2 with log:=S1.log++S2.log } o.dst s fun S3=>rdt P env cl ops ds q T' S3 k
     | none=>none)
    (fun S1=>oP S1 o.dst (.k undef) fun S3=>rdt P env cl ops ds q T S3 k))->x=some r->ane P ops Q i Tk l w (fun l' w'=>WYT P ops Q q Tk l' w'):=fun {x} hx hv=>by
   rw[hx]at hv;split at hv
   ·cases hv
   ·rename_i o ho
    refine⟨o,ho,?_⟩;obtain⟨S1,h1,_,e2,_,h2⟩:=zn h hv;have ht1:TOk F pl S1.own w T Tk:=ht.same (by rw[e2]);rcases h2 with ⟨hw,hv⟩ | ⟨hw,hv⟩
    ·obtain⟨d,op,ty,pos,af,gd⟩:=o
     rw[if_pos hw];refine Om henv hcl h1.base hv (fun pl' S' s v w' a1 a2 a3 a4=>?_);split at a4
     ·rename_i T' hT'
      have hb:=h1.back a1;obtain⟨t1,t2⟩:=Ot hds h1 a1 hT' ht1;obtain⟨S3,b1,b2,b3⟩:=nT hb a3 a4;exact⟨t2,wm henv hcl hds b1 (t1.same (by rw[b3])) b2 hk⟩
     ·cases a4
    ·obtain⟨S3,b1,b2,b3⟩:=nT (s:=.k undef) (v:=undef) h1 rfl hv
     rw[if_neg (by rw[hw];decide)];exact wm henv hcl hds b1 (ht1.same (by rw[b3])) b2 hk
  unfold rdt two at hv;split at hv
  ·rename_i hst
   have hst:rr = .stop:=by cases rr<;>simp[Sg.isStop]at hst ⊢
   subst hst;exact⟨one rfl hv,trivial⟩
  ·have:=akT hcl.1 hv
   exact⟨one rfl (this _ (by simp)),wm henv hcl hds h ht (this _ (by simp)) hk⟩
end
end Ev
end
noncomputable section
namespace Ev
open Go Go.RowKit Sx
def idF:Fr->List Nat
 | []=>[]
 | (_,s)::q=>idS s++idF q
def xD(fr:Fr):List Nat->Fr
 | []=>[]
 | t::q=>match get fr t with
  | some s=>(t,s)::xD fr q
  | none=>xD fr q
def reach(own:List (Nat×Ent)):Nat->List Nat->List Nat->List Nat
 | 0,_,d=>d
 | _,[],d=>d
 | n+1,i::q,d=>if d.contains i then reach own n q d else match get own i with
  | some e=>reach own n (idE e++q) (d++[i])
  | none=>reach own n q d
def pos:List Nat->Nat->Nat
 | [],_=>0
 | j::q,i=>if j=i then 0 else pos q i+1
def okF(ds:List Nat):Fr->Fr
 | []=>[]
 | (t,s)::q=>if (idS s).all (fun i=>ds.contains i)=true then (t,s)::okF ds q else okF ds q
def Ou(f:Nat->Nat):Fr->Fr
 | []=>[]
 | (t,s)::q=>(t,kR f s)::Ou f q
def Wd(own:List (Nat×Ent))(f:Nat->Nat)(all:List Nat):List Nat->Option (List (Nat×Ent))
 | []=>some []
 | i::q=>match get own i with
  | some e=>if (idE e).all (fun j=>all.contains j)=true then (Wd own f all q).map fun r=>(f i,FV f e)::r else none
  | none=>none
inductive Co where
 | row (t:Nat) (e:TypeId)
 | frz (t:Nat)
 | unl (t:Nat)
 | frb (t:Nat)
 | agd (t:Nat) (ty:Ty)
 | rwb (t j:Nat) (e:TypeId)
 | slf (t j:Nat)
 | opn (t:Nat) (c:List (Nat×TypeId))
 | opc (t j:Nat) (c:List (Nat×TypeId))
 | quw (t j:Nat) (e:TypeId)
structure Hint where
 co:List Co
 keep:List Nat
def Cc:Ty->List Ty
 | .pr a b=>Cc a++Cc b
 | .wr a=>Cc a
 | .un=>[]
 | t=>[t]
def dcl:SV->Ty->SV
 | .k (.slice none 0 0),.sl t=>.d (.sl t) []
 | s,_=>s
def Wh:List SV->List Ty->List SV
 | s::q,t::r=>dcl s t::Wh q r
 | q,_=>q
def uf:List Nat->St->St
 | [],S=>S
 | j::q,S=>match frz S j with
  | some S'=>uf q S'
  | none=>uf q S
def Wi(P:Program)(t:Nat)(S:St):St:=match get S.fr t with
 | some (.pb i _)=>match get S.own i with
  | some (.box _ cs)=>let S1:=uf (qj cs) S
   match get S1.own i with
   | some (.box T cs1)=>match tyc P T with
    | some y=>{ S1 with own:=jE i (.box T (Wh cs1 (Cc y))) S1.own,log:=i::S1.log }
    | none=>S1
   | _=>S1
  | _=>S
 | _=>S
def Wj(t:Nat)(ty:Ty)(S:St):St:=match get S.fr t with
 | some s=>match toD ty s with
  | some x=>if t<S.nt then { S with fr:=(t,.d ty x)::S.fr } else S
  | none=>S
 | none=>S
def Wk(P:Program)(t j:Nat)(e:TypeId)(S:St):St:=match get S.fr t,nH P e with
 | some (.pb i _),some ⟨t0,_⟩=>match get ((S.nx,Ent.row t0 e [])::S.own) i with
  | some (.box T cs)=>match cs[j]? with
   | some (.k (.slice none 0 0))=>{ S with own:=jE i (.box T (cs.set j (.row S.nx))) ((S.nx,.row t0 e [])::S.own),nx:=S.nx+1,log:=i::S.log }
   | _=>S
  | _=>S
 | _,_=>S
def Wl(P:Program)(t j:Nat)(e:TypeId)(S:St):St:=match get S.fr t,nH P e with
 | some (.pb i _),some ⟨t0,_⟩=>match get ((S.nx,Ent.que t0 e [])::S.own) i with
  | some (.box T cs)=>match cs[j]? with
   | some (.k (.slice none 0 0))=>{ S with own:=jE i (.box T (cs.set j (.row S.nx))) ((S.nx,.que t0 e [])::S.own),nx:=S.nx+1,log:=i::S.log }
   | some (.row k)=>match get S.own k with
    | some (.row t1 e1 xs)=>{ S with own:=jE k (.que t1 e1 xs) S.own,log:=k::S.log }
    | some (.que t1 e1 xs)=>if k<S.ln then match get (nR k S.nx (.que t1 e1 xs) S.own) i with
      | some (.box T cs)=>match cs[j]? with
       | some (.row k')=>if k'=k then { S with own:=jE i (.box T (cs.set j (.row S.nx))) (nR k S.nx (.que t1 e1 xs) S.own),nx:=S.nx+1,log:=i::k::S.log } else S
       | _=>S
      | _=>S
     else S
    | _=>S
   | _=>S
  | _=>S
 | _,_=>S
def Wm(t j:Nat)(S:St):St:=match get S.fr t with
 | some (.pb i _)=>match get S.own i with
  | some (.box T cs)=>match cs[j]? with
   | some (.k (.pointer none))=>{ S with own:=jE i (.box T (cs.set j (.opb false i 0))) S.own,log:=i::S.log }
   | some (.pb i' o')=>{ S with own:=jE i (.box T (cs.set j (.opb true i' o'))) S.own,log:=i::S.log }
   | _=>S
  | _=>S
 | _=>S
def anf(c:List (Nat×TypeId)):Nat->List Ty->List SV
 | _,[]=>[]
 | n,t::q=>(match get c n with
  | some _=>.k (.slice none 0 0)
  | none=>.d t (dfl t))::anf c (n+1) q
def Gj(P:Program)(i:Nat):List (Nat×TypeId)->St->St
 | [],S=>S
 | (j,e)::q,S=>Gj P i q (match nH P e with
  | some ⟨t0,_⟩=>match get ((S.nx,Ent.row t0 e [])::S.own) i with
   | some (.rowo t e0 b xs cs)=>match cs[j]? with
    | some (.k (.slice none 0 0))=>{ S with own:=jE i (.rowo t e0 b xs (cs.set j (.row S.nx))) ((S.nx,.row t0 e [])::S.own),nx:=S.nx+1,log:=i::S.log }
    | _=>S
   | _=>S
  | none=>S)
def Ov(P:Program)(i:Nat)(c:List (Nat×TypeId))(S:St):St:=match get S.own i with
 | some (.row t e xs)=>Gj P i c { S with own:=jE i (.rowo t e false xs (anf c 0 (Cc t))) S.own,log:=i::S.log }
 | some (.rowo _ _ _ _ _)=>Gj P i c S
 | _=>S
def Wo(P:Program)(t:Nat)(c:List (Nat×TypeId))(S:St):St:=match get S.fr t with
 | some (.row i)=>Ov P i c S
 | _=>S
def Wp(P:Program)(t j:Nat)(c:List (Nat×TypeId))(S:St):St:=match get S.fr t with
 | some (.pb b _)=>match get S.own b with
  | some (.box _ cs)=>match cs[j]? with
   | some (.row i)=>Ov P i c S
   | _=>S
  | _=>S
 | _=>S
def jy(P:Program):List Co->St->St
 | [],S=>S
 | .row t e::q,S=>match get S.fr t,nH P e with
  | some (.k (.slice none 0 0)),some ⟨t0,_⟩=>if t<S.nt then jy P q { S with own:=(S.nx,.row t0 e [])::S.own,nx:=S.nx+1,fr:=(t,.row S.nx)::S.fr } else jy P q S
  | _,_=>jy P q S
 | .frz t::q,S=>match get S.fr t with
  | some (.row i)=>match frz S i with
   | some S'=>jy P q S'
   | none=>jy P q S
  | some (.k (.slice none 0 0))=>jy P q S
  | _=>jy P q S
 | .unl t::q,S=>match get S.fr t with
  | some (.row i)=>match get S.own i with
   | some (.row t0 e xs)=>if i<S.ln∧t<S.nt then jy P q { S with own:=nR i S.nx (.row t0 e xs) S.own,nx:=S.nx+1,log:=i::S.log,fr:=(t,.row S.nx)::S.fr } else jy P q S
   | _=>jy P q S
  | _=>jy P q S
 | .frb t::q,S=>jy P q (Wi P t S)
 | .agd t ty::q,S=>jy P q (Wj t ty S)
 | .rwb t j e::q,S=>jy P q (Wk P t j e S)
 | .slf t j::q,S=>jy P q (Wm t j S)
 | .opn t c::q,S=>jy P q (Wo P t c S)
 | .opc t j c::q,S=>jy P q (Wp P t j c S)
 | .quw t j e::q,S=>jy P q (Wl P t j e S)
def Lc(n:Nat):List (Nat×Ent)->List Nat
 | []=>[]
 | (i,_)::q=>if i<n then i::Lc n q else Lc n q
def ug(n:Nat):List Nat->List Nat
 | []=>[]
 | i::q=>if i<n then ug n q else i::ug n q
def nmb(n:Nat)(ds:List Nat)(i:Nat):Nat:=if i<n then i else n+pos (ug n ds) i
def nrm(P:Program)(h:Hint)(S0:St):Option St :=
 match S0.up with
 | [] =>
  let S:=jy P h.co S0
  let fr:=xD S.fr h.keep
  let ds:=reach S.own 1000 (Lc S.ln S.own++idF fr) []
  if nodup ds=true then
   match Wd S.own (nmb S.ln ds) ds ds with
   | some own=>some { fr:=Ou (nmb S.ln ds) (okF ds fr),nt:=S.nt,up:=[],own:=own,nx:=S.ln+(ug S.ln ds).length,log:=[],ln:=S.ln }
   | none=>none
  else none
 | _=>none
section
variable {B:Nat->Prop}{F:Lx}{w0:Bs}{wr:Wr}{pl pl':List Place}{S S':St}{l l':List Value}{ls:List (List Value)}{w w':World}{L L' M:Lx}{P:Program}
theorem azX(h:Rel B F w0 wr pl S l ls w){t i:Nat}{t0:Ty}{e:TypeId}{xs:List (Vl t0)}(hg:get S.fr t=some (.row i))(ho:get S.own i=some (.row t0 e xs))(hlt:t<S.nt) :
  ∃pl',Rel B F w0 wr pl' { S with own:=nR i S.nx (.row t0 e xs) S.own,nx:=S.nx+1,log:=i::S.log,fr:=(t,.row S.nx)::S.fr } l ls w:=by
 obtain⟨pre,post,h1,h2⟩:=kY ho;obtain⟨p,hp,how⟩:=h.ent (i,.row t0 e xs) (iI ho);have e0:blk p.a=plb pl i:=by simp_all[plb]
 have e3:lx pl S.own=lx pl pre++plb pl i::lx pl post:=by rw[h1,mI]
 have hL:=h.hL;have hs:Stp B (lx pl pre++plb pl i::lx pl post) (lx pl pre++blk p.a::lx pl post) F [plb pl i] w w:=by rw[e0,<- e3];exact⟨(Fz.refl _ _),fun k hk=>by simp_all,Sub.refl _ _,hL⟩
 have h3:=h.rep h1 h2 hs (e':=.row t0 e xs) ⟨p,jQ _,by simp_all⟩;obtain⟨p',hp',hv⟩:=h.fr t _ hg;rw[hp]at hp';cases hp';have h4:=h3.set (d:=t) (s:=.row S.nx) (v:=.slice p.a p.n p.c) hlt ⟨p,by rw[h.nx];simp,rfl⟩
 have e1:l.set t (.slice p.a p.n p.c)=l:=by
  have:t<l.length:=by rw[h.nt];omega
  rw[<- hv,zW,zU this];simp
 grind
theorem Ox{L:Lx}:∀{cs:List SV} {ts:List Ty} {us:List Value},DenL pl L w cs us->DenL pl L w (Wh cs ts) us
 | [],ts,us,h=>by cases ts<;>exact h
 | s::q,[],us,h=>h
 | s::q,t::r,us,⟨v,vs,h1,h2,h3⟩=>by
  refine⟨v,vs,h1,?_,Ox h3⟩;unfold dcl;split
  ·cases h2
   exact wK (t:=.sl _) rfl (rE _ _ _ _ _)
  omega
theorem zq:∀{q:List Nat} {S:St},Rel B F w0 wr pl S l ls w->Rel B F w0 wr pl (uf q S) l ls w∧(uf q S).nt=S.nt
 | [],S,h=>⟨h,rfl⟩
 | j::q,S,h=>by
  unfold uf;split
  ·rename_i S' hf
   obtain⟨a,b⟩:=zq (q:=q) (Nu h hf);exact⟨a,by rw[b,Nv hf]⟩
  ·exact zq h
theorem ayw(h:Rel B F w0 wr pl S l ls w){t:Nat}:Rel B F w0 wr pl (Wi P t S) l ls w∧(Wi P t S).nt=S.nt:=by
 unfold Wi;split
 ·rename_i i o hg
  split
  ·rename_i T0 cs ho
   obtain⟨a,b⟩:=zq (q:=qj cs) h;dsimp only;split
   ·rename_i T cs1 ho1
    split
    ·rename_i y hy
     have he:=a.ent (i,.box T cs1) (iI ho1);obtain⟨g,n,c,us,h1,h2,h3,h4⟩:=he;have hmem:∀k,some k ∈ [plb pl i]->some k∈lx pl (uf (qj cs) S).own:=fun k hk=>by simp at hk;rw[hk];exact List.mem_map_of_mem (f:=fun e:Nat×Ent=>plb pl e.1) (iI ho1)
     exact⟨a.mod ho1 ⟨Fz.refl _ _,hmem,Sub.refl _ _,a.hL⟩ ⟨g,n,c,us,h1,h2,Ox h3,h4⟩,b⟩
    simp_all
   simp_all
  simp_all
 simp_all
theorem ayx(h:Rel B F w0 wr pl S l ls w){t:Nat}{ty:Ty}:Rel B F w0 wr pl (Wj t ty S) l ls w∧(Wj t ty S).nt=S.nt:=by
 unfold Wj;split
 ·rename_i s hg
  split
  ·rename_i x hx
   split
   ·rename_i hlt
    obtain⟨cs,h1,h2⟩:=lT hx (h.fr t s hg);have h3:=h.set (d:=t) (s:=.d ty x) (v:=l.getD t undef) hlt ⟨cs,h1,h2⟩
    have e1:l.set t (l.getD t undef)=l:=by
     have:t<l.length:=by rw[h.nt];omega
     rw[zW,zU this];simp
    simp_all
   simp_all
  simp_all
 simp_all
theorem ayy(h:Rel B F w0 wr pl S l ls w){t j:Nat}:Rel B F w0 wr pl (Wm t j S) l ls w∧(Wm t j S).nt=S.nt:=by
 unfold Wm;split
 ·rename_i i o hg
  split
  ·rename_i T cs ho
   have hmem:∀k,some k ∈ [plb pl i]->some k∈lx pl S.own:=fun k hk=>by simp only[List.mem_singleton]at hk;rw[hk];exact List.mem_map_of_mem (f:=fun e:Nat×Ent=>plb pl e.1) (iI ho)
   obtain⟨g,n,c,us,h1,h2,h3,h4⟩:=h.ent (i,.box T cs) (iI ho);split
   ·rename_i hc
    obtain⟨u,q1,q2⟩:=h3.at hc;have q2:u = .pointer none:=q2;subst q2;exact⟨h.mod (e':=.box T (cs.set j (.opb false i 0))) ho ⟨Fz.refl _ _,hmem,Sub.refl _ _,h.hL⟩ ⟨g,n,c,us,h1,h2,h3.setv q1 (s:=.opb false i 0) ⟨(fun e=>nomatch e),fun _=>rfl⟩,h4⟩,rfl⟩
   ·rename_i i' o' hc
    obtain⟨u,q1,q2⟩:=h3.at hc;exact⟨h.mod (e':=.box T (cs.set j (.opb true i' o'))) ho ⟨Fz.refl _ _,hmem,Sub.refl _ _,h.hL⟩ ⟨g,n,c,us,h1,h2,h3.setv q1 (s:=.opb true i' o') ⟨fun _=>q2,(fun e=>nomatch e)⟩,h4⟩,rfl⟩
   simp_all
  simp_all
 simp_all
theorem ayz(h:Rel B F w0 wr pl S l ls w){t j:Nat}{e:TypeId}:∃pl',Rel B F w0 wr pl' (Wk P t j e S) l ls w∧(Wk P t j e S).nt=S.nt:=by
 unfold Wk;split
 ·rename_i i o t0 z hg hr
  split
  ·rename_i T cs ho
   split
   ·rename_i hc
    have hS:Stp B (lx pl S.own) (blk (none:Option Addr)::lx pl S.own) F [] w w:=Stp.none h.hL rfl;have a:=h.push ⟨none,0,0⟩ (.row t0 e []) hS ⟨_,jQ _,Ow.nil _ _ _ _⟩;have ho':get ({ S with own:=(S.nx,Ent.row t0 e [])::S.own,nx:=S.nx+1 }:St).own i=some (.box T cs):=ho;obtain⟨g,n,c,us,h1,h2,h3,h4⟩:=a.ent (i,.box T cs) (iI ho');obtain⟨u,q1,q2⟩:=h3.at hc;have q2:u = .slice none 0 0:=q2;subst q2;have hmem:∀k,some k ∈ [plb (pl++[⟨none,0,0⟩]) i]->some k∈lx (pl++[⟨none,0,0⟩]) ({ S with own:=(S.nx,Ent.row t0 e [])::S.own,nx:=S.nx+1 }:St).own:=fun k hk=>by simp only[List.mem_singleton]at hk;rw[hk];exact List.mem_map_of_mem (f:=fun e:Nat×Ent=>plb (pl++[⟨none,0,0⟩]) e.1) (iI ho')
    have m:=a.mod (e':=.box T (cs.set j (.row S.nx))) ho' ⟨Fz.refl _ _,hmem,Sub.refl _ _,a.hL⟩ ⟨g,n,c,us,h1,h2,h3.setv q1 (s:=.row S.nx) ⟨⟨none,0,0⟩,by rw[h.nx];simp,rfl⟩,h4⟩;grind
   grind
  grind
 grind
theorem ayA(h:Rel B F w0 wr pl S l ls w){t j:Nat}{e:TypeId}:∃pl',Rel B F w0 wr pl' (Wl P t j e S) l ls w∧(Wl P t j e S).nt=S.nt:=by
 unfold Wl;split
 ·rename_i i o t0 z hg hr
  split
  ·rename_i T cs ho
   split
   ·rename_i hc
    have hS:Stp B (lx pl S.own) (blk (none:Option Addr)::lx pl S.own) F [] w w:=Stp.none h.hL rfl;have a:=h.push ⟨none,0,0⟩ (.que t0 e []) hS ⟨_,jQ _,Oq.of_ow (Ow.nil _ _ _ _)⟩;have ho':get ({ S with own:=(S.nx,Ent.que t0 e [])::S.own,nx:=S.nx+1 }:St).own i=some (.box T cs):=ho;obtain⟨g,n,c,us,h1,h2,h3,h4⟩:=a.ent (i,.box T cs) (iI ho');obtain⟨u,q1,q2⟩:=h3.at hc;have q2:u = .slice none 0 0:=q2;subst q2;have m:=a.told (e':=.box T (cs.set j (.row S.nx))) ho' ⟨g,n,c,us,h1,h2,h3.setv q1 (s:=.row S.nx) ⟨⟨none,0,0⟩,by rw[h.nx];simp,rfl⟩,h4⟩;exact⟨_,m,rfl⟩
   ·split
    ·rename_i k _ t1 e1 xs hk
     obtain⟨p,h1,h2⟩:=h.ent _ (iI hk);exact⟨_,h.told hk (e':=.que t1 e1 xs) ⟨p,h1,Oq.of_ow h2⟩,rfl⟩
    ·rename_i k _ t1 e1 xs hk
     split
     ·split
      ·rename_i T1 cs1 ho1
       split
       ·rename_i k' hc1
        split
        ·rename_i e
         subst e;obtain⟨p,hp,hO⟩:=h.ent _ (iI hk);obtain⟨pre,post,h1,h2⟩:=kY hk;have e0:blk p.a=plb pl k':=by simp_all[plb]
         have e3:lx pl S.own=lx pl pre++plb pl k'::lx pl post:=by rw[h1,mI]
         have hL:=h.hL;have hs:Stp B (lx pl pre++plb pl k'::lx pl post) (lx pl pre++blk p.a::lx pl post) F [plb pl k'] w w:=by rw[e0,<- e3];exact⟨(Fz.refl _ _),fun k hk=>by simp_all,Sub.refl _ _,hL⟩
         have h3:=h.rep h1 h2 hs (p:=p) (e':=.que t1 e1 xs) ⟨p,jQ _,by
          rw[e0,<- e3]
          exact hO⟩
         obtain⟨g,n,c,us,q1,q2,q3,q4⟩:=h3.ent (i,.box T1 cs1) (iI ho1);obtain⟨u,r1,p',r2,r3⟩:=q3.at hc1;rw[mZ p _ _ hp]at r2;cases r2;exact⟨_,h3.told ho1 (e':=.box T1 (cs1.set j (.row S.nx))) ⟨g,n,c,us,q1,q2,q3.setv r1 (s:=.row S.nx) ⟨p,by rw[h.nx];exact jQ _,r3⟩,q4⟩,rfl⟩
        ·exact⟨_,h,rfl⟩
       ·exact⟨_,h,rfl⟩
      ·exact⟨_,h,rfl⟩
     ·exact⟨_,h,rfl⟩
    ·exact⟨_,h,rfl⟩
   ·exact⟨_,h,rfl⟩
  ·exact⟨_,h,rfl⟩
 ·exact⟨_,h,rfl⟩
theorem tF:∀{c:List (Nat×TypeId)} {pl:List Place} {S:St} {i:Nat},Rel B F w0 wr pl S l ls w->∃pl',Rel B F w0 wr pl' (Gj P i c S) l ls w∧(Gj P i c S).nt=S.nt
 | [],pl,S,i,h=>⟨pl,h,rfl⟩
 | (j,e)::q,pl,S,i,h=>by
  unfold Gj;split
  ·rename_i t0 z hr
   split
   ·rename_i t e0 b xs cs ho
    split
    ·rename_i hc
     have hS:Stp B (lx pl S.own) (blk (none:Option Addr)::lx pl S.own) F [] w w:=Stp.none h.hL rfl;have a:=h.push ⟨none,0,0⟩ (.row t0 e []) hS ⟨_,jQ _,Ow.nil _ _ _ _⟩;have ho':get ({ S with own:=(S.nx,Ent.row t0 e [])::S.own,nx:=S.nx+1 }:St).own i=some (.rowo t e0 b xs cs):=ho;obtain⟨p,ro,us,h1,h2,h3,h4⟩:=a.ent (i,.rowo t e0 b xs cs) (iI ho')
     have m:=a.told (e':=.rowo t e0 b xs (cs.set j (.row S.nx))) ho' ⟨p,ro,us,h1,h2,h3,fun hb=>by
      have h4:=h4 hb;obtain⟨u,q1,q2⟩:=h4.at hc;have q2:u = .slice none 0 0:=q2;subst q2
      exact h4.setv q1 (s:=.row S.nx) ⟨⟨none,0,0⟩,by rw[h.nx];exact jQ _,rfl⟩⟩
     obtain⟨pl',r1,r2⟩:=tF (c:=q) (i:=i) m;exact⟨pl',r1,r2⟩
    ·exact tF h
   ·exact tF h
  ·exact tF h
theorem UA(h:Rel B F w0 wr pl S l ls w){i:Nat}{c:List (Nat×TypeId)}:∃pl',Rel B F w0 wr pl' (Ov P i c S) l ls w∧(Ov P i c S).nt=S.nt:=by
 unfold Ov;split
 ·rename_i t e xs ho
  obtain⟨p,h1,h2⟩:=h.ent _ (iI ho);obtain⟨rs,h3,h4⟩:=azG h2
  have m:=h.told (e':=.rowo t e false xs (anf c 0 (Cc t))) ho ⟨p,rs,[],h1,by
   show Ow _ _ _ _ _ _ _ (rs++[])
   simp_all,h4,fun hb=>by cases hb⟩
  grind[tF]
 ·exact tF h
 grind
theorem ayB(h:Rel B F w0 wr pl S l ls w){t:Nat}{c:List (Nat×TypeId)}:∃pl',Rel B F w0 wr pl' (Wo P t c S) l ls w∧(Wo P t c S).nt=S.nt:=by
 unfold Wo;split
 ·exact UA h
 grind
theorem ayC(h:Rel B F w0 wr pl S l ls w){t j:Nat}{c:List (Nat×TypeId)}:∃pl',Rel B F w0 wr pl' (Wp P t j c S) l ls w∧(Wp P t j c S).nt=S.nt:=by
 unfold Wp;split
 ·split
  ·split
   ·exact UA h
   grind
  grind
 grind
theorem jm:∀{q:List Co} {pl:List Place} {S:St},Rel B F w0 wr pl S l ls w->∃pl',Rel B F w0 wr pl' (jy P q S) l ls w∧(jy P q S).nt=S.nt
 | [],pl,S,h=>⟨pl,h,rfl⟩
 | .row t e::q,pl,S,h=>by
  unfold jy;split
  ·rename_i t0 z hg hr
   split
   ·rename_i hlt
    have hS:Stp B (lx pl S.own) (blk (none:Option Addr)::lx pl S.own) F [] w w:=Stp.none h.hL rfl;have h':=h.push ⟨none,0,0⟩ (.row t0 e []) hS ⟨_,jQ _,Ow.nil _ _ _ _⟩;have hv:l.getD t undef = .slice none 0 0:=h.fr t _ hg;have h2:=h'.set (d:=t) (s:=.row S.nx) (v:=.slice none 0 0) hlt ⟨⟨none,0,0⟩,by rw[h.nx];exact jQ _,rfl⟩
    have e1:l.set t (.slice none 0 0)=l:=by
     have:t<l.length:=by rw[h.nt];exact hlt
     rw[<- hv,zW,zU this];simp
    rw[e1]at h2;obtain⟨pl',a1,a2⟩:=jm (q:=q) h2;exact⟨pl',a1,a2⟩
   ·exact jm h
  ·exact jm h
 | .frz t::q,pl,S,h=>by
  unfold jy;split
  ·split
   ·rename_i S' hf
    obtain⟨pl',a1,a2⟩:=jm (q:=q) (Nu h hf);exact⟨pl',a1,by rw[a2,Nv hf]⟩
   ·exact jm h
  ·exact jm h
  ·exact jm h
 | .unl t::q,pl,S,h=>by
  unfold jy;split
  ·rename_i i hg
   split
   ·rename_i t0 e xs ho
    split
    ·rename_i hc
     obtain⟨pl1,h1⟩:=azX h hg ho hc.2;obtain⟨pl',a1,a2⟩:=jm (q:=q) h1;exact⟨pl',a1,a2⟩
    ·exact jm h
   ·exact jm h
  ·exact jm h
 | .frb t::q,pl,S,h=>by unfold jy;obtain⟨a,b⟩:=ayw (P:=P) (t:=t) h;obtain⟨pl',a1,a2⟩:=jm (q:=q) a;exact⟨pl',a1,by rw[a2,b]⟩
 | .agd t ty::q,pl,S,h=>by unfold jy;obtain⟨a,b⟩:=ayx (t:=t) (ty:=ty) h;obtain⟨pl',a1,a2⟩:=jm (q:=q) a;exact⟨pl',a1,by rw[a2,b]⟩
 | .slf t j::q,pl,S,h=>by unfold jy;obtain⟨a,b⟩:=ayy (t:=t) (j:=j) h;obtain⟨pl',a1,a2⟩:=jm (q:=q) a;exact⟨pl',a1,by rw[a2,b]⟩
 | .rwb t j e::q,pl,S,h=>by unfold jy;obtain⟨pl1,a,b⟩:=ayz (P:=P) (t:=t) (j:=j) (e:=e) h;obtain⟨pl',a1,a2⟩:=jm (q:=q) a;exact⟨pl',a1,by rw[a2,b]⟩
 | .opn t c::q,pl,S,h=>by unfold jy;obtain⟨pl1,a,b⟩:=ayB (P:=P) (t:=t) (c:=c) h;obtain⟨pl',a1,a2⟩:=jm (q:=q) a;exact⟨pl',a1,by rw[a2,b]⟩
 | .opc t j c::q,pl,S,h=>by unfold jy;obtain⟨pl1,a,b⟩:=ayC (P:=P) (t:=t) (j:=j) (c:=c) h;obtain⟨pl',a1,a2⟩:=jm (q:=q) a;exact⟨pl',a1,by rw[a2,b]⟩
 | .quw t j e::q,pl,S,h=>by unfold jy;obtain⟨pl1,a,b⟩:=ayA (P:=P) (t:=t) (j:=j) (e:=e) h;obtain⟨pl',a1,a2⟩:=jm (q:=q) a;exact⟨pl',a1,by rw[a2,b]⟩
theorem Gl{ds:List Nat}:∀{fr:Fr} {x:Nat×SV},x∈okF ds fr->x∈fr∧∀i∈idS x.2,i∈ds
 | (t,s)::q,x,h=>by
  unfold okF at h;split at h
  ·rename_i hall
   rcases List.mem_cons.1 h with h | h
   ·subst h
    exact⟨List.mem_cons_self ..,fun i hi=>by simpa using List.all_eq_true.1 hall i hi⟩
   ·obtain⟨a,b⟩:=Gl h
    exact⟨zS _ a,b⟩
  ·obtain⟨a,b⟩:=Gl h
   exact⟨zS _ a,b⟩
theorem zu{fr:Fr}:∀{q:List Nat} {x:Nat×SV},x∈xD fr q->get fr x.1=some x.2
 | t::q,x,h=>by
  unfold xD at h;split at h
  ·rename_i s hs
   rcases List.mem_cons.1 h with h | h
   ·subst h;exact hs
   ·exact zu h
  ·exact zu h
theorem Oy{f:Nat->Nat}:∀{fr:Fr} {t:Nat} {s:SV},get (Ou f fr) t=some s->∃s',(t,s')∈fr∧s=kR f s'
 | (j,q)::fr,t,s,h=>by
  unfold Ou get at h;split at h
  ·rename_i e;cases h;subst e;exact⟨q,List.mem_cons_self ..,rfl⟩
  ·obtain⟨s',h1,h2⟩:=Oy h
   exact⟨s',zS _ h1,h2⟩
theorem pos_at:∀{ds:List Nat} {i:Nat},i∈ds->ds[pos ds i]? = some i
 | j::q,i,h=>by
  unfold pos;split
  ·rename_i e;subst e;rfl
  ·rename_i hne
   rcases List.mem_cons.1 h with h | h
   ·exact absurd h.symm hne
   ·simpa using pos_at h
theorem Dg{n:Nat}:∀{ds:List Nat} {i:Nat},i∈ug n ds↔i∈ds∧¬ i<n
 | [],i=>by simp[ug]
 | j::q,i=>by
  unfold ug;split
  ·rename_i hj
   rw[Dg,List.mem_cons];constructor
   ·rintro⟨h1,h2⟩;exact⟨.inr h1,h2⟩
   ·rintro⟨h1 | h1,h2⟩
    ·subst h1;exact absurd hj h2
    ·exact⟨h1,h2⟩
  ·rename_i hj
   rw[List.mem_cons,Dg,List.mem_cons];constructor
   ·rintro (h | ⟨h1,h2⟩)
    ·subst h;exact⟨.inl rfl,hj⟩
    ·exact⟨.inr h1,h2⟩
   ·rintro⟨h1 | h1,h2⟩
    ·exact .inl h1
    ·exact .inr ⟨h1,h2⟩
def npl(pl:List Place)(n:Nat)(ds:List Nat):List Place:=pl.take n++(ug n ds).map fun i=>(pl[i]?).getD ⟨none,0,0⟩
theorem azY{n:Nat}(hn:n≤pl.length){ds:List Nat}{i:Nat}(hi:i∈ds){p:Place}(hp:pl[i]? = some p):(npl pl n ds)[nmb n ds i]? = some p:=by unfold npl nmb;grind[List.getElem?_append_left,kA,List.getElem?_take_of_lt,List.getElem?_append_right,pos,ug,pos_at,Dg]
theorem ayD{n:Nat}{ds:List Nat}{i:Nat}{p:Place}(hi:i<n)(hp:pl[i]? = some p):(npl pl n ds)[i]? = some p:=by grind[npl,List.getElem?_eq_some_iff,List.getElem?_append_left,kA,List.getElem?_take_of_lt]
theorem UB{own:List (Nat×Ent)}{f:Nat->Nat}{all:List Nat}:∀{q:List Nat} {r:List (Nat×Ent)},Wd own f all q=some r ->
  (∀x∈r,∃i e,i∈q∧get own i=some e∧(∀j∈idE e,j∈all)∧x=(f i,FV f e))∧r.map (·.1)=q.map f∧∀i∈q,∃e,get own i=some e
 | [],r,h=>by cases h;exact⟨by simp,rfl,by simp⟩
 | i::q,r,h=>by
  unfold Wd at h;split at h
  ·rename_i e hg
   split at h
   ·rename_i hall
    obtain⟨r',h1,rfl⟩:=Option.map_eq_some_iff.1 h;obtain⟨a1,a2,a3⟩:=UB h1;refine⟨fun x hx=>?_,by simp[a2],fun j hj=>?_⟩
    ·rcases List.mem_cons.1 hx with hx | hx
     ·exact⟨i,e,List.mem_cons_self ..,hg,fun j hj=>by simpa using List.all_eq_true.1 hall j hj,hx⟩
     ·obtain⟨i',e',b1,b2⟩:=a1 x hx
      exact⟨i',e',zS _ b1,b2⟩
    ·rcases List.mem_cons.1 hj with hj | hj
     ·subst hj;exact⟨e,hg⟩
     ·exact a3 j hj
   ·cases h
  ·cases h
theorem Oz{hi:Hint}{S0:St}(h:Rel B F w0 wr pl S0 l ls w)(hn:nrm P hi S0=some S'):∃wr' pl',Rel B F w0 wr' pl' S' l ls w:=by
 unfold nrm at hn;split at hn
 ·rename_i hup
  obtain⟨pl1,h1,hnt⟩:=jm (P:=P) (q:=hi.co) h;have hls:ls=[]:=by have:=h.up;rw[hup]at this;exact this
  generalize jy P hi.co S0=S at hn h1 hnt;simp only at hn;generalize hds:reach S.own 1000 (Lc S.ln S.own++idF (xD S.fr hi.keep)) []=ds at hn
  have hln:S.ln≤pl1.length:=by
   rw[h1.hln];rcases Nat.eq_zero_or_pos w0.pl.length with h0 | h0
   ·omega
   ·have:=(List.getElem?_eq_some_iff.1 (h1.pre (w0.pl.length - 1) _ (zU (by omega)))).1
    omega
  split at hn
  ·rename_i hnd
   have hnd:=wX hnd;split at hn
   ·rename_i own hown
    cases hn
    obtain⟨r1,r2,r3⟩:=UB hown;have hplace:∀i∈ds,∃p,pl1[i]? = some p:=fun i hi=>by obtain⟨e,he⟩:=r3 i hi;exact (h1.ent _ (iI he)).place
    have hren:∀i∈ds,(npl pl1 S.ln ds)[nmb S.ln ds i]? = pl1[i]?:=fun i hi=>by grind[azY]
    have hplb:∀i∈ds,plb (npl pl1 S.ln ds) (nmb S.ln ds i)=plb pl1 i:=fun i hi=>by simp_all[plb]
    have hlx:lx (npl pl1 S.ln ds) own=ds.map (plb pl1):=by
     have:lx (npl pl1 S.ln ds) own=(own.map (·.1)).map (plb (npl pl1 S.ln ds)):=by unfold lx;simp
     simp_all
    have hin:∀k,some k∈ds.map (plb pl1)->some k∈lx pl1 S.own:=fun k hk=>by obtain⟨i,hi,hk⟩:=List.mem_map.1 hk;obtain⟨e,he⟩:=r3 i hi;rw[<- hk];exact List.mem_map_of_mem (f:=fun e:Nat×Ent=>plb pl1 e.1) (iI he)
    have hL:LOk B (ds.map (plb pl1)) F w:=by refine⟨?_,fun k hk=>h1.hL.lo k (hin k hk),fun k hk=>h1.hL.hi k (hin k hk),h1.hL.base,h1.hL.far⟩;rw[List.pairwise_map];rw[List.pairwise_iff_getElem];intro i j hi hj hij k hk hk';obtain⟨e,he⟩:=r3 ds[i] (List.getElem_mem hi);obtain⟨e',he'⟩:=r3 ds[j] (List.getElem_mem hj);have hne:ds[i]≠ds[j]:=fun e=>(List.pairwise_iff_getElem.1 hnd) i j hi hj hij e;exact LOk.apart2 h1.hL he he' hne hk hk'
    have hs:Sub w (ds.map (plb pl1)++F) (lx pl1 S.own++F):=fun k hk=>by grind
    have hx:Ext pl1 (lx pl1 S.own++F) w pl1 (ds.map (plb pl1)++F) w:=⟨fun _ _ h=>h,by intro α R cs x h;exact R.grow h hs,by intro α R b o x h;exact h.grow hs⟩
    have hrel:Rel B F w0 ⟨w,lx (npl pl1 S.ln ds) own++F,S.ln+(ug S.ln ds).length,npl pl1 S.ln ds,ids own⟩ (npl pl1 S.ln ds) { fr:=Ou (nmb S.ln ds) (okF ds (xD S.fr hi.keep)),nt:=S.nt,up:=[],own:=own,nx:=S.ln+(ug S.ln ds).length,log:=[],ln:=S.ln } l [] w:=by
     refine⟨by simp_all,h1.hB,fun i p hi=>ayD (by rw[h1.hln];grind) (h1.pre i p hi),h1.hI,h1.hln,by grind[npl],h1.nt,fun x hx'=>?_,fun t s hs'=>?_,rfl,⟨Fz.refl _ _,Sub.refl _ _,Nat.le_refl _,fun _ _ h=>h,fun e he _=>List.mem_map_of_mem (f:=fun e:Nat×Ent=>e.1) he,fun _ _ _ _ _ _=>rfl⟩⟩
     ·obtain⟨i,e,b1,b2,b3,rfl⟩:=r1 x hx'
      have hE:=h1.ent _ (iI b2);show EntD (npl pl1 S.ln ds) (lx (npl pl1 S.ln ds) own++F) w (nmb S.ln ds i) (FV (nmb S.ln ds) e);rw[hlx];exact NH (fun j hj=>hren j (b3 j hj)) (hren i b1) (hE.ext hx (fun k _=>rfl) (fun _ _ _ _ _ h=>h.grow hs))
     ·obtain⟨s',h2,rfl⟩:=Oy hs'
      obtain⟨h3,h4⟩:=Gl h2;have h5:=h1.fr t s' (zu h3);show Den (npl pl1 S.ln ds) (lx (npl pl1 S.ln ds) own++F) w _ _;rw[hlx];exact wW (fun j hj=>hren j (h4 j hj)) (h5.ext hx)
    grind
   grind
  grind
 grind
end
end Ev
end
noncomputable section
namespace Ev
open Go Go.RowKit Sx
inductive Ex where
 | n
 | r
 | x (id:Nat)
abbrev Kt(R:Type):=Ex->St->Option R
section
variable {R:Type}
def jG(P:Program)(h:Option Hint)(g:St->Option R)(k:Kt R):Kt R:=fun e S=>match e with
 | .n=>match h with
  | some h=>(nrm P h S).bind g
  | none=>g S
 | .r=>k .r S
 | .x i=>k (.x i) S
def zw(id:Nat)(k:Kt R):Kt R:=fun e S=>match e with
 | .n=>k .n S
 | .r=>k .r S
 | .x i=>if i=id then k .n S else k (.x i) S
def UC:Op->Bool
 | .move _ | .assign _ | .pick .. | .binOp .. | .unOp .. | .convert .. | .indexAddr .. | .index .. | .fieldAddr .. | .field .. | .load .. | .extract .. | .build .. | .slice .. | .makeFunc .. | .makeInterface .. | .lookup .. | .entry .. | .nilCheck ..=>true
 | .call ⟨.builtin .len,_,_⟩ | .call ⟨.builtin .min,_,_⟩ | .call ⟨.builtin .max,_,_⟩=>true
 | _=>false
def sched(ops:Array Oper):Nat->Array Bool->List (Nat×Bool)
 | 0,_=>[]
 | n+1,listed =>
  let rs:=Region.ready .any ops listed
  match rs.find? (fun i=>((ops[i]?).map fun o=>UC o.op).getD false && Region.free .any ops listed i) with
  | some i=>(i,true)::sched ops n (listed.setIfInBounds i true)
  | none=>match rs with
   | i::_=>(i,false)::sched ops n (listed.setIfInBounds i true)
   | []=>[]
def sch(ops:List Oper):List (Nat×Bool):=sched ops.toArray ops.length (Array.replicate ops.length false)
def atH(P:Program)(ops:List Oper):Bool :=
 P.follows .mixedOrders && (Region.noSelect ops.toArray && oz ops.toArray (sch ops) (Array.replicate ops.toArray.size false) && decide ((sch ops).length≤ops.toArray.size))
def ang(ops:Array Oper):Nat->Array Bool->Sg
 | 0,_=>.nil
 | n+1,listed =>
  let rs:=Region.ready .any ops listed
  match rs.find? (fun i=>((ops[i]?).map fun o=>UC o.op).getD false && Region.free .any ops listed i) with
  | some i=>.tk i (ang ops n (listed.setIfInBounds i true))
  | none=>match rs with
   | []=>.nil
   | _::_=>rs.foldr (fun i r=>.alt i (ang ops n (listed.setIfInBounds i true)) r) .stop
def sgT(ops:List Oper):Sg:=ang ops.toArray ops.length (Array.replicate ops.length false)
def ak0(P:Program)(ops:List Oper):Bool :=
 P.follows .mixedOrders && (Region.noSelect ops.toArray && qK ops.toArray false (sgT ops) (Array.replicate ops.toArray.size false))
def Sg.cnt:Sg->Nat
 | .nil=>1
 | .tk _ q=>q.cnt
 | .alt _ q r=>q.cnt+r.cnt
 | .stop=>0
def Wq(P:Program)(env:Env)(cl:Cl R)(ops:List Oper)(draw:Bool)(S:St)(k:St->Option R):Option R :=
 if draw=true then (if atH P ops=true then rdw P env cl ops (dps ops []) (sV ops (sch ops)) [] S k else if ak0 P ops=true then rdt P env cl ops (dps ops []) (sgT ops) [] S k else none) else rg P env cl ops ops S k
def ev(P:Program)(env:Env)(cl:Cl R)(fuel:Nat)(hs:Nat->Option Hint):Nat->Code->St->Kt R->Option R
 | _,.skip,S,k=>k .n S
 | _,.label _,S,k=>k .n S
 | _,.ret,S,k=>k .r S
 | _,.exit id,S,k=>k (.x id) S
 | p,.seq x y,S,k=>ev P env cl fuel hs (2*p) x S (jG P (hs p) (fun S'=>ev P env cl fuel hs (2*p+1) y S' k) k)
 | p,.block id c,S,k=>ev P env cl fuel hs (2*p) c S (zw id k)
 | p,.cond c x y,S,k=>match c with
  | .tmp t=>if t<S.nt then match get S.fr t with
   | some (.d .bool b)=>if b=true then ev P env cl fuel hs (2*p) x { S with fr:=(t,.d .bool true)::S.fr } k else ev P env cl fuel hs (2*p+1) y { S with fr:=(t,.d .bool false)::S.fr } k
   | _=>none else none
  | .const (.bool b)=>if b=true then ev P env cl fuel hs (2*p) x S k else ev P env cl fuel hs (2*p+1) y S k
  | _=>none
 | _,.region _ ⟨ops⟩ draw,S,k=>Wq P env cl ops draw S (k .n)
 | p,.loop c,S,k=>match hs p with
  | some h=>(nrm P h S).bind fun S0=>ay (fun self S=>ev P env cl fuel hs (2*p) c S (jG P (hs p) self k)) fuel S0
  | none=>ay (fun self S=>ev P env cl fuel hs (2*p) c S (jG P (hs p) self k)) fuel S
 | _,.rangeFunc _ _ _ _,_,_=>none
 | _,.scope _,_,_=>none
 | _,.goto _,_,_=>none
 | _,.refuse _,_,_=>none
end
def Ws:Ex->Exit
 | .n=>.normal
 | .r=>.ret
 | .x i=>.exit i
section
variable {R:Type}{B:Nat->Prop}{F:Lx}{w0:Bs}{P:Program}{env:Env}{cl:Cl R}{fuel:Nat}{hs:Nat->Option Hint}{r:R}{ls:List (List Value)}
def KOk(B:Nat->Prop)(F:Lx)(w0:Bs)(ls:List (List Value))(wr:Wr)(Hn:Prop)(k:Kt R)(r:R)(Q:Exit->Act->World->Prop):Prop :=
 ∀e wr' pl S l w,Rel B F w0 wr' pl S l ls w->(Hn->wr'=wr)->k e S=some r->Q (Ws e) (mk l) w
theorem ayE(henv:nI P w0.I env)(hcl:w9 P w0.I cl){ops:List Oper}{draw:Bool}{id:Nat}{wr:Wr}{pl:List Place}{S:St}{l:List Value}{w:World}{k:St->Option R}{Q:Exit->Act->World->Prop}(hQ:PF Q)
  (h:Rel B F w0 wr pl S l ls w) (hv:Wq P env cl ops draw S k=some r)
  (hk:∀pl' S' l' w',Rel B F w0 wr pl' S' l' ls w'->k S'=some r->Q .normal (mk l') w'):CW P (.region id ⟨ops⟩ draw) Q l w:=by
 unfold Wq at hv;split at hv
 ·rename_i hd
  subst hd;split at hv
  ·rename_i hr
   simp only[atH,zO]at hr;have hB:(Region.noSelect ops.toArray && oz ops.toArray (sch ops) (Array.replicate ops.toArray.size false) && decide ((sch ops).length≤ops.toArray.size))=true:=by simp_all
   refine FJ (sch ops) hr.1 hB hQ ?_;exact zo (T:=[]) henv hcl (Oo ops [] [] (by simp) rfl (fun j m p hj=>by grind)) (h.call (Fz.drew _ _)) rfl hv hk
  ·split at hv
   ·rename_i hr
    simp only[ak0,zO]at hr;refine Gi (sgT ops) hr.1 (by simp_all) hQ ?_;exact wm (T:=[]) henv hcl (Oo ops [] [] (by simp) rfl (fun j m p hj=>by grind)) (h.call (Fz.drew _ _)) rfl hv hk
   grind
 grind[akn,V9]
theorem qp(henv:nI P w0.I env)(hcl:w9 P w0.I cl){Hn:Prop}(hHn:Hn->∀p,hs p=none):∀(c:Code) (p:Nat) (wr:Wr) (pl:List Place) (S:St) (l:List Value) (w:World) (k:Kt R) (Q:Exit->Act->World->Prop),PF Q ->
  Rel B F w0 wr pl S l ls w->ev P env cl fuel hs p c S k=some r->KOk B F w0 ls wr Hn k r Q->CW P c Q l w
 | .skip,p,wr,pl,S,l,w,k,Q,hQ,h,hv,hk=>axW (hk .n wr pl S l w h (fun _=>rfl) (by simpa [ev]using hv))
 | .label _,p,wr,pl,S,l,w,k,Q,hQ,h,hv,hk=>amh (hk .n wr pl S l w h (fun _=>rfl) (by simpa [ev]using hv))
 | .ret,p,wr,pl,S,l,w,k,Q,hQ,h,hv,hk=>azu (hk .r wr pl S l w h (fun _=>rfl) (by simpa [ev]using hv))
 | .exit id,p,wr,pl,S,l,w,k,Q,hQ,h,hv,hk=>axX (hk (.x id) wr pl S l w h (fun _=>rfl) (by simpa [ev]using hv))
 | .seq x y,p,wr,pl,S,l,w,k,Q,hQ,h,hv,hk=>by
  rw[ev]at hv;refine azv (qp henv hcl hHn x (2*p) wr pl S l w _ _ hQ.then h hv (fun e wr' pl' S' l' w' h' hw hv'=>?_))
  cases e with
  | n =>
   unfold jG at hv';simp only at hv';refine azw ?_;split at hv'
   ·rename_i hn hpn
    obtain⟨S1,h1,hv'⟩:=iy hv';obtain⟨wr2,pl2,h2⟩:=Oz h' h1;exact qp henv hcl hHn y (2*p+1) wr2 pl2 S1 l' w' k Q hQ h2 hv' (fun e wr3 pl3 S3 l3 w3 a1 a2 a3=>hk e wr3 pl3 S3 l3 w3 a1 (fun hn=>by have:=hHn hn p;rw[hpn]at this;cases this) a3)
   ·exact qp henv hcl hHn y (2*p+1) wr' pl' S' l' w' k Q hQ h' hv' (fun e wr3 pl3 S3 l3 w3 a1 a2 a3=>hk e wr3 pl3 S3 l3 w3 a1 (fun hn=>(a2 hn).trans (hw hn)) a3)
  | r=>exact MW (hk .r wr' pl' S' l' w' h' hw hv')
  | x i=>exact J8 (hk (.x i) wr' pl' S' l' w' h' hw hv')
 | .block id c,p,wr,pl,S,l,w,k,Q,hQ,h,hv,hk=>by
  rw[ev]at hv;refine ami (qp henv hcl hHn c (2*p) wr pl S l w _ _ hQ.inBlock h hv (fun e wr' pl' S' l' w' h' hw hv'=>?_))
  cases e with
  | n=>exact akm (hk .n wr' pl' S' l' w' h' hw hv')
  | r=>exact TL (hk .r wr' pl' S' l' w' h' hw hv')
  | x i =>
   unfold zw at hv';simp only at hv';split at hv'
   ·rename_i hi
    subst hi;exact MX (hk .n wr' pl' S' l' w' h' hw hv')
   ·rename_i hi
    exact KL (by simpa using hi) (hk (.x i) wr' pl' S' l' w' h' hw hv')
 | .cond c x y,p,wr,pl,S,l,w,k,Q,hQ,h,hv,hk=>by
  unfold ev at hv;split at hv
  ·rename_i t
   split at hv
   ·rename_i hlt
    split at hv
    ·rename_i b hb
     have hd:=lG (h.fr t _ hb)
     have hs2:∀b',b'=b->Rel B F w0 wr pl { S with fr:=(t,.d .bool b')::S.fr } l ls w:=fun b' e=>by
      subst e;have h2:=h.set hlt (h.fr t _ hb)
      have e:l.set t (l.getD t undef)=l:=by
       have:t<l.length:=by rw[h.nt];exact hlt
       rw[zW,zU this];simp
      rw[e]at h2;exact h2
     refine T9 (t:=b) hd (fun hb1=>?_) (fun hb1=>?_)
     ·rw[if_pos hb1]at hv
      exact qp henv hcl hHn x (2*p) wr pl _ l w k Q hQ (hs2 true hb1.symm) hv hk
     ·rw[if_neg (by rw[hb1];decide)]at hv
      exact qp henv hcl hHn y (2*p+1) wr pl _ l w k Q hQ (hs2 false hb1.symm) hv hk
    ·cases hv
   ·cases hv
  ·rename_i b
   refine T9 (t:=b) rfl (fun hb1=>?_) (fun hb1=>?_)
   ·rw[if_pos hb1]at hv
    exact qp henv hcl hHn x (2*p) wr pl _ l w k Q hQ h hv hk
   ·rw[if_neg (by rw[hb1];decide)]at hv
    exact qp henv hcl hHn y (2*p+1) wr pl _ l w k Q hQ h hv hk
  ·cases hv
 | .region id ⟨ops⟩ draw,p,wr,pl,S,l,w,k,Q,hQ,h,hv,hk=>by rw[ev]at hv;exact ayE henv hcl hQ h hv (fun pl' S' l' w' a1 a2=>hk .n wr pl' S' l' w' a1 (fun _=>rfl) a2)
 | .loop c,p,wr,pl,S,l,w,k,Q,hQ,h,hv,hk=>by
  have body:∀(self:St->Option R) (s:St) (l:List Value) (w:World),(∃wr' pl',Rel B F w0 wr' pl' s l ls w∧(Hn->wr'=wr))->ev P env cl fuel hs (2*p) c s (jG P (hs p) self k)=some r ->
    CW P c (Exit.then (fun a w=>∃l',a=mk l'∧∃s',(∃wr' pl',Rel B F w0 wr' pl' s' l' ls w∧(Hn->wr'=wr))∧self s'=some r) Q) l w:=by
   rintro self s l w ⟨wr1,pl1,h1,hw1⟩ hv;refine qp henv hcl hHn c (2*p) wr1 pl1 s l w _ _ hQ.then h1 hv (fun e wr' pl' S' l' w' h' hw hv'=>?_)
   cases e with
   | n =>
    unfold jG at hv';simp only at hv';show ∃l'',mk l'=mk l''∧_;split at hv'
    ·rename_i hn hpn
     obtain⟨S1,h1,hv'⟩:=iy hv';obtain⟨wr2,pl2,h2⟩:=Oz h' h1;exact⟨l',rfl,S1,⟨wr2,pl2,h2,fun hn=>by have:=hHn hn p;rw[hpn]at this;cases this⟩,hv'⟩
    ·exact⟨l',rfl,S',⟨wr',pl',h',fun hn=>(hw hn).trans (hw1 hn)⟩,hv'⟩
   | r=>exact MW (hk .r wr' pl' S' l' w' h' (fun hn=>(hw hn).trans (hw1 hn)) hv')
   | x i=>exact J8 (hk (.x i) wr' pl' S' l' w' h' (fun hn=>(hw hn).trans (hw1 hn)) hv')
  rw[ev]at hv;split at hv
  ·rename_i hn hpn
   obtain⟨S1,h1,hv⟩:=iy hv;obtain⟨wr2,pl2,h2⟩:=Oz h h1;exact Ua _ r (fun s l w=>∃wr' pl',Rel B F w0 wr' pl' s l ls w∧(Hn->wr'=wr)) body ⟨wr2,pl2,h2,fun hn=>by have:=hHn hn p;rw[hpn]at this;cases this⟩ hv
  ·exact Ua _ r (fun s l w=>∃wr' pl',Rel B F w0 wr' pl' s l ls w∧(Hn->wr'=wr)) body ⟨wr,pl,h,fun _=>rfl⟩ hv
 | .rangeFunc _ _ _ _,p,wr,pl,S,l,w,k,Q,hQ,h,hv,hk=>by rw[ev]at hv;cases hv
 | .scope _,p,wr,pl,S,l,w,k,Q,hQ,h,hv,hk=>by rw[ev]at hv;cases hv
 | .goto _,p,wr,pl,S,l,w,k,Q,hQ,h,hv,hk=>by rw[ev]at hv;cases hv
 | .refuse _,p,wr,pl,S,l,w,k,Q,hQ,h,hv,hk=>by rw[ev]at hv;cases hv
end
end Ev
end
