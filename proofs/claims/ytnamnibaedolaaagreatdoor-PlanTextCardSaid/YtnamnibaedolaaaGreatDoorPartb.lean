/- Proved in the last of these 15 parts (this is part 2): PlanText. Conditions: those of the given statement, and no others. -/
import Derived.Test.YtnamnibaedolaaaGreatDoorParta
import Derived.Laws.IdiomRangeMap
import Derived.KernelRfl
import Derived.Laws.BytesArg
import Derived.Lib.ConvBytes
import Derived.Lib.Builder
import Derived.Lib.AppendStr
import Derived.Lib.AppendZerosOnto
import Derived.Maps.AppendAt
set_option linter.unusedVariables false
set_option linter.unusedSimpArgs false
set_option linter.unusedSectionVars false
open List renaming replicate → zC, mem_cons_of_mem → zO, getElem?_eq_some_iff → zR, length_take → zW
open Go.Result renaming andThen_ok → zJ
open Int renaming eq_ofNat_of_zero_le → zK, toNat_natCast → zM
open Option renaming map_eq_some_iff → zN
noncomputable section
namespace Ev
open Go Go.RowKit Sx
inductive Ent where
 | row (t:Ty) (e:TypeId) (xs:List (Vl t))
 | box (T:TypeId) (cs:List SV)
 | dm (kt vt:Ty) (xs:List (Vl kt×Vl vt))
 | sm (kt:Ty) (cl:Nat) (es:List (Nat×Vl kt×SV))
 | it (m cl:Nat) (seen:List Nat)
 | rowo (t:Ty) (e:TypeId) (b:Bool) (xs:List (Vl t)) (cs:List SV)
 | rowq (e:TypeId) (us:List Value) (k:Int) (cs:List SV)
 | itd (kt vt:Ty) (cur rest:List (Vl kt×Vl vt))
 | que (t:Ty) (e:TypeId) (xs:List (Vl t))
def kP(n:Nat):Rp (List Value) where
 size:=n
 agg:=true
 rel:=fun _ _ cs x=>cs=x∧x.length=n∧∀v∈x,v.oneCell'=true
 len:=by simp_all
 one:=by simp
 mono:=by simp_all
 grow:=by simp_all
def RawD(t:Ty)(L:Lx)(w:World):List (List Value)->List (Vl t)->Prop
 | [],xs=>xs=[]
 | c::q,xs=>∃x r,xs=x::r∧(rp t).rel L w c x∧RawD t L w q r
theorem RawD.len{t:Ty}{L:Lx}{w:World}:∀{ro:List (List Value)} {xs:List (Vl t)},RawD t L w ro xs->ro.length=xs.length
 | [],_,h=>by cases h;rfl
 | _::_,_,⟨x,r,h1,_,h3⟩=>by subst h1;simp[h3.len]
theorem RawD.append{t:Ty}{L:Lx}{w:World}:∀{ro rq:List (List Value)} {xs ys:List (Vl t)},RawD t L w ro xs->RawD t L w rq ys->RawD t L w (ro++rq) (xs++ys)
 | [],_,_,_,h,h'=>by cases h;exact h'
 | _::_,_,_,_,⟨x,r,h1,h2,h3⟩,h'=>by subst h1;exact⟨x,r++_,rfl,h2,h3.append h'⟩
theorem RawD.ext{t:Ty}{pl pl':List Place}{L L':Lx}{w w':World}(e:Ext pl L w pl' L' w'):∀{ro:List (List Value)} {xs:List (Vl t)},RawD t L w ro xs->RawD t L' w' ro xs
 | [],_,h=>h
 | _::_,_,⟨x,r,h1,h2,h3⟩=>⟨x,r,h1,e.rel _ h2,h3.ext e⟩
theorem M6{t:Ty}{L:Lx}{w:World}:∀{rs:List (List Value)} {xs:List (Vl t)} {cells:List Value},RawD t L w rs xs->RowsOf (kP t.size) L w cells rs->RowsOf (rp t) L w cells xs
 | [],_,_,h,h'=>by cases h;exact h'
 | _::_,_,_,⟨x,r,h1,h2,h3⟩,⟨c,rest,h4,h5,h6⟩=>by subst h1;obtain⟨rfl,_⟩:=h5;exact⟨c,rest,h4,h2,M6 h3 h6⟩
theorem M7{t:Ty}{L:Lx}{w:World}:∀{xs:List (Vl t)} {cells:List Value},RowsOf (rp t) L w cells xs->∃rs,RowsOf (kP t.size) L w cells rs∧RawD t L w rs xs
 | [],_,h=>⟨[],h,rfl⟩
 | x::_,_,⟨c,rest,h1,h2,h3⟩=>by obtain⟨rs,h4,h5⟩:=M7 h3;exact⟨c::rs,⟨c,rest,h1,⟨rfl,by rw[(rp t).len h2,bV],(rp t).one h2⟩,h4⟩,x,_,rfl,h2,h5⟩
theorem Y9{t:Ty}{e:TypeId}{L:Lx}{w:World}{a:Option Addr}{n c:Nat}{rs:List (List Value)}{xs:List (Vl t)}(h:Ow (kP t.size) e L w a n c rs)(hr:RawD t L w rs xs):Ow (rp t) e L w a n c xs:=by obtain⟨rfl,cells,h1,h2⟩:=h;have hl:=hr.len;refine⟨hl,cells,?_,M6 hr h2⟩;rw[<- hl,bV];exact h1
theorem Za{t:Ty}{e:TypeId}{L:Lx}{w:World}{a:Option Addr}{n c:Nat}{xs:List (Vl t)}(h:Ow (rp t) e L w a n c xs):∃rs,Ow (kP t.size) e L w a n c rs∧RawD t L w rs xs:=by obtain⟨rfl,cells,h1,h2⟩:=h;obtain⟨rs,h3,h4⟩:=M7 h2;have hl:=h4.len;refine⟨rs,⟨hl.symm,cells,?_,h3⟩,h4⟩;rw[hl];rw[bV]at h1;exact h1
def Oq{α:Type}(R:Rp α)(e:TypeId)(L:Lx)(w:World)(a:Option Addr)(n c:Nat)(xs:List α):Prop :=
 n=xs.length∧n≤c∧c≤maxLen∧(∀k,blk a=some k->k<w.heap.size)∧(c≠0->∃g o cur cells,a=some ⟨g,o,none⟩∧w.heap[g]? = some (.cells cur e (0,0))∧o+c*R.size≤cur.size∧RowsOf R L w cells xs∧(cur.toList.drop o).take cells.length=cells)
theorem Oq.of_ow{α:Type}{R:Rp α}{e:TypeId}{L:Lx}{w:World}{a:Option Addr}{n c:Nat}{xs:List α}(h:Ow R e L w a n c xs):Oq R e L w a n c xs:=by
 obtain⟨rfl,cells,⟨h0,h1⟩,h2⟩:=h;rcases h1 with ⟨hv,hn⟩ | ⟨g,cap,cur,hv,_,hg,hc,hm,hs,ht⟩
 ·simp at hv
  obtain⟨rfl,hx,rfl⟩:=hv;exact⟨rfl,by omega,Nat.zero_le _,fun k hk=>(by cases hk),fun hne=>absurd rfl hne⟩
 ·simp at hv
  obtain⟨rfl,rfl⟩:=hv;exact⟨rfl,hc,hm,fun k hk=>by cases hk;exact (Array.getElem?_eq_some_iff.1 hg).1,fun _=>⟨g,0,cur,cells,rfl,hg,by omega,h2,by rw[h0];exact ht⟩⟩
theorem Oq.ext{α:Type}{R:Rp α}{e:TypeId}{L L':Lx}{w w':World}{a:Option Addr}{n c:Nat}{xs:List α}(h:Oq R e L w a n c xs)(hr:∀cs x,R.rel L w cs x->R.rel L' w' cs x)(hb:∀k,blk a=some k->w'.heap[k]? = w.heap[k]?):Oq R e L' w' a n c xs:=by
 obtain⟨h1,h2,h3,h4,h5⟩:=h;refine⟨h1,h2,h3,fun k hk=>by have:=hb k hk;rw[Array.getElem?_eq_getElem (h4 k hk)]at this;exact (Array.getElem?_eq_some_iff.1 this).1,fun hne=>?_⟩;obtain⟨g,o,cur,cells,rfl,h6,h7,h8,h9⟩:=h5 hne;refine⟨g,o,cur,cells,rfl,by rw[hb g rfl];exact h6,h7,?_,h9⟩;clear h1 h2 h9 h5
 induction xs generalizing cells with
 | nil=>exact h8
 | cons x q ih =>
  obtain⟨c1,r1,e1,e2,e3⟩:=h8;exact⟨c1,r1,e1,hr _ _ e2,ih _ e3⟩
def opn(b:Bool)(us:List Value):List (List Value):=if b=true then [us] else []
def DmD(L:Lx)(w:World){kt vt:Ty}:List (Vl kt×Value)->List (Vl kt×Vl vt)->Prop
 | [],xs=>xs=[]
 | a::r,xs=>∃b q,xs=b::q∧a.1=b.1∧(∃cs,(rp vt).rel L w cs b.2∧a.2=(rp vt).val cs)∧DmD L w r q
def SmD(pl:List Place)(L:Lx)(w:World){kt:Ty}:List MapEntry->List (Nat×Vl kt×SV)->Prop
 | [],xs=>xs=[]
 | a::r,xs=>∃b q,xs=b::q∧a.born=b.1∧a.key=bM kt b.2.1∧Den pl L w b.2.2 a.val∧SmD pl L w r q
abbrev Fr:=List (Nat×SV)
structure St where
 fr:Fr
 nt:Nat
 up:List (Nat×Fr)
 own:List (Nat×Ent)
 nx:Nat
 log:List Nat
 ln:Nat
def get{α:Type}:List (Nat×α)->Nat->Option α
 | [],_=>none
 | (i,x)::r,j=>if i=j then some x else get r j
theorem get_mem{α:Type}:∀{l:List (Nat×α)} {j:Nat} {x:α},get l j=some x->(j,x)∈l
 | (i,y)::r,j,x,h=>by
  unfold get at h;split at h
  ·rename_i e;cases h;subst e;exact List.mem_cons_self ..
  ·exact zO _ (get_mem h)
def plb(pl:List Place)(i:Nat):Option Nat:=(pl[i]?).bind fun p=>blk p.a
def lx(pl:List Place)(own:List (Nat×Ent)):Lx:=own.map fun e=>plb pl e.1
def TA{α β:Type}(kv:α->Value)(R:Rp β):Rp (Array MapEntry×Nat×List (α×Value)×List (α×β)×List (α×Value)×List (α×β)) where
 size:=1
 agg:=false
 rel:=fun L w cs x=>∃g,cs=[.map (some g)]∧some g ∉ L∧g<w.heap.size∧w.heap[g]? = some (.map x.1 x.2.1)∧MapKept.Stamped x.1 x.2.1∧DmR R L w x.2.2.1 x.2.2.2.1∧DmR R L w x.2.2.2.2.1 x.2.2.2.2.2
 len:=by rintro L w cs x ⟨g,rfl,_⟩;rfl
 one:=by rintro L w cs x ⟨g,rfl,_⟩;simp[Value.oneCell']
 mono:=by rintro L w w' cs x ⟨g,h1,h2,h3,h4,h5,h6,h7⟩ hf;exact⟨g,h1,h2,Nat.lt_of_lt_of_le h3 hf.size,(hf.block g h3 h2).trans h4,h5,h6.mono hf,h7.mono hf⟩
 grow:=by rintro L L' w cs x ⟨g,h1,h2,h3,h4,h5,h6,h7⟩ hs;exact⟨g,h1,fun hg=>(hs g hg).elim h2 (fun h=>by omega),h3,h4,h5,h6.grow hs,h7.grow hs⟩
def alV{kt:Ty}(es:Array MapEntry)(seen:Array Nat):List (Vl kt×Value)->Prop
 | []=>True
 | v::_=>∃(i:Array Nat) (e:MapEntry),seen=i.push e.born∧e∈es.toList∧e.key=bM kt v.1∧e.val=v.2
abbrev dI(x:Int):SV:=.d (.int .i64) x
abbrev dB(x:Bool):SV:=.d .bool x
abbrev d8(x:Int):SV:=.d (.int .u8) x
abbrev d6(x:Int):SV:=.d (.int .u16) x
abbrev d2(x:Int):SV:=.d (.int .u32) x
abbrev dL(x:List Int):SV:=.d (.sl (.int .u8)) x
abbrev dW(x:List Int):SV:=.d (.sl (.int .u16)) x
abbrev dS(x:List UInt8):SV:=.d .str x
def EntD(pl:List Place)(L:Lx)(w:World)(i:Nat):Ent->Prop
 | .row t e xs=>∃p,pl[i]? = some p∧Ow (rp t) e L w p.a p.n p.c xs
 | .box T cs=>∃g n c us,pl[i]? = some ⟨some ⟨g,0,none⟩,n,c⟩∧Bx w g us T∧DenL pl L w cs us∧∀v∈us,v.oneCell'=true
 | .dm kt vt xs=>∃g n c vs,pl[i]? = some ⟨some ⟨g,0,none⟩,n,c⟩∧MapIs (bM kt) (fun v:Value=>v) w g vs∧DmD (vt:=vt) L w vs xs
 | .sm kt cl es=>∃g n c vs,pl[i]? = some ⟨some ⟨g,0,none⟩,n,c⟩∧(w.heap[g]? = some (.map vs cl)∧MapKept.Stamped vs cl)∧SmD (kt:=kt) pl L w vs.toList es
 | .it m cl seen=>∃g n c g' n' c',pl[i]? = some ⟨some ⟨g,0,none⟩,n,c⟩∧pl[m]? = some ⟨some ⟨g',0,none⟩,n',c'⟩∧w.heap[g]? = some (.mapIter (some g') cl seen.toArray cl)
 | .rowo t e b xs cs=>∃p ro us,pl[i]? = some p∧Ow (kP t.size) e L w p.a p.n p.c (ro++opn b us)∧RawD t L w ro xs∧(b=true->DenL pl L w cs us)
 | .rowq e us k cs=>∃g n c u,pl[i]? = some ⟨some ⟨g,0,none⟩,n,c⟩∧Bx w g us e∧n≤us.length∧(0≤k∧k.toNat<n)∧us[k.toNat]? = some u∧DenL pl L w cs [u]
 | .itd kt vt cur rest=>∃g n c b es cl seen vs cvs,pl[i]? = some ⟨some ⟨g,0,none⟩,n,c⟩∧w.heap[g]? = some (.mapIter (some b) cl seen cl)∧(TA (bM kt) (rp vt)).rel L w [.map (some b)] (es,cl,vs,rest,cvs,cur) ∧
  (leftOf es seen).toList.map (fun e=>(e.key,e.val))=vs.map (fun x=>(bM kt x.1,x.2))∧alV (kt:=kt) es seen cvs
 | .que t e xs=>∃p,pl[i]? = some p∧Oq (rp t) e L w p.a p.n p.c xs
def FrD(pl:List Place)(L:Lx)(w:World)(fr:Fr)(l:List Value):Prop:=∀(t:Nat) (s:SV),get fr t=some s->Den pl L w s (l.getD t undef)
def UpD(pl:List Place)(L:Lx)(w:World):List (Nat×Fr)->List (List Value)->Prop
 | [],ls=>ls=[]
 | x::r,ls=>∃l q,ls=l::q∧l.length=x.1∧FrD pl L w x.2 l∧UpD pl L w r q
section
variable {pl pl':List Place}{L L':Lx}{w w':World}
theorem FrD.ext(e:Ext pl L w pl' L' w'){fr:Fr}{l:List Value}(h:FrD pl L w fr l):FrD pl' L' w' fr l:=fun t s hs=>(h t s hs).ext e
theorem UpD.ext(e:Ext pl L w pl' L' w'):∀{up:List (Nat×Fr)} {ls:List (List Value)},UpD pl L w up ls->UpD pl' L' w' up ls
 | [],_,h=>h
 | _::_,_,⟨l,q,h1,h2,h3,h4⟩=>⟨l,q,h1,h2,h3.ext e,UpD.ext e h4⟩
end
structure Wr where
 w:World
 L:Lx
 n:Nat
 pl:List Place
 ids:List Nat
structure Since(F:Lx) (pl:List Place) (own:List (Nat×Ent)) (log:List Nat) (nx:Nat) (wr:Wr) (w:World):Prop where
 fz:Fz wr.L wr.w w
 sb:Sub wr.w (lx pl own++F) wr.L
 nr:wr.n≤nx
 pls:∀(i:Nat) (p:Place),wr.pl[i]? = some p->pl[i]? = some p
 old:∀e∈own,e.1<wr.n->e.1∈wr.ids
 keep:∀e∈own,e.1<wr.n->e.1 ∉ log->∀k,plb pl e.1=some k->w.heap[k]? = wr.w.heap[k]?
structure Bs where
 w:World
 pl:List Place
 I:World->Prop
section
variable {B:Nat->Prop}{F:Lx}{w0:Bs}
structure Rel(B:Nat->Prop) (F:Lx) (w0:Bs) (wr:Wr) (pl:List Place) (S:St) (l:List Value) (ls:List (List Value)) (w:World):Prop where
 hL:LOk B (lx pl S.own) F w
 hB:Blw B w0.w w
 pre:∀(i:Nat) (p:Place),w0.pl[i]? = some p->pl[i]? = some p
 hI:∀w',Blw B w0.w w'->w0.I w'
 hln:S.ln=w0.pl.length
 nx:S.nx=pl.length
 nt:l.length=S.nt
 ent:∀e∈S.own,EntD pl (lx pl S.own++F) w e.1 e.2
 fr:FrD pl (lx pl S.own++F) w S.fr l
 up:UpD pl (lx pl S.own++F) w S.up ls
 tn:Since F pl S.own S.log S.nx wr w
variable {wr:Wr}{pl pl':List Place}{S S':St}{l l':List Value}{ls:List (List Value)}{w w':World}{M:Lx}
theorem Rz(hp:∀(i:Nat) (p:Place),pl[i]? = some p->pl'[i]? = some p){i k:Nat}(h:plb pl i=some k):plb pl' i=some k:=by grind[plb,Option.bind_eq_some_iff]
variable {L L':Lx}
theorem EntD.place{i:Nat}{e:Ent}{L:Lx}(h:EntD pl L w i e):∃p,pl[i]? = some p:=by
 cases e with
 | row t e xs=>obtain⟨p,h1,_⟩:=h;simp_all
 | box T cs=>obtain⟨g,n,c,us,h1,_⟩:=h;simp_all
 | dm kt vt xs=>obtain⟨g,n,c,us,h1,_⟩:=h;simp_all
 | sm kt cl es=>obtain⟨g,n,c,us,h1,_⟩:=h;simp_all
 | it m cl seen=>obtain⟨g,n,c,_,_,_,h1,_⟩:=h;simp_all
 | rowo t e b xs cs=>obtain⟨p,ro,us,h1,_⟩:=h;simp_all
 | rowq e us k cs=>obtain⟨g,n,c,u,h1,_⟩:=h;simp_all
 | itd kt vt cur rest=>obtain⟨g,n,c,_,_,_,_,_,_,h1,_⟩:=h;simp_all
 | que t e xs=>obtain⟨p,h1,_⟩:=h;simp_all
theorem DmD.iff{kt vt:Ty}{L:Lx}{w:World}:∀{vs:List (Vl kt×Value)} {xs:List (Vl kt×Vl vt)},DmR (rp vt) L w vs xs↔DmD L w vs xs
 | [],_=>Iff.rfl
 | a::r,xs=>by
  constructor
  ·rintro⟨b,q,h1,h2,h3,h4⟩
   exact⟨b,q,h1,h2,h3,DmD.iff.1 h4⟩
  ·rintro⟨b,q,h1,h2,h3,h4⟩
   exact⟨b,q,h1,h2,h3,DmD.iff.2 h4⟩
theorem DmD.ext(e:Ext pl L w pl' L' w'){kt vt:Ty}:∀{vs:List (Vl kt×Value)} {xs:List (Vl kt×Vl vt)},DmD L w vs xs->DmD L' w' vs xs
 | [],_,h=>h
 | _::_,_,⟨b,q,h1,h2,⟨cs,h3,h4⟩,h5⟩=>⟨b,q,h1,h2,⟨cs,e.rel _ h3,h4⟩,DmD.ext e h5⟩
theorem SmD.ext(e:Ext pl L w pl' L' w'){kt:Ty}:∀{vs:List MapEntry} {xs:List (Nat×Vl kt×SV)},SmD pl L w vs xs->SmD pl' L' w' vs xs
 | [],_,h=>h
 | _::_,_,⟨b,q,h1,h2,h3,h4,h5⟩=>⟨b,q,h1,h2,h3,h4.ext e,SmD.ext e h5⟩
theorem EntD.ext(e:Ext pl L w pl' L' w'){i:Nat}{en:Ent}(h:EntD pl L w i en)(hn:∀k,Ev.plb pl i=some k->w'.heap[k]? = w.heap[k]?)(hr:∀{α:Type} (R:Rp α) (e:TypeId) (xs:List α) (p:Place),pl[i]? = some p->Ow R e L w p.a p.n p.c xs->Ow R e L' w' p.a p.n p.c xs):EntD pl' L' w' i en:=by
 cases en with
 | row t e' xs=>obtain⟨p,h1,h2⟩:=h;exact⟨p,e.pl _ _ h1,hr _ _ _ _ h1 h2⟩
 | rowo t e' b xs cs=>obtain⟨p,ro,us,h1,h2,h3,h4⟩:=h;exact⟨p,ro,us,e.pl _ _ h1,hr _ _ _ _ h1 h2,h3.ext e,fun hb=>(h4 hb).ext e⟩
 | rowq e' us k cs =>
  obtain⟨g,n,c,u,h1,h2,h3,h4,h5,h6⟩:=h;refine⟨g,n,c,u,e.pl _ _ h1,?_,h3,h4,h5,h6.ext e⟩;unfold Bx;rw[hn g (by unfold Ev.plb;rw[h1];rfl)];exact h2
 | que t e' xs=>obtain⟨p,h1,h2⟩:=h;exact⟨p,e.pl _ _ h1,h2.ext (fun _ _ h=>e.rel _ h) (fun k hk=>hn k (by unfold Ev.plb;rw[h1];exact hk))⟩
 | itd kt vt cur rest =>
  obtain⟨g,n,c,b,es,cl,seen,vs,cvs,h1,h2,h3,h4⟩:=h;refine⟨g,n,c,b,es,cl,seen,vs,cvs,e.pl _ _ h1,?_,e.rel _ h3,h4⟩;rw[hn g (by unfold Ev.plb;rw[h1];rfl)];exact h2
 | box T cs =>
  obtain⟨g,n,c,us,h1,h2,h3,h4⟩:=h;refine⟨g,n,c,us,e.pl _ _ h1,?_,h3.ext e,h4⟩;unfold Bx;rw[hn g (by unfold Ev.plb;rw[h1];rfl)];exact h2
 | dm kt vt xs =>
  obtain⟨g,n,c,vs,h1,⟨es,cl,h2,h3⟩,h4⟩:=h;refine⟨g,n,c,vs,e.pl _ _ h1,⟨es,cl,?_,h3⟩,h4.ext e⟩;rw[hn g (by unfold Ev.plb;rw[h1];rfl)];exact h2
 | sm kt cl es =>
  obtain⟨g,n,c,vs,h1,h2,h3⟩:=h;refine⟨g,n,c,vs,e.pl _ _ h1,⟨?_,h2.2⟩,h3.ext e⟩;rw[hn g (by unfold Ev.plb;rw[h1];rfl)];grind
 | it m cl seen =>
  obtain⟨g,n,c,g',n',c',h1,h2,h3⟩:=h;refine⟨g,n,c,g',n',c',e.pl _ _ h1,e.pl _ _ h2,?_⟩;rw[hn g (by unfold Ev.plb;rw[h1];rfl)];exact h3
theorem EntD.plb{i:Nat}{e:Ent}{L:Lx}(h:EntD pl L w i e)(hp:∀(i:Nat) (p:Place),pl[i]? = some p->pl'[i]? = some p):Ev.plb pl' i=Ev.plb pl i:=by
 have:∃p,pl[i]? = some p:=by exact h.place
 grind[Ev.plb]
theorem Ext.of_stp{own own':Lx}(hs:Stp B own own' F M w w')(hp:∀(i:Nat) (p:Place),pl[i]? = some p->pl'[i]? = some p):Ext pl (own++F) w pl' (own'++F) w' :=
 ⟨hp,by intro α R cs x h;exact hs.rel h,by intro α R b o x h;exact hs.el h⟩
theorem EntD.lt{i:Nat}{e:Ent}{L:Lx}(h:EntD pl L w i e):∀k,Ev.plb pl i=some k->k<w.heap.size:=fun k hk=>by
 cases e with
 | row t e xs =>
  obtain⟨p,h1,h2⟩:=h;unfold Ev.plb at hk;rw[h1]at hk;exact h2.2.blk_lt k hk
 | box T cs =>
  obtain⟨g,n,c,us,h1,h2,_⟩:=h;unfold Ev.plb at hk;rw[h1]at hk;cases hk;exact h2.lt
 | dm kt vt xs =>
  obtain⟨g,n,c,us,h1,h2,_⟩:=h;unfold Ev.plb at hk;rw[h1]at hk;cases hk;exact h2.lt
 | sm kt cl es =>
  obtain⟨g,n,c,us,h1,h2,_⟩:=h;unfold Ev.plb at hk;rw[h1]at hk;cases hk;grind
 | it m cl seen =>
  obtain⟨g,n,c,_,_,_,h1,_,h2⟩:=h;unfold Ev.plb at hk;rw[h1]at hk;cases hk;grind
 | rowo t e b xs cs =>
  obtain⟨p,ro,us,h1,h2,_⟩:=h;unfold Ev.plb at hk;rw[h1]at hk;exact h2.2.blk_lt k hk
 | que t e xs =>
  obtain⟨p,h1,h2⟩:=h;unfold Ev.plb at hk;rw[h1]at hk;exact h2.2.2.2.1 k hk
 | itd kt vt cur rest =>
  obtain⟨g,n,c,_,_,_,_,_,_,h1,h2,_⟩:=h;unfold Ev.plb at hk;rw[h1]at hk;cases hk;grind
 | rowq e us k' cs =>
  obtain⟨g,n,c,u,h1,h2,_⟩:=h;unfold Ev.plb at hk;rw[h1]at hk;cases hk;exact h2.lt
theorem EntD.stay{own own':Lx}{i:Nat}{e:Ent}(h:EntD pl (own++F) w i e)(hs:Stp B own own' F M w w')(hp:∀(i:Nat) (p:Place),pl[i]? = some p->pl'[i]? = some p)
  (hn:∀k,Ev.plb pl i=some k->some k ∉ M):EntD pl' (own'++F) w' i e:=by
 refine h.ext (Ext.of_stp hs hp) (fun k hk=>?_) (fun R e xs p h1 h2=>?_)
 ·exact hs.hf.block k (h.lt k hk) (hn k hk)
 ·exact hs.ow h2 (fun k hk=>hn k (by simp_all[Ev.plb]))
theorem Rel.go(h:Rel B F w0 wr pl S l ls w)(hs:Stp B (lx pl S.own) (lx pl' S'.own) F M w w')(hp:∀(i:Nat) (p:Place),pl[i]? = some p->pl'[i]? = some p)
  (hnx:S'.nx=pl'.length) (hge:S.nx≤S'.nx) (hnt:S'.nt=S.nt) (hfr:S'.fr=S.fr) (hup:S'.up=S.up) (hl:∀i∈S.log,i∈S'.log)
  (hent:∀e∈S'.own,(e∈S.own∧∀k,plb pl e.1=some k->some k ∉ M)∨((S.nx≤e.1∨(e.1∈S'.log∧∃q∈S.own,q.1=e.1))∧EntD pl' (lx pl' S'.own++F) w' e.1 e.2)) (hln:S'.ln=S.ln:=by rfl):Rel B F w0 wr pl' S' l ls w' where
 hL:=hs.hL
 hB:=hs.below h.hL h.hB
 pre:=fun i p hi=>hp i p (h.pre i p hi)
 hI:=h.hI
 hln:=by rw[hln];exact h.hln
 nx:=hnx
 nt:=by rw[hnt];exact h.nt
 ent:=fun e he=>by
  rcases hent e he with ⟨h1,h2⟩ | ⟨_,h1⟩
  ·exact (h.ent e h1).stay hs hp h2
  omega
 fr:=by rw[hfr];exact h.fr.ext (Ext.of_stp hs hp)
 up:=by rw[hup];exact h.up.ext (Ext.of_stp hs hp)
 tn:=by
  have hsz:=h.tn.fz.size;refine⟨⟨hs.hf.os.trans h.tn.fz.os,hs.hf.tape.trans h.tn.fz.tape,hs.hf.output.trans h.tn.fz.output,Nat.le_trans hsz hs.hf.size,fun k hk hn=>?_⟩,fun k hk=>?_,Nat.le_trans h.tn.nr hge,fun i p hi=>hp i p (h.tn.pls i p hi),fun e he hlt=>?_,fun e he hlt hnl k hk=>?_⟩
  ·rw[hs.hf.block k (Nat.lt_of_lt_of_le hk hsz) (fun hm=>?_)]
   ·exact h.tn.fz.block k hk hn
   ·rcases h.tn.sb k (List.mem_append_left _ (hs.hM k hm)) with h1 | h1
    ·grind
    ·omega
  ·rcases hs.hs k hk with h1 | h1
   ·exact h.tn.sb k h1
   omega
  ·rcases hent e he with ⟨h1,_⟩ | ⟨h1,_⟩
   ·exact h.tn.old e h1 hlt
   ·rcases h1 with h1 | ⟨_,q,h1,h2⟩
    ·have:=h.tn.nr;omega
    ·rw[<- h2]at hlt ⊢
     exact h.tn.old q h1 hlt
  ·rcases hent e he with ⟨h1,h2⟩ | ⟨h1,_⟩
   ·have hk':plb pl e.1=some k:=by rw[<- (h.ent e h1).plb hp];exact hk
    have hmem:some k∈lx pl S.own:=by rw[<- hk'];exact List.mem_map_of_mem (f:=fun e:Nat×Ent=>plb pl e.1) h1
    rw[hs.hf.block k (h.hL.hi k hmem) (h2 k hk')];exact h.tn.keep e h1 hlt (fun hm=>hnl (hl _ hm)) k hk'
   ·rcases h1 with h1 | ⟨h1,_⟩
    ·have:=h.tn.nr;omega
    simp_all
def ids(own:List (Nat×Ent)):List Nat:=own.map (·.1)
def here(F:Lx)(pl:List Place)(S:St)(w:World):Wr:=⟨w,lx pl S.own++F,S.nx,pl,ids S.own⟩
theorem Rel.base(h:Rel B F w0 wr pl S l ls w):Rel B F w0 (here F pl S w) pl { S with log:=[] } l ls w :=
 {hL:=h.hL,hB:=h.hB,pre:=h.pre,hI:=h.hI,hln:=h.hln,nx:=h.nx,nt:=h.nt,ent:=h.ent,fr:=h.fr,up:=h.up,
  tn:=⟨Fz.refl _ _,Sub.refl _ _,Nat.le_refl _,fun _ _ h=>h,fun e he _=>List.mem_map_of_mem (f:=fun e:Nat×Ent=>e.1) he,fun _ _ _ _ _ _=>rfl⟩ }
theorem Rel.back{pl1:List Place}{S1:St}{l1:List Value}{ls1:List (List Value)}{w1:World}(h1:Rel B F w0 wr pl1 S1 l1 ls1 w1)(h:Rel B F w0 (here F pl1 S1 w1) pl S l ls w) :
  Rel B F w0 wr pl { S with log:=S1.log++S.log } l ls w where
 hL:=h.hL
 hB:=h.hB
 pre:=h.pre
 hI:=h.hI
 hln:=h.hln
 nx:=h.nx
 nt:=h.nt
 ent:=h.ent
 fr:=h.fr
 up:=h.up
 tn:=by
  have hsz:=h1.tn.fz.size;have hf:=h.tn.fz;refine⟨⟨hf.os.trans h1.tn.fz.os,hf.tape.trans h1.tn.fz.tape,hf.output.trans h1.tn.fz.output,Nat.le_trans hsz hf.size,fun k hk hn=>?_⟩,fun k hk=>?_,Nat.le_trans h1.tn.nr h.tn.nr,fun i p hi=>h.tn.pls i p (h1.tn.pls i p hi),fun e he hlt=>?_,fun e he hlt hnl k hk=>?_⟩
  ·rw[hf.block k (Nat.lt_of_lt_of_le hk hsz) (fun hm=>?_)]
   ·exact h1.tn.fz.block k hk hn
   ·rcases h1.tn.sb k hm with h2 | h2
    ·grind
    ·omega
  ·rcases h.tn.sb k hk with h2 | h2
   ·exact h1.tn.sb k h2
   ·exact .inr (Nat.le_trans hsz h2)
  ·obtain⟨q,hq,hq2⟩:=List.mem_map.1 (h.tn.old e he (Nat.lt_of_lt_of_le hlt h1.tn.nr))
   rw[<- hq2]at hlt ⊢;exact h1.tn.old q hq hlt
  ·have hlt1:e.1<S1.nx:=Nat.lt_of_lt_of_le hlt h1.tn.nr
   obtain⟨q,hq,hq2⟩:=List.mem_map.1 (h.tn.old e he hlt1);have hnl':e.1 ∉ S1.log++S.log:=hnl;rw[List.mem_append]at hnl';have hk1:plb pl1 q.1=some k:=by rw[<- (h1.ent q hq).plb h.tn.pls,hq2];exact hk
   rw[h.tn.keep e he hlt1 (fun hm=>hnl' (.inr hm)) k hk];exact h1.tn.keep q hq (by omega) (fun hm=>hnl' (.inl (by simp_all))) k hk1
theorem Rel.set(h:Rel B F w0 wr pl S l ls w){d:Nat}{s:SV}{v:Value}(hd:d<S.nt)(hv:Den pl (lx pl S.own++F) w s v) :
  Rel B F w0 wr pl { S with fr:=(d,s)::S.fr } (l.set d v) ls w where
 hL:=h.hL
 hB:=h.hB
 pre:=h.pre
 hI:=h.hI
 hln:=h.hln
 nx:=h.nx
 nt:=by rw[List.length_set];exact h.nt
 ent:=h.ent
 fr:=fun t q hq=>by
  have hl:=h.nt;unfold get at hq;split at hq
  ·simp_all
  ·rename_i hne
   have:=h.fr t q hq;simp_all
 up:=h.up
 tn:=h.tn
theorem Dm(hp:∀(i:Nat) (p:Place),pl[i]? = some p->pl'[i]? = some p)(h:∀e∈S.own,EntD pl (lx pl S.own++F) w e.1 e.2):lx pl' S.own=lx pl S.own:=by unfold lx;exact List.map_congr_left fun e he=>(h e he).plb hp
theorem gZ(p:Place):∀(i:Nat) (q:Place),pl[i]? = some q->(pl++[p])[i]? = some q:=fun i q h=>by grind
theorem gJ(p:Place):(pl++[p])[pl.length]? = some p:=by simp
theorem vB(p:Place):plb (pl++[p]) pl.length=blk p.a:=by grind[plb]
theorem Rel.push(h:Rel B F w0 wr pl S l ls w)(p:Place)(e:Ent)(hs:Stp B (lx pl S.own) (blk p.a::lx pl S.own) F [] w w')
  (he:EntD (pl++[p]) ((blk p.a::lx pl S.own)++F) w' pl.length e) :
  Rel B F w0 wr (pl++[p]) { S with own:=(S.nx,e)::S.own,nx:=S.nx+1 } l ls w':=by
 have e1:lx (pl++[p]) ((S.nx,e)::S.own)=blk p.a::lx pl S.own:=by have:=Dm (gZ p) h.ent;unfold lx at this ⊢;rw[List.map_cons,this,h.nx,vB]
 refine h.go (M:=[]) (S':={ S with own:=(S.nx,e)::S.own,nx:=S.nx+1 }) (by simp_all) (gZ p) (by simp[h.nx]) (Nat.le_succ _) rfl rfl rfl (fun _ hi=>hi) (fun x hx=>?_);rcases List.mem_cons.1 hx with hx | hx
 ·subst hx
  refine .inr ⟨.inl (Nat.le_refl _),?_⟩;show EntD (pl++[p]) (lx (pl++[p]) ((S.nx,e)::S.own)++F) w' S.nx e;rw[e1,h.nx];exact he
 simp_all
theorem Rel.call(h:Rel B F w0 wr pl S l ls w)(hf:Fz [] w w'):Rel B F w0 wr pl S l ls w' :=
 h.go (M:=[]) (Stp.call h.hL hf) (fun _ _ h=>h) h.nx (Nat.le_refl _) rfl rfl rfl (fun _ hi=>hi) (fun e he=>.inl ⟨he,fun _ _ hk=>by cases hk⟩)
end
end Ev
end
noncomputable section
namespace Ev
open Go Go.RowKit Sx
def uo:List Ty->Ty
 | []=>.un
 | a::r=>match r with
  | []=>.wr a
  | b::r'=>.pr a (prs b r')
where prs:Ty->List Ty->Ty
 | a,[]=>a
 | a,b::r=>.pr a (prs b r)
def ais(g:TypeId->Option Ty):List Field->Option (List Ty)
 | []=>some []
 | f::r=>(g f.type).bind fun a=>(ais g r).map fun q=>a::q
def TB(P:Program):Nat->TypeId->Option Ty
 | 0,_=>none
 | n+1,t=>match P.underlying t with
  | some (.int k)=>some (.int k)
  | some .bool=>some .bool
  | some .string=>some .str
  | some (.slice e)=>(TB P n e).map .sl
  | some (.struct fs)=>(ais (TB P n) fs.toList).map uo
  | some (.array m e)=>(TB P n e).map (.ar m)
  | some (.map k e)=>match P.underlying k,P.underlying e with
   | some (.int a),some (.int b)=>some (.mp (.int a) (.int b))
   | _,_=>none
  | _=>none
def tyc(P:Program)(t:TypeId):Option Ty:=(TB P 12 t).bind fun y =>
 match P.underlying t with
 | some dd=>if nY dd=y.agg∧eG P t=some y.size then some y else none
 | none=>none
theorem gU{P:Program}{t:TypeId}{y:Ty}(h:tyc P t=some y):TyOk P t (rp y):=by
 unfold tyc at h;obtain⟨y',_,h⟩:=Option.bind_eq_some_iff.1 h;split at h
 ·rename_i dd hd
  split at h
  ·rename_i h2
   cases h
   exact⟨⟨dd,hd,by simp_all[gI]⟩,by simp_all[bV],fun ha=>kC _ (by simp_all[gI])⟩
  grind
 grind
def ofV:Value->SV
 | .int k n=>.d (.int k) n
 | .bool b=>.d .bool b
 | .string ⟨⟨l⟩⟩=>.d .str l
 | v=>.k v
def opv(S:St):Operand->Option SV
 | .tmp t=>get S.fr t
 | .const v=>some (ofV v)
 | .func f=>some (.fn (.func f) [] [])
 | .global _=>none
section
variable {pl:List Place}{L:Lx}{w:World}{l:List Value}{P:Program}{S:St}
theorem je{k:IntKind}{n:Int}{u:Value}(h:Den pl L w (.d (.int k) n) u):u = .int k n:=by obtain⟨cs,h1,h2⟩:=h;cases h1;exact h2
theorem jC{b:Bool}{u:Value}(h:Den pl L w (.d .bool b) u):u = .bool b:=by obtain⟨cs,h1,h2⟩:=h;cases h1;exact h2
theorem jq{s:List UInt8}{u:Value}(h:Den pl L w (.d .str s) u):u = .string ⟨⟨s⟩⟩:=by obtain⟨cs,h1,h2⟩:=h;cases h1;exact h2
theorem jI{t:Ty}{xs:List (Vl t)}{u:Value}(h:Den pl L w (.d (.sl t) xs) u):(Rp.slice (rp t)).rel L w [u] xs:=by obtain⟨cs,h1,h2⟩:=h;obtain⟨a,c,rfl,h3⟩:=Tw h1;have h2:u = .slice a xs.length c:=h2;grind
theorem Ib(v:Value):Den pl L w (ofV v) v:=by
 unfold ofV;split
 ·exact⟨_,rfl,rfl⟩
 ·exact⟨_,rfl,rfl⟩
 ·exact⟨_,rfl,rfl⟩
 ·rfl
theorem bf(hf:FrD pl L w S.fr l){x:Operand}{s:SV}(h:opv S x=some s):Den pl L w s (ev l x):=by
 cases x with
 | tmp t=>exact hf t s h
 | const v=>cases h;exact Ib v
 | func f=>cases h;exact⟨[],[],rfl,rfl,rfl⟩
 | global g=>cases h
def Yv(P:Program)(pl:List Place)(L:Lx)(w:World)(l:List Value)(o:Oper)(s:SV)(rd:List Nat):Prop :=
 ∃v,Den pl L w s v∧∀w',Fz L w w'->(∀i∈rd,∀k,plb pl i=some k->w'.heap[k]? = w.heap[k]?)->(execOp (ev l) o).run P w' = .ok (.value v) w'
theorem Yv.of{o:Oper}{s:SV}{v:Value}(h:Den pl L w s v)(hr:∀w',(execOp (ev l) o).run P w' = .ok (.value v) w'):Yv P pl L w l o s [] :=
 ⟨v,h,fun w' _ _=>hr w'⟩
theorem uq{t:Ty}(ht:t.agg=false){x:Vl t}{u:Value}(h:(rp t).rel L w [u] x):Den pl L w (.d t x) u:=⟨[u],h,by simp[Rp.val,gI,ht]⟩
theorem dM(k:IntKind)(n:Int):Den pl L w (.d (.int k) n) (.int k n):=⟨_,rfl,rfl⟩
theorem gq(b:Bool):Den pl L w (.d .bool b) (.bool b):=⟨_,rfl,rfl⟩
theorem xg(s:List UInt8):Den pl L w (.d .str s) (.string ⟨⟨s⟩⟩):=⟨_,rfl,rfl⟩
section
variable {R:Type}
def aaP(op:BinOp)(k:IntKind)(m n:Int)(K:SV->Option R):Option R :=
 match op with
 | .lss=>K (.d .bool (lt m n))
 | .leq=>K (.d .bool (le m n))
 | .gtr=>K (.d .bool (gt m n))
 | .geq=>K (.d .bool (ge m n))
 | .eql=>K (.d .bool (eqi m n))
 | .neq=>K (.d .bool (nei m n))
 | .add=>K (.d (.int k) (add k m n))
 | .sub=>K (.d (.int k) (sub k m n))
 | .mul=>K (.d (.int k) (mul k m n))
 | .quo=>need (nei n 0) (K (.d (.int k) (quo k m n)))
 | .rem=>need (nei n 0) (K (.d (.int k) (rem m n)))
 | .and=>K (.d (.int k) (mV k m n))
 | .or=>K (.d (.int k) (bor k m n))
 | .xor=>K (.d (.int k) (M0 k m n))
 | .andNot=>K (.d (.int k) (aaJ k m n))
 | .shl=>need (ge n 0) (K (.d (.int k) (shl k m n)))
 | .shr=>need (ge n 0) (K (.d (.int k) (shr k m n)))
def RA:BinOp->Bool
 | .shl | .shr=>true
 | _=>false
theorem ait{n:Int}(h:nei n 0=true):n≠0:=by simp_all[nei]
theorem ag6{op:BinOp}{k k':IntKind}{m n:Int}{K:SV->Option R}{r:R}(h:aaP op k m n K=some r)(hk:RA op=true∨k=k'){d:Option Tmp}{ty t u:TypeId}{pos:String}{af:Array Edge}{g:Option (Nat×Bool)}{x y:Operand}
  (hx:ev l x = .int k m) (hy:ev l y = .int k' n):∃s,K s=some r∧Yv P pl L w l ⟨d,.binOp op t x y u,ty,pos,af,g⟩ s []:=by
 unfold aaP at h;cases op<;>simp only at h
 case quo =>
  obtain⟨h0,h⟩:=bS h;rcases hk with hk | rfl
  ·cases hk
  exact⟨_,h,Yv.of (dM _ _) (fun w'=>agT hx hy (ait h0))⟩
 case rem =>
  obtain⟨h0,h⟩:=bS h;rcases hk with hk | rfl
  ·cases hk
  exact⟨_,h,Yv.of (dM _ _) (fun w'=>agU hx hy (ait h0))⟩
 case shl =>
  obtain⟨h0,h⟩:=bS h;exact⟨_,h,Yv.of (dM _ _) (fun w'=>ag4 hx hy h0)⟩
 case shr =>
  obtain⟨h0,h⟩:=bS h;exact⟨_,h,Yv.of (dM _ _) (fun w'=>ag5 hx hy h0)⟩
 case lss =>
  rcases hk with hk | rfl
  ·cases hk
  exact⟨_,h,Yv.of (gq _) (fun w'=>aim hx hy)⟩
 case leq =>
  rcases hk with hk | rfl
  ·cases hk
  exact⟨_,h,Yv.of (gq _) (fun w'=>ain hx hy)⟩
 case gtr =>
  rcases hk with hk | rfl
  ·cases hk
  exact⟨_,h,Yv.of (gq _) (fun w'=>aio hx hy)⟩
 case geq =>
  rcases hk with hk | rfl
  ·cases hk
  exact⟨_,h,Yv.of (gq _) (fun w'=>aip hx hy)⟩
 case eql =>
  rcases hk with hk | rfl
  ·cases hk
  exact⟨_,h,Yv.of (gq _) (fun w'=>agO hx hy)⟩
 case neq =>
  rcases hk with hk | rfl
  ·cases hk
  exact⟨_,h,Yv.of (gq _) (fun w'=>agP hx hy)⟩
 case add =>
  rcases hk with hk | rfl
  ·cases hk
  exact⟨_,h,Yv.of (dM _ _) (fun w'=>agQ hx hy)⟩
 case sub =>
  rcases hk with hk | rfl
  ·cases hk
  exact⟨_,h,Yv.of (dM _ _) (fun w'=>agR hx hy)⟩
 case mul =>
  rcases hk with hk | rfl
  ·cases hk
  exact⟨_,h,Yv.of (dM _ _) (fun w'=>agS hx hy)⟩
 case and =>
  rcases hk with hk | rfl
  ·cases hk
  exact⟨_,h,Yv.of (dM _ _) (fun w'=>aaK hx hy)⟩
 case or =>
  rcases hk with hk | rfl
  ·cases hk
  exact⟨_,h,Yv.of (dM _ _) (fun w'=>ag3 hx hy)⟩
 case xor =>
  rcases hk with hk | rfl
  ·cases hk
  exact⟨_,h,Yv.of (dM _ _) (fun w'=>aaL hx hy)⟩
 case andNot =>
  rcases hk with hk | rfl
  ·cases hk
  exact⟨_,h,Yv.of (dM _ _) (fun w'=>aaM hx hy)⟩
def isBool(P:Program)(t:TypeId):Bool:=match P.underlying t with
 | some .bool=>true
 | _=>false
def isStr(P:Program)(t:TypeId):Bool:=match P.underlying t with
 | some .string=>true
 | _=>false
theorem BJ{t:TypeId}(h:isBool P t=true):P.underlying t=some .bool:=by grind[isBool]
theorem gu{t:TypeId}(h:isStr P t=true):P.underlying t=some .string:=by grind[isStr]
def bin(P:Program)(op:BinOp)(t:TypeId)(a b:SV)(K:SV->Option R):Option R :=
 match a,b with
 | .d (.int k) m,.d (.int k') n=>if RA op=true∨k=k' then aaP op k m n K else none
 | .d .str s,.d .str q=>match op with
  | .eql=>K (.d .bool (eqs s q))
  | .neq=>K (.d .bool (nes s q))
  | .add=>need (small (s.length+q.length)) (K (.d .str (s++q)))
  | _=>none
 | .d .bool p,.d .bool q=>if isBool P t then match op with
  | .eql=>K (.d .bool (eqb p q))
  | .neq=>K (.d .bool (neb p q))
  | _=>none else none
 | _,_=>none
theorem aiu{op:BinOp}{t:TypeId}{a b:SV}{K:SV->Option R}{r:R}(h:bin P op t a b K=some r){d:Option Tmp}{ty u:TypeId}{pos:String}{af:Array Edge}{g:Option (Nat×Bool)}{x y:Operand}
  (hx:Den pl L w a (ev l x)) (hy:Den pl L w b (ev l y)):∃s,K s=some r∧Yv P pl L w l ⟨d,.binOp op t x y u,ty,pos,af,g⟩ s []:=by
 unfold bin at h;split at h
 ·split at h
  ·rename_i hk
   exact ag6 h hk (je hx) (je hy)
  grind
 ·have hx:=jq hx
  have hy:=jq hy;split at h
  ·exact⟨_,h,Yv.of (gq _) (fun w'=>agY hx hy)⟩
  ·exact⟨_,h,Yv.of (gq _) (fun w'=>agZ hx hy)⟩
  ·obtain⟨h0,h⟩:=bS h
   exact⟨_,h,Yv.of (xg _) (fun w'=>Tv hx hy h0)⟩
  grind
 ·have hx:=jC hx
  have hy:=jC hy;split at h
  ·rename_i hb
   have hb:=BJ hb;split at h
   ·exact⟨_,h,Yv.of (gq _) (fun w'=>ag1 hb hx hy)⟩
   ·exact⟨_,h,Yv.of (gq _) (fun w'=>ag2 hb hx hy)⟩
   grind
  grind
 grind
end
end
end Ev
end
noncomputable section
namespace Ev
open Go Go.RowKit Sx
section
variable {pl:List Place}{L:Lx}{w w':World}{l:List Value}{P:Program}{S:St}{d:Option Tmp}{ty:TypeId}{pos:String}{af:Array Edge}{g:Option (Nat×Bool)}{R:Type}
def Gi(P:Program)(t:TypeId)(f:Nat):Option (Nat×TypeId):=match P.underlying t with
 | some (.struct fs)=>(fs[f]?).map fun fd=>(fd.offset,fd.type)
 | _=>none
theorem M8{t:TypeId}{f off:Nat}{ft:TypeId}(h:Gi P t f=some (off,ft)):∃fs fd,P.underlying t=some (.struct fs)∧fs[f]? = some fd∧fd.offset=off∧fd.type=ft:=by grind[Gi,zN]
theorem Zb{t ft:TypeId}{f off:Nat}{x:Operand}{us c:List Value}{fy:Ty}(hf:Gi P t f=some (off,ft))(hy:tyc P ft=some fy)(hx:ev l x = .agg us.toArray)
  (hc:∃pre post,us=pre++c++post∧pre.length=off) (hl:c.length=fy.size) :
  (execOp (ev l) ⟨d,.field t x f,ty,pos,af,g⟩).run P w = .ok (.value (if fy.agg then .agg c.toArray else c.headD undef)) w:=by
 obtain⟨fs,fd,h1,h2,rfl,rfl⟩:=M8 hf;obtain⟨⟨dd,h3,h4⟩,h5,h6⟩:=gU hy;obtain⟨pre,post,rfl,hp⟩:=hc;rw[gI]at h4 h6;rw[bV]at h5 h6
 have hpart:(part fd.type (pre++c++post).toArray fd.offset).run P w = .ok (if fy.agg then .agg c.toArray else c.headD undef) w:=by
  unfold part;rw[Sem.run_bind,jS h3,zJ,h4]
  cases ha:fy.agg with
  | true =>
   have e:(pre++c++post).toArray.extract fd.offset (fd.offset+fy.size)=c.toArray:=by simp_all
   simp only[if_true,Sem.run_bind,run_sizeOf h5,zJ,Sem.run_pure,e]
  | false =>
   have h7:=h6 ha;rw[h7]at hl;obtain⟨v,rfl⟩:=List.length_eq_one_iff.1 hl;simp_all
 simp_all[Instr.field,ev,undef,Sem.run_bind,run_underlying,zJ,asAgg,Sem.run_pure,execOp]
def xq(P:Program)(t:TypeId):Option (Bool×Nat):=match P.underlying t,eG P t with
 | some dd,some n=>if nY dd=true∨n=1 then some (nY dd,n) else none
 | _,_=>none
theorem zX{t:TypeId}{ag:Bool}{n:Nat}(h:xq P t=some (ag,n)):(∃dd,P.underlying t=some dd∧nY dd=ag)∧eG P t=some n∧(ag=false->n=1):=by unfold xq at h;grind
def valOf(ag:Bool)(c:List Value):Value:=if ag then .agg c.toArray else c.headD undef
def EG(P:Program)(t:TypeId)(off:Nat)(cs:List SV):Option SV :=
 match xq P t with
 | some (ag,n)=>if decide (off+n≤cs.length)=true then
   if ag=true then (match tyc P t with
    | some fy=>(match pk fy ((cs.drop off).take n) with
     | some (x,[])=>some (.d fy x)
     | _=>some (.agg ((cs.drop off).take n)))
    | none=>some (.agg ((cs.drop off).take n)))
   else cs[off]?
  else none
 | none=>none
theorem yQ{t:TypeId}{off:Nat}{cs:List SV}{us:List Value}{s:SV}(h:EG P t off cs=some s)(hd:DenL pl L w cs us)(h1:∀v∈us,v.oneCell'=true) :
  ∃ag n,xq P t=some (ag,n)∧off+n≤us.length∧Den pl L w s (valOf ag ((us.drop off).take n)):=by
 unfold EG at h;have hl:=hd.len;split at h
 ·rename_i ag n hs
  split at h
  ·rename_i hle
   have hle:=of_decide_eq_true hle;refine⟨ag,n,hs,by omega,?_⟩;have hdd:DenL pl L w ((cs.drop off).take n) ((us.drop off).take n):=(hd.drop off).take _;have hone:∀v∈(us.drop off).take n,v.oneCell'=true:=fun v hv=>h1 v (List.mem_of_mem_drop (List.mem_of_mem_take hv));split at h
   ·rename_i ha
    subst ha;have hplain:Den pl L w (.agg ((cs.drop off).take n)) (valOf true ((us.drop off).take n)):=⟨_,hdd,hone,rfl⟩;split at h
    ·rename_i fy hfy
     split at h
     ·rename_i x hpk
      cases h
      obtain⟨c,v,e,h3,h4⟩:=kE hpk hdd;cases h4;rw[List.append_nil]at e;rw[e];obtain⟨⟨dd,q1,q2⟩,_⟩:=zX hs;obtain⟨⟨dd',q3,q4⟩,_⟩:=gU hfy;rw[q1]at q3;cases q3;rw[q2,gI]at q4;exact⟨c,h3,by simp_all[Rp.val,gI,valOf]⟩
     simp_all
    simp_all
   ·rename_i ha
    have ha:ag=false:=by simp_all
    subst ha;have hn:=(zX hs).2.2 rfl;subst hn;obtain⟨u,h5,h6⟩:=hd.at h;have e:((us.drop off).take 1).headD undef=u:=by grind[zR,List.drop_eq_getElem_cons]
    show Den pl L w s (((us.drop off).take 1).headD undef);simp_all
  grind
 grind
theorem BK{t:TypeId}{ag:Bool}{n:Nat}{us:List Value}{off:Nat}(hs:xq P t=some (ag,n))(hle:off+n≤us.length):(part t us.toArray off).run P w = .ok (valOf ag ((us.drop off).take n)) w:=by
 obtain⟨⟨dd,h3,h4⟩,h5,h6⟩:=zX hs;unfold part;rw[Sem.run_bind,jS h3,zJ,h4]
 cases ag with
 | true =>
  have e:us.toArray.extract off (off+n)=((us.drop off).take n).toArray:=by simp
  simp only[if_true,Sem.run_bind,run_sizeOf h5,zJ,Sem.run_pure,e,valOf]
 | false =>
  have h7:=h6 rfl;subst h7;have hlt:off<us.length:=by omega
  have e:us[off]? = some us[off]:=List.getElem?_eq_getElem hlt;have e2:((us.drop off).take 1).headD undef=us[off]:=by grind[List.drop_eq_getElem_cons]
  simp_all[valOf]
def M9(P:Program)(t:TypeId)(s:SV)(f:Nat)(K:SV->List Nat->Option R):Option R :=
 match Gi P t f with
 | some (off,ft)=>match s with
  | .d t0 x=>match tyc P ft with
   | some fy=>if t0.agg then (match prj t0 off fy x with | some y=>K (.d fy y) [] | none=>none) else none
   | none=>none
  | .agg cs=>match EG P ft off cs with
   | some y=>K y []
   | none=>none
  | _=>none
 | none=>none
theorem Zc{t:TypeId}{f:Nat}{x:Operand}{s:SV}{K:SV->List Nat->Option R}{r:R}(h:M9 P t s f K=some r)(hx:Den pl L w s (ev l x)) :
  ∃s' rd,K s' rd=some r∧Yv P pl L w l ⟨d,.field t x f,ty,pos,af,g⟩ s' rd:=by
 unfold M9 at h;split at h
 ·rename_i off ft hf
  split at h
  ·rename_i t0 x0
   split at h
   ·rename_i fy hy
    split at h
    ·rename_i ha
     split at h
     ·rename_i y hp
      obtain⟨cs,h1,h2⟩:=hx;obtain⟨pre,c,post,h3,h4,h5⟩:=jm hp h1;refine⟨_,_,h,Yv.of (v:=if fy.agg then .agg c.toArray else c.headD undef) ⟨c,h5,by grind[Rp.val,gI]⟩ (fun w'=>Zb (us:=cs) hf hy ?_ ⟨pre,post,h3,h4⟩ (by rw[(rp fy).len h5,bV]))⟩;simp_all[Rp.val,gI]
     grind
    grind
   grind
  ·rename_i cs
   split at h
   ·rename_i y hc
    obtain⟨us,h1,h2,h3⟩:=hx;obtain⟨ag,n,h4,h5,h6⟩:=yQ hc h1 h2;obtain⟨fs,fd,q1,q2,rfl,rfl⟩:=M8 hf;refine⟨_,_,h,Yv.of h6 (fun w'=>?_)⟩;have hi:(Instr.field t (ev l x) f).run P w' = .ok (valOf ag ((us.drop fd.offset).take n)) w':=by unfold Instr.field;rw[h3];simp only[Sem.run_bind,run_underlying q1,zJ,q2,asAgg,Sem.run_pure,BK h4 h5]
    simp_all[execOp,Sem.run_bind,zJ,Sem.run_pure]
   grind
  grind
 grind
end
end Ev
end
noncomputable section
namespace Ev
open Go Go.RowKit Sx
section
variable {pl:List Place}{L:Lx}{w w':World}{l:List Value}{P:Program}{S:St}{d:Option Tmp}{ty:TypeId}{pos:String}{af:Array Edge}{g:Option (Nat×Bool)}{R:Type}
def EntsD(pl:List Place)(L:Lx)(w:World)(own:List (Nat×Ent)):Prop:=∀e∈own,EntD pl L w e.1 e.2
theorem EntsD.get{own:List (Nat×Ent)}(h:EntsD pl L w own){i:Nat}{e:Ent}(hg:Ev.get own i=some e):EntD pl L w i e:=h _ (get_mem hg)
def zZ(P:Program)(t:TypeId)(s:SV)(f:Nat)(K:SV->List Nat->Option R):Option R :=
 match EB P t f with
 | some off=>match s with
  | .pb i o=>K (.pb i (o+off)) []
  | .prw i j sz o=>K (.prw i j sz (o+off)) []
  | .pra i j sz o m ft k o2=>K (.pra i j sz o m ft k (o2+off)) []
  | .pe t0 x=>match Gi P t f with
   | some (off',ft)=>if off'=off then (match tyc P ft with
    | some fy=>(match prj t0 off fy x with
     | some y=>K (.pe fy y) []
     | none=>none)
    | none=>none) else none
   | none=>none
  | _=>none
 | none=>none
theorem LX{t:TypeId}{f:Nat}{x:Operand}{s:SV}{K:SV->List Nat->Option R}{r:R}(h:zZ P t s f K=some r)(hx:Den pl L w s (ev l x)) :
  ∃s' rd,K s' rd=some r∧Yv P pl L w l ⟨d,.fieldAddr t x f,ty,pos,af,g⟩ s' rd:=by
 unfold zZ at h;split at h
 ·rename_i off ho
  split at h
  ·obtain⟨g,n,c,h1,h2⟩:=hx
   exact⟨_,_,h,Yv.of (v:=.pointer (some ⟨g,_,none⟩)) ⟨g,n,c,h1,rfl⟩ (fun w'=>nQ ho h2)⟩
  ·obtain⟨g,b,n,c,h1,h2⟩:=hx
   exact⟨_,_,h,Yv.of (v:=.pointer (some ⟨g,_,none⟩)) ⟨g,b,n,c,h1,by simp[Nat.add_assoc]⟩ (fun w'=>nQ ho h2)⟩
  ·obtain⟨g,b,n,c,h1,h2⟩:=hx
   exact⟨_,_,h,Yv.of (v:=.pointer (some ⟨g,_,none⟩)) ⟨g,b,n,c,h1,by simp[Nat.add_assoc]⟩ (fun w'=>nQ ho h2)⟩
  ·split at h
   ·split at h
    ·split at h
     ·split at h
      ·rename_i y hp
       obtain⟨b,o,h1,h2⟩:=hx;exact⟨_,_,h,Yv.of (v:=.pointer (some ⟨b,o+off,none⟩)) ⟨b,o+off,rfl,air hp h2⟩ (fun w'=>nQ ho h1)⟩
      grind
     grind
    grind
   grind
  grind
 grind
theorem jv{α:Type}{R:Rp α}{e:TypeId}{a:Nat}{n c:Nat}{xs:List α}{i:Nat}{x:α}(h:Ow R e L w (some ⟨a,0,none⟩) n c xs)(hi:xs[i]? = some x) :
  ∃cs,R.rel L w cs x∧∀j v,cs[j]? = some v->w.cell? ⟨a,0+i*R.size+j,none⟩=some v:=by
 obtain⟨rfl,cells,h1,h2⟩:=h;obtain⟨pre,d,post,e2,h3,h4,_⟩:=h2.at hi;refine⟨d,h4,fun j v hj=>?_⟩;have:=h1.cells (g:=a) rfl (i*R.size+j) v (by grind);simp_all[Addr.add_lit',Nat.add_assoc]
theorem iQ{α:Type}{R:Rp α}{t:TypeId}{b o:Nat}{cs:List Value}(ht:TyOk P t R)(hl:cs.length=R.size)(h:∀j v,cs[j]? = some v->w.cell? ⟨b,o+j,none⟩=some v) :
  (loadVar t ⟨b,o,none⟩).run P w = .ok (R.val cs) w:=by
 obtain⟨dd,hd,ha⟩:=ht.desc;unfold loadVar;rw[Sem.run_bind,jS hd,zJ,ha]
 cases hA:R.agg with
 | true =>
  have hc:=run_loadCells_list (P:=P) (w:=w) ⟨b,o,none⟩ cs (fun j v hj=>by simp_all[Addr.add_lit']);rw[hl]at hc;simp only[if_true,Sem.run_bind,run_sizeOf ht.size,zJ,hc,Rp.val,hA,Sem.run_pure]
 | false =>
  have:=ht.one hA;rw[this]at hl;obtain⟨v,rfl⟩:=List.length_eq_one_iff.1 hl;have:=h 0 v rfl;simp_all[Nat.add_zero,Go.load,Sem.run,Rp.val]
def qD(P:Program)(t:TypeId):Option (Nat×TypeId×Nat):=match P.underlying t with
 | some (.array m e)=>(eG P e).map fun n=>(m,e,n)
 | _=>none
theorem qE{t e:TypeId}{m n:Nat}(h:qD P t=some (m,e,n)):P.underlying t=some (.array m e)∧eG P e=some n:=by grind[qD,zN]
theorem xW{t:TypeId}{ag:Bool}{n b o:Nat}{cs:List Value}(ht:xq P t=some (ag,n))(hl:cs.length=n)(h:∀j v,cs[j]? = some v->w.cell? ⟨b,o+j,none⟩=some v) :
  (loadVar t ⟨b,o,none⟩).run P w = .ok (valOf ag cs) w:=by
 obtain⟨⟨dd,hd,ha⟩,hs,h1⟩:=zX ht;unfold loadVar;rw[Sem.run_bind,jS hd,zJ,ha]
 cases ag with
 | true =>
  have hc:=run_loadCells_list (P:=P) (w:=w) ⟨b,o,none⟩ cs (fun j v hj=>by simp_all[Addr.add_lit']);rw[hl]at hc;simp only[if_true,Sem.run_bind,run_sizeOf hs,zJ,hc,valOf,Sem.run_pure]
 | false =>
  have:=h1 rfl;rw[this]at hl;obtain⟨v,rfl⟩:=List.length_eq_one_iff.1 hl;have:=h 0 v rfl;simp_all[Nat.add_zero,Go.load,Sem.run,valOf]
def Gj(s:SV)(K:SV->Option R):Option R:=match s with
 | .opb b i o=>if b=true then K (.pb i o) else K (.k (.pointer none))
 | s=>K s
theorem KX{s:SV}{K:SV->Option R}{r:R}(h:Gj s K=some r):∃s',K s'=some r∧∀u,Den pl L w s u->Den pl L w s' u:=by
 unfold Gj at h;split at h
 ·rename_i b i o
  split at h
  ·rename_i hb
   exact⟨_,h,fun u hu=>hu.1 hb⟩
  ·rename_i hb
   exact⟨_,h,fun u hu=>hu.2 (by simp_all)⟩
 grind
def Mx(P:Program)(own:List (Nat×Ent))(t:TypeId)(s:SV)(K:SV->List Nat->Option R):Option R :=
 match s with
  | .pb i o=>match get own i with
   | some (.box _ cs)=>match EG P t o cs with
    | some y=>Gj y fun y=>K y [i]
    | none=>none
   | some (.row t0 _ xs)=>match qD P t with
    | some (m,_,n)=>if t0.size=n∧o=0 then need (eqi (xs.length:Int) (m:Int)) (match tyc P t with
     | some (.ar m' t1)=>if m'=m then (match fK (.sl t0) (.sl t1) xs with
      | some ys=>K (.d (.ar m' t1) ys) [i]
      | none=>none) else none
     | _=>none) else none
    | none=>none
   | _=>none
  | .pe t0 x=>match tyc P t with
   | some fy=>match fK t0 fy x with
    | some y=>K (.d fy y) []
    | none=>none
   | none=>none
  | .prw i j sz o=>match get own i,tyc P t with
   | some (.row t0 _ xs),some fy=>if sz=t0.size then (at? xs j).bind fun y=>match prj t0 o fy y with
    | some z=>K (.d fy z) [i]
    | none=>none
    else none
   | _,_=>none
  | .pra i j sz o m ft k o2=>match get own i,tyc P t with
   | some (.row t0 _ xs),some fy=>if sz=t0.size then (at? xs j).bind fun y=>match prj t0 o (.ar m ft) y with
    | some ys=>(at? (show List (Vl ft) from ys) k).bind fun z=>match prj ft o2 fy z with
     | some v=>K (.d fy v) [i]
     | none=>none
    | none=>none
    else none
   | _,_=>none
  | _=>none
theorem fo{i:Nat}{p:Place}(h:pl[i]? = some p):plb pl i=blk p.a:=by simp_all[plb]
theorem Na{own:List (Nat×Ent)}(he:EntsD pl L w own){t:TypeId}{x:Operand}{s:SV}{K:SV->List Nat->Option R}{r:R}(h:Mx P own t s K=some r)(hx:Den pl L w s (ev l x)) :
  ∃s' rd,K s' rd=some r∧Yv P pl L w l ⟨d,.load t x,ty,pos,af,g⟩ s' rd:=by
 unfold Mx at h;split at h
 ·rename_i i o
  split at h
  ·rename_i T cs hg
   split at h
   ·rename_i y hc
    obtain⟨a,n,c,h1,h2⟩:=hx;obtain⟨a',n',c',us,h3,h4,h5,h6⟩:=he.get hg;rw[h1]at h3;cases h3;obtain⟨ag,sz,h7,h8,h9⟩:=yQ hc h5 h6;obtain⟨y',h,h10⟩:=KX (pl:=pl) (L:=L) (w:=w) h;refine⟨_,_,h,_,h10 _ h9,fun w' hF hrd=>?_⟩;have hb:Bx w' a us T:=by unfold Bx;rw[hrd i (by simp) a (by rw[fo h1];rfl)];exact h4
    refine jr h2 ?_
    exact xW (P:=P) (w:=w') (b:=a) (o:=o) (cs:=(us.drop o).take sz) h7 (by grind) (fun j v hj=>by
     refine hb.cell ?_
     grind)
   grind
  ·rename_i t0 e0 xs hg
   split at h
   ·rename_i m e n har
    split at h
    ·rename_i hc
     obtain⟨hsz,rfl⟩:=hc;obtain⟨hm,hq⟩:=bS h;clear h;have hm:(xs.length:Int)=(m:Int):=by simp_all[eqi]
     split at hq
     ·rename_i m' t1 hty
      split at hq
      ·rename_i hmm
       subst hmm;split at hq
       ·rename_i ys hys
        obtain⟨e1,hys⟩:=oM hys;cases e1;subst hys;obtain⟨g',n',c',h1,h2⟩:=hx;obtain⟨p',h3,h4⟩:=he.get hg;rw[h1]at h3;cases h3;obtain⟨hn,cells,h5,h6⟩:=h4;have hxl:xs.length=m':=by omega
        refine⟨_,_,hq,.agg cells.toArray,⟨cells,⟨hxl,h6⟩,by rfl⟩,fun w' hF hrd=>jr h2 ?_⟩;have hty':=gU hty
        have:=iQ (P:=P) (w:=w') (b:=g') (o:=0) (cs:=cells) hty' (by rw[h6.len,bV,bV];show _=m'*t0.size;rw[hxl]) (fun j v hj=>by
         rw[World.cell?_of_block (w:=w) (hrd i (by simp) g' (by rw[fo h1];rfl))];have:=h5.cells (g:=g') rfl j v hj
         simp_all[Addr.add_lit'])
        simp_all[Rp.val,gI,Ty.agg]
       grind
      grind
     grind
    grind
   grind
  grind
 ·split at h
  ·rename_i fy hy
   have hty:=gU hy;split at h
   ·rename_i hc
    obtain⟨b,o,h1,h2⟩:=hx;obtain⟨e,hc⟩:=oM hc;subst e;subst hc;obtain⟨cs,h3,h4⟩:=El.load hty h2;exact⟨_,_,h,(rp _).val cs,⟨cs,h3,rfl⟩,fun w' hF _=>jr h1 (h4 w' L hF (fun k hk=>hk))⟩
   grind
  grind
 ·rename_i i j sz o
  split at h
  ·rename_i t0 e xs fy hg hy
   have hty:=gU hy;split at h
   ·rename_i hsz
    obtain⟨y,hy1,h⟩:=bK h;split at h
    ·rename_i z hp
     obtain⟨a,b0,n,c,h1,h2⟩:=hx;obtain⟨p,h3,h4⟩:=he.get hg;rw[h1]at h3;cases h3;obtain⟨h5,h6,h7⟩:=gY hy1;obtain⟨_,hb0⟩:=h4.addr h7;cases hb0;obtain⟨cs,h8,h9⟩:=jv h4 h6;obtain⟨pre,c1,post,rfl,h10,h11⟩:=jm hp h8;refine⟨_,_,h,(rp _).val c1,⟨c1,h11,rfl⟩,fun w' hF hrd=>jr h2 ?_⟩;refine iQ hty ((rp _).len h11) (fun k v hk=>?_);rw[World.cell?_of_block (w:=w) (hrd i (by simp) a (by rw[fo h1];rfl))];grind[List.append_assoc,List.getElem?_append_right,Nat.add_sub_cancel_left,List.getElem?_append_left,zR,bV,Nat.add_assoc]
    grind
   grind
  grind
 ·rename_i i j sz o m ft q o2
  split at h
  ·rename_i t0 e xs fy hg hy
   have hty:=gU hy;split at h
   ·rename_i hsz
    obtain⟨y,hy1,h⟩:=bK h;split at h
    ·rename_i ys hp
     obtain⟨z,hz1,h⟩:=bK h;split at h
     ·rename_i v hp2
      obtain⟨a,b0,n,c,h1,h2⟩:=hx;obtain⟨p,h3,h4⟩:=he.get hg;rw[h1]at h3;cases h3;obtain⟨h5,h6,h7⟩:=gY hy1;obtain⟨_,hb0⟩:=h4.addr h7;cases hb0;obtain⟨_,hz6,_⟩:=gY hz1;obtain⟨cs,h8,h9⟩:=jv h4 h6;obtain⟨pre,c1,post,rfl,h10,h11⟩:=Y7 hp hz6 hp2 h8;refine⟨_,_,h,(rp _).val c1,⟨c1,h11,rfl⟩,fun w' hF hrd=>jr h2 ?_⟩;refine iQ hty ((rp _).len h11) (fun k v hk=>?_);rw[World.cell?_of_block (w:=w) (hrd i (by simp) a (by rw[fo h1];rfl))];have:=h9 (o+q.toNat*ft.size+o2+k) v (by grind);simp_all[bV,Nat.add_assoc]
     grind
    grind
   grind
  grind
 grind
def fq(P:Program)(t:TypeId):Option (TypeId×Nat):=match P.underlying t with
 | some (.slice e)=>(eG P e).map fun n=>(e,n)
 | _=>none
theorem jE{t e:TypeId}{n:Nat}(h:fq P t=some (e,n)):P.underlying t=some (.slice e)∧eG P e=some n:=by grind[fq,zN]
theorem RowV.some{a:Addr}{n c:Nat}{u:Value}(h:RowV ⟨some a,n,c⟩ u):u = .slice (some a) n c:=by
 rcases h with h | ⟨h,_⟩
 ·exact h
 grind
theorem jW{t e:TypeId}{x y:Operand}{b o m n:Nat}{k:IntKind}{j:Int}(h1:P.underlying t=some (.array m e))(h2:eG P e=some n)(hx:ev l x = .pointer (some ⟨b,o,none⟩))(hy:ev l y = .int k j)(h3:0≤j)(h4:j<m) :
  (execOp (ev l) ⟨d,.indexAddr t x y,ty,pos,af,g⟩).run P w = .ok (.value (.pointer (some ⟨b,o+j.toNat*n,none⟩))) w:=by
 have hi:(Instr.indexAt t (ev l x) (ev l y)).run P w = .ok (.pointer (some ⟨b,o+j.toNat*n,none⟩)) w:=by unfold Instr.indexAt;rw[hx,hy];simp only[asIntOf,Sem.run_bind,Sem.run_pure,zJ,run_underlying h1,Instr.sureAddr,run_sizeOf h2,Addr.add_lit'];rw[if_pos ⟨h3,h4⟩];simp only[Sem.run_bind,run_sizeOf h2,zJ,Sem.run_pure,Addr.add_lit']
 simp_all[execOp,Sem.run_bind,zJ,Sem.run_pure]
def ixC(j:Int)(K:Nat->Option R):Nat->Option R
 | 0=>none
 | m+1=>if eqi j (m:Int)=true then K m else ixC j K m
theorem Nb{j:Int}{K:Nat->Option R}{r:R}:∀{m:Nat},ixC j K m=some r->∃i,i<m∧j=(i:Int)∧K i=some r
 | 0,h=>by cases h
 | m+1,h=>by
  unfold ixC at h;split at h
  ·rename_i e
   exact⟨m,by omega,by simpa [eqi]using e,h⟩
  ·obtain⟨i,h1,h2⟩:=Nb h
   exact⟨i,by omega,h2⟩
def z8(P:Program)(own:List (Nat×Ent))(t:TypeId)(s i:SV)(K:SV->List Nat->Option R):Option R :=
 match i with
 | .d (.int _) j=>match fq P t with
  | some (_,n)=>match nz s with
   | .d (.sl t0) xs=>if t0.size=n then (at? xs j).bind fun y=>K (.pe t0 y) [] else none
   | .rowz i=>match get own i with
    | some (.row t0 _ xs)=>if t0.size=n then (at? xs j).bind fun _=>K (.prw i j t0.size 0) [] else none
    | _=>none
   | .sub i sz lo m=>match get own i with
    | some (.row t0 _ xs)=>if t0.size=n∧sz=n then need (ge j 0) (need (lt j m) ((at? xs (lo+j)).bind fun _=>K (.prw i (lo+j) t0.size 0) [])) else none
    | _=>none
   | _=>none
  | none=>match qD P t with
   | some (m,_,n)=>match s with
    | .pb i o=>match get own i with
     | some (.row t0 _ xs)=>if t0.size=n∧o=0 then need (lt j m) ((at? xs j).bind fun _=>K (.prw i j t0.size 0) []) else none
     | some (.box _ _)=>ixC j (fun q=>K (.pb i (o+q*n)) []) m
     | _=>none
    | .prw i' j' sz o=>match tyc P t with
     | some (.ar m' ft)=>if ft.size=n∧m'=m then need (ge j 0) (need (lt j m) (K (.pra i' j' sz o m ft j 0) [])) else none
     | _=>none
    | .pe (.ar m' t0) ys=>if t0.size=n∧m'=m then (at? (show List (Vl t0) from ys) j).bind fun y=>K (.pe t0 y) [] else none
    | _=>none
   | none=>none
 | _=>none
theorem LY{own:List (Nat×Ent)}(he:EntsD pl L w own){t:TypeId}{x y:Operand}{s i:SV}{K:SV->List Nat->Option R}{r:R}(h:z8 P own t s i K=some r)(hx:Den pl L w s (ev l x))(hi:Den pl L w i (ev l y)) :
  ∃s' rd,K s' rd=some r∧Yv P pl L w l ⟨d,.indexAddr t x y,ty,pos,af,g⟩ s' rd:=by
 have hx0:=hx
 replace hx:=yP hx
 unfold z8 at h;split at h
 ·rename_i k j
  have hi:=je hi;split at h
  ·rename_i e n hel
   obtain⟨h1,h2⟩:=jE hel;clear hx0;generalize nz s=s at h hx;split at h
   ·rename_i t0 xs
    split at h
    ·rename_i hsz
     obtain⟨z,hz,h⟩:=bK h;obtain⟨h3,h4,h5⟩:=gY hz;have hr:=jI hx;have hr0:=hr;obtain⟨a,c,hsh,_⟩:=hr0;simp at hsh;rw[hsh]at hr;obtain⟨b,o,rfl,h6⟩:=EC hr h4;refine⟨_,_,h,Yv.of (v:=.pointer (some ⟨b,o+j.toNat*n,none⟩)) ⟨b,_,rfl,by simp_all[bV]⟩ (fun w'=>jl h1 h2 hsh hi h3 h5)⟩
    grind
   ·rename_i i
    split at h
    ·rename_i t0 e' xs hg
     split at h
     ·rename_i hsz
      obtain⟨z,hz,h⟩:=bK h;obtain⟨h3,h4,h5⟩:=gY hz;obtain⟨p,h6,h7⟩:=hx;obtain⟨p',h8,h9⟩:=he.get hg;rw[h6]at h8;cases h8;obtain⟨a,ha⟩:=h9.addr h5;obtain⟨pa,pn,pc⟩:=p;simp only at ha h7 h9;subst ha;have h7:=h7.some;refine⟨_,_,h,Yv.of (v:=.pointer (some ⟨a,0+j.toNat*n,none⟩)) ⟨a,0,pn,pc,h6,by simp_all⟩ (fun w'=>jl h1 h2 h7 hi h3 (by rw[h9.len];exact h5))⟩
     grind
    grind
   ·rename_i i sz lo m
    split at h
    ·rename_i t0 e' xs hg
     split at h
     ·rename_i hsz
      obtain⟨hsz,rfl⟩:=hsz;obtain⟨hj0,h⟩:=bS h;obtain⟨hjm,h⟩:=bS h;obtain⟨z,hz,h⟩:=bK h;have hj0:(0:Int)≤j:=of_decide_eq_true hj0;have hjm:(j:Int)<(m:Int):=of_decide_eq_true hjm;obtain⟨h3,h4,h5⟩:=gY hz;obtain⟨p,a,c,h6,q1,q2,q3,hu,q5,q6⟩:=hx;obtain⟨p',h8,h9⟩:=he.get hg;rw[h6]at h8;cases h8;have aux:∀lo j m:Int,0≤lo->0≤j->j<m->m≠0∧j.toNat<m.toNat∧(lo+j).toNat=lo.toNat+j.toNat:=by omega
      obtain⟨aux1,aux2,hnat⟩:=aux lo j m q1 hj0 hjm;obtain⟨_,g',o',q7,rfl⟩:=q6.1 (by omega);obtain⟨pa,pn,pc⟩:=p;simp only at q7;subst q7;refine⟨_,_,h,Yv.of (v:=.pointer (some ⟨g',o'+lo.toNat*sz+j.toNat*sz,none⟩)) ⟨g',o',pn,pc,h6,by grind⟩ (fun w'=>jl h1 h2 hu hi hj0 aux2)⟩
     grind
    grind
   grind
  ·split at h
   ·rename_i m e n har
    obtain⟨h1,h2⟩:=qE har;split at h
    ·rename_i i o
     split at h
     ·rename_i t0 e' xs hg
      split at h
      ·rename_i hc
       obtain⟨hsz,rfl⟩:=hc;obtain⟨hjm,h⟩:=bS h;obtain⟨z,hz,h⟩:=bK h;obtain⟨h3,h4,h5⟩:=gY hz;obtain⟨g',n',c',h6,hu⟩:=hx0;exact⟨_,_,h,Yv.of (v:=.pointer (some ⟨g',0+j.toNat*n,none⟩)) ⟨g',0,n',c',h6,by simp_all⟩ (fun w'=>jW h1 h2 hu hi h3 (of_decide_eq_true hjm))⟩
      grind
     ·obtain⟨q,h3,rfl,hq⟩:=Nb h
      obtain⟨g',n',c',h6,hu⟩:=hx0;exact⟨_,_,hq,Yv.of (v:=.pointer (some ⟨g',o+q*n,none⟩)) ⟨g',n',c',h6,rfl⟩ (fun w'=>by simpa using jW h1 h2 hu hi (by omega) (by omega))⟩
     grind
    ·rename_i i' j' sz o
     split at h
     ·rename_i m' ft hty
      split at h
      ·rename_i hc
       obtain⟨hfs,rfl⟩:=hc;obtain⟨hj0,h⟩:=bS h;obtain⟨hjm,h⟩:=bS h;obtain⟨g',b',n',c',h6,hu⟩:=hx0;exact⟨_,_,h,Yv.of (v:=.pointer (some ⟨g',_,none⟩)) ⟨g',b',n',c',h6,by simp_all⟩ (fun w'=>jW h1 h2 hu hi (of_decide_eq_true hj0) (of_decide_eq_true hjm))⟩
      grind
     grind
    ·rename_i m' t0 ys
     split at h
     ·rename_i hc
      obtain⟨hsz,rfl⟩:=hc;obtain⟨z,hz,h⟩:=bK h;obtain⟨h3,h4,h5⟩:=gY hz;obtain⟨b,o,hu,hb,hbL,cs,⟨hlen,hrow⟩,hcl⟩:=hx0;obtain⟨p2,c2,q2,e2,e3,r2,_⟩:=hrow.at h4;have hjm:j<(m':Int):=(Int.toNat_lt h3).1 (Nat.lt_of_lt_of_eq h5 hlen);refine⟨_,_,h,Yv.of (v:=.pointer (some ⟨b,o+j.toNat*n,none⟩)) ⟨b,_,rfl,hb,hbL,c2,r2,fun q v hq=>?_⟩ (fun w'=>jW h1 h2 hu hi h3 hjm)⟩;have:=hcl (p2.length+q) v (by grind);simp_all[bV,Nat.add_assoc]
     grind
    grind
   grind
 grind
end
end Ev
end
noncomputable section
namespace Ev
open Go Go.RowKit Sx
section
variable {pl:List Place}{L:Lx}{w w':World}{l:List Value}{P:Program}{S:St}{d:Option Tmp}{ty:TypeId}{pos:String}{af:Array Edge}{g:Option (Nat×Bool)}{R:Type}
def iX(l:List Value)(x:Option Operand)(i z:Int):Prop:=(x=none∧i=z)∨∃o k,x=some o∧ev l o = .int k i
theorem Nc{α:Type}{R:Rp α}{t e:TypeId}{x:Operand}{lo hi:Option Operand}{a:Option Addr}{n c:Nat}{xs y:List α}{i j:Int}(ht:P.underlying t=some (.slice e))(hs:eG P e=some R.size)
  (hx:ev l x = .slice a n c) (hr:(Rp.slice R).rel L w [.slice a n c] xs) (hlo:iX l lo i 0) (hhi:iX l hi j xs.length) (h:cut xs i j=some y) :
  ∃a' c',(Rp.slice R).rel L w [.slice a' y.length c'] y∧∀w',(execOp (ev l) ⟨d,.slice t x lo hi none,ty,pos,af,g⟩).run P w' = .ok (.value (.slice a' y.length c')) w':=by
 obtain⟨h0,h1,h2,hy⟩:=nZ h;obtain⟨a0,c0,e1,hcap,h3⟩:=hr;simp at e1;obtain⟨rfl,rfl,rfl⟩:=e1;obtain⟨i,rfl⟩:=zK h0;obtain⟨j,rfl⟩:=zK (Int.le_trans h0 h1);have hij:i≤j:=by omega
 have hj:j≤xs.length:=by omega
 simp only[zM]at hy;have hyl:y.length=j - i:=by simp_all
 refine⟨if c=i then a else a.map (·.add (i*R.size)),c - i,⟨_,c - i,rfl,by omega,fun hne=>?_⟩,fun w'=>?_⟩
 ·have hlt:i<j:=by simp_all
  obtain⟨b,o,rfl,h4⟩:=h3 (by grind);rw[if_neg (by omega)];grind[Addr.add_lit',zR,zW,List.getElem?_take_of_lt,Nat.add_mul,Nat.add_assoc]
 ·have hb:(Instr.sliceBounds true xs.length c (lo.map (ev l)) (hi.map (ev l)) none).run P w' = .ok (i,j,c) w':=by
   unfold Instr.sliceBounds;rcases hhi with ⟨rfl,e2⟩ | ⟨oh,kh,rfl,e2⟩
   ·have e2:j=xs.length:=by omega
    subst e2;rcases hlo with ⟨rfl,e3⟩ | ⟨ol,kl,rfl,e3⟩
    ·simp_all
    simp_all[Instr.sliceBound,asIntOf]
   ·rcases hlo with ⟨rfl,e3⟩ | ⟨ol,kl,rfl,e3⟩
    ·have e3:i=0:=by omega
     subst e3;simp[Instr.sliceBound,asIntOf,e2];omega
    ·have hjc:(j:Int)≤c:=by omega
     simp_all[Int,Instr.sliceBound,asIntOf,if_pos]
  have hsl:(Instr.sliceAt t (ev l x) (lo.map (ev l)) (hi.map (ev l)) ((none:Option Operand).map (ev l))).run P w' = .ok (.slice (if c=i then a else a.map (·.add (i*R.size))) (j - i) (c - i)) w':=by unfold Instr.sliceAt;simp only[Sem.run_bind,run_underlying ht,zJ];unfold Instr.slice;simp only[Sem.run_bind,run_underlying ht,zJ,hx,Option.map_none,hb,run_sizeOf hs,Sem.run_pure]
  simp_all[execOp,Sem.run_bind,zJ,Sem.run_pure]
theorem rJ{t e:TypeId}{sz:Nat}{x:Operand}{lo hi:Option Operand}{a:Option Addr}{n c:Nat}{i j:Int}(ht:P.underlying t=some (.slice e))(hs:eG P e=some sz)
  (hx:ev l x = .slice a n c) (hlo:iX l lo i 0) (hhi:iX l hi j n) (h0:0≤i) (h1:i≤j) (h2:j≤n) (hc:n≤c) :
  ∀w',(execOp (ev l) ⟨d,.slice t x lo hi none,ty,pos,af,g⟩).run P w' = .ok (.value (.slice (if c=i.toNat then a else a.map (·.add (i.toNat*sz))) (j - i).toNat (c - i.toNat))) w':=by
 intro w';obtain⟨i,rfl⟩:=zK h0;obtain⟨j,rfl⟩:=zK (Int.le_trans h0 h1);have hij:i≤j:=by omega
 have hj:j≤n:=by omega
 have hb:(Instr.sliceBounds true n c (lo.map (ev l)) (hi.map (ev l)) none).run P w' = .ok (i,j,c) w':=by
  unfold Instr.sliceBounds;rcases hhi with ⟨rfl,e2⟩ | ⟨oh,kh,rfl,e2⟩
  ·have e2:j=n:=by omega
   subst e2;rcases hlo with ⟨rfl,e3⟩ | ⟨ol,kl,rfl,e3⟩
   ·simp_all
   simp_all[Instr.sliceBound,asIntOf]
  ·rcases hlo with ⟨rfl,e3⟩ | ⟨ol,kl,rfl,e3⟩
   ·have e3:i=0:=by omega
    subst e3;simp[Instr.sliceBound,asIntOf,e2];omega
   ·have hjc:(j:Int)≤c:=by omega
    simp_all[Int,Instr.sliceBound,asIntOf,if_pos]
 have hsl:(Instr.sliceAt t (ev l x) (lo.map (ev l)) (hi.map (ev l)) ((none:Option Operand).map (ev l))).run P w' = .ok (.slice (if c=i then a else a.map (·.add (i*sz))) (j - i) (c - i)) w':=by unfold Instr.sliceAt;simp only[Sem.run_bind,run_underlying ht,zJ];unfold Instr.slice;simp only[Sem.run_bind,run_underlying ht,zJ,hx,Option.map_none,hb,run_sizeOf hs,Sem.run_pure]
 simp_all[Int,zM,execOp,Sem.run_bind,zJ,Sem.run_pure]
theorem BL{t e:TypeId}{sz m:Nat}{x:Operand}{lo hi:Option Operand}{b o:Nat}{i j:Int}(ht:P.underlying t=some (.array m e))(hs:eG P e=some sz)
  (hx:ev l x = .pointer (some ⟨b,o,none⟩)) (hlo:iX l lo i 0) (hhi:iX l hi j m) (h0:0≤i) (h1:i≤j) (h2:j≤m) :
  ∀w',(execOp (ev l) ⟨d,.slice t x lo hi none,ty,pos,af,g⟩).run P w' = .ok (.value (.slice (some (if m=i.toNat then ⟨b,o,none⟩ else ⟨b,o+i.toNat*sz,none⟩)) (j - i).toNat (m - i.toNat))) w':=by
 intro w';obtain⟨i,rfl⟩:=zK h0;obtain⟨j,rfl⟩:=zK (Int.le_trans h0 h1);have hij:i≤j:=by omega
 have hj:j≤m:=by omega
 have hb:(Instr.sliceBounds false m m (lo.map (ev l)) (hi.map (ev l)) none).run P w' = .ok (i,j,m) w':=by
  unfold Instr.sliceBounds;rcases hhi with ⟨rfl,e2⟩ | ⟨oh,kh,rfl,e2⟩
  ·have e2:j=m:=by omega
   subst e2;rcases hlo with ⟨rfl,e3⟩ | ⟨ol,kl,rfl,e3⟩
   ·simp_all
   simp_all[Instr.sliceBound,asIntOf]
  ·rcases hlo with ⟨rfl,e3⟩ | ⟨ol,kl,rfl,e3⟩
   ·simp_all[Instr.sliceBound,asIntOf]
   simp_all[Int,Instr.sliceBound,asIntOf,if_pos]
 have hsl:(Instr.sliceAt t (ev l x) (lo.map (ev l)) (hi.map (ev l)) ((none:Option Operand).map (ev l))).run P w' = .ok (.slice (some (if m=i then ⟨b,o,none⟩ else ⟨b,o+i*sz,none⟩)) (j - i) (m - i)) w':=by unfold Instr.sliceAt;simp only[Sem.run_bind,run_underlying ht,zJ,hx,Instr.sureAddr,Sem.run_pure,Option.map_none,hb,run_sizeOf hs,Addr.add_lit']
 simp_all[Int,zM,execOp,Sem.run_bind,zJ,Sem.run_pure]
def dZ(S:St)(x:Option Operand)(z:Int):Option Int:=match x with
 | none=>some z
 | some o=>match opv S o with
  | some (.d (.int _) i)=>some i
  | _=>none
theorem jJ(hf:FrD pl L w S.fr l){x:Option Operand}{i z:Int}(h:dZ S x z=some i):iX l x i z:=by
 unfold dZ at h;split at h
 ·cases h;exact .inl ⟨rfl,rfl⟩
 ·split at h
  ·rename_i o k n ho
   cases h
   exact .inr ⟨_,_,rfl,je (bf hf ho)⟩
  grind
theorem LZ{t:TypeId}{x:Operand}{lo hi:Option Operand}{s y:List UInt8}{i j:Int}(ht:P.underlying t=some .string)
  (hx:ev l x = .string ⟨⟨s⟩⟩) (hlo:iX l lo i 0) (hhi:iX l hi j s.length) (h:cut s i j=some y) :
  ∀w',(execOp (ev l) ⟨d,.slice t x lo hi none,ty,pos,af,g⟩).run P w' = .ok (.value (.string ⟨⟨y⟩⟩)) w':=by
 intro w';rcases hlo with ⟨rfl,e1⟩ | ⟨ol,kl,rfl,e1⟩
 ·subst e1
  rcases hhi with ⟨rfl,e2⟩ | ⟨oh,kh,rfl,e2⟩
  ·subst e2
   obtain⟨h0,h1,h2,rfl⟩:=nZ h;have e:(⟨⟨s⟩⟩:ByteArray).size=s.length:=rfl;simp[execOp,Instr.sliceAt,hx,run_underlying ht,Instr.slice,Instr.sliceBounds,e,qR]
  ·exact Gf ht hx e2 h
 ·rcases hhi with ⟨rfl,e2⟩ | ⟨oh,kh,rfl,e2⟩
  ·subst e2
   exact Gd ht hx e1 h
  ·exact EE ht hx e1 e2 h
def prt{α:Type}(xs:List α)(lo n:Int):List α:=(xs.drop lo.toNat).take n.toNat
def Nf(P:Program)(S:St)(t:TypeId)(s:SV)(lo hi:Option Operand)(K:SV->List Nat->Option R):Option R :=
 match nz s with
 | .d .str b=>if isStr P t then match dZ S lo 0,dZ S hi b.length with
  | some i,some j=>(cut b i j).bind fun y=>K (.d .str y) []
  | _,_=>none else none
 | .d (.sl t0) xs=>match fq P t with
  | some (_,n)=>if t0.size=n then match dZ S lo 0,dZ S hi xs.length with
   | some i,some j=>(cut xs i j).bind fun y=>K (.d (.sl t0) y) []
   | _,_=>none else none
  | none=>none
 | .rowz q=>match fq P t,get S.own q with
  | some (_,n),some (.row t0 _ xs)=>if t0.size=n then match dZ S lo 0,dZ S hi xs.length with
   | some i,some j=>need (ge i 0) (need (le i j) (need (le j xs.length) (K (.sub q n i (j - i)) [])))
   | _,_=>none else none
  | _,_=>none
 | .sub q sz lo0 m=>match fq P t with
  | some (_,n)=>if sz=n then match dZ S lo 0,dZ S hi m with
   | some i,some j=>need (ge i 0) (need (le i j) (need (le j m) (K (.sub q n (lo0+i) (j - i)) [])))
   | _,_=>none else none
  | none=>none
 | .pb q o=>match qD P t,get S.own q with
  | some (m,_,n),some (.row t0 _ xs)=>if t0.size=n∧o=0 then match dZ S lo 0,dZ S hi m with
   | some i,some j=>need (ge i 0) (need (le i j) (need (le j m) (need (le m xs.length) (K (.sub q n i (j - i)) []))))
   | _,_=>none else none
  | _,_=>none
 | .pe (.ar m' t0) ys=>match qD P t with
  | some (m,_,n)=>if t0.size=n∧m'=m then match dZ S lo 0,dZ S hi m with
   | some i,some j=>need (ge i 0) (need (le i j) (need (le j m) (K (.d (.sl t0) (prt (show List (Vl t0) from ys) i (j - i))) [])))
   | _,_=>none else none
  | none=>none
 | _=>none
theorem Dn{p:Place}{q sz:Nat}{i j lo0 m:Int}{a:Option Addr}{c:Nat}(hp:pl[q]? = some p)(h0:0≤i)(h1:i≤j)(h2:j≤m)(hl:0≤lo0)(hm:lo0+m≤p.n)(hc:m.toNat≤c)(ha:(c≠0->lo0.toNat+c≤p.c∧∃g o,p.a=some ⟨g,o,none⟩∧a=some ⟨g,o+lo0.toNat*sz,none⟩)∧(p.c≠0->blk a=blk p.a)) :
  Den pl L w (.sub q sz (lo0+i) (j - i)) (.slice (if c=i.toNat then a else a.map (·.add (i.toNat*sz))) (j - i).toNat (c - i.toNat)):=by
 refine⟨p,_,_,hp,by omega,by omega,by omega,rfl,by omega,fun hne=>?_,fun hne=>?_⟩
 ·obtain⟨h5,g,o,h3,h4⟩:=ha.1 (by omega)
  refine⟨by omega,g,o,h3,?_⟩;rw[if_neg (by omega),h4];simp only[Option.map_some,Addr.add_lit']
  congr 2
  rw[show (lo0+i).toNat=lo0.toNat+i.toNat by omega,Nat.add_mul,Nat.add_assoc]
 ·rw[<- ha.2 hne]
  split
  ·rfl
  ·cases a with
   | none=>rfl
   | some b=>simp[blk,Addr.add];split<;>rfl
theorem Zd(hf:FrD pl L w S.fr l)(he:EntsD pl L w S.own){t:TypeId}{x:Operand}{s:SV}{lo hi:Option Operand}{K:SV->List Nat->Option R}{r:R}(h:Nf P S t s lo hi K=some r)(hx:Den pl L w s (ev l x)) :
  ∃s' rd,K s' rd=some r∧Yv P pl L w l ⟨d,.slice t x lo hi none,ty,pos,af,g⟩ s' rd:=by
 replace hx:=yP hx
 unfold Nf at h;generalize nz s=s at h hx;split at h
 ·split at h
  ·rename_i ht
   split at h
   ·rename_i i j hi' hj'
    obtain⟨y,hy,h⟩:=bK h;exact⟨_,_,h,Yv.of (xg _) (LZ (gu ht) (jq hx) (jJ hf hi') (jJ hf hj') hy)⟩
   grind
  grind
 ·split at h
  ·rename_i e n hel
   obtain⟨h1,h2⟩:=jE hel;split at h
   ·rename_i hsz
    split at h
    ·rename_i i j hi' hj'
     obtain⟨y,hy,h⟩:=bK h;have hr:=jI hx;have hr0:=hr;obtain⟨a,c,hsh,_⟩:=hr0;simp at hsh;rw[hsh]at hr;obtain⟨a',c',h3,h4⟩:=Nc (d:=d) (ty:=ty) (pos:=pos) (af:=af) (g:=g) h1 (by simp_all[bV]) hsh hr (jJ hf hi') (jJ hf hj') hy;exact⟨_,_,h,Yv.of (uq (t:=.sl _) rfl h3) h4⟩
    grind
   grind
  grind
 ·rename_i q
  split at h
  ·rename_i e n t0 e0 xs hel hg
   obtain⟨h1,h2⟩:=jE hel;split at h
   ·rename_i hsz
    split at h
    ·rename_i i j hi' hj'
     obtain⟨k1,h⟩:=bS h;obtain⟨k2,h⟩:=bS h;obtain⟨k3,h⟩:=bS h;have k1:0≤i:=of_decide_eq_true k1;have k2:i≤j:=of_decide_eq_true k2;have k3:j≤(xs.length:Int):=of_decide_eq_true k3;obtain⟨p,h3,h4⟩:=hx;obtain⟨p',h5,h6⟩:=he.get hg;rw[h3]at h5;cases h5;have hlen:=h6.len;have hcap:=h6.2.cap_le
     have hsh:∃a,ev l x = .slice a p.n p.c∧((p.c≠0->(0:Int).toNat+p.c≤p.c∧∃g o,p.a=some ⟨g,o,none⟩∧a=some ⟨g,o+(0:Int).toNat*n,none⟩)∧(p.c≠0->blk a=blk p.a)):=by
      rcases h4 with h4 | ⟨q1,q2,q3,a,h4⟩
      ·exact⟨p.a,h4,fun hne=>by
        obtain⟨g,hg⟩:=h6.2.addr_cap hne
        exact⟨by simp,g,0,hg,by simp[hg]⟩,fun _=>rfl⟩
      ·exact⟨a,by simp_all,fun hne=>absurd q3 hne,fun hne=>absurd q3 hne⟩
     obtain⟨a,hu,ha⟩:=hsh;have hrun:=rJ (P:=P) (d:=d) (ty:=ty) (pos:=pos) (af:=af) (g:=g) h1 h2 hu (jJ hf hi') (by rw[hlen];exact jJ hf hj') k1 k2 (by omega) (by omega);refine⟨_,_,h,Yv.of ?_ hrun⟩;have:=Dn (L:=L) (w:=w) (sz:=n) (lo0:=0) (m:=xs.length) (a:=a) (c:=p.c) h3 k1 k2 k3 (by omega) (by omega) (by omega) ha;simp_all
    grind
   grind
  grind
 ·rename_i q sz lo0 m
  split at h
  ·rename_i e n hel
   obtain⟨h1,h2⟩:=jE hel;split at h
   ·rename_i hsz
    subst hsz;split at h
    ·rename_i i j hi' hj'
     obtain⟨k1,h⟩:=bS h;obtain⟨k2,h⟩:=bS h;obtain⟨k3,h⟩:=bS h;have k1:0≤i:=of_decide_eq_true k1;have k2:i≤j:=of_decide_eq_true k2;have k3:j≤m:=of_decide_eq_true k3;obtain⟨p,a,c,h3,q1,q2,q3,hu,q5,q6⟩:=hx;have hrun:=rJ (P:=P) (d:=d) (ty:=ty) (pos:=pos) (af:=af) (g:=g) h1 h2 hu (jJ hf hi') (by rw[Int.toNat_of_nonneg q2];exact jJ hf hj') k1 k2 (by omega) q5;exact⟨_,_,h,Yv.of (Dn h3 k1 k2 k3 q1 q3 q5 q6) hrun⟩
    grind
   grind
  grind
 ·rename_i q o
  split at h
  ·rename_i m e n t0 e0 xs har hg
   obtain⟨h1,h2⟩:=qE har;split at h
   ·rename_i hsz
    obtain⟨hsz,rfl⟩:=hsz;split at h
    ·rename_i i j hi' hj'
     obtain⟨k1,h⟩:=bS h;obtain⟨k2,h⟩:=bS h;obtain⟨k3,h⟩:=bS h;obtain⟨k4,h⟩:=bS h;have k1:0≤i:=of_decide_eq_true k1;have k2:i≤j:=of_decide_eq_true k2;have k3:j≤(m:Int):=of_decide_eq_true k3;have k4:(m:Int)≤(xs.length:Int):=of_decide_eq_true k4;obtain⟨g',n',c',h3,hu⟩:=hx;obtain⟨p',h5,h6⟩:=he.get hg;rw[h3]at h5;cases h5;have hlen:=h6.len;have hrun:=BL (P:=P) (d:=d) (ty:=ty) (pos:=pos) (af:=af) (g:=g) h1 h2 hu (jJ hf hi') (jJ hf hj') k1 k2 k3;have hcap:=h6.2.cap_le;have hlen:n'=xs.length:=hlen;have hcap:xs.length≤c':=hcap;have hmn:m≤n'∧m≤c':=by omega
     refine⟨_,_,h,Yv.of ?_ hrun⟩;have:=Dn (L:=L) (w:=w) (sz:=n) (lo0:=0) (m:=m) (a:=some ⟨g',0,none⟩) (c:=m) h3 k1 k2 k3 (Int.le_refl 0) (by show (0:Int)+m≤(n':Nat);omega) (by omega) ⟨fun _=>⟨by show (0:Int).toNat+m≤c';omega,g',0,rfl,by simp⟩,fun _=>rfl⟩;split<;>simp_all[Addr.add_lit']
    grind
   grind
  grind
 ·rename_i m' t0 ys
  split at h
  ·rename_i m e n har
   obtain⟨h1,h2⟩:=qE har;split at h
   ·rename_i hsz
    obtain⟨hsz,rfl⟩:=hsz;split at h
    ·rename_i i j hi' hj'
     obtain⟨k1,h⟩:=bS h;obtain⟨k2,h⟩:=bS h;obtain⟨k3,h⟩:=bS h;have k1:0≤i:=of_decide_eq_true k1;have k2:i≤j:=of_decide_eq_true k2;have k3:j≤(m':Int):=of_decide_eq_true k3;obtain⟨b,o,hu,hb,hbL,cs,⟨hlen,hrow⟩,hc⟩:=hx;have hrun:=BL (P:=P) (d:=d) (ty:=ty) (pos:=pos) (af:=af) (g:=g) h1 h2 hu (jJ hf hi') (jJ hf hj') k1 k2 k3;obtain⟨i,rfl⟩:=zK k1;obtain⟨j,rfl⟩:=zK (Int.le_trans k1 k2);have hle:i≤j:=by omega
     have hjm:j≤m':=by omega
     have e0:((j:Int) - i).toNat=j - i:=by omega
     have hpl:(prt (show List (Vl t0) from ys) (i:Int) ((j:Int) - i)).length=j - i:=by unfold prt;grind
     refine⟨_,_,h,Yv.of (uq (t:=.sl t0) rfl ⟨_,_,by rw[hpl,e0],?_,fun hne=>⟨b,o+i*n,?_,fun k y hk=>?_⟩⟩) hrun⟩
     ·omega
     ·have hij:j≠i:=fun e=>hne (List.eq_nil_of_length_eq_zero (by omega))
      grind
     ·unfold prt at hk
      rw[e0,zM]at hk;have hkn:k<j - i:=by grind
      rw[List.getElem?_take_of_lt hkn,List.getElem?_drop]at hk;obtain⟨p2,c2,q2,e2,e3,r2,_⟩:=hrow.at hk;refine⟨hb,hbL,c2,r2,fun q v hq=>?_⟩;have:=hc (p2.length+q) v (by grind);grind[bV,Nat.add_mul]
    grind
   grind
  grind
 grind
def BM(P:Program)(t:TypeId):Bool:=match P.underlying t with
 | some (.slice _)=>true
 | _=>false
theorem uN{t:TypeId}(h:BM P t=true):∃e,P.underlying t=some (.slice e):=by grind[BM]
def aaQ(P:Program)(own:List (Nat×Ent))(t:TypeId)(s:SV)(K:SV->List Nat->Option R):Option R :=
 match nz s with
 | .d .str b=>if isStr P t then K (.d (.int .i64) (b.length:Int)) [] else none
 | .d (.sl _) xs=>if BM P t then K (.d (.int .i64) (xs.length:Int)) [] else none
 | .rowz i=>if BM P t then match get own i with
  | some (.row _ _ xs)=>K (.d (.int .i64) (xs.length:Int)) []
  | _=>none else none
 | .k (.slice none 0 0)=>if BM P t then K (.d (.int .i64) 0) [] else none
 | .sub _ _ _ n=>if BM P t then K (.d (.int .i64) n) [] else none
 | _=>none
theorem ag7{own:List (Nat×Ent)}(he:EntsD pl L w own){t:TypeId}{x:Operand}{s:SV}{K:SV->List Nat->Option R}{r:R}(h:aaQ P own t s K=some r)(hx:Den pl L w s (ev l x)) :
  ∃s' rd,K s' rd=some r∧Yv P pl L w l ⟨d,.call { callee:=.builtin .len,args:=#[x],argTypes:=#[t] },ty,pos,af,g⟩ s' rd:=by
 replace hx:=yP hx
 unfold aaQ at h;generalize nz s=s at h hx;split at h
 ·split at h
  ·rename_i ht
   exact⟨_,_,h,Yv.of (dM _ _) (fun w'=>Rf (gu ht) (jq hx))⟩
  grind
 ·split at h
  ·rename_i ht
   obtain⟨e,ht⟩:=uN ht;have hr:=jI hx;obtain⟨a,c,hsh,_⟩:=hr;simp at hsh;exact⟨_,_,h,Yv.of (dM _ _) (fun w'=>jV ht hsh rfl)⟩
  grind
 ·split at h
  ·rename_i ht
   obtain⟨e,ht⟩:=uN ht;split at h
   ·rename_i t0 e' xs hg
    obtain⟨p,h6,h7⟩:=hx;obtain⟨p',h8,h9⟩:=he.get hg;rw[h6]at h8;cases h8;have hn:=h9.len;rcases h7 with h7 | ⟨_,q2,_,a,h7⟩
    ·exact⟨_,_,h,Yv.of (dM _ _) (fun w'=>jV ht h7 hn)⟩
    ·exact⟨_,_,h,Yv.of (dM _ _) (fun w'=>jV ht h7 (by omega))⟩
   grind
  grind
 ·split at h
  ·rename_i ht
   obtain⟨e,ht⟩:=uN ht;exact⟨_,_,h,Yv.of (dM _ _) (fun w'=>jV ht hx rfl)⟩
  grind
 ·split at h
  ·rename_i ht
   obtain⟨e,ht⟩:=uN ht;obtain⟨p,a,c,_,_,q2,_,hu,_,_⟩:=hx;refine⟨_,_,h,Yv.of (dM _ _) (fun w'=>?_)⟩;have:=jV (P:=P) (w:=w') (d:=d) (ty:=ty) (pos:=pos) (af:=af) (gd:=g) ht hu rfl;grind
  grind
 grind
def aaR(k:IntKind)(n:Int):Int:=M0 k (if k.signed then -1 else k.max) n
theorem aaS{t:TypeId}{x:Operand}{k:IntKind}{a:Int}(hx:ev l x = .int k a) :
  (execOp (ev l) ⟨d,.unOp .xor t x,ty,pos,af,g⟩).run P w = .ok (.value (.int k (aaR k a))) w:=by simp[execOp,hx,Op.unary,Op.intBits,aaR,M0]
def qUn(op:UnOp)(s:SV)(K:SV->List Nat->Option R):Option R :=
 match op,s with
 | .not,.d .bool b=>K (.d .bool (!b)) []
 | .neg,.d (.int k) n=>K (.d (.int k) (neg k n)) []
 | .xor,.d (.int k) n=>K (.d (.int k) (aaR k n)) []
 | _,_=>none
theorem aiv{op:UnOp}{t:TypeId}{x:Operand}{s:SV}{K:SV->List Nat->Option R}{r:R}(h:qUn op s K=some r)(hx:Den pl L w s (ev l x)) :
  ∃s' rd,K s' rd=some r∧Yv P pl L w l ⟨d,.unOp op t x,ty,pos,af,g⟩ s' rd:=by
 unfold qUn at h;split at h
 ·exact⟨_,_,h,Yv.of (gq _) (fun w'=>agV (jC hx))⟩
 ·exact⟨_,_,h,Yv.of (dM _ _) (fun w'=>agW (je hx))⟩
 ·exact⟨_,_,h,Yv.of (dM _ _) (fun w'=>aaS (je hx))⟩
 grind
def vC(P:Program)(t:TypeId):Option TypeId:=match P.underlying t with
 | some (.slice e)=>match P.underlying e with
  | some (.int .u8)=>some e
  | _=>none
 | _=>none
theorem xu{t e:TypeId}(h:vC P t=some e):P.underlying t=some (.slice e)∧P.underlying e=some (.int .u8):=by grind[vC]
def TC(P:Program)(t:TypeId):Bool:=match P.underlying t with
 | some .unsafePointer=>true
 | _=>false
def agt(P:Program)(e:TypeId):Bool:=match P.info? e with
 | some j=>j.size != 0
 | none=>false
def Gl(P:Program)(t:TypeId):Option TypeId:=match P.underlying t with
 | some (.pointer e)=>if agt P e=true then some e else none
 | _=>none
theorem EH{t e:TypeId}(h:Gl P t=some e):P.underlying t=some (.pointer e)∧∃j,P.info? e=some j∧j.size≠0:=by grind[Gl,agt]
theorem RD{t:TypeId}(h:TC P t=true):P.underlying t=some .unsafePointer:=by grind[TC]
def TD(P:Program)(own:List (Nat×Ent))(t u:TypeId)(s:SV)(K:SV->List Nat->Option R):Option R :=
 match nz s with
 | .d (.int _) n=>match P.underlying t,P.underlying u with
  | some _,some (.int k')=>K (.d (.int k') (cvt k' n)) []
  | _,_=>none
 | .d .str b=>if isStr P t=true∧isStr P u=true then K (.d .str b) [] else none
 | .d (.sl (.int .u8)) xs=>match vC P t with
  | some _=>if isStr P u=true then K (.d .str (toS xs)) [] else none
  | none=>none
 | .rowz i=>match vC P t,get own i with
  | some _,some (.row (.int .u8) _ xs)=>if isStr P u=true then K (.d .str (toS xs)) [i] else none
  | _,_=>none
 | .sub i sz lo n=>match vC P t,get own i with
  | some _,some (.row (.int .u8) _ xs)=>if isStr P u=true∧sz=1 then K (.d .str (toS (prt xs lo n))) [i] else none
  | _,_=>none
 | .pb i o=>match get own i with
  | some (.box T cs)=>if decide (o<cs.length)=true then match Gl P t with
    | some _=>if TC P u=true then K (.pb i o) [i] else none
    | none=>match Gl P u with
     | some e=>if TC P t=true∧liesAt P P.depth T (cs.length / P.cellsOf T) o e 1=true then K (.pb i o) [i] else none
     | none=>none
   else none
  | _=>none
 | _=>none
theorem Aa{t u:TypeId}{x:Operand}{v:Value}(h:(convert t u (ev l x)).run P w = .ok v w):(execOp (ev l) ⟨d,.convert t u x,ty,pos,af,g⟩).run P w = .ok (.value v) w:=by simp_all[execOp,Sem.run_bind,zJ,Sem.run_pure]
theorem TF{t u e:TypeId}{x:Operand}{a:Option Addr}{n c:Nat}{xs:List Int}(ht:P.underlying t=some (.slice e))(he:P.underlying e=some (.int .u8))(hu:P.underlying u=some .string)
  (hx:ev l x = .slice a n c) (hn:xs.length=n) (ha:n≠0->∃b o,a=some ⟨b,o,none⟩∧∀i y,xs[i]? = some y->w.cell? ⟨b,o+i,none⟩=some (.int .u8 y)) :
  (execOp (ev l) ⟨d,.convert t u x,ty,pos,af,g⟩).run P w = .ok (.value (.string ⟨⟨toS xs⟩⟩)) w:=by
 refine Aa ?_;rw[hx];by_cases h0:n=0
 ·subst h0
  have hxs:xs=[]:=List.eq_nil_of_length_eq_zero hn;subst hxs;rw[run_convert_bytes_string w t u e a 0 c ht he hu]
  cases a with
  | none=>rfl
  | some a =>
   rfl
 ·obtain⟨b,o,rfl,hc⟩:=ha h0
  have:=run_convert_bytes_arg (P:=P) w t e ht he b o n c xs hn (fun i hi=>by simp_all) u hu;rw[this];rfl
theorem aaT{own:List (Nat×Ent)}(he:EntsD pl L w own){t u:TypeId}{x:Operand}{s:SV}{K:SV->List Nat->Option R}{r:R}(h:TD P own t u s K=some r)(hx:Den pl L w s (ev l x)) :
  ∃s' rd,K s' rd=some r∧Yv P pl L w l ⟨d,.convert t u x,ty,pos,af,g⟩ s' rd:=by
 replace hx:=yP hx
 unfold TD at h;generalize nz s=s at h hx;split at h
 ·split at h
  ·rename_i h1 h2
   exact⟨_,_,h,Yv.of (dM _ _) (fun w'=>agX h1 h2 (je hx))⟩
  grind
 ·split at h
  ·rename_i hc
   have h1:=gu hc.1;have h2:=gu hc.2;refine⟨_,_,h,Yv.of (xg _) (fun w'=>Aa ?_)⟩;rw[jq hx];simp_all[convert,run_underlying]
  grind
 ·rename_i xs
  split at h
  ·rename_i e hu8
   obtain⟨h1,h2⟩:=xu hu8;split at h
   ·rename_i hst
    have hr:=jI hx;have hr0:=hr;obtain⟨a,c,hsh,_⟩:=hr0;simp at hsh;refine⟨_,_,h,_,xg _,fun w' hF _=>TF h1 h2 (gu hst) hsh rfl (fun hne=>?_)⟩;rw[hsh]at hr;have hr':=(rp (.sl (.int .u8))).mono hr hF;obtain⟨a',c',e1,_,e2⟩:=hr';simp at e1;obtain⟨rfl,rfl⟩:=e1;obtain⟨b,o,rfl,e3⟩:=e2 (by simp_all);refine⟨b,o,rfl,fun i y hy=>?_⟩;obtain⟨_,_,cs,e4,e5⟩:=e3 i y hy;have e4:cs=[.int .u8 y]:=e4;subst e4;have:=e5 0 _ rfl;simp_all[bV,Ty.size]
   grind
  grind
 ·rename_i i
  split at h
  ·rename_i e e0 xs hu8 hg
   obtain⟨h1,h2⟩:=xu hu8;split at h
   ·rename_i hst
    obtain⟨p,h3,h4⟩:=hx;obtain⟨p',h5,h6⟩:=he.get hg;rw[h3]at h5;cases h5;have hlen:=h6.len;refine⟨_,_,h,_,xg _,fun w' hF hrd=>?_⟩;rcases h4 with h4 | ⟨_,q2,_,a,h4⟩
    ·refine TF h1 h2 (gu hst) h4 hlen.symm (fun hne=>?_)
     obtain⟨gg,hga⟩:=h6.addr (i:=0) (by omega);refine⟨gg,0,hga,fun j y hy=>?_⟩;obtain⟨pa,pn,pc⟩:=p;simp only at hga h6;subst hga;obtain⟨cs,e4,e5⟩:=jv h6 hy;have e4:cs=[.int .u8 y]:=e4;subst e4;have:=e5 0 _ rfl;rw[World.cell?_of_block (w:=w) (hrd i (by simp) gg (by rw[fo h3];rfl))];simp_all[bV,Ty.size]
    ·exact TF h1 h2 (gu hst) h4 (by omega) (fun hne=>absurd rfl hne)
   grind
  grind
 ·rename_i i sz lo n
  split at h
  ·rename_i e e0 xs hu8 hg
   obtain⟨h1,h2⟩:=xu hu8;split at h
   ·rename_i hst
    obtain⟨hst,rfl⟩:=hst;obtain⟨p,a,c,h3,q1,q2,q3,hu,q5,q6⟩:=hx;obtain⟨p',h5,h6⟩:=he.get hg;rw[h3]at h5;cases h5;have hlen:=h6.len;refine⟨_,_,h,_,xg _,fun w' hF hrd=>?_⟩;refine TF h1 h2 (gu hst) hu (by grind[prt]) (fun hne=>?_);obtain⟨_,gg,oo,hga,rfl⟩:=q6.1 (by omega);obtain⟨_,hb0⟩:=h6.2.addr_cap (c:=p.c) (by have:=h6.2.cap_le;omega);rw[hga]at hb0;cases hb0;refine⟨gg,_,rfl,fun j y hy=>?_⟩;obtain⟨pa,pn,pc⟩:=p;simp only at hga h6;subst hga;unfold prt at hy;have hjn:j<n.toNat:=by grind
    rw[List.getElem?_take_of_lt hjn,List.getElem?_drop]at hy;obtain⟨cs,e4,e5⟩:=jv h6 hy;have e4:cs=[.int .u8 y]:=e4;subst e4;have:=e5 0 _ rfl;rw[World.cell?_of_block (w:=w) (hrd i (by simp) gg (by rw[fo h3];rfl))];simp_all[bV,Ty.size]
   grind
  grind
 ·rename_i i o
  split at h
  ·rename_i T cs hg
   obtain⟨gg,n,c,us,h3,h4,h5,_⟩:=he.get hg;obtain⟨g',n',c',h6,hu⟩:=hx;rw[h3]at h6;cases h6;have hl:=h5.len;have hshape:∀w':World,(∀k,plb pl i=some k->w'.heap[k]? = w.heap[k]?)->w'.shape? gg=some (T,cs.length):=fun w' hrd=>by have:=hrd gg (by rw[fo h3];rfl);simp_all[Bx,World.shape?]
   split at h
   ·rename_i ho
    have ho:=of_decide_eq_true ho;split at h
    ·rename_i e hp
     obtain⟨p1,j,p2,p3⟩:=EH hp;split at h
     ·rename_i hup
      refine⟨_,_,h,.pointer (some ⟨gg,o,none⟩),⟨gg,n,c,h3,rfl⟩,fun w' hF hrd=>Aa ?_⟩;rw[hu];exact Lib.run_to_unsafe w' _ p1 (RD hup) p2 p3 (hshape w' (hrd i (by simp))) ho
     grind
    ·split at h
     ·rename_i e hp
      obtain⟨p1,j,p2,p3⟩:=EH hp;split at h
      ·rename_i hc
       refine⟨_,_,h,.pointer (some ⟨gg,o,none⟩),⟨gg,n,c,h3,rfl⟩,fun w' hF hrd=>Aa ?_⟩;rw[hu];exact Lib.run_from_unsafe w' _ (RD hc.1) p1 p2 (hshape w' (hrd i (by simp))) hc.2
      grind
     grind
   grind
  grind
 grind
def Ng(P:Program)(t:TypeId)(s i:SV)(K:SV->List Nat->Option R):Option R :=
 match i with
 | .d (.int _) j=>match s with
  | .d .str b=>if isStr P t then (at? b j).bind fun c=>K (.d (.int .u8) (c.toNat:Int)) [] else none
  | .d (.ar _ t0) xs=>match qD P t with
   | some (m,e,n)=>match tyc P e with
    | some fy=>if n=t0.size then need (lt j m) ((at? xs j).bind fun y=>match fK t0 fy y with
     | some z=>K (.d fy z) []
     | none=>none) else none
    | none=>none
   | none=>none
  | .agg cs=>match qD P t with
   | some (m,e,n)=>ixC j (fun q=>match EG P e (q*n) cs with
    | some y=>K y []
    | none=>none) m
   | none=>none
  | _=>none
 | _=>none
theorem Nh{t e:TypeId}{m n:Nat}{x y:Operand}{k:IntKind}{j:Int}{us:List Value}{v:Value}(h1:P.underlying t=some (.array m e))(h2:eG P e=some n)(hx:ev l x = .agg us.toArray)(hy:ev l y = .int k j)(h3:0≤j)(h4:j<m)
  (hp:(part e us.toArray (j.toNat*n)).run P w = .ok v w):(execOp (ev l) ⟨d,.index t x y,ty,pos,af,g⟩).run P w = .ok (.value v) w:=by
 have hi:(Instr.index t (ev l x) (ev l y)).run P w = .ok v w:=by unfold Instr.index;rw[hx,hy];simp only[asIntOf,Sem.run_bind,Sem.run_pure,zJ,run_underlying h1];rw[if_pos ⟨h3,h4⟩];simp only[Sem.run_bind,run_sizeOf h2,zJ,hp]
 simp_all[execOp,Sem.run_bind,zJ,Sem.run_pure]
theorem Ze{t:TypeId}{x y:Operand}{s i:SV}{K:SV->List Nat->Option R}{r:R}(h:Ng P t s i K=some r)(hx:Den pl L w s (ev l x))(hi:Den pl L w i (ev l y)) :
  ∃s' rd,K s' rd=some r∧Yv P pl L w l ⟨d,.index t x y,ty,pos,af,g⟩ s' rd:=by
 unfold Ng at h;split at h
 ·rename_i k j
  split at h
  ·split at h
   ·rename_i ht
    obtain⟨z,hz,h⟩:=bK h;obtain⟨h3,h4,h5⟩:=gY hz;exact⟨_,_,h,Yv.of (dM _ _) (fun w'=>LU (gu ht) (jq hx) (je hi) h3 h4)⟩
   ·cases h
  ·rename_i N t0 xs
   split at h
   ·rename_i m e n har
    obtain⟨h1,h2⟩:=qE har;split at h
    ·rename_i fy hfy
     split at h
     ·rename_i hn
      obtain⟨hjm,h⟩:=bS h;have hjm:(j:Int)<(m:Int):=of_decide_eq_true hjm;obtain⟨z,hz,h⟩:=bK h;obtain⟨h3,h4,h5⟩:=gY hz;split at h
      ·rename_i z' hz'
       obtain⟨e1,hz'⟩:=oM hz';subst e1;subst hz';obtain⟨cs,⟨h6,h7⟩,h8⟩:=hx;obtain⟨pre,c,post,e2,h9,h10,_⟩:=h7.at h4;have hval:ev l x = .agg cs.toArray:=by rw[h8];simp[Rp.val,gI,Ty.agg]
       refine⟨_,_,h,Yv.of (v:=(rp t0).val c) ⟨c,h10,rfl⟩ (fun w'=>Nh h1 h2 hval (je hi) h3 hjm ?_)⟩;obtain⟨⟨dd,q1,q2⟩,q3,q4⟩:=gU hfy
       have hsh:xq P e=some ((rp t0).agg,t0.size):=by
        unfold xq;rw[q1,q3];simp only[q2,bV];rw[if_pos]
        cases ha:(rp t0).agg with
        | true=>exact .inl rfl
        | false=>exact .inr (by have:=q4 ha;rwa[bV]at this)
       have hlen:c.length=t0.size:=by rw[(rp t0).len h10,bV]
       have hoff:j.toNat*n=pre.length:=by rw[h9,hn,bV]
       rw[hoff];have hpart:=BK (P:=P) (w:=w') (us:=cs) (off:=pre.length) hsh (by rw[e2];simp;omega);rw[hpart,e2]
       congr 1
       have:((pre++c++post).drop pre.length).take t0.size=c:=by rw[List.append_assoc,List.drop_left,<- hlen,List.take_left]
       rw[this];rfl
      ·cases h
     ·cases h
    ·cases h
   ·cases h
  ·rename_i cs
   split at h
   ·rename_i m e n har
    obtain⟨h1,h2⟩:=qE har;obtain⟨q,h3,hj,hq⟩:=Nb h;split at hq
    ·rename_i y' hc
     obtain⟨us,h4,h5,h6⟩:=hx;obtain⟨ag,sz,h7,h8,h9⟩:=yQ hc h4 h5;have hi:=je hi;rw[hj]at hi;exact⟨_,_,hq,Yv.of h9 (fun w'=>Nh h1 h2 h6 hi (by omega) (by omega) (by rw[zM];exact BK h7 h8))⟩
    ·cases hq
   ·cases h
  ·cases h
 ·cases h
def TG(P:Program)(t:TypeId)(y:Operand)(s:SV):Option Bool :=
 match P.underlying t with
 | some (.pointer _)=>match y with
  | .const (.pointer none)=>match s with
   | .k (.pointer none)=>some true
   | .pb _ _=>some false
   | .prw _ _ _ _=>some false
   | .pra i _ _ _ _ _ _ _=>some false
   | .pe _ _=>some false
   | .opb b _ _=>some (!b)
   | _=>none
  | _=>none
 | some (.slice _)=>match y with
  | .const (.slice none 0 0)=>match s with
   | .k (.slice none 0 0)=>some true
   | _=>none
  | _=>none
 | some (.map _ _)=>match y with
  | .const (.map none)=>match s with
   | .k (.map none)=>some true
   | .mp _=>some false
   | _=>none
  | _=>none
 | some (.interface _)=>match y with
  | .const .nilIface=>match s with
   | .k .nilIface=>some true
   | .ifc _ _=>some false
   | _=>none
  | _=>none
 | some (.func _ _ _)=>match y with
  | .const .nilFunc=>match s with
   | .k .nilFunc=>some true
   | .fn _ _ _=>some false
   | _=>none
  | _=>none
 | _=>none
inductive NilPair(P:Program) (t:TypeId):Value->Value->Bool->Prop
 | pn {e:TypeId} (h:P.underlying t=some (.pointer e)):NilPair P t (.pointer none) (.pointer none) true
 | pp {e:TypeId} {a:Addr} (h:P.underlying t=some (.pointer e)):NilPair P t (.pointer (some a)) (.pointer none) false
 | sn {e:TypeId} (h:P.underlying t=some (.slice e)):NilPair P t (.slice none 0 0) (.slice none 0 0) true
 | sv {e:TypeId} {n c:Nat} (h:P.underlying t=some (.slice e)):NilPair P t (.slice none n c) (.slice none 0 0) true
 | sa {e:TypeId} {a:Addr} {n c:Nat} (h:P.underlying t=some (.slice e)):NilPair P t (.slice (some a) n c) (.slice none 0 0) false
 | mn {k e:TypeId} (h:P.underlying t=some (.map k e)):NilPair P t (.map none) (.map none) true
 | mm {k e:TypeId} {g:Nat} (h:P.underlying t=some (.map k e)):NilPair P t (.map (some g)) (.map none) false
 | inn {ms:Array (String×TypeId)} (h:P.underlying t=some (.interface ms)):NilPair P t .nilIface .nilIface true
 | ii {ms:Array (String×TypeId)} {t':TypeId} {v:Value} (h:P.underlying t=some (.interface ms)):NilPair P t (.iface t' v) .nilIface false
 | fn {a b:Array TypeId} {c:Bool} (h:P.underlying t=some (.func a b c)):NilPair P t .nilFunc .nilFunc true
 | ff {a b:Array TypeId} {c:Bool} {f:Fn} {x y:Array Value} (h:P.underlying t=some (.func a b c)):NilPair P t (.func f x y) .nilFunc false
theorem NilPair.eq{t:TypeId}{u c:Value}{b:Bool}(h:NilPair P t u c b):(Op.equal t u c).run P w = .ok b w:=by
 have key:∀d:Nat,(Op.equalIn (d+1) t u c).run P w = .ok b w:=fun d=>by
  cases h with
  | pn h=>simp[Op.equalIn,run_underlying h]
  | pp h=>simp[Op.equalIn,run_underlying h]
  | sn h=>simp[Op.equalIn,run_underlying h]
  | sv h=>simp[Op.equalIn,run_underlying h]
  | sa h=>simp[Op.equalIn,run_underlying h]
  | mn h=>simp[Op.equalIn,run_underlying h]
  | mm h=>simp[Op.equalIn,run_underlying h]
  | inn h=>simp[Op.equalIn,run_underlying h]
  | ii h=>simp[Op.equalIn,run_underlying h]
  | fn h=>simp[Op.equalIn,run_underlying h]
  | ff h=>simp[Op.equalIn,run_underlying h]
 exact key 9999
theorem NilPair.run{op:BinOp}{t u:TypeId}{x:Operand}{c:Value}{b:Bool}(h:NilPair P t (ev l x) c b)(ho:op = .eql∨op = .neq) :
  (execOp (ev l) ⟨d,.binOp op t x (.const c) u,ty,pos,af,g⟩).run P w = .ok (.value (.bool (if op = .eql then b else !b))) w:=by
 have he:=h.eq (w:=w);have hc:ev l (.const c)=c:=rfl;have hb:(do eqGuard op t x (.const c) (ev l x) (ev l (.const c));binOp op t (ev l x) (ev l (.const c)):Sem Value).run P w = .ok (.bool (if op = .eql then b else !b)) w:=by rw[hc];generalize ev l x=v at h he;rcases ho with rfl | rfl<;>cases h<;>simp[eqGuard,binOp,he]
 grind[execOp,Sem.run_bind,zJ,Sem.run_pure]
theorem ag8{t:TypeId}{x y:Operand}{s:SV}{b:Bool}(h:TG P t y s=some b)(hx:Den pl L w s (ev l x)):∃c,y = .const c∧NilPair P t (ev l x) c b:=by
 unfold TG at h;split at h
 ·rename_i e he
  split at h
  ·refine⟨_,rfl,?_⟩
   split at h
   ·cases h
    have hx:ev l x = .pointer none:=hx;rw[hx];exact .pn he
   ·cases h
    obtain⟨g,n,c,_,hx⟩:=hx;rw[hx];exact .pp he
   ·cases h
    obtain⟨g,b,n,c,_,hx⟩:=hx;rw[hx];exact .pp he
   ·cases h
    obtain⟨g,b,n,c,_,hx⟩:=hx;rw[hx];exact .pp he
   ·cases h
    obtain⟨g,n,hx,_⟩:=hx;rw[hx];exact .pp he
   ·rename_i b' i o
    cases h
    cases b' with
    | true =>
     obtain⟨g,n,c,_,hx⟩:=hx.1 rfl;rw[hx];exact .pp he
    | false =>
     rw[hx.2 rfl];exact .pn he
   grind
  grind
 ·rename_i e he
  split at h
  ·refine⟨_,rfl,?_⟩
   split at h
   ·cases h
    have hx:ev l x = .slice none 0 0:=hx;rw[hx];exact .sn he
   grind
  grind
 ·rename_i k e he
  split at h
  ·refine⟨_,rfl,?_⟩
   split at h
   ·cases h
    have hx:ev l x = .map none:=hx;rw[hx];exact .mn he
   ·cases h
    obtain⟨g,n,c,_,hx⟩:=hx;rw[hx];exact .mm he
   grind
  grind
 ·rename_i ms he
  split at h
  ·refine⟨_,rfl,?_⟩
   split at h
   ·cases h
    have hx:ev l x = .nilIface:=hx;rw[hx];exact .inn he
   ·cases h
    obtain⟨u',_,hx⟩:=hx;rw[hx];exact .ii he
   grind
  grind
 ·rename_i a1 a2 a3 he
  split at h
  ·refine⟨_,rfl,?_⟩
   split at h
   ·cases h
    have hx:ev l x = .nilFunc:=hx;rw[hx];exact .fn he
   ·cases h
    obtain⟨us,vs,_,_,hx⟩:=hx;rw[hx];exact .ff he
   grind
  grind
 grind
def aaU(P:Program)(op:BinOp)(t:TypeId)(y:Operand)(s:SV)(K:SV->List Nat->Option R):Option R :=
 match TG P t y s with
 | some b=>match op with
  | .eql=>K (.d .bool b) []
  | .neq=>K (.d .bool (!b)) []
  | _=>none
 | none=>none
theorem ag9{op:BinOp}{t u:TypeId}{x y:Operand}{s:SV}{K:SV->List Nat->Option R}{r:R}(h:aaU P op t y s K=some r)(hx:Den pl L w s (ev l x)) :
  ∃s' rd,K s' rd=some r∧Yv P pl L w l ⟨d,.binOp op t x y u,ty,pos,af,g⟩ s' rd:=by
 unfold aaU at h;split at h
 ·rename_i b hb
  obtain⟨c,rfl,hp⟩:=ag8 hb hx;split at h
  ·exact⟨_,_,h,Yv.of (gq _) (fun w'=>hp.run (.inl rfl))⟩
  ·exact⟨_,_,h,Yv.of (gq _) (fun w'=>hp.run (.inr rfl))⟩
  grind
 grind
def aaV(P:Program)(op:BinOp)(t:TypeId)(a b:SV)(K:SV->List Nat->Option R):Option R :=
 match a,b with
 | .pb i o,.pb j o'=>if i=j∧o=o' then match Gl P t with
   | some _=>match op with
    | .eql=>K (.d .bool true) []
    | .neq=>K (.d .bool false) []
    | _=>none
   | none=>none
  else none
 | _,_=>none
theorem aha{op:BinOp}{t u:TypeId}{x y:Operand}{a b:SV}{K:SV->List Nat->Option R}{r:R}(h:aaV P op t a b K=some r)(hx:Den pl L w a (ev l x))(hy:Den pl L w b (ev l y)) :
  ∃s' rd,K s' rd=some r∧Yv P pl L w l ⟨d,.binOp op t x y u,ty,pos,af,g⟩ s' rd:=by
 unfold aaV at h;split at h
 ·split at h
  ·rename_i hc
   obtain⟨rfl,rfl⟩:=hc;split at h
   ·rename_i e he
    obtain⟨h1,j,h2,h3⟩:=EH he;obtain⟨g1,n1,c1,p1,hx⟩:=hx;obtain⟨g2,n2,c2,p2,hy⟩:=hy;rw[p1]at p2;cases p2;have key:∀w' d,(Op.equalIn (d+1) t (ev l x) (ev l y)).run P w' = .ok true w':=fun w' d=>by rw[hx,hy];simp[Op.equalIn,run_underlying h1,Go.sizeOf,typeInfo,h2,run_sameAddr_same]
    have he:∀w',(Op.equal t (ev l x) (ev l y)).run P w' = .ok true w':=fun w'=>key w' 9999;split at h
    ·refine⟨_,_,h,Yv.of (gq _) (fun w'=>?_)⟩
     simp_all[eqGuard,ev,binOp,Sem,Value,bool,execOp,Sem.run_bind,zJ,Sem.run_pure]
    ·refine⟨_,_,h,Yv.of (gq _) (fun w'=>?_)⟩
     simp_all[eqGuard,ev,binOp,Sem,Value,bool,execOp,Sem.run_bind,zJ,Sem.run_pure]
    grind
   grind
  grind
 grind
def mn(a b:Int):Int:=if lt b a=true then b else a
def mx(a b:Int):Int:=if gt b a=true then b else a
def TH(S:St)(k:IntKind):List Operand->Option (List Int)
 | []=>some []
 | x::q=>match opv S x with
  | some (.d (.int k') n)=>if k'=k then (TH S k q).map fun r=>n::r else none
  | _=>none
def ints(S:St):List Operand->Option (IntKind×Int×List Int)
 | []=>none
 | x::q=>match opv S x with
  | some (.d (.int k) n)=>(TH S k q).map fun r=>(k,n,r)
  | _=>none
theorem RE(hf:FrD pl L w S.fr l){k:IntKind}:∀{q:List Operand} {ns:List Int},TH S k q=some ns->q.map (ev l)=ns.map (Value.int k)
 | [],ns,h=>by cases h;rfl
 | x::q,ns,h=>by
  unfold TH at h;split at h
  ·rename_i k' n hx
   split at h
   ·rename_i hk
    subst hk;obtain⟨r,h1,rfl⟩:=Option.map_eq_some_iff.1 h;rw[List.map_cons,List.map_cons,je (bf hf hx),RE hf h1]
   grind
  grind
theorem RF(hf:FrD pl L w S.fr l){q:List Operand}{k:IntKind}{n:Int}{ns:List Int}(h:ints S q=some (k,n,ns)):q.map (ev l) = .int k n::ns.map (Value.int k):=by
 cases q with
 | nil=>cases h
 | cons x q =>
  simp only[ints]at h;split at h
  ·rename_i k' n' hx
   obtain⟨r,h1,h2⟩:=Option.map_eq_some_iff.1 h;cases h2;rw[List.map_cons,je (bf hf hx),RE hf h1]
  grind
theorem KY{k:IntKind}:∀(ns:List Int) (n:Int),((ns.map (Value.int k)).foldlM Builtin.min2 (.int k n)).run P w = .ok (.int k (ns.foldl mn n)) w
 | [],n=>rfl
 | a::ns,n=>by simp_all[List.map_cons,List.foldlM_cons,List.foldl_cons,Builtin.min2,mn,lt,Sem.run_pure,Sem.run_bind,zJ,KY]
theorem KZ{k:IntKind}:∀(ns:List Int) (n:Int),((ns.map (Value.int k)).foldlM Builtin.max2 (.int k n)).run P w = .ok (.int k (ns.foldl mx n)) w
 | [],n=>rfl
 | a::ns,n=>by simp_all[List.map_cons,List.foldlM_cons,List.foldl_cons,Builtin.max2,mx,gt,Sem.run_pure,Sem.run_bind,zJ,KZ]
theorem ahb{xs:List Operand}{ts:Array TypeId}{k:IntKind}{n:Int}{ns:List Int}(h:xs.map (ev l) = .int k n::ns.map (Value.int k)) :
  (execOp (ev l) ⟨d,.call ⟨.builtin .min,⟨xs⟩,ts⟩,ty,pos,af,g⟩).run P w = .ok (.value (.int k (ns.foldl mn n))) w:=by
 have hb:(Builtin.min_ ts ty ((⟨xs⟩:Array Operand).map (ev l))).run P w = .ok (.int k (ns.foldl mn n)) w:=by simp_all[Builtin.min_,Array,Operand,ev,Value.int,KY]
 simp_all[execOp,resolve,invoke,builtin,Sem.run_bind,Sem.run_pure,zJ]
theorem ahc{xs:List Operand}{ts:Array TypeId}{k:IntKind}{n:Int}{ns:List Int}(h:xs.map (ev l) = .int k n::ns.map (Value.int k)) :
  (execOp (ev l) ⟨d,.call ⟨.builtin .max,⟨xs⟩,ts⟩,ty,pos,af,g⟩).run P w = .ok (.value (.int k (ns.foldl mx n))) w:=by
 have hb:(Builtin.max_ ts ty ((⟨xs⟩:Array Operand).map (ev l))).run P w = .ok (.int k (ns.foldl mx n)) w:=by simp_all[Builtin.max_,Array,Operand,ev,Value.int,KZ]
 simp_all[execOp,resolve,invoke,builtin,Sem.run_bind,Sem.run_pure,zJ]
theorem Bt{α:Type}{R:Rp α}{L:Lx}{t e:TypeId}{x mx:Operand}{lo hi:Option Operand}{a:Option Addr}{n c:Nat}{xs y:List α}{i j m:Int}(ht:P.underlying t=some (.slice e))(hs:eG P e=some R.size)
  (hx:ev l x = .slice a n c) (hr:(Rp.slice R).rel L w [.slice a n c] xs) (hlo:iX l lo i 0) (hhi:∃o k,hi=some o∧ev l o = .int k j) (hmx:∃k,ev l mx = .int k m) (h:cut xs i j=some y) (hjm:j≤m) (hm:m≤xs.length) :
  ∃a' c',(Rp.slice R).rel L w [.slice a' y.length c'] y∧∀w',(execOp (ev l) ⟨d,.slice t x lo hi (some mx),ty,pos,af,g⟩).run P w' = .ok (.value (.slice a' y.length c')) w':=by
 obtain⟨h0,h1,h2,hy⟩:=nZ h;obtain⟨a0,c0,e1,hcap,h3⟩:=hr;simp at e1;obtain⟨rfl,rfl,rfl⟩:=e1;obtain⟨km,hmx⟩:=hmx;obtain⟨i,rfl⟩:=zK h0;obtain⟨j,rfl⟩:=zK (Int.le_trans h0 h1);obtain⟨m,rfl⟩:=zK (Int.le_trans (Int.le_trans h0 h1) hjm);have hij:i≤j:=by omega
 have hj:j≤xs.length:=by omega
 simp only[zM]at hy;have hyl:y.length=j - i:=by simp_all
 refine⟨if m=i then a else a.map (·.add (i*R.size)),m - i,⟨_,m - i,rfl,by omega,fun hne=>?_⟩,fun w'=>?_⟩
 ·have hlt:i<j:=by simp_all
  obtain⟨b,o,rfl,h4⟩:=h3 (by grind);rw[if_neg (by omega)];grind[Addr.add_lit',zR,zW,List.getElem?_take_of_lt,Nat.add_mul,Nat.add_assoc]
 ·have hb:(Instr.sliceBounds true xs.length c (lo.map (ev l)) (hi.map (ev l)) (some (.int km m))).run P w' = .ok (i,j,m) w':=by
   unfold Instr.sliceBounds;obtain⟨oh,kh,rfl,e2⟩:=hhi;rcases hlo with ⟨rfl,e3⟩ | ⟨ol,kl,rfl,e3⟩
   ·have e3:i=0:=by omega
    subst e3;simp[Instr.sliceBound,asIntOf,e2];grind
   ·simp[Instr.sliceBound,asIntOf,e2,e3]
    grind
  have hsl:(Instr.sliceAt t (ev l x) (lo.map (ev l)) (hi.map (ev l)) ((some mx:Option Operand).map (ev l))).run P w' = .ok (.slice (if m=i then a else a.map (·.add (i*R.size))) (j - i) (m - i)) w':=by unfold Instr.sliceAt;simp only[Sem.run_bind,run_underlying ht,zJ];unfold Instr.slice;simp only[Sem.run_bind,run_underlying ht,zJ,hx,Option.map_some,hmx,hb,run_sizeOf hs,Sem.run_pure]
  simp_all[execOp,Sem.run_bind,zJ,Sem.run_pure]
def BN:Option Operand->Bool
 | some (.const (.int _ 0))=>false
 | some _=>true
 | none=>false
def aaW(P:Program)(S:St)(t:TypeId)(s:SV)(lo hi:Option Operand)(mx:Operand)(K:SV->List Nat->Option R):Option R :=
 match s with
 | .d (.sl t0) xs=>if BN hi=true then match fq P t,dZ S lo 0,dZ S hi 0,dZ S (some mx) 0 with
   | some (_,n),some i,some j,some m=>if t0.size=n then (cut xs i j).bind fun y=>need (le j m) (need (le m (Int.ofNat xs.length)) (K (.d (.sl t0) y) [])) else none
   | _,_,_,_=>none
  else none
 | _=>none
theorem ahd(hf:FrD pl L w S.fr l){t:TypeId}{x:Operand}{s:SV}{lo hi:Option Operand}{mx:Operand}{K:SV->List Nat->Option R}{r:R}(h:aaW P S t s lo hi mx K=some r)(hx:Den pl L w s (ev l x)) :
  ∃s' rd,K s' rd=some r∧Yv P pl L w l ⟨d,.slice t x lo hi (some mx),ty,pos,af,g⟩ s' rd:=by
 unfold aaW at h;split at h
 ·rename_i t0 xs
  split at h
  ·rename_i hz
   split at h
   ·rename_i e n i j m hel hlo hhi hmx
    split at h
    ·rename_i hsz
     obtain⟨y,hy,h⟩:=bK h;obtain⟨hjm,h⟩:=bS h;obtain⟨hm,h⟩:=bS h;have hjm:j≤m:=by simp_all[le]
     have hm:m≤xs.length:=by simp_all[le]
     obtain⟨h1,h2⟩:=jE hel;have hr:=jI hx;obtain⟨a,c,hsh,hr2⟩:=hr;simp at hsh;have hr:=jI hx;rw[hsh]at hr
     have hh:∃o k,hi=some o∧ev l o = .int k j:=by
      rcases jJ hf hhi with ⟨e1,_⟩ | e1
      ·simp_all[BN]
      omega
     have hmm:∃k,ev l mx = .int k m:=by
      rcases jJ hf hmx with ⟨e1,_⟩ | ⟨o,k,e1,e2⟩
      ·cases e1
      simp_all
     obtain⟨a',c',h3,h4⟩:=Bt (d:=d) (ty:=ty) (pos:=pos) (af:=af) (g:=g) h1 (by simp_all[bV]) hsh hr (jJ hf hlo) hh hmm hy hjm hm;exact⟨_,_,h,Yv.of (uq (t:=.sl _) rfl h3) h4⟩
    grind
   grind
  grind
 grind
def qv(P:Program)(S:St)(op:Op)(K:SV->List Nat->Option R):Option R :=
 match op with
 | .move x=>(opv S x).bind fun s=>K s []
 | .assign x=>(opv S x).bind fun s=>K s []
 | .pick c a b=>match opv S c,opv S a,opv S b with
  | some (.d .bool c),some a,some b=>if c=true then K a [] else K b []
  | _,_,_=>none
 | .binOp op t x y _=>match opv S x,opv S y with
  | some a,some b=>bin P op t a b (fun s=>K s [])
  | _,_=>none
 | .unOp op _ x=>(opv S x).bind fun s=>qUn op s K
 | .convert t u x=>(opv S x).bind fun s=>TD P S.own t u s K
 | .extract x i=>match opv S x with
  | some (.tup l)=>match l[i]? with
   | some s=>K s []
   | none=>none
  | _=>none
 | .field t x f=>(opv S x).bind fun s=>M9 P t s f K
 | .fieldAddr t x f=>(opv S x).bind fun s=>zZ P t s f K
 | .indexAddr t x i=>match opv S x,opv S i with
  | some s,some j=>z8 P S.own t s j K
  | _,_=>none
 | .index t x i=>match opv S x,opv S i with
  | some s,some j=>Ng P t s j K
  | _,_=>none
 | .load t x=>(opv S x).bind fun s=>Mx P S.own t s K
 | .slice t x lo hi none=>(opv S x).bind fun s=>Nf P S t s lo hi K
 | .slice t x lo hi (some m)=>(opv S x).bind fun s=>aaW P S t s lo hi m K
 | .call ⟨.builtin .len,⟨[x]⟩,⟨[t]⟩⟩=>(opv S x).bind fun s=>aaQ P S.own t s K
 | .call ⟨.builtin .min,⟨xs⟩,_⟩=>(ints S xs).bind fun p=>K (.d (.int p.1) (p.2.2.foldl mn p.2.1)) []
 | .call ⟨.builtin .max,⟨xs⟩,_⟩=>(ints S xs).bind fun p=>K (.d (.int p.1) (p.2.2.foldl mx p.2.1)) []
 | .nilCheck x=>(opv S x).bind fun s=>match s with
  | .pb i o=>K (.pb i o) []
  | .prw i j sz o=>K (.prw i j sz o) []
  | .pra i j sz o m ft k o2=>K (.pra i j sz o m ft k o2) []
  | .pe t x=>K (.pe t x) []
  | .ifc t v=>K (.ifc t v) []
  | _=>none
 | _=>none
theorem lT(hf:FrD pl L w S.fr l)(he:EntsD pl L w S.own){op:Op}{K:SV->List Nat->Option R}{r:R}(h:qv P S op K=some r) :
  ∃s rd,K s rd=some r∧Yv P pl L w l ⟨d,op,ty,pos,af,g⟩ s rd:=by
 unfold qv at h;split at h
 ·obtain⟨s,hs,h⟩:=bK h
  exact⟨_,_,h,Yv.of (bf hf hs) (fun w'=>run_move rfl)⟩
 ·obtain⟨s,hs,h⟩:=bK h
  exact⟨_,_,h,Yv.of (bf hf hs) (fun w'=>run_assign rfl)⟩
 ·split at h
  ·rename_i c a b c' a' b' h1 h2 h3
   split at h
   ·rename_i hc
    subst hc;exact⟨_,_,h,Yv.of (bf hf h2) (fun w'=>Tq (jC (bf hf h1)) rfl)⟩
   ·rename_i hc
    have hc:c'=false:=by simp_all
    subst hc;exact⟨_,_,h,Yv.of (bf hf h3) (fun w'=>Tt (jC (bf hf h1)) rfl)⟩
  grind
 ·split at h
  ·rename_i h1 h2
   obtain⟨s,hs,hy⟩:=aiu h (bf hf h1) (bf hf h2);exact⟨s,_,hs,hy⟩
  grind
 ·obtain⟨s,hs,h⟩:=bK h
  exact aiv h (bf hf hs)
 ·obtain⟨s,hs,h⟩:=bK h
  exact aaT he h (bf hf hs)
 ·split at h
  ·rename_i l' h1
   split at h
   ·rename_i s hs
    obtain⟨us,h2,h3⟩:=bf hf h1;obtain⟨u,h4,h5⟩:=h2.at hs;grind[Yv.of,Rh]
   grind
  grind
 ·obtain⟨s,hs,h⟩:=bK h
  exact Zc h (bf hf hs)
 ·obtain⟨s,hs,h⟩:=bK h
  exact LX h (bf hf hs)
 ·split at h
  ·rename_i h1 h2
   exact LY he h (bf hf h1) (bf hf h2)
  grind
 ·split at h
  ·rename_i h1 h2
   exact Ze h (bf hf h1) (bf hf h2)
  grind
 ·obtain⟨s,hs,h⟩:=bK h
  exact Na he h (bf hf hs)
 ·obtain⟨s,hs,h⟩:=bK h
  exact Zd hf he h (bf hf hs)
 ·obtain⟨s,hs,h⟩:=bK h
  exact ahd hf h (bf hf hs)
 ·obtain⟨s,hs,h⟩:=bK h
  exact ag7 he h (bf hf hs)
 ·obtain⟨p,hp,h⟩:=bK h
  exact⟨_,_,h,Yv.of (dM _ _) (fun w'=>ahb (RF hf hp))⟩
 ·obtain⟨p,hp,h⟩:=bK h
  exact⟨_,_,h,Yv.of (dM _ _) (fun w'=>ahc (RF hf hp))⟩
 ·obtain⟨s,hs,h⟩:=bK h
  have hd:=bf hf hs;split at h
  ·obtain⟨g,n,c,h1,h2⟩:=hd
   exact⟨_,_,h,Yv.of (v:=.pointer (some ⟨g,_,none⟩)) ⟨g,n,c,h1,rfl⟩ (fun w'=>by simp[execOp,h2])⟩
  ·obtain⟨g,b,n,c,h1,h2⟩:=hd
   exact⟨_,_,h,Yv.of (v:=.pointer (some ⟨g,_,none⟩)) ⟨g,b,n,c,h1,rfl⟩ (fun w'=>by simp[execOp,h2])⟩
  ·obtain⟨g,b,n,c,h1,h2⟩:=hd
   exact⟨_,_,h,Yv.of (v:=.pointer (some ⟨g,_,none⟩)) ⟨g,b,n,c,h1,rfl⟩ (fun w'=>by simp[execOp,h2])⟩
  ·obtain⟨b,o,h1,h2⟩:=hd
   exact⟨_,_,h,Yv.of (v:=.pointer (some ⟨b,o,none⟩)) ⟨b,o,rfl,h2⟩ (fun w'=>by simp[execOp,h1])⟩
  ·obtain⟨u',h1,h2⟩:=hd
   exact⟨_,_,h,Yv.of (v:=.iface _ u') ⟨u',h1,rfl⟩ (fun w'=>by simp[execOp,h2])⟩
  grind
 grind
end
end Ev
end
noncomputable section
namespace Ev
open Go Go.RowKit Sx
structure Sb where
 r:SV
 s:Nat->Int->Int->SV
mutual
def sbs(i:Nat)(r:Sb):SV->SV
 | .row j=>if j=i then r.r else .row j
 | .rowz j=>if j=i then r.r else .rowz j
 | .sub j sz lo n=>if j=i then r.s sz lo n else .sub j sz lo n
 | .agg l=>.agg (Ab i r l)
 | .tup l=>.tup (Ab i r l)
 | .fn f a b=>.fn f (Ab i r a) (Ab i r b)
 | .ifc t v=>.ifc t (sbs i r v)
 | .k v=>.k v
 | .d t x=>.d t x
 | .dx t x=>.dx t x
 | .pb a b=>.pb a b
 | .prw a b c e=>.prw a b c e
 | .pra i b c e m ft k o2=>.pra i b c e m ft k o2
 | .pe t x=>.pe t x
 | .mp a=>.mp a
 | .opb a b c=>.opb a b c
 | .sd a=>.sd a
def Ab(i:Nat)(r:Sb):List SV->List SV
 | []=>[]
 | s::q=>sbs i r s::Ab i r q
end
def BO(pl:List Place)(L:Lx)(w:World)(i:Nat)(r:Sb):Prop:=(∀u,Den pl L w (.rowz i) u->Den pl L w r.r u)∧∀sz lo n u,Den pl L w (.sub i sz lo n) u->Den pl L w (r.s sz lo n) u
section
variable {pl pl':List Place}{L L':Lx}{w w':World}
mutual
theorem Dp{i:Nat}{r:Sb}(hr:BO pl L w i r):∀{s:SV} {u:Value},Den pl L w s u->Den pl L w (sbs i r s) u
 | .k v,u,h=>by simp_all[sbs]
 | .d t x,u,h=>by simp_all[sbs]
 | .dx t x,u,h=>by simp_all[sbs]
 | .row j,u,h=>by
  simp only[sbs];split
  ·rename_i e;subst e;exact hr.1 u (yP (s:=.row _) h)
  omega
 | .rowz j,u,h=>by
  simp only[sbs];split
  ·rename_i e;subst e;exact hr.1 u h
  omega
 | .sub j sz lo n,u,h=>by
  simp only[sbs];split
  ·rename_i e;subst e;exact hr.2 sz lo n u h
  omega
 | .pb i o,u,h=>by simp_all[sbs]
 | .prw i j sz o,u,h=>by simp_all[sbs]
 | .pra i j sz o m ft k o2,u,h=>by simp_all[sbs]
 | .pe t x,u,h=>by simp_all[sbs]
 | .mp i,u,h=>by simp_all[sbs]
 | .opb b i o,u,h=>by simp_all[sbs]
 | .sd i,u,h=>by simp_all[sbs]
 | .agg l,u,⟨us,h1,h2⟩=>by simp only[sbs];exact⟨us,kV hr h1,h2⟩
 | .tup l,u,⟨us,h1,h2⟩=>by simp only[sbs];exact⟨us,kV hr h1,h2⟩
 | .fn f a b,u,⟨us,vs,h1,h2,h3⟩=>by simp only[sbs];exact⟨us,vs,kV hr h1,kV hr h2,h3⟩
 | .ifc t v,u,⟨u',h1,h2⟩=>by simp only[sbs];exact⟨u',Dp hr h1,h2⟩
theorem kV{i:Nat}{r:Sb}(hr:BO pl L w i r):∀{s:List SV} {us:List Value},DenL pl L w s us->DenL pl L w (Ab i r s) us
 | [],us,h=>h
 | s::q,us,⟨v,vs,h1,h2,h3⟩=>⟨v,vs,h1,Dp hr h2,kV hr h3⟩
end
end
def EI(i:Nat)(r:Sb):Fr->Fr
 | []=>[]
 | (t,s)::q=>(t,sbs i r s)::EI i r q
def TI(i:Nat)(r:Sb):List (Nat×Fr)->List (Nat×Fr)
 | []=>[]
 | (n,f)::q=>(n,EI i r f)::TI i r q
def aaX{α:Type}(i:Nat)(r:Sb):List (Nat×α×SV)->List (Nat×α×SV)
 | []=>[]
 | (a,b,s)::q=>(a,b,sbs i r s)::aaX i r q
def aaY(i:Nat)(r:Sb):Ent->Ent
 | .box T cs=>.box T (Ab i r cs)
 | .row t e xs=>.row t e xs
 | .dm kt vt xs=>.dm kt vt xs
 | .sm kt cl es=>.sm kt cl (aaX i r es)
 | .it m cl seen=>.it m cl seen
 | .itd kt vt cur rest=>.itd kt vt cur rest
 | .que t e xs=>.que t e xs
 | .rowo t e b xs cs=>.rowo t e b xs (Ab i r cs)
 | .rowq e us k cs=>.rowq e us k (Ab i r cs)
def rid(i:Nat):List (Nat×Ent)->List (Nat×Ent)
 | []=>[]
 | (j,e)::q=>if j=i then q else (j,e)::rid i q
def rM(i:Nat)(r:Sb):List (Nat×Ent)->List (Nat×Ent)
 | []=>[]
 | (j,e)::q=>(j,aaY i r e)::rM i r q
section
variable {B:Nat->Prop}{F:Lx}{w0:Bs}{wr:Wr}{pl pl':List Place}{S S':St}{l l':List Value}{ls:List (List Value)}{w w':World}{L L' M:Lx}
theorem Ni{i:Nat}{r:Sb}:∀{fr:Fr} {t:Nat} {s:SV},get (EI i r fr) t=some s->∃s',get fr t=some s'∧s=sbs i r s'
 | (j,q)::fr,t,s,h=>by
  unfold EI get at h;unfold get;split at h
  ·simp_all
  simp_all[if_neg,Ni]
theorem FrD.sbs{i:Nat}{r:Sb}(hr:BO pl L w i r){fr:Fr}(h:FrD pl L w fr l):FrD pl L w (EI i r fr) l:=fun t s hs=>by obtain⟨s',h1,rfl⟩:=Ni hs;exact Dp hr (h t s' h1)
theorem UpD.sbs{i:Nat}{r:Sb}(hr:BO pl L w i r):∀{up:List (Nat×Fr)} {ls:List (List Value)},UpD pl L w up ls->UpD pl L w (TI i r up) ls
 | [],_,h=>h
 | _::_,_,⟨l,q,h1,h2,h3,h4⟩=>⟨l,q,h1,h2,h3.sbs hr,UpD.sbs hr h4⟩
theorem uO(i:Nat)(r:Sb):∀own,lx pl (rM i r own)=lx pl own
 | []=>rfl
 | (j,e)::q=>by show plb pl j::lx pl (rM i r q)=plb pl j::lx pl q;rw[uO i r q]
theorem Ac{i:Nat}{r:Sb}:∀{own:List (Nat×Ent)} {x:Nat×Ent},x∈rM i r own->∃e,(x.1,e)∈own∧x.2=aaY i r e
 | (j,e)::q,x,h=>by
  unfold rM at h;rcases List.mem_cons.1 h with h | h
  ·subst h;exact⟨e,List.mem_cons_self ..,rfl⟩
  ·obtain⟨e',h1,h2⟩:=Ac h
   exact⟨e',zO _ h1,h2⟩
theorem SmD.sbs{i:Nat}{r:Sb}(hr:BO pl L w i r){kt:Ty}:∀{vs:List MapEntry} {xs:List (Nat×Vl kt×SV)},SmD pl L w vs xs->SmD pl L w vs (aaX i r xs)
 | [],_,h=>by have h:_=_:=h;subst h;rfl
 | _::_,_,⟨b,q,h1,h2,h3,h4,h5⟩=>by subst h1;exact⟨_,_,rfl,h2,h3,Dp hr h4,SmD.sbs hr h5⟩
theorem EntD.sbs{i j:Nat}{r:Sb}(hr:BO pl L w i r){e:Ent}(h:EntD pl L w j e):EntD pl L w j (aaY i r e):=by
 cases e with
 | row t e xs=>exact h
 | box T cs =>
  obtain⟨g,n,c,us,h1,h2,h3,h4⟩:=h;exact⟨g,n,c,us,h1,h2,kV hr h3,h4⟩
 | dm kt vt xs=>exact h
 | it m cl seen=>exact h
 | itd kt vt cur rest=>exact h
 | que t e xs=>exact h
 | rowo t e b xs cs =>
  obtain⟨p,ro,us,h1,h2,h3,h4⟩:=h;exact⟨p,ro,us,h1,h2,h3,fun hb=>kV hr (h4 hb)⟩
 | rowq e us k cs =>
  obtain⟨g,n,c,u,h1,h2,h3,h4,h5,h6⟩:=h;exact⟨g,n,c,u,h1,h2,h3,h4,h5,kV hr h6⟩
 | sm kt cl es =>
  obtain⟨g,n,c,vs,h1,h2,h3⟩:=h;refine⟨g,n,c,vs,h1,h2,SmD.sbs hr h3⟩
theorem Rel.sbs{i:Nat}{r:Sb}(h:Rel B F w0 wr pl S l ls w)(hr:BO pl (lx pl S.own++F) w i r) :
  Rel B F w0 wr pl { S with fr:=EI i r S.fr,up:=TI i r S.up,own:=rM i r S.own } l ls w where
 hL:=by show LOk B (lx pl (rM i r S.own)) F w;rw[uO];exact h.hL
 hB:=h.hB
 pre:=h.pre
 hI:=h.hI
 hln:=h.hln
 nx:=h.nx
 nt:=h.nt
 ent:=fun e he=>by show EntD pl (lx pl (rM i r S.own)++F) w e.1 e.2;rw[uO];obtain⟨e',h1,h2⟩:=Ac he;rw[h2];exact (h.ent _ h1).sbs hr
 fr:=by show FrD pl (lx pl (rM i r S.own)++F) w _ l;rw[uO];exact h.fr.sbs hr
 up:=by show UpD pl (lx pl (rM i r S.own)++F) w _ ls;rw[uO];exact h.up.sbs hr
 tn:=by
  refine⟨h.tn.fz,?_,h.tn.nr,h.tn.pls,fun e he hlt=>?_,fun e he hlt hnl k hk=>?_⟩
  ·show Sub wr.w (lx pl (rM i r S.own)++F) wr.L
   rw[uO];exact h.tn.sb
  ·obtain⟨e',h1,_⟩:=Ac he
   exact h.tn.old (e.1,e') h1 hlt
  ·obtain⟨e',h1,_⟩:=Ac he
   exact h.tn.keep _ h1 hlt hnl k hk
theorem yR(i:Nat):∀own,List.Sublist (rid i own) own
 | []=>.slnil
 | (j,e)::q=>by
  unfold rid;split
  ·exact .cons _ (List.Sublist.refl q)
  ·exact .cons_cons _ (yR i q)
theorem qZ:∀{own:List (Nat×Ent)} {i:Nat} {e:Ent},get own i=some e->∃pre post,own=pre++(i,e)::post∧rid i own=pre++post
 | (j,q)::own,i,e,h=>by
  unfold get at h;split at h
  ·rename_i hj
   cases h
   subst hj;exact⟨[],own,rfl,by simp[rid]⟩
  ·rename_i hj
   obtain⟨pre,post,h1,h2⟩:=qZ h;exact⟨(j,q)::pre,post,by simp_all,by simp_all[rid,if_neg]⟩
theorem yS{own own':List (Nat×Ent)}(h:List.Sublist own' own):List.Sublist (lx pl own') (lx pl own):=h.map _
theorem Rel.drop(h:Rel B F w0 wr pl S l ls w){own':List (Nat×Ent)}(hs:List.Sublist own' S.own):Rel B F w0 wr pl { S with own:=own' } l ls w :=
 h.go (M:=[]) (S':={ S with own:=own' }) (Stp.drop h.hL (yS hs)) (fun _ _ h=>h) h.nx (Nat.le_refl _) rfl rfl rfl (fun _ hi=>hi) (fun e he=>.inl ⟨hs.subset he,fun _ _ hk=>by cases hk⟩)
def sbR(t:Ty)(xs:List (Vl t))(i:Nat):Sb:=⟨.d (.sl t) xs,fun sz lo n=>if sz=t.size then .d (.sl t) (prt xs lo n) else .sub i sz lo n⟩
def EJ(S:St)(i:Nat):Option St:=match get S.own i with
 | some (.row t _ xs)=>some { S with fr:=EI i (sbR t xs i) S.fr,up:=TI i (sbR t xs i) S.up,own:=rM i (sbR t xs i) (rid i S.own) }
 | _=>none
theorem aiw{t:Ty}{e:TypeId}{xs:List (Vl t)}{i:Nat}{p:Place}{L L':Lx}(h3:pl[i]? = some p)(h4:Ow (rp t) e L w p.a p.n p.c xs)(hs:Sub w L' L)(hn:∀k,blk p.a=some k->some k ∉ L'):BO pl L' w i (sbR t xs i):=by
 have hfz:=h4.freeze hs hn;refine⟨fun u hu=>?_,fun sz lo n u hu=>?_⟩
 ·obtain⟨p',h5,h6⟩:=hu
  rw[h3]at h5;cases h5;refine uq (t:=.sl t) rfl ?_;rcases h6 with rfl | ⟨h6,h7,h8,a,rfl⟩
  ·exact hfz
  ·have:=h4.len
   have hx:xs=[]:=List.eq_nil_of_length_eq_zero (by omega);subst hx;exact qW _ _ _ a 0
 ·show Den pl L' w (if sz=t.size then .d (.sl t) (prt xs lo n) else .sub i sz lo n) u
  split
  ·rename_i hsz
   obtain⟨p',a,c,h5,h6,h7,h8,rfl,h10,h11⟩:=hu;rw[h3]at h5;cases h5;have hlen:=h4.len;refine uq (t:=.sl t) rfl ?_;obtain⟨lo,rfl⟩:=zK h6;obtain⟨n,rfl⟩:=zK h7;have hpl:(prt xs (lo:Int) (n:Int)).length=n:=by grind[prt]
   refine⟨a,c,by simp_all,by omega,fun hne=>?_⟩;have hn0:(n:Int)≠0:=fun e=>by simp_all
   obtain⟨_,g,o,h12,h13⟩:=h11.1 (by simp only[zM]at h10;omega);obtain⟨_,hb0⟩:=h4.2.addr_cap (c:=p.c) (by have:=h4.2.cap_le;omega);rw[h12]at hb0;cases hb0;refine⟨g,lo*sz,by simp_all,fun j y hj=>?_⟩;grind[prt,zM,zR,zW,List.getElem?_take_of_lt,EC,rp,bV,Nat.add_mul]
  omega
theorem Ic(h:Rel B F w0 wr pl S l ls w){i:Nat}(hf:EJ S i=some S'):Rel B F w0 wr pl S' l ls w:=by
 unfold EJ at hf;split at hf
 ·rename_i t e xs hg
  cases hf
  obtain⟨pre,post,h1,h2⟩:=qZ hg;obtain⟨p,h3,h4⟩:=h.ent _ (get_mem hg);have hd:=h.drop (yR i S.own);refine hd.sbs ?_;have e1:lx pl S.own=lx pl pre++blk p.a::lx pl post:=by simp_all[lx,List.map_append,List.map_cons,fo]
  have e2:lx pl (rid i S.own)=lx pl pre++lx pl post:=by simp_all[lx,List.map_append]
  have hL:=h.hL;rw[e1]at hL;refine aiw (L:=lx pl S.own++F) h3 h4 ?_ (fun k hk=>?_)
  ·show Sub w (lx pl (rid i S.own)++F) _
   grind[u7]
  ·show some k ∉ lx pl (rid i S.own)++F
   rw[e2];exact hL.gone k hk
 grind
end
end Ev
end
noncomputable section
namespace Ev
open Go Go.RowKit Sx
section
variable {P:Program}{l:List Value}{w:World}{d:Option Tmp}{ty:TypeId}{pos:String}{af:Array Edge}{gd:Option (Nat×Bool)}
 {Q:Exit->Act->World->Prop} {K:List Value->World->Prop} {α:Type} {R:Rp α} {L:Lx}
theorem TJ{pre c0 post:List Value}{off:Nat}(h:off≤c0.length):(pre++c0++post).take (pre.length+off)=pre++c0.take off:=by simp_all[List.append_assoc,List.take_append,Nat.add_sub_cancel_left,List.take_of_length_le,List.take_append_of_le_length]
theorem TK{pre c0 post:List Value}{off:Nat}(h:off≤c0.length):(pre++c0++post).drop (pre.length+off)=c0.drop off++post:=by simp_all[List.append_assoc,List.drop_append,Nat.add_sub_cancel_left,List.drop_of_length_le,List.nil_append,List.drop_append_of_le_length]
theorem kF{B:Nat->Prop}{own F:Lx}{t e:TypeId}{x y:Operand}{v:Value}{vs:List Value}{b i n c off:Nat}{xs:List α}{u u':α}(hs:eG P t=some vs.length)
  (hx:ev l x = .pointer (some ⟨b,0+i*R.size+off,none⟩)) (hy:ev l y=v) (hv:v.cells.toList=vs) (hL:LOk B own F w) (hown:Ow R e (own++F) w (some ⟨b,0,none⟩) n c xs) (hi:xs[i]? = some u)
  (h1:∀z∈vs,z.oneCell'=true)
  (hu:∀cs,R.rel (own++F) w cs u->off+vs.length≤cs.length∧R.rel (own++F) w (cs.take off++vs++cs.drop (off+vs.length)) u') (hLa:some b∈own)
  (h:∀w',Stp B own own F [some b] w w'->Ow R e (own++F) w' (some ⟨b,0,none⟩) n c (xs.set i u')->K (st l d undef) w') :
  OW P ⟨d,.store t x y,ty,pos,af,gd⟩ l w K Q:=by
 obtain⟨rfl,cells,hr1,hr2⟩:=hown;obtain⟨pre,c0,post,e2,h3,h4,h5⟩:=hr2.at hi;obtain⟨hfit,hnew⟩:=hu c0 h4;have hi':i<xs.length:=(List.getElem?_eq_some_iff.1 hi).1;rcases hr1.2 with ⟨hv',_⟩ | ⟨g,cap,cur,hv',_,hg,hnc,hcm,hcs,htk⟩
 ·omega
 ·simp at hv'
  obtain⟨rfl,rfl⟩:=hv';have hc0:=R.len h4;have hsize:v.cells.size=vs.length:=by grind
  have hcl:cells.length=xs.length*R.size:=hr1.1;have hcur:xs.length*R.size≤cur.size:=by grind
  have hp:i*R.size+off=pre.length+off:=by rw[h3]
  have hle:i*R.size+off+vs.length≤cur.size:=by grind
  have hst:=run_storeCells_at P b (i*R.size+off) e vs 0 cur w hg (by omega) h1;simp only[Nat.add_zero]at hst;have hcurl:cur.toList=(pre++c0++post)++cur.toList.drop (xs.length*R.size):=by grind[List.take_append_drop]
  have hf:Fz [some b] w (w.setRow b (cur.toList.take (i*R.size+off)++vs++cur.toList.drop (i*R.size+off+vs.length)).toArray) :=
   ⟨rfl,rfl,rfl,by simp,fun k hk hn=>setRow_other w b k _ (fun e=>hn (by simp[e]))⟩
  have S:Stp B own own F [some b] w (w.setRow b (cur.toList.take (i*R.size+off)++vs++cur.toList.drop (i*R.size+off+vs.length)).toArray):=Stp.store hL hLa hf;have hrow:=h5 u' _ hnew;refine yM (w':=w.setRow b (cur.toList.take (i*R.size+off)++vs++cur.toList.drop (i*R.size+off+vs.length)).toArray) ?_ (h _ S ⟨by simp,_,⟨?_,.inr ⟨b,c,_,by simp,Nat.zero_le _,setRow_heap w b cur _ e (0,0) hg,by grind,hcm,?_,?_⟩⟩,hrow.step hf (fun k hk=>List.mem_append_left _ (S.hM k hk)) S.hs⟩)
  ·rw[Nat.zero_add]at hx
   simp only[execOp,hx,hy,Instr.storeAt,Instr.sureAddr,storeVar,Sem.run_bind,Sem.run_pure,zJ,run_sizeOf hs,hsize,ne_eq,not_true_eq_false,if_false,hv,hst]
  ·have:=hrow.len
   omega
  ·grind
  ·have hlen:=hrow.len
   rw[<- hlen];have e4:cur.toList.take (i*R.size+off)=pre++c0.take off:=by grind[List.append_assoc,TJ]
   have e5:cur.toList.drop (i*R.size+off+vs.length)=c0.drop (off+vs.length)++(post++cur.toList.drop (xs.length*R.size)):=by grind[Nat.add_assoc,List.append_assoc,TK]
   grind
end
def iD(P:Program)(e:TypeId):Option ((t:Ty)×Vl t) :=
 match tyc P e,P.info? e with
 | some t,some i=>match i.zero with
  | some zv=>match pk t (zv.cells.toList.map ofV) with
   | some (z,[])=>if i.bytes≤131072∧0<t.size then some ⟨t,z⟩ else none
   | _=>none
  | none=>none
 | _,_=>none
theorem jX{pl:List Place}{L:Lx}{w:World}:∀l:List Value,DenL pl L w (l.map ofV) l
 | []=>rfl
 | v::r=>⟨v,r,rfl,Ib v,jX r⟩
theorem gy{P:Program}{e:TypeId}{t:Ty}{z:Vl t}(h:iD P e=some ⟨t,z⟩):TyRow P e (rp t) z:=by
 unfold iD at h;split at h
 ·rename_i t' i ht hi
  split at h
  ·rename_i zv hz
   split at h
   ·rename_i z' hpk
    split at h
    ·rename_i hb
     cases h
     obtain⟨ti,h1,h2⟩:=qX (gU ht).size;rw[hi]at h1;cases h1;have hrel:∀(L:Lx) (w:World),(rp t).rel L w zv.cells.toList z:=fun L w=>by obtain⟨cs,vs,e1,e2,e3⟩:=kE (pl:=[]) (L:=L) (w:=w) hpk (jX _);cases e3;simp_all
     refine⟨⟨i,zv,hi,hz,h2,hb.1,?_,hrel⟩,by simp_all[bV]⟩;rw[<- Array.length_toList];exact (rp t).len (hrel [] default)
    grind
   grind
  grind
 grind
end Ev
end
noncomputable section
namespace Sx
open Go Go.RowKit
section
variable {P:Program}{o:Oper}{l:List Value}{w:World}{Q:Exit->Act->World->Prop}{K:List Value->World->Prop}{d:Option Tmp}{ty:TypeId}{pos:String}{af:Array Edge}{gd:Option (Nat×Bool)}{α:Type}{R:Rp α}{L:Lx}
theorem Zf{r:Result Value}{v:Value}{w':World}(h:r = .ok v w'):∃v2 w2,(r.andThen fun a w=>Result.ok (Next.value a) w) = .ok (.value v2) w2:=by simp_all
theorem Nj{o':Oper}(hd:o'.dst=o.dst)(hr:(execOp (ev l) o).run P w=(execOp (ev l) o').run P w)(hv:∃v w',(execOp (ev l) o').run P w = .ok (.value v) w')(h:OW P o' l w K Q):OW P o l w K Q:=by obtain⟨v,w',hv⟩:=hv;intro r;have h:=(h r).2;refine⟨fun _ _=>trivial,?_⟩;rw[jk]at h ⊢;rw[jR hv (by simp),Oper.uponIn_value]at h;rw[jR (hr.trans hv) (by simp),Oper.uponIn_value,<- hd];exact h
theorem aaZ{t ty e:TypeId}{i:TypeInfo}(ht:P.underlying t=some (.slice e))(hi:P.info? e=some i)(a:Addr)(b:Addr)(n c:Nat)(h0:0<n) :
  (Builtin.append_ #[t,t] ty #[.slice (some a) 0 0,.slice (some b) n c]).run P w=(Builtin.append_ #[t,t] ty #[.slice none 0 0,.slice (some b) n c]).run P w ∨
  ¬ Builtin.nextslicecap n 0*i.bytes≤281474976710656:=by
 by_cases hc:Builtin.nextslicecap n 0*i.bytes≤281474976710656
 ·left
  have hn:n≠0:=by omega
  have hc':¬ (281474976710656<Builtin.nextslicecap n 0*i.bytes):=by omega
  simp[Builtin.append_,run_underlying ht,Go.sizeOf,typeInfo,hi,Builtin.lenOf,hn,hc',Builtin.firstCells,loadCells,loadCellsFrom]
 omega
theorem Gm{B:Nat->Prop}{pre post F:Lx}{s x:Operand}{t e:TypeId}{z:α}{a a2:Option Addr}{n c c2 n2:Nat}{xs ys:List α}(ht:P.underlying t=some (.slice e))(hr:TyRow P e R z)
  (hs:ev l s = .slice a n c∨(a=none∧n=0∧c=0∧∃a',ev l s = .slice a' 0 0)) (hx:ev l x = .slice a2 n2 c2) (hL:LOk B (pre++blk a::post) F w) (hown:Ow R e ((pre++blk a::post)++F) w a n c xs)
  (hy:(Rp.slice R).rel ((pre++blk a::post)++F) w [.slice a2 n2 c2] ys) (hsm:small (xs.length+ys.length)=true)
  (h:∀v a' n' c' w',(v = .slice a' n' c'∨(a'=none∧n'=0∧c'=0∧∃a,v = .slice a 0 0))->Stp B (pre++blk a::post) (pre++blk a'::post) F [blk a] w w'->Ow R e ((pre++blk a'::post)++F) w' a' n' c' (xs++ys)->K (st l d v) w') :
  OW P ⟨d,.call { callee:=.builtin .append,args:=#[s,x],argTypes:=#[t,t] },ty,pos,af,gd⟩ l w K Q:=by
 rcases hs with hs | ⟨rfl,rfl,rfl,a0,hs⟩
 ·exact pz ht hr hs hx hL hown hy hsm (fun a' n' c' w' S O=>h _ a' n' c' w' (.inl rfl) S O)
 ·cases a0 with
  | none=>exact pz ht hr hs hx hL hown hy hsm (fun a' n' c' w' S O=>h _ a' n' c' w' (.inl rfl) S O)
  | some a0 =>
   obtain⟨i,zv,hi,hz,hsz,hby,hzs,hzr⟩:=hr.info;have hxs:xs=[]:=List.eq_nil_of_length_eq_zero hown.1.symm;subst hxs;by_cases hne:ys=[]
   ·subst hne
    have hn2:n2=0:=wY hy;subst hn2
    have hrun:(Builtin.append_ #[t,t] ty #[.slice (some a0) 0 0,.slice a2 0 c2]).run P w = .ok (.slice (some a0) 0 0) w:=by
     cases a2 with
     | none=>simp_all[pq,Nat.le_refl]
     | some ad=>simp[Builtin.append_,run_underlying ht,Go.sizeOf,typeInfo,hi,Builtin.lenOf,Builtin.firstCells,loadCells,loadCellsFrom,storeCells]
    refine iG (v:=.slice (some a0) 0 0) (w':=w) ?_ (h _ none 0 0 w (.inr ⟨rfl,rfl,rfl,_,rfl⟩) ⟨Fz.refl _ _,fun k hk=>by simp_all,Sub.refl _ _,hL⟩ hown);simp_all[execOp,resolve,invoke,builtin,Sem.run_bind,Sem.run_pure,zJ,List.map_toArray,List.map_cons,List.map_nil]
   ·obtain⟨b,o,news,rfl,rfl,h3,h4⟩:=lN hy hne
    have hpos:0<ys.length:=List.length_pos_iff.2 hne;have hsm':=jA hsm;simp only[List.length_nil,Nat.zero_add]at hsm';have hbytes:ys.length*i.bytes≤140737488355328:=by have:ys.length*i.bytes≤1073741824*131072:=Nat.mul_le_mul hsm' hby;omega
    have hcapz:Builtin.nextslicecap ys.length 0*i.bytes≤281474976710656:=by
     have e1:Builtin.nextslicecap ys.length 0=ys.length:=by simp_all[Builtin.nextslicecap,if_pos]
     grind
    have heq:=(aaZ (P:=P) (w:=w) (ty:=ty) ht hi a0 ⟨b,o,none⟩ ys.length c2 hpos).resolve_right (fun hc=>hc hcapz);have hnil:=run_append_nil (P:=P) w t ty e i zv ht hi hz ⟨b,o,none⟩ ys.length c2 news (by rw[hsz];exact h3.len) h4 hpos (by omega) (by omega)
    refine Nj (o':=⟨d,.call { callee:=.builtin .append,args:=#[.const (.slice none 0 0),x],argTypes:=#[t,t] },ty,pos,af,gd⟩) rfl ?_ ?_
     (pz ht hr rfl hx hL hown hy hsm (fun a' n' c' w' S O=>h _ a' n' c' w' (.inl rfl) S O))
    ·simp only[execOp,resolve,invoke,builtin,Sem.run_bind,Sem.run_pure,zJ,List.map_toArray,List.map_cons,List.map_nil,hs,hx,heq]
     rfl
    ·simp only[execOp,resolve,invoke,builtin,Sem.run_bind,Sem.run_pure,zJ,List.map_toArray,List.map_cons,List.map_nil,hx]
     exact Zf hnil
theorem Gn(L:Lx)(w:World):∀s:List UInt8,RowsOf (Rp.int .u8) L w (s.map fun b=>Value.int .u8 b.toNat) (s.map fun b=>(b.toNat:Int))
 | []=>rfl
 | b::s=>⟨[.int .u8 b.toNat],_,rfl,rfl,Gn L w s⟩
theorem uw{B:Nat->Prop}{pre post F:Lx}{s x:Operand}{t u e:TypeId}{i:TypeInfo}{a:Option Addr}{n c:Nat}{xs:List Int}{b:List UInt8}(ht:P.underlying t=some (.slice e))(hu:P.underlying u=some .string)
  (hi:P.info? e=some i) (hz:i.zero=some (.int .u8 0)) (hsz:i.size=1) (hby:i.bytes=1)
  (hs:ev l s = .slice a n c) (hx:ev l x = .string ⟨⟨b⟩⟩) (hL:LOk B (pre++blk a::post) F w) (hown:Ow (Rp.int .u8) e ((pre++blk a::post)++F) w a n c xs)
  (hsm:small (xs.length+b.length)=true)
  (h:∀a' n' c' w',Stp B (pre++blk a::post) (pre++blk a'::post) F [blk a] w w'->Ow (Rp.int .u8) e ((pre++blk a'::post)++F) w' a' n' c' (xs++b.map fun b=>(b.toNat:Int))->K (st l d (.slice a' n' c')) w') :
  OW P ⟨d,.call { callee:=.builtin .append,args:=#[s,x],argTypes:=#[t,u] },ty,pos,af,gd⟩ l w K Q:=by
 obtain⟨rfl,cells,h1,h2⟩:=hown;have hsm':=jA hsm;have hbs:(⟨⟨b⟩⟩:ByteArray).size=b.length:=rfl;have hcells:Lib.strCells ⟨⟨b⟩⟩=b.map fun b=>Value.int .u8 b.toNat:=rfl;obtain⟨v',w',hrun,h5,h6,h7⟩:=Lib.run_append_own_string (P:=P) w 0 t u ty e i ht hu hi hz hsz hby (.slice a xs.length c) xs.length cells h1 ⟨⟨b⟩⟩ (by grind[maxLen]) (by omega) (Nat.zero_le _);rw[hbs]at h5 h7
 have hshape:∃a' c',v' = .slice a' (xs.length+b.length) c':=by
  rcases h5.2 with ⟨hv,hn⟩ | ⟨g,cap,cur,hv,_⟩
  ·simp_all
  simp_all
 obtain⟨a',c',rfl⟩:=hshape
 have hb:∀k,blk a'=some k->blk a=some k∨(w.heap.size≤k∧k<w'.heap.size):=by
  intro k hk;by_cases hlt:w.heap.size≤k
  ·exact .inr ⟨hlt,(h5.lt k (by simp_all[zy])).2⟩
  ·refine .inl ?_
   rcases h1.2 with ⟨hv,hn⟩ | ⟨g,cap,cur,hv,_,hg,hnc,_,hcs,_⟩
   ·simp at hv
    obtain⟨rfl,hx0,rfl⟩:=hv;by_cases hb0:b=[]
    ·simp_all
    ·have hpos:0<b.length:=List.length_pos_iff.2 hb0
     rw[hx0]at hrun;simp only[List.length_nil,Nat.zero_add]at hrun;rw[run_append_nil_string (P:=P) w t u ty e i _ ht hu hi hz ⟨⟨b⟩⟩ (by omega) (by omega) (by grind)]at hrun;grind[Result.ok.injEq,Value.slice.injEq,blk]
   ·simp at hv
    obtain⟨rfl,rfl⟩:=hv;have hcs':cur.size=c:=by simp_all[Rp.int]
    by_cases hroom:xs.length+b.length≤c
    ·grind[Lib.run_append_room_string,Result.ok.injEq,Value.slice.injEq]
    ·rw[Lib.run_append_grow_string (P:=P) w t u ty e i _ ht hu hi hz ⟨g,0,none⟩ xs.length c cells (by rw[hsz];exact h2.len) (h1.cells (g:=g) rfl) ⟨⟨b⟩⟩
      (by omega) (by omega) (by rw[hbs,hby];exact growslice_fits (by omega) (by omega))]at hrun
     grind[Result.ok.injEq,Value.slice.injEq,blk]
 have hf:Fz [blk a] w w':=by simp_all[Fz.of_grown,zy]
 have S:=Stp.turn hL hf hb;refine iG (v:=.slice a' (xs.length+b.length) c') (w':=w') ?_ (h a' _ c' w' S ⟨by simp,cells++Lib.strCells ⟨⟨b⟩⟩,?_,?_⟩)
 ·simp_all[execOp,resolve,invoke,builtin,Sem.run_bind,Sem.run_pure,zJ,List.map_toArray,List.map_cons,List.map_nil]
 ·have e1:(xs++b.map fun b=>(b.toNat:Int)).length=xs.length+b.length:=by simp
  rw[e1];exact h5
 ·rw[hcells]
  exact (h2.step hf (fun k hk=>by simp_all) S.hs).append (Gn _ _ b)
theorem Rj{B:Nat->Prop}{pre post F:Lx}{s x:Operand}{t u e:TypeId}{i:TypeInfo}{a:Option Addr}{n c:Nat}{xs:List Int}{b:List UInt8}(ht:P.underlying t=some (.slice e))(hu:P.underlying u=some .string)
  (hi:P.info? e=some i) (hz:i.zero=some (.int .u8 0)) (hsz:i.size=1) (hby:i.bytes=1)
  (hs:ev l s = .slice a n c∨(a=none∧n=0∧c=0∧∃a',ev l s = .slice a' 0 0)) (hx:ev l x = .string ⟨⟨b⟩⟩) (hL:LOk B (pre++blk a::post) F w) (hown:Ow (Rp.int .u8) e ((pre++blk a::post)++F) w a n c xs)
  (hsm:small (xs.length+b.length)=true)
  (h:∀v a' n' c' w',(v = .slice a' n' c'∨(a'=none∧n'=0∧c'=0∧∃a,v = .slice a 0 0))->Stp B (pre++blk a::post) (pre++blk a'::post) F [blk a] w w'->Ow (Rp.int .u8) e ((pre++blk a'::post)++F) w' a' n' c' (xs++b.map fun b=>(b.toNat:Int))->K (st l d v) w') :
  OW P ⟨d,.call { callee:=.builtin .append,args:=#[s,x],argTypes:=#[t,u] },ty,pos,af,gd⟩ l w K Q:=by
 rcases hs with hs | ⟨rfl,rfl,rfl,a0,hs⟩
 ·exact uw ht hu hi hz hsz hby hs hx hL hown hsm (fun a' n' c' w' S O=>h _ a' n' c' w' (.inl rfl) S O)
 ·cases a0 with
  | none=>exact uw ht hu hi hz hsz hby hs hx hL hown hsm (fun a' n' c' w' S O=>h _ a' n' c' w' (.inl rfl) S O)
  | some a0 =>
   have hxs:xs=[]:=List.eq_nil_of_length_eq_zero hown.1.symm;subst hxs;have hbs:(⟨⟨b⟩⟩:ByteArray).size=b.length:=rfl;have hsm':=jA hsm;simp only[List.length_nil,Nat.zero_add]at hsm';by_cases hne:b=[]
   ·subst hne
    have hrun:(Builtin.append_ #[t,u] ty #[.slice (some a0) 0 0,.string ⟨⟨[]⟩⟩]).run P w = .ok (.slice (some a0) 0 0) w:=by have e0:(⟨⟨[]⟩⟩:ByteArray).size=0:=rfl;simp[Builtin.append_,run_underlying ht,run_underlying hu,Go.sizeOf,typeInfo,hi,Builtin.lenOf,Builtin.firstCells,storeCells,e0]
    refine iG (v:=.slice (some a0) 0 0) (w':=w) ?_ (h _ none 0 0 w (.inr ⟨rfl,rfl,rfl,_,rfl⟩) ⟨Fz.refl _ _,fun k hk=>by simp_all,Sub.refl _ _,hL⟩ hown);simp_all[execOp,resolve,invoke,builtin,Sem.run_bind,Sem.run_pure,zJ,List.map_toArray,List.map_cons,List.map_nil]
   ·have hpos:0<b.length:=List.length_pos_iff.2 hne
    have hnil:=run_append_nil_string (P:=P) w t u ty e i _ ht hu hi hz ⟨⟨b⟩⟩ (by omega) (by omega) (by grind)
    have heq:(Builtin.append_ #[t,u] ty #[.slice (some a0) 0 0,.string ⟨⟨b⟩⟩]).run P w=(Builtin.append_ #[t,u] ty #[.slice none 0 0,.string ⟨⟨b⟩⟩]).run P w:=by
     have hn:b.length≠0:=by omega
     have hc':¬ (281474976710656<Builtin.nextslicecap b.length 0*i.bytes):=by
      have e1:Builtin.nextslicecap b.length 0=b.length:=by simp_all[Builtin.nextslicecap,if_pos]
      grind
     have h63':¬ (9223372036854775807<(b.length:Int)):=by omega
     simp[Builtin.append_,run_underlying ht,run_underlying hu,Go.sizeOf,typeInfo,hi,Builtin.lenOf,hbs,hn,hc',h63',Builtin.firstCells,loadCells,loadCellsFrom]
    refine Nj (o':=⟨d,.call { callee:=.builtin .append,args:=#[.const (.slice none 0 0),x],argTypes:=#[t,u] },ty,pos,af,gd⟩) rfl ?_ ?_
     (uw ht hu hi hz hsz hby rfl hx hL hown hsm (fun a' n' c' w' S O=>h _ a' n' c' w' (.inl rfl) S O))
    ·simp only[execOp,resolve,invoke,builtin,Sem.run_bind,Sem.run_pure,zJ,List.map_toArray,List.map_cons,List.map_nil,hs,hx,heq]
     rfl
    ·simp only[execOp,resolve,invoke,builtin,Sem.run_bind,Sem.run_pure,zJ,List.map_toArray,List.map_cons,List.map_nil,hx]
     exact Zf hnil
end
def u8(c:Int):UInt8:=c.toNat.toUInt8
def aa0(s:List UInt8)(c:UInt8):Nat:=s.count c
end Sx
end
noncomputable section
namespace Sx
open Go Go.RowKit
section
variable {P:Program}(w:World)
theorem yT(t tn ty e:TypeId)(i:TypeInfo)(z:Value)(kq kn:IntKind)(ht:P.underlying t=some (.slice e))(htn:P.underlying tn=some (.int kn))(hi:P.info? e=some i)(hz:i.zero=some z)
  (g sLen sCap:Nat) (cur:Array Value) (hg:w.heap[g]? = some (.cells cur e (0,0))) (m:Nat) (h0:0<m) (hs:0<i.size) (hzs:z.cells.size=i.size) (h1:∀v∈(Builtin.zeroCells z.cells m).toList,v.oneCell'=true)
  (h63:(m:Int)≤9223372036854775807) (h48:m*i.bytes≤281474976710656) (hroom:sLen+m≤sCap) (hfit:sLen*i.size+m*i.size≤cur.size) :
  (Builtin.append_ #[t,tn] ty #[.slice (some ⟨g,0,none⟩) sLen sCap,.int kq m]).run P w =
   .ok (.slice (some ⟨g,0,none⟩) (sLen+m) sCap) (w.setRow g (cur.toList.take (sLen*i.size)++(Builtin.zeroCells z.cells m).toList++cur.toList.drop (sLen*i.size+m*i.size)).toArray):=by
 have hk:m≠0:=by omega
 have hw:IntKind.i64.wrap (m:Int)=m:=by grind[IntKind.wrap_i64]
 have h48i:¬ (281474976710656<(m:Int)*(i.bytes:Int)):=by omega
 have hneg:¬ ((m:Int)<0):=by omega
 have hns:¬ (m*i.size=0):=Nat.mul_ne_zero hk (by omega);have hzl:(Builtin.zeroCells z.cells m).toList.length=m*i.size:=by rw[Array.length_toList,size_zeroCells,hzs]
 have hst:=run_storeCells_at P g (sLen*i.size) e (Builtin.zeroCells z.cells m).toList 0 cur w hg (by omega) h1;rw[hzl]at hst;simp only[Nat.add_zero]at hst;simp[Builtin.append_,run_underlying ht,run_underlying htn,Go.sizeOf,typeInfo,zeroValue,hi,hz,asInt,asIntOf,hw,hneg,hns,h48i,hroom,Addr.add_lit,hst]
theorem Ad(base:Nat)(t tn ty e:TypeId)(i:TypeInfo)(z:Value)(kq kn:IntKind)(size bytes:Nat)(ht:P.underlying t=some (.slice e))(htn:P.underlying tn=some (.int kn))(hi:P.info? e=some i)(hz:i.zero=some z)
  (hsize:i.size=size) (hby:i.bytes=bytes) (hzs:z.cells.size=size) (hsz:0<size)
  (v:Value) (n:Nat) (xs:List Value) (hown:w.ownsRow base e size v n xs) (m:Nat) (hm:0<m) (h1:∀v∈(Builtin.zeroCells z.cells m).toList,v.oneCell'=true)
  (h63:n+m≤maxLen) (hbytes:(n+m)*bytes≤140737488355328) (hbase:base≤w.heap.size) :
  ∃v' w',(Builtin.append_ #[t,tn] ty #[v,.int kq m]).run P w = .ok v' w'∧w'.ownsRow base e size v' (n+m) (xs++(Builtin.zeroCells z.cells m).toList)∧w.grownBy w' v.ownBlock ∧
   (v'.ownBlock=v.ownBlock∨v'.ownBlock=some w.heap.size):=by
 subst hsize;subst hby;have hsmall:n+m≤9223372036854775807:=by simp_all[maxLen]
 have hl:(Builtin.zeroCells z.cells m).toList.length=m*i.size:=by rw[Array.length_toList,size_zeroCells,hzs]
 have hmb:m*i.bytes≤140737488355328:=Nat.le_trans (Nat.mul_le_mul_right _ (Nat.le_add_left m n)) hbytes;have hlen:(xs++(Builtin.zeroCells z.cells m).toList).length=(n+m)*i.size:=by rw[List.length_append,hown.1,hl,Nat.add_mul]
 have grown:∀(old:Nat),old<n+m->∀(row:Option Nat),
   (w.drew.alloc (.cells (xs.toArray++Builtin.zeroCells z.cells m++Builtin.zeroCells z.cells (grownCap w (n+m) old e - (n+m))) e)).ownsRow base e i.size
    (.slice (some ⟨w.heap.size,0,none⟩) (n+m) (grownCap w (n+m) old e)) (n+m) (xs++(Builtin.zeroCells z.cells m).toList) ∧
   w.grownBy (w.drew.alloc (.cells (xs.toArray++Builtin.zeroCells z.cells m++Builtin.zeroCells z.cells (grownCap w (n+m) old e - (n+m))) e)) row:=by
  intro old ho row;have hge:=grownCap_ge w (n+m) old e;have hcm:grownCap w (n+m) old e≤maxLen:=grownCap_le_maxLen w (n+m) old e h63;refine⟨⟨hlen,.inr ⟨w.heap.size,_,_,rfl,hbase,heap_alloc_new w.drew _,hge,hcm,?_,?_⟩⟩,⟨rfl,rfl,rfl,by simp,fun k hk _=>by first | exact Go.heap_alloc_old w.drew _ k hk | exact heap_alloc_old w.drew _ hk⟩⟩
  ·simp only[Array.size_append,List.size_toArray,size_zeroCells,hzs,hown.1,<- Nat.add_mul]
   simp_all
  grind
 rcases hown.2 with ⟨rfl,rfl⟩ | ⟨g,cap,cur,rfl,hbg,hg,hnc,hcm,hcs,htake⟩
 ·have hx:xs=[]:=List.eq_nil_of_length_eq_zero (by simp_all)
  subst hx;have hr:=Lib.run_append_nil_zeros (P:=P) w t tn ty e i z kq kn ht htn hi hz m hm hsz (by omega) (by omega);have hgr:=grown 0 (by omega) (Value.ownBlock (.slice none 0 0));simp only[Nat.zero_add,List.nil_append,Array.empty_append]at hgr ⊢;exact⟨_,_,hr,hgr.1,hgr.2,Or.inr rfl⟩
 ·by_cases hroom:n+m≤cap
  ·have hfit:n*i.size+m*i.size≤cur.size:=by rw[hcs,<- Nat.add_mul];exact Nat.mul_le_mul_right _ hroom
   have hr:=yT (P:=P) w t tn ty e i z kq kn ht htn hi hz g n cap cur hg m hm hsz hzs h1 (by omega) (by omega) hroom hfit;refine⟨_,_,hr,⟨hlen,.inr ⟨g,cap,_,rfl,hbg,setRow_heap w g cur _ e _ hg,hroom,hcm,?_,?_⟩⟩,⟨rfl,rfl,rfl,by simp,fun k _ hk=>setRow_other w g k _ (fun e=>hk (by simp[Value.ownBlock,e]))⟩,Or.inl rfl⟩
   ·grind
   grind
  ·have holds:∀j u,xs[j]? = some u->w.cell? ((⟨g,0,none⟩:Addr).add j)=some u:=hown.cells (g:=g) rfl
   have hfo:=run_firstCells_some (P:=P) w.drew i.size n ⟨g,0,none⟩ n cap xs hown.1 (by simp_all);have hr:=Lib.run_append_grow_zeros (P:=P) w t tn ty e i z kq kn ht htn hi hz (some ⟨g,0,none⟩) n cap xs hfo m hm hsz (by omega) (by omega) (by omega) (growslice_fits (by omega) hbytes);have hgr:=grown cap (by omega) (Value.ownBlock (.slice (some ⟨g,0,none⟩) n cap));exact⟨_,_,hr,hgr.1,hgr.2,Or.inr rfl⟩
end
section
variable {P:Program}{l:List Value}{w:World}{d:Option Tmp}{ty:TypeId}{pos:String}{af:Array Edge}{gd:Option (Nat×Bool)}
 {Q:Exit->Act->World->Prop} {K:List Value->World->Prop} {α:Type} {R:Rp α} {L:Lx}
theorem TM{B:Nat->Prop}{pre post F:Lx}{s x:Operand}{t tn e:TypeId}{z:α}{kq kn:IntKind}{a:Option Addr}{n c:Nat}{m:Int}{xs:List α}(ht:P.underlying t=some (.slice e))(htn:P.underlying tn=some (.int kn))(hr:TyRow P e R z)
  (hs:ev l s = .slice a n c) (hx:ev l x = .int kq m) (hm:1≤m) (hL:LOk B (pre++blk a::post) F w) (hown:Ow R e ((pre++blk a::post)++F) w a n c xs)
  (hsm:small (xs.length+m.toNat)=true)
  (h:∀a' n' c' w',Stp B (pre++blk a::post) (pre++blk a'::post) F [blk a] w w'->Ow R e ((pre++blk a'::post)++F) w' a' n' c' (xs++zC m.toNat z)->K (st l d (.slice a' n' c')) w') :
  OW P ⟨d,.call { callee:=.builtin .append,args:=#[s,x],argTypes:=#[t,tn] },ty,pos,af,gd⟩ l w K Q:=by
 obtain⟨rfl,cells,h1,h2⟩:=hown;obtain⟨i,zv,hi,hz,hsz,hby,hzs,hzr⟩:=hr.info;have hsm:=jA hsm;obtain⟨M,rfl⟩:=zK (Int.le_trans (by decide) hm);simp only[zM]at *;have hM:0<M:=by omega
 have hfl:(Builtin.zeroCells zv.cells M).toList=(zC M zv.cells.toList).flatten:=mR zv.cells M;have hrows:∀(L':Lx) (w':World),RowsOf R L' w' (Builtin.zeroCells zv.cells M).toList (zC M z):=fun L' w'=>by simp_all[RowsOf.replicate]
 obtain⟨v',w',hrun,h5,h6,h7⟩:=Ad (P:=P) w 0 t tn ty e i zv kq kn R.size i.bytes ht htn hi hz hsz rfl hzs hr.pos (.slice a xs.length c) xs.length cells h1 M hM ((hrows ((pre++blk a::post)++F) w).one)
  (by grind[maxLen]) (by
   have:(xs.length+M)*i.bytes≤1073741824*131072:=Nat.mul_le_mul hsm hby
   omega) (Nat.zero_le _)
 have hshape:∃a' c',v' = .slice a' (xs.length+M) c':=by
  rcases h5.2 with ⟨hv,hn⟩ | ⟨g,cap,cur,hv,_⟩
  ·omega
  simp_all
 obtain⟨a',c',rfl⟩:=hshape
 have hb:∀k,blk a'=some k->blk a=some k∨(w.heap.size≤k∧k<w'.heap.size):=by
  intro k hk;rcases h7 with h7 | h7
  ·simp_all[zy]
  ·refine .inr ?_
   rw[zy,hk]at h7;cases h7;exact⟨Nat.le_refl _,(h5.lt w.heap.size (by simp_all[zy])).2⟩
 have hf:Fz [blk a] w w':=by simp_all[Fz.of_grown,zy]
 have S:=Stp.turn hL hf hb;refine iG (v:=.slice a' (xs.length+M) c') (w':=w') ?_ (h a' _ c' w' S ⟨by simp,cells++(Builtin.zeroCells zv.cells M).toList,?_,?_⟩)
 ·simp_all[execOp,resolve,invoke,builtin,Sem.run_bind,Sem.run_pure,zJ,List.map_toArray,List.map_cons,List.map_nil]
 ·simp_all
 ·exact (h2.step hf (fun k hk=>by simp_all) S.hs).append (hrows _ _)
end
end Sx
end
