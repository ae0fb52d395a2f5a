/- Proved in the last of these 15 parts (this is part 1): PlanText. Conditions: those of the given statement, and no others. -/
import Derived.WalkKit
import Derived.OrdersHeld
import Derived.Deep.RegionHeld
import Derived.LoopNIn
import Derived.TacticsIn
import Derived.OrdersIn
import Derived.WalkSpells
import Derived.WalkLawsBesides
import Derived.MapKept
import Derived.Laws.StructEq
import Derived.Laws.Externs
import Derived.Lib.Bytealg
import Derived.ProofKit
import Derived.OpenShut
import Derived.Carry
import Derived.WideKeyArgs
import Derived.Deep.DeepHandedRow
set_option linter.unusedVariables false
set_option linter.unusedSimpArgs false
set_option linter.unusedSectionVars false
open List renaming replicate → zC, length → zE, getElem?_eq_getElem → zQ, getElem?_eq_some_iff → zR, mem_of_getElem? → zT, length_append → zU
open Go.Result renaming andThen_ok → zJ
open Int renaming eq_ofNat_of_zero_le → zK, toNat_natCast → zM
open Bool renaming and_eq_true → zL
noncomputable section
namespace Sx
open Go Go.RowKit
def mk(l:List Value):Act:=⟨l.toArray,[]⟩
def ev(l:List Value):Operand->Value
 | .tmp t=>l.getD t undef
 | .const v=>v
 | .global g=>.pointer (some ⟨g,0,none⟩)
 | .func f=>.func (.func f) #[] #[]
theorem jk(l:List Value):(mk l).eval=ev l:=by funext x;cases x<;>simp[mk,ev,Act.eval]
theorem aii(l:List Value)(d:Tmp)(v:Value):(mk l).put (some d) v=mk (l.set d v):=by simp[mk,Act.put,List.setIfInBounds_toArray]
def st(l:List Value)(d:Option Tmp)(v:Value):List Value :=
 match d with
 | some d=>l.set d v
 | none=>l
theorem nK(l:List Value)(d:Option Tmp)(v:Value):(mk l).put d v=mk (st l d v):=by
 cases d
 ·rfl
 ·exact aii l _ v
def RdF(r:Option Nat):Fence:={ fn:=fun _=>True,depth:=none,alive:=false,round:=r }
theorem aaE{r:Option Nat}{n:Nat}{P:Program}{f:FuncId}{args:Array Value}{w:World}{R:Ending->World->Prop}(h:Calls P f args w R):CallsIn (RdF r) n P f args w R:=callsIn_wide.2 h
theorem jR{r:Option Nat}{ρ:Operand->Value}{o:Oper}{P:Program}{w w':World}{x:Next}(h:(execOp ρ o).run P w = .ok x w')(hd:∀d,x ≠ .defer d):(o.semAt r ρ).run P w = .ok x w':=by
 by_cases hc:∃c,o.op = .defer c
 ·obtain⟨c,hc⟩:=hc
  exfalso;simp only[execOp,hc,Sem.run_bind]at h
  cases hr:(resolve ρ c o.type).run P w with
  | ok d w1=>rw[hr]at h;simp at h;grind
  | halt y w1=>simp_all
 simp_all[Oper.semAt_eq]
def CW(P:Program)(c:Code)(Q:Exit->Act->World->Prop)(l:List Value)(w:World):Prop:=∀r,c.wpIn (RdF r) 0 P Q (mk l) w
section
variable {P:Program}{Q:Exit->Act->World->Prop}{l:List Value}{w:World}
theorem agL(h:Q .normal (mk l) w):CW P .skip Q l w:=fun _=>wpIn_skip h
theorem aij(h:Q .ret (mk l) w):CW P .ret Q l w:=fun _=>wpIn_ret h
theorem agM{id:Nat}(h:Q (.exit id) (mk l) w):CW P (.exit id) Q l w:=fun _=>wpIn_exit h
theorem aaF{id:Nat}(h:Q .normal (mk l) w):CW P (.label id) Q l w:=fun _=>wpIn_label h
theorem gT{x y:Code}(h:CW P x (Exit.then (fun a w=>∃l',a=mk l'∧CW P y Q l' w) Q) l w):CW P (.seq x y) Q l w:=by
 intro r;refine wpIn_seq (Code.wpIn_mono (fun e a w q=>?_) (h r));cases e<;>try exact q
 obtain⟨l',rfl,q⟩:=q;exact q r
theorem uZ{id:Nat}{c:Code}(h:CW P c (Exit.inBlock id Q) l w):CW P (.block id c) Q l w:=fun r=>wpIn_block (h r)
theorem Ru{c:Operand}{x y:Code}{t:Bool}(hc:ev l c = .bool t)(ht:t=true->CW P x Q l w)(hf:t=false->CW P y Q l w) :
  CW P (.cond c x y) Q l w :=
 fun r=>wpIn_cond_split (by simp_all[jk]) (fun h=>ht h r) (fun h=>hf h r)
theorem aik{y:Code}(h:CW P y Q l w):Exit.then (fun a w=>∃l',a=mk l'∧CW P y Q l' w) Q .normal (mk l) w:=⟨l,rfl,h⟩
theorem MO{F:Act->World->Prop}{a:Act}(h:Q .ret a w):Exit.then F Q .ret a w:=h
theorem KT{F:Act->World->Prop}{a:Act}{id:Nat}(h:Q (.exit id) a w):Exit.then F Q (.exit id) a w:=h
theorem YZ{a:Act}{id:Nat}(h:Q .normal a w):Exit.inBlock id Q .normal a w:=h
theorem Rc{a:Act}{id:Nat}(h:Q .ret a w):Exit.inBlock id Q .ret a w:=h
theorem MP{a:Act}{id:Nat}(h:Q .normal a w):Exit.inBlock id Q (.exit id) a w:=by simp_all[Exit.inBlock]
theorem LQ{a:Act}{id id':Nat}(hne:(id' == id)=false)(h:Q (.exit id') a w):Exit.inBlock id Q (.exit id') a w:=by
 have:id'≠id:=by simpa using hne
 simpa [Exit.inBlock,this]using h
def aj{σ R:Type}(F:(σ->Option R)->σ->Option R):Nat->σ->Option R
 | 0,_=>none
 | n+1,s=>F (aj F n) s
theorem Dl{c:Code}{σ R:Type}(F:(σ->Option R)->σ->Option R)(r:R)(I:σ->List Value->World->Prop)
  (body:∀(self:σ->Option R) (s:σ) (l:List Value) (w:World),I s l w->F self s=some r ->
   CW P c (Exit.then (fun a w=>∃l',a=mk l'∧∃s',I s' l' w∧self s'=some r) Q) l w)
  {n:Nat} {s:σ} (hI:I s l w) (hm:aj F n s=some r):CW P (.loop c) Q l w:=by
 intro r;refine wpIn_loop_rounds n ?_
 induction n generalizing s l w with
 | zero=>cases hm
 | succ n ih =>
  rw[roundsIn_succ];refine Code.wpIn_mono (fun e a w q=>?_) (body (aj F n) s l w hI hm r);cases e<;>try exact q
  obtain⟨l',rfl,s',hI',hm'⟩:=q;exact ih hI' hm'
end
theorem enter{P:Program}{f:FuncId}{fn:Func}{c:Code}{args:List Value}{w:World}{R:Ending->World->Prop}{n:Nat}{l:List Value}
  (hf:P.funcs[f]? = some fn) (hb:fn.body=some c) (hn:fn.ntmps=n) (hl:l=args++zC (n - args.length) undef)
  (h:CW P c (bodyPost P fn R) l w):Calls P f args.toArray w R:=by
 subst hn hl;refine calls_of_wp hf hb ?_;have:(⟨args.toArray++Array.replicate (fn.ntmps - args.toArray.size) undef,[]⟩:Act)=mk (args++zC (fn.ntmps - args.length) undef):=by simp[mk]
 rw[this];exact wpIn_wide.1 (h none)
def resv(P:Program)(l:List Value)(w:World):ResultVar->Value->Prop
 | .tmp t,v=>l.getD t undef=v
 | .cell a t,v=>∃ad,l.getD a undef = .pointer (some ad)∧(loadVar t ad).run P w = .ok v w
def Tp(l:List Value):ResultVar->Sem Value
 | .tmp t=>pure ((mk l).tmps.getD t undef)
 | .cell a t=>do loadVar t (<- asAddr ((mk l).tmps.getD a undef))
theorem nX{P:Program}{l:List Value}{w:World}{rv:ResultVar}{v:Value}(h:resv P l w rv v):(Tp l rv).run P w = .ok v w:=by
 cases rv with
 | tmp t=>simp_all[resv,Tp,mk]
 | cell a t =>
  obtain⟨ad,h1,h2⟩:=h;simp_all[mk,undef,Tp,asAddr,Sem.run_bind,Sem.run_pure,zJ]
theorem kU(fn:Func)(l:List Value):results fn (mk l).tmps=(do
  let vs <- fn.results.mapM (Tp l)
  pure (if h:vs.size=1 then vs[0] else .tuple vs)):=by
 rfl
theorem amu{P:Program}{fn:Func}{R:Ending->World->Prop}{l:List Value}{w:World}{r1:ResultVar}{v:Value}
  (hr:fn.results = #[r1]) (hv:resv P l w r1 v) (h:R (.returned v) w):bodyPost P fn R .ret (mk l) w:=by
 have h1:=nX hv;exact⟨rfl,v,by simp_all[kU],h⟩
theorem amv{P:Program}{fn:Func}{R:Ending->World->Prop}{l:List Value}{w:World}{r1 r2:ResultVar}{v v':Value}
  (hr:fn.results = #[r1,r2]) (hv:resv P l w r1 v) (hv':resv P l w r2 v') (h:R (.returned (.tuple #[v,v'])) w):bodyPost P fn R .ret (mk l) w:=by
 have h1:=nX hv;have h2:=nX hv';exact⟨rfl,_,by simp_all[kU],h⟩
theorem amw{P:Program}{fn:Func}{R:Ending->World->Prop}{l:List Value}{w:World}{r1 r2 r3:ResultVar}{v v' v'':Value}
  (hr:fn.results = #[r1,r2,r3]) (hv:resv P l w r1 v) (hv':resv P l w r2 v') (hv'':resv P l w r3 v'') (h:R (.returned (.tuple #[v,v',v''])) w):bodyPost P fn R .ret (mk l) w:=by
 have h1:=nX hv;have h2:=nX hv';have h3:=nX hv'';exact⟨rfl,_,by simp_all[kU],h⟩
theorem amx{P:Program}{fn:Func}{R:Ending->World->Prop}{l:List Value}{w:World}
  (hr:fn.results = #[]) (h:R (.returned (.tuple #[])) w):bodyPost P fn R .ret (mk l) w :=
 ⟨rfl,_,by simp_all[results],h⟩
def WL(P:Program)(ops:Array Oper)(Q:Exit->Act->World->Prop)(rest:List Oper)(l:List Value)(w:World):Prop:=∀r,wpListIn (RdF r) 0 P ops Q rest (mk l) w
def wtd(ops:Array Oper)(o:Oper)(l:List Value):Bool:=Region.wanted o (yielded ops (mk l).tmps)
section
variable {P:Program}{Q:Exit->Act->World->Prop}{l:List Value}{w:World}
theorem oK{id:Nat}{ops:List Oper}(h:WL P ops.toArray Q ops l w):CW P (.region id ops.toArray false) Q l w:=fun r=>wpIn_region_lit (h r)
variable {ops:Array Oper}{rest:List Oper}{o:Oper}
theorem yL(h:Q .normal (mk l) w):WL P ops Q [] l w:=fun _=>h
theorem jH{v:Value}{w':World}(hw:wtd ops o l=true)(hr:(execOp (ev l) o).run P w = .ok (.value v) w')(h:WL P ops Q rest (st l o.dst v) w') :
  WL P ops Q (o::rest) l w:=by
 intro r;unfold wpListIn;unfold wtd at hw;rw[if_pos hw];refine⟨fun _ _=>trivial,?_⟩;rw[jk,jR hr (by simp),Oper.uponIn_value,nK];exact h r
theorem agN{w':World}(hw:wtd ops o l=true)(hr:(execOp (ev l) o).run P w = .ok .skip w')(h:WL P ops Q rest (st l o.dst undef) w') :
  WL P ops Q (o::rest) l w:=by
 intro r;unfold wpListIn;unfold wtd at hw;rw[if_pos hw];refine⟨fun _ _=>trivial,?_⟩;rw[jk,jR hr (by simp),Oper.uponIn_skip,nK];exact h r
theorem ail(hw:wtd ops o l=false)(h:WL P ops Q rest (st l o.dst undef) w):WL P ops Q (o::rest) l w:=by intro r;unfold wpListIn;unfold wtd at hw;rw[if_neg (by simp_all),nK];exact⟨fun _ _=>trivial,h r⟩
end
end Sx
end
noncomputable section
namespace Sx
open Go Go.RowKit
abbrev Lx:=List (Option Nat)
structure Fz(L:Lx) (w w':World):Prop where
 os:w'.os=w.os
 tape:w'.tape=w.tape
 output:w'.output=w.output
 size:w.heap.size≤w'.heap.size
 block:∀k,k<w.heap.size->some k ∉ L->w'.heap[k]? = w.heap[k]?
theorem Fz.refl(L:Lx)(w:World):Fz L w w:=⟨rfl,rfl,rfl,Nat.le_refl _,fun _ _ _=>rfl⟩
theorem Fz.trans{L:Lx}{a b c:World}(h:Fz L a b)(k:Fz L b c):Fz L a c :=
 ⟨k.os.trans h.os,k.tape.trans h.tape,k.output.trans h.output,Nat.le_trans h.size k.size,
  fun i hi hn=>(k.block i (Nat.lt_of_lt_of_le hi h.size) hn).trans (h.block i hi hn)⟩
theorem Fz.sub{L M:Lx}{a b:World}(h:Fz L a b)(hs:∀k,some k∈L->some k∈M):Fz M a b :=
 ⟨h.os,h.tape,h.output,h.size,fun k hk hn=>h.block k hk (fun hm=>hn (hs k hm))⟩
theorem Fz.nil{M:Lx}{a b:World}(h:Fz [] a b):Fz M a b:=h.sub (by simp)
theorem Fz.drew(L:Lx)(w:World):Fz L w w.drew:=⟨rfl,rfl,rfl,Nat.le_refl _,fun _ _ _=>rfl⟩
theorem Fz.alloc(L:Lx)(w:World)(o:Obj):Fz L w (w.alloc o) :=
 ⟨rfl,rfl,rfl,by simp,fun k hk _=>Below.heap_alloc w o k hk⟩
theorem Fz.of_below{a b:World}(h:Below a.heap.size a b)(L:Lx):Fz L a b:=⟨h.os,h.tape,h.output,h.size,fun k hk _=>h.block k hk⟩
theorem Fz.below{a b:World}(h:Fz [] a b):Below a.heap.size a b:=⟨h.os,h.tape,h.output,h.size,fun k hk=>h.block k hk (by simp)⟩
theorem Fz.of_grown{a b:World}{r:Option Nat}(h:a.grownBy b r):Fz [r] a b :=
 ⟨h.os,h.tape,h.output,h.size,fun k hk hn=>h.block k hk (fun e=>hn (by simp[e]))⟩
theorem Fz.cell{L:Lx}{a b:World}(h:Fz L a b){k o:Nat}(hk:k<a.heap.size)(hn:some k ∉ L):b.cell? ⟨k,o,none⟩=a.cell? ⟨k,o,none⟩ :=
 World.cell?_of_block (w:=a) (h.block k hk hn)
structure LOk(B:Nat->Prop) (own:Lx) (F:Lx) (w:World):Prop where
 pair:own.Pairwise (fun x y=>∀k,x=some k->y≠some k)
 lo:∀k,some k∈own->B k
 hi:∀k,some k∈own->k<w.heap.size
 base:∀k,w.heap.size≤k->B k
 far:∀k,some k∈F->¬ B k∧k<w.heap.size
theorem LOk.start{F:Lx}{w:World}(h:∀k,some k∈F->k<w.heap.size):LOk (fun k=>w.heap.size≤k) [] F w:=⟨.nil,by simp,by simp,fun _ h=>h,fun k hk=>⟨by simp_all,h k hk⟩⟩
theorem LOk.baseS{B:Nat->Prop}{own F:Lx}{w w':World}(h:LOk B own F w)(hs:w.heap.size≤w'.heap.size):∀k,w'.heap.size≤k->B k:=fun k hk=>h.base k (Nat.le_trans hs hk)
theorem LOk.farS{B:Nat->Prop}{own F:Lx}{w w':World}(h:LOk B own F w)(hs:w.heap.size≤w'.heap.size):∀k,some k∈F->¬ B k∧k<w'.heap.size:=fun k hk=>⟨(h.far k hk).1,Nat.lt_of_lt_of_le (h.far k hk).2 hs⟩
structure Blw(B:Nat->Prop) (w w':World):Prop where
 os:w'.os=w.os
 tape:w'.tape=w.tape
 output:w'.output=w.output
 size:w.heap.size≤w'.heap.size
 block:∀k,k<w.heap.size->¬ B k->w'.heap[k]? = w.heap[k]?
theorem Blw.refl(B:Nat->Prop)(w:World):Blw B w w:=⟨rfl,rfl,rfl,Nat.le_refl _,fun _ _ _=>rfl⟩
theorem Blw.trans{B:Nat->Prop}{a b c:World}(h:Blw B a b)(k:Blw B b c):Blw B a c :=
 ⟨k.os.trans h.os,k.tape.trans h.tape,k.output.trans h.output,Nat.le_trans h.size k.size,
  fun i hi hn=>(k.block i (Nat.lt_of_lt_of_le hi h.size) hn).trans (h.block i hi hn)⟩
theorem Blw.below{a b:World}(h:Blw (fun k=>a.heap.size≤k) a b):Below a.heap.size a b:=⟨h.os,h.tape,h.output,h.size,fun k hk=>h.block k hk (by omega)⟩
theorem Blw.fz{B:Nat->Prop}{a b:World}{L:Lx}(h:Blw B a b)(hB:∀k,k<a.heap.size->B k->some k∈L):Fz L a b:=⟨h.os,h.tape,h.output,h.size,fun k hk hn=>h.block k hk (fun hb=>hn (hB k hk hb))⟩
theorem LOk.step{B:Nat->Prop}{own F:Lx}{w w':World}(h:LOk B own F w)(hs:w.heap.size≤w'.heap.size):LOk B own F w' :=
 ⟨h.pair,h.lo,fun k hk=>Nat.lt_of_lt_of_le (h.hi k hk) hs,h.baseS hs,h.farS hs⟩
theorem LOk.push{B:Nat->Prop}{own F:Lx}{w w':World}{g:Nat}(h:LOk B own F w)(hg:w.heap.size≤g)(hg':g<w'.heap.size)(hs:w.heap.size≤w'.heap.size):LOk B (some g::own) F w':=by
 refine⟨?_,?_,?_,h.baseS hs,h.farS hs⟩
 ·refine .cons ?_ h.pair
  intro y hy k e e';cases e;subst e';have:=h.hi g hy;omega
 ·intro k hk
  rcases List.mem_cons.1 hk with hk | hk
  ·cases hk;exact h.base _ hg
  ·exact h.lo k hk
 ·intro k hk
  rcases List.mem_cons.1 hk with hk | hk
  ·simp_all
  ·exact Nat.lt_of_lt_of_le (h.hi k hk) hs
theorem LOk.push_none{B:Nat->Prop}{own F:Lx}{w:World}(h:LOk B own F w){x:Option Nat}(hx:x=none):LOk B (x::own) F w:=by subst hx;exact⟨.cons (by simp) h.pair,fun k hk=>h.lo k (by simp_all),fun k hk=>h.hi k (by simp_all),h.base,h.far⟩
theorem LOk.drop{B:Nat->Prop}{own own' F:Lx}{w:World}(h:LOk B own F w)(hs:own'.Sublist own):LOk B own' F w :=
 ⟨h.pair.sublist hs,fun k hk=>h.lo k (hs.subset hk),fun k hk=>h.hi k (hs.subset hk),h.base,h.far⟩
theorem LOk.turn{B:Nat->Prop}{pre post F:Lx}{x x':Option Nat}{w w':World}(h:LOk B (pre++x::post) F w)(hs:w.heap.size≤w'.heap.size)
  (hx:∀k,x'=some k->x=some k∨(w.heap.size≤k∧k<w'.heap.size)):LOk B (pre++x'::post) F w':=by
 have hp:=h.pair;rw[List.pairwise_append,List.pairwise_cons]at hp;obtain⟨h1,⟨h2,h3⟩,h4⟩:=hp;refine⟨?_,?_,?_,h.baseS hs,h.farS hs⟩
 ·rw[List.pairwise_append,List.pairwise_cons]
  refine⟨h1,⟨?_,h3⟩,?_⟩
  ·intro y hy k e e'
   rcases hx k e with hx | hx
   ·grind
   ·have:=h.hi k (by simp_all);omega
  ·intro a ha b hb k e e'
   rcases List.mem_cons.1 hb with hb | hb
   ·subst hb
    rcases hx k e' with hx | hx
    ·grind
    ·have:=h.hi k (by simp_all);omega
   grind
 ·intro k hk
  rcases List.mem_append.1 hk with hk | hk
  ·exact h.lo k (by grind)
  ·rcases List.mem_cons.1 hk with hk | hk
   ·rcases hx k hk.symm with hx | hx
    ·exact h.lo k (by grind)
    ·exact h.base _ hx.1
   ·exact h.lo k (by grind)
 ·intro k hk
  rcases List.mem_append.1 hk with hk | hk
  ·exact Nat.lt_of_lt_of_le (h.hi k (by grind)) hs
  ·rcases List.mem_cons.1 hk with hk | hk
   ·rcases hx k hk.symm with hx | hx
    ·exact Nat.lt_of_lt_of_le (h.hi k (by grind)) hs
    omega
   ·exact Nat.lt_of_lt_of_le (h.hi k (by grind)) hs
theorem LOk.ne{B:Nat->Prop}{own F:Lx}{w:World}(h:LOk B own F w){x y:Option Nat}(i j:Nat)(hi:own[i]? = some x)(hj:own[j]? = some y)(hij:i≠j){k:Nat}(hx:x=some k):y≠some k:=by intro hy;have hp:=List.pairwise_iff_getElem.1 h.pair;grind
def Sub(w:World)(L' L:Lx):Prop:=∀k,some k∈L'->some k∈L∨w.heap.size≤k
theorem Sub.refl(w:World)(L:Lx):Sub w L L:=fun _ h=>.inl h
theorem Sub.nil(w:World)(L:Lx):Sub w [] L:=fun _ h=>by cases h
theorem Sub.push{w:World}{L' L:Lx}(h:Sub w L' L){g:Nat}(hg:w.heap.size≤g):Sub w (some g::L') L:=fun k hk=>by
 rcases List.mem_cons.1 hk with hk | hk
 ·simp_all
 ·exact h k hk
theorem Sub.of_subset{w:World}{L' L:Lx}(h:∀x∈L',x∈L):Sub w L' L:=fun _ hk=>.inl (h _ hk)
structure Rp(α:Type) where
 size:Nat
 agg:Bool
 rel:Lx->World->List Value->α->Prop
 len:∀{L w cs x},rel L w cs x->cs.length=size
 one:∀{L w cs x},rel L w cs x->∀v∈cs,v.oneCell'=true
 mono:∀{L w w' cs x},rel L w cs x->Fz L w w'->rel L w' cs x
 grow:∀{L L' w cs x},rel L w cs x->Sub w L' L->rel L' w cs x
def Rp.val{α:Type}(R:Rp α)(cs:List Value):Value:=if R.agg then .agg cs.toArray else cs.headD undef
theorem Rp.step{α:Type}(R:Rp α){L L' M:Lx}{w w':World}{cs:List Value}{x:α}(h:R.rel L w cs x)(hf:Fz M w w')
  (hM:∀k,some k∈M->some k∈L) (hs:Sub w L' L):R.rel L' w' cs x:=by
 have hs':Sub w (L++L') L:=fun k hk=>by
  rcases List.mem_append.1 hk with hk | hk
  ·simp_all
  ·exact hs k hk
 have h1:R.rel (L++L') w cs x:=R.grow h hs';have h2:R.rel (L++L') w' cs x:=R.mono h1 (hf.sub (fun k hk=>by simp_all));exact R.grow h2 (fun k hk=>.inl (by grind))
namespace Rp
def int(k:IntKind):Rp Int where
 size:=1
 agg:=false
 rel:=fun _ _ cs x=>cs=[.int k x]
 len:=by simp
 one:=by simp_all[Value.oneCell']
 mono:=by simp_all
 grow:=by simp_all
def bool:Rp Bool where
 size:=1
 agg:=false
 rel:=fun _ _ cs x=>cs=[.bool x]
 len:=by simp_all
 one:=by simp_all[Value.oneCell']
 mono:=by simp_all
 grow:=by simp_all
def str:Rp (List UInt8) where
 size:=1
 agg:=false
 rel:=fun _ _ cs x=>cs=[.string ⟨⟨x⟩⟩]
 len:=by simp
 one:=by simp_all[Value.oneCell']
 mono:=by simp_all
 grow:=by simp_all
def prod{α β:Type}(R:Rp α)(S:Rp β):Rp (α×β) where
 size:=R.size+S.size
 agg:=true
 rel:=fun L w cs x=>∃c d,cs=c++d∧R.rel L w c x.1∧S.rel L w d x.2
 len:=by rintro _ _ cs x ⟨c,d,rfl,h1,h2⟩;rw[zU,R.len h1,S.len h2]
 one:=by
  rintro _ _ cs x ⟨c,d,rfl,h1,h2⟩ v hv;rcases List.mem_append.1 hv with hv | hv
  ·exact R.one h1 v hv
  ·exact S.one h2 v hv
 mono:=by rintro _ _ _ cs x ⟨c,d,rfl,h1,h2⟩ hf;exact⟨c,d,rfl,R.mono h1 hf,S.mono h2 hf⟩
 grow:=by rintro _ _ _ cs x ⟨c,d,rfl,h1,h2⟩ hs;exact⟨c,d,rfl,R.grow h1 hs,S.grow h2 hs⟩
def iso{α β:Type}(R:Rp α)(f:β->α)(a:Bool):Rp β where
 size:=R.size
 agg:=a
 rel:=fun L w cs x=>R.rel L w cs (f x)
 len:=R.len
 one:=R.one
 mono:=R.mono
 grow:=R.grow
end Rp
def El{α:Type}(R:Rp α)(L:Lx)(w:World)(b o:Nat)(x:α):Prop :=
 b<w.heap.size∧some b ∉ L∧∃cs,R.rel L w cs x∧∀j v,cs[j]? = some v->w.cell? ⟨b,o+j,none⟩=some v
theorem El.mono{α:Type}{R:Rp α}{L:Lx}{w w':World}{b o:Nat}{x:α}(h:El R L w b o x)(hf:Fz L w w'):El R L w' b o x:=by obtain⟨h1,h2,cs,h3,h4⟩:=h;exact⟨Nat.lt_of_lt_of_le h1 hf.size,h2,cs,R.mono h3 hf,fun j v hj=>by rw[hf.cell h1 h2];simp_all⟩
theorem El.grow{α:Type}{R:Rp α}{L L':Lx}{w:World}{b o:Nat}{x:α}(h:El R L w b o x)(hs:Sub w L' L):El R L' w b o x:=by
 obtain⟨h1,h2,cs,h3,h4⟩:=h;refine⟨h1,fun hk=>?_,cs,R.grow h3 hs,h4⟩;rcases hs b hk with h | h
 ·grind
 ·omega
theorem El.fst{α β:Type}{R:Rp α}{S:Rp β}{L:Lx}{w:World}{b o:Nat}{x:α×β}(h:El (R.prod S) L w b o x):El R L w b o x.1:=by obtain⟨h1,h2,cs,⟨c,d,rfl,h3,h4⟩,h5⟩:=h;exact⟨h1,h2,c,h3,fun j v hj=>h5 j v (by grind)⟩
theorem El.snd{α β:Type}{R:Rp α}{S:Rp β}{L:Lx}{w:World}{b o:Nat}{x:α×β}(h:El (R.prod S) L w b o x):El S L w b (o+R.size) x.2:=by obtain⟨h1,h2,cs,⟨c,d,rfl,h3,h4⟩,h5⟩:=h;refine⟨h1,h2,d,h4,fun j v hj=>?_⟩;have:=h5 (R.size+j) v (by rw[List.getElem?_append_right (by rw[R.len h3];omega),R.len h3];simp_all);grind
namespace Rp
def slice{α:Type}(R:Rp α):Rp (List α) where
 size:=1
 agg:=false
 rel:=fun L w cs xs=>∃a cap,cs=[.slice a xs.length cap]∧xs.length≤cap∧(xs ≠ []->∃b o,a=some ⟨b,o,none⟩∧∀i x,xs[i]? = some x->El R L w b (o+i*R.size) x)
 len:=by rintro _ _ cs x ⟨a,cap,rfl,_⟩;rfl
 one:=by rintro _ _ cs x ⟨a,cap,rfl,_⟩;simp[Value.oneCell']
 mono:=by rintro L w w' cs xs ⟨a,cap,rfl,hc,h⟩ hf;refine⟨a,cap,rfl,hc,fun hne=>?_⟩;obtain⟨b,o,ha,he⟩:=h hne;exact⟨b,o,ha,fun i x hi=>(he i x hi).mono hf⟩
 grow:=by rintro L L' w cs xs ⟨a,cap,rfl,hc,h⟩ hs;refine⟨a,cap,rfl,hc,fun hne=>?_⟩;obtain⟨b,o,ha,he⟩:=h hne;exact⟨b,o,ha,fun i x hi=>(he i x hi).grow hs⟩
end Rp
theorem qW{α:Type}(R:Rp α)(L:Lx)(w:World)(a:Option Addr)(cap:Nat):(Rp.slice R).rel L w [.slice a 0 cap] []:=⟨a,cap,rfl,Nat.zero_le _,fun h=>absurd rfl h⟩
end Sx
end
noncomputable section
namespace Sx
open Go Go.RowKit
def lt(x y:Int):Bool:=decide (x<y)
def le(x y:Int):Bool:=decide (x≤y)
def gt(x y:Int):Bool:=decide (x > y)
def ge(x y:Int):Bool:=decide (x ≥ y)
def eqi(x y:Int):Bool:=x == y
def nei(x y:Int):Bool:=x != y
def add(k:IntKind)(x y:Int):Int:=k.wrap (x+y)
def sub(k:IntKind)(x y:Int):Int:=k.wrap (x - y)
def mul(k:IntKind)(x y:Int):Int:=k.wrap (x*y)
def quo(k:IntKind)(x y:Int):Int:=k.wrap (x.tdiv y)
def rem(x y:Int):Int:=x.tmod y
def cvt(k:IntKind)(x:Int):Int:=k.wrap x
def neg(k:IntKind)(x:Int):Int:=k.wrap (-x)
def eqs(x y:List UInt8):Bool:=x == y
def nes(x y:List UInt8):Bool:=x != y
def eqb(x y:Bool):Bool:=x == y
def neb(x y:Bool):Bool:=x != y
section
variable {P:Program}{l:List Value}{w:World}{d:Option Tmp}{ty:TypeId}{pos:String}{af:Array Edge}{g:Option (Nat×Bool)}
theorem run_move{x:Operand}{v:Value}(hx:ev l x=v):(execOp (ev l) ⟨d,.move x,ty,pos,af,g⟩).run P w = .ok (.value v) w:=by simp_all[execOp]
theorem run_assign{x:Operand}{v:Value}(hx:ev l x=v):(execOp (ev l) ⟨d,.assign x,ty,pos,af,g⟩).run P w = .ok (.value v) w:=by simp_all[execOp]
theorem Tq{c x y:Operand}{v:Value}(hc:ev l c = .bool true)(hx:ev l x=v):(execOp (ev l) ⟨d,.pick c x y,ty,pos,af,g⟩).run P w = .ok (.value v) w:=by simp_all[execOp,asBool]
theorem Tt{c x y:Operand}{v:Value}(hc:ev l c = .bool false)(hy:ev l y=v):(execOp (ev l) ⟨d,.pick c x y,ty,pos,af,g⟩).run P w = .ok (.value v) w:=by simp_all[execOp,asBool]
theorem uJ{op:BinOp}{t u:TypeId}{x y:Operand}{k:IntKind}{a b:Int}{r:Bool}(hx:ev l x = .int k a)(hy:ev l y = .int k b)
  (h:(binOp op t (.int k a) (.int k b)).run P w = .ok (.bool r) w) :
  (execOp (ev l) ⟨d,.binOp op t x y u,ty,pos,af,g⟩).run P w = .ok (.value (.bool r)) w:=by
 simp_all[eqGuard,execOp]
theorem aim{t u:TypeId}{x y:Operand}{k:IntKind}{a b:Int}(hx:ev l x = .int k a)(hy:ev l y = .int k b) :
  (execOp (ev l) ⟨d,.binOp .lss t x y u,ty,pos,af,g⟩).run P w = .ok (.value (.bool (lt a b))) w:=uJ hx hy (by simp[binOp,Op.intCmp,lt])
theorem ain{t u:TypeId}{x y:Operand}{k:IntKind}{a b:Int}(hx:ev l x = .int k a)(hy:ev l y = .int k b) :
  (execOp (ev l) ⟨d,.binOp .leq t x y u,ty,pos,af,g⟩).run P w = .ok (.value (.bool (le a b))) w:=uJ hx hy (by simp[binOp,Op.intCmp,le])
theorem aio{t u:TypeId}{x y:Operand}{k:IntKind}{a b:Int}(hx:ev l x = .int k a)(hy:ev l y = .int k b) :
  (execOp (ev l) ⟨d,.binOp .gtr t x y u,ty,pos,af,g⟩).run P w = .ok (.value (.bool (gt a b))) w:=uJ hx hy (by simp[binOp,Op.intCmp,gt])
theorem aip{t u:TypeId}{x y:Operand}{k:IntKind}{a b:Int}(hx:ev l x = .int k a)(hy:ev l y = .int k b) :
  (execOp (ev l) ⟨d,.binOp .geq t x y u,ty,pos,af,g⟩).run P w = .ok (.value (.bool (ge a b))) w:=uJ hx hy (by simp[binOp,Op.intCmp,ge])
theorem agO{t u:TypeId}{x y:Operand}{k:IntKind}{a b:Int}(hx:ev l x = .int k a)(hy:ev l y = .int k b) :
  (execOp (ev l) ⟨d,.binOp .eql t x y u,ty,pos,af,g⟩).run P w = .ok (.value (.bool (eqi a b))) w:=uJ hx hy (by simp[binOp,Op.intCmp,eqi])
theorem agP{t u:TypeId}{x y:Operand}{k:IntKind}{a b:Int}(hx:ev l x = .int k a)(hy:ev l y = .int k b) :
  (execOp (ev l) ⟨d,.binOp .neq t x y u,ty,pos,af,g⟩).run P w = .ok (.value (.bool (nei a b))) w:=uJ hx hy (by simp[binOp,Op.intCmp,nei])
theorem agQ{t u:TypeId}{x y:Operand}{k:IntKind}{a b:Int}(hx:ev l x = .int k a)(hy:ev l y = .int k b) :
  (execOp (ev l) ⟨d,.binOp .add t x y u,ty,pos,af,g⟩).run P w = .ok (.value (.int k (add k a b))) w:=by simp_all[execOp,eqGuard,binOp,Op.intArith,add]
theorem agR{t u:TypeId}{x y:Operand}{k:IntKind}{a b:Int}(hx:ev l x = .int k a)(hy:ev l y = .int k b) :
  (execOp (ev l) ⟨d,.binOp .sub t x y u,ty,pos,af,g⟩).run P w = .ok (.value (.int k (sub k a b))) w:=by simp_all[execOp,eqGuard,binOp,Op.intArith,sub]
theorem agS{t u:TypeId}{x y:Operand}{k:IntKind}{a b:Int}(hx:ev l x = .int k a)(hy:ev l y = .int k b) :
  (execOp (ev l) ⟨d,.binOp .mul t x y u,ty,pos,af,g⟩).run P w = .ok (.value (.int k (mul k a b))) w:=by simp_all[execOp,eqGuard,binOp,Op.intArith,mul]
theorem agT{t u:TypeId}{x y:Operand}{k:IntKind}{a b:Int}(hx:ev l x = .int k a)(hy:ev l y = .int k b)(h0:b≠0) :
  (execOp (ev l) ⟨d,.binOp .quo t x y u,ty,pos,af,g⟩).run P w = .ok (.value (.int k (quo k a b))) w:=by simp_all[execOp,eqGuard,binOp,Op.intDiv,quo]
theorem agU{t u:TypeId}{x y:Operand}{k:IntKind}{a b:Int}(hx:ev l x = .int k a)(hy:ev l y = .int k b)(h0:b≠0) :
  (execOp (ev l) ⟨d,.binOp .rem t x y u,ty,pos,af,g⟩).run P w = .ok (.value (.int k (rem a b))) w:=by simp_all[execOp,eqGuard,binOp,Op.intDiv,rem]
theorem agV{t:TypeId}{x:Operand}{b:Bool}(hx:ev l x = .bool b) :
  (execOp (ev l) ⟨d,.unOp .not t x,ty,pos,af,g⟩).run P w = .ok (.value (.bool (!b))) w:=by simp[execOp,hx,Op.unary]
theorem agW{t:TypeId}{x:Operand}{k:IntKind}{a:Int}(hx:ev l x = .int k a) :
  (execOp (ev l) ⟨d,.unOp .neg t x,ty,pos,af,g⟩).run P w = .ok (.value (.int k (neg k a))) w:=by simp[execOp,hx,Op.unary,neg,Op.intArith]
theorem agX{t u:TypeId}{x:Operand}{k k':IntKind}{a:Int}{d0:TypeDesc}(h1:P.underlying t=some d0)(h2:P.underlying u=some (.int k'))(hx:ev l x = .int k a) :
  (execOp (ev l) ⟨d,.convert t u x,ty,pos,af,g⟩).run P w = .ok (.value (.int k' (cvt k' a))) w:=by
 simp_all[execOp,convert,run_underlying,Conv.intToInt,cvt]
theorem agY{t u:TypeId}{x y:Operand}{a b:List UInt8}(hx:ev l x = .string ⟨⟨a⟩⟩)(hy:ev l y = .string ⟨⟨b⟩⟩) :
  (execOp (ev l) ⟨d,.binOp .eql t x y u,ty,pos,af,g⟩).run P w = .ok (.value (.bool (eqs a b))) w:=by
 simp_all[execOp,eqGuard,binOp,eqs,Op.stringOp]
theorem agZ{t u:TypeId}{x y:Operand}{a b:List UInt8}(hx:ev l x = .string ⟨⟨a⟩⟩)(hy:ev l y = .string ⟨⟨b⟩⟩) :
  (execOp (ev l) ⟨d,.binOp .neq t x y u,ty,pos,af,g⟩).run P w = .ok (.value (.bool (nes a b))) w:=by
 simp_all[execOp,eqGuard,binOp,nes,Op.stringOp,bne]
def small(n:Nat):Bool:=decide (n≤1073741824)
theorem jA{n:Nat}(h:small n=true):n≤1073741824:=of_decide_eq_true h
theorem Tv{t u:TypeId}{x y:Operand}{a b:List UInt8}(hx:ev l x = .string ⟨⟨a⟩⟩)(hy:ev l y = .string ⟨⟨b⟩⟩)(hs:small (a.length+b.length)=true) :
  (execOp (ev l) ⟨d,.binOp .add t x y u,ty,pos,af,g⟩).run P w = .ok (.value (.string ⟨⟨a++b⟩⟩)) w:=by
 have h:=jA hs;have hc:¬ (((⟨⟨a⟩⟩:ByteArray).size+(⟨⟨b⟩⟩:ByteArray).size:Nat):Int) > IntKind.i64.max:=by grind[ByteArray.size,IntKind.max,IntKind.signed,IntKind.bits]
 have e:(⟨⟨a⟩⟩:ByteArray)++⟨⟨b⟩⟩=⟨⟨a++b⟩⟩:=by rfl
 simp_all[execOp,eqGuard,binOp,Op.stringOp,if_neg]
theorem run_len_slice{x:Operand}{a:Option Addr}{n c:Nat}{t e:TypeId}(ht:P.underlying t=some (.slice e))(hx:ev l x = .slice a n c) :
  (execOp (ev l) ⟨d,.call { callee:=.builtin .len,args:=#[x],argTypes:=#[t] },ty,pos,af,g⟩).run P w = .ok (.value (.int .i64 n)) w:=by
 simp_all[Builtin.len_,run_underlying,goInt,execOp,resolve,invoke,builtin]
theorem Rf{x:Operand}{s:List UInt8}{t:TypeId}(ht:P.underlying t=some .string)(hx:ev l x = .string ⟨⟨s⟩⟩) :
  (execOp (ev l) ⟨d,.call { callee:=.builtin .len,args:=#[x],argTypes:=#[t] },ty,pos,af,g⟩).run P w = .ok (.value (.int .i64 s.length)) w:=by
 have h:(Builtin.len_ #[t] ty #[.string ⟨⟨s⟩⟩]).run P w = .ok (.int .i64 s.length) w:=by have e:(⟨⟨s⟩⟩:ByteArray).size=s.length:=rfl;simp_all[Builtin.len_,List.getElem?_toArray,List.getElem?_cons_zero,Sem.run_bind,run_underlying,zJ,Sem.run_pure,goInt]
 simp_all[execOp,resolve,invoke,builtin,List.map_toArray,List.map_cons,List.map_nil,Sem.run_bind,Sem.run_pure,zJ]
theorem Rh{x:Operand}{i:Nat}{vs:Array Value}{v:Value}(hx:ev l x = .tuple vs)(hv:vs[i]? = some v) :
  (execOp (ev l) ⟨d,.extract x i,ty,pos,af,g⟩).run P w = .ok (.value v) w:=by
 simp_all[execOp,Instr.extract]
theorem LU{t:TypeId}{x i:Operand}{s:List UInt8}{k:IntKind}{j:Int}{c:UInt8}(ht:P.underlying t=some .string)
  (hx:ev l x = .string ⟨⟨s⟩⟩) (hi:ev l i = .int k j) (h0:0≤j) (hc:s[j.toNat]? = some c) :
  (execOp (ev l) ⟨d,.index t x i,ty,pos,af,g⟩).run P w = .ok (.value (.int .u8 c.toNat)) w:=by
 obtain⟨hl,hc'⟩:=List.getElem?_eq_some_iff.1 hc;have e:(⟨⟨s⟩⟩:ByteArray)[j.toNat]? = some c:=by rw[getElem?_pos (⟨⟨s⟩⟩:ByteArray) j.toNat (by simp_all[ByteArray.size])];rw[<- hc'];rfl
 simp_all[execOp,Instr.index,asIntOf,run_underlying]
def EB(P:Program)(s:TypeId)(f:Nat):Option Nat :=
 match P.underlying s with
 | some (.struct fs)=>(fs[f]?).bind fun fd=>if ((P.info? fd.type).map (·.size)).getD 0=0 then none else some fd.offset
 | _=>none
theorem nQ{s:TypeId}{x:Operand}{f:Nat}{b o off:Nat}(hf:EB P s f=some off)(hx:ev l x = .pointer (some ⟨b,o,none⟩)) :
  (execOp (ev l) ⟨d,.fieldAddr s x f,ty,pos,af,g⟩).run P w = .ok (.value (.pointer (some ⟨b,o+off,none⟩))) w:=by
 unfold EB at hf;split at hf
 ·rename_i fs hs
  rw[Option.bind_eq_some_iff]at hf;obtain⟨fd,h1,h2⟩:=hf;split at h2
  ·cases h2
  ·rename_i hne
   cases h2
   cases hi:P.info? fd.type with
   | none=>simp_all
   | some i =>
    simp_all[Addr,add,Addr.add,execOp,Instr.fieldAt,run_underlying,Instr.sureAddr,fieldPlace,Go.sizeOf,typeInfo]
 grind
def eG(P:Program)(t:TypeId):Option Nat:=(P.info? t).map (·.size)
theorem qX{t:TypeId}{n:Nat}(h:eG P t=some n):∃i,P.info? t=some i∧i.size=n:=by
 unfold eG at h
 cases hi:P.info? t with
 | none=>simp[hi]at h
 | some i=>simp[hi]at h;exact⟨i,rfl,h⟩
theorem jl{t e:TypeId}{x i:Operand}{b o n c sz:Nat}{k:IntKind}{j:Int}(ht:P.underlying t=some (.slice e))(hs:eG P e=some sz)
  (hx:ev l x = .slice (some ⟨b,o,none⟩) n c) (hi:ev l i = .int k j) (h0:0≤j) (hj:j.toNat<n) :
  (execOp (ev l) ⟨d,.indexAddr t x i,ty,pos,af,g⟩).run P w = .ok (.value (.pointer (some ⟨b,o+j.toNat*sz,none⟩))) w:=by
 obtain⟨ti,h1,rfl⟩:=qX hs;have ha:(⟨b,o,none⟩:Addr).add (j.toNat*ti.size)=⟨b,o+j.toNat*ti.size,none⟩:=by simp_all[Addr.add]
 have hj':j<(n:Int):=by omega
 simp[execOp,hx,hi,Instr.indexAt,asIntOf,run_underlying ht,Go.sizeOf,typeInfo,h1,h0,hj',ha]
def nY:TypeDesc->Bool
 | .struct _ | .array _ _=>true
 | _=>false
structure TyOk{α:Type} (P:Program) (t:TypeId) (R:Rp α):Prop where
 desc:∃dd,P.underlying t=some dd∧nY dd=R.agg
 size:eG P t=some R.size
 one:R.agg=false->R.size=1
theorem jS{t:TypeId}{dd:TypeDesc}(h:P.underlying t=some dd):(isAgg t).run P w = .ok (nY dd) w:=by simp only[isAgg,Sem.run_bind,run_underlying h,zJ];cases dd<;>rfl
theorem Addr.add_lit'(b o n:Nat):(⟨b,o,none⟩:Addr).add n=⟨b,o+n,none⟩:=by simp_all[Addr.add]
theorem run_sizeOf{t:TypeId}{n:Nat}(h:eG P t=some n):(Go.sizeOf t).run P w = .ok n w:=by obtain⟨ti,h1,h2⟩:=qX h;simp_all[Go.sizeOf,typeInfo]
end
def toS(xs:List Int):List UInt8:=xs.map fun n=>UInt8.ofNat n.toNat
end Sx
end
noncomputable section
namespace Sx
open Go Go.RowKit
section
variable {P:Program}{o:Oper}{l:List Value}{w:World}{Q:Exit->Act->World->Prop}{K:List Value->World->Prop}
def OW(P:Program)(o:Oper)(l:List Value)(w:World)(K:List Value->World->Prop)(Q:Exit->Act->World->Prop):Prop :=
 ∀r,o.wpIn (RdF r) 0 P (mk l) w (fun a w'=>∃l',a=mk l'∧K l' w') Q
theorem iG{v:Value}{w':World}(hr:(execOp (ev l) o).run P w = .ok (.value v) w')(h:K (st l o.dst v) w'):OW P o l w K Q:=by intro r;refine⟨fun _ _=>trivial,?_⟩;rw[jk,jR hr (by simp),Oper.uponIn_value,nK];grind
theorem yM{w':World}(hr:(execOp (ev l) o).run P w = .ok .skip w')(h:K (st l o.dst undef) w'):OW P o l w K Q:=by intro r;refine⟨fun _ _=>trivial,?_⟩;rw[jk,jR hr (by simp),Oper.uponIn_skip,nK];grind
theorem aaG{f:FuncId}{args:Array Value}{w':World}{R:Value->World->Prop}
  (hr:(execOp (ev l) o).run P w = .ok (.enter f args) w')
  (hc:Calls P f args w' (fun e w''=>∃v,e = .returned v∧R v w'')) (h:∀v w'',R v w''->K (st l o.dst v) w''):OW P o l w K Q:=by
 intro r;refine⟨fun _ _=>trivial,?_⟩;rw[jk,jR hr (by simp),Oper.uponIn_enter];refine⟨(fun h=>by cases h),aaE ?_⟩;refine hc.mono fun e w'' ⟨v,he,hR⟩=>?_;subst he;show ∃l',Act.put _ _ _=mk l'∧K l' w'';rw[nK];grind
theorem alT{ops:Array Oper}{rest:List Oper}(hw:wtd ops o l=true)(h:OW P o l w (WL P ops Q rest) Q):WL P ops Q (o::rest) l w:=by intro r;unfold wpListIn;unfold wtd at hw;rw[if_pos hw];refine Oper.wpIn_mono (fun a w' hk=>?_) (h r);obtain⟨l',rfl,hk⟩:=hk;exact hk r
end
def Bx(w:World)(g:Nat)(cs:List Value)(T:TypeId):Prop:=w.heap[g]? = some (.cells cs.toArray T (0,0))
theorem Bx.lt{w:World}{g:Nat}{cs:List Value}{T:TypeId}(h:Bx w g cs T):g<w.heap.size:=(Array.getElem?_eq_some_iff.1 h).1
theorem Bx.step{w w':World}{M:Lx}{g:Nat}{cs:List Value}{T:TypeId}(h:Bx w g cs T)(hf:Fz M w w')(hn:some g ∉ M):Bx w' g cs T:=by unfold Bx;rw[hf.block g h.lt hn];exact h
theorem Bx.cell{w:World}{g:Nat}{cs:List Value}{T:TypeId}(h:Bx w g cs T){j:Nat}{v:Value}(hj:cs[j]? = some v):w.cell? ⟨g,j,none⟩=some v:=by simp_all[Bx,World.cell?]
theorem Bx.alloc(w:World)(cs:List Value)(T:TypeId):Bx (w.alloc (.cells cs.toArray T)) w.heap.size cs T:=by grind[Bx,World.alloc]
section
variable {P:Program}{l:List Value}{w:World}{d:Option Tmp}{ty:TypeId}{pos:String}{af:Array Edge}{gd:Option (Nat×Bool)}
 {Q:Exit->Act->World->Prop} {K:List Value->World->Prop}
theorem rH{t:TypeId}{x:Operand}{g j:Nat}{cs:List Value}{T:TypeId}{v:Value}{dd:TypeDesc}(ht:P.underlying t=some dd)(ha:nY dd=false)
  (hx:ev l x = .pointer (some ⟨g,j,none⟩)) (hb:Bx w g cs T) (hj:cs[j]? = some v) :
  (execOp (ev l) ⟨d,.load t x,ty,pos,af,gd⟩).run P w = .ok (.value v) w:=by
 have hc:=hb.cell hj;simp_all[loadVar,Sem.run_bind,jS,zJ,load,Sem.run,execOp,Instr.loadAt,Instr.sureAddr]
theorem MQ{o:Oper}{cs:List Value}{T:TypeId}{v:Value}(hr:(execOp (ev l) o).run P w = .ok (.value v) (w.alloc (.cells cs.toArray T)))
  (h:∀w',w'.heap.size=w.heap.size+1->Fz [] w w'->Bx w' w.heap.size cs T->K (st l o.dst v) w'):OW P o l w K Q :=
 iG hr (h _ (by simp) (Fz.alloc _ _ _) (Bx.alloc _ _ _))
theorem Y0{t:TypeId}{z:Value}(hz:(P.info? t).bind (·.zero)=some z) :
  (execOp (ev l) ⟨d,.alloc t,ty,pos,af,gd⟩).run P w = .ok (.value (.pointer (some ⟨w.heap.size,0,none⟩))) (w.alloc (.cells z.cells.toList.toArray t)):=by
 cases hi:P.info? t with
 | none=>simp_all
 | some i =>
  simp_all[execOp,Instr.alloc,zeroValue,typeInfo,newVar,newRow,newObj,Sem.run]
theorem ag0{t:TypeId}{x:Operand}{v:Value}(hx:ev l x=v) :
  (execOp (ev l) ⟨d,.box t x,ty,pos,af,gd⟩).run P w = .ok (.value (.pointer (some ⟨w.heap.size,0,none⟩))) (w.alloc (.cells v.cells.toList.toArray t)):=by
 simp_all[execOp,Instr.box,newVar,newRow,newObj,Sem.run]
theorem MR{t:TypeId}{x y:Operand}{g j n:Nat}{cs vs:List Value}{T:TypeId}{v:Value}(hs:eG P t=some n)
  (hx:ev l x = .pointer (some ⟨g,j,none⟩)) (hy:ev l y=v) (hv:v.cells.toList=vs) (hl:vs.length=n) (h1:∀u∈vs,u.oneCell'=true)
  (hb:Bx w g cs T) (hj:j+n≤cs.length)
  (h:∀w',w'.heap.size=w.heap.size->Fz [some g] w w'->Bx w' g (cs.take j++vs++cs.drop (j+n)) T->K (st l d undef) w') :
  OW P ⟨d,.store t x y,ty,pos,af,gd⟩ l w K Q:=by
 have hst:=run_storeCells_at P g j T vs 0 cs.toArray w hb (by simp_all) h1;simp only[Nat.add_zero,hl]at hst;have hsz:v.cells.size=n:=by grind
 refine yM (w':=w.setRow g (cs.take j++vs++cs.drop (j+n)).toArray) ?_ (h _ ?_ ?_ ?_)
 ·simp_all[execOp,Instr.storeAt,Instr.sureAddr,storeVar,Sem.run_bind,Sem.run_pure,zJ,run_sizeOf,ne_eq,not_true_eq_false]
 ·simp
 ·exact⟨rfl,rfl,rfl,by simp,fun k hk hn=>setRow_other w g k _ (fun e=>hn (by simp[e]))⟩
 ·exact setRow_heap w g cs.toArray _ T (0,0) hb
end
end Sx
end
noncomputable section
namespace Sx
open Go Go.RowKit
def blk(a:Option Addr):Option Nat:=a.map (·.block)
theorem zy(a:Option Addr)(n c:Nat):(Go.Value.slice a n c).ownBlock=blk a:=by cases a<;>rfl
def RowsOf{α:Type}(R:Rp α)(L:Lx)(w:World):List Value->List α->Prop
 | cells,[]=>cells=[]
 | cells,x::xs=>∃c rest,cells=c++rest∧R.rel L w c x∧RowsOf R L w rest xs
section
variable {α:Type}{R:Rp α}{L L' M:Lx}{w w':World}
theorem RowsOf.len:∀{xs:List α} {cells:List Value},RowsOf R L w cells xs->cells.length=xs.length*R.size
 | [],_,h=>by cases h;simp
 | _::_,_,⟨c,rest,e,h1,h2⟩=>by subst e;rw[zU,R.len h1,RowsOf.len h2,List.length_cons,Nat.add_mul,Nat.one_mul,Nat.add_comm]
theorem RowsOf.one:∀{xs:List α} {cells:List Value},RowsOf R L w cells xs->∀v∈cells,v.oneCell'=true
 | [],_,h=>by cases h;simp
 | _::_,_,⟨c,rest,e,h1,h2⟩=>by
  subst e;intro v hv;rcases List.mem_append.1 hv with hv | hv
  ·exact R.one h1 v hv
  ·exact RowsOf.one h2 v hv
theorem RowsOf.step(hf:Fz M w w')(hM:∀k,some k∈M->some k∈L)(hs:Sub w L' L):∀{xs:List α} {cells:List Value},RowsOf R L w cells xs->RowsOf R L' w' cells xs
 | [],_,h=>h
 | _::_,_,⟨c,rest,e,h1,h2⟩=>⟨c,rest,e,R.step h1 hf hM hs,RowsOf.step hf hM hs h2⟩
theorem RowsOf.append:∀{xs ys:List α} {c d:List Value},RowsOf R L w c xs->RowsOf R L w d ys->RowsOf R L w (c++d) (xs++ys)
 | [],_,_,_,h,h'=>by cases h;exact h'
 | x::xs,_,_,_,⟨c,rest,e,h1,h2⟩,h'=>by subst e;exact⟨c,rest++_,by simp,h1,RowsOf.append h2 h'⟩
theorem RowsOf.at:∀{xs:List α} {cells:List Value} {i:Nat} {x:α},RowsOf R L w cells xs->xs[i]? = some x ->
  ∃pre c post,cells=pre++c++post∧pre.length=i*R.size∧R.rel L w c x∧∀y d,R.rel L w d y->RowsOf R L w (pre++d++post) (xs.set i y)
 | [],_,_,_,_,h=>by grind
 | x::xs,_,0,_,⟨c,rest,e,h1,h2⟩,h=>by simp at h;subst h;exact⟨[],c,rest,by simp[e],by simp,h1,fun y d hd=>⟨d,rest,by simp,hd,h2⟩⟩
 | x::xs,_,i+1,y,⟨c,rest,e,h1,h2⟩,h=>by obtain⟨pre,c',post,e2,h3,h4,h5⟩:=RowsOf.at h2 (by simpa using h);subst e e2;refine⟨c++pre,c',post,by simp,by simp[R.len h1,h3,Nat.add_mul];omega,h4,fun z d hd=>?_⟩;exact⟨c,pre++d++post,by simp,h1,h5 z d hd⟩
theorem RowsOf.replicate{x:α}{c:List Value}(h:R.rel L w c x):∀n,RowsOf R L w (zC n c).flatten (zC n x)
 | 0=>rfl
 | n+1=>⟨c,_,by rfl,h,RowsOf.replicate h n⟩
theorem Ep{b o:Nat}:∀{xs:List α} {k:Nat},(∀i x,xs[i]? = some x->El R L w b (o+(k+i)*R.size) x) ->
  ∃cells,RowsOf R L w cells xs∧∀j v,cells[j]? = some v->w.cell? ⟨b,o+k*R.size+j,none⟩=some v
 | [],k,_=>⟨[],rfl,by simp⟩
 | x::xs,k,h=>by
  obtain⟨_,_,c,h1,h2⟩:=h 0 x rfl
  obtain⟨rest,h3,h4⟩:=Ep (xs:=xs) (k:=k+1) (fun i y hi=>by
   have:=h (i+1) y (by simpa using hi)
   rwa[show k+(i+1)=k+1+i by omega]at this)
  refine⟨c++rest,⟨c,rest,rfl,h1,h3⟩,fun j v hj=>?_⟩;by_cases hlt:j<c.length
  ·rw[List.getElem?_append_left hlt]at hj
   have:=h2 j v hj;simpa using this
  ·rw[List.getElem?_append_right (by omega)]at hj
   have h5:=h4 _ v hj;rw[R.len h1]at h5 hlt;have e:o+(k+1)*R.size+(j - R.size)=o+k*R.size+j:=by rw[Nat.add_mul];omega
   rwa[e]at h5
theorem lN{a:Option Addr}{n c:Nat}{xs:List α}(h:(Rp.slice R).rel L w [.slice a n c] xs)(hne:xs ≠ []) :
  ∃b o cells,a=some ⟨b,o,none⟩∧n=xs.length∧RowsOf R L w cells xs∧∀j v,cells[j]? = some v->w.cell? ((⟨b,o,none⟩:Addr).add j)=some v:=by
 obtain⟨a',cap,e,_,h2⟩:=h;simp at e;obtain⟨rfl,rfl,rfl⟩:=e;obtain⟨b,o,ha,h3⟩:=h2 hne;obtain⟨cells,h4,h5⟩:=Ep (k:=0) (fun i x hi=>by simpa using h3 i x hi);exact⟨b,o,cells,ha,rfl,h4,fun j v hj=>by simp_all[Addr.add_lit']⟩
def Own(R:Rp α)(e:TypeId)(L:Lx)(w:World)(a:Option Addr)(c:Nat)(xs:List α):Prop :=
 ∃cells,w.ownsRow 0 e R.size (.slice a xs.length c) xs.length cells∧RowsOf R L w cells xs
theorem Own.nil(R:Rp α)(e:TypeId)(L:Lx)(w:World):Own R e L w none 0 []:=⟨[],World.ownsRow_nil w 0 e _,rfl⟩
theorem Own.step{e:TypeId}{a:Option Addr}{c:Nat}{xs:List α}(h:Own R e L w a c xs)(hf:Fz M w w')(hM:∀k,some k∈M->some k∈L)(hs:Sub w L' L)
  (hn:∀k,blk a=some k->some k ∉ M):Own R e L' w' a c xs:=by
 obtain⟨cells,h1,h2⟩:=h;refine⟨cells,⟨h1.1,?_⟩,h2.step hf hM hs⟩;rcases h1.2 with h3 | ⟨g,cap,cur,hv,hb,hg,h4⟩
 ·simp_all
 ·refine .inr ⟨g,cap,cur,hv,hb,?_,h4⟩
  simp at hv;rw[hf.block g (Array.getElem?_eq_some_iff.1 hg).1 (hn g (by rw[hv.1];rfl))];exact hg
theorem Own.addr{e:TypeId}{a:Option Addr}{c:Nat}{xs:List α}(h:Own R e L w a c xs)(hne:xs ≠ []):∃g,a=some ⟨g,0,none⟩:=by
 obtain⟨cells,h1,_⟩:=h;rcases h1.2 with ⟨_,h3⟩ | ⟨g,cap,cur,hv,_⟩
 ·simp_all
 simp_all
theorem Own.addr_cap{e:TypeId}{a:Option Addr}{c:Nat}{xs:List α}(h:Own R e L w a c xs)(hc:c≠0):∃g,a=some ⟨g,0,none⟩:=by obtain⟨cells,h1,_⟩:=h;rcases h1.2 with ⟨h3,_⟩ | ⟨g,cap,cur,hv,_⟩<;>simp_all
theorem Own.blk_lt{e:TypeId}{a:Option Addr}{c:Nat}{xs:List α}(h:Own R e L w a c xs):∀k,blk a=some k->k<w.heap.size:=by obtain⟨cells,h1,_⟩:=h;intro k hk;exact (h1.lt k (by simp_all[zy])).2
theorem Own.cap_le{e:TypeId}{a:Option Addr}{c:Nat}{xs:List α}(h:Own R e L w a c xs):xs.length≤c:=by
 obtain⟨cells,h1,_⟩:=h;rcases h1.2 with ⟨hv,hn⟩ | ⟨g,cap,cur,hv,_,_,h3,_⟩
 ·omega
 simp_all
theorem Own.freeze{e:TypeId}{a:Option Addr}{c:Nat}{xs:List α}(h:Own R e L w a c xs)(hs:Sub w L' L)(hn:∀k,blk a=some k->some k ∉ L') :
  (Rp.slice R).rel L' w [.slice a xs.length c] xs:=by
 refine⟨a,c,rfl,h.cap_le,fun hne=>?_⟩;obtain⟨g,rfl⟩:=h.addr hne;refine⟨g,0,rfl,fun i x hi=>?_⟩;obtain⟨cells,h1,h2⟩:=h;obtain⟨pre,d,post,e2,h3,h4,_⟩:=h2.at hi;refine⟨(h1.lt g rfl).2,hn g rfl,d,R.grow h4 hs,fun j v hj=>?_⟩;have:=h1.cells (g:=g) rfl (i*R.size+j) v (by grind);simp_all[Addr.add_lit',Nat.add_assoc]
end
structure TyRow{α:Type} (P:Program) (e:TypeId) (R:Rp α) (z:α):Prop where
 info:∃i zv,P.info? e=some i∧i.zero=some zv∧i.size=R.size∧i.bytes≤131072∧zv.cells.size=R.size∧∀L w,R.rel L w zv.cells.toList z
 pos:0<R.size
section
variable {P:Program}{l:List Value}{w:World}{d:Option Tmp}{ty:TypeId}{pos:String}{af:Array Edge}{gd:Option (Nat×Bool)}
 {Q:Exit->Act->World->Prop} {K:List Value->World->Prop} {α:Type} {R:Rp α} {L:Lx}
theorem pq(t ty e:TypeId)(ht:P.underlying t=some (.slice e))(hs:∃i,P.info? e=some i)(a:Option Addr)(n c c':Nat)(hc:n≤c) :
  (Builtin.append_ #[t,t] ty #[.slice a n c,.slice none 0 c']).run P w = .ok (.slice a n c) w:=by
 obtain⟨i,hi⟩:=hs;cases a<;>simp[Builtin.append_,run_underlying ht,Go.sizeOf,typeInfo,hi,Builtin.lenOf,Builtin.firstCells,storeCells,hc]
theorem Y1{s x:Operand}{t e:TypeId}{z:α}{a a2:Option Addr}{c c2 n2:Nat}{xs ys:List α}(ht:P.underlying t=some (.slice e))(hr:TyRow P e R z)
  (hs:ev l s = .slice a xs.length c) (hx:ev l x = .slice a2 n2 c2) (hown:Own R e L w a c xs) (hy:(Rp.slice R).rel L w [.slice a2 n2 c2] ys)
  (hsm:small (xs.length+ys.length)=true) (hLa:∀k,blk a=some k->some k∈L)
  (h:∀a' c' w',w.heap.size≤w'.heap.size->Fz [blk a] w w'->(∀k,blk a'=some k->blk a=some k∨(w.heap.size≤k∧k<w'.heap.size)) ->
   (∀L',Sub w L' L->Own R e L' w' a' c' (xs++ys))->K (st l d (.slice a' (xs++ys).length c')) w') :
  OW P ⟨d,.call { callee:=.builtin .append,args:=#[s,x],argTypes:=#[t,t] },ty,pos,af,gd⟩ l w K Q:=by
 obtain⟨i,zv,hi,hz,hsz,hby,hzs,hzr⟩:=hr.info;have hsm:=jA hsm;obtain⟨cells,h1,h2⟩:=hown;by_cases hne:ys=[]
 ·subst hne
  have hn2:n2=0:=by obtain⟨a',cap,e1,_⟩:=hy;simp_all
  subst hn2
  have hc:xs.length≤c:=by
   rcases h1.2 with ⟨h3,_⟩ | ⟨g,cap,cur,hv,_,_,h3,_⟩
   ·omega
   simp_all
  have hown':Own R e L w a c xs:=⟨cells,h1,h2⟩
  have hrun:(Builtin.append_ #[t,t] ty #[.slice a xs.length c,.slice a2 0 c2]).run P w = .ok (.slice a xs.length c) w:=by
   cases a2 with
   | none=>simp_all[pq]
   | some ad=>cases a<;>simp[Builtin.append_,run_underlying ht,Go.sizeOf,typeInfo,hi,Builtin.lenOf,Builtin.firstCells,loadCells,loadCellsFrom,storeCells,hc]
  refine iG (v:=.slice a xs.length c) (w':=w) ?_ ?_
  ·simp_all[execOp,resolve,invoke,builtin,Sem.run_bind,Sem.run_pure,zJ,List.map_toArray,List.map_cons,List.map_nil]
  ·have:=h a c w (Nat.le_refl _) (Fz.refl _ _) (fun k hk=>.inl hk) (fun L' hs=>by
    rw[List.append_nil]
    exact hown'.step (M:=[]) (Fz.refl _ _) (by simp) hs (by simp))
   simp_all
 ·obtain⟨b,o,news,rfl,rfl,h3,h4⟩:=lN hy hne
  obtain⟨v',w',hrun,h5,h6,h7⟩:=run_append_own (P:=P) w 0 t ty e i zv R.size i.bytes ht hi hz hsz rfl (by rw[hzs]) hr.pos (.slice a xs.length c) xs.length cells h1
   ⟨b,o,none⟩ ys.length c2 news h3.len h4 h3.one (by grind[maxLen]) (by
    have:(xs.length+ys.length)*i.bytes≤1073741824*131072:=Nat.mul_le_mul hsm hby
    omega) (Nat.zero_le _)
  have hshape:∃a' c',v' = .slice a' (xs.length+ys.length) c':=by
   rcases h5.2 with ⟨hv,hn⟩ | ⟨g,cap,cur,hv,_⟩
   ·simp_all
   simp_all
  obtain⟨a',c',rfl⟩:=hshape
  have hb:∀k,blk a'=some k->blk a=some k∨(w.heap.size≤k∧k<w'.heap.size):=by
   intro k hk;by_cases hlt:w.heap.size≤k
   ·exact .inr ⟨hlt,(h5.lt k (by simp_all[zy])).2⟩
   ·refine .inl ?_
    have hbytes:(xs.length+ys.length)*i.bytes≤140737488355328:=by have:(xs.length+ys.length)*i.bytes≤1073741824*131072:=Nat.mul_le_mul hsm hby;omega
    have hpos:0<ys.length:=List.length_pos_iff.2 hne;rcases h1.2 with ⟨hv,hn⟩ | ⟨g,cap,cur,hv,_,hg,hnc,_,hcs,_⟩
    ·simp at hv
     obtain⟨rfl,hx0,rfl⟩:=hv;rw[hx0]at hrun hbytes;simp only[List.length_nil,Nat.zero_add]at hrun hbytes;rw[run_append_nil (P:=P) w t ty e i zv ht hi hz ⟨b,o,none⟩ ys.length c2 news (by rw[hsz];exact h3.len) h4 hpos (by omega) (by omega)]at hrun;grind[Result.ok.injEq,Value.slice.injEq,blk]
    ·simp at hv
     obtain⟨rfl,rfl⟩:=hv;by_cases hroom:xs.length+ys.length≤c
     ·rw[run_append_room (P:=P) w t ty e i ht hi g xs.length c cur hg ⟨b,o,none⟩ ys.length c2 news (by rw[hsz];exact h3.len) h4 h3.one hroom (by rw[h3.len,hcs,hsz,<- Nat.add_mul];exact Nat.mul_le_mul_right _ hroom)]at hrun
      simp_all
     ·rw[run_append_grow (P:=P) w t ty e i zv ht hi hz ⟨g,0,none⟩ xs.length c cells (by rw[hsz];exact h2.len) (h1.cells (g:=g) rfl) ⟨b,o,none⟩ ys.length c2 news (by rw[hsz];exact h3.len) h4
       (by omega) (by omega) (growslice_fits (by omega) hbytes)]at hrun
      grind[Result.ok.injEq,Value.slice.injEq,blk]
  have hf:Fz [blk a] w w':=by simp_all[Fz.of_grown,zy]
  refine iG (v:=.slice a' (xs.length+ys.length) c') (w':=w') ?_ ?_
  ·simp_all[execOp,resolve,invoke,builtin,Sem.run_bind,Sem.run_pure,zJ,List.map_toArray,List.map_cons,List.map_nil]
  ·have:=h a' c' w' h6.size hf hb (fun L' hs'=>by
    refine⟨cells++news,?_,?_⟩
    ·simp_all
    ·have hM:∀k,some k ∈ [blk a]->some k∈L:=by grind
     exact (h2.step hf hM hs').append (h3.step hf hM hs'))
   simp_all
theorem mR(z:Array Value):∀m,(madeCells z (m*z.size)).toList=(zC m z.toList).flatten:=by
 intro m;by_cases h0:z.size=0
 ·simp_all[List.eq_nil_of_length_eq_zero,madeCells]
 induction m with
 | zero=>simp[madeCells]
 | succ m ih =>
  rw[List.replicate_succ',List.flatten_append,<- ih];simp only[madeCells,Array.toList_map,Array.toList_range,List.flatten_cons,List.flatten_nil,List.append_nil];rw[Nat.add_mul,Nat.one_mul,List.range_add,List.map_append,List.map_map]
  congr 1
  refine List.ext_getElem (by simp) (fun j h1 h2=>?_);have hj:j<z.size:=by omega
  simp_all[Nat.add_comm,Nat.add_mul_mod_self_right,Nat.mod_eq_of_lt,Function.comp]
theorem MS{e:TypeId}{w:World}{zv:Value}{z:α}{m n N k:Nat}{L:Lx}(hm:m=(zC n z).length)(hzs:zv.cells.size=R.size)
  (hz:R.rel L (w.alloc (.cells (madeCells zv.cells (N*k)) e)) zv.cells.toList z) (hk:k=R.size) (hn:n≤N) (hmax:N≤maxLen) :
  Own R e L (w.alloc (.cells (madeCells zv.cells (N*k)) e)) (some ⟨w.heap.size,0,none⟩) N (zC n z):=by
 subst hm hk;have hfl:=mR zv.cells N;rw[hzs]at hfl;have hrows:=RowsOf.replicate hz n;have hlen:=hrows.len;have hrowsN:=RowsOf.replicate hz N;refine⟨(zC n zv.cells.toList).flatten,⟨?_,.inr ⟨w.heap.size,N,madeCells zv.cells (N*R.size),by simp,Nat.zero_le _,?_,by simp_all,hmax,?_,?_⟩⟩,hrows⟩
 ·omega
 ·grind[World.alloc]
 ·have:=congrArg zE hfl
  rw[Array.length_toList,hrowsN.len,List.length_replicate]at this;omega
 ·rw[hfl]
  obtain⟨q,rfl⟩:=Nat.exists_eq_add_of_le hn;rw[<- List.replicate_append_replicate,List.flatten_append];simp_all
theorem Ri{t e:TypeId}{n1 n2:Operand}{z:α}{k k':IntKind}{n N:Int}(ht:P.underlying t=some (.slice e))(hr:TyRow P e R z)
  (h1:ev l n1 = .int k n) (h2:ev l n2 = .int k' N) (h0:0≤n) (hnN:n≤N) (hsm:small N.toNat=true)
  (h:∀w',w'.heap.size=w.heap.size+1->Fz [] w w'->(∀L',(∀j,some j∈L'->True)->Own R e L' w' (some ⟨w.heap.size,0,none⟩) N.toNat (zC n.toNat z)) ->
   K (st l d (.slice (some ⟨w.heap.size,0,none⟩) (zC n.toNat z).length N.toNat)) w') :
  OW P ⟨d,.makeSlice t n1 n2,ty,pos,af,gd⟩ l w K Q:=by
 obtain⟨i,zv,hi,hz,hsz,hby,hzs,hzr⟩:=hr.info;have hsm:=jA hsm;obtain⟨m,rfl⟩:=zK h0;obtain⟨M,rfl⟩:=zK (Int.le_trans h0 hnN);simp only[zM]at *;have hb:i.bytes*M≤131072*1073741824:=Nat.mul_le_mul hby hsm;have hrun:=run_make (P:=P) w t e i zv ht hi hz k k' m M (by omega) hnN (by omega) (by omega);simp only[zM]at hrun;refine iG (v:=.slice (some ⟨w.heap.size,0,none⟩) m M) (w':=w.alloc (.cells (madeCells zv.cells (M*i.size)) e)) ?_ ?_
 ·simp_all[execOp,Sem.run_bind,zJ,Sem.run_pure]
 ·have:=h _ (by simp) (Fz.alloc _ _ _) (fun L' _=>MS (by rfl) hzs (hzr L' _) hsz (by omega) (by grind[maxLen]))
  simp_all
end
end Sx
end
noncomputable section
namespace Sx
open Go Go.RowKit
section
def lQ(ops:Array Oper):List (Nat×Bool)->Array Bool->Bool
 | [],listed=>(Region.ready .any ops listed).isEmpty
 | (i,true)::σ,listed=>Region.free .any ops listed i && (Region.ready .any ops listed).contains i && decide (i<ops.size) && lQ ops σ (listed.setIfInBounds i true)
 | (i,false)::σ,listed=>(Region.ready .any ops listed == [i]) && decide (i<ops.size) && lQ ops σ (listed.setIfInBounds i true)
end
def PF(Q:Exit->Act->World->Prop):Prop:=∀c a a' w,Q (.panic c) a w->Q (.panic c) a' w
theorem PF.body{P:Program}{fn:Func}{R:Ending->World->Prop}(hd:∀c w,¬ R (.panicked c) w):PF (bodyPost P fn R):=fun _ _ _ _ h=>absurd h.2 (hd _ _)
theorem PF.then{F:Act->World->Prop}{Q:Exit->Act->World->Prop}(h:PF Q):PF (Exit.then F Q):=fun c a a' w hq=>h c a a' w hq
theorem PF.inBlock{id:Nat}{Q:Exit->Act->World->Prop}(h:PF Q):PF (Exit.inBlock id Q):=fun c a a' w hq=>h c a a' w hq
end Sx
end
noncomputable section
namespace Sx
open Go Go.RowKit
structure Stp(B:Nat->Prop) (own own' F M:Lx) (w w':World):Prop where
 hf:Fz M w w'
 hM:∀k,some k∈M->some k∈own
 hs:Sub w (own'++F) (own++F)
 hL:LOk B own' F w'
section
variable {B:Nat->Prop}{own own' F M:Lx}{w0 w w':World}{α:Type}{R:Rp α}
theorem Stp.rel(S:Stp B own own' F M w w'){cs:List Value}{x:α}(h:R.rel (own++F) w cs x):R.rel (own'++F) w' cs x :=
 R.step h S.hf (fun k hk=>List.mem_append_left _ (S.hM k hk)) S.hs
theorem Stp.el(S:Stp B own own' F M w w'){b o:Nat}{x:α}(h:El R (own++F) w b o x):El R (own'++F) w' b o x:=by
 have h1:El R ((own++F)++(own'++F)) w b o x:=h.grow (fun k hk=>by
  rcases List.mem_append.1 hk with hk | hk
  ·simp_all
  ·exact S.hs k hk)
 have h2:=h1.mono (S.hf.sub (fun k hk=>List.mem_append_left _ (List.mem_append_left _ (S.hM k hk))));exact h2.grow (fun k hk=>.inl (List.mem_append_right _ hk))
theorem Stp.box(S:Stp B own own' F M w w'){g:Nat}{cs:List Value}{T:TypeId}(h:Bx w g cs T)(hn:some g ∉ M):Bx w' g cs T:=h.step S.hf hn
theorem Stp.ownr(S:Stp B own own' F M w w'){e:TypeId}{a:Option Addr}{c:Nat}{xs:List α}(h:Own R e (own++F) w a c xs)(hn:∀k,blk a=some k->some k ∉ M):Own R e (own'++F) w' a c xs :=
 h.step S.hf (fun k hk=>List.mem_append_left _ (S.hM k hk)) S.hs hn
theorem Stp.below(S:Stp B own own' F M w w')(hL:LOk B own F w)(h:Blw B w0 w):Blw B w0 w' :=
 h.trans ⟨S.hf.os,S.hf.tape,S.hf.output,S.hf.size,fun k hk hn=>S.hf.block k hk (fun hm=>hn (hL.lo k (S.hM k hm)))⟩
theorem Stp.call(hL:LOk B own F w)(h:Fz [] w w'):Stp B own own F [] w w':=⟨h,by simp,Sub.refl _ _,hL.step h.size⟩
theorem Stp.refl(hL:LOk B own F w):Stp B own own F [] w w:=Stp.call hL (Fz.refl _ _)
theorem Stp.new{g:Nat}(hL:LOk B own F w)(h:Fz [] w w')(hg:g=w.heap.size)(hg':w'.heap.size=g+1):Stp B own (some g::own) F [] w w' :=
 ⟨h,by simp,(Sub.refl w (own++F)).push (Nat.le_of_eq hg.symm),hL.push (Nat.le_of_eq hg.symm) (by omega) h.size⟩
theorem Stp.newrow{a:Option Addr}{g:Nat}(hL:LOk B own F w)(h:Fz [] w w')(hb:blk a=some g)(hg:w.heap.size≤g)(hg':g<w'.heap.size):Stp B own (blk a::own) F [] w w':=by rw[hb];exact⟨h,by simp,(Sub.refl w (own++F)).push hg,hL.push hg hg' h.size⟩
theorem Stp.row{a:Option Addr}(hL:LOk B own F w)(h:Fz [] w w')(hb:∀k,blk a=some k->w.heap.size≤k∧k<w'.heap.size):Stp B own (blk a::own) F [] w w':=by
 cases hk:blk a with
 | some g=>have:=hb g hk;exact⟨h,by simp,(Sub.refl w (own++F)).push this.1,hL.push this.1 this.2 h.size⟩
 | none=>exact⟨h,by simp,fun k hk=>by simp_all,(hL.step h.size).push_none rfl⟩
theorem Stp.store{x:Option Nat}(hL:LOk B own F w)(hx:x∈own)(h:Fz [x] w w'):Stp B own own F [x] w w' :=
 ⟨h,fun k hk=>by simp_all,Sub.refl _ _,hL.step h.size⟩
theorem Stp.turn{pre post:Lx}{x x':Option Nat}(hL:LOk B (pre++x::post) F w)(h:Fz [x] w w')(hx:∀k,x'=some k->x=some k∨(w.heap.size≤k∧k<w'.heap.size)) :
  Stp B (pre++x::post) (pre++x'::post) F [x] w w' :=
 ⟨h,fun k hk=>by simp_all,fun k hk=>by grind,hL.turn h.size hx⟩
theorem Stp.drop(hL:LOk B own F w)(hs:own'.Sublist own):Stp B own own' F [] w w :=
 ⟨Fz.refl _ _,by simp,Sub.of_subset (fun _ hk=>(hs.append (List.Sublist.refl F)).subset hk),hL.drop hs⟩
theorem LOk.lt(h:LOk B own F w):∀k,some k∈own++F->k<w.heap.size:=fun k hk=>by
 rcases List.mem_append.1 hk with hk | hk
 ·exact h.hi k hk
 ·exact (h.far k hk).2
theorem LOk.apart(h:LOk B own F w){x y:Option Nat}(i j:Nat)(hi:own[i]? = some x)(hj:own[j]? = some y)(hij:i≠j):∀k,x=some k->some k ∉ [y]:=fun k hx hm=>by simp at hm;exact h.ne i j hi hj hij hx hm.symm
theorem LOk.gone{pre post:Lx}{x:Option Nat}(h:LOk B (pre++x::post) F w):∀k,x=some k->some k ∉ (pre++post)++F:=fun k hx hm=>by
 subst hx;rcases List.mem_append.1 hm with hm | hm
 ·have hp:=h.pair
  grind
 ·exact (h.far k hm).1 (h.lo k (by simp))
theorem u7(w:World)(pre post F:Lx)(x:Option Nat):Sub w ((pre++post)++F) ((pre++x::post)++F):=Sub.of_subset (fun y hy=>by grind)
end
section
variable {P:Program}{l:List Value}{w:World}{d:Option Tmp}{ty:TypeId}{pos:String}{af:Array Edge}{gd:Option (Nat×Bool)}{α:Type}{R:Rp α}{L M:Lx}
theorem jr{t:TypeId}{x:Operand}{a:Addr}{v:Value}(hx:ev l x = .pointer (some a))(h:(loadVar t a).run P w = .ok v w) :
  (execOp (ev l) ⟨d,.load t x,ty,pos,af,gd⟩).run P w = .ok (.value v) w:=by
 simp[execOp,hx,Instr.loadAt,Instr.sureAddr,h]
theorem El.load{t:TypeId}{b o:Nat}{x:α}(ht:TyOk P t R)(he:El R L w b o x) :
  ∃cs,R.rel L w cs x∧∀w' M,Fz M w w'->(∀k,some k∈M->some k∈L)->(loadVar t ⟨b,o,none⟩).run P w' = .ok (R.val cs) w':=by
 obtain⟨h1,h2,cs,h3,h4⟩:=he;refine⟨cs,h3,fun w' M hf hM=>?_⟩;have h5:∀j v,cs[j]? = some v->w'.cell? ⟨b,o+j,none⟩=some v:=fun j v hj=>by rw[hf.cell h1 (fun hm=>h2 (hM b hm))];simp_all
 obtain⟨dd,hd,ha⟩:=ht.desc;have hl:=R.len h3;unfold loadVar;rw[Sem.run_bind,jS hd,zJ,ha]
 cases hA:R.agg with
 | true =>
  have hc:=run_loadCells_list (P:=P) (w:=w') ⟨b,o,none⟩ cs (fun j v hj=>by simp_all[Addr.add_lit']);rw[hl]at hc;simp only[if_true,Sem.run_bind,run_sizeOf ht.size,zJ,hc,Rp.val,hA,Sem.run_pure]
 | false =>
  have:=ht.one hA;rw[this]at hl;obtain⟨v,rfl⟩:=List.length_eq_one_iff.1 hl;have:=h5 0 v rfl;simp_all[Nat.add_zero,Go.load,Sem.run,Rp.val]
theorem EC{a:Option Addr}{n c:Nat}{xs:List α}{i:Nat}{x:α}(h:(Rp.slice R).rel L w [.slice a n c] xs)(hi:xs[i]? = some x) :
  ∃b o,a=some ⟨b,o,none⟩∧El R L w b (o+i*R.size) x:=by
 obtain⟨a',cap,e,_,h2⟩:=h;simp at e;obtain⟨rfl,_,_⟩:=e;obtain⟨b,o,ha,h3⟩:=h2 (by grind);grind
theorem yN{t e:TypeId}{x i:Operand}{a:Option Addr}{b o n c sz:Nat}{k:IntKind}{j:Int}(ht:P.underlying t=some (.slice e))(hs:eG P e=some sz)
  (hx:ev l x = .slice a n c) (ha:a=some ⟨b,o,none⟩) (hi:ev l i = .int k j) (h0:0≤j) (hj:j.toNat<n) :
  (execOp (ev l) ⟨d,.indexAddr t x i,ty,pos,af,gd⟩).run P w = .ok (.value (.pointer (some ⟨b,o+j.toNat*sz,none⟩))) w:=by
 grind[jl]
end
def at? {α:Type}(xs:List α)(j:Int):Option α:=if 0≤j then xs[j.toNat]? else none
theorem gY{α:Type}{xs:List α}{j:Int}{x:α}(h:at? xs j=some x):0≤j∧xs[j.toNat]? = some x∧j.toNat<xs.length:=by grind[at?,zR]
theorem bK{α β:Type}{x:Option α}{f:α->Option β}{r:β}(h:x.bind f=some r):∃y,x=some y∧f y=some r:=Option.bind_eq_some_iff.1 h
def need(b:Bool){β:Type}(k:Option β):Option β:=if b then k else none
theorem bS{b:Bool}{β:Type}{k:Option β}{r:β}(h:need b k=some r):b=true∧k=some r:=by simp_all[need]
def cut{α:Type}(xs:List α)(i j:Int):Option (List α):=if 0≤i∧i≤j∧j≤(xs.length:Int) then some ((xs.take j.toNat).drop i.toNat) else none
end Sx
namespace Sx
open Go Go.RowKit
section
variable {P:Program}{l:List Value}{w:World}{d:Option Tmp}{ty:TypeId}{pos:String}{af:Array Edge}{gd:Option (Nat×Bool)}
 {Q:Exit->Act->World->Prop} {K:List Value->World->Prop} {α:Type} {R:Rp α} {L M:Lx}
theorem ED{L:Lx}:∀k,some k∈([]:Lx)->some k∈L:=fun k h=>by cases h
theorem H9{k:Nat}:some k ∉ ([]:Lx):=fun h=>by cases h
theorem aaH{a:Option Addr}:∀k,blk a=some k->some k ∉ ([]:Lx):=fun k _ h=>by cases h
def Ow(R:Rp α)(e:TypeId)(L:Lx)(w:World)(a:Option Addr)(n c:Nat)(xs:List α):Prop:=n=xs.length∧Own R e L w a c xs
theorem Ow.nil(R:Rp α)(e:TypeId)(L:Lx)(w:World):Ow R e L w none 0 0 []:=⟨rfl,Own.nil R e L w⟩
theorem Ow.len{e:TypeId}{a:Option Addr}{n c:Nat}{xs:List α}(h:Ow R e L w a n c xs):n=xs.length:=h.1
theorem Ow.freeze{e:TypeId}{L':Lx}{a:Option Addr}{n c:Nat}{xs:List α}(h:Ow R e L w a n c xs)(hs:Sub w L' L)(hn:∀k,blk a=some k->some k ∉ L') :
  (Rp.slice R).rel L' w [.slice a n c] xs:=by
 obtain⟨rfl,h⟩:=h;exact h.freeze hs hn
theorem Ow.addr{e:TypeId}{a:Option Addr}{n c:Nat}{xs:List α}{i:Nat}(h:Ow R e L w a n c xs)(hi:i<xs.length):∃g,a=some ⟨g,0,none⟩ :=
 h.2.addr (by grind)
theorem Ow.grow{e:TypeId}{L':Lx}{a:Option Addr}{n c:Nat}{xs:List α}(h:Ow R e L w a n c xs)(hs:Sub w L' L):Ow R e L' w a n c xs :=
 ⟨h.1,h.2.step (M:=[]) (Fz.refl _ _) ED hs aaH⟩
theorem Stp.ow{B:Nat->Prop}{own own' F:Lx}{w':World}(S:Stp B own own' F M w w'){e:TypeId}{a:Option Addr}{n c:Nat}{xs:List α}(h:Ow R e (own++F) w a n c xs)
  (hn:∀k,blk a=some k->some k ∉ M):Ow R e (own'++F) w' a n c xs:=⟨h.1,S.ownr h.2 hn⟩
theorem jV{x:Operand}{a:Option Addr}{n c N:Nat}{t e:TypeId}(ht:P.underlying t=some (.slice e))(hx:ev l x = .slice a n c)(hn:n=N) :
  (execOp (ev l) ⟨d,.call { callee:=.builtin .len,args:=#[x],argTypes:=#[t] },ty,pos,af,gd⟩).run P w = .ok (.value (.int .i64 N)) w:=by
 grind[run_len_slice]
theorem pz{B:Nat->Prop}{pre post F:Lx}{s x:Operand}{t e:TypeId}{z:α}{a a2:Option Addr}{n c c2 n2:Nat}{xs ys:List α}(ht:P.underlying t=some (.slice e))(hr:TyRow P e R z)
  (hs:ev l s = .slice a n c) (hx:ev l x = .slice a2 n2 c2) (hL:LOk B (pre++blk a::post) F w) (hown:Ow R e ((pre++blk a::post)++F) w a n c xs)
  (hy:(Rp.slice R).rel ((pre++blk a::post)++F) w [.slice a2 n2 c2] ys) (hsm:small (xs.length+ys.length)=true)
  (h:∀a' n' c' w',Stp B (pre++blk a::post) (pre++blk a'::post) F [blk a] w w'->Ow R e ((pre++blk a'::post)++F) w' a' n' c' (xs++ys)->K (st l d (.slice a' n' c')) w') :
  OW P ⟨d,.call { callee:=.builtin .append,args:=#[s,x],argTypes:=#[t,t] },ty,pos,af,gd⟩ l w K Q:=by
 obtain⟨rfl,hown⟩:=hown;refine Y1 ht hr hs hx hown hy hsm (fun k hk=>by simp_all) (fun a' c' w' hsz hf hb ho=>?_);have S:=Stp.turn hL hf hb;exact h a' _ c' w' S ⟨rfl,ho _ S.hs⟩
theorem MU{B:Nat->Prop}{own F:Lx}{t e:TypeId}{n1 n2:Operand}{z:α}{k k':IntKind}{n N:Int}(ht:P.underlying t=some (.slice e))(hr:TyRow P e R z)
  (h1:ev l n1 = .int k n) (h2:ev l n2 = .int k' N) (hL:LOk B own F w) (h0:0≤n) (hnN:n≤N) (hsm:small N.toNat=true)
  (h:∀a n' c w',Stp B own (blk a::own) F [] w w'->Ow R e ((blk a::own)++F) w' a n' c (zC n.toNat z)->K (st l d (.slice a n' c)) w') :
  OW P ⟨d,.makeSlice t n1 n2,ty,pos,af,gd⟩ l w K Q:=by
 refine Ri ht hr h1 h2 h0 hnN hsm (fun w' hsz hf ho=>?_);have S:Stp B own (blk (some ⟨w.heap.size,0,none⟩)::own) F [] w w':=Stp.newrow hL hf rfl (Nat.le_refl _) (by simp_all);exact h _ _ _ w' S ⟨rfl,ho _ (fun _ _=>trivial)⟩
theorem uK{B:Nat->Prop}{own F:Lx}{t:TypeId}{x:Operand}{v:Value}{vs:List Value}(hx:ev l x=v)(hv:v.cells.toList=vs)(hL:LOk B own F w)
  (h:∀g w',Stp B own (some g::own) F [] w w'->Bx w' g vs t->K (st l d (.pointer (some ⟨g,0,none⟩))) w') :
  OW P ⟨d,.box t x,ty,pos,af,gd⟩ l w K Q:=by
 subst hv;exact MQ (ag0 hx) (fun w' hsz hf hb=>h _ w' (Stp.new hL hf rfl hsz) hb)
theorem qY{B:Nat->Prop}{own F:Lx}{t:TypeId}{z:Value}{vs:List Value}(hz:(P.info? t).bind (·.zero)=some z)(hv:z.cells.toList=vs)(hL:LOk B own F w)
  (h:∀g w',Stp B own (some g::own) F [] w w'->Bx w' g vs t->K (st l d (.pointer (some ⟨g,0,none⟩))) w') :
  OW P ⟨d,.alloc t,ty,pos,af,gd⟩ l w K Q:=by
 subst hv;exact MQ (Y0 hz) (fun w' hsz hf hb=>h _ w' (Stp.new hL hf rfl hsz) hb)
theorem Y2{B:Nat->Prop}{own F:Lx}{o:Oper}{t e:TypeId}{len:Nat}{cells:List Value}{xs:List α}{ro:Array (Nat×Operand)}(ho:o.op = .buildSlice t len ro)(hL:LOk B own F w)
  (hr:(execOp (ev l) o).run P w = .ok (.value (.slice (some ⟨w.heap.size,0,none⟩) len len)) (w.alloc (.cells cells.toArray e)))
  (hrow:RowsOf R (own++F) w cells xs) (hlen:xs.length=len) (hsz:len≤1073741824)
  (h:∀a n c w',Stp B own (blk a::own) F [] w w'->Ow R e ((blk a::own)++F) w' a n c xs->K (st l o.dst (.slice a n c)) w') :
  OW P o l w K Q:=by
 subst hlen;refine MQ hr (fun w' hs hf hb=>?_);have S:Stp B own (blk (some ⟨w.heap.size,0,none⟩)::own) F [] w w':=Stp.newrow hL hf rfl (Nat.le_refl _) (by simp_all);have hrow':=hrow.step S.hf (L':=(blk (some ⟨w.heap.size,0,none⟩)::own)++F) ED S.hs;refine h _ _ _ w' S ⟨rfl,cells,⟨hrow'.len,.inr ⟨w.heap.size,xs.length,cells.toArray,rfl,Nat.zero_le _,hb,Nat.le_refl _,by grind[maxLen],?_,?_⟩⟩,hrow'⟩
 ·simpa using hrow'.len
 ·rw[<- hrow'.len]
  simp
theorem LV{B:Nat->Prop}{own F:Lx}{t:TypeId}{x y:Operand}{g j n:Nat}{cs vs cs':List Value}{T:TypeId}{v:Value}(hs:eG P t=some n)
  (hx:ev l x = .pointer (some ⟨g,j,none⟩)) (hy:ev l y=v) (hv:v.cells.toList=vs) (hl:vs.length=n) (h1:vs.all Value.oneCell'=true)
  (hL:LOk B own F w) (hb:Bx w g cs T) (hj:decide (j+n≤cs.length)=true) (hm:some g∈own) (hc:cs.take j++vs++cs.drop (j+n)=cs')
  (h:∀w',Stp B own own F [some g] w w'->Bx w' g cs' T->K (st l d undef) w') :
  OW P ⟨d,.store t x y,ty,pos,af,gd⟩ l w K Q:=by
 subst hc;exact MR hs hx hy hv hl (List.all_eq_true.1 h1) hb (of_decide_eq_true hj) (fun w' _ hf hb'=>h w' (Stp.store hL hm hf) hb')
theorem LOk.pick{B:Nat->Prop}{own own' F:Lx}(h:LOk B own F w)(is:List Nat)(hi:is.map (own[·]?)=own'.map some)(hn:is.Nodup):LOk B own' F w:=by
 have hmem:∀x∈own',x∈own:=fun x hx=>by grind[List.mem_map_of_mem,zT]
 refine⟨?_,fun k hk=>h.lo k (hmem _ hk),fun k hk=>h.hi k (hmem _ hk),h.base,h.far⟩;have hlen:is.length=own'.length:=by simpa using congrArg zE hi
 have hat:∀i (h1:i<is.length) (h2:i<own'.length),own[is[i]]? = some own'[i]:=fun i h1 h2=>by have:=congrArg (·[i]?) hi;grind
 rw[List.pairwise_iff_getElem];intro i j hi' hj' hij k hk hk';have hne:is[i]'(by omega)≠is[j]'(by omega):=fun e=>by grind[List.pairwise_iff_getElem]
 exact h.ne _ _ (hat i (by omega) hi') (hat j (by omega) hj') hne hk hk'
theorem Stp.pick{B:Nat->Prop}{own own' F:Lx}(hL:LOk B own F w)(is:List Nat)(hi:is.map (own[·]?)=own'.map some)(hn:decide is.Nodup=true):Stp B own own' F [] w w:=by refine⟨Fz.refl _ _,ED,Sub.of_subset (fun x hx=>?_),hL.pick is hi (of_decide_eq_true hn)⟩;grind[List.mem_map_of_mem,List.mem_append_left,zT,List.mem_append_right]
end
end Sx
namespace Sx
open Go Go.RowKit
section
variable {α:Type}{R:Rp α}{L:Lx}{w:World}
theorem Tw{cs:List Value}{xs:List α}(h:(Rp.slice R).rel L w cs xs):∃a c,cs=[.slice a xs.length c]∧(Rp.slice R).rel L w [.slice a xs.length c] xs:=by have h0:=h;obtain⟨a,cap,e,_⟩:=h;grind
theorem wY{a:Option Addr}{n c:Nat}{xs:List α}(h:(Rp.slice R).rel L w [.slice a n c] xs):n=xs.length:=by obtain⟨_,_,e,_⟩:=h;simp_all
end
end Sx
namespace Sx
open Go Go.RowKit
section
variable {α:Type}{R:Rp α}{L:Lx}{w:World}{B:Nat->Prop}{own own' F:Lx}
theorem LOk.out(h:LOk B own F w)(i:Nat){x:Option Nat}(hx:own[i]? = some x)(is:List Nat)(hi:is.map (own[·]?)=own'.map some)(hn:is.contains i=false) :
  ∀k,x=some k->some k ∉ own'++F:=fun k hk hm=>by
 rcases List.mem_append.1 hm with hm | hm
 ·have:some (some k)∈is.map (own[·]?):=by simp_all
  obtain⟨j,hj,hj2⟩:=List.mem_map.1 this;have hne:i≠j:=fun e=>by simp_all
  exact h.ne i j hx hj2 hne hk rfl
 ·exact (h.far k hm).1 (h.lo k (by grind))
theorem LOk.fresh(h:LOk B own F w)(i:Nat){x:Option Nat}(hx:own[i]? = some x):∀k,x=some k->B k∧k<w.heap.size:=fun k hk=>by
 have hm:some k∈own:=by grind
 exact⟨h.lo k hm,h.hi k hm⟩
theorem aiq{e:TypeId}{L':Lx}{a:Option Addr}{n c i:Nat}{xs:List α}{x:α}(h:Ow R e L w a n c xs)(hs:Sub w L' L)(hn:∀k,blk a=some k->some k ∉ L')(hi:xs[i]? = some x) :
  ∃g,a=some ⟨g,0,none⟩∧El R L' w g (0+i*R.size) x:=by
 have hf:=h.freeze hs hn;obtain⟨b,o,ha,he⟩:=EC hf hi;obtain⟨g,hg⟩:=h.addr (List.getElem?_eq_some_iff.1 hi).1;simp_all
theorem Stp.none{own:Lx}(hL:LOk B own F w){a:Option Addr}(ha:blk a=Option.none):Stp B own (blk a::own) F [] w w :=
 Stp.row hL (Fz.refl _ _) (fun k hk=>by simp_all)
end
end Sx
end
noncomputable section
namespace Sx
open Go Go.RowKit
theorem aaI{P:Program}{l:List Value}{w:World}{t:Tmp}{v:Value}(h:l.getD t undef=v):resv P l w (.tmp t) v:=h
theorem wZ{P:Program}{l:List Value}{w:World}{a:Tmp}{t:TypeId}{ad:Addr}{v:Value}(h:l.getD a undef = .pointer (some ad))(h2:(loadVar t ad).run P w = .ok v w):resv P l w (.cell a t) v:=⟨ad,h,h2⟩
section
variable {P:Program}{l:List Value}{w:World}{d:Option Tmp}{ty:TypeId}{pos:String}{af:Array Edge}{g:Option (Nat×Bool)}
theorem MV{t:TypeId}{a b:Bool}(n:Nat)(ht:P.underlying t=some .bool):(Op.equalIn (n+1) t (.bool a) (.bool b)).run P w = .ok (a == b) w:=by simp only[Op.equalIn,Sem.run_bind,run_underlying ht,zJ,Sem.run_pure]
theorem Gc{t:TypeId}{a b:Bool}(ht:P.underlying t=some .bool):(Op.equal t (.bool a) (.bool b)).run P w = .ok (a == b) w:=MV 9999 ht
theorem ag1{t u:TypeId}{x y:Operand}{a b:Bool}(ht:P.underlying t=some .bool)(hx:ev l x = .bool a)(hy:ev l y = .bool b) :
  (execOp (ev l) ⟨d,.binOp .eql t x y u,ty,pos,af,g⟩).run P w = .ok (.value (.bool (eqb a b))) w:=by
 have h:(binOp .eql t (.bool a) (.bool b)).run P w = .ok (.bool (eqb a b)) w:=by simp only[binOp,Sem.run_bind,Gc ht,zJ,Sem.run_pure,eqb]
 have he:(eqGuard .eql t x y (.bool a) (.bool b)).run P w = .ok () w:=rfl;simp only[execOp,hx,hy,Sem.run_bind,he,h,zJ,Sem.run_pure]
theorem ag2{t u:TypeId}{x y:Operand}{a b:Bool}(ht:P.underlying t=some .bool)(hx:ev l x = .bool a)(hy:ev l y = .bool b) :
  (execOp (ev l) ⟨d,.binOp .neq t x y u,ty,pos,af,g⟩).run P w = .ok (.value (.bool (neb a b))) w:=by
 have h:(binOp .neq t (.bool a) (.bool b)).run P w = .ok (.bool (neb a b)) w:=by simp only[binOp,Sem.run_bind,Gc ht,zJ,Sem.run_pure,neb,bne]
 have he:(eqGuard .neq t x y (.bool a) (.bool b)).run P w = .ok () w:=rfl;simp only[execOp,hx,hy,Sem.run_bind,he,h,zJ,Sem.run_pure]
theorem nZ{α:Type}{xs ys:List α}{i j:Int}(h:cut xs i j=some ys):0≤i∧i≤j∧j≤(xs.length:Int)∧ys=(xs.take j.toNat).drop i.toNat:=by
 unfold cut at h;split at h
 ·rename_i h0;cases h;exact⟨h0.1,h0.2.1,h0.2.2,rfl⟩
 ·cases h
theorem qR(s:List UInt8)(i j:Nat):(⟨⟨s⟩⟩:ByteArray).extract i j=⟨⟨(s.take j).drop i⟩⟩:=by apply ByteArray.ext;simp[List.drop_take]
theorem EE{t:TypeId}{x lo hi:Operand}{s y:List UInt8}{k k':IntKind}{i j:Int}(ht:P.underlying t=some .string)(hx:ev l x = .string ⟨⟨s⟩⟩)(hlo:ev l lo = .int k i)(hhi:ev l hi = .int k' j)(h:cut s i j=some y) :
  (execOp (ev l) ⟨d,.slice t x (some lo) (some hi) none,ty,pos,af,g⟩).run P w = .ok (.value (.string ⟨⟨y⟩⟩)) w:=by
 obtain⟨h0,h1,h2,rfl⟩:=nZ h;have e:(⟨⟨s⟩⟩:ByteArray).size=s.length:=rfl;simp[execOp,Instr.sliceAt,hx,hlo,hhi,run_underlying ht,Instr.slice,Instr.sliceBounds,Instr.sliceBound,asIntOf,e,h0,h1,h2,Int.le_trans h0 h1,qR];omega
theorem Gd{t:TypeId}{x lo:Operand}{s y:List UInt8}{k:IntKind}{i:Int}(ht:P.underlying t=some .string)(hx:ev l x = .string ⟨⟨s⟩⟩)(hlo:ev l lo = .int k i)(h:cut s i s.length=some y) :
  (execOp (ev l) ⟨d,.slice t x (some lo) none none,ty,pos,af,g⟩).run P w = .ok (.value (.string ⟨⟨y⟩⟩)) w:=by
 obtain⟨h0,h1,h2,rfl⟩:=nZ h;have e:(⟨⟨s⟩⟩:ByteArray).size=s.length:=rfl;simp_all[execOp,Instr.sliceAt,run_underlying,Instr.slice,Instr.sliceBounds,Instr.sliceBound,asIntOf,qR]
theorem Gf{t:TypeId}{x hi:Operand}{s y:List UInt8}{k:IntKind}{j:Int}(ht:P.underlying t=some .string)(hx:ev l x = .string ⟨⟨s⟩⟩)(hhi:ev l hi = .int k j)(h:cut s 0 j=some y) :
  (execOp (ev l) ⟨d,.slice t x none (some hi) none,ty,pos,af,g⟩).run P w = .ok (.value (.string ⟨⟨y⟩⟩)) w:=by
 obtain⟨h0,h1,h2,rfl⟩:=nZ h;have e:(⟨⟨s⟩⟩:ByteArray).size=s.length:=rfl;simp_all[execOp,Instr.sliceAt,run_underlying,Instr.slice,Instr.sliceBounds,Instr.sliceBound,asIntOf,qR]
end
theorem TyRow.of{α:Type}{P:Program}{e:TypeId}{R:Rp α}{z:α}(zv:Value)(zc:List Value)(h1:(P.info? e).bind (·.zero)=some zv)(h2:eG P e=some R.size)
  (h3:(P.info? e).any (fun i=>decide (i.bytes≤131072))=true) (h4:zv.cells.toList=zc) (hz:∀L w,R.rel L w zc z) (pos:0<R.size):TyRow P e R z:=by
 obtain⟨i,hi,hs⟩:=qX h2;simp only[hi,Option.bind_some]at h1;simp only[hi,Option.any_some,decide_eq_true_eq]at h3;refine⟨⟨i,zv,hi,h1,hs,h3,?_,fun L w=>by simp_all⟩,pos⟩;rw[<- Array.length_toList,h4];exact R.len (hz [] default)
end Sx
end
noncomputable section
namespace Sx
open Go Go.RowKit Go.MapKept
structure Kp(P:Program) (kt:TypeId) {K:Type} (kv:K->Value) where
 inj:∀a b,kv a=kv b->a=b
 chk:∀(w:World) (e:Bool) (k:K),(Instr.checkKey e 10000 kt (kv k)).run P w = .ok () w
 fnd:∀(w:World) (k:K) (es:List MapEntry),(∀x∈es,∃a,x.key=kv a)->((Instr.findKey kt (kv k) es).run P w = .ok none w∧∀x∈es,x.key≠kv k)∨∃j e,(Instr.findKey kt (kv k) es).run P w = .ok (some (j,e.val)) w∧es[j]? = some e∧e.key=kv k
 sty:∀(w:World) (k:K),(Instr.keyThatStays (kv k) (kv k)).run P w = .ok (kv k) w
theorem Kp.of{P:Program}{kt:TypeId}{K:Type}{kv:K->Value}(d:TypeDesc)(hd:P.underlying kt=some d)(ok:∀k,IsKey d (kv k))(inj:∀a b,kv a=kv b->a=b):Kp P kt kv :=
 ⟨inj,fun w e k=>run_checkKey hd (ok k) e 9999,fun w k es h=>by
  rcases findNow_spec (ok k) es 0 (fun x hx=>by grind) with ⟨q1,q2⟩ | ⟨j,e,q1,q2,q3⟩
  ·simp_all[run_findKey]
  ·exact .inr ⟨j,e,by rw[run_findKey hd q1,Nat.zero_add],q2,q3⟩,fun w k=>run_keyThatStays (ok k)⟩
theorem Kp.int{P:Program}{kt:TypeId}{k:IntKind}(h:P.underlying kt=some (.int k)):Kp P kt (fun x:Int=>.int k x) :=
 .of (.int k) h (fun _=>rfl) (fun a b e=>by simp_all)
def xS(b:List UInt8):Value:=.string ⟨⟨b⟩⟩
theorem Kp.str{P:Program}{kt:TypeId}(h:P.underlying kt=some .string):Kp P kt xS :=
 .of .string h (fun _=>trivial) (fun a b e=>by simp_all[xS])
section
variable {K V:Type}[DecidableEq K]
def iL:List (K×V)->K->Option V
 | [],_=>none
 | (a,b)::r,k=>if a=k then some b else iL r k
def vg:List (K×V)->K->V->List (K×V)
 | [],k,v=>[(k,v)]
 | (a,b)::r,k,v=>if a=k then (a,v)::r else (a,b)::vg r k v
def vk:List (K×V)->K->List (K×V)
 | [],_=>[]
 | (a,b)::r,k=>if a=k then r else (a,b)::vk r k
end
def MapIs{K V:Type}(kv:K->Value)(vv:V->Value)(w:World)(g:Nat)(xs:List (K×V)):Prop :=
 ∃es clock,w.heap[g]? = some (.map es clock)∧es.toList.map (fun e=>(e.key,e.val))=xs.map (fun x=>(kv x.1,vv x.2))∧Stamped es clock
section
variable {K V:Type}{kv:K->Value}{vv:V->Value}{w w':World}{g:Nat}{xs:List (K×V)}
theorem MapIs.lt(h:MapIs kv vv w g xs):g<w.heap.size:=by obtain⟨_,_,h,_⟩:=h;grind
theorem MapIs.step{M:Lx}(h:MapIs kv vv w g xs)(hf:Fz M w w')(hn:some g ∉ M):MapIs kv vv w' g xs:=by have hlt:=h.lt;obtain⟨es,c,h1,h2⟩:=h;refine⟨es,c,?_,h2⟩;rw[hf.block g hlt hn];exact h1
theorem MapIs.len(h:MapIs kv vv w g xs):∃es clock,w.heap[g]? = some (.map es clock)∧es.size=xs.length:=by obtain⟨es,c,h1,h2,_⟩:=h;refine⟨es,c,h1,?_⟩;have:=congrArg zE h2;grind
theorem MW[DecidableEq K](inj:∀a b,kv a=kv b->a=b)(k:K):∀(l:List MapEntry) (xs:List (K×V)),l.map (fun e=>(e.key,e.val))=xs.map (fun x=>(kv x.1,vv x.2)) ->
  ((∀x∈l,x.key≠kv k)->iL xs k=none)∧(∀(j:Nat) (e:MapEntry),l[j]? = some e->e.key=kv k->(∀(i:Nat) (e':MapEntry),i<j->l[i]? = some e'->e'.key≠kv k)->∃v,iL xs k=some v∧e.val=vv v)
 | [],[],_=>⟨fun _=>rfl,fun j e h=>by grind⟩
 | [],_::_,h=>by grind
 | _::_,[],h=>by grind
 | e::l,(a,b)::xs,h=>by
  simp only[List.map_cons,List.cons.injEq,Prod.mk.injEq]at h;obtain⟨⟨hk,hv⟩,h⟩:=h;obtain⟨i1,i2⟩:=MW inj k l xs h;refine⟨fun hn=>?_,fun j e' hj hek hb=>?_⟩
  ·have:a≠k:=fun e1=>hn e (by simp) (by grind)
   simp_all[iL,if_neg]
  ·cases j with
   | zero =>
    simp at hj;subst hj;have:a=k:=inj _ _ (by simp_all);simp_all[iL,if_pos]
   | succ j =>
    have h0:=hb 0 e (by omega) rfl;have:a≠k:=fun e1=>h0 (by grind);rw[iL,if_neg this];grind
theorem MX{es:Array MapEntry}{clock:Nat}(hs:Stamped es clock){j:Nat}{e:MapEntry}(hj:es.toList[j]? = some e):∀(i:Nat) (e':MapEntry),i<j->es.toList[i]? = some e'->e'.key≠e.key:=by grind[stamped_iff,List.pairwise_iff_getElem,zR]
theorem MY[DecidableEq K](inj:∀a b,kv a=kv b->a=b)(k:K)(v:V):∀(l:List MapEntry) (xs:List (K×V)),l.map (fun e=>(e.key,e.val))=xs.map (fun x=>(kv x.1,vv x.2)) ->
  ((∀x∈l,x.key≠kv k)->(l.map (fun e=>(e.key,e.val)))++[(kv k,vv v)]=(vg xs k v).map (fun x=>(kv x.1,vv x.2))) ∧
  (∀(j:Nat) (e:MapEntry),l[j]? = some e->e.key=kv k->(∀(i:Nat) (e':MapEntry),i<j->l[i]? = some e'->e'.key≠kv k)->(l.map (fun e=>(e.key,e.val))).set j (kv k,vv v)=(vg xs k v).map (fun x=>(kv x.1,vv x.2)))
 | [],[],_=>⟨fun _=>rfl,fun j e h=>by grind⟩
 | [],_::_,h=>by grind
 | _::_,[],h=>by grind
 | e::l,(a,b)::xs,h=>by
  simp only[List.map_cons,List.cons.injEq,Prod.mk.injEq]at h;obtain⟨⟨hk,hv⟩,h⟩:=h;obtain⟨i1,i2⟩:=MY inj k v l xs h;refine⟨fun hn=>?_,fun j e' hj hek hb=>?_⟩
  ·have:a≠k:=fun e1=>hn e (by simp) (by grind)
   simp_all[vg,if_neg,List.map_cons,List.cons_append]
  ·cases j with
   | zero =>
    simp at hj;subst hj;have:a=k:=inj _ _ (by simp_all);simp_all[vg,if_pos,List.map_cons,List.set_cons_zero]
   | succ j =>
    have h0:=hb 0 e (by omega) rfl;have:a≠k:=fun e1=>h0 (by grind);rw[vg,if_neg this,List.map_cons,List.map_cons,List.set_cons_succ,i2 j e' (by simp_all) hek (fun i e'' hi h''=>hb (i+1) e'' (by omega) (by simp_all)),hk,hv]
theorem MZ[DecidableEq K](inj:∀a b,kv a=kv b->a=b)(k:K):∀(l:List MapEntry) (xs:List (K×V)),l.map (fun e=>(e.key,e.val))=xs.map (fun x=>(kv x.1,vv x.2)) ->
  ((∀x∈l,x.key≠kv k)->(l.map (fun e=>(e.key,e.val)))=(vk xs k).map (fun x=>(kv x.1,vv x.2))) ∧
  (∀(j:Nat) (e:MapEntry),l[j]? = some e->e.key=kv k->(∀(i:Nat) (e':MapEntry),i<j->l[i]? = some e'->e'.key≠kv k)->(l.map (fun e=>(e.key,e.val))).eraseIdx j=(vk xs k).map (fun x=>(kv x.1,vv x.2)))
 | [],[],_=>⟨fun _=>rfl,fun j e h=>by grind⟩
 | [],_::_,h=>by grind
 | _::_,[],h=>by grind
 | e::l,(a,b)::xs,h=>by
  simp only[List.map_cons,List.cons.injEq,Prod.mk.injEq]at h;obtain⟨⟨hk,hv⟩,h⟩:=h;obtain⟨i1,i2⟩:=MZ inj k l xs h;refine⟨fun hn=>?_,fun j e' hj hek hb=>?_⟩
  ·have:a≠k:=fun e1=>hn e (by simp) (by grind)
   simp_all[vk,if_neg,List.map_cons]
  ·cases j with
   | zero =>
    simp at hj;subst hj;have:a=k:=inj _ _ (by simp_all);rw[vk,if_pos this,List.map_cons,List.eraseIdx_cons_zero,h]
   | succ j =>
    have h0:=hb 0 e (by omega) rfl;have:a≠k:=fun e1=>h0 (by grind);rw[vk,if_neg this,List.map_cons,List.map_cons,List.eraseIdx_cons_succ,i2 j e' (by simp_all) hek (fun i e'' hi h''=>hb (i+1) e'' (by omega) (by simp_all)),hk,hv]
end
section
variable {P:Program}{l:List Value}{w:World}{d:Option Tmp}{ty:TypeId}{pos:String}{af:Array Edge}{gd:Option (Nat×Bool)}
 {Q:Exit->Act->World->Prop} {KK:List Value->World->Prop} {K V:Type} [DecidableEq K] {kv:K->Value} {vv:V->Value} {g:Nat} {xs:List (K×V)} {t kt et:TypeId}
theorem Gg{es:List MapEntry}(h:es.map (fun e=>(e.key,e.val))=xs.map (fun x=>(kv x.1,vv x.2))):∀x∈es,∃a,x.key=kv a:=fun x hx=>by grind[List.mem_map_of_mem]
theorem EF(D:Kp P kt kv)(ht:P.underlying t=some (.map kt et)){z:V}(hz:(P.info? et).bind (·.zero)=some (vv z)){x i:Operand}{k:K}(hx:ev l x = .map (some g))(hi:ev l i=kv k)
  (h:MapIs kv vv w g xs) (c:Bool) :
  (execOp (ev l) ⟨d,.lookup t x i c,ty,pos,af,gd⟩).run P w = .ok (.value (if c then .tuple #[vv ((iL xs k).getD z),.bool (iL xs k).isSome] else vv ((iL xs k).getD z))) w:=by
 obtain⟨es,clock,h1,h2,h3⟩:=h
 have hzz:(zeroValue et).run P w = .ok (vv z) w:=by
  cases hinf:P.info? et with
  | none=>simp_all
  | some i=>simp_all[zeroValue,typeInfo,Sem.run]
 have hg:=MW D.inj k es.toList xs h2;rcases D.fnd w k es.toList (Gg h2) with ⟨q1,q2⟩ | ⟨j,e0,q1,q2,q3⟩
 ·rw[hg.1 q2]
  cases c<;>simp[execOp,hx,hi,Instr.lookup,run_underlying ht,MapKept.run_getObj_map h1,D.chk,q1,hzz,Result.andThen]
 ·obtain⟨v,e1,e2⟩:=hg.2 j e0 q2 q3 (fun i e' hi he=>by grind[MX])
  rw[e1];cases c<;>simp[execOp,hx,hi,Instr.lookup,run_underlying ht,MapKept.run_getObj_map h1,D.chk,q1,Result.andThen,e2]
theorem run_len_map{x:Operand}(ht:P.underlying t=some (.map kt et))(hx:ev l x = .map (some g))(h:MapIs kv vv w g xs) :
  (execOp (ev l) ⟨d,.call { callee:=.builtin .len,args:=#[x],argTypes:=#[t] },ty,pos,af,gd⟩).run P w = .ok (.value (.int .i64 xs.length)) w:=by
 obtain⟨es,c,h1,h2⟩:=h.len;rw[<- h2];have hb:(Builtin.len_ #[t] ty #[.map (some g)]).run P w = .ok (.int .i64 es.size) w:=by simp[Builtin.len_,run_underlying ht,MapKept.run_getObj_map h1,goInt,Result.andThen]
 simp_all[execOp,resolve,invoke,builtin]
theorem oL(w:World)(o:Obj):(w.alloc o).heap[w.heap.size]? = some o:=by grind[World.alloc]
theorem MapIs.set{w:World}{g:Nat}{es es':Array MapEntry}{c c':Nat}{ys:List (K×V)}(h1:w.heap[g]? = some (.map es c))
  (h2:es'.toList.map (fun e=>(e.key,e.val))=ys.map (fun x=>(kv x.1,vv x.2))) (h3:Stamped es' c'):MapIs kv vv { w with heap:=w.heap.setIfInBounds g (.map es' c') } g ys :=
 ⟨es',c',(heap_set h1).1,h2,h3⟩
theorem Fz.setobj(w:World)(g:Nat)(o:Obj):Fz [some g] w { w with heap:=w.heap.setIfInBounds g o } :=
 ⟨rfl,rfl,rfl,by simp,fun k hk hn=>by grind⟩
theorem Y3(D:Kp P kt kv)(ht:P.underlying t=some (.map kt et)){B:Nat->Prop}{own F:Lx}{x i y:Operand}{k:K}{v:V}(hx:ev l x = .map (some g))(hi:ev l i=kv k)(hy:ev l y=vv v)
  (hL:LOk B own F w) (h:MapIs kv vv w g xs) (hm:some g∈own) {o:Oper} (ho:o.op = .mapUpdate t x i y∨o.op = .insert t x i y)
  (hk:∀w',Stp B own own F [some g] w w'->MapIs kv vv w' g (vg xs k v)->KK (st l o.dst undef) w'):OW P o l w KK Q:=by
 obtain⟨es,clock,h1,h2,h3⟩:=h;have hg:=MY D.inj k v es.toList xs h2
 have hh:(∃es' c',(Instr.mapUpdate t (.map (some g)) (kv k) (vv v)).run P w = .ok () { w with heap:=w.heap.setIfInBounds g (.map es' c') } ∧
   es'.toList.map (fun e=>(e.key,e.val))=(vg xs k v).map (fun x=>(kv x.1,vv x.2))∧Stamped es' c'):=by
  rcases D.fnd w k es.toList (Gg h2) with ⟨q1,q2⟩ | ⟨j,e0,q1,q2,q3⟩
  ·refine⟨es.push ⟨kv k,vv v,clock⟩,clock+1,?_,?_,stamped_push h3 q2⟩
   ·simp[Instr.mapUpdate,run_underlying ht,MapKept.run_getObj_map h1,D.chk,q1,MapKept.run_setObj_map _ h1,Result.andThen]
   simp_all
  ·have hj:es[j]? = some e0:=by simp_all
   refine⟨es.modify j (fun e'=>{ e' with key:=kv k,val:=vv v }),clock,?_,?_,stamped_modify h3 _ _ (fun _ _=>rfl) (fun e' _ he'=>by simp_all)⟩
   ·simp[Instr.mapUpdate,run_underlying ht,MapKept.run_getObj_map h1,D.chk,q1,hj,q3,D.sty,MapKept.run_setObj_map _ h1,Result.andThen]
   ·rw[<- hg.2 j e0 q2 q3 (fun i e' hi he=>by grind[MX])]
    apply List.ext_getElem?;grind
 obtain⟨es',c',e1,e2,e3⟩:=hh;have hS:Stp B own own F [some g] w { w with heap:=w.heap.setIfInBounds g (.map es' c') }:=Stp.store hL hm (Fz.setobj w g _);refine yM (w':={ w with heap:=w.heap.setIfInBounds g (.map es' c') }) ?_ (hk _ hS (MapIs.set h1 e2 e3));rcases o with ⟨dd,op,ty,pos,af,gd⟩
 rcases ho with ho | ho<;>(simp_all[execOp])
theorem map_eraseIdx{α β:Type}(f:α->β):∀(l:List α) (j:Nat),(l.eraseIdx j).map f=(l.map f).eraseIdx j
 | [],_=>by simp
 | a::l,0=>by simp
 | a::l,j+1=>by simp[map_eraseIdx f l j]
theorem Y4(D:Kp P kt kv)(ht:P.underlying t=some (.map kt et)){B:Nat->Prop}{own F:Lx}{x i:Operand}{k:K}{kt':TypeId}(hx:ev l x = .map (some g))(hi:ev l i=kv k)
  (hL:LOk B own F w) (h:MapIs kv vv w g xs) (hm:some g∈own)
  (hk:∀w',Stp B own own F [some g] w w'->MapIs kv vv w' g (vk xs k)->KK (st l d (.tuple #[])) w') :
  OW P ⟨d,.call { callee:=.builtin .delete,args:=#[x,i],argTypes:=#[t,kt'] },ty,pos,af,gd⟩ l w KK Q:=by
 obtain⟨es,clock,h1,h2,h3⟩:=h;have hg:=MZ D.inj k es.toList xs h2
 have hh:(∃es',(Builtin.delete_ #[t,kt'] ty #[.map (some g),kv k]).run P w = .ok (.tuple #[]) { w with heap:=w.heap.setIfInBounds g (.map es' clock) } ∧
   es'.toList.map (fun e=>(e.key,e.val))=(vk xs k).map (fun x=>(kv x.1,vv x.2))∧Stamped es' clock):=by
  rcases D.fnd w k es.toList (Gg h2) with ⟨q1,q2⟩ | ⟨j,e0,q1,q2,q3⟩
  ·refine⟨es,?_,hg.1 q2,h3⟩
   simp[Builtin.delete_,run_underlying ht,MapKept.run_getObj_map h1,D.chk,q1,MapKept.run_setObj_map _ h1,Result.andThen]
  ·have hlt:j<es.size:=by grind
   have hsub:(es.eraseIdxIfInBounds j).toList=es.toList.eraseIdx j:=by simp
   refine⟨es.eraseIdxIfInBounds j,?_,?_,stamped_erase h3 j⟩
   ·simp[Builtin.delete_,run_underlying ht,MapKept.run_getObj_map h1,D.chk,q1,MapKept.run_setObj_map _ h1,Result.andThen]
   grind[map_eraseIdx,MX]
 obtain⟨es',e1,e2,e3⟩:=hh;have hS:Stp B own own F [some g] w { w with heap:=w.heap.setIfInBounds g (.map es' clock) }:=Stp.store hL hm (Fz.setobj w g _);refine iG (w':={ w with heap:=w.heap.setIfInBounds g (.map es' clock) }) ?_ (hk _ hS (MapIs.set h1 e2 e3));simp_all[execOp,resolve,invoke,builtin]
theorem Stp.map{B:Nat->Prop}{own own' F M:Lx}{w w':World}(S:Stp B own own' F M w w')(h:MapIs kv vv w g xs)(hn:some g ∉ M):MapIs kv vv w' g xs:=h.step S.hf hn
theorem MapIs.below{w0 w':World}(h:MapIs kv vv w0 g xs)(hB:Below w0.heap.size w0 w'):MapIs kv vv w' g xs:=by have hlt:=h.lt;obtain⟨es,c,h1,h2⟩:=h;refine⟨es,c,?_,h2⟩;rw[hB.block g hlt];exact h1
end
end Sx
namespace Sx
open Go Go.RowKit
end Sx
end
noncomputable section
namespace Sx
open Go Go.RowKit
def mV(k:IntKind)(x y:Int):Int:=k.wrap (BitVec.ofInt k.bits x &&& BitVec.ofInt k.bits y).toNat
def bor(k:IntKind)(x y:Int):Int:=k.wrap (BitVec.ofInt k.bits x ||| BitVec.ofInt k.bits y).toNat
def M0(k:IntKind)(x y:Int):Int:=k.wrap (BitVec.ofInt k.bits x ^^^ BitVec.ofInt k.bits y).toNat
def aaJ(k:IntKind)(x y:Int):Int:=k.wrap (BitVec.ofInt k.bits x &&& ~~~(BitVec.ofInt k.bits y)).toNat
def shl(k:IntKind)(x y:Int):Int:=k.wrap (x*2 ^ (min y.toNat k.bits))
def shr(k:IntKind)(x y:Int):Int:=x.fdiv (2 ^ (min y.toNat k.bits))
section
variable {P:Program}{l:List Value}{w:World}{d:Option Tmp}{ty:TypeId}{pos:String}{af:Array Edge}{g:Option (Nat×Bool)}
theorem aaK{t u:TypeId}{x y:Operand}{k:IntKind}{a b:Int}(hx:ev l x = .int k a)(hy:ev l y = .int k b) :
  (execOp (ev l) ⟨d,.binOp .and t x y u,ty,pos,af,g⟩).run P w = .ok (.value (.int k (mV k a b))) w:=by simp_all[execOp,eqGuard,binOp,Op.intBits,mV]
theorem ag3{t u:TypeId}{x y:Operand}{k:IntKind}{a b:Int}(hx:ev l x = .int k a)(hy:ev l y = .int k b) :
  (execOp (ev l) ⟨d,.binOp .or t x y u,ty,pos,af,g⟩).run P w = .ok (.value (.int k (bor k a b))) w:=by simp_all[execOp,eqGuard,binOp,Op.intBits,bor]
theorem aaL{t u:TypeId}{x y:Operand}{k:IntKind}{a b:Int}(hx:ev l x = .int k a)(hy:ev l y = .int k b) :
  (execOp (ev l) ⟨d,.binOp .xor t x y u,ty,pos,af,g⟩).run P w = .ok (.value (.int k (M0 k a b))) w:=by simp_all[execOp,eqGuard,binOp,Op.intBits,M0]
theorem aaM{t u:TypeId}{x y:Operand}{k:IntKind}{a b:Int}(hx:ev l x = .int k a)(hy:ev l y = .int k b) :
  (execOp (ev l) ⟨d,.binOp .andNot t x y u,ty,pos,af,g⟩).run P w = .ok (.value (.int k (aaJ k a b))) w:=by simp_all[execOp,eqGuard,binOp,Op.intBits,aaJ]
theorem ag4{t u:TypeId}{x y:Operand}{k k':IntKind}{a b:Int}(hx:ev l x = .int k a)(hy:ev l y = .int k' b)(h0:ge b 0=true) :
  (execOp (ev l) ⟨d,.binOp .shl t x y u,ty,pos,af,g⟩).run P w = .ok (.value (.int k (shl k a b))) w:=by
 have h:¬ b<0:=by have:=of_decide_eq_true h0;omega
 simp[execOp,eqGuard,hx,hy,binOp,Op.shift,shl,h]
theorem ag5{t u:TypeId}{x y:Operand}{k k':IntKind}{a b:Int}(hx:ev l x = .int k a)(hy:ev l y = .int k' b)(h0:ge b 0=true) :
  (execOp (ev l) ⟨d,.binOp .shr t x y u,ty,pos,af,g⟩).run P w = .ok (.value (.int k (shr k a b))) w:=by
 have h:¬ b<0:=by have:=of_decide_eq_true h0;omega
 simp[execOp,eqGuard,hx,hy,binOp,Op.shift,shr,h]
end
end Sx
namespace Sx
open Go Go.RowKit
section
variable {P:Program}
inductive AllEq(P:Program) (d:Nat) (xs ys:Array Value):List (Bool×TypeId×Nat)->Bool->Prop
 | nil:AllEq P d xs ys [] true
 | cons {t:TypeId} {off:Nat} {a b:Value} {r r2:Bool} {rest:List (Bool×TypeId×Nat)} (ha:∀w,(part t xs off).run P w = .ok a w) (hb:∀w,(part t ys off).run P w = .ok b w)
   (h:∀w,(Op.equalIn d t a b).run P w = .ok r w) (h2:AllEq P d xs ys rest r2):AllEq P d xs ys ((false,t,off)::rest) (r && r2)
theorem Rv {d : Nat} {xs ys : Array Value} : ∀ {data : List (Bool × TypeId × Nat)} {r : Bool} (_ : AllEq P d xs ys data r) (fs : List Field), fs.map (fun f => (f.name == "_", f.type, f.offset)) = data ->
  ∀w,(Op.eqFields d xs ys fs).run P w = .ok r w
 | _,_,.nil,[],_,w=>by rfl
 | _,_,.nil,_::_,h,_=>by grind
 | _,_,.cons ..,[],h,_=>by grind
 | _,_,.cons (r:=r) ha hb he h2,f::fs,h,w=>by
  simp only [List.map_cons,List.cons.injEq,Prod.mk.injEq] at h;obtain ⟨⟨h1,rfl,rfl⟩,h3⟩:=h;have hn : f.name ≠ "_" := by simp_all
  have ih:=Rv h2 fs h3;simp only[Op.eqFields,if_pos hn,Sem.run_bind,ha,hb,he,zJ];cases r<;>simp[ih]
theorem iV{t:TypeId}{dd:TypeDesc}{xs:Array Value}{off:Nat}{v:Value}(ht:P.underlying t=some dd)(ha:nY dd=false)(hv:xs[off]? = some v):∀w,(part t xs off).run P w = .ok v w:=fun w=>by simp_all[part,Sem.run_bind,jS,zJ]
theorem zH{t:TypeId}{dd:TypeDesc}{xs vs:Array Value}{off n:Nat}(ht:P.underlying t=some dd)(ha:nY dd=true)(hs:eG P t=some n)(hv:xs.extract off (off+n)=vs) :
  ∀w,(part t xs off).run P w = .ok (.agg vs) w:=fun w=>by
 simp_all[part,Sem.run_bind,jS,zJ,run_sizeOf]
theorem KU{t d:Nat}{xs ys:Array Value}{data:List (Bool×TypeId×Nat)}{r:Bool}(ht:P.underlying t=some (.struct (P.fieldsOf t)))(hp:P.stoodInHeld t=false)
  (hd : (P.fieldsOf t).toList.map (fun f => (f.name == "_", f.type, f.offset)) = data) (h : AllEq P d xs ys data r) : ∀ w, (Op.equalIn (d + 1) t (.agg xs) (.agg ys)).run P w = .ok r w := fun w => by
 grind[run_equalIn_agg,Rv]
theorem eq_int{t d:Nat}{k k':IntKind}{a b:Int}(h:P.underlying t=some (.int k')):∀w,(Op.equalIn (d+1) t (.int k a) (.int k b)).run P w = .ok (eqi a b) w:=fun w=>run_equalIn_int w d t k k' a b h
theorem Rx{t d:Nat}{a b:Bool}(h:P.underlying t=some .bool):∀w,(Op.equalIn (d+1) t (.bool a) (.bool b)).run P w = .ok (eqb a b) w:=fun w=>run_equalIn_bool w d t a b h
theorem Y5{t d:Nat}{a b:List UInt8}(h:P.underlying t=some .string):∀w,(Op.equalIn (d+1) t (.string ⟨⟨a⟩⟩) (.string ⟨⟨b⟩⟩)).run P w = .ok (eqs a b) w:=fun w=>by rw[run_equalIn_string w d t _ _ h,ByteArray.toList_eq,ByteArray.toList_eq];rfl
variable {l:List Value}{w:World}{dd:Option Tmp}{ty:TypeId}{pos:String}{af:Array Edge}{g:Option (Nat×Bool)}
theorem Tx{t u:TypeId}{x y:Operand}{xs ys:Array Value}{r:Bool}(hx:ev l x = .agg xs)(hy:ev l y = .agg ys)(hg:P.eqGuardType P.depth t=false)
  (h:∀w,(Op.equalIn 10000 t (.agg xs) (.agg ys)).run P w = .ok r w) :
  (execOp (ev l) ⟨dd,.binOp .eql t x y u,ty,pos,af,g⟩).run P w = .ok (.value (.bool r)) w:=by
 simp_all[execOp,run_eqGuard_agg,run_eql_struct]
theorem Tz{t u:TypeId}{x y:Operand}{xs ys:Array Value}{r:Bool}(hx:ev l x = .agg xs)(hy:ev l y = .agg ys)(hg:P.eqGuardType P.depth t=false)
  (h:∀w,(Op.equalIn 10000 t (.agg xs) (.agg ys)).run P w = .ok r w) :
  (execOp (ev l) ⟨dd,.binOp .neq t x y u,ty,pos,af,g⟩).run P w = .ok (.value (.bool (!r))) w:=by
 simp_all[execOp,run_eqGuard_agg,run_neq_struct]
end
end Sx
end
noncomputable section
namespace Sx
open Go Go.RowKit
section
variable {P:Program}{l:List Value}{w:World}{d:Option Tmp}{ty:TypeId}{pos:String}{af:Array Edge}{g:Option (Nat×Bool)}
end
end Sx
namespace Sx
end Sx
end
noncomputable section
namespace Sx
open Go Go.ChangeShapes Go.WideShapes Go.ChangeAt Go.RowKit
section
variable {H:Type}{enc:TypeId×Value->H}{P:Program}{W W':World}
theorem Br{sp:Nat->Bool}(hl:laidOutB P=true)(hB:Below W.heap.size W W'):∀{ts:List TypeId} {vs:List Value} {ds:List (DataW H)} {ps:List MemPlace},
  (∀t∈ts,P.readableRec t=true∧t<P.types.size)->DataW.TrodAll enc P W 0 (fun _=>true) true ts vs ds ps->(∀x∈ps,x.block<W.heap.size)->(∀x∈ps,sp x.block=true) ->
  DataW.TrodAll enc P W' 0 sp true ts vs ds ps
 | [],vs,ds,ps,_,h,_,_=>by obtain⟨rfl,rfl,rfl⟩:=trodAll_nil h;exact trodAll_mk0
 | t::ts,vs,ds,ps,ht,h,hlt,hsp=>by obtain⟨v0,vs0,d0,ds0,p0,q0,rfl,rfl,rfl,h0,r0⟩:=trodAll_cons h;have h1:=ht t (by simp);refine trodAll_cons_mk (WideElems.Trod_stays hl h1.1 h1.2 h0 (fun x hx=>hB.same (hlt x (by simp[hx]))) (fun x hx=>hsp x (by simp[hx]))) ?_;exact Br hl hB (fun t' h'=>ht t' (by simp[h'])) r0 (fun x hx=>hlt x (by simp[hx])) (fun x hx=>hsp x (by simp[hx]))
theorem aaN{f:Func}{s:ChangeSpec}{apart fresh handsOn again:Bool}{args:Array Value}{ds gs:List (DataW H)}{before:List MemPlace}{tb:TypeId}
  (hl:laidOutB P=true) (hts:∀t∈f.params.toList,P.readableRec t=true∧t<P.types.size) (hvars:s.vars=[]) (hres:f.resultTypes = #[tb]) (htb:P.underlying tb=some .bool)
  (hW:DataW.Whole enc P f.params.toList s.vars apart W args.toList ds gs before) (hfn:(s.fn H ds).results=[.lit (.bool true)]∧(s.fn H ds).args=ds∧(s.fn H ds).vars=[])
  (hB:Below W.heap.size W W'):s.post enc P f apart fresh handsOn again W args (.bool true) W':=by
 have hlt:=hW.lt;have hW0:=hW;obtain⟨p,q,hA,hV,hpq,hz,hnd⟩:=hW;rw[hvars]at hV;obtain⟨rfl,rfl⟩:=trodVars_none hV;simp only[List.append_nil]at hpq;subst hpq;obtain⟨f1,f2,f3⟩:=hfn
 have hr:∀(b:Nat) (sp:Nat->Bool) (hd:Bool),DataW.TrodAll enc P W' b sp hd [tb] [.bool true] [.lit (.bool true)] []:=fun b sp hd =>
  trodAll_cons_mk (shut_bool htb true) trodAll_mk0
 have hAs:∀sp:Nat->Bool,(∀x∈before,sp x.block=true)->DataW.TrodAll enc P W' 0 sp true f.params.toList args.toList ds before:=fun sp hsp=>Br hl hB hts hA hlt hsp;have hrt:f.resultTypes.toList=[tb]:=by rw[hres]
 have hrs:f.resultTypes.size=1:=by rw[hres];rfl
 refine⟨ds,[],before,[],before,[],hW0,?_,?_,?_,?_,fun _=>⟨?_,?_⟩⟩
 ·simp only[List.append_nil,f1,hrt,hrs]
  exact hr _ _ _
 ·simp only[List.append_nil,f2]
  exact hAs _ (fun x hx=>by simpa using hlt x hx)
 ·simp only[List.append_nil,f3,hvars]
  exact rfl
 ·exact hB.frame _
 ·exact ok_one hres rfl (okWide_bool_mk htb true)
 ·refine⟨[.lit (.bool true)]++ds,[],([]++before)++[],⟨[]++before,[],?_,?_,rfl,?_,?_⟩,?_⟩
  ·rw[hrt,hrs]
   exact trodAll_append (hAs (fun _=>true) (fun _ _=>rfl)) (hr 0 (fun _=>true) true)
  ·rw[hvars]
   exact rfl
  ·intro b off hp
   have hb:b<W.heap.size:=hlt (.cell b off) (by simpa using hp);rw[hB.frozen (p:=⟨b,off,none⟩) hb];exact hz b off (by simpa using hp)
  ·intro ha
   simpa using hnd ha
  ·intro x hx _
   simpa using hx
end
end Sx
end
noncomputable section
namespace Ev
open Go Go.RowKit Sx
section
variable {P:Program}{ops:Array Oper}{Q:Exit->Act->World->Prop}
inductive Dep(ops:Array Oper):Nat->Nat->Prop
 | one {j i:Nat} {o:Oper} {e:Edge} (ho:ops[j]? = some o) (he:e∈o.after) (hb:Region.binds .any e=true) (hi:e.on=i):Dep ops j i
 | step {j k i:Nat} {o:Oper} {e:Edge} (ho:ops[j]? = some o) (he:e∈o.after) (hb:Region.binds .any e=true) (hk:e.on=k) (h:Dep ops k i):Dep ops j i
def Closed(ops:Array Oper)(listed:Array Bool):Prop :=
 ∀j,listed.getD j false=true->∀o,ops[j]? = some o->∀e∈o.after,Region.binds .any e=true->listed.getD e.on false=true
theorem Closed.dep{listed:Array Bool}(hc:Closed ops listed){j i:Nat}(h:Dep ops j i):listed.getD j false=true->listed.getD i false=true:=by
 induction h with
 | one ho he hb hi=>intro hj;subst hi;exact hc _ hj _ ho _ he hb
 | step ho he hb hk _ ih=>intro hj;subst hk;exact ih (hc _ hj _ ho _ he hb)
theorem Closed.start(n:Nat):Closed ops (Array.replicate n false):=fun j hj=>by
 rcases Nat.lt_or_ge j n with hl | hl
 ·simp_all
 simp_all
theorem xU{listed:Array Bool}{j:Nat}(hj:j∈Region.ready .any ops listed):∀o,ops[j]? = some o->∀e∈o.after,Region.binds .any e=true->listed.getD e.on false=true:=by grind[mem_ready]
theorem Closed.push{listed:Array Bool}(hc:Closed ops listed){j:Nat}(hj:j∈Region.ready .any ops listed):Closed ops (listed.setIfInBounds j true):=by
 have keep:∀k,listed.getD k false=true->(listed.setIfInBounds j true).getD k false=true:=fun k hk=>by
  by_cases h:j=k
  ·subst h
   rcases Nat.lt_or_ge j listed.size with hl | hl
   ·simp[hl]
   simp_all
  simp_all
 intro k hk o ho e he hb;by_cases h:j=k
 ·grind[xU]
 ·rw[getD_set_ne false h]at hk
  exact keep _ (hc k hk o ho e he hb)
theorem LW{listed:Array Bool}(hc:Closed ops listed){j i:Nat}(hj:j∈Region.ready .any ops listed)(hi:listed.getD i true=false):¬ Dep ops j i:=by
 intro h;have hi':listed.getD i false≠true:=fun h'=>by grind
 cases h with
 | one ho he hb hi2=>grind[xU]
 | step ho he hb hk h=>subst hk;exact hi' (hc.dep h (xU hj _ ho _ he hb))
theorem Y6(r:Option Nat)(o:Oper)(hs:∀cs b,o.op ≠ .select cs b)(a:Act)(dst:Option Tmp)(v:Value)(h:∀d,dst=some d->d ∉ o.looksAt ops) :
  o.semAt r (a.put dst v).eval=o.semAt r a.eval:=by
 by_cases hc:∃c,o.op = .defer c
 ·cases r with
  | none=>exact execOp_put o hs a dst v h
  | some l =>
   obtain⟨c,hc⟩:=hc
   have e:resolve (a.put dst v).eval c o.type=resolve a.eval c o.type:=resolve_congr c _ fun x hx=>Act.eval_put fun d hd hxd=>h d hd (by
    subst hxd
    exact List.mem_append_left _ (List.mem_filterMap.2 ⟨.tmp d,by simp_all[Op.operands],rfl⟩))
   simp_all[Oper.semAt]
 ·rw[Oper.semAt_eq _ _ _ (fun c hc'=>hc ⟨c,hc'⟩),Oper.semAt_eq _ _ _ (fun c hc'=>hc ⟨c,hc'⟩)]
  exact execOp_put o hs a dst v h
theorem Er{r:Option Nat}{S:World->Prop}{i:Nat}{o:Oper}{v:Value}{a:Act}(hi:ops[i]? = some o)(hy:YieldsIf P ops S o v a)
  {K:Act->World->Prop} {w:World} (hS:S w) (h:K (a.put o.dst v) w):wpOpIn (RdF r) 0 P ops Q i K a w:=by
 unfold wpOpIn;simp only[hi];rcases hy with ⟨hw,hv⟩ | ⟨hw,rfl⟩
 ·rw[if_pos hw]
  refine⟨fun _ _=>trivial,?_⟩;have:=jR (r:=r) (hv w hS) (by simp);show Oper.uponIn _ _ _ _ _ _ _ ((o.semAt r a.eval).run P w);rw[this];exact h
 ·rw[if_neg (by simp_all)]
  exact⟨fun _ _=>trivial,h⟩
theorem aaO{r:Option Nat}{S:World->Prop}{j:Nat}{oi oj:Oper}{v:Value}(hj:ops[j]? = some oj)(hap:oi.apart ops oj=true)
  (hsi:∀cs b,oi.op ≠ .select cs b) (hsj:∀cs b,oj.op ≠ .select cs b)
  (hQ:∀c a w,Q (.panic c) (a.put oi.dst v) w->Q (.panic c) a w) {K:Act->World->Prop} {a:Act} {w:World}
  (hy:YieldsIf P ops S oi v a) (h:wpOpIn (RdF r) 0 P ops Q j K (a.put oi.dst v) w) :
  wpOpIn (RdF r) 0 P ops Q j (fun a' w'=>YieldsIf P ops S oi v a'∧K (a'.put oi.dst v) w') a w:=by
 obtain⟨h1,h2,h3⟩:=Oper.apart_spec hap
 have keep:∀(a:Act),YieldsIf P ops S oi v a->∀u,YieldsIf P ops S oi v (a.put oj.dst u):=fun a hy u =>
  hy.of_same (execOp_put oi hsi a oj.dst u h3) (wanted_put oi a oj.dst u h3)
 have keepD:∀d,YieldsIf P ops S oi v { a with defers:=d::a.defers }:=fun d=>hy.of_same rfl rfl;unfold wpOpIn at *;simp only[hj]at *;rw[wanted_put oj a oi.dst v h1,about_put oj w a oi.dst v h1]at h;split
 ·rename_i hw
  simp only[hw,if_true]at h;unfold Oper.wpIn at *;rw[about_put oj w a oi.dst v h1]at h;refine⟨h.1,?_⟩;have h:=h.2;rw[Y6 _ oj hsj a oi.dst v h1]at h;generalize (oj.semAt _ a.eval).run P w=x at *
  cases x with
  | ok x w' =>
   cases x<;>simp only[Oper.uponIn]at h ⊢
   case value u=>grind[Act.put_comm]
   case skip=>grind[Act.put_comm,undef]
   case defer d =>
    grind[Act.put_comm,undef,Act.put_defers]
   case enter f args =>
    grind[CallsIn.mono,Act.put_comm]
   case row row args=>grind[RowsIn.mono,Act.put_comm]
   grind[RoundIn.mono,Act.put_comm]
  | halt x w' =>
   cases x<;>simp only[Oper.uponIn]at h ⊢
   simp_all
 grind[Act.put_comm,undef]
def wpAnyG(r:Option Nat)(P:Program)(ops:Array Oper)(Q:Exit->Act->World->Prop)(S:Nat->World->Prop):Nat->Array Bool->Act->World->Prop
 | 0,listed,a,w=>Region.ready .any ops listed=[]∧Q .normal a w
 | fuel+1,listed,a,w =>
  (Region.ready .any ops listed=[]->Q .normal a w) ∧
  ∀i∈Region.ready .any ops listed,wpOpIn (RdF r) 0 P ops Q i (fun a' w'=>(w'=w∨S i w')∧wpAnyG r P ops Q S fuel (listed.setIfInBounds i true) a' w') a w
variable {S:Nat->World->Prop}{r:Option Nat}
theorem zP:∀(fuel:Nat) (listed:Array Bool) (a:Act) (w:World),wpAnyG r P ops Q S fuel listed a w->wpAnyIn (RdF r) 0 P .any ops Q fuel listed a w
 | 0,_,_,_,h=>h
 | fuel+1,_,_,_,h=>⟨h.1,fun i hi=>wpOpIn_mono (fun a' w' h'=>zP fuel _ a' w' h'.2) (h.2 i hi)⟩
theorem wpAnyG.weak{S':Nat->World->Prop}(hS:∀j w,S' j w->S j w):∀(fuel:Nat) (listed:Array Bool) (a:Act) (w:World),wpAnyG r P ops Q S' fuel listed a w->wpAnyG r P ops Q S fuel listed a w
 | 0,_,_,_,h=>h
 | fuel+1,_,_,_,h=>⟨h.1,fun i hi=>wpOpIn_mono (fun a' w' h'=>⟨h'.1.imp id (hS i w'),wpAnyG.weak hS fuel _ a' w' h'.2⟩) (h.2 i hi)⟩
theorem BH{i:Nat}{oi:Oper}{v:Value}{Y:World->Prop}(hi:ops[i]? = some oi)(hsel:∀(j:Nat) (o:Oper) cs b,ops[j]? = some o->o.op ≠ .select cs b)
  (hQ:∀c a w,Q (.panic c) (a.put oi.dst v) w->Q (.panic c) a w) :
  ∀(fuel:Nat) (listed:Array Bool) (a:Act) (w:World),Closed ops listed ->
   (∀j oj,ops[j]? = some oj->j≠i->listed.getD j true=false->(∀e∈oj.after,Region.binds .any e=true->e.on≠i)->oi.apart ops oj=true) ->
   i∈Region.ready .any ops listed->YieldsIf P ops Y oi v a->Y w ->
   wpAnyG r P ops Q (fun j w=>S j w∧(Dep ops j i∨Y w)) fuel (listed.setIfInBounds i true) (a.put oi.dst v) w->wpAnyG r P ops Q S (fuel+1) listed a w:=by
 intro fuel
 induction fuel with
 | zero =>
  intro listed a w _ _ hr hy hY H;refine⟨fun h=>(by simp_all),fun j hj=>?_⟩;by_cases hji:j=i
  ·subst hji;exact Er hi hy hY ⟨.inl rfl,H⟩
  ·have:=ready_mono hj hji
   rw[H.1]at this;grind
 | succ fuel ih =>
  intro listed a w hcl hfree hr hy hY H;refine⟨fun h=>(by simp_all),fun j hj=>?_⟩;by_cases hji:j=i
  ·subst hji;exact Er hi hy hY ⟨.inl rfl,wpAnyG.weak (fun _ _ h=>h.1) _ _ _ _ H⟩
  ·have h1:=H.2 j (ready_mono hj hji)
   obtain⟨hjun,oj,hoj,hall⟩:=mem_ready.1 hj;have hnot:∀e∈oj.after,Region.binds .any e=true->e.on≠i:=fun e he hb heq=>by grind[mem_ready,Nat.lt_or_ge,Array.getElem?_eq_none]
   have h2:=aaO hoj (hfree j oj hoj hji hjun hnot) (fun cs b=>hsel i oi cs b hi) (fun cs b=>hsel j oj cs b hoj) hQ hy h1
   have hfree':∀k ok,ops[k]? = some ok->k≠i->(listed.setIfInBounds j true).getD k true=false ->
     (∀e∈ok.after,Region.binds .any e=true->e.on≠i)->oi.apart ops ok=true:=fun k ok hk hki hun hno=>by
    refine hfree k ok hk hki ?_ hno;by_cases hjk:j=k
    ·simp_all
    simp_all
   have hnd:=LW hcl hj (mem_ready.1 hr).1;refine wpOpIn_mono (fun a' w' h3=>?_) h2;obtain⟨h4,h5,h6⟩:=h3;have hY':Y w':=by grind
   refine⟨h5.imp id (fun h=>h.1),ih (listed.setIfInBounds j true) a' w' (hcl.push hj) hfree' (ready_mono hr (Ne.symm hji)) h4 hY' ?_⟩;simp_all[Array.setIfInBounds_comm]
abbrev Tk:=List (Nat×(World->Prop))
def ST(ops:Array Oper)(T:Tk)(j:Nat)(w:World):Prop:=∀x∈T,Dep ops j x.1∨x.2 w
def uL(opl:List Oper):List (Nat×Bool)->List (Nat×Bool×Oper)
 | []=>[]
 | (i,b)::σ=>match opl[i]? with
  | some o=>(i,b,o)::uL opl σ
  | none=>[]
def WY(P:Program)(ops:Array Oper)(Q:Exit->Act->World->Prop):List (Nat×Bool×Oper)->Tk->List Value->World->Prop
 | [],_,l,w=>Q .normal (mk l) w
 | (i,true,o)::rest,T,l,w=>∃v Y,YieldsIf P ops Y o v (mk l)∧Y w∧WY P ops Q rest ((i,Y)::T) (st l o.dst v) w
 | (i,false,o)::rest,T,l,w=>if wtd ops o l=true then OW P o l w (fun l' w'=>ST ops T i w'∧WY P ops Q rest T l' w') Q else WY P ops Q rest T (st l o.dst undef) w
theorem Gh{opl:List Oper}(hs:Region.noSelect opl.toArray=true)(hQ:∀c a a' w,Q (.panic c) a w->Q (.panic c) a' w) :
  ∀(σ:List (Nat×Bool)) (fuel:Nat) (listed:Array Bool) (T:Tk) (l:List Value) (w:World),lQ opl.toArray σ listed=true->σ.length≤fuel->Closed opl.toArray listed ->
   WY P opl.toArray Q (uL opl σ) T l w->wpAnyG r P opl.toArray Q (ST opl.toArray T) fuel listed (mk l) w
 | [],fuel,listed,T,l,w,hB,_,_,h=>by
  have hr:Region.ready .any opl.toArray listed=[]:=by simp_all[lQ]
  cases fuel with
  | zero=>exact⟨hr,h⟩
  | succ n=>exact⟨fun _=>h,by simp_all⟩
 | (i,b)::σ,0,_,_,_,_,_,hf,_,_=>by grind
 | (i,true)::σ,fuel+1,listed,T,l,w,hB,hf,hc,h=>by
  simp only[lQ,zL,decide_eq_true_eq]at hB;obtain⟨⟨⟨h1,h2⟩,h3⟩,h4⟩:=hB;obtain⟨o,ho⟩:∃o,opl[i]? = some o:=⟨_,zQ (by omega)⟩;simp only[uL,ho,WY]at h;obtain⟨v,Y,hy,hY,hr⟩:=h;have hrd:i∈Region.ready .any opl.toArray listed:=by simp_all
  refine BH (by simp_all) (Region.noSelect_spec hs) (fun c a w=>hQ c _ _ w) fuel listed (mk l) w hc (Region.free_spec (by simp_all) h1) hrd hy hY ?_;rw[nK];have:=Gh hs hQ σ fuel _ ((i,Y)::T) _ w h4 (by simp_all) (hc.push hrd) hr;exact wpAnyG.weak (fun j w h=>⟨fun x hx=>h x (List.mem_cons_of_mem _ hx),h (i,Y) (List.mem_cons_self ..)⟩) _ _ _ _ this
 | (i,false)::σ,fuel+1,listed,T,l,w,hB,hf,hc,h=>by
  simp only[lQ,zL,decide_eq_true_eq,beq_iff_eq]at hB;obtain⟨⟨h1,h3⟩,h4⟩:=hB;obtain⟨o,ho⟩:∃o,opl[i]? = some o:=⟨_,zQ (by omega)⟩;simp only[uL,ho,WY]at h;have hrd:i∈Region.ready .any opl.toArray listed:=by simp_all
  refine⟨fun h0=>(by simp_all),fun j hj=>?_⟩;rw[h1]at hj;simp at hj;subst hj;unfold wpOpIn;have ho':opl.toArray[j]? = some o:=by simp_all
  simp only[ho'];by_cases hw:wtd opl.toArray o l=true
  ·rw[if_pos hw]at h
   unfold wtd at hw;rw[if_pos hw];refine Oper.wpIn_mono (fun a w' hk=>?_) (h r);obtain⟨l',rfl,hS',hk⟩:=hk;exact⟨.inr hS',Gh hs hQ σ fuel _ T _ w' h4 (by simp_all) (hc.push hrd) hk⟩
  ·rw[if_neg hw]at h
   unfold wtd at hw;rw[if_neg hw,nK];exact⟨fun _ _=>trivial,by simp,Gh hs hQ σ fuel _ T _ w h4 (by simp_all) (hc.push hrd) h⟩
theorem Ia{id:Nat}{opl:List Oper}{l:List Value}{w:World}(σ:List (Nat×Bool))(hm:P.follows .mixedOrders=true)
  (hB:(Region.noSelect opl.toArray && lQ opl.toArray σ (Array.replicate opl.toArray.size false) && decide (σ.length≤opl.toArray.size))=true)
  (hQ:∀c a a' w,Q (.panic c) a w->Q (.panic c) a' w)
  (h:WY P opl.toArray Q (uL opl σ) [] l w.drew):CW P (.region id opl.toArray true) Q l w:=by
 simp only[zL,decide_eq_true_eq]at hB;obtain⟨⟨h1,h2⟩,h3⟩:=hB;exact fun r=>wpIn_region_any hm (zP _ _ _ _ (Gh h1 hQ σ _ _ _ _ _ h2 h3 (Closed.start _) h))
end
end Ev
end
noncomputable section
namespace Ev
open Go Go.RowKit Sx
inductive Ty where
 | int (k:IntKind) | bool | str
 | sl (t:Ty)
 | pr (a b:Ty)
 | wr (a:Ty)
 | un
 | ar (n:Nat) (t:Ty)
 | mp (k v:Ty)
 | cl (t:Ty)
 deriving DecidableEq
@[reducible] def Vl:Ty->Type
 | .int _=>Int
 | .bool=>Bool
 | .str=>List UInt8
 | .sl t=>List (Vl t)
 | .pr a b=>Vl a×Vl b
 | .wr a=>Vl a
 | .un=>Unit
 | .ar _ t=>List (Vl t)
 | .mp k v=>List (Vl k×Vl v)
 | .cl t=>Vl t
def dD:(t:Ty)->Vl t->List Value
 | .int k,x=>[.int k x]
 | .str,x=>[xS x]
 | .bool,x=>[.bool x]
 | .pr a b,x=>dD a x.1++dD b x.2
 | _,_=>[]
def bM:(t:Ty)->Vl t->Value
 | .int k,x=>.int k x
 | .str,x=>xS x
 | .bool,x=>.bool x
 | .pr a b,x=>.agg (dD (.pr a b) x).toArray
 | _,_=>undef
def DmR{α β:Type}(R:Rp β)(L:Lx)(w:World):List (α×Value)->List (α×β)->Prop
 | [],xs=>xs=[]
 | a::r,xs=>∃b q,xs=b::q∧a.1=b.1∧(∃cs,R.rel L w cs b.2∧a.2=R.val cs)∧DmR R L w r q
theorem DmR.mono{α β:Type}{R:Rp β}{L:Lx}{w w':World}(hf:Fz L w w'):∀{vs:List (α×Value)} {xs:List (α×β)},DmR R L w vs xs->DmR R L w' vs xs
 | [],_,h=>h
 | _::_,_,⟨b,q,h1,h2,⟨cs,h3,h4⟩,h5⟩=>⟨b,q,h1,h2,⟨cs,R.mono h3 hf,h4⟩,h5.mono hf⟩
theorem DmR.grow{α β:Type}{R:Rp β}{L L':Lx}{w:World}(hs:Sub w L' L):∀{vs:List (α×Value)} {xs:List (α×β)},DmR R L w vs xs->DmR R L' w vs xs
 | [],_,h=>h
 | _::_,_,⟨b,q,h1,h2,⟨cs,h3,h4⟩,h5⟩=>⟨b,q,h1,h2,⟨cs,R.grow h3 hs,h4⟩,h5.grow hs⟩
def alU{α β:Type}(kv:α->Value)(R:Rp β):Rp (List (α×β)) where
 size:=1
 agg:=false
 rel:=fun L w cs xs=>∃g vs,cs=[.map (some g)]∧some g ∉ L∧g<w.heap.size∧MapIs kv (fun v:Value=>v) w g vs∧DmR R L w vs xs
 len:=by rintro L w cs x ⟨g,vs,rfl,_⟩;rfl
 one:=by rintro L w cs x ⟨g,vs,rfl,_⟩;simp[Value.oneCell']
 mono:=by rintro L w w' cs x ⟨g,vs,h1,h2,h3,⟨es,cl,h4,h5⟩,h6⟩ hf;exact⟨g,vs,h1,h2,Nat.lt_of_lt_of_le h3 hf.size,⟨es,cl,(hf.block g h3 h2).trans h4,h5⟩,h6.mono hf⟩
 grow:=by rintro L L' w cs x ⟨g,vs,h1,h2,h3,h4,h6⟩ hs;exact⟨g,vs,h1,fun hg=>(hs g hg).elim h2 (fun h=>by omega),h3,h4,h6.grow hs⟩
def amy:Rp Unit where
 size:=0
 agg:=true
 rel:=fun _ _ cs _=>cs=[]
 len:=by simp
 one:=by simp
 mono:=by simp
 grow:=by simp
theorem RowsOf.mono{α:Type}{R:Rp α}{L:Lx}{w w':World}(hf:Fz L w w'):∀{xs:List α} {cells:List Value},RowsOf R L w cells xs->RowsOf R L w' cells xs
 | [],_,h=>h
 | _::_,_,⟨c,rest,e,h1,h2⟩=>⟨c,rest,e,R.mono h1 hf,RowsOf.mono hf h2⟩
theorem RowsOf.grow{α:Type}{R:Rp α}{L L':Lx}{w:World}(hs:Sub w L' L):∀{xs:List α} {cells:List Value},RowsOf R L w cells xs->RowsOf R L' w cells xs
 | [],_,h=>h
 | _::_,_,⟨c,rest,e,h1,h2⟩=>⟨c,rest,e,R.grow h1 hs,RowsOf.grow hs h2⟩
def amz{α:Type}(n:Nat)(R:Rp α):Rp (List α) where
 size:=n*R.size
 agg:=true
 rel:=fun L w cs xs=>xs.length=n∧RowsOf R L w cs xs
 len:=by rintro L w cs x ⟨h,h2⟩;rw[h2.len,h]
 one:=by rintro L w cs x ⟨_,h2⟩;exact h2.one
 mono:=by grind[RowsOf.mono]
 grow:=by grind[RowsOf.grow]
def ClV(v:Value):Prop:=∀a c,v = .slice a 0 c->c=0
def amA{α:Type}(R:Rp α):Rp α where
 size:=R.size
 agg:=R.agg
 rel:=fun L w cs x=>R.rel L w cs x∧∀v∈cs,ClV v
 len:=fun h=>R.len h.1
 one:=fun h=>R.one h.1
 mono:=fun h hf=>⟨R.mono h.1 hf,h.2⟩
 grow:=fun h hs=>⟨R.grow h.1 hs,h.2⟩
def rp:(t:Ty)->Rp (Vl t)
 | .int k=>Rp.int k
 | .bool=>Rp.bool
 | .str=>Rp.str
 | .sl t=>Rp.slice (rp t)
 | .pr a b=>Rp.prod (rp a) (rp b)
 | .wr a=>Rp.iso (rp a) (fun x=>x) true
 | .un=>amy
 | .ar n t=>amz n (rp t)
 | .mp k v=>alU (bM k) (rp v)
 | .cl t=>amA (rp t)
def Ty.size:Ty->Nat
 | .pr a b=>a.size+b.size
 | .wr a=>a.size
 | .un=>0
 | .ar n t=>n*t.size
 | .cl t=>t.size
 | _=>1
def Ty.agg:Ty->Bool
 | .cl t=>t.agg
 | .pr _ _ | .wr _ | .un | .ar _ _=>true
 | _=>false
theorem bV:∀t:Ty,(rp t).size=t.size
 | .int _ | .bool | .str | .sl _ | .un | .mp _ _=>rfl
 | .pr a b=>by show (rp a).size+(rp b).size=_;rw[bV a,bV b];rfl
 | .wr a=>by show (rp a).size=_;rw[bV a];rfl
 | .ar n t=>by show n*(rp t).size=_;rw[bV t];rfl
 | .cl t=>bV t
theorem gI:∀t:Ty,(rp t).agg=t.agg
 | .cl t=>gI t
 | .int _ | .bool | .str | .sl _ | .un | .mp _ _ | .pr _ _ | .wr _ | .ar _ _=>rfl
theorem kC:∀t:Ty,t.agg=false->(rp t).size=1
 | .cl t,h=>kC t h
 | .int _,_ | .bool,_ | .str,_ | .sl _,_ | .mp _ _,_=>rfl
 | .pr _ _,h | .wr _,h | .un,h | .ar _ _,h=>by cases h
def fK(t t':Ty)(x:Vl t):Option (Vl t'):=if h:t=t' then some (h ▸ x) else none
theorem oM{t t':Ty}{x:Vl t}{y:Vl t'}(h:fK t t' x=some y):∃e:t=t',e ▸ x=y:=by grind[fK,Option.some.inj]
def prj:(t:Ty)->Nat->(ft:Ty)->Vl t->Option (Vl ft)
 | .pr a b,off,ft,x=>if off=0∧Ty.pr a b=ft then fK (.pr a b) ft x else if off<a.size then prj a off ft x.1 else prj b (off - a.size) ft x.2
 | .wr a,off,ft,x=>if off=0∧Ty.wr a=ft then fK (.wr a) ft x else prj a off ft x
 | .cl a,off,ft,x=>if off=0∧Ty.cl a=ft then fK (.cl a) ft x else prj a off ft x
 | t,off,ft,x=>if off=0 then fK t ft x else none
theorem xV{t ft:Ty}{x:Vl t}{y:Vl ft}{L:Lx}{w:World}{cs:List Value}(h:fK t ft x=some y)(hr:(rp t).rel L w cs x):(rp ft).rel L w cs y:=by grind[oM]
theorem jm{L:Lx}{w:World}:∀{t:Ty} {off:Nat} {ft:Ty} {x:Vl t} {y:Vl ft} {cs:List Value},prj t off ft x=some y->(rp t).rel L w cs x ->
  ∃pre c post,cs=pre++c++post∧pre.length=off∧(rp ft).rel L w c y
 | .pr a b,off,ft,x,y,cs,h,hr=>by
  unfold prj at h;split at h
  ·rename_i h0
   exact⟨[],cs,[],by simp,h0.1.symm,xV h hr⟩
  ·obtain⟨c,d,rfl,h1,h2⟩:=hr
   split at h
   ·obtain⟨pre,c',post,rfl,h4,h5⟩:=jm h h1
    exact⟨pre,c',post++d,by simp,h4,h5⟩
   ·rename_i hlt
    obtain⟨pre,c',post,rfl,h4,h5⟩:=jm h h2;have hl:c.length=a.size:=by rw[(rp a).len h1,bV]
    exact⟨c++pre,c',post,by simp,by rw[zU,hl,h4];omega,h5⟩
 | .wr a,off,ft,x,y,cs,h,hr=>by
  unfold prj at h;split at h
  ·rename_i h0
   exact⟨[],cs,[],by simp,h0.1.symm,xV h hr⟩
  ·exact jm (t:=a) h hr
 | .cl a,off,ft,x,y,cs,h,hr=>by
  unfold prj at h;split at h
  ·rename_i h0
   exact⟨[],cs,[],by simp,h0.1.symm,xV h hr⟩
  ·exact jm (t:=a) h hr.1
 | .int _,off,ft,x,y,cs,h,hr=>by
  unfold prj at h;split at h
  ·rename_i h0;exact⟨[],cs,[],by simp,h0.symm,xV h hr⟩
  ·cases h
 | .bool,off,ft,x,y,cs,h,hr=>by
  unfold prj at h;split at h
  ·rename_i h0;exact⟨[],cs,[],by simp,h0.symm,xV h hr⟩
  ·cases h
 | .str,off,ft,x,y,cs,h,hr=>by
  unfold prj at h;split at h
  ·rename_i h0;exact⟨[],cs,[],by simp,h0.symm,xV h hr⟩
  ·cases h
 | .sl _,off,ft,x,y,cs,h,hr=>by
  unfold prj at h;split at h
  ·rename_i h0;exact⟨[],cs,[],by simp,h0.symm,xV h hr⟩
  ·cases h
 | .un,off,ft,x,y,cs,h,hr=>by
  unfold prj at h;split at h
  ·rename_i h0;exact⟨[],cs,[],by simp,h0.symm,xV h hr⟩
  ·cases h
 | .mp _ _,off,ft,x,y,cs,h,hr=>by
  unfold prj at h;split at h
  ·rename_i h0;exact⟨[],cs,[],by simp,h0.symm,xV h hr⟩
  ·cases h
 | .ar _ _,off,ft,x,y,cs,h,hr=>by
  unfold prj at h;split at h
  ·rename_i h0;exact⟨[],cs,[],by simp,h0.symm,xV h hr⟩
  ·cases h
theorem air{L:Lx}{w:World}{b o:Nat}{t:Ty}{off:Nat}{ft:Ty}{x:Vl t}{y:Vl ft}(h:prj t off ft x=some y)(he:El (rp t) L w b o x):El (rp ft) L w b (o+off) y:=by obtain⟨h1,h2,cs,h3,h4⟩:=he;obtain⟨pre,c,post,rfl,h5,h6⟩:=jm h h3;refine⟨h1,h2,c,h6,fun j v hj=>?_⟩;have:=h4 (off+j) v (by grind);grind
def Ty.flat:Ty->Bool
 | .int _ | .bool | .str | .un=>true
 | .pr a b=>a.flat && b.flat
 | .wr a=>a.flat
 | _=>false
theorem uM{L:Lx}{w:World}:∀{t:Ty} {x:Vl t} {cs:List Value},t.flat=true->(rp t).rel L w cs x->∀v∈cs,ClV v
 | .int _,x,cs,_,h,v,hv=>by obtain⟨rfl,_⟩:=h;simp at hv;subst hv;intro a c e;cases e
 | .bool,x,cs,_,h,v,hv=>by cases h;simp at hv;subst hv;intro a c e;cases e
 | .str,x,cs,_,h,v,hv=>by cases h;simp at hv;subst hv;intro a c e;cases e
 | .un,x,cs,_,h,v,hv=>by cases h;cases hv
 | .pr a b,x,cs,hf,⟨c,d,e,h1,h2⟩,v,hv=>by
  subst e;simp only[Ty.flat,zL]at hf;rcases List.mem_append.1 hv with hv | hv
  ·exact uM hf.1 h1 v hv
  ·exact uM hf.2 h2 v hv
 | .wr a,x,cs,hf,h,v,hv=>uM (t:=a) hf h v hv
def upd:(t:Ty)->Nat->(ft:Ty)->Vl ft->Vl t->Option (Vl t)
 | .pr a b,off,ft,y,x=>if off=0∧Ty.pr a b=ft then fK ft (.pr a b) y else if off<a.size then (upd a off ft y x.1).map (fun z=>(z,x.2)) else (upd b (off - a.size) ft y x.2).map (fun z=>(x.1,z))
 | .wr a,off,ft,y,x=>if off=0∧Ty.wr a=ft then fK ft (.wr a) y else upd a off ft y x
 | .cl a,off,ft,y,x=>if off=0∧Ty.cl a=ft then fK ft (.cl a) y else if ft.flat=true then upd a off ft y x else none
 | t,off,ft,y,_=>if off=0 then fK ft t y else none
theorem jB{L:Lx}{w:World}{t:Ty}{off:Nat}{ft:Ty}{y:Vl ft}{x z:Vl t}{cs c:List Value}(h:(if off=0 then fK ft t y else none)=some z)(hr:(rp t).rel L w cs x)(hc:(rp ft).rel L w c y) :
  off+c.length≤cs.length∧(rp t).rel L w (cs.take off++c++cs.drop (off+c.length)) z:=by
 split at h
 ·rename_i h0
  subst h0;obtain⟨e,h⟩:=oM h;subst e;subst h;have e:c.length=cs.length:=by rw[(rp ft).len hr,(rp ft).len hc]
  simp_all
 grind
theorem oN{L:Lx}{w:World}:∀{t:Ty} {off:Nat} {ft:Ty} {y:Vl ft} {x z:Vl t} {cs c:List Value},upd t off ft y x=some z->(rp t).rel L w cs x->(rp ft).rel L w c y ->
  off+c.length≤cs.length∧(rp t).rel L w (cs.take off++c++cs.drop (off+c.length)) z
 | .pr a b,off,ft,y,x,z,cs,c,h,hr,hc=>by
  unfold upd at h;split at h
  ·rename_i h0
   exact jB (t:=.pr a b) (x:=x) (by simp_all) hr hc
  ·obtain⟨d,e,rfl,h1,h2⟩:=hr
   have hl:d.length=a.size:=by rw[(rp a).len h1,bV]
   split at h
   ·rename_i hlt
    obtain⟨z1,h3,rfl⟩:=Option.map_eq_some_iff.1 h;obtain⟨h4,h5⟩:=oN h3 h1 hc;refine⟨by grind,_,e,?_,h5,h2⟩;grind
   ·rename_i hlt
    obtain⟨z1,h3,rfl⟩:=Option.map_eq_some_iff.1 h;obtain⟨h4,h5⟩:=oN h3 h2 hc;refine⟨by grind,d,_,?_,h1,h5⟩;have e1:off=d.length+(off - a.size):=by omega
    have e2:off+c.length=d.length+(off - a.size+c.length):=by omega
    rw[e2,List.drop_append,Nat.add_sub_cancel_left,List.drop_of_length_le (by omega:d.length≤d.length+(off - a.size+c.length))];grind
 | .wr a,off,ft,y,x,z,cs,c,h,hr,hc=>by
  unfold upd at h;split at h
  ·rename_i h0
   exact jB (t:=.wr a) (x:=x) (by simp_all) hr hc
  ·exact oN (t:=a) h hr hc
 | .cl a,off,ft,y,x,z,cs,c,h,hr,hc=>by
  unfold upd at h;split at h
  ·rename_i h0
   exact jB (t:=.cl a) (x:=x) (by simp_all) hr hc
  ·split at h
   ·rename_i hf
    obtain⟨h1,h2⟩:=oN (t:=a) h hr.1 hc;refine⟨h1,h2,fun v hv=>?_⟩;rcases List.mem_append.1 hv with hv | hv
    ·rcases List.mem_append.1 hv with hv | hv
     ·exact hr.2 v (List.mem_of_mem_take hv)
     ·exact uM hf hc v hv
    ·exact hr.2 v (List.mem_of_mem_drop hv)
   ·cases h
 | .int _,off,ft,y,x,z,cs,c,h,hr,hc=>by unfold upd at h;exact jB h hr hc
 | .bool,off,ft,y,x,z,cs,c,h,hr,hc=>by unfold upd at h;exact jB h hr hc
 | .str,off,ft,y,x,z,cs,c,h,hr,hc=>by unfold upd at h;exact jB h hr hc
 | .sl _,off,ft,y,x,z,cs,c,h,hr,hc=>by unfold upd at h;exact jB (t:=.sl _) h hr hc
 | .un,off,ft,y,x,z,cs,c,h,hr,hc=>by unfold upd at h;exact jB (t:=.un) h hr hc
 | .ar _ _,off,ft,y,x,z,cs,c,h,hr,hc=>by unfold upd at h;exact jB (t:=.ar _ _) h hr hc
 | .mp _ _,off,ft,y,x,z,cs,c,h,hr,hc=>by unfold upd at h;exact jB (t:=.mp _ _) h hr hc
theorem Y7{L:Lx}{w:World}{t:Ty}{o m:Nat}{ft:Ty}{x:Vl t}{ys:Vl (.ar m ft)}{k:Nat}{z:Vl ft}{o2:Nat}{fy:Ty}{v:Vl fy}{cs:List Value}(h1:prj t o (.ar m ft) x=some ys)(h2:(show List (Vl ft) from ys)[k]? = some z)(h3:prj ft o2 fy z=some v)(hr:(rp t).rel L w cs x) :
  ∃pre c post,cs=pre++c++post∧pre.length=o+k*ft.size+o2∧(rp fy).rel L w c v:=by
 obtain⟨p1,c1,q1,rfl,e1,r1⟩:=jm h1 hr;obtain⟨_,r1⟩:=r1;obtain⟨p2,c2,q2,rfl,e2,r2,_⟩:=r1.at h2;obtain⟨p3,c3,q3,rfl,e3,r3⟩:=jm h3 r2;grind[bV,zU]
theorem M3{α:Type}{R:Rp α}{L:Lx}{w:World}{y:α}{d:List Value}(hd:R.rel L w d y):∀{xs:List α} {cells:List Value} {i:Nat} {x:α},RowsOf R L w cells xs->xs[i]? = some x ->
  RowsOf R L w (cells.take (i*R.size)++d++cells.drop (i*R.size+R.size)) (xs.set i y)
 | [],_,_,_,_,h=>by grind
 | a::xs,cells,0,x,⟨c1,c2,e,h1,h2⟩,_=>by subst e;have hl:=R.len h1;rw[Nat.zero_mul,List.take_zero,Nat.zero_add,<- hl,List.drop_left];exact⟨d,c2,rfl,hd,h2⟩
 | a::xs,cells,i+1,x,⟨c1,c2,e,h1,h2⟩,h=>by subst e;have hl:=R.len h1;have ih:=M3 hd h2 (i:=i) (by simpa using h);refine⟨c1,_,?_,h1,ih⟩;simp_all[Nat.add_mul,List.take_append,List.drop_append,Nat.add_sub_cancel_left,List.take_of_length_le,List.drop_of_length_le]
theorem Y8{L:Lx}{w:World}{t:Ty}{o m:Nat}{ft:Ty}{x x':Vl t}{ys:Vl (.ar m ft)}{k:Nat}{z z':Vl ft}{o2:Nat}{fy:Ty}{v:Vl fy}{cs c:List Value}(h1:prj t o (.ar m ft) x=some ys)(h2:(show List (Vl ft) from ys)[k]? = some z)(h3:upd ft o2 fy v z=some z')
  (h4:upd t o (.ar m ft) (show Vl (.ar m ft) from (show List (Vl ft) from ys).set k z') x=some x') (hr:(rp t).rel L w cs x) (hc:(rp fy).rel L w c v) :
  o+k*ft.size+o2+c.length≤cs.length∧(rp t).rel L w (cs.take (o+k*ft.size+o2)++c++cs.drop (o+k*ft.size+o2+c.length)) x':=by
 obtain⟨p1,c1,q1,rfl,e1,⟨hl1,r1⟩⟩:=jm h1 hr;obtain⟨p2,c2,q2,e0,e2,r2,_⟩:=r1.at h2;subst e0;rw[bV]at e2;have l2:c2.length=ft.size:=by rw[(rp ft).len r2,bV]
 obtain⟨b3,r3⟩:=oN h3 r2 hc;have r4:=M3 r3 r1 h2;rw[bV,<- e2]at r4;have l1:(p2++c2++q2).length=m*ft.size:=by rw[r1.len,hl1,bV]
 have r5:(rp (.ar m ft)).rel L w _ (show Vl (.ar m ft) from (show List (Vl ft) from ys).set k z'):=⟨by simp_all,r4⟩;obtain⟨b6,r6⟩:=oN h4 hr r5;have hs:(p2++c2++q2).drop (p2.length+ft.size)=q2:=by grind[List.append_assoc,zU,List.drop_left]
 have ht:(p2++c2++q2).take p2.length=p2:=by simp
 rw[hs,ht]at r6;have l3:(c2.take o2++c++c2.drop (o2+c.length)).length=c2.length:=by simp;omega
 refine⟨by grind,?_⟩;have l4:(p2++(c2.take o2++c++c2.drop (o2+c.length))++q2).length=(p2++c2++q2).length:=by grind
 rw[l4]at r6;have g1:(p1++(p2++c2++q2)++q1).take o=p1:=by simp_all
 have g2:(p1++(p2++c2++q2)++q1).drop (o+(p2++c2++q2).length)=q1:=by grind
 rw[g1,g2]at r6;have g3:(p1++(p2++c2++q2)++q1).take (o+k*ft.size+o2)=p1++(p2++c2.take o2):=by rw[<- e1,<- e2,show p1++(p2++c2++q2)++q1=p1++(p2++(c2++(q2++q1))) by simp,Nat.add_assoc,List.take_append,List.take_of_length_le (by omega),Nat.add_sub_cancel_left,List.take_append,List.take_of_length_le (by omega),Nat.add_sub_cancel_left,List.take_append_of_le_length (by omega)]
 have g4:(p1++(p2++c2++q2)++q1).drop (o+k*ft.size+o2+c.length)=c2.drop (o2+c.length)++(q2++q1):=by rw[<- e1,<- e2,show p1++(p2++c2++q2)++q1=p1++(p2++(c2++(q2++q1))) by simp,show p1.length+p2.length+o2+c.length=p1.length+(p2.length+(o2+c.length)) by omega,List.drop_append,List.drop_of_length_le (by omega),Nat.add_sub_cancel_left,List.nil_append,List.drop_append,List.drop_of_length_le (by omega),Nat.add_sub_cancel_left,List.nil_append,List.drop_append_of_le_length (by omega)]
 simp_all
inductive SV where
 | k (v:Value)
 | d (t:Ty) (x:Vl t)
 | dx (t:Ty) (x:Vl t)
 | row (i:Nat)
 | pb (i o:Nat)
 | prw (i:Nat) (j:Int) (sz o:Nat)
 | pra (i:Nat) (j:Int) (sz o m:Nat) (ft:Ty) (k:Int) (o2:Nat)
 | pe (t:Ty) (x:Vl t)
 | mp (i:Nat)
 | opb (b:Bool) (i o:Nat)
 | sub (i sz:Nat) (lo n:Int)
 | rowz (i:Nat)
 | sd (i:Nat)
 | agg (l:List SV)
 | tup (l:List SV)
 | fn (f:Fn) (a b:List SV)
 | ifc (t:TypeId) (v:SV)
structure Place where
 a:Option Addr
 n:Nat
 c:Nat
def RowV(p:Place)(u:Value):Prop:=u = .slice p.a p.n p.c∨(p.a=none∧p.n=0∧p.c=0∧∃a,u = .slice a 0 0)
mutual
def Den(pl:List Place)(L:Lx)(w:World):SV->Value->Prop
 | .k v,u=>u=v
 | .d t x,u=>∃cs,(rp t).rel L w cs x∧u=(rp t).val cs
 | .dx t x,u=>(∃cs,(rp t).rel L w cs x∧u=(rp t).val cs)∧∃a n,u = .slice a n n
 | .row i,u=>∃p,pl[i]? = some p∧u = .slice p.a p.n p.c
 | .rowz i,u=>∃p,pl[i]? = some p∧RowV p u
 | .sd i,u=>∃p q,pl[i]? = some p∧u = .pointer q∧(p.n≠0->q=p.a)
 | .sub i sz lo n,u=>∃p a c,pl[i]? = some p∧0≤lo∧0≤n∧lo+n≤p.n∧u = .slice a n.toNat c∧n.toNat≤c∧(c≠0->lo.toNat+c≤p.c∧∃g o,p.a=some ⟨g,o,none⟩∧a=some ⟨g,o+lo.toNat*sz,none⟩)∧(p.c≠0->blk a=blk p.a)
 | .pb i o,u=>∃g n c,pl[i]? = some ⟨some ⟨g,0,none⟩,n,c⟩∧u = .pointer (some ⟨g,o,none⟩)
 | .prw i j sz o,u=>∃g b n c,pl[i]? = some ⟨some ⟨g,b,none⟩,n,c⟩∧u = .pointer (some ⟨g,b+j.toNat*sz+o,none⟩)
 | .pra i j sz o m ft k o2,u=>∃g b n c,pl[i]? = some ⟨some ⟨g,b,none⟩,n,c⟩∧u = .pointer (some ⟨g,b+j.toNat*sz+o+k.toNat*ft.size+o2,none⟩)
 | .pe t x,u=>∃b o,u = .pointer (some ⟨b,o,none⟩)∧El (rp t) L w b o x
 | .mp i,u=>∃g n c,pl[i]? = some ⟨some ⟨g,0,none⟩,n,c⟩∧u = .map (some g)
 | .opb b i o,u=>(b=true->∃g n c,pl[i]? = some ⟨some ⟨g,0,none⟩,n,c⟩∧u = .pointer (some ⟨g,o,none⟩))∧(b=false->u = .pointer none)
 | .agg l,u=>∃us,DenL pl L w l us∧(∀v∈us,v.oneCell'=true)∧u = .agg us.toArray
 | .tup l,u=>∃us,DenL pl L w l us∧u = .tuple us.toArray
 | .fn f a b,u=>∃us vs,DenL pl L w a us∧DenL pl L w b vs∧u = .func f us.toArray vs.toArray
 | .ifc t v,u=>∃u',Den pl L w v u'∧u = .iface t u'
def DenL(pl:List Place)(L:Lx)(w:World):List SV->List Value->Prop
 | [],us=>us=[]
 | s::r,us=>∃v vs,us=v::vs∧Den pl L w s v∧DenL pl L w r vs
end
end Ev
end
noncomputable section
namespace Ev
open Go Go.RowKit Sx
structure Ext(pl:List Place) (L:Lx) (w:World) (pl':List Place) (L':Lx) (w':World):Prop where
 pl:∀(i:Nat) (p:Place),pl[i]? = some p->pl'[i]? = some p
 rel:∀{α:Type} (R:Rp α) {cs:List Value} {x:α},R.rel L w cs x->R.rel L' w' cs x
 el:∀{α:Type} (R:Rp α) {b o:Nat} {x:α},El R L w b o x->El R L' w' b o x
theorem Ext.refl(pl:List Place)(L:Lx)(w:World):Ext pl L w pl L w:=⟨fun _ _ h=>h,fun _ _ _ h=>h,fun _ _ _ _ h=>h⟩
section
variable {pl pl':List Place}{L L':Lx}{w w':World}
mutual
theorem Den.ext(e:Ext pl L w pl' L' w'):∀{s:SV} {u:Value},Den pl L w s u->Den pl' L' w' s u
 | .k v,u,h=>h
 | .d t x,u,⟨cs,h1,h2⟩=>⟨cs,e.rel _ h1,h2⟩
 | .dx t x,u,⟨⟨cs,h1,h2⟩,h3⟩=>⟨⟨cs,e.rel _ h1,h2⟩,h3⟩
 | .row i,u,⟨p,h1,h2⟩=>⟨p,e.pl _ _ h1,h2⟩
 | .rowz i,u,⟨p,h1,h2⟩=>⟨p,e.pl _ _ h1,h2⟩
 | .sd i,u,⟨p,q,h1,h2⟩=>⟨p,q,e.pl _ _ h1,h2⟩
 | .sub i sz lo n,u,⟨p,a,c,h1,h2⟩=>⟨p,a,c,e.pl _ _ h1,h2⟩
 | .pb i o,u,⟨g,n,c,h1,h2⟩=>⟨g,n,c,e.pl _ _ h1,h2⟩
 | .prw i j sz o,u,⟨g,b,n,c,h1,h2⟩=>⟨g,b,n,c,e.pl _ _ h1,h2⟩
 | .pra i j sz o m ft k o2,u,⟨g,b,n,c,h1,h2⟩=>⟨g,b,n,c,e.pl _ _ h1,h2⟩
 | .pe t x,u,⟨b,o,h1,h2⟩=>⟨b,o,h1,e.el _ h2⟩
 | .mp i,u,⟨g,n,c,h1,h2⟩=>⟨g,n,c,e.pl _ _ h1,h2⟩
 | .opb b i o,u,⟨h,h'⟩=>⟨fun hb=>by obtain⟨g,n,c,h1,h2⟩:=h hb;exact⟨g,n,c,e.pl _ _ h1,h2⟩,h'⟩
 | .agg l,u,⟨us,h1,h2⟩=>⟨us,DenL.ext e h1,h2⟩
 | .tup l,u,⟨us,h1,h2⟩=>⟨us,DenL.ext e h1,h2⟩
 | .fn f a b,u,⟨us,vs,h1,h2,h3⟩=>⟨us,vs,DenL.ext e h1,DenL.ext e h2,h3⟩
 | .ifc t v,u,⟨u',h1,h2⟩=>⟨u',Den.ext e h1,h2⟩
theorem DenL.ext(e:Ext pl L w pl' L' w'):∀{s:List SV} {us:List Value},DenL pl L w s us->DenL pl' L' w' s us
 | [],us,h=>h
 | s::r,us,⟨v,vs,h1,h2,h3⟩=>⟨v,vs,h1,Den.ext e h2,DenL.ext e h3⟩
end
theorem DenL.len:∀{s:List SV} {us:List Value},DenL pl L w s us->us.length=s.length
 | [],us,h=>by cases h;rfl
 | s::r,us,⟨v,vs,h1,h2,h3⟩=>by subst h1;simp[DenL.len h3]
theorem DenL.at:∀{s:List SV} {us:List Value} {i:Nat} {x:SV},DenL pl L w s us->s[i]? = some x->∃u,us[i]? = some u∧Den pl L w x u
 | [],us,i,x,h,hx=>by simp at hx
 | s::r,us,0,x,⟨v,vs,h1,h2,h3⟩,hx=>by simp at hx;subst hx h1;exact⟨v,rfl,h2⟩
 | s::r,us,i+1,x,⟨v,vs,h1,h2,h3⟩,hx=>by subst h1;obtain⟨u,h4,h5⟩:=DenL.at h3 (by simpa using hx);exact⟨u,by simpa using h4,h5⟩
theorem DenL.append:∀{s r:List SV} {us vs:List Value},DenL pl L w s us->DenL pl L w r vs->DenL pl L w (s++r) (us++vs)
 | [],r,us,vs,h,h'=>by cases h;exact h'
 | s::q,r,us,vs,⟨v,ws,h1,h2,h3⟩,h'=>by subst h1;exact⟨v,ws++vs,rfl,h2,DenL.append h3 h'⟩
theorem DenL.take:∀{s:List SV} {us:List Value} (n:Nat),DenL pl L w s us->DenL pl L w (s.take n) (us.take n)
 | [],us,n,h=>by simp_all[DenL]
 | s::r,us,0,h=>by rfl
 | s::r,us,n+1,⟨v,vs,h1,h2,h3⟩=>by subst h1;exact⟨v,vs.take n,rfl,h2,DenL.take n h3⟩
theorem DenL.drop:∀{s:List SV} {us:List Value} (n:Nat),DenL pl L w s us->DenL pl L w (s.drop n) (us.drop n)
 | [],us,n,h=>by simp_all[DenL]
 | s::r,us,0,h=>h
 | s::r,us,n+1,⟨v,vs,h1,h2,h3⟩=>by simp_all[DenL.drop]
def dfl:(t:Ty)->Vl t
 | .int _=>(0:Int)
 | .bool=>false
 | .str=>[]
 | .sl _=>[]
 | .pr a b=>(dfl a,dfl b)
 | .wr a=>dfl a
 | .un=>()
 | .ar _ _=>[]
 | .mp _ _=>[]
 | .cl t=>dfl t
def M4(f:Nat->Option (List SV)):Nat->Nat->Option (List SV)
 | _,0=>some []
 | k,n+1=>(f k).bind fun p=>(M4 f (k+1) n).map fun q=>p++q
def unp:(t:Ty)->Vl t->Option (List SV)
 | .pr a b,x=>(unp a x.1).bind fun p=>(unp b x.2).map fun q=>p++q
 | .wr a,x=>unp a x
 | .cl a,x=>unp a x
 | .un,_=>some []
 | .ar n t,x=>M4 (fun k=>unp t ((show List (Vl t) from x).getD k (dfl t))) 0 n
 | t,x=>some [.d t x]
theorem M5{α:Type}{Rr:Rp α}{f:Nat->Option (List SV)}:∀{xs:List α} {k:Nat} {cs:List Value} {l:List SV},(∀j x p c,xs[j]? = some x->f (k+j)=some p->Rr.rel L w c x->DenL pl L w p c)->M4 f k xs.length=some l->RowsOf Rr L w cs xs->DenL pl L w l cs
 | [],_,_,_,_,h,hr=>by cases h;cases hr;rfl
 | x::xs,k,cs,l,hf,h,hr=>by obtain⟨p,h1,h2⟩:=Option.bind_eq_some_iff.1 h;obtain⟨q,h3,rfl⟩:=Option.map_eq_some_iff.1 h2;obtain⟨c,rest,rfl,h4,h5⟩:=hr;refine (hf 0 x p c rfl h1 h4).append (M5 (k:=k+1) (fun j y p c hy hp hc=>hf (j+1) y p c (by simp_all) (by grind) hc) h3 h5)
theorem vo{t:Ty}(ht:t.agg=false){x:Vl t}{cs:List Value}(h:(rp t).rel L w cs x):DenL pl L w [.d t x] cs:=by have hl:=(rp t).len h;rw[kC t ht]at hl;obtain⟨v,rfl⟩:=List.length_eq_one_iff.1 hl;exact⟨v,[],rfl,⟨[v],h,by simp[Rp.val,gI,ht]⟩,rfl⟩
theorem lS:∀{t:Ty} {x:Vl t} {cs:List Value} {l:List SV},unp t x=some l->(rp t).rel L w cs x->DenL pl L w l cs
 | .pr a b,x,cs,l,h,hr=>by obtain⟨p,h1,h2⟩:=Option.bind_eq_some_iff.1 h;obtain⟨q,h3,rfl⟩:=Option.map_eq_some_iff.1 h2;obtain⟨c,d,rfl,h4,h5⟩:=hr;exact (lS h1 h4).append (lS h3 h5)
 | .wr a,x,cs,l,h,hr=>lS (t:=a) h hr
 | .cl a,x,cs,l,h,hr=>lS (t:=a) h hr.1
 | .un,x,cs,l,h,hr=>by cases h;cases hr;rfl
 | .mp _ _,x,cs,l,h,hr=>by cases h;exact vo rfl hr
 | .ar n t,x,cs,l,h,hr=>by obtain⟨hl,hr⟩:=hr;refine M5 (Rr:=rp t) (xs:=x) (k:=0) (fun j y p c hy hp hc=>lS (t:=t) hp ?_) (by rw[hl];exact h) hr;simp_all
 | .int _,x,cs,l,h,hr=>by cases h;exact vo rfl hr
 | .bool,x,cs,l,h,hr=>by cases h;exact vo rfl hr
 | .str,x,cs,l,h,hr=>by cases h;exact vo rfl hr
 | .sl _,x,cs,l,h,hr=>by cases h;exact vo rfl hr
def Mv(t' t:Ty)(x:Vl t'):Option (Vl t):=match fK (.cl t') t x with
 | some y=>some y
 | none=>fK t' t x
theorem KW{t' t:Ty}{x:Vl t'}{y:Vl t}{cs:List Value}(h:Mv t' t x=some y)(hr:(rp (.cl t')).rel L w cs x):(rp t).rel L w cs y∧(rp t').agg=(rp t).agg:=by
 unfold Mv at h;split at h
 ·rename_i h1
  cases h
  obtain⟨e,h1⟩:=oM h1;subst e;subst h1;exact⟨hr,rfl⟩
 ·obtain⟨e,h1⟩:=oM h
  subst e;subst h1;exact⟨hr.1,rfl⟩
def leaf(t:Ty):SV->Option (Vl t)
 | .d (.cl t') x=>Mv t' t x
 | .d t' x=>fK t' t x
 | .k (.slice none 0 0)=>match t with
  | .sl _=>some []
  | _=>none
 | _=>none
theorem og{t:Ty}(ht:t.agg=false){s:SV}{x:Vl t}{u:Value}(h:leaf t s=some x)(hd:Den pl L w s u):(rp t).rel L w [u] x:=by
 unfold leaf at h;split at h
 ·rename_i t' y
  obtain⟨cs,h1,h2⟩:=hd;obtain⟨h3,h4⟩:=KW h h1;have hl:=(rp _).len h3;rw[kC _ ht]at hl;obtain⟨v,rfl⟩:=List.length_eq_one_iff.1 hl;have e:u=v:=by rw[h2];unfold Rp.val;rw[show (rp (Ty.cl t')).agg=(rp t').agg from rfl,h4,gI,ht];rfl
  rw[e];exact h3
 ·rename_i t' y _
  obtain⟨cs,h1,h2⟩:=hd;obtain⟨e,h⟩:=oM h;subst e;subst h;have hl:=(rp _).len h1;rw[kC _ ht]at hl;obtain⟨v,rfl⟩:=List.length_eq_one_iff.1 hl;simp_all[Rp.val,gI]
 ·split at h
  ·cases h;cases hd;exact qW _ _ _ _ _
  grind
 grind
def pkR{α:Type}(f:List SV->Option (α×List SV)):Nat->List SV->Option (List α×List SV)
 | 0,l=>some ([],l)
 | n+1,l=>(f l).bind fun p=>(pkR f n p.2).map fun q=>(p.1::q.1,q.2)
def pk:(t:Ty)->List SV->Option (Vl t×List SV)
 | .pr a b,l=>(pk a l).bind fun p=>(pk b p.2).map fun q=>((p.1,q.1),q.2)
 | .wr a,l=>pk a l
 | .cl _,_=>none
 | .un,l=>some ((),l)
 | .ar m t,l=>pkR (pk t) m l
 | .mp a b,l=>match l with | s::r=>(leaf (.mp a b) s).map fun x=>(x,r) | []=>none
 | .int k,l=>match l with | s::r=>(leaf (.int k) s).map fun x=>(x,r) | []=>none
 | .bool,l=>match l with | s::r=>(leaf .bool s).map fun x=>(x,r) | []=>none
 | .str,l=>match l with | s::r=>(leaf .str s).map fun x=>(x,r) | []=>none
 | .sl t,l=>match l with | s::r=>(leaf (.sl t) s).map fun x=>(x,r) | []=>none
theorem yO{t:Ty}(ht:t.agg=false){l:List SV}{us:List Value}{x:Vl t}{r:List SV}(h:(match l with | s::r=>(leaf t s).map fun x=>(x,r) | []=>none)=some (x,r))(hd:DenL pl L w l us) :
  ∃cs vs,us=cs++vs∧(rp t).rel L w cs x∧DenL pl L w r vs:=by
 cases l with
 | nil=>cases h
 | cons s q =>
  obtain⟨y,h1,h2⟩:=Option.map_eq_some_iff.1 h;cases h2;obtain⟨v,vs,rfl,h3,h4⟩:=hd;exact⟨[v],vs,rfl,og ht h1 h3,h4⟩
theorem Ry{α:Type}{R:Rp α}{f:List SV->Option (α×List SV)}(hf:∀{l:List SV} {us:List Value} {x:α} {r:List SV},f l=some (x,r)->DenL pl L w l us->∃cs vs,us=cs++vs∧R.rel L w cs x∧DenL pl L w r vs) :
  ∀{n:Nat} {l:List SV} {us:List Value} {xs:List α} {r:List SV},pkR f n l=some (xs,r)->DenL pl L w l us->∃cs vs,us=cs++vs∧(xs.length=n∧RowsOf R L w cs xs)∧DenL pl L w r vs
 | 0,l,us,xs,r,h,hd=>by cases h;exact⟨[],us,rfl,⟨rfl,rfl⟩,hd⟩
 | n+1,l,us,xs,r,h,hd=>by obtain⟨p,h1,h2⟩:=Option.bind_eq_some_iff.1 h;obtain⟨q,h3,h4⟩:=Option.map_eq_some_iff.1 h2;cases h4;obtain⟨cs,vs,rfl,h5,h6⟩:=hf h1 hd;obtain⟨cs',vs',rfl,⟨h7,h8⟩,h9⟩:=Ry hf h3 h6;exact⟨cs++cs',vs',by simp,⟨by grind,cs,cs',rfl,h5,h8⟩,h9⟩
theorem kE:∀{t:Ty} {l:List SV} {us:List Value} {x:Vl t} {r:List SV},pk t l=some (x,r)->DenL pl L w l us->∃cs vs,us=cs++vs∧(rp t).rel L w cs x∧DenL pl L w r vs
 | .pr a b,l,us,x,r,h,hd=>by obtain⟨p,h1,h2⟩:=Option.bind_eq_some_iff.1 h;obtain⟨q,h3,h4⟩:=Option.map_eq_some_iff.1 h2;cases h4;obtain⟨cs,vs,rfl,h5,h6⟩:=kE h1 hd;obtain⟨cs',vs',rfl,h7,h8⟩:=kE h3 h6;exact⟨cs++cs',vs',by simp,⟨cs,cs',rfl,h5,h7⟩,h8⟩
 | .wr a,l,us,x,r,h,hd=>kE (t:=a) h hd
 | .cl _,l,us,x,r,h,hd=>by cases h
 | .un,l,us,x,r,h,hd=>by cases h;exact⟨[],us,rfl,rfl,hd⟩
 | .ar m t,l,us,x,r,h,hd=>Ry (R:=rp t) (fun h hd=>kE h hd) h hd
 | .mp _ _,l,us,x,r,h,hd=>yO rfl h hd
 | .int _,l,us,x,r,h,hd=>yO rfl h hd
 | .bool,l,us,x,r,h,hd=>yO rfl h hd
 | .str,l,us,x,r,h,hd=>yO rfl h hd
 | .sl _,l,us,x,r,h,hd=>yO rfl h hd
def toD(t:Ty)(s:SV):Option (Vl t) :=
 if t.agg then match s with
  | .d (.cl t') x=>Mv t' t x
  | .d t' x=>fK t' t x
  | .agg l=>(pk t l).bind fun p=>match p.2 with
   | []=>some p.1
   | _=>none
  | _=>none
 else leaf t s
theorem jo{t:Ty}{s:SV}{x:Vl t}{u:Value}(h:toD t s=some x)(hd:Den pl L w s u):∃cs,(rp t).rel L w cs x∧u=(rp t).val cs:=by
 unfold toD at h;split at h
 ·rename_i ht
  split at h
  ·obtain⟨cs,h1,h2⟩:=hd
   obtain⟨h3,h4⟩:=KW h h1;refine⟨cs,h3,h2.trans ?_⟩;unfold Rp.val;rename_i t' _;rw[show (rp (Ty.cl t')).agg=(rp t').agg from rfl,h4]
  ·obtain⟨e,h⟩:=oM h
   subst e;subst h;exact hd
  ·obtain⟨p,h1,h2⟩:=Option.bind_eq_some_iff.1 h
   obtain⟨y,r⟩:=p;split at h2
   ·rename_i hr
    cases h2
    simp only at hr;subst hr;obtain⟨us,h3,_,rfl⟩:=hd;obtain⟨cs,vs,rfl,h5,h6⟩:=kE h1 h3;cases h6;simp_all[Rp.val,gI]
   grind
  grind
 ·rename_i ht
  have ht:t.agg=false:=by simp_all
  exact⟨[u],og ht h hd,by simp[Rp.val,gI,ht]⟩
def nz:SV->SV
 | .row i=>.rowz i
 | s=>s
theorem yP{s:SV}{u:Value}(h:Den pl L w s u):Den pl L w (nz s) u:=by
 unfold nz;split
 ·obtain⟨p,h1,h2⟩:=h;exact⟨p,h1,.inl h2⟩
 omega
def cells:SV->Option (List SV)
 | .agg l=>some l
 | .d t x=>if t.agg then unp t x else some [.d t x]
 | .tup _=>none
 | s=>some [s]
theorem pE:∀{s:SV} {u:Value},Den pl L w s u->(∀l,s ≠ .agg l)->(∀l,s ≠ .tup l)->(∀v,s = .k v->v.oneCell'=true)->(∀t x,s = .d t x->t.agg=false)->u.oneCell'=true
 | .k v,u,h,_,_,h3,_=>by cases h;simp_all
 | .d t x,u,⟨cs,h1,h2⟩,_,_,_,h4=>by have ht:=h4 _ _ rfl;have hl:=(rp t).len h1;rw[kC _ ht]at hl;obtain⟨v,rfl⟩:=List.length_eq_one_iff.1 hl;simp[Rp.val,gI,ht]at h2;rw[h2];exact (rp t).one h1 v (by simp)
 | .dx t x,u,⟨_,a,n,h2⟩,_,_,_,_=>by subst h2;rfl
 | .row i,u,⟨p,h1,h2⟩,_,_,_,_=>by subst h2;rfl
 | .rowz i,u,⟨p,h1,h2⟩,_,_,_,_=>by rcases h2 with h2 | ⟨_,_,_,a,h2⟩<;>(subst h2;rfl)
 | .sub i sz lo n,u,⟨p,a,c,h1,_,_,_,h2,_⟩,_,_,_,_=>by subst h2;rfl
 | .sd i,u,⟨p,q,h1,h2,_⟩,_,_,_,_=>by subst h2;rfl
 | .pb i o,u,⟨g,n,c,h1,h2⟩,_,_,_,_=>by subst h2;rfl
 | .prw i j sz o,u,⟨g,b,n,c,h1,h2⟩,_,_,_,_=>by subst h2;rfl
 | .pra i j sz o m ft k o2,u,⟨g,b,n,c,h1,h2⟩,_,_,_,_=>by subst h2;rfl
 | .pe t x,u,⟨b,o,h1,h2⟩,_,_,_,_=>by subst h1;rfl
 | .mp i,u,⟨g,n,c,h1,h2⟩,_,_,_,_=>by subst h2;rfl
 | .opb true i o,u,⟨h,_⟩,_,_,_,_=>by obtain⟨g,n,c,h1,h2⟩:=h rfl;subst h2;rfl
 | .opb false i o,u,⟨_,h⟩,_,_,_,_=>by rw[h rfl];rfl
 | .agg l,u,_,h1,_,_,_=>absurd rfl (h1 l)
 | .tup l,u,_,_,h2,_,_=>absurd rfl (h2 l)
 | .fn f a b,u,⟨us,vs,h1,h2,h3⟩,_,_,_,_=>by subst h3;rfl
 | .ifc t v,u,⟨u',h1,h2⟩,_,_,_,_=>by subst h2;rfl
end
end Ev
end
