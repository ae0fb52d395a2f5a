/- Proved in the last of these 20 parts (this is part 5): SlaveTells. Conditions: those of the given statement, and no others. -/
import Derived.Test.YtkcmbampiiolbaaGreatPartd
import Derived.Test.YtkcmbampiiolbaaGreatParta
import Derived.OpenShut
set_option linter.unusedVariables false
set_option linter.unusedSimpArgs false
set_option linter.unusedSectionVars false
open Option renaming bind_some → zD
open List renaming replicate → zE, getD → zJ, mem_cons_of_mem → zS, getElem?_eq_getElem → zU
open Bool renaming and_eq_true → zO
noncomputable section
namespace Ev
open Go Go.RowKit Sx
section
variable {R:Type}
def zx:Nat->List SV->Fr
 | _,[]=>[]
 | n,s::q=>(n,s)::zx (n+1) q
def Wt(S:St)(v:ResultVar)(P:Program)(K:SV->Option R):Option R :=
 match v with
 | .tmp t=>if t<S.nt then (match get S.fr t with
  | some s=>K s
  | none=>none) else none
 | .cell a t=>match get S.fr a with
  | some (.pb i o)=>match get S.own i with
   | some (.box _ cs)=>match FM P t o cs with
    | some s=>K s
    | none=>none
   | some (.row t0 _ xs)=>match qF P t with
    | some (m,_,n)=>if t0.size=n∧o=0 then need (eqi (xs.length:Int) (m:Int)) (match tyc P t with
     | some (.ar m' t1)=>if m'=m then (match iX (.sl t0) (.sl t1) xs with
      | some ys=>K (.d (.ar m' t1) ys)
      | none=>none) else none
     | _=>none) else none
    | none=>none
   | _=>none
  | some (.prw i j sz o)=>match get S.own i,tyc P t with
   | some (.row (.cl t0) _ xs),some fy=>if sz=t0.size∧o=0∧t0=fy then (at? xs j).bind fun y=>K (.d (.cl t0) y) else none
   | some (.row t0 _ xs),some fy=>if sz=t0.size then (at? xs j).bind fun y=>match prj t0 o fy y with
    | some z=>K (.d fy z)
    | none=>none
    else none
   | _,_=>none
  | _=>none
def zy(P:Program)(S:St):List ResultVar->(List SV->Option R)->Option R
 | [],K=>K []
 | v::q,K=>Wt S v P fun s=>zy P S q fun r=>K (s::r)
def aPb(P:Program)(fn:Func)(K:St->SV->Option R):Kt R:=fun e S=>match e with
 | .x _=>none
 | _=>match S.up with
  | (n,fr)::up=>zy P S fn.results.toList fun ss=>K { S with fr:=fr,nt:=n,up:=up } (NK ss)
  | []=>none
def evC(P:Program)(env:Env)(fuel:Nat)(eq:R->R->Bool):Nat->Cl R
 | 0=>⟨fun _ _ _ _=>none,eq⟩
 | d+1=>⟨fun f ss S K=>match P.funcs[f]? with
  | some fn=>match fn.body with
   | some c=>if ss.length≤fn.ntmps∧fn.results.size≤5 then ev P env (evC P env fuel eq d) fuel (fun _=>none) 1 c { S with fr:=zx 0 ss,nt:=fn.ntmps,up:=(S.nt,S.fr)::S.up } (aPb P fn K) else none
   | none=>none
  | none=>none,eq⟩
end
section
variable {R:Type}{B:Nat->Prop}{F:Lx}{w0:Bs}{wr:Wr}{pl pl':List Place}{S S':St}{l l':List Value}{ls:List (List Value)}{w w':World}{L L' M:Lx}{P:Program}{env:Env}{fuel:Nat}{r:R}
theorem OA{pre:List Value}:∀{ss:List SV} {vs:List Value} {post:List Value},DenL pl L w ss vs->FrD pl L w (zx pre.length ss) (pre++vs++post):=by
 intro ss
 induction ss generalizing pre with
 | nil=>intro vs post _ t s h;cases h
 | cons a q ih =>
  rintro vs post ⟨v,us,rfl,h2,h3⟩ t s h;unfold zx get at h;split at h
  ·simp_all
  ·have:=ih (pre:=pre++[v]) (post:=post) h3 t s (by simp_all)
   simp_all
theorem anh(h:Rel B F w0 wr pl S l ls w){v:ResultVar}{R:Type}{K:SV->Option R}{r:R}(hs:Wt S v P K=some r):∃s u,K s=some r∧resv P l w v u∧Den pl (lx pl S.own++F) w s u:=by
 unfold Wt at hs;split at hs
 ·split at hs
  ·split at hs
   ·rename_i s hg
    exact⟨s,_,hs,aml rfl,h.fr _ s hg⟩
   grind
  grind
 ·rename_i a t
  split at hs
  ·rename_i i o hg
   split at hs
   ·rename_i T cs hb
    split at hs
    ·rename_i s hc
     obtain⟨g,n,c,h1,h2⟩:=h.fr a _ hg;obtain⟨g',n',c',us,h3,h4,h5,h6⟩:=h.ent _ (iI hb);rw[h1]at h3;cases h3;obtain⟨ag,sz,h7,h8,h9⟩:=BJ hc h5 h6;refine⟨s,_,hs,uJ h2 ?_,h9⟩
     exact CG (P:=P) (w:=w) (b:=g) (o:=o) (cs:=(us.drop o).take sz) h7 (by grind) (fun j v hj=>by
      refine h4.cell ?_
      grind)
    grind
   ·rename_i t0 e0 xs hb
    split at hs
    ·rename_i m e n har
     split at hs
     ·rename_i hc
      obtain⟨hsz,rfl⟩:=hc;obtain⟨hm,hq⟩:=iR hs;clear hs;have hm:(xs.length:Int)=(m:Int):=by simp_all[eqi]
      split at hq
      ·rename_i m' t1 hty
       split at hq
       ·rename_i hmm
        subst hmm;split at hq
        ·rename_i ys hys
         obtain⟨e1,hys⟩:=mq hys;cases e1;subst hys;obtain⟨g',n',c',h1,h2⟩:=h.fr a _ hg;obtain⟨p',h3,h4⟩:=h.ent _ (iI hb);rw[h1]at h3;cases h3;obtain⟨hn,cells,h5,h6⟩:=h4;have hxl:xs.length=m':=by omega
         refine⟨_,.agg cells.toArray,hq,uJ h2 ?_,cells,⟨hxl,h6⟩,by rfl⟩;have hty':=kg hty
         have:=kX (P:=P) (w:=w) (b:=g') (o:=0) (cs:=cells) hty' (by rw[h6.len,iW,iW];show _=m'*t0.size;rw[hxl]) (fun j v hj=>by
          have:=h5.cells (g:=g') rfl j v hj
          simp_all[Addr.add_lit'])
         simp_all[Rp.val,jf,Ty.agg]
        grind
       grind
      grind
     grind
    grind
   grind
  ·rename_i i j sz o hgx
   split at hs
   ·rename_i t0 e xs fy hg hy
    have hty:=kg hy;split at hs
    ·rename_i hc
     obtain⟨hsz,rfl,rfl⟩:=hc;obtain⟨y,hy1,hs⟩:=iy hs;obtain⟨g,b0,n,c,h1,h2⟩:=h.fr a _ hgx;obtain⟨p,h3,h4⟩:=h.ent _ (iI hg);rw[h1]at h3;cases h3;obtain⟨h5,h6,h7⟩:=lD hy1;obtain⟨_,hb0⟩:=h4.addr h7;cases hb0;obtain⟨cs,h8,h9⟩:=l9 h4 h6;refine⟨_,(rp (.cl t0)).val cs,hs,uJ h2 ?_,⟨cs,h8,rfl⟩⟩;have e0:(rp (Ty.cl t0)).val cs=(rp t0).val cs:=rfl;rw[e0];refine kX hty ((rp _).len h8.1) (fun k v hk=>?_);have:=h9 k v hk;have e:(rp (Ty.cl t0)).size=t0.size:=iW (.cl t0);simp_all[iW,Nat.add_assoc]
    grind
   ·rename_i t0 e xs fy hnc hg hy
    have hty:=kg hy;split at hs
    ·rename_i hsz
     obtain⟨y,hy1,hs⟩:=iy hs;split at hs
     ·rename_i z hp
      obtain⟨g,b0,n,c,h1,h2⟩:=h.fr a _ hgx;obtain⟨p,h3,h4⟩:=h.ent _ (iI hg);rw[h1]at h3;cases h3;obtain⟨h5,h6,h7⟩:=lD hy1;obtain⟨_,hb0⟩:=h4.addr h7;cases hb0;obtain⟨cs,h8,h9⟩:=l9 h4 h6;obtain⟨pre,c1,post,rfl,h10,h11⟩:=lS hp h8;refine⟨_,_,hs,uJ h2 ?_,⟨c1,h11,rfl⟩⟩;refine kX hty ((rp _).len h11) (fun k v hk=>?_);grind[List.append_assoc,List.getElem?_append_right,Nat.add_sub_cancel_left,List.getElem?_append_left,List.getElem?_eq_some_iff,iW,Nat.add_assoc]
     grind
    grind
   grind
  grind
def Wu(P:Program)(l:List Value)(w:World):List ResultVar->List Value->Prop
 | [],us=>us=[]
 | v::q,us=>∃u r,us=u::r∧resv P l w v u∧Wu P l w q r
theorem Ce(h:Rel B F w0 wr pl S l ls w){R:Type}{r:R}:∀{q:List ResultVar} {K:List SV->Option R},zy P S q K=some r->∃ss us,K ss=some r∧Wu P l w q us∧DenL pl (lx pl S.own++F) w ss us
 | [],K,hs=>⟨[],[],hs,rfl,rfl⟩
 | v::q,K,hs=>by obtain⟨s,u,h1,h3,h4⟩:=anh h hs;obtain⟨ss,us,h2,h5,h6⟩:=Ce h h1;exact⟨s::ss,u::us,h2,⟨u,us,rfl,h3,h5⟩,⟨u,us,rfl,h4,h6⟩⟩
theorem aPc{fn:Func}{Rr:Ending->World->Prop}{r1 r2 r3 r4:ResultVar}{v1 v2 v3 v4:Value}(hr:fn.results = #[r1,r2,r3,r4])(h1:resv P l w r1 v1)(h2:resv P l w r2 v2)(h3:resv P l w r3 v3)(h4:resv P l w r4 v4)
  (h:Rr (.returned (.tuple #[v1,v2,v3,v4])) w):bodyPost P fn Rr .ret (mk l) w:=by
 have h1:=pJ h1;have h2:=pJ h2;have h3:=pJ h3;have h4:=pJ h4;exact⟨rfl,_,by simp_all[nM],h⟩
theorem aPd{fn:Func}{Rr:Ending->World->Prop}{r1 r2 r3 r4 r5:ResultVar}{v1 v2 v3 v4 v5:Value}(hr:fn.results = #[r1,r2,r3,r4,r5])(h1:resv P l w r1 v1)(h2:resv P l w r2 v2)(h3:resv P l w r3 v3)(h4:resv P l w r4 v4)(h5:resv P l w r5 v5)
  (h:Rr (.returned (.tuple #[v1,v2,v3,v4,v5])) w):bodyPost P fn Rr .ret (mk l) w:=by
 have h1:=pJ h1;have h2:=pJ h2;have h3:=pJ h3;have h4:=pJ h4;have h5:=pJ h5;exact⟨rfl,_,by simp_all[nM],h⟩
theorem OB{fn:Func}{Rr:Ending->World->Prop}{us:List Value}(hn:fn.results.size≤5)(hr:Wu P l w fn.results.toList us)(h:Rr (.returned (NJ us)) w):bodyPost P fn Rr .ret (mk l) w:=by
 have hsz:fn.results.size=fn.results.toList.length:=by simp
 match hq:fn.results.toList,hr with
 | [],hr =>
  cases hr
  exact aOZ (by simp_all) h
 | [a],⟨u,q,h1,h2,h3⟩ =>
  cases h3
  subst h1;exact aOW (by grind) h2 h
 | [a,b],⟨u,q,h1,h2,u',q',h1',h2',h3⟩ =>
  cases h3
  subst h1 h1';exact aOX (by grind) h2 h2' h
 | [a,b,c],⟨u,q,h1,h2,u',q',h1',h2',u'',q'',h1'',h2'',h3⟩ =>
  cases h3
  subst h1 h1' h1'';exact aOY (by grind) h2 h2' h2'' h
 | [a,b,c,d],⟨u,q,h1,h2,u',q',h1',h2',u2,q2,h12,h22,u3,q3,h13,h23,h3⟩ =>
  cases h3
  subst h1 h1' h12 h13;exact aPc (by grind) h2 h2' h22 h23 h
 | [a,b,c,d,e],⟨u,q,h1,h2,u',q',h1',h2',u2,q2,h12,h22,u3,q3,h13,h23,u4,q4,h14,h24,h3⟩ =>
  cases h3
  subst h1 h1' h12 h13 h14;exact aPd (by grind) h2 h2' h22 h23 h24 h
 | a::b::c::d::e::f::q,_=>simp_all
theorem CK{fn:Func}{Rr:Ending->World->Prop}{a:Act}(h:bodyPost P fn Rr .ret a w):∀e:Ex,(∀i,e ≠ .x i)->bodyPost P fn Rr (Ws e) a w:=fun e he=>by
 cases e with
 | n=>exact h
 | r=>exact h
 | x i=>simp_all
theorem ak1{I:World->Prop}(henv:nI P I env){eq:R->R->Bool}(heq:∀a b,eq a b=true->a=b):∀d,w9 P I (evC (R:=R) P env fuel eq d)
 | 0=>by refine⟨heq,?_⟩;intro B F w0 wr pl S l ls w f ss vs K r KV _ _ _ hv _;cases hv
 | d+1=>by
  refine⟨heq,?_⟩;intro B F w0 wr pl S l ls w f ss vs K r KV hI h hd hv hk;subst hI;simp only[evC]at hv;split at hv
  ·rename_i fn hf
   split at hv
   ·rename_i c hb
    split at hv
    ·rename_i hcond
     have hlen:=hd.len;have hfr:=OA (pre:=[]) (post:=zE (fn.ntmps - vs.length) undef) hd;simp only[List.length_nil,List.nil_append]at hfr;have hR:Rel B F w0 wr pl { S with fr:=zx 0 ss,nt:=fn.ntmps,up:=(S.nt,S.fr)::S.up } (vs++zE (fn.ntmps - vs.length) undef) (l::ls) w:=by refine⟨h.hL,h.hB,h.pre,h.hI,h.hln,h.nx,?_,h.ent,hfr,⟨l,ls,rfl,h.nt,h.fr,h.up⟩,h.tn⟩;simp_all
     refine enter hf hb rfl rfl ?_;refine qp henv (ak1 henv heq d) (Hn:=True) (fun _ _=>rfl) c 1 wr pl _ _ w _ _ (PF.body (fun c w h=>by simp_all)) hR hv (fun e wr' pl' S' l' w' h' hw hv'=>?_);obtain rfl:=hw trivial
     have key:(∀i,e ≠ .x i)->(match S'.up with
       | (n,fr)::up=>zy P S' fn.results.toList fun ss=>K { S' with fr:=fr,nt:=n,up:=up } (NK ss)
       | []=>none)=some r->bodyPost P fn (fun e w'=>∃v,e = .returned v∧KV v w') (Ws e) (mk l') w':=fun he hv'=>by
      split at hv'
      ·rename_i n fr up hup
       obtain⟨ss',us,hv',h2,h3⟩:=Ce h' hv';have hu:=h'.up;rw[hup]at hu;obtain⟨l0,q0,e1,e2,e3,e4⟩:=hu;cases e1;refine CK (OB hcond.2 h2 ⟨_,rfl,?_⟩) e he;refine hk pl' { S' with fr:=fr,nt:=n,up:=up } (NK ss') (NJ us) w' ⟨h'.hL,h'.hB,h'.pre,h'.hI,h'.hln,h'.nx,e2,h'.ent,e3,e4,h'.tn⟩ ?_ (NM h3) hv';show n=S.nt;rw[<- h.nt];omega
      simp_all
     cases e with
     | n=>exact key (fun _ e=>by cases e) hv'
     | r=>exact key (fun _ e=>by cases e) hv'
     | x i=>cases hv'
    grind
   grind
  grind
end
def av:(a:List Ty)->As a->As a->Bool
 | [],_,_=>true
 | t::r,x,y=>eqV t x.1 y.1 && av r x.2 y.2
theorem UD:∀(rs:List Ty) (x y:As rs),av rs x y=true->x=y
 | [],_,_,_=>rfl
 | t::r,x,y,h=>by simp only[av,zO]at h;exact Prod.ext (o8 t _ _ h.1) (UD r _ _ h.2)
def idb(k:Nat):Nat->List (Nat×Option Nat)
 | 0=>[]
 | n+1=>(k,some k)::idb (k+1) n
def idw(k:Nat):Nat->List (Nat×Nat)
 | 0=>[]
 | n+1=>(k,k)::idw (k+1) n
def Wv:List (Nat×TE)->Nat->Bool
 | [],_=>false
 | (j,_)::q,i=>if j=i then true else Wv q i
def E8(a c:Nat)(b:List (Nat×TE)):List (Nat×Option Nat)->Bool
 | []=>true
 | (i,_)::q=>(decide (i<a) || (decide (i<a+c) && Wv b i)) && E8 a c b q
def xE(P:Program)(fn:Func)(sh:Sh):Kt (As sh.rs):=fun e S=>match e with
 | .x _=>none
 | _=>zy P S fn.results.toList fun ss=>zy P (nS (wnt sh.ro sh.eo ss S.own (idw 0 sh.es.length)) S) fn.results.toList fun ss' =>
  (mA sh.ro sh.eo ss' (nS (wnt sh.ro sh.eo ss S.own (idw 0 sh.es.length)) S).own (idb 0 sh.es.length)).bind fun mt =>
   if E8 sh.es.length sh.nn sh.eo mt.bd=true then NI sh.rs mt.ds else none
def evT(P:Program)(env:Env)(d fuel:Nat)(hs:Nat->Option Hint)(f:FuncId)(sh:Sh)(x:As sh.ps):Option (As sh.rs) :=
 match P.funcs[f]? with
 | some fn=>match fn.body with
  | some c=>match fA sh.as (en 0 sh.es) (qH sh.ps x) with
   | some (ss,own)=>if ss.length≤fn.ntmps∧fn.results.size≤5 then ev P env (evC P env fuel (av sh.rs) d) fuel hs 1 c { fr:=zx 0 ss,nt:=fn.ntmps,up:=[],own:=own,nx:=sh.es.length,log:=[],ln:=sh.es.length } (xE P fn sh) else none
   | none=>none
  | none=>none
 | none=>none
section
variable {B:Nat->Prop}{F:Lx}{w0:Bs}{wr:Wr}{pl pl':List Place}{S S':St}{l l':List Value}{ls:List (List Value)}{w w':World}{L L' M:Lx}{P:Program}{env:Env}{fuel:Nat}
theorem UE:∀{n k:Nat} {x:Nat×Option Nat},x∈idb k n↔k≤x.1∧x.1<k+n∧x.2=some x.1
 | 0,k,x=>by grind[idb]
 | n+1,k,x=>by rw[idb,List.mem_cons,UE];grind
theorem UF:∀{eo:List (Nat×TE)} {i:Nat},Wv eo i=true->∃x∈eo,x.1=i
 | (j,t)::q,i,h=>by
  unfold Wv at h;split at h
  ·rename_i e;exact⟨_,List.mem_cons_self ..,e⟩
  ·obtain⟨x,hx,e⟩:=UF h
   exact⟨x,zS _ hx,e⟩
theorem OC{n nn:Nat}{eo:List (Nat×TE)}:∀{bd:List (Nat×Option Nat)},E8 n nn eo bd=true->∀x∈bd,x.1<n∨(x.1<n+nn∧∃y∈eo,y.1=x.1)
 | [],_,x,hx=>by cases hx
 | (i,b)::q,h,x,hx=>by
  simp only[E8,zO,Bool.or_eq_true,decide_eq_true_eq]at h;rcases List.mem_cons.1 hx with hx | hx
  ·grind[UF]
  ·exact OC h.2 x hx
theorem q7_{I:World->Prop}(henv:nI P I env){d:Nat}{hs:Nat->Option Hint}{f:FuncId}{sh:Sh}{m:As sh.ps->Option (As sh.rs)}(hm:∀x,evT P env d fuel hs f sh x=m x):ak P I f ⟨sh,m⟩:=by
 intro F w0 pl x y ss own vs hx hfA hpl hI hL hE hD;have hx:m x=some y:=hx;have hfA:fA sh.as (en 0 sh.es) (qH sh.ps x)=some (ss,own):=hfA;have hpl:pl.length=sh.es.length:=hpl;rw[<- hm x]at hx;unfold evT at hx;split at hx
 ·rename_i fn hf
  split at hx
  ·rename_i c hb
   rw[hfA]at hx;simp only at hx;split at hx
   ·rename_i hcond
    have hlen:=hD.len;have hfr:=OA (pre:=[]) (post:=zE (fn.ntmps - vs.length) undef) hD;simp only[List.length_nil,List.nil_append]at hfr;have hR:Rel (Bo pl own w0) F ⟨w0,pl,I⟩ ⟨w0,lx pl own++F,sh.es.length,pl,ids own⟩ pl { fr:=zx 0 ss,nt:=fn.ntmps,up:=[],own:=own,nx:=sh.es.length,log:=[],ln:=sh.es.length } (vs++zE (fn.ntmps - vs.length) undef) [] w0:=by refine⟨hL,Blw.refl _ _,fun _ _ h=>h,hI,hpl.symm,hpl.symm,?_,hE,hfr,rfl,⟨Fz.refl _ _,Sub.refl _ _,Nat.le_refl _,fun _ _ h=>h,fun e he _=>List.mem_map_of_mem (f:=fun e:Nat×Ent=>e.1) he,fun _ _ _ _ _ _=>rfl⟩⟩;simp_all
    refine enter hf hb rfl rfl ?_;refine qp henv (ak1 henv (UD sh.rs) d) (Hn:=False) (fun h=>h.elim) c 1 _ pl _ _ w0 _ _ (PF.body (fun c w h=>by simp_all)) hR hx (fun e wr' pl' S' l' w' h' hw hv'=>?_)
    have key:(∀i,e ≠ .x i)->(zy P S' fn.results.toList fun ss=>zy P (nS (wnt sh.ro sh.eo ss S'.own (idw 0 sh.es.length)) S') fn.results.toList fun ss' =>
      (mA sh.ro sh.eo ss' (nS (wnt sh.ro sh.eo ss S'.own (idw 0 sh.es.length)) S').own (idb 0 sh.es.length)).bind fun mt =>
      if E8 sh.es.length sh.nn sh.eo mt.bd=true then NI sh.rs mt.ds else none)=some y ->
      bodyPost P fn (fun e w'=>∃us,e = .returned (NJ us)∧After sh y F w0 pl own w' us) (Ws e) (mk l') w':=fun he hv'=>by
     obtain⟨ss0,_,hv',_,_⟩:=Ce h' hv';have hz:=(tq (q:=wnt sh.ro sh.eo ss0 S'.own (idw 0 sh.es.length)) h').1;generalize nS (wnt sh.ro sh.eo ss0 S'.own (idw 0 sh.es.length)) S'=S1 at hv' hz;obtain⟨ss1,us,hv',h3,h4⟩:=Ce hz hv';obtain⟨mt,hmt,hv'⟩:=iy hv';split at hv'
     ·rename_i hout
      have hout:=OC hout;obtain⟨rr,own',hfo,mo⟩:=atD (w:=w') (L:=lx pl' S1.own++F) (pl:=pl') hz.ent hmt;rw[<- FW hv']at hfo
      let gp (i:Nat):Place:=match get mt.bd (sh.es.length+i) with
       | some (some j)=>(pl'[j]?).getD ⟨none,0,0⟩
       | _=>⟨none,0,0⟩
      let plo:List Place:=pl++(List.range sh.nn).map gp
      have hpre:∀i p,pl[i]? = some p->pl'[i]? = some p:=hz.pre
      have hb:BdOk pl' plo mt.bd:=fun z hz'=>by
       have hfn:=mo.fn z hz';obtain⟨i,b⟩:=z;simp only at hfn ⊢;rcases Nat.lt_or_ge i sh.es.length with hi | hi
       ·have h0:(i,some i)∈mt.bd:=mo.old _ (UE.2 ⟨Nat.zero_le _,by omega,rfl⟩)
        have:=mo.fn _ h0;grind
       ·rcases hout _ hz' with h5 | ⟨h5,q,hq,hq1⟩
        ·omega
        ·simp only at h5 hq1
         have hat:plo[i]? = some (gp (i - sh.es.length)):=by grind
         have hgp:gp (i - sh.es.length)=match (some b:Option (Option Nat)) with
           | some (some j)=>(pl'[j]?).getD ⟨none,0,0⟩
           | _=>⟨none,0,0⟩:=by
          grind
         cases b with
         | none=>simp_all
         | some j =>
          obtain⟨b',hb1,hb2⟩:=mo.has q hq;rw[hq1]at hb1;have:=mo.fn _ hb1;simp only at this;rw[hfn]at this;cases this;obtain⟨e,he⟩:=hb2 j rfl;obtain⟨p,hp⟩:=(hz.ent _ (iI he)).place;simp_all
      obtain⟨hd',he'⟩:=mo.den plo hb;obtain⟨hpair,hmem⟩:=mo.pair hz.hL hb;have hsub:∀k,some k∈lx plo own'++F->some k∈lx pl' S1.own++F:=fun k hk=>by grind
      refine CK (OB hcond.2 h3 ⟨us,rfl,plo,rr,own',hfo,NL _,by grind,hz.hB,?_,he'.sub hsub,(hd' us h4).ext (Ext.sub hsub)⟩) e he;have hin:∀k,some k∈lx plo own'->some k∈lx pl' S1.own:=fun k hk=>by grind
      exact⟨hpair,fun k hk=>hz.hL.lo k (hin k hk),fun k hk=>hz.hL.hi k (hin k hk),hz.hL.base,hz.hL.far⟩
     simp_all
    cases e with
    | n=>exact key (fun _ e=>by cases e) hv'
    | r=>exact key (fun _ e=>by cases e) hv'
    | x i=>cases hv'
   grind
  grind
 grind
end
end Ev
end
noncomputable section
namespace Ev
open Go Go.RowKit Sx
abbrev Us(R:Type):=List (St->Option R)
abbrev Orc(R:Type):=Nat->Us R->St->Option R
section
variable {R:Type}
def evJ(P:Program)(env:Env)(cl:Cl R)(fuel:Nat)(hs:Nat->Option Hint)(J:Orc R):Us R->Nat->Code->St->Kt R->Option R
 | _,_,.skip,S,k=>k .n S
 | _,_,.label _,S,k=>k .n S
 | _,_,.ret,S,k=>k .r S
 | _,_,.exit id,S,k=>k (.x id) S
 | us,p,.seq x y,S,k=>match hs p with
  | some h=>evJ P env cl fuel hs J us (2*p) x S (jG P (some h) (J p us) k)
  | none=>evJ P env cl fuel hs J us (2*p) x S (jG P none (fun S'=>evJ P env cl fuel hs J us (2*p+1) y S' k) k)
 | us,p,.block id c,S,k=>evJ P env cl fuel hs J us (2*p) c S (zw id k)
 | us,p,.cond c x y,S,k=>match c with
  | .tmp t=>if t<S.nt then match get S.fr t with
   | some (.d .bool b)=>if b=true then evJ P env cl fuel hs J us (2*p) x { S with fr:=(t,.d .bool true)::S.fr } k else evJ P env cl fuel hs J us (2*p+1) y { S with fr:=(t,.d .bool false)::S.fr } k
   | _=>none else none
  | .const (.bool b)=>if b=true then evJ P env cl fuel hs J us (2*p) x S k else evJ P env cl fuel hs J us (2*p+1) y S k
  | _=>none
 | _,_,.region _ ⟨ops⟩ draw,S,k=>Wq P env cl ops draw S (k .n)
 | us,p,.loop c,S,k=>match hs p with
  | some h=>(nrm P h S).bind (J p us)
  | none=>ay (fun self S=>evJ P env cl fuel hs J (us++[self]) (2*p) c S (jG P none self k)) fuel S
 | _,_,.rangeFunc _ _ _ _,_,_=>none
 | _,_,.scope _,_,_=>none
 | _,_,.goto _,_,_=>none
 | _,_,.refuse _,_,_=>none
def lft(q p:Nat):Bool:=q / 2 ^ (q.log2 - p.log2 - 1)%2 == 0
def In(q p:Nat):Prop:=∃n r,q=p*2 ^ n+r∧r<2 ^ n
theorem In.self(p:Nat):In p p:=⟨0,0,by simp,by simp⟩
theorem In.l{q p:Nat}:In q (2*p)->In q p:=fun ⟨n,r,h1,h2⟩=>⟨n+1,r,by grind,by omega⟩
theorem In.r{q p:Nat}:In q (2*p+1)->In q p:=fun ⟨n,r,h1,h2⟩=>⟨n+1,2 ^ n+r,by grind,by omega⟩
theorem In.cases{q p:Nat}:In q p->q=p∨In q (2*p)∨In q (2*p+1):=fun ⟨n,r,h1,h2⟩=>by
 cases n with
 | zero=>omega
 | succ n =>
  right;have e:p*2 ^ (n+1)=2*p*2 ^ n:=by grind
  have e2:2 ^ (n+1)=2 ^ n+2 ^ n:=by omega
  have e3:(2*p+1)*2 ^ n=2*p*2 ^ n+2 ^ n:=by grind
  by_cases h:r<2 ^ n
  ·exact .inl ⟨n,r,by omega,h⟩
  ·exact .inr ⟨n,r - 2 ^ n,by omega,by omega⟩
theorem Cf{p n r:Nat}(hp:0<p)(hr:r<2 ^ n):(p*2 ^ n+r).log2=p.log2+n:=by
 have h2:0<2 ^ n:=Nat.pow_pos (by decide);have hne:p*2 ^ n+r≠0:=by have:=Nat.mul_pos hp h2;omega
 apply Nat.le_antisymm
 ·apply Nat.le_of_lt_succ
  rw[Nat.log2_lt hne,Nat.succ_eq_add_one,show p.log2+n+1=(p.log2+1)+n from by omega,Nat.pow_add];have h1:p<2 ^ (p.log2+1):=(Nat.log2_lt (by omega)).1 (Nat.lt_succ_self _)
  calc p*2 ^ n+r<p*2 ^ n+2 ^ n:=by omega
   _=(p+1)*2 ^ n:=by grind
   _≤_:=Nat.mul_le_mul_right _ h1
 ·rw[Nat.le_log2 hne,Nat.pow_add]
  have h1:2 ^ p.log2≤p:=(Nat.le_log2 (by omega)).1 (Nat.le_refl _);have:=Nat.mul_le_mul_right (2 ^ n) h1;omega
theorem lM{q p:Nat}(hp:0<p):In q (2*p)->lft q p=true:=fun ⟨n,r,h1,h2⟩=>by
 unfold lft;have hl:q.log2=(2*p).log2+n:=by simp_all[Cf]
 have hl2:(2*p).log2=p.log2+1:=by have:=Cf (p:=p) (n:=1) (r:=0) hp (by decide);grind
 grind[Nat.mul_comm,Nat.mul_add_div,Nat.pow_pos,Nat.div_eq_of_lt]
theorem pG{q p:Nat}(hp:0<p):In q (2*p+1)->lft q p=false:=fun ⟨n,r,h1,h2⟩=>by
 unfold lft;have hl:q.log2=(2*p+1).log2+n:=by simp_all[Cf]
 have hl2:(2*p+1).log2=p.log2+1:=by have:=Cf (p:=p) (n:=1) (r:=1) hp (by decide);grind
 have e:q.log2 - p.log2 - 1=n:=by omega
 rw[e,h1];have:((2*p+1)*2 ^ n+r) / 2 ^ n=2*p+1:=by rw[Nat.mul_comm (2*p+1),Nat.mul_add_div (Nat.pow_pos (by decide)),Nat.div_eq_of_lt h2,Nat.add_zero]
 simp_all
theorem In.pos{q p:Nat}(hp:0<p):In q p->p≤q:=fun ⟨n,r,h1,_⟩=>by have h2:0<2 ^ n:=Nat.pow_pos (by decide);have:=Nat.mul_le_mul_left p h2;omega
def fnd(P:Program)(env:Env)(cl:Cl R)(fuel:Nat)(hs:Nat->Option Hint)(q:Nat):Code->Nat->Kt R->Us R->St->Option R
 | .seq x y,p,k,us=>if q=p then fun S=>ev P env cl fuel hs (2*p+1) y S k
  else if lft q p=true then fnd P env cl fuel hs q x (2*p) (jG P (hs p) (fun S'=>ev P env cl fuel hs (2*p+1) y S' k) k) us else fnd P env cl fuel hs q y (2*p+1) k us
 | .block id c,p,k,us=>if q=p then fun _=>none else if lft q p=true then fnd P env cl fuel hs q c (2*p) (zw id k) us else fun _=>none
 | .cond _ x y,p,k,us=>if q=p then fun _=>none else if lft q p=true then fnd P env cl fuel hs q x (2*p) k us else fnd P env cl fuel hs q y (2*p+1) k us
 | .loop c,p,k,us=>match us with
  | []=>if q=p then fun S=>ay (fun self S=>ev P env cl fuel hs (2*p) c S (jG P (hs p) self k)) fuel S else fun _=>none
  | u::us=>if q=p then fun S=>ev P env cl fuel hs (2*p) c S (jG P (hs p) u k) else if lft q p=true then fnd P env cl fuel hs q c (2*p) (jG P (hs p) u k) us else fun _=>none
 | _,_,_,_=>fun _=>none
def pce(P:Program)(env:Env)(cl:Cl R)(fuel:Nat)(hs:Nat->Option Hint)(J:Orc R)(q:Nat):Code->Nat->Kt R->Us R->Us R->St->Option R
 | .seq x y,p,k,u0,us=>if q=p then fun S=>evJ P env cl fuel hs J u0 (2*p+1) y S k
  else if lft q p=true then pce P env cl fuel hs J q x (2*p) (match hs p with
   | some h=>jG P (some h) (J p u0) k
   | none=>jG P none (fun S'=>evJ P env cl fuel hs J u0 (2*p+1) y S' k) k) u0 us else pce P env cl fuel hs J q y (2*p+1) k u0 us
 | .block id c,p,k,u0,us=>if q=p then fun _=>none else if lft q p=true then pce P env cl fuel hs J q c (2*p) (zw id k) u0 us else fun _=>none
 | .cond _ x y,p,k,u0,us=>if q=p then fun _=>none else if lft q p=true then pce P env cl fuel hs J q x (2*p) k u0 us else pce P env cl fuel hs J q y (2*p+1) k u0 us
 | .loop c,p,k,u0,us=>match us with
  | []=>if q=p then fun S=>ay (fun self S=>evJ P env cl fuel hs J (u0++[self]) (2*p) c S (jG P (hs p) self k)) fuel S else fun _=>none
  | u::us=>if q=p then fun S=>evJ P env cl fuel hs J (u0++[u]) (2*p) c S (jG P (hs p) u k) else if lft q p=true then pce P env cl fuel hs J q c (2*p) (jG P (hs p) u k) (u0++[u]) us else fun _=>none
 | _,_,_,_,_=>fun _=>none
end
section
variable {R:Type}{P:Program}{env:Env}{cl:Cl R}{fuel:Nat}{hs:Nat->Option Hint}{J:Orc R}
theorem OD:∀{c:Code} {p:Nat} {us:Us R} {S:St} {k:Kt R},0<p->(∀q us',In q p->J q (us++us')=fnd P env cl fuel hs q c p k us')->evJ P env cl fuel hs J us p c S k=ev P env cl fuel hs p c S k:=by
 intro c
 induction c with
 | skip=>intros;rfl
 | label _=>intros;rfl
 | ret=>intros;rfl
 | exit _=>intros;rfl
 | rangeFunc=>intros;rfl
 | scope=>intros;rfl
 | goto=>intros;rfl
 | refuse=>intros;rfl
 | region id ops draw=>intros;rfl
 | seq x y ihx ihy =>
  intro p us S k hp H;have hx:∀q us',In q (2*p)->J q (us++us')=fnd P env cl fuel hs q x (2*p) (jG P (hs p) (fun S'=>ev P env cl fuel hs (2*p+1) y S' k) k) us':=fun q us' hq=>by rw[H q us' hq.l,fnd,if_neg (by have:=In.pos (by omega) hq;omega),if_pos (lM hp hq)]
  have hy:∀q us',In q (2*p+1)->J q (us++us')=fnd P env cl fuel hs q y (2*p+1) k us':=fun q us' hq=>by rw[H q us' hq.r,fnd,if_neg (by have:=In.pos (by omega) hq;omega),if_neg (by rw[pG hp hq];decide)]
  have hJ:J p us=fun S=>ev P env cl fuel hs (2*p+1) y S k:=by have:=H p [] (In.self p);rw[List.append_nil]at this;rw[this,fnd,if_pos rfl]
  rw[evJ,ev];split
  ·rename_i h hh
   rw[hJ,<- hh];exact ihx (by omega) hx
  ·rename_i hh
   have:(fun S'=>evJ P env cl fuel hs J us (2*p+1) y S' k)=(fun S'=>ev P env cl fuel hs (2*p+1) y S' k):=funext fun S'=>ihy (by omega) hy;rw[this,<- hh];exact ihx (by omega) hx
 | block id c ih =>
  intro p us S k hp H;rw[evJ,ev];exact ih (by omega) (fun q us' hq=>by rw[H q us' hq.l,fnd,if_neg (by have:=In.pos (by omega) hq;omega),if_pos (lM hp hq)])
 | cond c x y ihx ihy =>
  intro p us S k hp H;have hx:∀q us',In q (2*p)->J q (us++us')=fnd P env cl fuel hs q x (2*p) k us':=fun q us' hq=>by rw[H q us' hq.l,fnd,if_neg (by have:=In.pos (by omega) hq;omega),if_pos (lM hp hq)]
  have hy:∀q us',In q (2*p+1)->J q (us++us')=fnd P env cl fuel hs q y (2*p+1) k us':=fun q us' hq=>by rw[H q us' hq.r,fnd,if_neg (by have:=In.pos (by omega) hq;omega),if_neg (by rw[pG hp hq];decide)]
  have e1:∀S,evJ P env cl fuel hs J us (2*p) x S k=ev P env cl fuel hs (2*p) x S k:=fun S=>ihx (by omega) hx;have e2:∀S,evJ P env cl fuel hs J us (2*p+1) y S k=ev P env cl fuel hs (2*p+1) y S k:=fun S=>ihy (by omega) hy;unfold evJ ev;simp only[e1,e2]
  all_goals rfl
 | loop c ih =>
  intro p us S k hp H;have hJ:J p us=fun S=>ay (fun self S=>ev P env cl fuel hs (2*p) c S (jG P (hs p) self k)) fuel S:=by have:=H p [] (In.self p);rw[List.append_nil]at this;rw[this,fnd,if_pos rfl]
  rw[evJ,ev];split
  ·rename_i h hh
   rw[hJ,hh]
  ·rename_i hh
   have:(fun self S=>evJ P env cl fuel hs J (us++[self]) (2*p) c S (jG P none self k))=(fun self S=>ev P env cl fuel hs (2*p) c S (jG P (hs p) self k)):=by funext self S;rw[hh];refine ih (by omega) (fun q us' hq=>?_);rw[List.append_assoc,H q _ hq.l,List.singleton_append,fnd,if_neg (by have:=In.pos (by omega) hq;omega),if_pos (lM hp hq),hh]
   rw[this,hh]
theorem azZ{q:Nat}:∀{c:Code} {p:Nat} {u0:Us R} {k:Kt R} {us:Us R},0<p->In q p->(∀q us',In q p->J q (u0++us')=fnd P env cl fuel hs q c p k us')->pce P env cl fuel hs J q c p k u0 us=fnd P env cl fuel hs q c p k us:=by
 intro c
 induction c with
 | skip=>intros;rfl
 | label _=>intros;rfl
 | ret=>intros;rfl
 | exit _=>intros;rfl
 | rangeFunc=>intros;rfl
 | scope=>intros;rfl
 | goto=>intros;rfl
 | refuse=>intros;rfl
 | region id ops draw=>intros;rfl
 | seq x y ihx ihy =>
  intro p us k us2 hp hq H;have hx:∀q us',In q (2*p)->J q (us++us')=fnd P env cl fuel hs q x (2*p) (jG P (hs p) (fun S'=>ev P env cl fuel hs (2*p+1) y S' k) k) us':=fun q us' hq=>by rw[H q us' hq.l,fnd,if_neg (by have:=In.pos (by omega) hq;omega),if_pos (lM hp hq)]
  have hy:∀q us',In q (2*p+1)->J q (us++us')=fnd P env cl fuel hs q y (2*p+1) k us':=fun q us' hq=>by rw[H q us' hq.r,fnd,if_neg (by have:=In.pos (by omega) hq;omega),if_neg (by rw[pG hp hq];decide)]
  have hJ:J p us=fun S=>ev P env cl fuel hs (2*p+1) y S k:=by have:=H p [] (In.self p);rw[List.append_nil]at this;rw[this,fnd,if_pos rfl]
  have he:(fun S'=>evJ P env cl fuel hs J us (2*p+1) y S' k)=(fun S'=>ev P env cl fuel hs (2*p+1) y S' k):=funext fun S'=>OD (by omega) hy;rw[pce,fnd];rcases hq.cases with h | h | h
  ·rw[if_pos h,if_pos h];exact he
  ·have hne:q≠p:=by have:=In.pos (by omega) h;omega
   rw[if_neg hne,if_neg hne,if_pos (lM hp h),if_pos (lM hp h)]
   have hk:(match hs p with
    | some h=>jG P (some h) (J p us) k
    | none=>jG P none (fun S'=>evJ P env cl fuel hs J us (2*p+1) y S' k) k)=jG P (hs p) (fun S'=>ev P env cl fuel hs (2*p+1) y S' k) k:=by
    split
    ·rename_i hn hh;rw[hJ,hh]
    ·rename_i hh;rw[he,hh]
   rw[hk];exact ihx (by omega) h hx
  ·have hne:q≠p:=by have:=In.pos (by omega) h;omega
   rw[if_neg hne,if_neg hne,if_neg (by rw[pG hp h];decide),if_neg (by rw[pG hp h];decide)];exact ihy (by omega) h hy
 | block id c ih =>
  intro p us k us2 hp hq H;rw[pce,fnd];rcases hq.cases with h | h | h
  ·rw[if_pos h,if_pos h]
  ·have hne:q≠p:=by have:=In.pos (by omega) h;omega
   rw[if_neg hne,if_neg hne,if_pos (lM hp h),if_pos (lM hp h)];exact ih (by omega) h (fun q us' hq=>by rw[H q us' hq.l,fnd,if_neg (by have:=In.pos (by omega) hq;omega),if_pos (lM hp hq)])
  ·have hne:q≠p:=by have:=In.pos (by omega) h;omega
   rw[if_neg hne,if_neg hne,if_neg (by rw[pG hp h];decide),if_neg (by rw[pG hp h];decide)]
 | cond c x y ihx ihy =>
  intro p us k us2 hp hq H;have hx:∀q us',In q (2*p)->J q (us++us')=fnd P env cl fuel hs q x (2*p) k us':=fun q us' hq=>by rw[H q us' hq.l,fnd,if_neg (by have:=In.pos (by omega) hq;omega),if_pos (lM hp hq)]
  have hy:∀q us',In q (2*p+1)->J q (us++us')=fnd P env cl fuel hs q y (2*p+1) k us':=fun q us' hq=>by rw[H q us' hq.r,fnd,if_neg (by have:=In.pos (by omega) hq;omega),if_neg (by rw[pG hp hq];decide)]
  rw[pce,fnd];rcases hq.cases with h | h | h
  ·rw[if_pos h,if_pos h]
  ·have hne:q≠p:=by have:=In.pos (by omega) h;omega
   rw[if_neg hne,if_neg hne,if_pos (lM hp h),if_pos (lM hp h)];exact ihx (by omega) h hx
  ·have hne:q≠p:=by have:=In.pos (by omega) h;omega
   rw[if_neg hne,if_neg hne,if_neg (by rw[pG hp h];decide),if_neg (by rw[pG hp h];decide)];exact ihy (by omega) h hy
 | loop c ih =>
  intro p us k us2 hp hq H;have hb:∀(u:St->Option R) q us',In q (2*p)->J q ((us++[u])++us')=fnd P env cl fuel hs q c (2*p) (jG P (hs p) u k) us':=fun u q us' hq=>by rw[List.append_assoc,H q _ hq.l,List.singleton_append,fnd,if_neg (by have:=In.pos (by omega) hq;omega),if_pos (lM hp hq)]
  have he:∀u S,evJ P env cl fuel hs J (us++[u]) (2*p) c S (jG P (hs p) u k)=ev P env cl fuel hs (2*p) c S (jG P (hs p) u k):=fun u S=>OD (by omega) (hb u)
  cases us2 with
  | nil =>
   rw[pce,fnd];split
   ·simp only[he]
   ·rfl
  | cons u us2 =>
   rw[pce,fnd];rcases hq.cases with h | h | h
   ·rw[if_pos h,if_pos h]
    simp only[he]
   ·have hne:q≠p:=by have:=In.pos (by omega) h;omega
    rw[if_neg hne,if_neg hne,if_pos (lM hp h),if_pos (lM hp h)];exact ih (by omega) h (hb u)
   ·have hne:q≠p:=by have:=In.pos (by omega) h;omega
    rw[if_neg hne,if_neg hne,if_neg (by rw[pG hp h];decide),if_neg (by rw[pG hp h];decide)]
theorem zT{σ:Type}{mk:σ->St}{F:(St->Option R)->St->Option R}{G:(σ->Option R)->σ->Option R}(h:∀g s,F g (mk s)=G (fun t=>g (mk t)) s):∀n s,ay F n (mk s)=ay G n s
 | 0,s=>rfl
 | n+1,s=>by
  have ih:=zT h n;show F (ay F n) (mk s)=G (ay G n) s;rw[h]
  congr 1
  funext t;exact ih t
theorem In.one:∀{q:Nat},0<q->In q 1:=fun {q} h=>⟨q.log2,q - 2 ^ q.log2,by
  have:=(Nat.le_log2 (n:=q) (k:=q.log2) (by omega)).1 (Nat.le_refl _)
  omega,by
  have h1:q<2 ^ (q.log2+1):=(Nat.log2_lt (by omega)).1 (Nat.lt_succ_self _)
  omega⟩
def jfn(P:Program)(env:Env)(d fuel:Nat)(hs:Nat->Option Hint)(f:FuncId)(sh:Sh):Orc (As sh.rs):=fun q us =>
 match P.funcs[f]? with
 | some fn=>match fn.body with
  | some c=>fnd P env (evC P env fuel (av sh.rs) d) fuel hs q c 1 (xE P fn sh) us
  | none=>fun _=>none
 | none=>fun _=>none
def pfn(P:Program)(env:Env)(d fuel:Nat)(hs:Nat->Option Hint)(f:FuncId)(sh:Sh)(J:Orc (As sh.rs)):Orc (As sh.rs):=fun q us =>
 match P.funcs[f]? with
 | some fn=>match fn.body with
  | some c=>pce P env (evC P env fuel (av sh.rs) d) fuel hs J q c 1 (xE P fn sh) [] us
  | none=>fun _=>none
 | none=>fun _=>none
def rfn(P:Program)(env:Env)(d fuel:Nat)(hs:Nat->Option Hint)(f:FuncId)(sh:Sh)(J:Orc (As sh.rs))(x:As sh.ps):Option (As sh.rs) :=
 match P.funcs[f]? with
 | some fn=>match fn.body with
  | some c=>match fA sh.as (en 0 sh.es) (qH sh.ps x) with
   | some (ss,own)=>if ss.length≤fn.ntmps∧fn.results.size≤5 then evJ P env (evC P env fuel (av sh.rs) d) fuel hs J [] 1 c { fr:=zx 0 ss,nt:=fn.ntmps,up:=[],own:=own,nx:=sh.es.length,log:=[],ln:=sh.es.length } (xE P fn sh) else none
   | none=>none
  | none=>none
 | none=>none
theorem E9{d:Nat}{f:FuncId}{sh:Sh}{q:Nat}{us:Us (As sh.rs)}(hq:0<q):jfn P env d fuel hs f sh q us=pfn P env d fuel hs f sh (jfn P env d fuel hs f sh) q us:=by
 show _=(match P.funcs[f]? with
  | some fn=>match fn.body with
   | some c=>pce P env (evC P env fuel (av sh.rs) d) fuel hs (jfn P env d fuel hs f sh) q c 1 (xE P fn sh) [] us
   | none=>fun _=>none
  | none=>fun _=>none)
 grind[jfn,fnd,evC,av,xE,azZ,In.one]
theorem qb_{d:Nat}{f:FuncId}{sh:Sh}{x:As sh.ps}:evT P env d fuel hs f sh x=rfn P env d fuel hs f sh (jfn P env d fuel hs f sh) x:=by
 cases hf:P.funcs[f]? with
 | none=>unfold evT rfn;rw[hf]
 | some fn =>
  cases hb:fn.body with
  | none=>unfold evT rfn;rw[hf];simp only[hb]
  | some c =>
   have e:∀q us,jfn P env d fuel hs f sh q us=fnd P env (evC P env fuel (av sh.rs) d) fuel hs q c 1 (xE P fn sh) us:=fun q us=>by unfold jfn;rw[hf];simp only[hb]
   unfold evT rfn;rw[hf];simp only[hb];have e2:∀S,evJ P env (evC P env fuel (av sh.rs) d) fuel hs (jfn P env d fuel hs f sh) [] 1 c S (xE P fn sh)=ev P env (evC P env fuel (av sh.rs) d) fuel hs 1 c S (xE P fn sh):=fun S=>OD (by decide) (fun q us _=>by rw[List.nil_append];exact e q us)
   first
   | (simp only[e2];done)
   | (simp only[e2];rfl)
theorem zcc{P:Program}{I:World->Prop}{env:Env}{d:Nat}{hs:Nat->Option Hint}{f:FuncId}{sh:Sh}{m:As sh.ps->Option (As sh.rs)}(he:nI P I env)(R:Orc (As sh.rs)->As sh.ps->Option (As sh.rs))(hc:∀J x,rfn P env d 18446744073709551616 hs f sh J x=R J x)(ht:∀x,R (jfn P env d 18446744073709551616 hs f sh) x=m x):ak P I f ⟨sh,m⟩:=q7_ he fun x=>qb_.trans ((hc _ x).trans (ht x))
theorem ctn{P:Program}{I:World->Prop}{env:Env}{f:FuncId}{sh:Sh}{m:As sh.ps->Option (As sh.rs)}(he:nI P I env)(d:Nat)(hm:∀J x,rfn P env d 18446744073709551616 (Ev.get []) f sh J x=m x):ak P I f ⟨sh,m⟩:=q7_ he fun x=>qb_.trans (hm _ x)
def rX(q:Nat):Code->Nat->Nat->Bool
 | .seq x y,p,n=>if q=p then false else if lft q p=true then rX q x (2*p) n else rX q y (2*p+1) n
 | .block _ c,p,n=>if q=p then false else if lft q p=true then rX q c (2*p) n else false
 | .cond _ x y,p,n=>if q=p then false else if lft q p=true then rX q x (2*p) n else rX q y (2*p+1) n
 | .loop c,p,n=>match n with
  | 0=>decide (q=p)
  | n+1=>if q=p then false else if lft q p=true then rX q c (2*p) n else false
 | _,_,_=>false
def lpf(P:Program)(f:FuncId)(q n:Nat):Bool:=match P.funcs[f]? with
 | some fn=>match fn.body with
  | some c=>rX q c 1 n
  | none=>false
 | none=>false
theorem ani{q:Nat}:∀{c:Code} {p:Nat} {u0 us:Us R} {k:Kt R} {S:St},rX q c p us.length=true ->
  pce P env cl fuel hs J q c p k u0 us S=ay (fun self S=>pce P env cl fuel hs J q c p k u0 (us++[self]) S) fuel S:=by
 intro c
 induction c with
 | skip | label _ | ret | exit _ | rangeFunc | scope | goto | refuse | region _ _ _=>intro p u0 us k S h;cases h
 | seq x y ihx ihy =>
  intro p u0 us k S h;unfold rX at h;split at h
  ·cases h
  ·rename_i hne
   split at h
   ·simp_all[pce,if_neg,if_pos]
   simp_all[pce,if_neg]
 | block id c ih =>
  simp_all[rX,pce,if_neg,if_pos]
 | cond c x y ihx ihy =>
  intro p u0 us k S h;unfold rX at h;split at h
  ·cases h
  ·rename_i hne
   split at h
   ·simp_all[pce,if_neg,if_pos]
   simp_all[pce,if_neg]
 | loop c ih =>
  intro p u0 us k S h
  cases us with
  | nil =>
   have h:decide (q=p)=true:=h;simp_all[of_decide_eq_true,pce,List.nil_append,if_pos]
  | cons u us =>
   simp_all[lft,rX,pce,List.cons_append,if_neg,if_pos]
theorem OE{d:Nat}{f:FuncId}{sh:Sh}{J:Orc (As sh.rs)}{q:Nat}{us:Us (As sh.rs)}(h:lpf P f q us.length=true)(S:St) :
  pfn P env d fuel hs f sh J q us S=ay (fun self S=>pfn P env d fuel hs f sh J q (us++[self]) S) fuel S:=by
 cases hf:P.funcs[f]? with
 | none=>simp_all[lpf]
 | some fn =>
  cases hb:fn.body with
  | none=>simp_all[lpf]
  | some c =>
   simp_all[lpf,pfn,ani]
class CU(K R:Type) (G T:outParam Type) where
 cc:(St->R)->K->G
 tu:K->T->St
 un:G->T->R
 law:∀f k s,un (cc f k) s=f (tu k s)
 ext:∀g h,(∀s,un g s=un h s)->g=h
instance CU0 {A R:Type}:CU (A->St) R (A->R) A:=⟨fun f k a=>f (k a),fun k=>k,fun g=>g,fun _ _ _=>rfl,fun _ _ h=>funext h⟩
instance CU1 {A B K R G T:Type}[c:CU (B->K) R G T]:CU (A->B->K) R (A->G) (A×T):=⟨fun f k a=>c.cc f (k a),fun k s=>c.tu (k s.1) s.2,fun g s=>c.un (g s.1) s.2,fun f k s=>c.law f (k s.1) s.2,fun _ _ h=>funext fun a=>c.ext _ _ fun s=>h (a,s)⟩
def C{K R G T:Type}[c:CU K R G T](f:St->R)(k:K):G:=c.cc f k
theorem gNC{d:Nat}{f:FuncId}{sh:Sh}{q:Nat}{us:Us (As sh.rs)}{K G T:Type}[c:CU K (Option (As sh.rs)) G T]{k:K}{M:G}(hq:0<q)(h:∀s,pfn P env d fuel hs f sh (jfn P env d fuel hs f sh) q us (c.tu k s)=c.un M s):C (jfn P env d fuel hs f sh q us) k=M :=
 c.ext _ _ fun s=>(c.law _ _ s).trans (by rw[E9 hq];exact h s)
theorem gLC{d:Nat}{f:FuncId}{sh:Sh}{q:Nat}{us:Us (As sh.rs)}{K G T:Type}[c:CU K (Option (As sh.rs)) G T]{k:K}{M:G}{F:(T->Option (As sh.rs))->T->Option (As sh.rs)}(hq:0<q)(hl:lpf P f q us.length=true)(hM:∀s,c.un M s=ay F fuel s)
  (h:∀w s,pfn P env d fuel hs f sh (jfn P env d fuel hs f sh) q (us++[w]) (c.tu k s)=F (fun t=>w (c.tu k t)) s):C (jfn P env d fuel hs f sh q us) k=M :=
 c.ext _ _ fun s=>(c.law _ _ s).trans (by rw[E9 hq,OE hl,hM];exact zT h _ s)
theorem gN{d:Nat}{f:FuncId}{sh:Sh}{q:Nat}{us:Us (As sh.rs)}{S:St}{r:Option (As sh.rs)}(hq:0<q)(h:pfn P env d fuel hs f sh (jfn P env d fuel hs f sh) q us S=r):jfn P env d fuel hs f sh q us S=r:=by rw[E9 hq];exact h
theorem gL{d:Nat}{f:FuncId}{sh:Sh}{q:Nat}{us:Us (As sh.rs)}{σ:Type}{mk:σ->St}{G:(σ->Option (As sh.rs))->σ->Option (As sh.rs)}(hq:0<q)(hl:lpf P f q us.length=true)
  (h:∀w s,pfn P env d fuel hs f sh (jfn P env d fuel hs f sh) q (us++[w]) (mk s)=G (fun t=>w (mk t)) s) (s:σ):jfn P env d fuel hs f sh q us (mk s)=ay G fuel s:=by
 rw[E9 hq,OE hl];exact zT h _ s
end
def aPe:Sh:=⟨[],[],[],[],[],0,[]⟩
def iq:Ct:=⟨aPe,fun _=>none⟩
theorem gI{P:Program}{I:World->Prop}{f:FuncId}:ak P I f iq:=fun _ _ _ _ _ _ _ _ h=>by cases h
end Ev
end
noncomputable section
namespace Rw
open Go Ev Sx Go.RowKit
def dgo(g:TypeId->Option Ty)(P:Program):Nat->List Field->Option (List Ty)
 | _,[]=>some []
 | off,f::r=>(g f.type).bind fun a=>if f.offset=off∧P.cellsOf f.type=a.size then (dgo g P (off+a.size) r).map fun q=>a::q else none
def zZ:List Ty->Nat
 | []=>0
 | a::r=>a.size+zZ r
def dty(P:Program):Nat->TypeId->Option Ty
 | 0,_=>none
 | n+1,t=>match P.underlying t with
  | some (.int k)=>some (.int k)
  | some .bool=>some .bool
  | some .string=>some .str
  | some (.slice e)=>(dty P n e).bind fun y=>if P.cellsOf e=y.size∧y.size≠0 then some (.sl y) else none
  | some (.struct fs)=>(dgo (dty P n) P 0 fs.toList).bind fun l=>if P.cellsOf t=zZ l then some (sM l) else none
  | some (.array k e)=>(dty P n e).bind fun y=>if P.cellsOf e=y.size∧P.cellsOf t=k*y.size then some (.ar k y) else none
  | _=>none
def okV:(t:Ty)->Vl t->Prop
 | .int k,x=>(Lit.int k x).wf=true
 | .bool,_=>True
 | .str,x=>x.length≤maxLen
 | .sl t,xs=>xs.length≤maxLen∧∀x∈xs,okV t x
 | .pr a b,x=>okV a x.1∧okV b x.2
 | .wr a,x=>okV a x
 | .un,_=>True
 | .ar n t,xs=>xs.length=n∧∀x∈xs,okV t x
 | .mp _ _,_=>True
 | .cl _,_=>True
section
variable {H:Type}{enc:TypeId×Value->H}{P:Program}{w:World}{base:Nat}{sp:Nat->Bool}{held:Bool}
theorem az0{t:Ty}{L:Lx}{cs:List Value}{x:Vl t}(h:(rp t).rel L w cs x):cs.length=t.size:=by rw[(rp t).len h,iW]
def ayF(d:World)(b:List Value)(c:Nat)(a:Ty):Prop:=∃v:Vl a,(rp a).rel [] d ((b.drop c).take a.size) v∧okV a v
def xG(c:World)(b:List Value):Nat->List Ty->Prop
 | _,[]=>True
 | off,a::r=>ayF c b off a∧xG c b (off+a.size) r
theorem ak4{cs:List Value}:∀(r:List Ty) (a:Ty) (off:Nat),xG w cs off (a::r)->off+a.size+zZ r=cs.length->∃v:Vl (sM.prs a r),(rp (sM.prs a r)).rel [] w (cs.drop off) v∧okV (sM.prs a r) v
 | [],a,off,⟨⟨v,h1,h2⟩,_⟩,hl=>by have:(cs.drop off).take a.size=cs.drop off:=List.take_of_length_le (by grind[zZ]);rw[this]at h1;exact⟨v,h1,h2⟩
 | b::r,a,off,⟨⟨v,h1,h2⟩,h3⟩,hl=>by obtain⟨u,h4,h5⟩:=ak4 r b (off+a.size) h3 (by grind[zZ]);refine⟨(v,u),⟨(cs.drop off).take a.size,cs.drop (off+a.size),?_,h1,h4⟩,h2,h5⟩;grind[List.drop_drop,List.take_append_drop]
theorem az1{cs:List Value}:∀(l:List Ty),xG w cs 0 l->zZ l=cs.length->∃v:Vl (sM l),(rp (sM l)).rel [] w cs v∧okV (sM l) v
 | [],_,hl=>⟨(),(by show cs=[];exact List.eq_nil_of_length_eq_zero hl.symm),trivial⟩
 | [a],⟨⟨v,h1,h2⟩,_⟩,hl=>by
  have:(cs.drop 0).take a.size=cs:=by simp_all[List.drop_zero,List.take_of_length_le,zZ]
  rw[this]at h1;exact⟨v,h1,h2⟩
 | a::b::r,h,hl=>ak4 (b::r) a 0 h (by simp_all[zZ])
theorem ak5{g:TypeId->Option Ty}{cs:List Value}(ih:∀t y n c x,g t=some y->DataW.trod enc P w base sp held n t c=some x->∃v:Vl y,(rp y).rel [] w c v∧okV y v)(n:Nat) :
  ∀(fs:List Field) (off:Nat) (l:List Ty),dgo g P off fs=some l->(∀f∈fs,∃x,DataW.trod enc P w base sp held n f.type ((cs.drop f.offset).take (P.cellsOf f.type))=some x)->xG w cs off l
 | [],off,l,h,_=>by cases h;trivial
 | f::r,off,l,h,hx=>by
  obtain⟨a,h1,h⟩:=Option.bind_eq_some_iff.1 h;split at h
  ·rename_i hc
   obtain⟨q,h2,rfl⟩:=Option.map_eq_some_iff.1 h;obtain⟨x,h3⟩:=hx f (List.mem_cons_self ..);obtain⟨v,h4,h5⟩:=ih _ _ _ _ _ h1 h3;rw[hc.1,hc.2]at h4;exact⟨⟨v,h4,h5⟩,ak5 ih n r _ _ h2 fun f hf=>hx f (zS _ hf)⟩
  grind
theorem anj{a:Addr}{n:Nat}{cs:List Value}(h:w.cells? base a n=some cs):cs.length=n∧∀j v,cs[j]? = some v->w.cell? (a.add j)=some v:=by
 unfold World.cells? at h;split at h
 ·have hl:cs.length=n:=by simpa using mapM_some_length h
  refine⟨hl,fun j v hj=>?_⟩;have hjl:j<n:=by grind
  have:=mapM_some_get h j j (by grind);simp_all
 grind
theorem Ww{a:Addr}{v:Value}(h:w.cell? a=some v):a.spot=none∧a.block<w.heap.size:=by
 unfold World.cell? at h;split at h
 ·rename_i hb
  split at h
  ·cases h
  ·rename_i hs
   exact⟨by simp_all,(Array.getElem?_eq_some_iff.1 hb).1⟩
 grind
theorem add_plain(b o n:Nat):(⟨b,o,none⟩:Addr).add n=⟨b,o+n,none⟩:=by simp_all[Addr.add]
theorem add_zero(a:Addr):a.add 0=a:=by rfl
theorem rows_ok{y:Ty}:∀(n:Nat) (cs:List Value),cs.length=n*y.size->(∀i,i<n->∃v:Vl y,(rp y).rel [] w ((cs.drop (i*y.size)).take y.size) v∧okV y v) ->
  ∃vs:List (Vl y),vs.length=n∧RowsOf (rp y) [] w cs vs∧∀v∈vs,okV y v
 | 0,cs,hl,_=>⟨[],rfl,List.eq_nil_of_length_eq_zero (by rw[hl,Nat.zero_mul]),fun v hv=>by cases hv⟩
 | n+1,cs,hl,h=>by
  rw[Nat.succ_mul]at hl;obtain⟨v,h1,h2⟩:=h 0 (Nat.succ_pos n);rw[Nat.zero_mul,List.drop_zero]at h1
  obtain⟨vs,h3,h4,h5⟩:=rows_ok (y:=y) n (cs.drop y.size) (by rw[List.length_drop,hl];omega) (fun i hi=>by
   obtain⟨u,h6,h7⟩:=h (i+1) (by omega);refine⟨u,?_,h7⟩;rw[List.drop_drop,show y.size+i*y.size=(i+1)*y.size by rw[Nat.succ_mul,Nat.add_comm]]
   exact h6)
  exact⟨v::vs,by rw[List.length_cons,h3],⟨cs.take y.size,cs.drop y.size,(List.take_append_drop _ _).symm,h1,h4⟩,fun u hu=>by
   rcases List.mem_cons.1 hu with rfl | hu
   ·exact h2
   ·exact h5 u hu⟩
theorem Cg:∀(m:Nat) (t:TypeId) (y:Ty) (n:Nat) (cs:List Value) (x:DataW H×List MemPlace),dty P m t=some y->DataW.trod enc P w base sp held n t cs=some x->∃v:Vl y,(rp y).rel [] w cs v∧okV y v
 | 0,_,_,_,_,_,h,_=>by cases h
 | m+1,t,y,n,cs,x,h,hx=>by
  unfold dty at h;split at h
  ·rename_i k ht
   cases h
   obtain⟨z,rfl,_,hw⟩:=DataW.trod_int ht hx;exact⟨z,rfl,hw⟩
  ·rename_i ht
   cases h
   obtain⟨b,rfl,_⟩:=DataW.trod_bool ht hx;exact⟨b,rfl,trivial⟩
  ·rename_i ht
   cases h
   obtain⟨⟨⟨s⟩⟩,rfl,_,hs⟩:=DataW.trod_string ht hx;exact⟨s,rfl,hs⟩
  ·rename_i e ht
   obtain⟨y',h1,h⟩:=Option.bind_eq_some_iff.1 h;split at h
   ·rename_i hc
    cases h
    rcases DataW.trod_slice ht hx with ⟨rfl,_⟩ | ⟨a,len,cap,elems,rest,n',_,rfl,_,_,hlc,hcm,hel,hat,_⟩
    ·exact⟨[],rE _ _ _ _ _,by simp,fun x hx=>by cases hx⟩
    ·have each:∀i:Fin len,∃v:Vl y',(∃c,(rp y').rel [] w c v∧c.length=y'.size∧∀j u,c[j]? = some u->w.cell? ((a.add (i.1*P.cellsOf e)).add j)=some u)∧okV y' v:=fun i=>by have hi:=hat i.1 i.2;have:∃z,elems[i.1]? = some z:=⟨_,zU (by rw[hel];exact i.2)⟩;obtain⟨z,hz⟩:=this;rw[hz]at hi;obtain⟨c,hc1,hc2⟩:=Option.bind_eq_some_iff.1 hi;obtain⟨v,hv1,hv2⟩:=Cg m e y' n' c z h1 hc2;exact⟨v,⟨c,hv1,az0 hv1,(anj hc1).2⟩,hv2⟩
     refine⟨List.ofFn fun i=>Classical.choose (each i),⟨some a,cap,by simp,by simp;omega,fun hne=>?_⟩,by simp;omega,fun v hv=>?_⟩
     ·have hlen:0<len:=by
       rcases Nat.eq_zero_or_pos len with h0 | h0
       ·subst h0;simp at hne
       ·exact h0
      obtain⟨⟨c,_,hcl,hcc⟩,_⟩:=Classical.choose_spec (each ⟨0,hlen⟩);have hpos:0<c.length:=by have:=hc.2;omega
      have h0:=Ww (hcc 0 c[0] (zU hpos));rw[show (⟨0,hlen⟩:Fin len).1*P.cellsOf e=0 from Nat.zero_mul _,add_zero,add_zero]at h0;obtain⟨b,o,s⟩:=a;obtain⟨hs,hb⟩:=h0;have hs:s=none:=hs;subst hs;refine⟨b,o,rfl,fun i x hi=>?_⟩;have hil:i<len:=by have:=(List.getElem?_eq_some_iff.1 hi).1;simpa using this
      have hxe:x=Classical.choose (each ⟨i,hil⟩):=by rw[List.getElem?_ofFn,dif_pos hil]at hi;exact (Option.some.inj hi).symm
      obtain⟨⟨c,hc1,_,hc3⟩,_⟩:=Classical.choose_spec (each ⟨i,hil⟩);subst hxe;refine⟨hb,by simp,c,hc1,fun j v hj=>?_⟩;have:=hc3 j v hj;rw[iW,<- hc.1];rw[add_plain,add_plain]at this;exact this
     ·obtain⟨i,rfl⟩:=List.mem_ofFn.1 hv
      exact (Classical.choose_spec (each i)).2
   ·cases h
  ·rename_i fs ht
   obtain⟨l,h1,h⟩:=Option.bind_eq_some_iff.1 h;split at h
   ·rename_i hc
    cases h
    obtain⟨xs,n',_,_,hl,hxl,hf⟩:=DataW.trod_struct ht hx;refine az1 l ?_ (by rw[hl,hc]);refine ak5 (fun t y n c x h1 h2=>Cg m t y n c x h1 h2) n' fs.toList 0 l h1 fun f hfm=>?_;obtain⟨i,hi,rfl⟩:=List.getElem_of_mem hfm;have hi':i<fs.size:=by simpa using hi
    have:=hf i fs[i] (Array.getElem?_eq_getElem hi');rw[zU (by omega)]at this;exact⟨_,this⟩
   ·cases h
  ·rename_i k e ht
   obtain⟨y',h1,h⟩:=Option.bind_eq_some_iff.1 h;split at h
   ·rename_i hc
    cases h
    obtain⟨xs,n',_,_,hl,hxl,hf⟩:=DataW.trod_array ht hx
    obtain⟨vs,h2,h3,h4⟩:=rows_ok (w:=w) (y:=y') k cs (by rw[hl,hc.2]) (fun i hi=>by
     have:=hf i hi;rw[zU (by omega),hc.1]at this
     exact Cg m e y' n' _ _ h1 this)
    exact⟨vs,⟨h2,h3⟩,h2,h4⟩
   ·cases h
  ·cases h
theorem az2{t:TypeId}{y:Ty}{m:Nat}{v:Value}{d:DataW H}{ps:List MemPlace}{r:Reach}{b':Nat}{w':World}(hd:dty P (m+1) t=some y)(ho:Value.okWide P w' r b' t v)(h:DataW.Trod enc P w base sp held t v d ps):∃x:Vl y,Den [] [] w (.d y x) v∧okV y x:=by
 obtain⟨n,hn⟩:=h;obtain⟨x,h1,h2⟩:=Cg (m+1) t y n _ _ hd hn;refine⟨x,⟨v.cells.toList,h1,?_⟩,h2⟩;have one:∀u:Value,v=u->u.cells = #[u]->y.agg=false->v=(rp y).val v.cells.toList:=fun u e hc ha=>by simp_all[Rp.val,jf]
 unfold dty at hd;split at hd
 ·rename_i k ht
  cases hd
  obtain⟨z,rfl⟩:=Go.WideShapes.okWide_int ht ho;rfl
 ·rename_i ht
  cases hd
  obtain⟨b,hb,_⟩:=DataW.trod_bool ht hn;have:∃b,v = .bool b:=by simp only[Value.okWide,ht,Cell.okWide]at ho;cases v<;>simp_all[Cell.ok]
  obtain⟨b,rfl⟩:=this;rfl
 ·rename_i ht
  cases hd
  obtain⟨s,rfl⟩:=Go.WideShapes.okWide_string ht ho;rfl
 ·rename_i e ht
  obtain⟨y',h3,hd⟩:=Option.bind_eq_some_iff.1 hd;split at hd
  ·cases hd
   obtain⟨a,len,cap,rfl⟩:=Go.WideShapes.okWide_slice ht ho;rfl
  grind
 ·rename_i fs ht
  obtain⟨l,h3,hd⟩:=Option.bind_eq_some_iff.1 hd;split at hd
  ·cases hd
   simp only[Value.okWide,ht]at ho;obtain⟨cs,rfl,_,_⟩:=ho
   have ha:(sM l).agg=true:=by
    match l with
    | []=>rfl
    | [a]=>rfl
    | a::b::q=>rfl
   simp[Rp.val,jf,ha,Value.cells]
  grind
 ·rename_i k e ht
  obtain⟨y',h3,hd⟩:=Option.bind_eq_some_iff.1 hd;split at hd
  ·cases hd
   simp only[Value.okWide,ht]at ho;obtain⟨cs,rfl,_,_⟩:=ho;rfl
  grind
 grind
end
end Rw
end
noncomputable section
namespace Rw
open Go Ev Sx Go.RowKit
theorem ank{W W':World}(h:Blw (Bo [] [] W) W W'):Below W.heap.size W W' :=
 ⟨h.os,h.tape,h.output,h.size,fun k hk=>h.block k hk (by
  rintro (h | h)
  ·cases h
  ·omega)⟩
theorem aPf(W:World):LOk (Bo [] [] W) (lx [] []) [] W:=⟨.nil,fun k h=>(by cases h),fun k h=>(by cases h),fun k h=>.inr h,fun k h=>(by cases h)⟩
theorem ak6{P:Program}{f:FuncId}{ts:List TS}{ps:List Ty}{m:As ps->Option (Bool×Unit)}(h:ak P (fun _=>True) f ⟨⟨ts,[],ps,[.d .bool],[],0,[.bool]⟩,m⟩){x:As ps}(hm:m x=some (true,())){ss:List SV}(hA:fA ts [] (qH ps x)=some (ss,[])){vs:List Value}{W:World}(hd:DenL [] [] W ss vs) :
  Calls P f vs.toArray W (fun e W'=>∃v,e = .returned v∧v = .bool true∧Below W.heap.size W W'):=by
 refine (h [] W [] x (true,()) ss [] vs hm hA rfl (fun _ _=>trivial) (aPf W) (fun e he=>by cases he) hd).mono fun e w' he=>?_;obtain⟨us,rfl,pl',rr,own',h1,_,_,h4,_,_,h7⟩:=he;have h1:some ([SV.d .bool true],([]:List (Nat×Ent)))=some (rr,own'):=h1;cases h1;obtain⟨v,q,rfl,h8,h9⟩:=h7;cases h9;exact⟨_,rfl,lG h8,ank h4⟩
def okA:(b:List Ty)->As b->Prop
 | [],_=>True
 | a::r,x=>okV a x.1∧okA r x.2
def dS:(b:List Ty)->As b->List SV
 | [],_=>[]
 | a::r,x=>.d a x.1::dS r x.2
theorem az3:∀(ps:List Ty) (x:As ps),fL (ps.map TS.d) (qH ps x)=some (dS ps x,[])
 | [],_=>rfl
 | a::r,x=>by show (fS (.d a) (⟨a,x.1⟩::qH r x.2)).bind _=_;unfold fS;simp only[pM,Option.map_some,zD];rw[az3 r x.2];rfl
theorem aPg(ps:List Ty)(x:As ps):fA (ps.map TS.d) [] (qH ps x)=some (dS ps x,[]):=by unfold fA;rw[az3,zD];rfl
def anl(P:Program):List TypeId->Option (List Ty)
 | []=>some []
 | t::r=>(dty P 13 t).bind fun y=>(anl P r).map fun q=>y::q
theorem UG{P:Program}{H:Type}{enc:TypeId×Value->H}{W:World}{b0:Nat}{sp:Nat->Bool}{held:Bool}:∀{ts:List TypeId} {ps:List Ty} {vs:List Value} {ds:List (DataW H)} {p:List MemPlace},anl P ts=some ps ->
  (∀(j:Nat) t v,ts[j]? = some t->vs[j]? = some v->∃r b w',Value.okWide P w' r b t v)->DataW.TrodAll enc P W b0 sp held ts vs ds p->∃x:As ps,okA ps x∧DenL [] [] W (dS ps x) vs
 | [],ps,vs,ds,p,h,_,hA=>by
  cases h
  cases vs with
  | nil=>exact⟨(),trivial,rfl⟩
  | cons v vs=>cases ds<;>exact absurd hA (by simp[DataW.TrodAll])
 | t::ts,ps,vs,ds,p,h,ho,hA=>by
  obtain⟨y,h1,h⟩:=Option.bind_eq_some_iff.1 h;obtain⟨q,h2,rfl⟩:=Option.map_eq_some_iff.1 h
  match vs,ds,hA with
  | v::vs,d::ds,hA =>
   obtain⟨p1,p2,h3,h4,_⟩:=hA;obtain⟨r,b,w',h5⟩:=ho 0 t v rfl rfl;obtain⟨x,hx1,hx2⟩:=az2 h1 h5 h3;obtain⟨xs,hy1,hy2⟩:=UG h2 (fun j t v ht hv=>ho (j+1) t v ht hv) h4;exact⟨(x,xs),⟨hx2,hy1⟩,v,vs,rfl,hx1,hy2⟩
  | [],_,hA=>exact absurd hA (by simp[DataW.TrodAll])
  | _::_,[],hA=>exact absurd hA (by simp[DataW.TrodAll])
theorem ayG{P:Program}{f:FuncId}{ps:List Ty}{m:As ps->Option (Bool×Unit)}(h:ak P (fun _=>True) f ⟨⟨ps.map TS.d,[],ps,[.d .bool],[],0,[.bool]⟩,m⟩)(law:∀x,okA ps x->m x=some (true,()))
  {ts:Array TypeId} (ht:anl P ts.toList=some ps) {H:Type} {enc:TypeId×Value->H} {W:World} {b0:Nat} {sp:Nat->Bool} {held:Bool} {args:Array Value} {ds:List (DataW H)} {p:List MemPlace}
  (hval:∀(j:Nat) t v,ts[j]? = some t->args[j]? = some v->∃r b w',Value.okWide P w' r b t v) (hA:DataW.TrodAll enc P W b0 sp held ts.toList args.toList ds p) :
  Calls P f args W (fun e W'=>∃v,e = .returned v∧v = .bool true∧Below W.heap.size W W'):=by
 obtain⟨x,h1,h2⟩:=UG ht (fun j t v h3 h4=>hval j t v (by simpa using h3) (by simpa using h4)) hA;have:=ak6 h (law x h1) (aPg ps x) h2;simpa using this
end Rw
end
noncomputable section
namespace Go.Proofs.Lx
open Go Ev Sx
abbrev fq:=Int×List Int
abbrev jH:=Int×List Bool×List fq
abbrev TLs:=Int×Int
abbrev TAg:=List Int×TLs×Int×Int×Int×jH×Int
abbrev TSl:=Int×Int×TAg×List Bool
@[reducible] def aF:List Ty:=[.int .u8,.int .u8,.sl (.int .u16),.int .u16,.int .i64,.int .u8,.int .u32,.int .u32,.int .u32,.bool,.bool,.bool,.bool,.bool,.bool,.bool,.bool,.int .i64,.sl (.int .u16),.int .i64,.sl (.int .u16),.int .i64,.sl (.int .u16),.int .i64,.sl (.int .u16),.int .i64,.sl (.int .u16),.int .i64,.sl (.int .u16),.int .i64,.sl (.int .u16),.int .i64,.sl (.int .u16),.int .i64,.sl .bool]
abbrev TCl:=As aF
abbrev zSt:jH:=(0,[false,false,false,false,false,false,false,false],[(0,[]),(0,[]),(0,[]),(0,[]),(0,[]),(0,[]),(0,[]),(0,[])])
abbrev gF:TAg:=([],(0,0),0,0,0,zSt,0)
abbrev zSl:TSl:=(0,0,gF,[])
abbrev gV(a:TAg):TAg:=(a.1,a.2.1,a.2.2.1,a.2.2.2.1,a.2.2.2.2.1,(a.2.2.2.2.2.1.1,[a.2.2.2.2.2.1.2.1.getD 0 false,a.2.2.2.2.2.1.2.1.getD 1 false,a.2.2.2.2.2.1.2.1.getD 2 false,a.2.2.2.2.2.1.2.1.getD 3 false,a.2.2.2.2.2.1.2.1.getD 4 false,a.2.2.2.2.2.1.2.1.getD 5 false,a.2.2.2.2.2.1.2.1.getD 6 false,a.2.2.2.2.2.1.2.1.getD 7 false],[a.2.2.2.2.2.1.2.2.getD 0 (0,[]),a.2.2.2.2.2.1.2.2.getD 1 (0,[]),a.2.2.2.2.2.1.2.2.getD 2 (0,[]),a.2.2.2.2.2.1.2.2.getD 3 (0,[]),a.2.2.2.2.2.1.2.2.getD 4 (0,[]),a.2.2.2.2.2.1.2.2.getD 5 (0,[]),a.2.2.2.2.2.1.2.2.getD 6 (0,[]),a.2.2.2.2.2.1.2.2.getD 7 (0,[])]),a.2.2.2.2.2.2)
@[reducible] def pkS(s:TSl):TCl :=
 (s.1,s.2.1,s.2.2.1.1,s.2.2.1.2.1.1,s.2.2.1.2.1.2,s.2.2.1.2.2.1,s.2.2.1.2.2.2.1,s.2.2.1.2.2.2.2.1,s.2.2.1.2.2.2.2.2.1.1,
  zJ s.2.2.1.2.2.2.2.2.1.2.1 0 false,zJ s.2.2.1.2.2.2.2.2.1.2.1 1 false,zJ s.2.2.1.2.2.2.2.2.1.2.1 2 false,zJ s.2.2.1.2.2.2.2.2.1.2.1 3 false,zJ s.2.2.1.2.2.2.2.2.1.2.1 4 false,zJ s.2.2.1.2.2.2.2.2.1.2.1 5 false,zJ s.2.2.1.2.2.2.2.2.1.2.1 6 false,zJ s.2.2.1.2.2.2.2.2.1.2.1 7 false,
  (zJ s.2.2.1.2.2.2.2.2.1.2.2 0 (0,[])).1,(zJ s.2.2.1.2.2.2.2.2.1.2.2 0 (0,[])).2,(zJ s.2.2.1.2.2.2.2.2.1.2.2 1 (0,[])).1,(zJ s.2.2.1.2.2.2.2.2.1.2.2 1 (0,[])).2,(zJ s.2.2.1.2.2.2.2.2.1.2.2 2 (0,[])).1,(zJ s.2.2.1.2.2.2.2.2.1.2.2 2 (0,[])).2,(zJ s.2.2.1.2.2.2.2.2.1.2.2 3 (0,[])).1,(zJ s.2.2.1.2.2.2.2.2.1.2.2 3 (0,[])).2,(zJ s.2.2.1.2.2.2.2.2.1.2.2 4 (0,[])).1,(zJ s.2.2.1.2.2.2.2.2.1.2.2 4 (0,[])).2,(zJ s.2.2.1.2.2.2.2.2.1.2.2 5 (0,[])).1,(zJ s.2.2.1.2.2.2.2.2.1.2.2 5 (0,[])).2,(zJ s.2.2.1.2.2.2.2.2.1.2.2 6 (0,[])).1,(zJ s.2.2.1.2.2.2.2.2.1.2.2 6 (0,[])).2,(zJ s.2.2.1.2.2.2.2.2.1.2.2 7 (0,[])).1,(zJ s.2.2.1.2.2.2.2.2.1.2.2 7 (0,[])).2,
  s.2.2.1.2.2.2.2.2.2,s.2.2.2,())
abbrev unS(y:TCl):TSl :=
 (y.1,y.2.1,(y.2.2.1,(y.2.2.2.1,y.2.2.2.2.1),y.2.2.2.2.2.1,y.2.2.2.2.2.2.1,y.2.2.2.2.2.2.2.1,(y.2.2.2.2.2.2.2.2.1,[y.2.2.2.2.2.2.2.2.2.1,y.2.2.2.2.2.2.2.2.2.2.1,y.2.2.2.2.2.2.2.2.2.2.2.1,y.2.2.2.2.2.2.2.2.2.2.2.2.1,y.2.2.2.2.2.2.2.2.2.2.2.2.2.1,y.2.2.2.2.2.2.2.2.2.2.2.2.2.2.1,y.2.2.2.2.2.2.2.2.2.2.2.2.2.2.2.1,y.2.2.2.2.2.2.2.2.2.2.2.2.2.2.2.2.1],
  [(y.2.2.2.2.2.2.2.2.2.2.2.2.2.2.2.2.2.1,y.2.2.2.2.2.2.2.2.2.2.2.2.2.2.2.2.2.2.1),(y.2.2.2.2.2.2.2.2.2.2.2.2.2.2.2.2.2.2.2.1,y.2.2.2.2.2.2.2.2.2.2.2.2.2.2.2.2.2.2.2.2.1),(y.2.2.2.2.2.2.2.2.2.2.2.2.2.2.2.2.2.2.2.2.2.1,y.2.2.2.2.2.2.2.2.2.2.2.2.2.2.2.2.2.2.2.2.2.2.1),(y.2.2.2.2.2.2.2.2.2.2.2.2.2.2.2.2.2.2.2.2.2.2.2.1,y.2.2.2.2.2.2.2.2.2.2.2.2.2.2.2.2.2.2.2.2.2.2.2.2.1),(y.2.2.2.2.2.2.2.2.2.2.2.2.2.2.2.2.2.2.2.2.2.2.2.2.2.1,y.2.2.2.2.2.2.2.2.2.2.2.2.2.2.2.2.2.2.2.2.2.2.2.2.2.2.1),(y.2.2.2.2.2.2.2.2.2.2.2.2.2.2.2.2.2.2.2.2.2.2.2.2.2.2.2.1,y.2.2.2.2.2.2.2.2.2.2.2.2.2.2.2.2.2.2.2.2.2.2.2.2.2.2.2.2.1),(y.2.2.2.2.2.2.2.2.2.2.2.2.2.2.2.2.2.2.2.2.2.2.2.2.2.2.2.2.2.1,y.2.2.2.2.2.2.2.2.2.2.2.2.2.2.2.2.2.2.2.2.2.2.2.2.2.2.2.2.2.2.1),(y.2.2.2.2.2.2.2.2.2.2.2.2.2.2.2.2.2.2.2.2.2.2.2.2.2.2.2.2.2.2.2.1,y.2.2.2.2.2.2.2.2.2.2.2.2.2.2.2.2.2.2.2.2.2.2.2.2.2.2.2.2.2.2.2.2.1)]),y.2.2.2.2.2.2.2.2.2.2.2.2.2.2.2.2.2.2.2.2.2.2.2.2.2.2.2.2.2.2.2.2.2.1),y.2.2.2.2.2.2.2.2.2.2.2.2.2.2.2.2.2.2.2.2.2.2.2.2.2.2.2.2.2.2.2.2.2.2.1)
end Go.Proofs.Lx
end
