/- Proved in the last of these 16 parts (this is part 15): TalkTrue. Conditions: those of the given statement, and no others. -/
import Derived.Test.YtljkanofaahagaaGreatBPartn
import Derived.Test.YtljkanofaahagaaGreatBPartm
import Derived.Test.YtljkanofaahagaaGreatBParte
set_option linter.unusedVariables false
set_option linter.unusedSimpArgs false
set_option linter.unusedSectionVars false
open Option renaming bind → zC, bind_some → zD
open Int renaming ofNat → zF
noncomputable section
namespace Go.Proofs.Lx
open Go Ev Sx Pl
set_option maxRecDepth 100000
theorem blocks_eq{α:Type}{pl:List (List ay)}(hp:OkPl pl){y:Int}(hy:0≤y∧y≤4294967295)(f:List ay->Option α) :
  (if eqi (zF pl.length) 0=true then f [] else need (nei (zF pl.length) 0) (zC (at? pl (rem (cvt .i64 y) (zF pl.length))) f))=f (fq pl y):=by
 have hl:=hp.l;by_cases h0:pl.length=0
 ·rw[if_pos (bu.2 (by rw[bn];omega)),List.length_eq_zero_iff.1 h0]
  rfl
 ·have er:rem (cvt .i64 y) (zF pl.length)=((y.toNat%pl.length:Nat):Int):=by obtain⟨n,rfl⟩:=Int.eq_ofNat_of_zero_le hy.1;rw[iU (by omega) (by omega),bn];unfold rem;rw[Int.tmod_eq_emod_of_nonneg (by omega),Int.toNat_natCast];rfl
  obtain⟨q,hq⟩:=jg (xs:=pl) (i:=y.toNat%pl.length) (Nat.mod_lt _ (by omega));have ep:q=fq pl y:=by unfold fq;rw[List.getD_eq_getElem?_getD,hq];rfl
  rw[if_neg (fun e=>by have:=bu.1 e;rw[bn]at this;omega),eu (by rw[fQ,bn];omega),er,gu hq,zD,ep]
section
variable {pl:List (List ay)}{x g:Int}{t u:TTk}{s:TSl}{w:kP}{l:List TDd}{N:Int}{i:Nat}
variable {self:List TDd->Int->Int->TTk×TSl×Unit×Int×Int×List (List ay)->kP->Option (As [.bool])}
theorem Sr(hp:ql pl)(hpl:OkPl pl)(hx:x≤4294967295)(hi:i<1000)(h:PI pl x g t s w)(b:Bool)(hb:b=false->iW t=1):QG self 0 l N (i:Int) b (t,s,(),x,g,pl) w [s.2.2.1]=self l N ((i+1:Nat):Int) (t,s,(),x,g,pl) w:=by
 have ei:add .i64 (i:Int) 1=((i+1:Nat):Int):=iT (by omega);have x0:=h.x0;show abl (QF self) self 0 l N (i:Int) b (t,s,(),x,g,pl) w [s.2.2.1]=_;unfold abl
 cases b with
 | true=>rw[if_pos rfl,ei]
 | false =>
  have sd:=hb rfl;rw[if_neg (by decide)];dsimp only;by_cases g1:dz t=1
  ·obtain⟨p2,tx⟩:=h.pr g1 sd
   have ow:s.2.2.1.2.1.1=7:=by have:=(h.ks.a.pn (by omega)).1;have:=h.ag.o;omega
   have h8:=hp x;have eb:=h.ag.blk h.ks.a p2 (by rw[tx];omega);rw[tx]at eb;rw[if_pos (bu.2 g1),iX,zD,if_neg (fun e=>fQ.1 e p2),zD,if_neg (fun e=>fQ.1 e tx),zD,if_neg (fun e=>fQ.1 e ow),zD,Aa h.ks.a.hl h.ks.a.sl h.ks.a.bb,zD];dsimp only;rw[eb];have sm:∀y:List ay,y=fq pl x->(zC (zi (fq pl x,y,())) fun y=>QF self l N (i:Int) (!y.1) (t,s,(),x,g,pl) w)=self l N ((i+1:Nat):Int) (t,s,(),x,g,pl) w:=fun y e=>by rw[e,ami (by omega) (fun b hb=>by have:=(h8.2 b hb).2.1;omega),zD,decide_eq_true rfl];show abm self l N (i:Int) (!true) (t,s,(),x,g,pl) w=_;unfold abm;rw[if_neg (by decide),ei]
   refine (blocks_eq hpl (y:=x) ⟨x0,hx⟩ (fun y=>zC (zi (fq pl x,y,())) fun y=>QF self l N (i:Int) (!y.1) (t,s,(),x,g,pl) w)).trans (sm _ rfl)
  ·rw[if_neg (fun e=>g1 (bu.1 e))]
   by_cases g2:dz t=2
   ·have la:s.2.2.1.2.2.2.2.1=x:=by
     have:=h.g2 g2;have:=h.lg;rcases h.gd with q | ⟨_,q⟩
     ·omega
     ·have:=(h.mt.w q).1.sd
      omega
    rw[if_pos (bu.2 g2),iX,zD,if_neg (fun e=>fQ.1 e la),ei]
   ·rw[if_neg (fun e=>g2 (bu.1 e)),ei]
theorem arz(hp:ql pl)(hpl:OkPl pl)(hx:x≤4294967295)(hi:i<1000)(h:PI pl x g t s w):E6 self 0 l N (i:Int) (t,s,(),x,g,pl) w u [s.2.2.1]=self l N ((i+1:Nat):Int) (t,s,(),x,g,pl) w:=by
 have k6:QG self 0 l N (i:Int) (nei (iW t) 1) (t,s,(),x,g,pl) w [s.2.2.1]=self l N ((i+1:Nat):Int) (t,s,(),x,g,pl) w:=Sr hp hpl hx hi h _ (fun e=>by
  rcases Decidable.em (iW t=1) with q | q
  ·exact q
  ·rw[fQ.2 q]at e
   cases e)
 show abk (QG self) self 0 l N (i:Int) (t,s,(),x,g,pl) w u [s.2.2.1]=_;unfold abk;split
 ·split
  ·exact Sr hp hpl hx hi h true (fun e=>by cases e)
  ·exact k6
 ·exact k6
theorem arA(hp:ql pl)(hpl:OkPl pl)(hx:x≤4294967295)(hi:i<1000)(h:PI pl x g t s w){a:TAg}(ha:a.1.length=64)(chg:Chg pl g a s.2.2.1):abo self 0 l N (i:Int) false (t,s,(),x,g,pl) w u [a]=self l N ((i+1:Nat):Int) (t,s,(),x,g,pl) w:=by
 have k5:E6 self 0 l N (i:Int) (t,s,(),x,g,pl) w u [gH s.2.2.1]=self l N ((i+1:Nat):Int) (t,s,(),x,g,pl) w:=by rw[Dm h.ks.a.hl h.ks.a.sl];exact arz hp hpl hx hi h
 have k4:xG self 0 l N (i:Int) false (t,s,(),x,g,pl) w u [gH s.2.2.1]=self l N ((i+1:Nat):Int) (t,s,(),x,g,pl) w:=by show abj (E6 self) self 0 l N (i:Int) false (t,s,(),x,g,pl) w u _=_;unfold abj;rw[if_neg (by decide)];exact k5
 have hbl:=h.ks.a.bl;have lar:=h.ks.a.ar;show abh (xG self) (E6 self) self 0 l N (i:Int) false (t,s,(),x,g,pl) w u [a]=_;unfold abh;rw[if_neg (by decide),iX,zD];dsimp only;by_cases e:s.2.2.1.2.2.2.2.1=a.2.2.2.2.1
 ·rw[if_neg (fun q=>fQ.1 q e),zD]
  have eb:s.2.2.1.1=a.1:=by
   rcases chg with q | q
   ·exact q.1
   ·exact absurd e q.2.1
  rw[Kg (by omega),zD,decide_eq_true eb,if_neg (by decide)];exact k5
 ·rw[if_pos (fQ.2 e),zD]
  obtain⟨q1,_,q3⟩:s.2.2.1.2.2.2.2.1=g∧s.2.2.1.2.2.2.2.1≠a.2.2.2.2.1∧s.2.2.1.1=qY a.1 (fq pl g):=by
   rcases chg with q | q
   ·exact absurd q.2 e
   ·exact q
  have h8:=hp s.2.2.1.2.2.2.2.1;have body:∀y:List ay,y=fq pl s.2.2.1.2.2.2.2.1->(zC (BM (a.1,y,())) fun y=>if nei y.2.1 0=true then xG self 0 l N (i:Int) true (t,s,(),x,g,pl) w u [gH s.2.2.1] else if nei s.2.2.1.2.2.2.2.1 g=true then xG self 0 l N (i:Int) true (t,s,(),x,g,pl) w u [gH s.2.2.1] else zC (BQ (s.2.2.1.1,y.1,())) fun y=>xG self 0 l N (i:Int) (!y.1) (t,s,(),x,g,pl) w u [gH s.2.2.1])=self l N ((i+1:Nat):Int) (t,s,(),x,g,pl) w:=fun y ey=>by rw[ey,Qa ha (by omega) (fun b hb=>(h8.2 b hb).1),zD];dsimp only;rw[if_neg (by decide),if_neg (fun q=>fQ.1 q q1),Kg (by omega),zD,decide_eq_true (by rw[q3,q1])];exact k4
  exact (blocks_eq hpl (y:=s.2.2.1.2.2.2.2.1) lar (fun y=>zC (BM (a.1,y,())) fun y=>if nei y.2.1 0=true then xG self 0 l N (i:Int) true (t,s,(),x,g,pl) w u [gH s.2.2.1] else if nei s.2.2.1.2.2.2.2.1 g=true then xG self 0 l N (i:Int) true (t,s,(),x,g,pl) w u [gH s.2.2.1] else zC (BQ (s.2.2.1.1,y.1,())) fun y=>xG self 0 l N (i:Int) (!y.1) (t,s,(),x,g,pl) w u [gH s.2.2.1])).trans (body _ rfl)
end
theorem abp{link timeout retries:Int}{b:List Int}{plan:List (List ay)}{l:List TDd}(h1:0≤link)(h2:0≤timeout)(h3:0≤retries)(hb:∀x∈b,0≤x∧x≤65535)(hw:∀l∈plan,∀b∈l,∀y∈b.2,0≤y∧y≤65535)(hl:l.length≤9223372036854775807)(hd:∀d∈l,OkD d) :
  anu (link,timeout,retries,b,plan,l,())=some (true,()):=by
 have hp:=abd hw;have hpl:=amv hw;have pi:=anj h1 h2 h3 hb (nI plan);show abn QI link timeout retries b plan l=_;unfold abn;rw[amw h1 h2 h3 hb,zD];dsimp only
 have hc:cut l 0 (if lt 300 (zF l.length)=true then 300 else zF l.length)=some (l.take 300):=by
  by_cases h:300<l.length
  ·rw[if_pos (by rw[dw,bn];omega)]
   exact oM (j:=300) (by omega)
  ·rw[if_neg (by rw[dw,bn];omega),bn,oM (Nat.le_refl _),List.take_of_length_le (Nat.le_refl _),List.take_of_length_le (by omega)]
 rw[if_neg (by decide),hc,zD];have hd:∀d∈l.take 300,OkD d:=fun d hm=>hd d (List.mem_of_mem_take hm);have hl:(l.take 300).length≤300:=by rw[List.length_take];omega
 generalize l.take 300=m at hd hl;unfold QI;refine Jv (Q:=fun o=>o=some (true,())) (mk:=fun k (b:Int×Int×TTk×TSl×kP)=>(m,zF m.length,(k:Int),(b.2.2.1,b.2.2.2.1,(),b.1,b.2.1,nI plan),b.2.2.2.2)) (N:=m.length) (Inv:=fun k b=>PI (nI plan) b.1 b.2.1 b.2.2.1 b.2.2.2.1 b.2.2.2.2∧b.1≤k) ?_ ?_ m.length 0 (0,0,pP link timeout retries,pQ link b,[]) 18446744073709551616 (by omega) (by omega) ⟨pi,Int.le_refl _⟩
 ·rintro self k ⟨x,g,t,s,w⟩ hk ⟨pi,hx⟩
  dsimp only at pi hx;obtain⟨d,hdk⟩:=jg (xs:=m) (i:=k) hk;obtain⟨t',s',x',g',w',e,p',hx',chg⟩:=at6 hp hpl (by omega) pi (hd d (List.mem_of_getElem? hdk));refine⟨(x',g',t',s',w'),⟨p',by dsimp only;omega⟩,?_⟩;show JF (ant (fun a b c d e=>self (a,b,c,d,e))) _ m (zF m.length) (k:Int) (t,s,(),x,g,nI plan) w=_;unfold JF;rw[if_pos (dw.2 (by rw[bn];omega)),gu hdk,zD,qR (eqAs_refl _)];show abg (abo (fun a b c d e=>self (a,b,c,d,e))) _ 0 m (zF m.length) (k:Int) (t,s,(),x,g,nI plan) w d t [gH s.2.2.1]=_;unfold abg;dsimp only;rw[kQ pi.ks,e,zD];dsimp only;rw[if_neg (by decide),kQ p'.ks,abb p'.ks,zD,Dm pi.ks.a.hl pi.ks.a.sl];exact arA hp hpl (by omega) (by omega) p' pi.ks.a.bl chg
 ·rintro self ⟨x,g,t,s,w⟩ ⟨pi,hx⟩
  show JF _ _ m (zF m.length) (m.length:Int) (t,s,(),x,g,nI plan) w=_;unfold JF;rw[if_neg (fun h=>by have:=dw.1 h;rw[bn]at this;omega),amx];rfl
abbrev aua:Ty:=.pr (.int .i64) (.sl (.int .u16))
abbrev tDd:Ty:=.pr (.int .u8) (.pr (.int .u8) (.pr .bool (.pr .bool (.int .u16))))
theorem anv(x:As [.int .u8,.int .u8,.int .u8,.sl (.int .u16),.sl (.sl aua),.sl tDd])(h:Rw.okA [.int .u8,.int .u8,.int .u8,.sl (.int .u16),.sl (.sl aua),.sl tDd] x):anu x=some (true,()) :=
 abp (link:=x.1) (timeout:=x.2.1) (retries:=x.2.2.1) (b:=x.2.2.2.1) (plan:=x.2.2.2.2.1) (l:=x.2.2.2.2.2.1) (ok8 h.1).1 (ok8 h.2.1).1 (ok8 h.2.2.1).1 (fun y hy=>ok16 (h.2.2.2.1.2 y hy)) (fun l hl y hy w hw=>ok16 (((h.2.2.2.2.1.2 l hl).2 y hy).2.2 w hw)) (by have:=h.2.2.2.2.2.1.1;unfold maxLen at this;omega)
  (fun d hd=>⟨ok8 (h.2.2.2.2.2.1.2 d hd).1,ok8 (h.2.2.2.2.2.1.2 d hd).2.1,ok16 (h.2.2.2.2.2.1.2 d hd).2.2.2.2⟩)
end Go.Proofs.Lx
end
