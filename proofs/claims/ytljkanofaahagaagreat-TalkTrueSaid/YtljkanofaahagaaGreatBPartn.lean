/- Proved in the last of these 16 parts (this is part 14): TalkTrue. Conditions: those of the given statement, and no others. -/
import Derived.Test.YtljkanofaahagaaGreatBPartm
import Derived.Test.YtljkanofaahagaaGreatBPartk
import Derived.Test.YtljkanofaahagaaGreatBPartd
import Derived.Test.YtljkanofaahagaaGreatProg
import Derived.Test.YtljkanofaahagaaGreatBPartj
set_option linter.unusedVariables false
set_option linter.unusedSimpArgs false
set_option linter.unusedSectionVars false
open Option renaming bind → zC, bind_some → zD
open Int renaming ofNat → zF, toNat → zI, eq_ofNat_of_zero_le → zN, toNat_natCast → zQ, tmod_eq_emod_of_nonneg → kC
open List renaming length → zG, mem_cons_of_mem → zT, getElem?_eq_getElem → zV, getD_eq_getElem?_getD → zX, mem_of_getElem? → zY, length_append → zZ, length_take → kB
noncomputable section
namespace Go.Proofs.Lx
open Go Ev Sx Pl
set_option maxRecDepth 100000
abbrev dz(t:TTk):Int:=t.2.2.2.2.1
abbrev atT(t:TTk):Int:=t.2.2.2.2.2.1
abbrev iW(t:TTk):Int:=t.2.2.2.2.2.2.2.2
def ApT(g k:Int):Prop:=g=1∧1≤k∧k≤4∨g=2∧(k=5∨k=7)∨g=3∧(k=6∨k=7)
structure MK(pl:List (List ay)) (x:Int) (t:TTk):Prop where
 kt:OkT t
 o:t.2.1=7
 u:t.1.1=9
 tx:t.2.2.1=x
 bl:t.2.2.2.1=if dz t=1 then fq pl x else []
 gl:0≤dz t∧dz t≤3
 sn:dz t≠1->iW t≠2
 z:dz t=0->iW t=0
 xp:dz t≠0->1≤x
structure MG(pl:List (List ay)) (x:Int) (t:TTk):Prop extends MK pl x t where
 g:goodX t
 ap:ApT (dz t) (atT t)
 sd:iW t=0
structure MT(pl:List (List ay)) (x:Int) (t:TTk):Prop extends MK pl x t where
 r:atT t=0->t.1.2.2.2.2.1=false∧(dz t≠0->iW t=1∨iW t=2)
 w:atT t≠0->MG pl x t∧t.1.2.2.2.2.1=true∧t.1.2.2.2.2.2.1=iQ t∧(1≤t.1.2.2.2.2.2.2.2.1∧t.1.2.2.2.2.2.2.2.1≤100000)∧0≤t.1.2.2.2.2.2.2.2.2∧t.1.2.2.2.2.2.2.2.2≤1000
 lt:atT t≠0->t.1.2.2.2.2.2.2.2.1≤t.1.2.2.1
section
variable {pl:List (List ay)}{C:Int->Int->Prop}{x:Int}{t:TTk}
theorem MK.poll(h:MK pl x t){p:TP}(hp:OkP p)(hu:p.1=9):MK pl x (p,t.2):=⟨h.kt.poll hp,h.o,hu,h.tx,h.bl,h.gl,h.sn,h.z,h.xp⟩
theorem MG.poll(h:MG pl x t){p:TP}(hp:OkP p)(hu:p.1=9):MG pl x (p,t.2):=⟨h.toMK.poll hp hu,h.g,h.ap,h.sd⟩
theorem amB{p:TP}(h:OkP p):OkP (fK p):=⟨h.u0,h.u1,h.l,h.t0,h.t1,h.r0,h.r1,uj,h.x0,h.x1⟩
theorem MG.rq(h:MG pl x t)(h1:dz t=1->C 0 x∧C 1 x∧C 2 x)(h2:dz t=2->C 3 x)(h3:dz t=3->C 4 x):RQ pl C (iQ t):=by
 have hbl:=h.bl
 have cm:∀v:Int,1≤v∧v≤4->C v x->(v=2->dz t=1)->RQ pl C (jV (vQ t v)):=fun v hv hc hg=>by
  unfold vQ;rw[h.o,h.tx];refine .cmd v x _ _ hv hc (fun e=>?_) (fun e=>?_)
  ·rw[if_pos e,if_pos e,hbl,if_pos (hg e)]
   exact⟨rfl,rfl⟩
  ·rw[if_neg e,if_neg e]
   exact⟨rfl,rfl⟩
 rcases h.ap with ⟨e,k1,k2⟩ | ⟨e,k | k⟩ | ⟨e,k | k⟩
 ·have hc:=h1 e
  have k:atT t=1∨atT t=2∨atT t=3∨atT t=4:=by omega
  rcases k with k | k | k | k
  ·unfold iQ
   rw[if_pos k];exact cm 1 (by decide) hc.2.1 (fun e=>absurd e (by decide))
  ·have hh:=h.g.2 (.inl k)
   obtain⟨b,hb,eb,_⟩:=Ci h.kt hh;have er:iQ t=nZ (tK t):=by unfold iQ;rw[show t.2.2.2.2.2.1=2 from k,if_neg (by decide),if_pos rfl,if_pos hh]
   have hn:=h.kt.n.1;rw[er,eb,h.o,h.tx];obtain⟨n,hn⟩:=zN hn;rw[hn]at hb ⊢;rw[hbl,if_pos e,zQ]at hb;exact .blk x n b hc.1 hb
  ·have hh:=of_decide_eq_true (h.g.2 (.inr k))
   have hn:=h.kt.n.1;have hl:=h.kt.bl;have er:iQ t=rdQ (512+32*t.2.2.2.2.2.2.1) 20:=by unfold iQ;rw[show t.2.2.2.2.2.1=3 from k,if_neg (by decide),if_neg (by decide),if_pos rfl]
   rw[er,Int.mul_comm];obtain⟨n,hn⟩:=zN hn;rw[hn]at hh ⊢;exact .back n (by omega)
  ·unfold iQ
   rw[show t.2.2.2.2.2.1=4 from k];exact cm 2 (by decide) hc.2.2 (fun _=>e)
 ·unfold iQ
  rw[show t.2.2.2.2.2.1=5 from k];exact cm 3 (by decide) (h2 e) (fun e=>absurd e (by decide))
 ·unfold iQ
  rw[show t.2.2.2.2.2.1=7 from k];exact .look
 ·unfold iQ
  rw[show t.2.2.2.2.2.1=6 from k];exact cm 4 (by decide) (h3 e) (fun e=>absurd e (by decide))
 ·unfold iQ
  rw[show t.2.2.2.2.2.1=7 from k];exact .look
theorem MG.send(h:MG pl x t)(hw:t.1.2.2.2.2.1=false):∃z,(0≤z∧z≤65535)∧(gP t).2=jA t.1.2.1 9 z (iQ t)∧MT pl x (gP t).1∧(gP t).1.2=t.2∧(gP t).1.1.2.1=t.1.2.1∧(gP t).1.1.2.2.1=t.1.2.2.1:=by
 have hx:=wF t.1.2.1 h.kt.p.x0 h.kt.p.x1;have hr:=Ag h.kt h.g.good;have e:gP t=((ug (wz t.1 (iQ t)),t.2),jA t.1.2.1 t.1.1 (wu t.1.2.1 t.1.2.2.2.2.2.2.1) (iQ t)):=by unfold gP;rw[if_neg (by rw[hw];decide),if_pos hr];rfl
 have hp:OkP (ug (wz t.1 (iQ t))):=⟨h.kt.p.u0,h.kt.p.u1,h.kt.p.l,h.kt.p.t0,h.kt.p.t1,h.kt.p.r0,h.kt.p.r1,Ju h.kt,hx.1,hx.2⟩;have hm:=h.poll hp h.u;refine⟨_,hx,by rw[e,h.u],?_,by rw[e],by rw[e];rfl,by rw[e];rfl⟩;rw[e];exact⟨hm.toMK,fun e0=>absurd e0 h.g.1,fun _=>⟨hm,rfl,rfl,⟨h.kt.p.t0,h.kt.p.t1⟩,h.kt.p.r0,h.kt.p.r1⟩,fun _=>Int.le_refl _⟩
structure Ef(x:Int) (t t':TTk) (r:TR):Prop where
 p:t'.1=t.1
 o:t'.2.1=t.2.1
 tx:t'.2.2.1=t.2.2.1
 bl:t'.2.2.2.1=t.2.2.2.1
 gl:dz t'=dz t
 c:atT t'=0∧(iW t'=1∨iW t'=2∧dz t=1)∧(iW t'=1->∃st,gz r=some st∧(dz t=1->st.1=t.2.1∧st.2.2.1=t.2.2.1∧st.2.1=2)∧(dz t=2->t.2.2.1≤st.2.2.2)) ∨
  atT t'≠0∧iW t'=iW t∧ApT (dz t) (atT t')
theorem uF{p:TP}{c:_}{r:TR}{k:Int}(h:k≠0)(ha:ApT (dz (fK p,c)) k):Ef x (fK p,c) (toT (fK p,c) k) r :=
 ⟨rfl,rfl,rfl,rfl,rfl,.inr ⟨h,rfl,ha⟩⟩
theorem aaG{p:TP}{c:_}{r:TR}(ha:dz (fK p,c)=1):Ef x (fK p,c) (jE (fK p,c) 2) r :=
 ⟨rfl,rfl,rfl,rfl,rfl,.inl ⟨rfl,.inr ⟨rfl,ha⟩,fun e=>absurd e (show ¬ (2:Int)=1 by decide)⟩⟩
theorem yt{p:TP}{c:_}{r:TR}{st:TSt}(h:gz r=some st)(h1:dz (fK p,c)=1->st.1=c.1∧st.2.2.1=c.2.1∧st.2.1=2)(h2:dz (fK p,c)=2->c.2.1≤st.2.2.2):Ef x (fK p,c) (jE (fK p,c) 1) r :=
 ⟨rfl,rfl,rfl,rfl,rfl,.inl ⟨rfl,.inl rfl,fun _=>⟨st,h,h1,h2⟩⟩⟩
theorem Sn{p:TP}{c:_}{r:TR}(n:Int)(ha:dz (fK p,c)=1):Ef x (fK p,c) (mQ (tJ (fK p,c) n)) r:=by
 unfold mQ;split
 ·exact⟨rfl,rfl,rfl,rfl,rfl,.inr ⟨show ¬ (4:Int)=0 by decide,rfl,.inl ⟨ha,(by decide:(1:Int)≤4),(by decide:(4:Int)≤4)⟩⟩⟩
 ·exact⟨rfl,rfl,rfl,rfl,rfl,.inr ⟨show ¬ (2:Int)=0 by decide,rfl,.inl ⟨ha,(by decide:(1:Int)≤2),(by decide:(2:Int)≤4)⟩⟩⟩
theorem EZ{p:TP}{c:_}{r:TR}{k:Int}(hk:1≤k∧k≤4)(ha:dz (fK p,c)=1):Ef x (fK p,c) (jc (fK p,c) k) r:=by
 unfold jc;split
 ·exact⟨rfl,rfl,rfl,rfl,rfl,.inl ⟨rfl,.inr ⟨rfl,ha⟩,fun e=>absurd e (show ¬ (2:Int)=1 by decide)⟩⟩
 ·exact⟨rfl,rfl,rfl,rfl,rfl,.inr ⟨show ¬ k=0 by omega,rfl,.inl ⟨ha,hk⟩⟩⟩
theorem arw{p:TP}{c:_}{r:TR}(ha:ApT (dz (fK p,c)) (atT (fK p,c))):Ef x (fK p,c) (gK (fK p,c) r) r:=by
 have own:∀st,nH st (fK p,c)=true->st.1=c.1∧st.2.2.1=c.2.1:=fun st h=>of_decide_eq_true h;rcases ha with ⟨e,k1,k2⟩ | ⟨e,k | k⟩ | ⟨e,k | k⟩
 ·have k:atT (fK p,c)=1∨atT (fK p,c)=2∨atT (fK p,c)=3∨atT (fK p,c)=4:=by omega
  have ne2:¬ dz (fK p,c)=2:=by rw[e];decide
  rcases k with k | k | k | k
  ·rw[amj k]
   cases hr:gz r with
   | none=>exact aaG e
   | some st =>
    dsimp only;split
    ·rename_i q
     exact yt hr (fun _=>⟨(own st q.1).1,(own st q.1).2,q.2⟩) (fun h=>absurd h ne2)
    ·split
     ·exact Sn 0 e
     ·exact EZ (by decide) e
  ·rw[amk k]
   split
   ·exact aaG e
   ·exact uF (by decide) (.inl ⟨e,by decide,by decide⟩)
  ·rw[aml k]
   split
   ·exact Sn _ e
   ·exact EZ (by decide) e
  ·rw[amm k]
   cases hr:gz r with
   | none=>exact aaG e
   | some st =>
    dsimp only;split
    ·rename_i q
     exact yt hr (fun _=>⟨(own st q.1).1,(own st q.1).2,q.2⟩) (fun h=>absurd h ne2)
    ·exact EZ (by decide) e
 ·have ne1:¬ dz (fK p,c)=1:=by rw[e];decide
  rw[atM k]
  cases hr:gz r with
  | none=>exact uF (by decide) (.inr (.inl ⟨e,.inr rfl⟩))
  | some st =>
   dsimp only;split
   ·rename_i q
    exact yt hr (fun h=>absurd h ne1) (fun _=>q)
   ·exact uF (by decide) (.inr (.inl ⟨e,.inl rfl⟩))
 ·have ne1:¬ dz (fK p,c)=1:=by rw[e];decide
  rw[amn k,if_pos e]
  cases hr:gz r with
  | none=>exact uF (by decide) (.inr (.inl ⟨e,.inl rfl⟩))
  | some st =>
   dsimp only;split
   ·rename_i q
    exact yt hr (fun h=>absurd h ne1) (fun _=>q)
   ·exact uF (by decide) (.inr (.inl ⟨e,.inl rfl⟩))
 ·have ne1:¬ dz (fK p,c)=1:=by rw[e];decide
  have ne2:¬ dz (fK p,c)=2:=by rw[e];decide
  rw[atN k]
  cases hr:gz r with
  | none=>exact uF (by decide) (.inr (.inr ⟨e,.inr rfl⟩))
  | some st =>
   dsimp only;split
   ·exact uF (by decide) (.inr (.inr ⟨e,.inl rfl⟩))
   ·exact yt hr (fun h=>absurd h ne1) (fun h=>absurd h ne2)
 ·have ne1:¬ dz (fK p,c)=1:=by rw[e];decide
  have ne2:¬ dz (fK p,c)=2:=by rw[e];decide
  rw[amn k,if_neg ne2]
  cases hr:gz r with
  | none=>exact uF (by decide) (.inr (.inr ⟨e,.inl rfl⟩))
  | some st =>
   dsimp only;split
   ·exact uF (by decide) (.inr (.inr ⟨e,.inl rfl⟩))
   ·exact yt hr (fun h=>absurd h ne1) (fun h=>absurd h ne2)
structure Stp2(pl:List (List ay)) (x:Int) (t t':TTk) (f:List Int):Prop where
 mt:MT pl x t'
 gl:dz t'=dz t
 l:t'.1.2.1=t.1.2.1
 tm:t'.1.2.2.1=t.1.2.2.1
 f:f=[]∨atT t'≠0∧∃z,(0≤z∧z≤65535)∧f=jA t.1.2.1 9 z (iQ t')
theorem MT.same(h:MT pl x t):Stp2 pl x t t []:=⟨h,rfl,rfl,rfl,.inl rfl⟩
theorem MG.go(h:MG pl x t)(hw:t.1.2.2.2.2.1=false):Stp2 pl x t (gP t).1 (gP t).2∧iW (gP t).1=0∧atT (gP t).1≠0:=by
 obtain⟨z,hz,ef,hm,e2,el,em⟩:=h.send hw;have hr:iQ (gP t).1=iQ t:=by have:∀p q c,iQ (p,c)=iQ (q,c):=fun p q c=>rfl;exact (this (gP t).1.1 t.1 (gP t).1.2).trans (by rw[e2])
 refine⟨⟨hm,by unfold dz;rw[e2],el,em,.inr ⟨?_,z,hz,by rw[hr];exact ef⟩⟩,?_,?_⟩
 ·unfold atT;rw[e2];exact h.g.1
 ·unfold iW;rw[e2];exact h.sd
 ·unfold atT;rw[e2];exact h.g.1
theorem MT.take(h:MT pl x t)(f:List Int):Stp2 pl x t (je t f).1 (je t f).2∧(iW (je t f).1=1->iW t≠1->∃r st,pE t.1 f=some r∧gz r=some st∧(dz t=1->st.1=7∧st.2.2.1=x∧st.2.1=2)∧(dz t=2->x≤st.2.2.2)) ∧
  (atT (je t f).1≠0->atT t≠0):=by
 cases hk:pE t.1 f with
 | none =>
  have e:je t f=(t,[]):=by unfold je;rw[hk]
  rw[e];exact⟨h.same,fun e n=>absurd e n,fun e=>e⟩
 | some r =>
  have h0:atT t≠0:=fun e=>by have:=(h.r e).1;unfold pE at hk;rw[this,if_neg (by decide)]at hk;cases hk
  obtain⟨hg,hw,_⟩:=h.w h0;have ef:Ef x (fK t.1,t.2) (gK (fK t.1,t.2) r) r:=arw hg.ap;have okd:=h.kt.drop;have oke:=okd.eff r;have e:je t f=if atT (gK (fK t.1,t.2) r)=0 then (gK (fK t.1,t.2) r,[]) else gP (gK (fK t.1,t.2) r):=by unfold je;rw[hk]
  have gx:atT (gK (fK t.1,t.2) r)≠0->goodX (gK (fK t.1,t.2) r):=fun e0=>Kk (t:=(fK t.1,t.2)) hg.g okd.at' e0;rw[e];clear e;generalize gK (fK t.1,t.2) r=t' at *;have ep:=ef.p;dsimp only at ep;have egl:dz t'=dz t:=ef.gl;have mk:(iW t'=2->dz t=1)->MK pl x t':=fun hs=>⟨oke,ef.o.trans h.o,by rw[ep];exact h.u,ef.tx.trans h.tx,by rw[ef.bl,egl];exact h.bl,by rw[egl];exact h.gl,fun n e2=>n (egl.trans (hs e2)),fun z=>by rcases hg.ap with ⟨q,_⟩ | ⟨q,_⟩ | ⟨q,_⟩<;>rw[egl,q]at z<;>exact absurd z (by decide),fun n=>h.xp (by rw[<- egl];exact n)⟩;rcases ef.c with ⟨a0,s0,tr⟩ | ⟨a0,s0,ap⟩
  ·rw[if_pos a0]
   refine⟨⟨⟨mk (fun e2=>by rcases s0 with s | s;rw[s]at e2;exact absurd e2 (by decide);exact s.2),fun _=>⟨by rw[ep];rfl,fun _=>by rcases s0 with s | s;exact .inl s;exact .inr s.1⟩,fun n=>absurd a0 n,fun n=>absurd a0 n⟩,egl,by rw[ep];rfl,by rw[ep];rfl,.inl rfl⟩,fun e1 _=>?_,fun n=>absurd a0 n⟩;obtain⟨st,hst,q1,q2⟩:=tr e1;refine⟨r,st,rfl,hst,fun g1=>?_,fun g2=>?_⟩
   ·have:=q1 g1
    dsimp only at this;rw[h.o,h.tx]at this;exact this
   ·have:=q2 g2
    dsimp only at this;rw[h.tx]at this;exact this
  ·rw[if_neg a0]
   have es:iW t'=0:=s0.trans hg.sd;have mg:MG pl x t':=⟨mk (fun e2=>absurd (es.symm.trans e2) (by decide)),gx a0,by rw[egl];exact ap,es⟩;obtain⟨q1,q2,q3⟩:=mg.go (by rw[ep];rfl);refine⟨⟨q1.mt,q1.gl.trans egl,q1.l.trans (by rw[ep];rfl),q1.tm.trans (by rw[ep];rfl),?_⟩,fun e1=>absurd (q2.symm.trans e1) (by decide),fun _=>h0⟩;rcases q1.f with e | e
   ·exact .inl e
   ·refine .inr ⟨e.1,?_⟩
    have el:t'.1.2.1=t.1.2.1:=by rw[ep];rfl
    rw[<- el];exact e.2
theorem MT.tick(h:MT pl x t):Stp2 pl x t (kH t).1 (kH t).2∧OkW t.1∧(iW (kH t).1=1->iW t=1)∧(atT (kH t).1≠0->atT t≠0):=by
 by_cases h0:atT t=0
 ·have hw:=(h.r h0).1
  have e:kH t=(t,[]):=by
   have:kK t.1=(t.1,[],false):=by unfold kK;rw[if_neg (by rw[hw];decide)]
   unfold kH;rw[this,if_pos rfl]
  rw[e];exact⟨h.same,fun q=>absurd (hw.symm.trans q) (by decide),fun e=>e,fun e=>e⟩
 ·obtain⟨hg,hw,ha,hl,ht⟩:=h.w h0
  have hlt:=h.lt h0;have hr:=Ag h.kt hg.g.good;have okw:OkW t.1:=fun _=>⟨by rw[ha];exact hr,hl.1,hl.2,ht.1,ht.2⟩;have hx:=wF t.1.2.1 h.kt.p.x0 h.kt.p.x1;have wait:∀{p:TP},OkP p->p.1=9->p.2.2.2.2.1=true->p.2.2.2.2.2.1=iQ t->(1≤p.2.2.2.2.2.2.2.1∧p.2.2.2.2.2.2.2.1≤100000)->(0≤p.2.2.2.2.2.2.2.2∧p.2.2.2.2.2.2.2.2≤1000)->p.2.2.2.2.2.2.2.1≤p.2.2.1->MT pl x (p,t.2):=fun hp hu a b c d e=>⟨h.toMK.poll hp hu,fun e=>absurd e h0,fun _=>⟨hg.poll hp hu,a,b,c,d⟩,fun _=>e⟩;by_cases e1:t.1.2.2.2.2.2.2.2.1=1
  ·by_cases e2:0<t.1.2.2.2.2.2.2.2.2
   ·have e:kH t=((ug (sI t.1 0 (t.1.2.2.2.2.2.2.2.2 - 1)),t.2),zm (sI t.1 0 (t.1.2.2.2.2.2.2.2.2 - 1))):=by
     have:kK t.1=(ug (sI t.1 0 (t.1.2.2.2.2.2.2.2.2 - 1)),zm (sI t.1 0 (t.1.2.2.2.2.2.2.2.2 - 1)),false):=by unfold kK;rw[if_pos hw,if_pos e1,if_pos e2]
     unfold kH;rw[this,if_pos rfl]
    rw[e];refine⟨⟨wait ⟨h.kt.p.u0,h.kt.p.u1,h.kt.p.l,h.kt.p.t0,h.kt.p.t1,h.kt.p.r0,h.kt.p.r1,h.kt.p.a,hx.1,hx.2⟩ h.u hw ha ⟨h.kt.p.t0,h.kt.p.t1⟩ ⟨by show 0≤t.1.2.2.2.2.2.2.2.2 - 1;omega,by show t.1.2.2.2.2.2.2.2.2 - 1≤1000;omega⟩ (Int.le_refl _),rfl,rfl,rfl,.inr ⟨h0,_,hx,?_⟩⟩,okw,fun e=>e,fun _=>h0⟩;show jA t.1.2.1 t.1.1 _ t.1.2.2.2.2.2.1=jA t.1.2.1 9 _ (iQ t);rw[h.u,ha];rfl
   ·have e:kK t.1=(fK t.1,[],true):=by unfold kK;rw[if_pos hw,if_pos e1,if_neg e2]
    have pd:=amB h.kt.p;unfold kH;rw[e,if_neg (fun h=>by cases h)];by_cases g1:t.2.2.2.2.1=1
    ·rw[if_pos g1]
     have mk:=h.toMK.poll pd h.u;refine⟨⟨⟨⟨(mk.kt).end 2,h.o,h.u,h.tx,h.bl,h.gl,fun n=>absurd g1 n,fun z=>absurd (g1.symm.trans z) (by decide),h.xp⟩,fun _=>⟨rfl,fun _=>.inr rfl⟩,fun n=>absurd rfl n,fun n=>absurd rfl n⟩,rfl,rfl,rfl,.inl rfl⟩,okw,fun e=>absurd e (show ¬ (2:Int)=1 by decide),fun n=>absurd rfl n⟩
    ·rw[if_neg g1]
     have mg:MG pl x (fK t.1,t.2):=hg.poll pd h.u;obtain⟨q1,q2,q3⟩:=mg.go rfl;exact⟨⟨q1.mt,q1.gl,q1.l,q1.tm,q1.f⟩,okw,fun e=>absurd (q2.symm.trans e) (by decide),fun _=>h0⟩
  ·have e:kH t=((aah t.1 (t.1.2.2.2.2.2.2.2.1 - 1),t.2),[]):=by
    have:kK t.1=(aah t.1 (t.1.2.2.2.2.2.2.2.1 - 1),[],false):=by unfold kK;rw[if_pos hw,if_neg e1]
    unfold kH;rw[this,if_pos rfl]
   rw[e];exact⟨⟨wait ⟨h.kt.p.u0,h.kt.p.u1,h.kt.p.l,h.kt.p.t0,h.kt.p.t1,h.kt.p.r0,h.kt.p.r1,h.kt.p.a,h.kt.p.x0,h.kt.p.x1⟩ h.u hw ha ⟨by show 1≤t.1.2.2.2.2.2.2.2.1 - 1;omega,by show t.1.2.2.2.2.2.2.2.1 - 1≤100000;omega⟩ ht (by show t.1.2.2.2.2.2.2.2.1 - 1≤t.1.2.2.1;omega),rfl,rfl,rfl,.inl rfl⟩,okw,fun e=>e,fun _=>h0⟩
end
def CQ(x g la:Int)(gp:Prop)(v y:Int):Prop:=(1≤y∧y≤x)∧(v=3->y≤g∧(y≤la∨y=g))∧(v=4->y≠g)∧(gp->v=3∨v=4->y<x)
def ST(x:Int)(gp:Prop)(A:TAg)(st:TSt):Prop:=st.2.2.2≤A.2.2.2.2.1∧st.2.2.1≤x∧(gp->st.1=7->st.2.1=2->st.2.2.1=x->A.2.2.1=2∧A.2.2.2.1=x)
inductive MS(pl:List (List ay)) (x g l:Int) (gp:Prop) (A:TAg):Bool×List Int->Prop
 | req (z:Int) (a:TA) (hz:0≤z∧z≤65535) (h:RQ pl (CQ x g A.2.2.2.2.1 gp) a):MS pl x g l gp A (false,jA l 9 z a)
 | rep (z:Int) (r:TR) (hz:0≤z∧z≤65535) (h:Rep r) (hs:∀st,gz r=some st->ST x gp A st):MS pl x g l gp A (true,ji l 9 z r)
theorem MS.mono{pl:List (List ay)}{x g l x' g':Int}{gp gp':Prop}{A A':TAg}{m:Bool×List Int}(h:MS pl x g l gp A m)(hc:∀v y,CQ x g A.2.2.2.2.1 gp v y->CQ x' g' A'.2.2.2.2.1 gp' v y)(hs:∀st,ST x gp A st->ST x' gp' A' st):MS pl x' g' l gp' A' m:=by
 cases h with
 | req z a hz h=>exact .req z a hz (h.mono hc)
 | rep z r hz h h2=>exact .rep z r hz h (fun st e=>hs st (h2 st e))
structure PI(pl:List (List ay)) (x g:Int) (t:TTk) (s:TSl) (w:kP):Prop where
 mt:MT pl x t
 ks:OkS s
 u:s.1=9
 l:s.2.1=t.1.2.1
 x0:0≤x
 ag:AG pl x s.2.2.1
 lg:s.2.2.1.2.2.2.2.1≤g
 gx:g≤x
 g1:dz t=1∨dz t=3->g<x
 g2:dz t=2->g=x
 gd:g≤s.2.2.1.2.2.2.2.1∨dz t=2∧atT t≠0
 pr:dz t=1->iW t=1->s.2.2.1.2.2.1=2∧s.2.2.1.2.2.2.1=x
 cm:dz t=2->atT t≠0->s.2.2.1.2.2.1=2∧s.2.2.1.2.2.2.1=x∨s.2.2.1.2.2.2.2.1=x
 ms:∀m∈w,MS pl x g t.1.2.1 (dz t=1) s.2.2.1 m
 wl:w.length≤12
section
variable {pl:List (List ay)}{x g:Int}{t:TTk}{s:TSl}{w:kP}
theorem PI.sub(h:PI pl x g t s w){w':kP}(hw:∀m∈w',m∈w)(hl:w'.length≤12):PI pl x g t s w':={ h with ms:=fun m hm=>h.ms m (hw m hm),wl:=hl }
theorem amC{w:kP}{b:Bool}{f:List Int}{m:Bool×List Int}(h:m∈jW w b f):m∈w∨m=(b,f)∧0<f.length:=by
 unfold jW at h;split at h
 ·rename_i q
  rcases List.mem_append.1 h with h | h
  ·exact .inl h
  ·exact .inr ⟨List.mem_singleton.1 h,q.1⟩
 ·exact .inl h
theorem amD{w:kP}{b:Bool}{f:List Int}(h:w.length≤12):(jW w b f).length≤12:=by
 unfold jW;split
 ·rename_i q
  rw[zZ];have:[(b,f)].length=1:=rfl;omega
 ·exact h
theorem PI.out(h:PI pl x g t s w){b:Bool}{f:List Int}(hm:0<f.length->MS pl x g t.1.2.1 (dz t=1) s.2.2.1 (b,f)):PI pl x g t s (jW w b f) :=
 {h with
  ms:=fun m hm'=>by
   rcases amC hm' with q | ⟨rfl,q⟩
   ·exact h.ms m q
   ·exact hm q
  wl:=amD h.wl }
def Chg(pl:List (List ay))(g:Int)(a A:TAg):Prop:=A.1=a.1∧A.2.2.2.2.1=a.2.2.2.2.1∨A.2.2.2.2.1=g∧A.2.2.2.2.1≠a.2.2.2.2.1∧A.1=qY a.1 (fq pl g)
theorem PI.agent(h:PI pl x g t s w){s':TSl}(hs:OkS s')(hu:s'.1=s.1)(hl:s'.2.1=s.2.1)(ag:AG pl x s'.2.2.1)
  (bk:s'.2.2.1.1=s.2.2.1.1∧s'.2.2.1.2.2.2.2.1=s.2.2.1.2.2.2.2.1∨∃y,CQ x g s.2.2.1.2.2.2.2.1 (dz t=1) 3 y∧s.2.2.1.2.2.1=2∧s.2.2.1.2.2.2.1=y∧s'.2.2.1.1=qY s.2.2.1.1 (fq pl y)∧s'.2.2.1.2.2.2.2.1=y)
  (st:s.2.2.1.2.2.1=2->s'.2.2.1.2.2.1=2∧s'.2.2.1.2.2.2.1=s.2.2.1.2.2.2.1∨CQ x g s.2.2.1.2.2.2.2.1 (dz t=1) 3 s.2.2.1.2.2.2.1∧s'.2.2.1.2.2.2.2.1=s.2.2.1.2.2.2.1∨CQ x g s.2.2.1.2.2.2.2.1 (dz t=1) 4 s.2.2.1.2.2.2.1∨∃y,s.2.2.1.2.2.2.1<y∧CQ x g s.2.2.1.2.2.2.2.1 (dz t=1) 1 y) :
  PI pl x g t s' w∧Chg pl g s.2.2.1 s'.2.2.1:=by
 have chg:Chg pl g s.2.2.1 s'.2.2.1∧s.2.2.1.2.2.2.2.1≤s'.2.2.1.2.2.2.2.1:=by
  rcases bk with q | ⟨y,hc,p2,ty,q1,q2⟩
  ·exact⟨.inl q,by omega⟩
  ·have lt:=(h.ks.a.pn (by omega)).2.1
   have yg:y=g:=by have:=(hc.2.1 rfl).2;omega
   subst yg;exact⟨.inr ⟨q2,by omega,q1⟩,by omega⟩
 obtain⟨chg,le⟩:=chg;have lg':s'.2.2.1.2.2.2.2.1≤g:=by have:=h.lg;rcases chg with q | q<;>omega
 have keep:dz t=1->s.2.2.1.2.2.1=2->s.2.2.1.2.2.2.1=x->s'.2.2.1.2.2.1=2∧s'.2.2.1.2.2.2.1=x:=fun gp p2 tx=>by
  rcases st p2 with q | ⟨q,_⟩ | q | ⟨y,q1,q2⟩
  ·exact⟨q.1,q.2.trans tx⟩
  ·have:=q.2.2.2 gp (.inl rfl);omega
  ·have:=q.2.2.2 gp (.inr rfl);omega
  ·have:=q2.1.2;omega
 refine⟨⟨h.mt,hs,hu.trans h.u,hl.trans h.l,h.x0,ag,lg',h.gx,h.g1,h.g2,?_,fun gp sd=>?_,fun g2 a0=>?_,fun m hm=>(h.ms m hm).mono (fun v y hc=>⟨hc.1,fun e=>?_,hc.2.2.1,hc.2.2.2⟩) (fun st' q=>⟨Int.le_trans q.1 le,q.2.1,fun gp a b c=>?_⟩),h.wl⟩,chg⟩
 ·rcases h.gd with q | q
  ·exact .inl (by omega)
  ·exact .inr q
 ·obtain⟨a,b⟩:=h.pr gp sd
  exact keep gp a b
 ·rcases h.cm g2 a0 with ⟨p2,tx⟩ | q
  ·rcases st p2 with q | ⟨q1,q2⟩ | q | ⟨y,q1,q2⟩
   ·exact .inl ⟨q.1,q.2.trans tx⟩
   ·exact .inr (q2.trans tx)
   ·have:=q.2.2.1 rfl
    exact absurd (tx.trans (h.g2 g2).symm) this
   ·have:=q2.1.2;omega
  ·have:=h.gx
   exact .inr (by omega)
 ·have:=hc.2.1 e
  refine⟨this.1,?_⟩;rcases this.2 with q | q
  ·exact .inl (by omega)
  ·exact .inr q
 ·obtain⟨p2,tx⟩:=q.2.2 gp a b c
  exact keep gp p2 tx
theorem PI.req(hp:ql pl)(hx:x≤4294967295)(h:PI pl x g t s w){z:Int}{a:TA}(hz:0≤z∧z≤65535)(rq:RQ pl (CQ x g s.2.2.1.2.2.2.2.1 (dz t=1)) a) :
  pZ s (jA t.1.2.1 9 z a)=((gI s a).1,ji t.1.2.1 9 z (gI s a).2)∧PI pl x g t (gI s a).1 (jW w true (ji t.1.2.1 9 z (gI s a).2))∧Chg pl g s.2.2.1 (gI s a).1.2.2.1:=by
 obtain⟨ha,hr⟩:=rq.ok hp hx (fun v y h=>h.1);have et:=amr (s:=s) ha hr (by rw[h.u];decide) hz;rw[h.l,h.u]at et;have rp:=Kb h.ks ha hr;obtain⟨A,e1,sv⟩:=ac6 hp hx (fun v y h=>h.1) h.ks h.ag rq;have hs':=vM h.ks ha hr;have hl:=F8 s a;have eA:(gI s a).1.2.2.1=A:=by rw[e1];rfl
 obtain⟨q1,q2⟩:=h.agent hs' hl.1 hl.2 (by rw[eA];exact sv.ag) (by rw[eA];exact sv.bk) (by rw[eA];exact sv.st);refine⟨et,q1.out (fun _=>.rep z _ hz rp (fun st hst=>?_)),q2⟩;have:=sv.rd st hst;rw[eA,this];exact⟨Int.le_refl _,sv.ag.t,fun _ _ a b=>⟨a,b⟩⟩
theorem PI.frame(h:PI pl x g t s w){f:List Int}(hf:f=[]∨atT t≠0∧∃z,(0≤z∧z≤65535)∧f=jA t.1.2.1 9 z (iQ t)):PI pl x g t s (jW w false f):=by
 refine h.out fun h0=>?_;rcases hf with e | ⟨a0,z,hz,e⟩
 ·rw[e]at h0
  exact absurd h0 (by decide)
 ·obtain⟨mg,_⟩:=h.mt.w a0
  have gx:=h.gx
  have x1:1≤x:=mg.xp (fun e=>by
   have:=mg.ap;unfold ApT at this
   omega)
  rw[e];refine .req z _ hz (mg.rq (fun e=>?_) (fun e=>?_) (fun e=>?_))
  ·exact⟨⟨⟨x1,Int.le_refl _⟩,fun e=>absurd e (by decide),fun e=>absurd e (by decide),fun _ e=>by omega⟩,⟨⟨x1,Int.le_refl _⟩,fun e=>absurd e (by decide),fun e=>absurd e (by decide),fun _ e=>by omega⟩,⟨⟨x1,Int.le_refl _⟩,fun e=>absurd e (by decide),fun e=>absurd e (by decide),fun _ e=>by omega⟩⟩
  ·have:=h.g2 e
   exact⟨⟨x1,Int.le_refl _⟩,fun _=>⟨by omega,.inr this.symm⟩,fun e=>absurd e (by decide),fun e2=>by omega⟩
  ·have:=h.g1 (.inr e)
   exact⟨⟨x1,Int.le_refl _⟩,fun e=>absurd e (by decide),fun _=>by omega,fun e2=>by omega⟩
theorem PI.master(h:PI pl x g t s w){t':TTk}{f:List Int}(st:Stp2 pl x t t' f)(pr:dz t=1->iW t'=1->s.2.2.1.2.2.1=2∧s.2.2.1.2.2.2.1=x)(at0:atT t'≠0->atT t≠0)(gd:dz t=2->atT t'=0->g≤s.2.2.1.2.2.2.2.1) :
  PI pl x g t' s (jW w false f):=by
 have h':PI pl x g t' s w:=⟨st.mt,h.ks,h.u,h.l.trans st.l.symm,h.x0,h.ag,h.lg,h.gx,by rw[st.gl];exact h.g1,by rw[st.gl];exact h.g2,by
  rw[st.gl];rcases h.gd with q | ⟨q,_⟩
  ·exact .inl q
  ·by_cases e:atT t'=0
   ·exact .inl (gd q e)
   ·exact .inr ⟨q,e⟩,by rw[st.gl];exact pr,fun g2 a0=>h.cm (st.gl.symm.trans g2) (at0 a0),fun m hm=>by
  have:=h.ms m hm;rw[<- st.gl,<- st.l]at this
  exact this,h.wl⟩
 exact h'.frame (by rw[st.l];exact st.f)
theorem Gb{p:TP}{z:Int}{r r':TR}(hr:Rep r)(hu:p.1=9)(hz:0≤z∧z≤65535)(h:pE p (ji p.2.1 9 z r)=some r'):r'=r:=by
 have hlen:=zw hr.rr;have hpr:=QT hr.ok hr.rr hr.rt;have h9:(0:Int)≤9:=by decide
 unfold pE at h;split at h
 ·have:qW p (ji p.2.1 9 z r)=none∨qW p (ji p.2.1 9 z r)=some r:=by
   unfold qW ji;by_cases h2:p.2.1=2
   ·simp only[if_pos h2]
    unfold Cc;rw[acZ (by omega) hlen.2 hz.1 hz.2 (by decide) (by decide) (uD hr.rr)];dsimp only;rw[hpr]
    repeat' split
    all_goals first | exact .inl rfl | exact .inr rfl
   ·simp only[if_neg h2]
    unfold zu;rw[apU (by omega) hlen.2 (by decide) (by decide)];dsimp only;rw[hpr]
    repeat' split
    all_goals first | exact .inl rfl | exact .inr rfl
  rcases this with e | e
  ·rw[e]at h
   cases h
  ·rw[e,zD]at h
   split at h
   ·exact (Option.some.inj h).symm
   ·cases h
 ·cases h
theorem PI.rep(h:PI pl x g t s w){z:Int}{r:TR}(hz:0≤z∧z≤65535)(hr:Rep r)(hs:∀st,gz r=some st->ST x (dz t=1) s.2.2.1 st) :
  PI pl x g (je t (ji t.1.2.1 9 z r)).1 s (jW w false (je t (ji t.1.2.1 9 z r)).2):=by
 obtain⟨q1,q2,q3⟩:=h.mt.take (ji t.1.2.1 9 z r);have tr:iW (je t (ji t.1.2.1 9 z r)).1=1->iW t≠1->∃st,ST x (dz t=1) s.2.2.1 st∧(dz t=1->st.1=7∧st.2.2.1=x∧st.2.1=2)∧(dz t=2->x≤st.2.2.2):=fun e n=>by obtain⟨r',st,e1,e2,e3,e4⟩:=q2 e n;have:=Gb hr h.mt.u hz e1;subst this;exact⟨st,hs st e2,e3,e4⟩
 refine h.master q1 (fun gp sd=>?_) q3 (fun g2 a0=>?_)
 ·by_cases e:iW t=1
  ·exact h.pr gp e
  ·obtain⟨st,s1,s2,_⟩:=tr sd e
   obtain⟨a,b,c⟩:=s2 gp;exact s1.2.2 gp a c b
 ·rcases h.gd with q | ⟨_,q⟩
  ·exact q
  ·have sd:iW (je t (ji t.1.2.1 9 z r)).1=1:=by
    have hne:dz (je t (ji t.1.2.1 9 z r)).1≠0:=by rw[q1.gl,g2];decide
    rcases (q1.mt.r a0).2 hne with e | e
    ·exact e
    ·exact absurd e (q1.mt.sn (by rw[q1.gl,g2];decide))
   have s0:=(h.mt.w q).1.sd;obtain⟨st,s1,_,s3⟩:=tr sd (by rw[s0];decide);have:=s3 g2;have:=s1.1;have:=h.gx;omega
theorem PI.tick(h:PI pl x g t s w):OkW t.1∧PI pl x g (kH t).1 s (jW w false (kH t).2):=by
 obtain⟨q1,ok,q2,q3⟩:=h.mt.tick;refine⟨ok,h.master q1 (fun gp sd=>h.pr gp (q2 sd)) q3 (fun g2 a0=>?_)⟩;rcases h.gd with q | ⟨_,q⟩
 ·exact q
 ·have s0:=(h.mt.w q).1.sd
  have hne:dz (kH t).1≠0:=by rw[q1.gl,g2];decide
  rcases (q1.mt.r a0).2 hne with e | e
  ·exact absurd (s0.symm.trans (q2 e)) (by decide)
  ·exact absurd e (q1.mt.sn (by rw[q1.gl,g2];decide))
theorem PI.stick(h:PI pl x g t s w):PI pl x g t (Dn s) w∧Chg pl g s.2.2.1 (Dn s).2.2.1:=by
 have hs:=al9 h.ks;have go:=h.ag.own;have e:(Dn s).2.2.1=tickA (fV s.2.2.1):=rfl
 have ag:AG pl x (Dn s).2.2.1:=by
  rw[e];unfold tickA;split
  ·exact AG.free h.x0 _
  ·refine⟨?_,go.t,go.s,go.p⟩
   show (qX _).1.1=0∨(qX _).1.1=7;unfold qX;split
   ·exact go.o
   ·split
    ·exact .inl rfl
    ·exact go.o
 refine h.agent hs rfl rfl ag (.inl ?_) (fun p2=>.inl ?_)
 ·rw[e]
  unfold tickA;split<;>exact⟨rfl,rfl⟩
 ·have hl:=(h.ks.a.p2 p2).1
  have:qX (fV s.2.2.1).2.1=((fV s.2.2.1).2.1,false):=by unfold qX;exact if_pos (.inr hl)
  rw[e];unfold tickA;rw[this,if_neg (by simp)];exact⟨p2,rfl⟩
theorem PI.boot(h:PI pl x g t s w):PI pl x g t (Dp s) w∧Chg pl g s.2.2.1 (Dp s).2.2.1:=by
 have hs:=ama h.ks;have e:(Dp s).2.2.1=bootA (fV s.2.2.1):=rfl
 have ag:AG pl x (Dp s).2.2.1:=by
  rw[e];unfold bootA;split
  ·exact AG.free h.x0 _
  ·exact h.ag.own
 refine h.agent hs rfl rfl ag (.inl ?_) (fun p2=>.inl ?_)
 ·rw[e]
  unfold bootA;split<;>exact⟨rfl,rfl⟩
 ·rw[e]
  unfold bootA;rw[if_neg (by show ¬ s.2.2.1.2.2.1=1;omega)];exact⟨p2,rfl⟩
end
section
variable {pl:List (List ay)}{x g:Int}{t:TTk}{s:TSl}{w:kP}
theorem aaH(h:MT pl x t)(alt:Bool):uE alt t x=none∨uE alt t x=some (2,x)∧dz t=1∧iW t=1∨uE alt t x=some (3,x)∧dz t=1∨uE alt t x=some (1,x+1)∧dz t≠1∧atT t=0:=by
 unfold uE;split
 ·rename_i q
  exact .inr (.inl ⟨rfl,q.1,q.2.1⟩)
 split
 ·rename_i q
  exact .inr (.inr (.inl ⟨rfl,q.1⟩))
 split
 ·exact .inl rfl
 ·rename_i q1 q2 q3
  have a0:atT t=0:=Decidable.byContradiction fun n=>by obtain⟨mg,_⟩:=h.w n;have hs:=mg.sd;have ha:=mg.ap;unfold ApT at ha;exact q3 ⟨by show dz t≠0;omega,hs⟩
  refine .inr (.inr (.inr ⟨rfl,fun e=>?_,a0⟩));rcases (h.r a0).2 (by rw[e];decide) with hs | hs
  ·cases alt with
   | true=>exact q2 ⟨e,.inl rfl⟩
   | false=>exact q1 ⟨e,hs,rfl⟩
  ·exact q2 ⟨e,.inr hs⟩
theorem E4(hp:ql pl)(h:MT pl x t){k y:Int}(hk:1≤k∧k≤3)(hy:1≤y∧y≤4294967295):MG pl y (jd t k y (fq pl y)):=by
 have hl:=(hp y).1;have hfit:pO (fq pl y)=true:=Km (by omega) (fun b hb=>((hp y).2 b hb).1);have hc:k=1∨k=2∨k=3:=by omega
 refine⟨⟨Cj h.kt (by omega) (fun _=>hfit) (fun b hb=>((hp y).2 b hb).2.2),h.o,h.u,rfl,rfl,⟨by show 0≤k;omega,hk.2⟩,fun _=>by show ¬ (0:Int)=2;decide,fun e=>by have e:k=0:=e;omega,fun _=>hy.1⟩,?_,?_,rfl⟩
 ·have e:(jd t k y (fq pl y)).2.2.2.2.2.1=firstT k:=rfl
  unfold goodX;rw[e];rcases hc with rfl | rfl | rfl<;>exact⟨by decide,fun h=>absurd h (by decide)⟩
 ·rcases hc with rfl | rfl | rfl
  ·exact .inl ⟨rfl,(by decide:(1:Int)≤1),(by decide:(1:Int)≤4)⟩
  ·exact .inr (.inl ⟨rfl,.inl rfl⟩)
  ·exact .inr (.inr ⟨rfl,.inl rfl⟩)
theorem amE(hp:ql pl)(h:PI pl x g t s w){k y:Int}(hk:1≤k∧k≤3)(hy:1≤y∧y≤4294967295):jK t k y (fq pl y)=((gP (jd t k y (fq pl y))).1,(gP (jd t k y (fq pl y))).2,0):=by have hl:=(hp y).1;have hfit:pO (fq pl y)=true:=Km (by omega) (fun b hb=>((hp y).2 b hb).1);exact (amu h.mt.kt h.ks (h.u.trans h.mt.u.symm) h.l hk hy (fun _=>hfit) (fun b hb=>((hp y).2 b hb).2.2)).1
theorem PI.begin(hp:ql pl)(hx:x≤1000000)(h:PI pl x g t s w)(alt:Bool):∃x' g' t' w',yj alt t s x g pl w=(true,t',s,x',g',pl,w',())∧PI pl x' g' t' s w'∧x'≤x+1∧x≤x'∧∀k y,uE alt t x=some (k,y)->dz t'=k∧x'=y:=by
 have go:∀{k y:Int},uE alt t x=some (k,y)->1≤k∧k≤3->1≤y∧y≤4294967295->yj alt t s x g pl w=(true,(gP (jd t k y (fq pl y))).1,s,y,if k=2 then y else g,pl,jW w false (gP (jd t k y (fq pl y))).2,()):=fun hk h3 hy=>by unfold yj;rw[hk];dsimp only;rw[amE hp h h3 hy];rfl
 rcases aaH h.mt alt with e | ⟨e,g1,s1⟩ | ⟨e,g1⟩ | ⟨e,g1,a0⟩
 ·refine⟨x,g,t,w,?_,h,by omega,Int.le_refl _,fun k y q=>by rw[e]at q;cases q⟩
  unfold yj;rw[e]
 ·have x1:=h.mt.xp (by rw[g1];decide)
  have hy:1≤x∧x≤4294967295:=by omega
  obtain⟨q1,q2,q3⟩:=(E4 hp h.mt (k:=2) (by decide) hy).go rfl;have gx:=h.g1 (.inl g1);have lg:=h.lg
  have gla:g≤s.2.2.1.2.2.2.2.1:=by
   rcases h.gd with q | q
   ·exact q
   ·omega
  refine⟨_,_,_,_,go e (by decide) hy,?_,by omega,Int.le_refl _,fun k y q=>by rw[e]at q;cases q;exact⟨q1.gl,rfl⟩⟩;rw[if_pos rfl];have gl:dz (gP (jd t 2 x (fq pl x))).1=2:=q1.gl
  have h':PI pl x x (gP (jd t 2 x (fq pl x))).1 s w:=⟨q1.mt,h.ks,h.u,h.l.trans q1.l.symm,h.x0,h.ag,by omega,Int.le_refl _,fun e=>by omega,fun _=>rfl,.inr ⟨gl,q3⟩,fun e=>by omega,fun _ _=>.inl (h.pr g1 s1),fun m hm=>by
   rw[q1.l];refine (h.ms m hm).mono (fun v y hc=>⟨hc.1,fun e3=>?_,fun e4=>?_,fun e=>absurd (gl.symm.trans e) (by decide)⟩) (fun st q=>⟨q.1,q.2.1,fun e=>absurd (gl.symm.trans e) (by decide)⟩)
   ·have:=hc.2.1 e3
    exact⟨by omega,.inl (by omega)⟩
   ·have:=hc.2.2.2 g1 (.inr e4)
    omega,h.wl⟩
  exact h'.frame (by rw[q1.l];exact q1.f)
 ·have x1:=h.mt.xp (by rw[g1];decide)
  have hy:1≤x∧x≤4294967295:=by omega
  obtain⟨q1,q2,q3⟩:=(E4 hp h.mt (k:=3) (by decide) hy).go rfl;have gx:=h.g1 (.inl g1)
  have gla:g≤s.2.2.1.2.2.2.2.1:=by
   rcases h.gd with q | q
   ·exact q
   ·omega
  refine⟨_,_,_,_,go e (by decide) hy,?_,by omega,Int.le_refl _,fun k y q=>by rw[e]at q;cases q;exact⟨q1.gl,rfl⟩⟩;rw[if_neg (by decide)];have gl:dz (gP (jd t 3 x (fq pl x))).1=3:=q1.gl
  have h':PI pl x g (gP (jd t 3 x (fq pl x))).1 s w:=⟨q1.mt,h.ks,h.u,h.l.trans q1.l.symm,h.x0,h.ag,h.lg,h.gx,fun _=>gx,fun e=>by omega,.inl gla,fun e=>by omega,fun e=>by omega,fun m hm=>by
   rw[q1.l]
   exact (h.ms m hm).mono (fun v y hc=>⟨hc.1,hc.2.1,hc.2.2.1,fun e=>absurd (gl.symm.trans e) (by decide)⟩) (fun st q=>⟨q.1,q.2.1,fun e=>absurd (gl.symm.trans e) (by decide)⟩),h.wl⟩
  exact h'.frame (by rw[q1.l];exact q1.f)
 ·have x0:=h.x0
  have hy:1≤x+1∧x+1≤4294967295:=by omega
  obtain⟨q1,q2,q3⟩:=(E4 hp h.mt (k:=1) (by decide) hy).go rfl;have gx:=h.gx
  have gla:g≤s.2.2.1.2.2.2.2.1:=by
   rcases h.gd with q | q
   ·exact q
   ·exact absurd a0 q.2
  refine⟨_,_,_,_,go e (by decide) hy,?_,Int.le_refl _,by omega,fun k y q=>by rw[e]at q;cases q;exact⟨q1.gl,rfl⟩⟩;rw[if_neg (by decide)];have gl:dz (gP (jd t 1 (x+1) (fq pl (x+1)))).1=1:=q1.gl
  have h':PI pl (x+1) g (gP (jd t 1 (x+1) (fq pl (x+1)))).1 s w:=⟨q1.mt,h.ks,h.u,h.l.trans q1.l.symm,by omega,h.ag.mono (by omega),h.lg,by omega,fun _=>by omega,fun e=>by omega,.inl gla,fun _ e=>absurd (q2.symm.trans e) (by decide),fun e=>by omega,fun m hm=>by
   rw[q1.l]
   refine (h.ms m hm).mono (fun v y hc=>⟨⟨hc.1.1,by have:=hc.1.2;omega⟩,hc.2.1,hc.2.2.1,fun _ _=>by have:=hc.1.2;omega⟩) (fun st q=>⟨q.1,by have:=q.2.1;omega,fun _ _ _ e=>by have:=q.2.1;omega⟩),h.wl⟩
  exact h'.frame (by rw[q1.l];exact q1.f)
end
end Go.Proofs.Lx
end
noncomputable section
namespace Pl
open Go Ev Sx
theorem Jv{σ R β:Type}{F:(σ->Option R)->σ->Option R}{mk:Nat->β->σ}{N:Nat}{Inv:Nat->β->Prop}{Q:Option R->Prop}
  (hs:∀self i b,i<N->Inv i b->∃b',Inv (i+1) b'∧F self (mk i b)=self (mk (i+1) b')) (he:∀self b,Inv N b->Q (F self (mk N b))) :
  ∀(k i:Nat) (b:β) (n:Nat),i+k=N->k<n->Inv i b->Q (cu F n (mk i b))
 | _,_,_,0,_,h,_=>by omega
 | 0,i,b,n+1,h,_,hI=>by
  have:i=N:=by omega
  subst this;rw[lN];exact he _ _ hI
 | k+1,i,b,n+1,h,hn,hI=>by obtain⟨b',h1,h2⟩:=hs (cu F n) i b (by omega) hI;rw[lN,h2];exact Jv hs he k (i+1) b' n (by omega) (by omega) h1
def tN(s:Nat):Nat:=s / 2 ^^^ (if s%2=1 then 40961 else 0)
theorem Gc{a b:Nat}(h:a ^^^ b=0):a=b:=by
 have:a ^^^ (b ^^^ b)=b:=by rw[<- Nat.xor_assoc,h,Nat.zero_xor]
 rwa[Nat.xor_self,Nat.xor_zero]at this
theorem atV(a b:Nat):tN (a ^^^ b)=tN a ^^^ tN b:=by
 unfold tN;have hm:(a ^^^ b)%2=(a+b)%2:=by have h1:=Nat.testBit_xor a b 0;rw[Nat.testBit_zero,Nat.testBit_zero,Nat.testBit_zero]at h1;rcases Nat.mod_two_eq_zero_or_one a with ha | ha<;>rcases Nat.mod_two_eq_zero_or_one b with hb | hb<;>rcases Nat.mod_two_eq_zero_or_one (a ^^^ b) with hx | hx<;>rw[ha,hb,hx]at h1<;>first | exact absurd h1 (by decide) | omega
 rw[Nat.xor_div_two,hm];rcases Nat.mod_two_eq_zero_or_one a with ha | ha<;>rcases Nat.mod_two_eq_zero_or_one b with hb | hb
 ·have:(a+b)%2=0:=by omega
  rw[this,ha,hb];simp
 ·have:(a+b)%2=1:=by omega
  rw[this,ha,hb];simp[Nat.xor_assoc]
 ·have:(a+b)%2=1:=by omega
  rw[this,ha,hb];simp only[if_true,Nat.zero_ne_one,if_false,Nat.xor_zero];rw[Nat.xor_assoc,Nat.xor_comm (b / 2),<- Nat.xor_assoc]
 ·have:(a+b)%2=0:=by omega
  rw[this,ha,hb];simp only[if_true];have:a / 2 ^^^ 40961 ^^^ (b / 2 ^^^ 40961)=a / 2 ^^^ b / 2 ^^^ (40961 ^^^ 40961):=by rw[Nat.xor_assoc,Nat.xor_assoc,<- Nat.xor_assoc 40961,Nat.xor_comm 40961 (b / 2),Nat.xor_assoc (b / 2)]
  rw[this,Nat.xor_self];simp
theorem apV{s:Nat}(h:s<65536):tN s<65536:=by
 unfold tN;have:(65536:Nat)=2 ^ 16:=by decide
 rw[this];apply Nat.xor_lt_two_pow
 ·omega
 ·split<;>decide
theorem atX{s:Nat}(h:s<65536)(e:tN s=0):s=0:=by unfold tN at e;have:=Gc e;split at this<;>omega
theorem atY(m:Nat):tN (2*m)=m:=by
 unfold tN;have h1:2*m%2=0:=by omega
 have h2:2*m / 2=m:=by omega
 rw[h1,h2];simp
def tP:Nat->Nat->Nat
 | 0,s=>s
 | k+1,s=>tP k (tN s)
theorem Ck:∀(k a b:Nat),tP k (a ^^^ b)=tP k a ^^^ tP k b
 | 0,_,_=>rfl
 | k+1,a,b=>by show tP k (tN (a ^^^ b))=_;rw[atV,Ck k];rfl
theorem Cm:∀(m n s:Nat),tP (m+n) s=tP n (tP m s)
 | 0,n,s=>by rw[Nat.zero_add];rfl
 | m+1,n,s=>by rw[Nat.add_right_comm];exact Cm m n (tN s)
theorem Jw:∀k,tP k 0=0
 | 0=>rfl
 | k+1=>Jw k
theorem ac7:∀{k s:Nat},s<65536->tP k s=0->s=0
 | 0,_,_,e=>e
 | k+1,s,h,e=>atX h (ac7 (k:=k) (s:=tN s) (apV h) e)
theorem K7:∀{k s:Nat},s<65536->tP k s<65536
 | 0,_,h=>h
 | k+1,s,h=>K7 (k:=k) (s:=tN s) (apV h)
theorem Gd:∀(j m:Nat),tP j (2 ^ j*m)=m
 | 0,m=>by simp[tP]
 | j+1,m=>by
  show tP j (tN (2 ^ (j+1)*m))=m;have:2 ^ (j+1)*m=2*(2 ^ j*m):=by rw[Nat.pow_succ,Nat.mul_comm (2 ^ j) 2,Nat.mul_assoc]
  rw[this,atY,Gd j m]
theorem apW{a b k:Nat}(h:b<2 ^ k):2 ^ k*a+b=2 ^ k*a ^^^ b:=by
 apply Nat.eq_of_testBit_eq;intro i;have e0:=Nat.testBit_two_pow_mul_add a (b:=0) (i:=k) (Nat.two_pow_pos k) i;rw[Nat.add_zero]at e0;rw[Nat.testBit_two_pow_mul_add a h,Nat.testBit_xor,e0];by_cases hi:i<k
 ·rw[if_pos hi,if_pos hi];simp
 ·rw[if_neg hi,if_neg hi]
  have:b.testBit i=false:=Nat.testBit_lt_two_pow (Nat.lt_of_lt_of_le h (Nat.pow_le_pow_right (by decide) (by omega)));rw[this];simp
def aaI(s c:Nat):Nat:=tP 8 (s ^^^ c)
def iR(s:Nat)(xs:List Nat):Nat:=xs.foldl aaI s
theorem Qy:∀(xs:List Nat) (s e:Nat),iR (s ^^^ e) xs=iR s xs ^^^ tP (8*xs.length) e
 | [],s,e=>rfl
 | c::r,s,e=>by
  show iR (tP 8 (s ^^^ e ^^^ c)) r=iR (tP 8 (s ^^^ c)) r ^^^ _;have:s ^^^ e ^^^ c=s ^^^ c ^^^ e:=by rw[Nat.xor_assoc,Nat.xor_comm e c,<- Nat.xor_assoc]
  rw[this,Ck,Qy r,<- Cm,List.length_cons]
  congr 2
  omega
theorem ac8(pre post:List Nat)(s c d:Nat):iR s (pre++(c ^^^ d)::post)=iR s (pre++c::post) ^^^ tP (8*(post.length+1)) d:=by
 unfold iR;rw[List.foldl_append,List.foldl_append];show iR (tP 8 (_ ^^^ (c ^^^ d))) post=iR (tP 8 (_ ^^^ c)) post ^^^ _;rw[<- Nat.xor_assoc,Ck,Qy,<- Cm]
 congr 2
 omega
theorem ac9{n m:Nat}(hn:n<65536)(hm:m<65536):iI .u16 (n:Int) (m:Int)=((n ^^^ m:Nat):Int):=by
 unfold iI;rw[BU]
 have e1:(BitVec.ofInt IntKind.u16.bits (n:Int)).toNat=n:=by
  rw[BitVec.toNat_ofInt];have:((2 ^ IntKind.u16.bits:Nat):Int)=65536:=by decide
  rw[this];omega
 have e2:(BitVec.ofInt IntKind.u16.bits (m:Int)).toNat=m:=by
  rw[BitVec.toNat_ofInt];have:((2 ^ IntKind.u16.bits:Nat):Int)=65536:=by decide
  rw[this];omega
 rw[BitVec.toNat_xor,e1,e2];have:n ^^^ m<2 ^ 16:=Nat.xor_lt_two_pow (by omega) (by omega);omega
theorem aCh{n m:Nat}(hn:n<256)(hm:m<256):iI .u8 (n:Int) (m:Int)=((n ^^^ m:Nat):Int):=by
 unfold iI;rw[wr8]
 have e1:(BitVec.ofInt IntKind.u8.bits (n:Int)).toNat=n:=by
  rw[BitVec.toNat_ofInt];have:((2 ^ IntKind.u8.bits:Nat):Int)=256:=by decide
  rw[this];omega
 have e2:(BitVec.ofInt IntKind.u8.bits (m:Int)).toNat=m:=by
  rw[BitVec.toNat_ofInt];have:((2 ^ IntKind.u8.bits:Nat):Int)=256:=by decide
  rw[this];omega
 rw[BitVec.toNat_xor,e1,e2];have:n ^^^ m<2 ^ 8:=Nat.xor_lt_two_pow (by omega) (by omega);omega
theorem aaJ{n:Nat}(hn:n<65536):kZ .u16 (n:Int) 15=((n%16:Nat):Int):=by
 unfold kZ;rw[BU]
 have e1:(BitVec.ofInt IntKind.u16.bits (n:Int)).toNat=n:=by
  rw[BitVec.toNat_ofInt];have:((2 ^ IntKind.u16.bits:Nat):Int)=65536:=by decide
  rw[this];omega
 have e2:(BitVec.ofInt IntKind.u16.bits 15).toNat=2 ^ 4 - 1:=by decide
 rw[BitVec.toNat_and,e1,e2,Nat.and_two_pow_sub_one_eq_mod];omega
end Pl
namespace Go.Proofs.Lx
open Go Ev Sx Pl
set_option maxRecDepth 100000
theorem atZ:∀i:Fin 16,tab (i.1:Int)=((tP 4 i.1:Nat):Int):=by decide +kernel
theorem ada{s:Nat}(h:s<65536):nib (s:Int)=((tP 4 s:Nat):Int):=by
 unfold nib;have ht:=atZ ⟨s%16,Nat.mod_lt _ (by decide)⟩;dsimp only at ht;have e1:(s:Int) / 16=((s / 16:Nat):Int):=by omega
 rw[aaJ h,ht,aEf _ _ (by decide),e1,ac9 (by omega) (K7 (by omega))]
 have e2:tP 4 s=s / 16 ^^^ tP 4 (s%16):=by
  have e:s=2 ^ 4*(s / 16)+s%16:=by omega
  have hx:=apW (a:=s / 16) (b:=s%16) (k:=4) (by omega);rw[<- e]at hx
  conv=>lhs;rw[hx]
  rw[Ck,Gd]
 rw[e2]
theorem amF{s c:Nat}(hs:s<65536)(hc:c<256):rY (s:Int) (c:Int)=((aaI s c:Nat):Int):=by
 unfold rY aaI
 have h1:s ^^^ c<65536:=by
  have:(65536:Nat)=2 ^ 16:=by decide
  rw[this];exact Nat.xor_lt_two_pow (by omega) (by omega)
 have ec:cvt .u16 (c:Int)=(c:Int):=by rw[zk];omega
 rw[ec,ac9 hs (by omega),ada h1,ada (K7 h1),<- Cm]
abbrev nat(xs:List Int):List Nat:=xs.map zI
abbrev Byt(xs:List Int):Prop:=∀x∈xs,0≤x∧x≤255
theorem Byt.nat{xs:List Int}(h:Byt xs):∀x∈nat xs,x<256:=by intro x hx;obtain⟨y,hy,rfl⟩:=List.mem_map.1 hx;have:=h y hy;omega
theorem amG{xs:List Int}(h:Byt xs):pM xs=((iR 65535 (nat xs):Nat):Int):=by
 have key:∀(xs:List Int) (s:Nat),s<65536->Byt xs->xs.foldl rY (s:Int)=((iR s (nat xs):Nat):Int):=by
  intro xs
  induction xs with
  | nil=>exact fun s _ _=>rfl
  | cons c r ih =>
   intro s hs hb;have hc:=hb c (by simp);obtain⟨n,rfl⟩:=zN hc.1;rw[List.foldl_cons,amF hs (by omega)];refine ih _ (K7 ?_) (fun x h=>hb x (zT _ h));have e:(65536:Nat)=2 ^ 16:=by decide
   rw[e];exact Nat.xor_lt_two_pow (by omega) (by omega)
 exact key xs 65535 (by decide) h
theorem adb{m:List Int}(hb:Byt m)(hl:2≤m.length)(h:pM (m.take (m.length - 2))=iK (m.getD (m.length - 1) 0) (m.getD (m.length - 2) 0)):iR 65535 (nat m)=0:=by
 have g1:m.length - 2<m.length:=by omega
 have g2:m.length - 2+1<m.length:=by omega
 have e:m=m.take (m.length - 2)++[m[m.length - 2],m[m.length - 2+1]]:=by
  conv=>lhs;rw[<- List.take_append_drop (m.length - 2) m]
  congr 1
  rw[List.drop_eq_getElem_cons g1,List.drop_eq_getElem_cons g2,List.drop_of_length_le (by omega)]
 have hlo:=hb _ (List.getElem_mem g1);have hhi:=hb _ (List.getElem_mem g2);have d1:m.getD (m.length - 2) 0=m[m.length - 2]:=by rw[zX,zV g1];rfl
 have d2:m.getD (m.length - 1) 0=m[m.length - 2+1]:=by
  have:m.length - 1=m.length - 2+1:=by omega
  rw[this,zX,zV g2];rfl
 rw[d1,d2,C9 hhi.1 hhi.2 hlo.1 hlo.2,amG (fun x hx=>hb x (List.mem_of_mem_take hx))]at h;rw[e];generalize m[m.length - 2]=lo at *;generalize m[m.length - 2+1]=hi at *;obtain⟨l,rfl⟩:=zN hlo.1;obtain⟨k,rfl⟩:=zN hhi.1;have hs:iR 65535 (nat (m.take (m.length - 2)))=2 ^ 8*k+l:=by omega
 unfold nat at hs ⊢;rw[List.map_append];unfold iR at hs ⊢;rw[List.foldl_append,hs];show tP 8 (tP 8 ((2 ^ 8*k+l) ^^^ l) ^^^ k)=0;rw[apW (by omega:l<2 ^ 8),Nat.xor_assoc,Nat.xor_self,Nat.xor_zero,Gd,Nat.xor_self,Jw]
end Go.Proofs.Lx
end
noncomputable section
open Go Go.Proofs Ev Sx
set_option maxRecDepth 100000
namespace Go.Proofs.Lx
abbrev fO:Ty:=(.pr bH (.pr (.int .u8) (.pr (.int .u32) (.pr (.int .u32) (.pr (.pr (.int .u32) (.pr (.ar 8 .bool) (.ar 8 cP))) (.int .i64))))))
abbrev nJ:Ty:=cF
abbrev nK:Type:=((Int×Int×Int×Int×Bool×(Int×Int×Int×Int×List Int×List Bool)×Int×Int×Int)×Int×Int×List (Int×List Int)×Int×Int×Int×Int×Int)
abbrev jZ:Ty:=(.sl cP)
abbrev nL:Ty:=(.pr (.int .u16) (.pr (.int .u32) (.pr jZ dC)))
abbrev apX:Type:=(Int×List Bool×List (Int×List Int))
abbrev aCi:Type:=(List Int×(Int×Int)×Int×Int×Int×apX×Int)
abbrev jQ:Ty:=dZ
abbrev jR:Type:=List Int×(Int×Int)×Int×Int×Int×apX×Int
abbrev kX:Type:=Int×Int×aCi×List Bool
@[reducible] def cQ:List Ty:=[.sl (.int .u8),.bool]
@[reducible] def aaK:Sh:=⟨[.d aJ,.d (.int .i64),.d (.int .u16)],[],[.sl (.int .u8),.int .i64,.int .u16],[.d aJ,.d (.bool)],[],0,cQ⟩
def amH:Env:=(cts [])
def amI:List (Nat×Hint):=[(15,⟨[],[8,9]⟩),(122,⟨[],[1,2,8,9,15,27,28,31,32,33,34,35]⟩),(15667,⟨[.agd 31 (.int .i64),.agd 33 (.int .i64),.agd 34 (.int .i64),.agd 35 .bool,.agd 27 (.int .i64),.agd 28 .bool],[1,2,8,9,11,15,36]⟩)]
def Jy(at' pattern:Int)(any:Bool)(t15:Int)(out:List Int):St:=⟨[(1,dI at'),(2,d6 pattern),(8,.row 0),(9,dB any),(15,dI t15)],50,[],[(0,.row (.int .u8) 5 out)],1,[],0⟩
def amJ(at' pattern:Int)(any:Bool)(i t15:Int)(t36:Bool)(out:List Int):St:=⟨[(1,dI at'),(2,d6 pattern),(8,.row 0),(9,dB any),(11,dI i),(15,dI t15),(36,dB t36)],50,[],[(0,.row (.int .u8) 5 out)],1,[],0⟩
def amK(any:Bool)(out:List Int):St:=⟨[(8,.row 0),(9,dB any)],50,[],[(0,.row (.int .u8) 5 out)],1,[],0⟩
@[reducible] def cH:Type:=As cQ
@[reducible] def zN0:Type:=Int->Int->Bool->Int->List Int->Option cH
def aaL(j2:Int->Int->Bool->Int->Int->Bool->List Int->Option cH)(j3:Bool->List Int->Option cH)(self1:zN0)(at' pattern:Int)(any:Bool)(t15:Int)(out:List Int):Option cH :=
 if lt t15 16=true then need (ge t15 0) (if eqi (Sx.kZ .u16 (Sx.shr .u16 pattern t15) 1) 1=true then if ge (add .i64 at' t15) 0=true then j2 at' pattern any (add .i64 at' t15) t15 (lt (add .i64 at' t15) (mul .i64 8 (zF (zG out)))) out else j2 at' pattern any (add .i64 at' t15) t15 false out else j2 at' pattern any (add .i64 at' t15) t15 false out) else j3 any out
def amL(self1:zN0)(at' pattern:Int)(any:Bool)(i t15:Int)(t36:Bool)(out:List Int):Option cH :=
 if t36=true then zC (at? out (quo .i64 i 8)) fun x=>zC (at? out (quo .i64 i 8)) fun y=>need (ge (rem i 8) 0) (zC (at? out (quo .i64 i 8)) fun x=>zC (at? out (quo .i64 i 8)) fun x=>self1 at' pattern true (add .i64 t15 1) (List.set out (zI (quo .i64 i 8)) (Sx.iI .u8 y (Sx.shl .u8 1 (rem i 8))))) else self1 at' pattern any (add .i64 t15 1) out
def apY(any:Bool)(out:List Int):Option cH :=
 some (out,any,())
def aaM(j1:zN0)(b:List Int)(at' pattern:Int):Option cH :=
 need (small (0+zG b)) (j1 at' pattern false 0 b)
def aaN(u1:zN0):=amL u1
def apZ:=apY
def Jz(at' pattern:Int)(any:Bool)(t15:Int)(out:List Int):Option cH :=
 cu (fun self s=>aaL (aaN (fun at' pattern any t15 out=>self (at',pattern,any,t15,out))) (apZ) (fun at' pattern any t15 out=>self (at',pattern,any,t15,out)) s.1 s.2.1 s.2.2.1 s.2.2.2.1 s.2.2.2.2) 18446744073709551616 (at',pattern,any,t15,out)
def Qz(x:As [.sl (.int .u8),.int .i64,.int .u16]):Option cH:=aaM Jz x.1 x.2.1 x.2.2.1
abbrev pBx:=zp amH amI 34 aaK
theorem aCj{J w1 a b c d e f g}:pBx J 15667 [w1] (amJ a b c d e f g)=amL (C w1 Jy) a b c d e f g:=by kernel_rfl
theorem aCk{J a b}:pBx J 15 [] (amK a b)=apY a b:=by kernel_rfl
theorem aCl{J w1 a b c d e}:pBx J 122 [w1] (Jy a b c d e)=aaL (C (J 15667 [w1]) amJ) (C (J 15 []) amK) (C w1 Jy) a b c d e:=by kernel_rfl
abbrev pBw:=zj amH amI 34 aaK
theorem aCm{w1}:C (pBw 15667 [w1]) amJ=aaN (C w1 Jy):=gNC (by decide) fun _=>aCj
theorem aCn:C (pBw 15 []) amK=apZ:=gNC (by decide) fun _=>aCk
theorem aCo:C (pBw 122 []) Jy=Jz:=gLC (by decide) (by kernel_rfl) (fun _=>by unfold Jz;rfl) fun _ _=>aCl.trans (by rw[aCm,aCn]<;>kernel_rfl)
theorem aCp:ak Tryz.prog (fun _=>True) 34 ⟨aaK,Qz⟩:=zcc (env:=amH) (d:=6) (hs:=Ev.get amI) av (fun J x=>aaM (C (J 122 []) Jy) x.1 x.2.1 x.2.2.1) (fun _ _=>by kernel_rfl) fun _=>by rw[aCo]<;>rfl
@[reducible] def dO:List Ty:=[.pr (.int .u16) (.int .i64),.bool]
@[reducible] def amM:Sh:=⟨[.d bH],[],bJ,[.d bH,.d (.bool)],[],0,dO⟩
def amN:Env:=(cts [(150,(⟨EK,qN⟩:Ct)),(198,(⟨ajP,BI⟩:Ct)),(229,(⟨ajN,y9⟩:Ct))])
def amO:List (Nat×Hint):=[(14,⟨[],[1,2,14]⟩)]
def amP(t14:Bool)(l t2:Int×Int):St:=⟨[(1,.pb 0 0),(2,.pb 1 0),(14,dB t14)],25,[],[(0,.box 35 [d6 l.1,dI l.2]),(1,.box 35 [d6 t2.1,dI t2.2])],2,[],0⟩
def aaO(t14:Bool)(l t2:Int×Int):Option (As dO) :=
 if t14=true then some (l,false,()) else if eqi (Sx.sub .i64 l.2 1) 0=true then some ((0,0),true,()) else some ((l.1,Sx.sub .i64 l.2 1),false,())
def aaP(j1:Bool->Int×Int->Int×Int->Option (As dO))(l:Int×Int):Option (As dO) :=
 zC (BI (l,())) fun y=>zC (qN (y.1,())) fun y_1=>if y_1.1=true then j1 true y.1 (0,0) else zC (y9 (y.1.1,())) fun y_2=>j1 (eqi y.1.1 y_2.1.1 && (eqi y.1.2 y_2.1.2 && true)) y.1 (0,0)
def amQ:=aaO
def amR(x:As bJ):Option (As dO):=aaP amQ x.1
abbrev pBt:=zp amN amO 172 amM
theorem aCq{J a b c}:pBt J 14 [] (amP a b c)=aaO a b c:=by kernel_rfl
abbrev pBs:=zj amN amO 172 amM
theorem aCr:C (pBs 14 []) amP=amQ:=gNC (by decide) fun _=>aCq
theorem aCs:ak Tryz.prog (fun _=>True) 172 ⟨amM,amR⟩:=zcc (env:=amN) (d:=6) (hs:=Ev.get amO) (aj IU (aj YG (aj YE av))) (fun J x=>aaP (C (J 14 []) amP) x.1) (fun _ _=>by kernel_rfl) fun _=>by rw[aCr]<;>rfl
@[reducible] def aCt:Sh:=⟨[.d (.pr aB fO)],[],[.pr aB fO],[.d (.pr aB fO)],[],0,[.pr aB fO]⟩
def amS(a:jR):Option (As [.pr aB fO]) :=
 zC (EL (a,())) fun y=>zC (amR (y.1.2.1,())) fun y_1=>if y_1.2.1=true then zC (BJ (y.1,())) fun y=>some (y.1,()) else some ((y.1.1,y_1.1,y.1.2.2),())
def aaQ(x:As [.pr aB fO]):Option (As [.pr aB fO]):=amS x.1
theorem aCu:ak Tryz.prog (fun _=>True) 119 ⟨aCt,aaQ⟩:=ctn (aj Y5 (aj aCs (aj Pp av))) 6 fun J x=>by kernel_rfl
@[reducible] def ap0:Sh:=⟨[.d (.pr (.int .u8) (.pr (.int .u8) (.pr (.pr aB fO) (.sl .bool))))],[],[.pr (.int .u8) (.pr (.int .u8) (.pr (.pr aB fO) (.sl .bool)))],[.d (.pr (.int .u8) (.pr (.int .u8) (.pr (.pr aB fO) (.sl .bool))))],[],0,[.pr (.int .u8) (.pr (.int .u8) (.pr (.pr aB fO) (.sl .bool)))]⟩
def amT(s:kX):Option (As [.pr (.int .u8) (.pr (.int .u8) (.pr (.pr aB fO) (.sl .bool)))]) :=
 zC (Ez (s,())) fun y=>zC (aaQ (y.1.2.2.1,())) fun y_1=>some ((y.1.1,y.1.2.1,y_1.1,y.1.2.2.2),())
def aaR(x:As [.pr (.int .u8) (.pr (.int .u8) (.pr (.pr aB fO) (.sl .bool)))]):Option (As [.pr (.int .u8) (.pr (.int .u8) (.pr (.pr aB fO) (.sl .bool)))]):=amT x.1
theorem aCv:ak Tryz.prog (fun _=>True) 60 ⟨ap0,aaR⟩:=ctn (aj aiw (aj aCu av)) 6 fun J x=>by kernel_rfl
@[reducible] def aCw:Sh:=⟨[.d (.pr aB fO)],[],[.pr aB fO],[.d (.pr aB fO)],[],0,[.pr aB fO]⟩
def amU(a:jR):Option (As [.pr aB fO]) :=
 zC (EL (a,())) fun y=>if eqi y.1.2.2.1 1=true then zC (BJ (y.1,())) fun y=>some (y.1,()) else some (y.1,())
def aaS(x:As [.pr aB fO]):Option (As [.pr aB fO]):=amU x.1
theorem aCx:ak Tryz.prog (fun _=>True) 120 ⟨aCw,aaS⟩:=ctn (aj Y5 (aj Pp av)) 6 fun J x=>by kernel_rfl
@[reducible] def ap1:Sh:=⟨[.d (.pr (.int .u8) (.pr (.int .u8) (.pr (.pr aB fO) (.sl .bool))))],[],[.pr (.int .u8) (.pr (.int .u8) (.pr (.pr aB fO) (.sl .bool)))],[.d (.pr (.int .u8) (.pr (.int .u8) (.pr (.pr aB fO) (.sl .bool))))],[],0,[.pr (.int .u8) (.pr (.int .u8) (.pr (.pr aB fO) (.sl .bool)))]⟩
def amV(s:kX):Option (As [.pr (.int .u8) (.pr (.int .u8) (.pr (.pr aB fO) (.sl .bool)))]) :=
 zC (Ez (s,())) fun y=>zC (aaS (y.1.2.2.1,())) fun y_1=>some ((y.1.1,y.1.2.1,y_1.1,[false,false,false,false,false,false,false,false,false,false,false,false,false,false,false,false]),())
def aaT(x:As [.pr (.int .u8) (.pr (.int .u8) (.pr (.pr aB fO) (.sl .bool)))]):Option (As [.pr (.int .u8) (.pr (.int .u8) (.pr (.pr aB fO) (.sl .bool)))]):=amV x.1
theorem aCy:ak Tryz.prog (fun _=>True) 61 ⟨ap1,aaT⟩:=ctn (aj aiw (aj aCx av)) 6 fun J x=>by kernel_rfl
@[reducible] def ap2:Sh:=⟨[.d (.pr (.int .u32) (.pr (.ar 8 .bool) (.ar 8 cP)))],[],[.pr (.int .u32) (.pr (.ar 8 .bool) (.ar 8 cP))],[.d (.bool)],[],0,[.bool]⟩
def aCz:Env:=(cts [(2000041,Ev.gU),(149,(⟨IV,xC⟩:Ct)),(199,(⟨WH,Bj⟩:Ct))])
def amW(s:Int×List Bool×List (Int×List Int)):Option aE :=
 zC (xC (s,())) fun y=>need (le 0 y.1) (need (le y.1 8) (zC (Bj (List.take (zI (y.1 - 0)) (List.drop 0 s.2.1),false,())) fun y=>some (!y.1,())))
def aaU(x:As [.pr (.int .u32) (.pr (.ar 8 .bool) (.ar 8 cP))]):Option aE:=amW x.1
theorem aCA:ak Tryz.prog (fun _=>True) 151 ⟨ap2,aaU⟩:=ctn (env:=aCz) (aj Ev.gq (aj ajU (aj ag5 av))) 6 fun J x=>by kernel_rfl
@[reducible] def aaV:Sh:=⟨[.d (.pr aB fO)],[],[.pr aB fO],[.d (.bool)],[],0,[.bool]⟩
def amX:Env:=(cts [(2000043,Ev.gU),(26,(⟨Ht,qK⟩:Ct)),(149,(⟨IV,xC⟩:Ct)),(150,(⟨EK,qN⟩:Ct)),(151,(⟨ap2,aaU⟩:Ct))])
def amY:List (Nat×Hint):=[(7,⟨[],[1,40,41,42,45,46,47,48,51,52,53,54,60,61,62,63,64,67,68,69,70,71,72,89,90,91]⟩),(62,⟨[],[1,73,89,90,91]⟩),(58,⟨[],[1,16,17,23,24,25,26,27,28,29,40,41,42,45,46,47,48,51,52,53,54,60,61,62,63,64,67,68,69,70,71,72,89,90,91]⟩),(3737,⟨[.agd 23 (.int .i64),.agd 27 cP,.agd 28 .bool,.agd 29 .bool],[1,16,17,30]⟩),(6,⟨[],[1,13,23,24,25,26,27,28,29,40,41,42,45,46,47,48,51,52,53,54,60,61,62,63,64,67,68,69,70,71,72,89,90,91]⟩)]
def amZ(a:jR)(t13:Bool):St:=⟨[(1,.pe (.pr aB fO) a),(13,dB t13)],93,[],[],0,[],0⟩
def JA(a:jR)(t16:List Bool)(t17:Int):St:=⟨[(1,.pe (.pr aB fO) a),(16,.d (.ar 8 .bool) t16),(17,dI t17)],93,[],[],0,[],0⟩
def am0(a:jR)(t16:List Bool)(t17:Int)(t30:Bool):St:=⟨[(1,.pe (.pr aB fO) a),(16,.d (.ar 8 .bool) t16),(17,dI t17),(30,dB t30)],93,[],[],0,[],0⟩
def am1(a:jR):St:=⟨[(1,.pe (.pr aB fO) a)],93,[],[],0,[],0⟩
def am2(a:jR)(t73:Bool):St:=⟨[(1,.pe (.pr aB fO) a),(73,dB t73)],93,[],[],0,[],0⟩
def ap3(j2:jR->List Bool->Int->Option aE)(a:jR)(t13:Bool):Option aE :=
 if t13=true then some (false,()) else j2 a a.2.2.2.2.2.1.2.1 0
def JB(j3:jR->List Bool->Int->Bool->Option aE)(j4:jR->Option aE)(self2:jR->List Bool->Int->Option aE)(a:jR)(t16:List Bool)(t17:Int):Option aE :=
 if lt t17 8=true then need (lt t17 8) (zC (at? t16 t17) fun y=>if y=true then zC (at? a.2.2.2.2.2.1.2.2 t17) fun y=>zC (qK (y,())) fun y=>j3 a t16 t17 !y.1 else j3 a t16 t17 false) else j4 a
def aaW(self2:jR->List Bool->Int->Option aE)(a:jR)(t16:List Bool)(t17:Int)(t30:Bool):Option aE :=
 if t30=true then some (false,()) else self2 a t16 (add .i64 t17 1)
def aaX(j5:jR->Bool->Option aE)(a:jR):Option aE :=
 if eqi a.2.2.1 0=true then if (eqi a.2.1.1 0 && (eqi a.2.1.2 0 && true))=true then if eqi a.2.2.2.1 0=true then if eqi a.2.2.2.2.2.1.1 0=true then zC (xC (a.2.2.2.2.2.1,())) fun y=>some (eqi y.1 0,()) else some (false,()) else some (false,()) else some (false,()) else zC (qN (a.2.1,())) fun y=>if y.1=true then j5 a true else if le a.2.2.2.1 a.2.2.2.2.1=true then j5 a true else j5 a (nei a.2.2.2.2.2.1.1 a.2.2.2.1)
def aaY(a:jR)(t73:Bool):Option aE :=
 if t73=true then some (false,()) else if eqi a.2.2.1 1=true then some (ge a.2.1.2 1,()) else if eqi a.2.2.1 2=true then if eqi a.2.1.2 (-1)=true then zC (aaU (a.2.2.2.2.2.1,())) fun y=>some (y.1,()) else some (false,()) else some (false,())
def aaZ(j1:jR->Bool->Option aE)(a:jR):Option aE :=
 if nei (zF (zG a.1)) 64=true then j1 a true else j1 a (lt a.2.2.2.2.2.2 1)
def QA(u2:jR->List Bool->Int->Option aE):=aaW u2
def aa0:=aaY
def QB:=aaX (aa0)
def QC(a:jR)(t16:List Bool)(t17:Int):Option aE :=
 cu (fun self s=>JB (QA (fun a t16 t17=>self (a,t16,t17))) (QB) (fun a t16 t17=>self (a,t16,t17)) s.1 s.2.1 s.2.2) 18446744073709551616 (a,t16,t17)
def am3:=ap3 (QC)
def aa1(x:As [.pr aB fO]):Option aE:=aaZ am3 x.1
abbrev pAf:=zp amX amY 87 aaV
theorem aCB{J w2 a b c d}:pAf J 3737 [w2] (am0 a b c d)=aaW (C w2 JA) a b c d:=by kernel_rfl
theorem aCC{J a b}:pAf J 62 [] (am2 a b)=aaY a b:=by kernel_rfl
theorem aCD{J a}:pAf J 7 [] (am1 a)=aaX (C (J 62 []) am2) a:=by kernel_rfl
theorem aCE{J w2 a b c}:pAf J 58 [w2] (JA a b c)=JB (C (J 3737 [w2]) am0) (C (J 7 []) am1) (C w2 JA) a b c:=by kernel_rfl
theorem aCF{J a b}:pAf J 6 [] (amZ a b)=ap3 (C (J 58 []) JA) a b:=by kernel_rfl
abbrev pAe:=zj amX amY 87 aaV
theorem aCG{w2}:C (pAe 3737 [w2]) am0=QA (C w2 JA):=gNC (by decide) fun _=>aCB
theorem aCH:C (pAe 62 []) am2=aa0:=gNC (by decide) fun _=>aCC
theorem aCI:C (pAe 7 []) am1=QB:=gNC (by decide) fun _=>aCD.trans (by rw[aCH]<;>kernel_rfl)
theorem aCJ:C (pAe 58 []) JA=QC:=gLC (by decide) (by kernel_rfl) (fun _=>by unfold QC;rfl) fun _ _=>aCE.trans (by rw[aCG,aCI]<;>kernel_rfl)
theorem aCK:C (pAe 6 []) amZ=am3:=gNC (by decide) fun _=>aCF.trans (by rw[aCJ]<;>kernel_rfl)
theorem aCL:ak Tryz.prog (fun _=>True) 87 ⟨aaV,aa1⟩:=zcc (env:=amX) (d:=6) (hs:=Ev.get amY) (aj Ev.gq (aj Ei (aj ajU (aj IU (aj aCA av))))) (fun J x=>aaZ (C (J 6 []) amZ) x.1) (fun _ _=>by kernel_rfl) fun _=>by rw[aCK]<;>rfl
@[reducible] def ap4:Sh:=⟨[.d (.pr (.int .u8) (.pr (.int .u8) (.pr (.pr aB fO) (.sl .bool))))],[],[.pr (.int .u8) (.pr (.int .u8) (.pr (.pr aB fO) (.sl .bool)))],[.d (.bool)],[],0,[.bool]⟩
def aCM:Env:=(cts [(2000045,Ev.gU),(86,(⟨asf,GU⟩:Ct)),(87,(⟨aaV,aa1⟩:Ct))])
def am4(s:kX):Option aE :=
 zC (GU (s.1,s.2.1,())) fun y=>if y.1=true then zC (aa1 (s.2.2.1,())) fun y=>if y.1=true then some (eqi (zF (zG s.2.2.2)) 16,()) else some (false,()) else some (false,())
def aa2(x:As [.pr (.int .u8) (.pr (.int .u8) (.pr (.pr aB fO) (.sl .bool)))]):Option aE:=am4 x.1
theorem aCN:ak Tryz.prog (fun _=>True) 39 ⟨ap4,aa2⟩:=ctn (env:=aCM) (aj Ev.gq (aj asg (aj aCL av))) 6 fun J x=>by kernel_rfl
@[reducible] def eK:Ty:=.pr .bool (.pr .bool (.int .u16))
@[reducible] def dG:Ty:=.pr (.int .u8) eK
@[reducible] def aa3:Sh:=⟨[.pb 0 0,.d (.pr (.int .u8) dG)],[(prG 1),.que jQ 63],[.pr (.int .u8) dG,.pr nJ nL,.pr (.int .u8) (.pr (.int .u8) (.pr (.pr aB fO) (.sl .bool))),.int .u32,.int .u32,.sl jZ,.sl jQ],[.d (.bool)],[(0,(prG 2)),(2,.que jQ 63)],1,[.bool,.pr nJ nL,.pr (.int .u8) (.pr (.int .u8) (.pr (.pr aB fO) (.sl .bool))),.int .u32,.int .u32,.sl jZ,.sl jQ]⟩
def am5:Env:=(cts [(1000048,Ev.gU),(9000046,Ev.gU),(9999999,Ev.gU),(10,(⟨Bh,H8⟩:Ct)),(16,(⟨EO,BP⟩:Ct)),(19,(⟨Z0,Je⟩:Ct)),(20,(⟨G7,A8⟩:Ct)),(34,(⟨aaK,Qz⟩:Ct)),(60,(⟨ap0,aaR⟩:Ct)),(61,(⟨ap1,aaT⟩:Ct))])
def am6:List (Nat×Hint):=[(54,⟨[],[0,3,5,13,18,47,48,49,72,73,74,75,76,77]⟩),(1751,⟨[.quw 0 57 63],[0,3,5,7]⟩),(3503,⟨[],[0,5,7]⟩),(7006,⟨[],[0,3,5,7,78]⟩),(3502,⟨[],[0,3,5,6,7,50,72,73,74,75,76,77]⟩)]
@[reducible] def zN1:Type:=List (Bool×List Int)
@[reducible] def zN2:Type:=Int×Int×Bool×Bool×Int
def am7(k t13:Int)(t18:Bool)(p:nK×(kX)×Unit×Int×Int×List aG)(o:zN1)(d:zN2):St:=⟨[(0,.pb 0 0),(3,.pb 2 0),(5,d8 k),(13,d8 t13),(18,dB t18)],138,[],[(0,.box 48 (fJ p.1 (slC p.2.1 [.row 1,d2 p.2.2.2.1,d2 p.2.2.2.2.1,.d (.sl jZ) p.2.2.2.2.2]))),(1,.que jQ 63 o),(2,.box 76 [d8 d.1,d8 d.2.1,dB d.2.2.1,dB d.2.2.2.1,d6 d.2.2.2.2])],3,[],2⟩
@[reducible] def zN3:Type:=Bool×List Int
def am8(k i:Int)(t50:Bool)(p:nK×(kX)×Unit×Int×Int×List aG)(o:zN1)(d:zN2)(m:zN3):St:=⟨[(0,.pb 0 0),(3,.pb 2 0),(5,d8 k),(6,dI i),(7,.pb 3 0),(50,dB t50)],138,[],[(0,.box 48 (fJ p.1 (slC p.2.1 [.row 1,d2 p.2.2.2.1,d2 p.2.2.2.2.1,.d (.sl jZ) p.2.2.2.2.2]))),(1,.que jQ 63 o),(2,.box 76 [d8 d.1,d8 d.2.1,dB d.2.2.1,dB d.2.2.2.1,d6 d.2.2.2.2]),(3,.box 63 [dB m.1,dL m.2])],4,[],2⟩
def am9(k:Int)(p:nK×(kX)×Unit×Int×Int×List aG)(o:zN1)(d:zN2)(m:zN3):St:=⟨[(0,.pb 0 0),(3,.pb 3 0),(5,d8 k),(7,.pb 4 0)],138,[],[(0,.box 48 (fJ p.1 (slC p.2.1 [.row 2,d2 p.2.2.2.1,d2 p.2.2.2.2.1,.d (.sl jZ) p.2.2.2.2.2]))),(2,.que jQ 63 o),(3,.box 76 [d8 d.1,d8 d.2.1,dB d.2.2.1,dB d.2.2.2.1,d6 d.2.2.2.2]),(4,.box 63 [dB m.1,dL m.2])],5,[],2⟩
def ana(k:Int)(t78:Bool)(p:nK×(kX)×Unit×Int×Int×List aG)(o:zN1)(d:zN2)(m:zN3):St:=⟨[(0,.pb 0 0),(3,.pb 3 0),(5,d8 k),(7,.pb 4 0),(78,dB t78)],138,[],[(0,.box 48 (fJ p.1 (slC p.2.1 [.row 2,d2 p.2.2.2.1,d2 p.2.2.2.2.1,.d (.sl jZ) p.2.2.2.2.2]))),(2,.que jQ 63 o),(3,.box 76 [d8 d.1,d8 d.2.1,dB d.2.2.1,dB d.2.2.2.1,d6 d.2.2.2.2]),(4,.box 63 [dB m.1,dL m.2])],5,[],2⟩
def anb(k:Int)(p:nK×(kX)×Unit×Int×Int×List aG)(o:zN1)(m:zN3):St:=⟨[(0,.pb 0 0),(5,d8 k),(7,.pb 3 0)],138,[],[(0,.box 48 (fJ p.1 (slC p.2.1 [.row 2,d2 p.2.2.2.1,d2 p.2.2.2.2.1,.d (.sl jZ) p.2.2.2.2.2]))),(2,.que jQ 63 o),(3,.box 63 [dB m.1,dL m.2])],4,[],2⟩
def JC(j2:Int->Int->Bool->nK×(kX)×Unit×Int×Int×List aG->List (Bool×List Int)->Int×Int×Bool×Bool×Int->Bool×List Int->Option (As [.bool,.pr nJ nL,.pr (.int .u8) (.pr (.int .u8) (.pr (.pr aB fO) (.sl .bool))),.int .u32,.int .u32,.sl jZ,.sl jQ]))(k t13:Int)(t18:Bool)(p:nK×(kX)×Unit×Int×Int×List aG)(o:zN1)(d:zN2):Option (As [.bool,.pr nJ nL,.pr (.int .u8) (.pr (.int .u8) (.pr (.pr aB fO) (.sl .bool))),.int .u32,.int .u32,.sl jZ,.sl jQ]) :=
 if t18=true then if eqi (zF (zG o)) 0=true then some (true,p.1,(iE p.2.1),p.2.2.2.1,p.2.2.2.2.1,p.2.2.2.2.2,o,()) else need (nei (zF (zG o)) 0) (zC (at? o (rem (cvt .i64 d.2.1) (zF (zG o)))) fun x=>zC (at? o (rem (cvt .i64 d.2.1) (zF (zG o)))) fun y=>if nei k 0=true then j2 k (rem (cvt .i64 d.2.1) (zF (zG o))) true p o d y else j2 k (rem (cvt .i64 d.2.1) (zF (zG o))) (!d.2.2.1) p o d y) else if eqi t13 2=true then zC (Je (p.1,())) fun y=>zC (A8 (y.2.1,y.1,(iE p.2.1),p.2.2.2.1,p.2.2.2.2.1,p.2.2.2.2.2,o,())) fun y=>some (true,y.1,(iE y.2.1),y.2.2.1,y.2.2.2.1,y.2.2.2.2.1,y.2.2.2.2.2.1,()) else if eqi t13 3=true then zC (aaR ((iE p.2.1),())) fun y=>some (true,p.1,(iE y.1),p.2.2.2.1,p.2.2.2.2.1,p.2.2.2.2.2,o,()) else if eqi t13 4=true then zC (aaT ((iE p.2.1),())) fun y=>some (true,p.1,(iE y.1),p.2.2.2.1,p.2.2.2.2.1,p.2.2.2.2.2,o,()) else zC (H8 (d.2.2.2.1,p.1,(iE p.2.1),p.2.2.2.1,p.2.2.2.2.1,p.2.2.2.2.2,o,())) fun y=>some (y.1,y.2.1,(iE y.2.2.1),y.2.2.2.1,y.2.2.2.2.1,y.2.2.2.2.2.1,y.2.2.2.2.2.2.1,())
def aa4(j3:Int->nK×(kX)×Unit×Int×Int×List aG->List (Bool×List Int)->Int×Int×Bool×Bool×Int->Bool×List Int->Option (As [.bool,.pr nJ nL,.pr (.int .u8) (.pr (.int .u8) (.pr (.pr aB fO) (.sl .bool))),.int .u32,.int .u32,.sl jZ,.sl jQ]))(k i:Int)(t50:Bool)(p:nK×(kX)×Unit×Int×Int×List aG)(o:zN1)(d:zN2)(m:zN3):Option (As [.bool,.pr nJ nL,.pr (.int .u8) (.pr (.int .u8) (.pr (.pr aB fO) (.sl .bool))),.int .u32,.int .u32,.sl jZ,.sl jQ]) :=
 if t50=true then need (ge i 0) (need (eqi i i) (need (le i (zF (zG o))) (need (ge (add .i64 i 1) 0) (need (le (add .i64 i 1) (zF (zG o))) (need (le (zF (zG o)) (zF (zG o))) (need (ge (add .i64 i 1) 1) (need (small (zG (List.take (zI i) (List.drop 0 o))+zG (List.take (zI (zF (zG o) - add .i64 i 1)) (List.drop (zI (add .i64 i 1)) o)))) (j3 k p (List.take (zI i) (List.drop 0 o)++List.take (zI (zF (zG o) - add .i64 i 1)) (List.drop (zI (add .i64 i 1)) o)) d m)))))))) else j3 k p o d m
def aa5(j4:Int->Bool->nK×(kX)×Unit×Int×Int×List aG->List (Bool×List Int)->Int×Int×Bool×Bool×Int->Bool×List Int->Option (As [.bool,.pr nJ nL,.pr (.int .u8) (.pr (.int .u8) (.pr (.pr aB fO) (.sl .bool))),.int .u32,.int .u32,.sl jZ,.sl jQ]))(k:Int)(p:nK×(kX)×Unit×Int×Int×List aG)(o:zN1)(d:zN2)(m:zN3):Option (As [.bool,.pr nJ nL,.pr (.int .u8) (.pr (.int .u8) (.pr (.pr aB fO) (.sl .bool))),.int .u32,.int .u32,.sl jZ,.sl jQ]) :=
 if eqi k 6=true then j4 k (eqi p.2.1.2.1 1) p o d m else j4 k false p o d m
def JD(j5:Int->nK×(kX)×Unit×Int×Int×List aG->List (Bool×List Int)->Bool×List Int->Option (As [.bool,.pr nJ nL,.pr (.int .u8) (.pr (.int .u8) (.pr (.pr aB fO) (.sl .bool))),.int .u32,.int .u32,.sl jZ,.sl jQ]))(k:Int)(t78:Bool)(p:nK×(kX)×Unit×Int×Int×List aG)(o:zN1)(d:zN2)(m:zN3):Option (As [.bool,.pr nJ nL,.pr (.int .u8) (.pr (.int .u8) (.pr (.pr aB fO) (.sl .bool))),.int .u32,.int .u32,.sl jZ,.sl jQ]) :=
 if t78=true then need (nei (mul .i64 8 (zF (zG m.2))) 0) (zC (Qz (m.2,rem (cvt .i64 d.2.2.2.2) (mul .i64 8 (zF (zG m.2))),d.2.2.2.2,())) fun y=>j5 k p o (m.1,y.1)) else j5 k p o m
def aa6(k:Int)(p:nK×(kX)×Unit×Int×Int×List aG)(o:zN1)(m:zN3):Option (As [.bool,.pr nJ nL,.pr (.int .u8) (.pr (.int .u8) (.pr (.pr aB fO) (.sl .bool))),.int .u32,.int .u32,.sl jZ,.sl jQ]) :=
 if nei k 1=true then zC (BP (m,p.1,(iE p.2.1),p.2.2.2.1,p.2.2.2.2.1,p.2.2.2.2.2,o,())) fun y=>some (true,y.1,(iE y.2.1),y.2.2.1,y.2.2.2.1,y.2.2.2.2.1,y.2.2.2.2.2.1,()) else some (true,p.1,(iE p.2.1),p.2.2.2.1,p.2.2.2.2.1,p.2.2.2.2.2,o,())
def aa7(j1:Int->Int->Bool->nK×(kX)×Unit×Int×Int×List aG->List (Bool×List Int)->Int×Int×Bool×Bool×Int->Option (As [.bool,.pr nJ nL,.pr (.int .u8) (.pr (.int .u8) (.pr (.pr aB fO) (.sl .bool))),.int .u32,.int .u32,.sl jZ,.sl jQ]))(p:zN2)(d:(Int×Int×Int×Int×Bool×(Int×Int×Int×Int×List Int×List Bool)×Int×Int×Int)×Int×Int×List (Int×List Int)×Int×Int×Int×Int×Int)(p_2:kX)(d_2 v:Int)(k:List aG)(i:zN1):Option (As [.bool,.pr nJ nL,.pr (.int .u8) (.pr (.int .u8) (.pr (.pr aB fO) (.sl .bool))),.int .u32,.int .u32,.sl jZ,.sl jQ]) :=
 if eqi (rem p.1 7) 0=true then j1 (rem p.1 7) (rem p.1 7) true (d,p_2,(),d_2,v,k) i p else if eqi (rem p.1 7) 1=true then j1 (rem p.1 7) (rem p.1 7) true (d,p_2,(),d_2,v,k) i p else j1 (rem p.1 7) (rem p.1 7) (eqi (rem p.1 7) 6) (d,p_2,(),d_2,v,k) i p
def JE:=aa6
def aa8:=JD (JE)
def aa9:=aa5 (aa8)
def QD:=aa4 (aa9)
def QE:=JC (QD)
def aba(x:As [.pr (.int .u8) dG,.pr nJ nL,.pr (.int .u8) (.pr (.int .u8) (.pr (.pr aB fO) (.sl .bool))),.int .u32,.int .u32,.sl jZ,.sl jQ]):Option (As [.bool,.pr nJ nL,.pr (.int .u8) (.pr (.int .u8) (.pr (.pr aB fO) (.sl .bool))),.int .u32,.int .u32,.sl jZ,.sl jQ]):=aa7 QE x.1 x.2.1 x.2.2.1 x.2.2.2.1 x.2.2.2.2.1 x.2.2.2.2.2.1 x.2.2.2.2.2.2.1
abbrev pBf:=zp am5 am6 22 aa3
theorem aCO{J a b c d}:pBf J 3503 [] (anb a b c d)=aa6 a b c d:=by kernel_rfl
theorem aCP{J a b c d e f}:pBf J 7006 [] (ana a b c d e f)=JD (C (J 3503 []) anb) a b c d e f:=by kernel_rfl
theorem aCQ{J a b c d e}:pBf J 1751 [] (am9 a b c d e)=aa5 (C (J 7006 []) ana) a b c d e:=by kernel_rfl
theorem aCR{J a b c d e f g}:pBf J 3502 [] (am8 a b c d e f g)=aa4 (C (J 1751 []) am9) a b c d e f g:=by kernel_rfl
theorem aCS{J a b c d e f}:pBf J 54 [] (am7 a b c d e f)=JC (C (J 3502 []) am8) a b c d e f:=by kernel_rfl
abbrev pBe:=zj am5 am6 22 aa3
theorem aCT:C (pBe 3503 []) anb=JE:=gNC (by decide) fun _=>aCO
theorem aCU:C (pBe 7006 []) ana=aa8:=gNC (by decide) fun _=>aCP.trans (by rw[aCT]<;>kernel_rfl)
theorem aCV:C (pBe 1751 []) am9=aa9:=gNC (by decide) fun _=>aCQ.trans (by rw[aCU]<;>kernel_rfl)
theorem aCW:C (pBe 3502 []) am8=QD:=gNC (by decide) fun _=>aCR.trans (by rw[aCV]<;>kernel_rfl)
theorem aCX:C (pBe 54 []) am7=QE:=gNC (by decide) fun _=>aCS.trans (by rw[aCW]<;>kernel_rfl)
theorem aCY:ak Tryz.prog (fun _=>True) 22 ⟨aa3,aba⟩:=zcc (env:=am5) (d:=6) (hs:=Ev.get am6) (aj Ev.gq (aj Ev.gq (aj Ev.gq (aj asA (aj atd (aj apt (aj aeC (aj aCp (aj aCv (aj aCy av)))))))))) (fun J x=>aa7 (C (J 54 []) am7) x.1 x.2.1 x.2.2.1 x.2.2.2.1 x.2.2.2.2.1 x.2.2.2.2.2.1 x.2.2.2.2.2.2.1) (fun _ _=>by kernel_rfl) fun _=>by rw[aCX]<;>rfl
end Go.Proofs.Lx
end
noncomputable section
namespace Go.Proofs.Lx
open Go Ev Sx Pl
set_option maxRecDepth 100000
theorem arx:∀k:Fin 8,shl .u8 1 (k.1:Int)=((2 ^ k.1:Nat):Int):=by decide +kernel
structure SpI(b0:List Int) (n a0:Nat) (c0:Nat) (k:Nat) (s:zN3):Prop where
 l:s.2.length=n
 b:Byt s.2
 p:∃P,P<2 ^ k∧(s.1=true->P≠0)∧iR 65535 (nat s.2)=c0 ^^^ tP (8*n - a0) P
 e:s.1=false->s.2=b0
theorem Sq{m k:Nat}(h:k≤m):tP m (2 ^ k)=tP (m - k) 1:=by
 have e:m=k+(m - k):=by omega
 conv=>lhs;rw[e]
 rw[Cm];have:=Gd k 1;rw[Nat.mul_one]at this;rw[this]
theorem ary{xs:List Int}{j:Nat}{y:Int}(hy:xs[j]? = some y)(hb:Byt xs){d:Nat}(hd:d<256):iR 65535 (nat (xs.set j ((y.toNat ^^^ d:Nat):Int)))=iR 65535 (nat xs) ^^^ tP (8*(xs.length - j)) d∧Byt (xs.set j ((y.toNat ^^^ d:Nat):Int)):=by
 obtain⟨hj,hy⟩:=List.getElem?_eq_some_iff.1 hy
 have e1:xs=xs.take j++y::xs.drop (j+1):=by
  conv=>lhs;rw[<- List.take_append_drop j xs]
  rw[List.drop_eq_getElem_cons hj,hy]
 have e2:xs.set j ((y.toNat ^^^ d:Nat):Int)=xs.take j++((y.toNat ^^^ d:Nat):Int)::xs.drop (j+1):=List.set_eq_take_append_cons_drop ..|>.trans (if_pos hj);have hy2:=hb y (hy ▸ List.getElem_mem hj);refine⟨?_,fun x hx=>?_⟩
 ·have e3:nat xs=nat (xs.take j)++y.toNat::nat (xs.drop (j+1)):=by
   conv=>lhs;rw[e1]
   simp[nat]
  have e4:nat (xs.set j ((y.toNat ^^^ d:Nat):Int))=nat (xs.take j)++(y.toNat ^^^ d)::nat (xs.drop (j+1)):=by rw[e2];simp[nat]
  rw[e4,ac8,<- e3];have e5:(nat (xs.drop (j+1))).length+1=xs.length - j:=by simp;omega
  rw[e5]
 ·rw[e2]at hx
  rcases List.mem_append.1 hx with h | h
  ·exact hb x (List.mem_of_mem_take h)
  ·rcases List.mem_cons.1 h with h | h
   ·have:y.toNat ^^^ d<2 ^ 8:=Nat.xor_lt_two_pow (by omega) (by omega)
    subst h;omega
   ·exact hb x (List.mem_of_mem_drop h)
theorem anc{b:List Int}(hb:Byt b)(hl:1≤b.length)(hl2:b.length≤1000){a0:Nat}(ha:a0<8*b.length)(pattern:Int) :
  ∃out any,Qz (b,(a0:Int),pattern,())=some (out,any,())∧out.length=b.length∧Byt out∧(any=true->iR 65535 (nat out)≠iR 65535 (nat b))∧(any=false->out=b):=by
 have key:∀o:Option cH,o=Jz (a0:Int) pattern false 0 b->∃out any,o=some (out,any,())∧out.length=b.length∧Byt out∧(any=true->iR 65535 (nat out)≠iR 65535 (nat b))∧(any=false->out=b):=by
  intro o ho;subst ho;unfold Jz;refine Jv (Q:=fun o=>∃out any,o=some (out,any,())∧out.length=b.length∧Byt out∧(any=true->iR 65535 (nat out)≠iR 65535 (nat b))∧(any=false->out=b)) (mk:=fun k (s:zN3)=>((a0:Int),pattern,s.1,(k:Int),s.2)) (N:=16) (Inv:=SpI b b.length a0 (iR 65535 (nat b))) ?_ ?_ 16 0 (false,b) 18446744073709551616 (by omega) (by omega) ⟨rfl,hb,⟨0,by decide,fun h=>(by cases h),by rw[Jw,Nat.xor_zero]⟩,fun _=>rfl⟩
  ·rintro self k ⟨any,out⟩ hk ⟨h1,h2,⟨P,h3,h4,h5⟩,h6⟩
   dsimp only at h1 h2 h4 h5;have stay:SpI b b.length a0 (iR 65535 (nat b)) (k+1) (any,out):=⟨h1,h2,⟨P,by rw[Nat.pow_succ];omega,h4,h5⟩,h6⟩;have ek:add .i64 (k:Int) 1=((k+1:Nat):Int):=iT (by omega);have ei:add .i64 (a0:Int) (k:Int)=((a0+k:Nat):Int):=qP (by omega)
   have K:∀(t:Bool),(t=true->a0+k<8*b.length)->∃b',SpI b b.length a0 (iR 65535 (nat b)) (k+1) b'∧aaN (fun at' pattern any t15 out=>self (at',pattern,any,t15,out)) (a0:Int) pattern any ((a0+k:Nat):Int) (k:Int) t out=self ((a0:Int),pattern,b'.1,((k+1:Nat):Int),b'.2):=by
    intro t ht;unfold aaN amL
    cases t with
    | false =>
     rw[if_neg (by decide),ek];exact⟨(any,out),stay,rfl⟩
    | true =>
     have hlt:=ht rfl;have hq:quo .i64 ((a0+k:Nat):Int) 8=(((a0+k) / 8:Nat):Int):=pz (d:=8) (by omega);have hr:rem ((a0+k:Nat):Int) 8=(((a0+k)%8:Nat):Int):=uN (d:=8);have hj:(a0+k) / 8<out.length:=by omega
     have hy:out[(a0+k) / 8]? = some (out[(a0+k) / 8]'hj):=zV hj;have hyb:=h2 _ (List.getElem_mem hj);have hpow:2 ^ ((a0+k)%8)<256:=by have:2 ^ ((a0+k)%8)≤2 ^ 7:=Nat.pow_le_pow_right (by decide) (by omega);omega
     have hs:=arx ⟨(a0+k)%8,Nat.mod_lt _ (by decide)⟩;dsimp only at hs;have hx:iI .u8 (out[(a0+k) / 8]'hj) (shl .u8 1 (((a0+k)%8:Nat):Int))=(((out[(a0+k) / 8]'hj).toNat ^^^ 2 ^ ((a0+k)%8):Nat):Int):=by rw[hs];obtain⟨m,hm⟩:=zN hyb.1;rw[hm,aCh (by omega) hpow];simp
     obtain⟨f1,f2⟩:=ary hy h2 hpow;have hk2:2 ^ k≠0:=Nat.ne_of_gt (Nat.two_pow_pos k);refine⟨(true,out.set ((a0+k) / 8) (((out[(a0+k) / 8]'hj).toNat ^^^ 2 ^ ((a0+k)%8):Nat):Int)),⟨by simp[h1],f2,⟨P ^^^ 2 ^ k,?_,?_,?_⟩,fun h=>by cases h⟩,?_⟩
     ·exact Nat.xor_lt_two_pow (by rw[Nat.pow_succ];omega) (by rw[Nat.pow_succ];omega)
     ·intro _ h0
      have:=Gc h0;omega
     ·dsimp only
      rw[f1,h5,Nat.xor_assoc,Ck,h1]
      congr 2
      have e1:=Sq (m:=8*(b.length - (a0+k) / 8)) (k:=(a0+k)%8) (by omega);have e2:=Sq (m:=8*b.length - a0) (k:=k) (by omega);rw[e1,e2]
      congr 1
      omega
     ·rw[if_pos rfl,hq,hr,gu hy]
      simp only[zD];rw[eu (by rw[gZ];omega),hx,ek,zQ]
   show ∃b',SpI b b.length a0 (iR 65535 (nat b)) (k+1) b'∧aaL _ _ _ (a0:Int) pattern any (k:Int) out=self ((a0:Int),pattern,b'.1,((k+1:Nat):Int),b'.2);unfold aaL;have hm:mul .i64 8 (zF out.length)=((8*b.length:Nat):Int):=by rw[bn,h1,nE (by omega) (by omega)];simp
   rw[if_pos (by rw[dw];omega),eu (by rw[gZ];omega),ei,hm];split
   ·rw[if_pos (by rw[gZ];omega)]
    exact K _ (fun h=>by rw[dw]at h;omega)
   ·exact K false (fun h=>by cases h)
  ·rintro self ⟨any,out⟩ ⟨h1,h2,⟨P,h3,h4,h5⟩,h6⟩
   refine⟨out,any,rfl,h1,h2,fun ha he=>?_,h6⟩;have hP:=h4 ha;have e:iR 65535 (nat b) ^^^ tP (8*b.length - a0) P=iR 65535 (nat b):=h5.symm.trans he
   have e2:tP (8*b.length - a0) P=0:=by
    have:iR 65535 (nat b) ^^^ (iR 65535 (nat b) ^^^ tP (8*b.length - a0) P)=iR 65535 (nat b) ^^^ iR 65535 (nat b):=by rw[e]
    rwa[<- Nat.xor_assoc,Nat.xor_self,Nat.zero_xor]at this
   exact hP (ac7 (by omega) e2)
 show ∃out any,aaM Jz b (a0:Int) pattern=_∧_;unfold aaM;rw[jw (by omega)];exact key _ rfl
theorem ap5{unit:Int}{pdu bad:List Int}(h1:1≤pdu.length)(h2:pdu.length≤253)(hu:1≤unit∧unit≤247)(hb:Byt pdu)(hlen:bad.length=(iF (unit::pdu)).length)(hbb:Byt bad)
  (hne:iR 65535 (nat bad)≠iR 65535 (nat (iF (unit::pdu)))):(gW bad).2.2≠0:=by
 have hpl:=vG (unit::pdu);have hs:=zl (unit::pdu)
 have hpb:Byt (iF (unit::pdu)):=by
  intro y hy;unfold iF at hy;rcases List.mem_append.1 hy with h | h
  ·rcases List.mem_cons.1 h with h | h
   ·subst h;omega
   ·exact hb y h
  ·simp at h
   rcases h with rfl | rfl<;>omega
 have good:iR 65535 (nat (iF (unit::pdu)))=0:=by
  apply adb hpb (by omega);have e0:(iF (unit::pdu)).length - 2=(unit::pdu).length:=by omega
  have et:(iF (unit::pdu)).take (unit::pdu).length=unit::pdu:=by unfold iF;exact List.take_left
  have e1:(iF (unit::pdu)).getD ((iF (unit::pdu)).length - 1) 0=pM (unit::pdu) / 256:=by
   have:(iF (unit::pdu)).length - 1=(unit::pdu).length+1:=by omega
   rw[this,zX];unfold iF;rw[List.getElem?_append_right (by omega)];simp
  have e2:(iF (unit::pdu)).getD (unit::pdu).length 0=pM (unit::pdu)%256:=by rw[zX];unfold iF;rw[List.getElem?_append_right (by omega)];simp
  rw[e0,et,e1,e2,C9 (by omega) (by omega) (by omega) (by omega)];omega
 have hc:(cutV bad).2=11:=by
  unfold cutV;rw[if_neg (by simp at hpl;omega)];split
  ·rename_i hsum
   exact absurd ((adb hbb (by simp at hpl;omega) hsum).trans good.symm) hne
  ·rfl
 have hr:(gW bad).2.2≠0:=by
  unfold gW;split
  ·show (10:Int)≠0;decide
  ·rw[if_pos (by rw[hc];decide)]
   show (cutV bad).2≠0;rw[hc];decide
 exact hr
section
variable {pl:List (List ay)}{x g:Int}{t:TTk}{s:TSl}{w:kP}{m:Bool×List Int}
theorem Chg.refl(a:TAg):Chg pl g a a:=.inl ⟨rfl,rfl⟩
theorem E5(hp:ql pl)(hx:x≤4294967295){l:Int}{gp:Prop}{A:TAg}(h:MS pl x g l gp A m):(∀y∈m.2,0≤y∧y≤255)∧4≤m.2.length∧m.2.length≤300:=by
 cases h with
 | req z a hz h =>
  obtain⟨ha,hr⟩:=h.ok hp hx (fun v y h=>h.1);have hl:=rM (mD hr);refine⟨Qv (mD hr) (by decide),?_⟩;show 4≤(jA l 9 z a).length∧(jA l 9 z a).length≤300;unfold jA;split
  ·simp[kJ];omega
  ·rw[vG];simp;omega
 | rep z r hz h hs =>
  have hl:=zw h.rr;refine⟨QZ h.rr (by decide),?_⟩;show 4≤(ji l 9 z r).length∧(ji l 9 z r).length≤300;unfold ji;split
  ·simp[kJ];omega
  ·rw[vG];simp;omega
theorem PI.come(hp:ql pl)(hx:x≤4294967295)(h:PI pl x g t s w)(hm:MS pl x g t.1.2.1 (dz t=1) s.2.2.1 m):OkM t m∧PI pl x g (jY m t s w).1 (jY m t s w).2.1 (jY m t s w).2.2∧Chg pl g s.2.2.1 (jY m t s w).2.1.2.2.1:=by
 obtain⟨hb,hl⟩:=E5 hp hx hm
 cases hm with
 | req z a hz rq =>
  obtain⟨et,q1,q2⟩:=h.req hp hx hz rq;have e:jY (false,jA t.1.2.1 9 z a) t s w=(t,(gI s a).1,jW w true (ji t.1.2.1 9 z (gI s a).2)):=by unfold jY;rw[if_neg (by simp)];dsimp only;rw[et]
  rw[e];exact⟨⟨hb,by omega,fun e=>by cases e⟩,q1,q2⟩
 | rep z r hz hr hs =>
  have e:jY (true,ji t.1.2.1 9 z r) t s w=((je t (ji t.1.2.1 9 z r)).1,s,jW w false (je t (ji t.1.2.1 9 z r)).2):=rfl;rw[e];refine⟨⟨hb,by omega,fun _ r' hr'=>?_⟩,h.rep hz hr hs,Chg.refl _⟩;have:=Gb hr h.mt.u hz hr';subst this;have:=hr.ok.lw;exact⟨hr.ok.w,by omega⟩
theorem PI.spoilt(hp:ql pl)(hx:x≤4294967295)(h:PI pl x g t s w)(hm:MS pl x g t.1.2.1 (dz t=1) s.2.2.1 m)(hs:s.2.1=1){a0:Nat}(ha:a0<8*m.2.length)(pattern:Int) :
  ∃out any,Qz (m.2,(a0:Int),pattern,())=some (out,any,())∧OkM t (m.1,out)∧PI pl x g (jY (m.1,out) t s w).1 (jY (m.1,out) t s w).2.1 (jY (m.1,out) t s w).2.2∧Chg pl g s.2.2.1 (jY (m.1,out) t s w).2.1.2.2.1:=by
 obtain⟨hb,hl⟩:=E5 hp hx hm;obtain⟨out,any,e,l1,b1,c1,c2⟩:=anc hb (by omega) (by omega) ha pattern;refine⟨out,any,e,?_⟩
 cases any with
 | false =>
  rw[c2 rfl];exact h.come hp hx hm
 | true =>
  have hne:=c1 rfl;have l2:t.1.2.1=1:=h.l.symm.trans hs;have n2:¬ (1:Int)=2:=by decide
  have bad:(gW out).2.2≠0:=by
   cases hm with
   | req z a hz rq =>
    obtain⟨ha,hr⟩:=rq.ok hp hx (fun v y h=>h.1);have hla:=rM (mD hr);have ef:jA t.1.2.1 9 z a=iF (9::jJ a):=by unfold jA;rw[l2,if_neg n2]
    dsimp only at l1 hne;rw[ef]at l1 hne;exact ap5 (by omega) hla.2 (by decide) (uq (mD hr)) l1 b1 hne
   | rep z r hz hr hs' =>
    have hlr:=zw hr.rr;have ef:ji t.1.2.1 9 z r=iF (9::kG r):=by unfold ji;rw[l2,if_neg n2]
    dsimp only at l1 hne;rw[ef]at l1 hne;exact ap5 (by omega) hlr.2 (by decide) (uD hr.rr) l1 b1 hne
  have ts:pZ s out=(s,[]):=by unfold pZ;rw[hs,if_neg n2,if_pos (.inl bad)]
  have tv:pE t.1 out=none:=by
   unfold pE;split
   ·unfold qW
    rw[l2,if_neg n2];unfold zu;rw[if_pos bad];rfl
   ·rfl
  have tt:je t out=(t,[]):=by unfold je;rw[tv]
  have o0:∀b,jW w b []=w:=fun b=>by unfold jW;exact if_neg (by simp)
  have ec:jY (m.1,out) t s w=(t,s,w):=by
   unfold jY;split
   ·dsimp only
    rw[tt,o0]
   ·dsimp only
    rw[ts,o0]
  rw[ec]
  exact⟨⟨b1,by dsimp only;omega,fun _ r hr=>by
   dsimp only at hr;rw[tv]at hr
   cases hr⟩,h,Chg.refl _⟩
end
theorem ane{l:TLs}(h:kS l)(hb:l.2≤9223372036854775807):amR (l,())=some ((qX l).1,(qX l).2,()):=by
 obtain⟨l1,l2⟩:=l;show aaP amQ (l1,l2)=_;unfold aaP qX;rw[De,zD,wJ h,rT h,zD];dsimp only at hb ⊢;by_cases h0:l1=0
 ·rw[if_pos (by grind),if_pos (Or.inl h0)]
  rfl
 ·rw[if_neg (by grind),z8,zD]
  show aaO _ (l1,l2) (0,0)=_;unfold aaO;dsimp only;have e1:(eqi l1 l1 && (eqi l2 (-1) && true))=decide (l2=-1):=by rw[Bool.eq_iff_iff];simp[bu]
  rw[e1];by_cases h2:l2=-1
  ·simp_all
  ·rw[if_neg (show ¬ decide (l2=-1)=true from fun e=>h2 (of_decide_eq_true e)),if_neg (show ¬ (l1=0∨l2=-1) by omega)]
   have h3:1≤l2:=by
    rcases h with h | h
    ·omega
    omega
   rw[kV (by omega) (by omega)];by_cases h4:l2=1
   ·simp_all[if_pos,bu]
   ·rw[if_neg (fun e=>h4 (by grind[bu])),if_neg h4]
theorem anf{a:TAg}(h:OkG a):aaQ (a,())=some (tickA (fV a),()):=by show amS a=_;unfold amS tickA;have h':=h.own;rw[Df h.sz,zD,ane h'.lr h'.l2,zD,wK];grind
theorem ang{a:TAg}(h:OkG a):aaS (a,())=some (bootA (fV a),()):=by
 show amU a=_;unfold amU bootA;rw[Df h.sz,zD,wK];by_cases e:(fV a).2.2.1=1
 ·simp_all[if_pos,bu]
 simp_all[if_neg,bu]
theorem anh{s:TSl}(h:OkS s):aaR (s,())=some (Dn s,()):=by show amT s=_;unfold amT;rw[Af h,zD,anf h.a];rfl
theorem ani{s:TSl}(h:OkS s):aaT (s,())=some (Dp s,()):=by show amV s=_;unfold amV;rw[Af h,zD,ang h.a];rfl
theorem ade{hv:List Bool}{n:Nat}(hn:n≤8)(hf:sJ hv (n:Int)=true):false ∉ hv.take n:=by
 intro h;obtain⟨i,hi⟩:=List.getElem?_of_mem h
 have hin:i<n:=by
  rcases Nat.lt_or_ge i n with h | h
  ·exact h
  ·rw[List.getElem?_eq_none (by rw[kB];omega)]at hi
   cases hi
 rw[List.getElem?_take_of_lt hin]at hi;have:=of_decide_eq_true hf i (by omega);rw[zX,hi,decide_eq_true (by omega)]at this;cases this
theorem Kr:∀{hv:List Bool} {bs:List ay} {i:Nat} {b:ay},hv[i]? = some true->bs[i]? = some b->b∈gF hv bs
 | [],_,i,b,h,_=>by simp at h
 | _::_,[],i,b,_,h=>by simp at h
 | x::r,c::q,0,b,h1,h2=>by
  have e1:x=true:=by simpa using h1
  have e2:c=b:=by simpa using h2
  subst e1 e2;unfold gF;rw[List.zip_cons_cons,List.filter_cons,if_pos rfl,List.map_cons];exact List.mem_cons_self ..
 | x::r,c::q,i+1,b,h1,h2=>by
  have ih:=Kr (hv:=r) (bs:=q) (i:=i) (b:=b) (by simpa using h1) (by simpa using h2);unfold gF at ih ⊢;rw[List.zip_cons_cons,List.filter_cons];split
  ·rw[List.map_cons]
   exact zT _ ih
  ·exact ih
theorem adf{a:TAg}(h:OkG a):aa1 (a,())=some (true,()):=by
 have hbl:=h.bl;have hkr:=h.kr;show aaZ am3 a=_;unfold aaZ;rw[if_neg (fun e=>fQ.1 e (by rw[bn];omega))];have hlt:lt a.2.2.2.2.2.2 1=false:=by rw[Bool.eq_false_iff];exact fun e=>by have:=dw.1 e;omega
 rw[hlt];show QC a a.2.2.2.2.2.1.2.1 0=_;have hp0:=h.p0;have hpn:=h.pn;have hp1:=h.p1;have hp2:=h.p2;have hpr:=h.pr;have hth:=P5 (st:=a.2.2.2.2.2.1.1) (bs:=a.2.2.2.2.2.1.2.2) h.hl;have hcl:a.2.2.2.2.2.1.2.1.count true≤8:=by have:=List.count_le_length (a:=true) (l:=a.2.2.2.2.2.1.2.1);have:=h.hl;omega
 have K4:QB a=some (true,()):=by
  show aaX aa0 a=_;unfold aaX;by_cases q0:a.2.2.1=0
  ·obtain⟨r1,r2,r3,r4⟩:=hp0 q0
   have hl2:a.2.1.2=0:=by have:=h.lr;unfold kS at this;omega
   have hth':xC (a.2.2.2.2.2.1,())=some (((a.2.2.2.2.2.1.2.1.count true:Nat):Int),()):=hth;rw[if_pos (bu.2 q0),if_pos (by rw[bu.2 r1,bu.2 hl2];rfl),if_pos (bu.2 r2),if_pos (bu.2 r3),hth',zD,r4];rfl
  ·obtain⟨r1,r2,r3⟩:=hpn q0
   have K5:aa0 a false=some (true,()):=by
    show aaY a false=_;unfold aaY;rw[if_neg (by decide)];by_cases q1:a.2.2.1=1
    ·rw[if_pos (bu.2 q1),gZ.2 (hp1 q1)]
    ·have q2:a.2.2.1=2:=by omega
     obtain⟨t1,t2⟩:=hp2 q2;have hth':xC (a.2.2.2.2.2.1,())=some (((a.2.2.2.2.2.1.2.1.count true:Nat):Int),()):=hth;have hf:aaU (a.2.2.2.2.2.1,())=some (true,()):=by show amW a.2.2.2.2.2.1=_;unfold amW;rw[hth',zD];dsimp only;rw[eu (iw.2 (by omega)),eu (iw.2 (by omega)),Int.sub_zero,zQ,List.drop_zero,contains_eq false (by rw[kB];omega),zD,decide_eq_false (ade hcl t2)];rfl
     rw[if_neg (fun e=>q1 (bu.1 e)),if_pos (bu.2 q2),if_pos (bu.2 t1),hf];rfl
   rw[if_neg (fun e=>q0 (bu.1 e)),rT h.lr,zD,if_neg (by rw[decide_eq_false r1];decide),if_neg (fun e=>by have:=iw.1 e;omega)];have hn:nei a.2.2.2.2.2.1.1 a.2.2.2.1=false:=by rw[Bool.eq_false_iff];exact fun e=>fQ.1 e r3
   rw[hn];exact K5
 have hhl:=h.hl;have hsl:=h.sl;have hfb:=h.fb;have hbb:=h.bb;unfold QC;refine lU (N:=8) (mk:=fun i=>(a,a.2.2.2.2.2.1.2.1,(i:Int))) ?_ ?_ 8 0 _ (by omega) (by omega)
 ·intro self i hi
  show JB (QA _) QB _ a a.2.2.2.2.2.1.2.1 (i:Int)=_;obtain⟨z,hz⟩:=jg (xs:=a.2.2.2.2.2.1.2.1) (i:=i) (by omega);obtain⟨c,hc⟩:=jg (xs:=a.2.2.2.2.2.1.2.2) (i:=i) (by omega);have l8:lt (i:Int) 8=true:=dw.2 (by omega);have K3:QA (fun a t16 t17=>self (a,t16,t17)) a a.2.2.2.2.2.1.2.1 (i:Int) false=self (a,a.2.2.2.2.2.1.2.1,((i+1:Nat):Int)):=by show aaW _ _ _ _ _=_;unfold aaW;rw[if_neg (by decide),iT (by omega)]
  unfold JB;rw[if_pos l8,eu l8,gu hz,zD]
  cases z with
  | true =>
   rw[if_pos rfl,gu hc,zD,qg (by have:=hbb c (zY hc);omega),hfb c (Kr hz hc),zD];exact K3
  | false=>rw[if_neg (by decide),K3]
 ·intro self
  show JB (QA _) QB _ a a.2.2.2.2.2.1.2.1 (8:Int)=_;unfold JB;rw[if_neg (by decide)];exact K4
theorem abb{s:TSl}(h:OkS s):aa2 (s,())=some (true,()):=by
 have hu:=h.u;have hl:=h.l;have hc:=h.c;show am4 s=_;unfold am4
 have hr:GU (s.1,s.2.1,())=some (true,()):=by
  show M6 s.1 s.2.1=_;unfold M6;rw[if_pos (gZ.2 hu.1),if_pos (iw.2 hu.2)];by_cases e:s.2.1=1
  ·rw[if_pos (bu.2 e)]
  ·rw[if_neg (fun x=>e (bu.1 x)),bu.2 (by omega)]
 rw[hr,zD,if_pos rfl,adf h.a,zD,if_pos rfl];refine congrArg (fun x=>some (x,())) ?_;rw[bu,bn];omega
abbrev TDd:=Int×Int×Bool×Bool×Int
structure OkD(d:TDd):Prop where
 w:0≤d.1∧d.1≤255
 a:0≤d.2.1∧d.2.1≤255
 p:0≤d.2.2.2.2∧d.2.2.2.2≤65535
theorem at5{α:Type}{l:List α}{n:Nat}(h:n<l.length):∃m,l[n]? = some m∧at? l (n:Int)=some m:=by obtain⟨m,hm⟩:=jg h;exact⟨m,hm,gu hm⟩
section
variable {pl:List (List ay)}{x g:Int}{t:TTk}{s:TSl}{w:kP}{d:TDd}
def Done(pl:List (List ay))(x g:Int)(t:TTk)(s:TSl)(r:Option (Bool×TTk×TSl×Int×Int×List (List ay)×kP×Unit)):Prop :=
 ∃t' s' x' g' w',r=some (true,t',s',x',g',pl,w',())∧PI pl x' g' t' s' w'∧x'≤x+1∧Chg pl g' s.2.2.1 s'.2.2.1
theorem ap6(h:PI pl x g t s w){k:Int}{m:Bool×List Int}(hc:OkM t m∧PI pl x g (jY m t s w).1 (jY m t s w).2.1 (jY m t s w).2.2∧Chg pl g s.2.2.1 (jY m t s w).2.1.2.2.1):Done pl x g t s (JE k (t,s,(),x,g,pl) w m):=by
 obtain⟨hm,hi,hg⟩:=hc;show Done pl x g t s (aa6 k (t,s,(),x,g,pl) w m);unfold aa6;by_cases e:k=1
 ·rw[if_neg (fun q=>fQ.1 q e),kQ h.ks]
  exact⟨_,_,_,_,_,rfl,h,by show x≤x+1;omega,Chg.refl _⟩
 ·rw[if_pos (fQ.2 e),kQ h.ks,amq h.mt.kt h.ks hm,zD]
  dsimp only;rw[kQ hi.ks];exact⟨_,_,_,_,_,rfl,hi,by omega,hg⟩
theorem ap7(hp:ql pl)(hx:x≤4294967295)(h:PI pl x g t s w)(hd:OkD d){k:Int}{m:Bool×List Int}(hm:MS pl x g t.1.2.1 (dz t=1) s.2.2.1 m):Done pl x g t s (aa9 k (t,s,(),x,g,pl) w d m):=by
 have k4:aa8 k false (t,s,(),x,g,pl) w d m=JE k (t,s,(),x,g,pl) w m:=by show JD JE k false _ w d m=_;unfold JD;rw[if_neg (by decide)]
 have plain:=ap6 h (k:=k) (h.come hp hx hm);show Done pl x g t s (aa5 aa8 k (t,s,(),x,g,pl) w d m);unfold aa5;by_cases e6:k=6
 ·rw[if_pos (bu.2 e6)]
  by_cases e1:s.2.1=1
  ·rw[show eqi s.2.1 1=true from bu.2 e1]
   show Done pl x g t s (JD JE k true (t,s,(),x,g,pl) w d m);unfold JD;have hl:=(E5 hp hx hm).2;have hpat:=hd.p;have hmul:mul .i64 8 (zF m.2.length)=((8*m.2.length:Nat):Int):=by rw[bn,nE (by omega) (by omega)];omega
   have hr:rem (cvt .i64 d.2.2.2.2) ((8*m.2.length:Nat):Int)=((d.2.2.2.2.toNat%(8*m.2.length):Nat):Int):=by rw[iU (by omega) (by omega)];unfold rem;obtain⟨n,hn⟩:=zN hpat.1;rw[hn,kC (by omega),zQ];rfl
   obtain⟨out,any,e,q⟩:=h.spoilt hp hx hm e1 (a0:=d.2.2.2.2.toNat%(8*m.2.length)) (Nat.mod_lt _ (by omega)) d.2.2.2.2;rw[if_pos rfl,hmul,eu (fQ.2 (by omega)),hr,e,zD];exact ap6 h q
  ·rw[show eqi s.2.1 1=false from by rw[<- Bool.not_eq_true,bu];exact e1,k4]
   exact plain
 ·rw[if_neg (fun q=>e6 (bu.1 q)),k4]
  exact plain
theorem ap8(hp:ql pl)(hx:x≤4294967295)(h:PI pl x g t s w)(hd:OkD d){k:Int}{n:Nat}{m:Bool×List Int}(hn:w[n]? = some m)(b:Bool):Done pl x g t s (QD k (n:Int) b (t,s,(),x,g,pl) w d m):=by
 have hlt:=(List.getElem?_eq_some_iff.1 hn).1;have hwl:=h.wl;have hm:=h.ms m (zY hn);show Done pl x g t s (aa4 aa9 k (n:Int) b (t,s,(),x,g,pl) w d m);unfold aa4
 cases b with
 | false =>
  rw[if_neg (by decide)];exact ap7 hp hx h hd hm
 | true =>
  have e1:add .i64 (n:Int) 1=((n+1:Nat):Int):=iT (by omega);rw[if_pos rfl,e1,eu (gZ.2 (by omega)),eu (bu.2 rfl),eu (iw.2 (by rw[bn];omega)),eu (gZ.2 (by omega)),eu (iw.2 (by rw[bn];omega)),eu (iw.2 (Int.le_refl _)),eu (gZ.2 (by omega)),jw (by simp only[kB,List.length_drop];omega)];refine ap7 hp hx (h.sub (fun m' hm'=>?_) ?_) hd hm
  ·rcases List.mem_append.1 hm' with q | q
   ·exact List.mem_of_mem_drop (List.mem_of_mem_take q)
   ·exact List.mem_of_mem_drop (List.mem_of_mem_take q)
  ·simp only[zZ,kB,List.length_drop]
   omega
theorem at6(hp:ql pl)(hpl:OkPl pl)(hx:x≤1000000)(h:PI pl x g t s w)(hd:OkD d):Done pl x g t s (aba (d,t,s,x,g,pl,w,())):=by
 have hx2:x≤4294967295:=by omega
 have hw:=hd.w;have ha:=hd.a;have hwl:=h.wl;have ek:rem d.1 7=d.1%7:=by unfold rem;exact kC hw.1
 have come:∀k:Int,Done pl x g t s (QE k k true (t,s,(),x,g,pl) w d):=fun k=>by
  show Done pl x g t s (JC QD k k true (t,s,(),x,g,pl) w d);unfold JC;rw[if_pos rfl];by_cases e0:w.length=0
  ·rw[if_pos (bu.2 (by rw[bn];omega)),kQ h.ks]
   exact⟨_,_,_,_,_,rfl,h,by show x≤x+1;omega,Chg.refl _⟩
  ·have er:rem (cvt .i64 d.2.1) (zF w.length)=((d.2.1.toNat%w.length:Nat):Int):=by rw[iU (by omega) (by omega),bn];unfold rem;obtain⟨n,hn⟩:=zN ha.1;rw[hn,kC (by omega),zQ];rfl
   obtain⟨m,hm,em⟩:=at5 (l:=w) (n:=d.2.1.toNat%w.length) (Nat.mod_lt _ (by omega));rw[if_neg (fun e=>by have:=bu.1 e;rw[bn]at this;omega),eu (fQ.2 (by rw[bn];omega)),er,em,zD,zD];split
   ·exact ap8 hp hx2 h hd hm _
   ·exact ap8 hp hx2 h hd hm _
 have other:∀k:Int,Done pl x g t s (QE k k false (t,s,(),x,g,pl) w d):=fun k=>by
  show Done pl x g t s (JC QD k k false (t,s,(),x,g,pl) w d);unfold JC;rw[if_neg (by decide)];split
  ·obtain⟨ok,q⟩:=h.tick
   dsimp only;rw[amA h.mt.kt ok,zD];dsimp only;rw[kQ h.ks,EY h.ks,zD];dsimp only;rw[kQ h.ks];exact⟨_,_,_,_,_,rfl,q,by omega,Chg.refl _⟩
  split
  ·obtain⟨q1,q2⟩:=h.stick
   dsimp only;rw[kQ h.ks,anh h.ks,zD];dsimp only;rw[kQ q1.ks];exact⟨_,_,_,_,_,rfl,q1,by omega,q2⟩
  split
  ·obtain⟨q1,q2⟩:=h.boot
   dsimp only;rw[kQ h.ks,ani h.ks,zD];dsimp only;rw[kQ q1.ks];exact⟨_,_,_,_,_,rfl,q1,by omega,q2⟩
  ·obtain⟨x',g',t',w',e,q,hx1,_,_⟩:=h.begin hp hx d.2.2.2.1
   dsimp only;rw[kQ h.ks,ac0 h.mt.kt h.ks d.2.2.2.1 ⟨h.x0,hx⟩ g hpl w,e,zD];dsimp only;rw[kQ h.ks];exact⟨_,_,_,_,_,rfl,q,hx1,Chg.refl _⟩
 show Done pl x g t s (aa7 QE d t s x g pl w);unfold aa7;split
 ·exact come _
 split
 ·exact come _
 ·cases eqi (rem d.1 7) 6 with
  | true=>exact come _
  | false=>exact other _
end
section
variable {pl:List (List ay)}{x g:Int}{t:TTk}{s:TSl}{w:kP}
theorem anj{link timeout retries:Int}{b:List Int}(h1:0≤link)(h2:0≤timeout)(h3:0≤retries)(hb:∀x∈b,0≤x∧x≤65535)(pl:List (List ay)):PI pl 0 0 (pP link timeout retries) (pQ link b) []:=by
 have n0:¬ ((0:Int)≠0):=by decide
 have ag:AG pl 0 (pQ link b).2.2.1:=⟨.inl rfl,by show (0:Int)≤0;decide,fun k hk=>absurd hk (Qw k),fun e=>absurd e (show ¬ (0:Int)=2 by decide)⟩;have mk:MK pl 0 (pP link timeout retries):=⟨arp h1 h2 h3,rfl,rfl,rfl,rfl,(by decide:(0:Int)≤0∧(0:Int)≤3),fun _=>show ¬ (0:Int)=2 by decide,fun _=>rfl,fun e=>absurd e n0⟩;exact⟨⟨mk,fun _=>⟨rfl,fun e=>absurd e n0⟩,fun e=>absurd e n0,fun e=>absurd e n0⟩,Sl h1 hb,rfl,rfl,Int.le_refl _,ag,Int.le_refl _,Int.le_refl _,fun e=>by rcases e with e | e<;>exact absurd e (by decide:¬ (0:Int)=_),fun e=>absurd e (show ¬ (0:Int)=2 by decide),.inl (Int.le_refl _),fun e=>absurd e (show ¬ (0:Int)=1 by decide),fun e=>absurd e (show ¬ (0:Int)=2 by decide),fun m hm=>(by cases hm),(by decide)⟩
theorem abd{plan:List (List ay)}(hw:∀l∈plan,∀b∈l,∀y∈b.2,0≤y∧y≤65535):ql (nI plan):=fun y=>aaF hw y
end
end Go.Proofs.Lx
end
noncomputable section
open Go Go.Proofs Ev Sx
set_option maxRecDepth 100000
namespace Go.Proofs.Lx
abbrev ap9:Type:=(Int×Int×Int×Int×Bool×(Int×Int×Int×Int×List Int×List Bool)×Int×Int×Int)
abbrev gQ:Type:=(ap9×Int×Int×List (Int×List Int)×Int×Int×Int×Int×Int)
abbrev mh:Type:=(List Int×(Int×Int)×Int×Int×Int×(Int×List Bool×List (Int×List Int))×Int)
abbrev gJ:Type:=(Int×Int×Bool×Bool×Int)
abbrev Dt:Ty:=(.pr aB (.pr bH (.pr (.int .u8) (.pr (.int .u32) (.pr (.int .u32) (.pr (.pr (.int .u32) (.pr (.ar 8 .bool) (.ar 8 cP))) (.int .i64)))))))
abbrev p8:Ty:=(.sl cP)
abbrev sj:Ty:=(.pr (.int .u8) dG)
abbrev pI:Type:=ap9×Int×Int×List (Int×List Int)×Int×Int×Int×Int×Int
abbrev gT:Type:=Int×Int×mh×List Bool
@[reducible] def abe:Sh:=⟨[.d (.int .u8),.d (.int .u8),.d (.int .u8),.d aB,.d (.sl p8),.d (.sl sj)],[],[.int .u8,.int .u8,.int .u8,.sl (.int .u16),.sl p8,.sl sj],[.d (.bool)],[],0,[.bool]⟩
def ank:Env:=(cts [(1000048,Ev.gU),(9000046,Ev.gU),(9999999,Ev.gU),(9,(⟨M8,G6⟩:Ct)),(12,(⟨Zu,BM⟩:Ct)),(14,(⟨Z9,BQ⟩:Ct)),(15,(⟨EP,Z4⟩:Ct)),(22,(⟨aa3,aba⟩:Ct)),(39,(⟨ap4,aa2⟩:Ct)),(40,(⟨apO,zi⟩:Ct)),(41,(⟨Pq,ze⟩:Ct))])
def anl:List (Nat×Hint):=[(122,⟨[],[13,37,38,39,52,53,54,55,77,78,79,80,81,84,85,86,87,88,103,104,105,106,107,108,111,112,113,114,125,126,127,128,129,132,133,134,135,138,139,140,141,142,143,144,145]⟩),(7833,⟨[],[13,16,17,18,37,38,39,52,53,54,55,77,78,79,80,81,84,85,86,87,88,103,104,105,106,107,108,111,112,113,114,125,126,127,128,129,132,133,134,135,138,139,140,141,142,143,144,145]⟩),(62671,⟨[],[13,17,19,37,38,39,52,53,54,55,77,78,79,80,81,84,85,86,87,88,103,104,105,106,107,108,111,112,113,114,125,126,127,128,129,132,133,134,135,138,139,140,141,142,143,144,145]⟩),(4011002,⟨[.agd 126 (.int .u32),.agd 128 (.int .u32),.agd 129 .bool,.agd 134 (.int .u16),.agd 135 .bool,.agd 139 (.pr (.int .u32) (.pr (.ar 8 .bool) (.ar 8 cP))),.agd 140 p8,.agd 142 (.int .u32),.agd 144 .bool,.agd 145 .bool,.agd 143 p8],[13,37,38,39,146]⟩),(250686,⟨[.agd 113 (.int .u8),.agd 114 .bool,.agd 104 (.int .u8),.agd 107 (.int .u8),.agd 108 .bool],[13,19,37,38,39,115]⟩),(1002741,⟨[.agd 78 (.int .u32),.agd 80 (.int .u32),.agd 81 .bool,.agd 85 aB,.agd 86 aB,.agd 87 .bool,.agd 88 .bool],[13,17,19,37,38,39,89]⟩),(31334,⟨[.agd 53 (.pr (.int .u8) (.pr (.int .u8) (.pr Dt (.sl .bool)))),.agd 54 .bool,.agd 55 .bool],[13,17,18,37,38,39,56]⟩)]
def tO(t37:List gJ)(t38 t39:Int)(p:gQ×(gT)×Unit×Int×Int×List aG)(o:zN1):St:=⟨[(13,.pb 0 0),(37,.d (.sl sj) t37),(38,dI t38),(39,dI t39)],156,[],[(0,.box 48 (fJ p.1 (slC p.2.1 [.row 1,d2 p.2.2.2.1,d2 p.2.2.2.2.1,.d (.sl p8) p.2.2.2.2.2]))),(1,.que dZ 63 o)],2,[],0⟩
def anm(agent:Int)(t37:List gJ)(t38 t39:Int)(p:gQ×(gT)×Unit×Int×Int×List aG)(o:zN1)(d:zN2)(was:pI)(agent_2:List mh):St:=⟨[(13,.pb 0 0),(16,.pb 2 0),(17,.pb 3 0),(18,.prw 4 agent 32 0),(37,.d (.sl sj) t37),(38,dI t38),(39,dI t39)],156,[],[(0,.box 48 (fJ p.1 (slC p.2.1 [.row 1,d2 p.2.2.2.1,d2 p.2.2.2.2.1,.d (.sl p8) p.2.2.2.2.2]))),(1,.que dZ 63 o),(2,.box 76 [d8 d.1,d8 d.2.1,dB d.2.2.1,dB d.2.2.2.1,d6 d.2.2.2.2]),(3,.box 33 (fJ was [])),(4,.row Dt 43 agent_2)],5,[],0⟩
def ano(agent:Int)(t37:List gJ)(t38 t39:Int)(t56:Bool)(p:gQ×(gT)×Unit×Int×Int×List aG)(o:zN1)(was:pI)(agent_2:List mh):St:=⟨[(13,.pb 0 0),(17,.pb 2 0),(18,.prw 3 agent 32 0),(37,.d (.sl sj) t37),(38,dI t38),(39,dI t39),(56,dB t56)],156,[],[(0,.box 48 (fJ p.1 (slC p.2.1 [.row 1,d2 p.2.2.2.1,d2 p.2.2.2.2.1,.d (.sl p8) p.2.2.2.2.2]))),(1,.que dZ 63 o),(2,.box 33 (fJ was [])),(3,.row Dt 43 agent_2)],4,[],0⟩
def anp(now:Int)(t37:List gJ)(t38 t39:Int)(t89:Bool)(p:gQ×(gT)×Unit×Int×Int×List aG)(o:zN1)(was:pI)(now_2:List mh):St:=⟨[(13,.pb 0 0),(17,.pb 2 0),(19,.prw 3 now 32 0),(37,.d (.sl sj) t37),(38,dI t38),(39,dI t39),(89,dB t89)],156,[],[(0,.box 48 (fJ p.1 (slC p.2.1 [.row 1,d2 p.2.2.2.1,d2 p.2.2.2.2.1,.d (.sl p8) p.2.2.2.2.2]))),(1,.que dZ 63 o),(2,.box 33 (fJ was [])),(3,.row Dt 43 now_2)],4,[],0⟩
def abf(now:Int)(t37:List gJ)(t38 t39:Int)(p:gQ×(gT)×Unit×Int×Int×List aG)(o:zN1)(was:pI)(now_2:List mh):St:=⟨[(13,.pb 0 0),(17,.pb 2 0),(19,.prw 3 now 32 0),(37,.d (.sl sj) t37),(38,dI t38),(39,dI t39)],156,[],[(0,.box 48 (fJ p.1 (slC p.2.1 [.row 1,d2 p.2.2.2.1,d2 p.2.2.2.2.1,.d (.sl p8) p.2.2.2.2.2]))),(1,.que dZ 63 o),(2,.box 33 (fJ was [])),(3,.row Dt 43 now_2)],4,[],0⟩
def anq(now:Int)(t37:List gJ)(t38 t39:Int)(t115:Bool)(p:gQ×(gT)×Unit×Int×Int×List aG)(o:zN1)(now_2:List mh):St:=⟨[(13,.pb 0 0),(19,.prw 2 now 32 0),(37,.d (.sl sj) t37),(38,dI t38),(39,dI t39),(115,dB t115)],156,[],[(0,.box 48 (fJ p.1 (slC p.2.1 [.row 1,d2 p.2.2.2.1,d2 p.2.2.2.2.1,.d (.sl p8) p.2.2.2.2.2]))),(1,.que dZ 63 o),(2,.row Dt 43 now_2)],3,[],0⟩
def anr(t37:List gJ)(t38 t39:Int)(t146:Bool)(p:gQ×(gT)×Unit×Int×Int×List aG)(o:zN1):St:=⟨[(13,.pb 0 0),(37,.d (.sl sj) t37),(38,dI t38),(39,dI t39),(146,dB t146)],156,[],[(0,.box 48 (fJ p.1 (slC p.2.1 [.row 1,d2 p.2.2.2.1,d2 p.2.2.2.2.1,.d (.sl p8) p.2.2.2.2.2]))),(1,.que dZ 63 o)],2,[],0⟩
def JF(j2:Int->List gJ->Int->Int->gQ×(gT)×Unit×Int×Int×List aG->List (Bool×List Int)->Int×Int×Bool×Bool×Int->pI->List mh->Option aE)(self1:List gJ->Int->Int->gQ×(gT)×Unit×Int×Int×List aG->List (Bool×List Int)->Option aE)(t37:List gJ)(t38 t39:Int)(p:gQ×(gT)×Unit×Int×Int×List aG)(o:zN1):Option aE :=
 if lt t39 t38=true then zC (at? t37 t39) fun y=>amb (au abe.rs) [j2 0 t37 t38 t39 p o y p.1 [(gH p.2.1.2.2.1)],j2 0 t37 t38 t39 p o y p.1 [(gH p.2.1.2.2.1)]] else zC (Z4 ()) fun y=>some (y.1,())
def abg(j3:Int->List gJ->Int->Int->Bool->gQ×(gT)×Unit×Int×Int×List aG->List (Bool×List Int)->pI->List mh->Option aE)(self1:List gJ->Int->Int->gQ×(gT)×Unit×Int×Int×List aG->List (Bool×List Int)->Option aE)(agent:Int)(t37:List gJ)(t38 t39:Int)(p:gQ×(gT)×Unit×Int×Int×List aG)(o:zN1)(d:zN2)(was:pI)(agent_2:List mh):Option aE :=
 zC (aba (d,p.1,(iE p.2.1),p.2.2.2.1,p.2.2.2.2.1,p.2.2.2.2.2,o,())) fun y=>if (!y.1)=true then j3 agent t37 t38 t39 true (y.2.1,y.2.2.1,(),y.2.2.2.1,y.2.2.2.2.1,y.2.2.2.2.2.1) y.2.2.2.2.2.2.1 was agent_2 else zC (aa2 ((iE y.2.2.1),())) fun y_1=>j3 agent t37 t38 t39 (!y_1.1) (y.2.1,y.2.2.1,(),y.2.2.2.1,y.2.2.2.2.1,y.2.2.2.2.2.1) y.2.2.2.2.2.2.1 was agent_2
def abh(j4:Int->List gJ->Int->Int->Bool->gQ×(gT)×Unit×Int×Int×List aG->List (Bool×List Int)->pI->List mh->Option aE)(j5:Int->List gJ->Int->Int->gQ×(gT)×Unit×Int×Int×List aG->List (Bool×List Int)->pI->List mh->Option aE)(self1:List gJ->Int->Int->gQ×(gT)×Unit×Int×Int×List aG->List (Bool×List Int)->Option aE)(agent:Int)(t37:List gJ)(t38 t39:Int)(t56:Bool)(p:gQ×(gT)×Unit×Int×Int×List aG)(o:zN1)(was:pI)(agent_2:List mh):Option aE :=
 if t56=true then some (false,()) else zC (at? agent_2 agent) fun y=>if nei p.2.1.2.2.1.2.2.2.2.1 y.2.2.2.2.1=true then zC (at? agent_2 agent) fun y=>if eqi (zF (zG p.2.2.2.2.2)) 0=true then zC (BM (y.1,[],())) fun y=>if nei y.2.1 0=true then j4 0 t37 t38 t39 true p o was [(gH p.2.1.2.2.1)] else if nei p.2.1.2.2.1.2.2.2.2.1 p.2.2.2.2.1=true then j4 0 t37 t38 t39 true p o was [(gH p.2.1.2.2.1)] else zC (BQ (p.2.1.2.2.1.1,y.1,())) fun y=>j4 0 t37 t38 t39 (!y.1) p o was [(gH p.2.1.2.2.1)] else need (nei (zF (zG p.2.2.2.2.2)) 0) (zC (at? p.2.2.2.2.2 (rem (cvt .i64 p.2.1.2.2.1.2.2.2.2.1) (zF (zG p.2.2.2.2.2)))) fun y_1=>zC (BM (y.1,y_1,())) fun y=>if nei y.2.1 0=true then j4 0 t37 t38 t39 true p o was [(gH p.2.1.2.2.1)] else if nei p.2.1.2.2.1.2.2.2.2.1 p.2.2.2.2.1=true then j4 0 t37 t38 t39 true p o was [(gH p.2.1.2.2.1)] else zC (BQ (p.2.1.2.2.1.1,y.1,())) fun y=>j4 0 t37 t38 t39 (!y.1) p o was [(gH p.2.1.2.2.1)]) else zC (at? agent_2 agent) fun y=>zC (BQ (p.2.1.2.2.1.1,y.1,())) fun y=>if (!y.1)=true then some (false,()) else j5 0 t37 t38 t39 p o was [(gH p.2.1.2.2.1)]
def abj(j5:Int->List gJ->Int->Int->gQ×(gT)×Unit×Int×Int×List aG->List (Bool×List Int)->pI->List mh->Option aE)(self1:List gJ->Int->Int->gQ×(gT)×Unit×Int×Int×List aG->List (Bool×List Int)->Option aE)(now:Int)(t37:List gJ)(t38 t39:Int)(t89:Bool)(p:gQ×(gT)×Unit×Int×Int×List aG)(o:zN1)(was:pI)(now_2:List mh):Option aE :=
 if t89=true then some (false,()) else j5 now t37 t38 t39 p o was now_2
def abk(j6:Int->List gJ->Int->Int->Bool->gQ×(gT)×Unit×Int×Int×List aG->List (Bool×List Int)->List mh->Option aE)(self1:List gJ->Int->Int->gQ×(gT)×Unit×Int×Int×List aG->List (Bool×List Int)->Option aE)(now:Int)(t37:List gJ)(t38 t39:Int)(p:gQ×(gT)×Unit×Int×Int×List aG)(o:zN1)(was:pI)(now_2:List mh):Option aE :=
 if eqi was.2.2.2.2.2.2.2.2 p.1.2.2.2.2.2.2.2.2=true then if eqi was.2.2.2.2.1 p.1.2.2.2.2.1=true then j6 now t37 t38 t39 true p o now_2 else j6 now t37 t38 t39 (nei p.1.2.2.2.2.2.2.2.2 1) p o now_2 else j6 now t37 t38 t39 (nei p.1.2.2.2.2.2.2.2.2 1) p o now_2
def abl(j7:List gJ->Int->Int->Bool->gQ×(gT)×Unit×Int×Int×List aG->List (Bool×List Int)->Option aE)(self1:List gJ->Int->Int->gQ×(gT)×Unit×Int×Int×List aG->List (Bool×List Int)->Option aE)(now:Int)(t37:List gJ)(t38 t39:Int)(t115:Bool)(p:gQ×(gT)×Unit×Int×Int×List aG)(o:zN1)(now_2:List mh):Option aE :=
 if t115=true then self1 t37 t38 (add .i64 t39 1) p o else if eqi p.1.2.2.2.2.1 1=true then zC (at? now_2 now) fun y=>if nei y.2.2.1 2=true then j7 t37 t38 t39 true p o else zC (at? now_2 now) fun y=>if nei y.2.2.2.1 p.2.2.2.1=true then j7 t37 t38 t39 true p o else zC (at? now_2 now) fun y=>if nei y.2.1.1 7=true then j7 t37 t38 t39 true p o else zC (at? now_2 now) fun y=>zC (ze (y.2.2.2.2.2.1,())) fun y=>if eqi (zF (zG p.2.2.2.2.2)) 0=true then zC (zi (y.1,[],())) fun y=>j7 t37 t38 t39 (!y.1) p o else need (nei (zF (zG p.2.2.2.2.2)) 0) (zC (at? p.2.2.2.2.2 (rem (cvt .i64 p.2.2.2.1) (zF (zG p.2.2.2.2.2)))) fun y_1=>zC (zi (y.1,y_1,())) fun y=>j7 t37 t38 t39 (!y.1) p o) else if eqi p.1.2.2.2.2.1 2=true then zC (at? now_2 now) fun y=>if nei y.2.2.2.2.1 p.2.2.2.1=true then some (false,()) else self1 t37 t38 (add .i64 t39 1) p o else self1 t37 t38 (add .i64 t39 1) p o
def abm(self1:List gJ->Int->Int->gQ×(gT)×Unit×Int×Int×List aG->List (Bool×List Int)->Option aE)(t37:List gJ)(t38 t39:Int)(t146:Bool)(p:gQ×(gT)×Unit×Int×Int×List aG)(o:zN1):Option aE :=
 if t146=true then some (false,()) else self1 t37 t38 (add .i64 t39 1) p o
def abn(j1:List gJ->Int->Int->gQ×(gT)×Unit×Int×Int×List aG->List (Bool×List Int)->Option aE)(link timeout retries:Int)(b:List Int)(plan:List aG)(l:List gJ):Option aE :=
 zC (G6 (link,timeout,retries,b,plan,())) fun y=>if (!y.2.2.2.2.2.1)=true then some (false,()) else zC (cut l 0 (if lt 300 (zF (zG l))=true then 300 else zF (zG l))) fun y_1=>j1 y_1 (zF (zG y_1)) 0 (y.1,y.2.1,(),y.2.2.1,y.2.2.2.1,y.2.2.2.2.1) y.2.2.2.2.2.2.1
def QF(u1:List gJ->Int->Int->gQ×(gT)×Unit×Int×Int×List aG->List (Bool×List Int)->Option aE):=abm u1
def QG(u1:List gJ->Int->Int->gQ×(gT)×Unit×Int×Int×List aG->List (Bool×List Int)->Option aE):=abl (QF u1) u1
def E6(u1:List gJ->Int->Int->gQ×(gT)×Unit×Int×Int×List aG->List (Bool×List Int)->Option aE):=abk (QG u1) u1
def xG(u1:List gJ->Int->Int->gQ×(gT)×Unit×Int×Int×List aG->List (Bool×List Int)->Option aE):=abj (E6 u1) u1
def abo(u1:List gJ->Int->Int->gQ×(gT)×Unit×Int×Int×List aG->List (Bool×List Int)->Option aE):=abh (xG u1) (E6 u1) u1
def ant(u1:List gJ->Int->Int->gQ×(gT)×Unit×Int×Int×List aG->List (Bool×List Int)->Option aE):=abg (abo u1) u1
def QI(t37:List gJ)(t38 t39:Int)(p:gQ×(gT)×Unit×Int×Int×List aG)(o:zN1):Option aE :=
 cu (fun self s=>JF (ant (fun t37 t38 t39 p o=>self (t37,t38,t39,p,o))) (fun t37 t38 t39 p o=>self (t37,t38,t39,p,o)) s.1 s.2.1 s.2.2.1 s.2.2.2.1 s.2.2.2.2) 18446744073709551616 (t37,t38,t39,p,o)
def anu(x:As [.int .u8,.int .u8,.int .u8,.sl (.int .u16),.sl p8,.sl sj]):Option aE:=abn QI x.1 x.2.1 x.2.2.1 x.2.2.2.1 x.2.2.2.2.1 x.2.2.2.2.2.1
abbrev pBn:=zp ank anl 8 abe
theorem aCZ{J w1 a b c d e f}:pBn J 4011002 [w1] (anr a b c d e f)=abm (C w1 tO) a b c d e f:=by kernel_rfl
theorem aC0{J w1 a b c d e f g h}:pBn J 250686 [w1] (anq a b c d e f g h)=abl (C (J 4011002 [w1]) anr) (C w1 tO) a b c d e f g h:=by kernel_rfl
theorem aC1{J w1 a b c d e f g h}:pBn J 62671 [w1] (abf a b c d e f g h)=abk (C (J 250686 [w1]) anq) (C w1 tO) a b c d e f g h:=by kernel_rfl
theorem aC2{J w1 a b c d e f g h i}:pBn J 1002741 [w1] (anp a b c d e f g h i)=abj (C (J 62671 [w1]) abf) (C w1 tO) a b c d e f g h i:=by kernel_rfl
theorem aC3{J w1 a b c d e f g h i}:pBn J 31334 [w1] (ano a b c d e f g h i)=abh (C (J 1002741 [w1]) anp) (C (J 62671 [w1]) abf) (C w1 tO) a b c d e f g h i:=by kernel_rfl
theorem aC4{J w1 a b c d e f g h i}:pBn J 7833 [w1] (anm a b c d e f g h i)=abg (C (J 31334 [w1]) ano) (C w1 tO) a b c d e f g h i:=by kernel_rfl
theorem aC5{J w1 a b c d e}:pBn J 122 [w1] (tO a b c d e)=JF (C (J 7833 [w1]) anm) (C w1 tO) a b c d e:=by kernel_rfl
abbrev pBm:=zj ank anl 8 abe
theorem aC6{w1}:C (pBm 4011002 [w1]) anr=QF (C w1 tO):=gNC (by decide) fun _=>aCZ
theorem aC7{w1}:C (pBm 250686 [w1]) anq=QG (C w1 tO):=gNC (by decide) fun _=>aC0.trans (by rw[aC6]<;>kernel_rfl)
theorem at7{w1}:C (pBm 62671 [w1]) abf=E6 (C w1 tO):=gNC (by decide) fun _=>aC1.trans (by rw[aC7]<;>kernel_rfl)
theorem aC8{w1}:C (pBm 1002741 [w1]) anp=xG (C w1 tO):=gNC (by decide) fun _=>aC2.trans (by rw[at7]<;>kernel_rfl)
theorem aC9{w1}:C (pBm 31334 [w1]) ano=abo (C w1 tO):=gNC (by decide) fun _=>aC3.trans (by rw[aC8,at7]<;>kernel_rfl)
theorem aDa{w1}:C (pBm 7833 [w1]) anm=ant (C w1 tO):=gNC (by decide) fun _=>aC4.trans (by rw[aC9]<;>kernel_rfl)
theorem aDb:C (pBm 122 []) tO=QI:=gLC (by decide) (by kernel_rfl) (fun _=>by unfold QI;rfl) fun _ _=>aC5.trans (by rw[aDa]<;>kernel_rfl)
theorem aDc:ak Tryz.prog (fun _=>True) 8 ⟨abe,anu⟩:=zcc (env:=ank) (d:=6) (hs:=Ev.get anl) (aj Ev.gq (aj Ev.gq (aj Ev.gq (aj anI (aj apm (aj aBP (aj aAT (aj aCY (aj aCN (aj aBC (aj akz av))))))))))) (fun J x=>abn (C (J 122 []) tO) x.1 x.2.1 x.2.2.1 x.2.2.2.1 x.2.2.2.2.1 x.2.2.2.2.2.1) (fun _ _=>by kernel_rfl) fun _=>by rw[aDb]<;>rfl
end Go.Proofs.Lx
end
