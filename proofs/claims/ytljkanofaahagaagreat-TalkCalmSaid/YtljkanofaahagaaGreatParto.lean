/- Proved in the last of these 16 parts (this is part 15): TalkCalm. Conditions: those of the given statement, and no others. -/
import Derived.Test.YtljkanofaahagaaGreatPartn
import Derived.Test.YtljkanofaahagaaGreatPartm
import Derived.Test.YtljkanofaahagaaGreatPartd
import Derived.Test.YtljkanofaahagaaGreatProg
import Derived.Test.YtljkanofaahagaaGreatParte
set_option linter.unusedVariables false
set_option linter.unusedSimpArgs false
set_option linter.unusedSectionVars false
open Option renaming bind → zC, bind_some → zD
open Int renaming ofNat → zF, eq_ofNat_of_zero_le → zN, toNat_natCast → zQ, tmod_eq_emod_of_nonneg → kC
open List renaming length → zG, mem_of_getElem? → zY, length_map → kA, length_take → kB
noncomputable section
namespace Go.Proofs.Lx
open Go Ev Sx Pl
set_option maxRecDepth 100000
section
variable {pl:List (List bn)}{x g:Int}{t:TTk}{s:TSl}{w:gK}
def meas(gl x:Int)(t:TTk)(s:TSl)(w:gK):Nat:=KM.ms (atK t) (Bst gl x s.2.2.1) (w.map (kmM gl x t.1.2.1))
theorem KM.ask0{b b':Bool}{k r:KM}{l:List KM}(hk:k ≠ .gr∧k ≠ .br)(hr:r = .gr∨r = .br):KM.ms 0 b' (l++[r])<KM.ms 0 b (k::l):=by
 rw[KM.ms_rest,KM.ms_rest,KM.sR_app,KM.sR_cons];have:KM.wR r=1:=by rcases hr with rfl | rfl<;>rfl
 have:KM.wR k=2:=by cases k<;>simp_all[KM.wR]
 omega
theorem ars{t:TTk}(h:atT t=0):atK t=0:=if_pos h
theorem aEy{t:TTk}(h:atT t≠0):atK t≠0:=by unfold atK;rw[if_neg h];split<;>decide
theorem zf{w:gK}{b:Bool}{f:List Int}(h:w.length≤11)(hf:0<f.length):iA w b f=w++[(b,f)]:=if_pos ⟨hf,by omega⟩
theorem asZ{gl x:Int}(hg:gl=2∨gl=3):kdQ gl x (rdQ 256 8) = .lq:=by
 unfold kdQ;have:rdQ 256 8≠gqA gl x:=fun q=>by have q:=congrArg (·.1) q;exact absurd q (by show ¬ (3:Int)=23;decide)
 rw[if_neg this,if_pos rfl]
theorem as0(gl x:Int):kdQ gl x (gqA gl x) = .gq:=if_pos rfl
theorem aoy(hp:jW pl)(hx:x≤4294967295){z:Int}{a:TA}(h:PI pl x g t s w)(hl:w.length≤11)(hg:av t=2∨av t=3)(hz:0≤z∧z≤65535)(rq:RQ pl (CQ x g s.2.2.1.2.2.2.2.1 (av t=1)) a) :
  meas (av t) x t (gu s a).1 (iA w true (gB t.1.2.1 9 z (gu s a).2))<meas (av t) x t s ((false,jo t.1.2.1 9 z a)::w):=by
 obtain⟨ha,hr⟩:=rq.ok hp hx (fun v y h=>h.1);have rp:=nT h.ks ha hr;have hlen:=xR (l:=t.1.2.1) (u:=9) (x:=z) rp.rr;have e1:kmM (av t) x t.1.2.1 (true,gB t.1.2.1 9 z (gu s a).2)=krR (av t) x (gu s a).2:=by unfold kmM;rw[if_pos rfl];dsimp only;rw[H8 rp hz]
 have e2:kmM (av t) x t.1.2.1 (false,jo t.1.2.1 9 z a)=kdQ (av t) x a:=by unfold kmM;rw[if_neg (by simp)];dsimp only;rw[EJ ha hr hz]
 unfold meas;rw[zf hl (by omega),List.map_append,List.map_cons,List.map_cons,List.map_nil,e1,e2];by_cases a0:atT t=0
 ·rw[ars a0]
  exact KM.ask0 (Uw _ _ _) (Ey _ _ _)
 ·obtain⟨k1,k2,k3⟩:=acr hp hx h a0 hg rq
  refine KM.ask (by rw[kA];exact hl) (Uw _ _ _) (Ey _ _ _) (fun hb hk=>?_) k3 (fun e=>(k1 e).1);unfold krR;rcases hk with hk | hk
  ·rw[(k1 hk).2,if_pos rfl]
  ·rw[k2 hb hk,if_pos rfl]
theorem aoz(h:PI pl x g t s w)(hl:w.length≤11)(hg:av t=2∨av t=3){z:Int}{r:TR}(hz:0≤z∧z≤65535)(hr:Rep r) :
  meas (av t) x (iH t (gB t.1.2.1 9 z r)).1 s (iA w false (iH t (gB t.1.2.1 9 z r)).2)<meas (av t) x t s ((true,gB t.1.2.1 9 z r)::w):=by
 have e1:kmM (av t) x t.1.2.1 (true,gB t.1.2.1 9 z r)=krR (av t) x r:=by unfold kmM;rw[if_pos rfl];dsimp only;rw[H8 hr hz]
 have o0:iA w false []=w:=if_neg (by simp);have hlm:(w.map (kmM (av t) x t.1.2.1)).length≤11:=by rw[kA];exact hl
 unfold meas;rw[List.map_cons,e1]
 cases hk:kV t.1 (gB t.1.2.1 9 z r) with
 | none =>
  have e:iH t (gB t.1.2.1 9 z r)=(t,[]):=by unfold iH;rw[hk]
  rw[e,o0];exact KM.drop hlm (Ey _ _ _) (.inl rfl)
 | some r' =>
  have er:=Be hr h.mt.u hz hk;subst er;have h0:atT t≠0:=fun e=>by have:=(h.mt.r e).1;unfold kV at hk;rw[this,if_neg (by decide)]at hk;cases hk
  obtain⟨mg,_⟩:=h.mt.w h0;obtain⟨st,_,_⟩:=h.mt.take (gB t.1.2.1 9 z r');obtain⟨q1,q2⟩:=aEx (p:=t.1) (c:=t.2) (r:=r') (x:=x) mg.ap hg mg.o mg.tx;have e:iH t (gB t.1.2.1 9 z r')=if atT (gF (cr t.1,t.2) r')=0 then (gF (cr t.1,t.2) r',[]) else dw (gF (cr t.1,t.2) r'):=by unfold iH;rw[hk]
  have ef:Ef x (cr t.1,t.2) (gF (cr t.1,t.2) r') r':=KC mg.ap;rw[e]at st ⊢;clear e;generalize gF (cr t.1,t.2) r'=t' at *;have q1:qB (av t) x r'=true->atT t'=0:=q1;have q2:qB (av t) x r'=false->atT t'=(if av t=2 then 5 else 6)∨atT t≠7∧atT t'=7:=q2;have el:t'.1.2.1=t.1.2.1:=by have:=congrArg (fun p:TP=>p.2.1) ef.p;exact this
  by_cases a0:atT t'=0
  ·rw[if_pos a0,o0]
   rw[el];exact KM.drop hlm (Ey _ _ _) (.inr (ars a0))
  ·rw[if_neg a0]at st ⊢
   have wf:t'.1.2.2.2.2.1=false:=by rw[ef.p];rfl
   have es:(dw t').1.2=t'.2:=by unfold dw;rw[if_neg (by rw[wf];decide)];split<;>rfl
   have esl:(dw t').1.1.2.1=t'.1.2.1:=by unfold dw;rw[if_neg (by rw[wf];decide)];split<;>rfl
   have ea:atT (dw t').1=atT t':=by unfold atT;rw[es]
   obtain⟨mg',_⟩:=st.mt.w (by rw[ea];exact a0);have rr:∀p q c,fZ (p,c)=fZ (q,c):=fun p q c=>rfl;have erq:fZ (dw t').1=fZ t':=(rr (dw t').1.1 t'.1 (dw t').1.2).trans (by rw[es]);have hright:=qY mg'.kt mg'.g.good;have hok:=oQ mg'.kt;rw[erq]at hright hok;have hlen:=xG (p:=lS t'.1 (fZ t')) hright;have ef2:(dw t').2=pE (lS t'.1 (fZ t')):=by unfold dw;rw[if_neg (by rw[wf];decide),if_pos hright]
   have hf:∃z',(0≤z'∧z'≤65535)∧(dw t').2=jo t.1.2.1 9 z' (fZ t'):=by
    rcases st.f with q | ⟨_,z',hz',q⟩
    ·rw[ef2]at q
     rw[q]at hlen;exact absurd hlen.1 (by simp)
    ·exact⟨z',hz',by rw[<- erq];exact q⟩
   obtain⟨z',hz',q⟩:=hf
   have nb:qB (av t) x r'=false:=by
    cases hgd:qB (av t) x r' with
    | true=>exact absurd (q1 hgd) a0
    | false=>rfl
   have kb:krR (av t) x r' = .br:=by unfold krR;rw[nb,if_neg (by decide)]
   have ek:kmM (av t) x t.1.2.1 (false,(dw t').2)=kdQ (av t) x (fZ t'):=by unfold kmM;rw[if_neg (by simp)];dsimp only;rw[q,EJ hok hright hz']
   rw[zf hl (by rw[ef2];omega),esl,el,List.map_append,List.map_cons,List.map_nil,ek,kb];have eo:t'.2.1=7:=ef.o.trans h.mt.o;have ex:t'.2.2.1=x:=ef.tx.trans h.mt.tx;have ak:atK (dw t').1=atK t':=by unfold atK;rw[ea]
   rw[ak];refine KM.take hlm (aEy h0) ?_;rcases q2 nb with q | ⟨n7,q⟩
   ·have:fZ t'=gqA (av t) x:=by
     unfold gqA;rcases hg with hg | hg
     ·rw[hg,if_pos rfl]at q
      unfold fZ;rw[show t'.2.2.2.2.2.1=5 from q,hg];show jd (qX t' 3)=_;unfold qX;rw[eo,ex,if_neg (by decide),if_neg (by decide)];rfl
     ·rw[hg,if_neg (by decide)]at q
      unfold fZ;rw[show t'.2.2.2.2.2.1=6 from q,hg];show jd (qX t' 4)=_;unfold qX;rw[eo,ex,if_neg (by decide),if_neg (by decide)];rfl
    refine .inl ⟨?_,by rw[this,as0]⟩;unfold atK;rw[if_neg a0,if_neg];split at q<;>omega
   ·have:fZ t'=rdQ 256 8:=by unfold fZ;rw[show t'.2.2.2.2.2.1=7 from q];rfl
    refine .inr ⟨?_,?_,by rw[this,asZ hg]⟩
    ·unfold atK
     rw[if_neg h0,if_neg n7]
    ·unfold atK
     rw[if_neg a0,if_pos q]
theorem H9(hp:jW pl)(hx:x≤4294967295)(h:PI pl x g t s w)(hg:av t=2∨av t=3):(jv 400 t s w).2.2=[]:=by
 refine Dr hp hx (f:=fun _ _ _=>True) (P:=fun n t s w=>(av t=2∨av t=3)∧n=meas (av t) x t s w) (fun {n t s m w} h hP=>?_) 400 (meas (av t) x t s w) ?_ h ⟨hg,rfl⟩
 ·obtain⟨hg,rfl⟩:=hP
  have gl:=(KN h.mt m s w).1;have hl:w.length≤11:=by have:=h.wl;simp at this;omega
  have h':=h.sub (w':=w) (fun _ hm=>List.mem_cons_of_mem _ hm) (by omega);refine⟨_,?_,by rw[gl];exact hg,rfl⟩;rw[gl];have hm:=h.ms m (List.mem_cons_self ..)
  cases hm with
  | req z a hz rq =>
   have e:gy (false,jo t.1.2.1 9 z a) t s w=(t,(gu s a).1,iA w true (gB t.1.2.1 9 z (gu s a).2)):=by unfold gy;rw[if_neg (by simp)];dsimp only;rw[(h'.req hp hx hz rq).1]
   rw[e];exact aoy hp hx h' hl hg hz rq
  | rep z r hz hr hs=>exact aoz h' hl hg hz hr
 ·have:=KM.ms_le (at':=atK t) (b:=Bst (av t) x s.2.2.1) (l:=w.map (kmM (av t) x t.1.2.1)) (by rw[kA];exact h.wl)
  unfold meas;omega
theorem aoA(hp:jW pl)(hx:x≤4294967295)(h:PI pl x g t s w):(jv 400 t s w).2.2=[]:=by
 have gl:=h.mt.gl;have c:av t=0∨av t=1∨av t=2∨av t=3:=by omega
 rcases c with c | c | c | c
 ·refine LM hp hx h (.inr (Decidable.byContradiction fun n=>?_))
  have:=(h.mt.w n).1.ap;unfold ApT at this;omega
 ·exact LM hp hx h (.inl c)
 ·exact H9 hp hx h (.inl c)
 ·exact H9 hp hx h (.inr c)
end
section
variable {pl:List (List bn)}{x g:Int}{t:TTk}{s:TSl}{w:gK}
abbrev uy(t:TTk):Int:=t.1.2.2.2.2.2.2.1
def Live(t:TTk)(w:gK):Prop:=w=[(false,jo t.1.2.1 9 (uy t) (fZ t))]∨∃r,Rep r∧nD (fZ t) r=true∧w=[(true,gB t.1.2.1 9 (uy t) r)]
theorem Live.ne(h:Live t w):w ≠ []:=by rcases h with e | ⟨r,_,_,e⟩<;>rw[e]<;>simp
theorem MG.live(h:MG pl x t)(hw:t.1.2.2.2.2.1=false):Live (dw t).1 (iA [] false (dw t).2):=by
 have hr:=qY h.kt h.g.good;have hl:=xG (p:=lS t.1 (fZ t)) hr;have e:dw t=((mU (lS t.1 (fZ t)),t.2),pE (lS t.1 (fZ t))):=by unfold dw;rw[if_neg (by rw[hw];decide),if_pos hr]
 rw[e,zf (by simp) (Nat.lt_of_lt_of_le (by decide) hl.1)];refine .inl ?_;show [(false,jo t.1.2.1 t.1.1 (kP t.1.2.1 t.1.2.2.2.2.2.2.1) (fZ t))]=[(false,jo t.1.2.1 9 (kP t.1.2.1 t.1.2.2.2.2.2.2.1) (fZ t))];rw[h.u]
theorem aeA{m:Bool×List Int}(h:PI pl x g t s (m::w))(a0:atT t≠0)(hL:Live t (m::w)):atT (gy m t s w).1=0∨Live (gy m t s w).1 (gy m t s w).2.2:=by
 obtain⟨mg,hw,ha,_⟩:=h.mt.w a0;have okp:=h.mt.kt.p;have hr:=qY mg.kt mg.g.good;have hok:=oQ mg.kt;rcases hL with e | ⟨r,rp,fit,e⟩
 ·have e1:=List.head_eq_of_cons_eq e
  have e2:=List.tail_eq_of_cons_eq e;rw[e1,e2];have et:=Gd (s:=s) hok hr (by rw[h.u];decide) (x:=uy t) ⟨okp.x0,okp.x1⟩;rw[h.l,h.u]at et;have ec:gy (false,jo t.1.2.1 9 (uy t) (fZ t)) t s []=(t,(gu s (fZ t)).1,iA [] true (gB t.1.2.1 9 (uy t) (gu s (fZ t)).2)):=by unfold gy;rw[if_neg (by simp)];dsimp only;rw[et]
  have rp:=nT h.ks hok hr;have hlen:=xR (l:=t.1.2.1) (u:=9) (x:=uy t) rp.rr;rw[ec,zf (by simp) (by omega)];exact .inr (.inr ⟨_,rp,Dc h.ks hok hr,rfl⟩)
 ·have e1:=List.head_eq_of_cons_eq e
  have e2:=List.tail_eq_of_cons_eq e;rw[e1,e2];have tv:=Gf rp okp hw (by rw[ha];exact fit);have eu:t.1.1=9:=h.mt.u;rw[eu]at tv;have ec:gy (true,gB t.1.2.1 9 (uy t) r) t s []=((iH t (gB t.1.2.1 9 (uy t) r)).1,s,iA [] false (iH t (gB t.1.2.1 9 (uy t) r)).2):=rfl;rw[ec];dsimp only;have ett:iH t (gB t.1.2.1 9 (uy t) r)=if atT (gF (cr t.1,t.2) r)=0 then (gF (cr t.1,t.2) r,[]) else dw (gF (cr t.1,t.2) r):=by unfold iH;rw[tv]
  have ef:Ef x (cr t.1,t.2) (gF (cr t.1,t.2) r) r:=KC mg.ap;have okd:=h.mt.kt.drop;have gx:atT (gF (cr t.1,t.2) r)≠0->goodX (gF (cr t.1,t.2) r):=fun e0=>Dj (t:=(cr t.1,t.2)) mg.g okd.at' e0;have oke:=okd.eff r;rw[ett];generalize gF (cr t.1,t.2) r=t' at *;have ep:=ef.p;dsimp only at ep;by_cases a1:atT t'=0
  ·rw[if_pos a1]
   exact .inl a1
  ·rw[if_neg a1]
   refine .inr (MG.live (pl:=pl) (x:=x) ?_ (by rw[ep];rfl));rcases ef.c with ⟨q,_⟩ | ⟨_,s0,ap⟩
   ·exact absurd q a1
   ·have es:iE t'=0:=s0.trans mg.sd
    have egl:av t'=av t:=ef.gl;exact⟨⟨oke,ef.o.trans h.mt.o,by rw[ep];exact h.mt.u,ef.tx.trans h.mt.tx,by rw[ef.bl,egl];exact h.mt.bl,by rw[egl];exact h.mt.gl,fun _=>by rw[es];decide,fun _=>es,fun n=>h.mt.xp (by rw[<- egl];exact n)⟩,gx a1,by rw[egl];exact ap,es⟩
theorem Dt(hp:jW pl)(hx:x≤4294967295):∀(n:Nat) {t:TTk} {s:TSl} {w:gK},PI pl x g t s w->atT t=0->atT (jv n t s w).1=0
 | 0,_,_,_,_,h0=>h0
 | n+1,_,_,[],_,h0=>h0
 | n+1,t,s,m::w,h,h0=>Dt hp hx n (h.head hp hx).2 (by
   unfold gy;split
   ·exact Decidable.byContradiction fun n=>(h.mt.take m.2).2.2 n h0
   ·exact h0)
theorem LP(hp:jW pl)(hx:x≤4294967295):∀(n:Nat) {t:TTk} {s:TSl} {w:gK},PI pl x g t s w->atT t≠0->Live t w->(jv n t s w).2.2=[]->atT (jv n t s w).1=0
 | 0,_,_,_,_,_,hL,e=>absurd e hL.ne
 | n+1,_,_,[],_,_,hL,_=>absurd rfl hL.ne
 | n+1,t,s,m::w,h,a0,hL,e=>by
  have q2:=(h.head hp hx).2;by_cases a1:atT (gy m t s w).1=0
  ·exact Dt hp hx n q2 a1
  ·rcases aeA h a0 hL with q | q
   ·exact absurd q a1
   ·exact LP hp hx n q2 a1 q e
theorem aeB(h:PI pl x g t s [])(a0:atT t≠0):atT (jO t).1=0∨(2≤t.1.2.2.2.2.2.2.2.1∧iA [] false (jO t).2=[]∧(jO t).1.1.2.2.2.2.2.2.2.1=t.1.2.2.2.2.2.2.2.1 - 1)∨Live (jO t).1 (iA [] false (jO t).2):=by
 obtain⟨mg,hw,ha,hl,ht⟩:=h.mt.w a0;have hr:=qY mg.kt mg.g.good;by_cases e1:t.1.2.2.2.2.2.2.2.1=1
 ·by_cases e2:0<t.1.2.2.2.2.2.2.2.2
  ·have e:jO t=((mU (nK t.1 0 (t.1.2.2.2.2.2.2.2.2 - 1)),t.2),pE (nK t.1 0 (t.1.2.2.2.2.2.2.2.2 - 1))):=by
    have:jB t.1=(mU (nK t.1 0 (t.1.2.2.2.2.2.2.2.2 - 1)),pE (nK t.1 0 (t.1.2.2.2.2.2.2.2.2 - 1)),false):=by unfold jB;rw[if_pos hw,if_pos e1,if_pos e2]
    unfold jO;rw[this,if_pos rfl]
   have hlen:=xG (p:=nK t.1 0 (t.1.2.2.2.2.2.2.2.2 - 1)) (by show iR t.1.2.2.2.2.2.1=true;rw[ha];exact hr);rw[e,zf (by simp) (Nat.lt_of_lt_of_le (by decide) hlen.1)];refine .inr (.inr (.inl ?_));show [(false,jo t.1.2.1 t.1.1 (kP t.1.2.1 t.1.2.2.2.2.2.2.1) t.1.2.2.2.2.2.1)]=[(false,jo t.1.2.1 9 (kP t.1.2.1 t.1.2.2.2.2.2.2.1) (fZ t))];rw[h.mt.u,ha]
  ·have e:jB t.1=(cr t.1,[],true):=by unfold jB;rw[if_pos hw,if_pos e1,if_neg e2]
   unfold jO;rw[e,if_neg (fun h=>by cases h)];by_cases g1:t.2.2.2.2.1=1
   ·rw[if_pos g1]
    exact .inl rfl
   ·rw[if_neg g1]
    exact .inr (.inr ((mg.poll (Sd h.mt.kt.p) h.mt.u).live rfl))
 ·have e:jO t=((G7 t.1 (t.1.2.2.2.2.2.2.2.1 - 1),t.2),[]):=by
   have:jB t.1=(G7 t.1 (t.1.2.2.2.2.2.2.2.1 - 1),[],false):=by unfold jB;rw[if_pos hw,if_neg e1]
   unfold jO;rw[this,if_pos rfl]
  rw[e];exact .inr (.inl ⟨by omega,if_neg (by simp),rfl⟩)
end
theorem aoB{l:TLs}(h:mD l)(hb:l.2≤9223372036854775807):aok (l,())=some ((sD l).1,(sD l).2,()):=by
 obtain⟨l1,l2⟩:=l;show ab6 aoj (l1,l2)=_;unfold ab6 sD;rw[Ed,zD,xM h,wW h,zD];dsimp only at hb ⊢;by_cases h0:l1=0
 ·rw[if_pos (by grind),if_pos (Or.inl h0)]
  rfl
 ·rw[if_neg (by grind),AX,zD]
  show ab5 _ (l1,l2) (0,0)=_;unfold ab5;dsimp only;have e1:(eqi l1 l1 && (eqi l2 (-1) && true))=decide (l2=-1):=by rw[Bool.eq_iff_iff];simp[fo]
  rw[e1];by_cases h2:l2=-1
  ·simp_all
  ·rw[if_neg (show ¬ decide (l2=-1)=true from fun e=>h2 (of_decide_eq_true e)),if_neg (show ¬ (l1=0∨l2=-1) by omega)]
   have h3:1≤l2:=by
    rcases h with h | h
    ·omega
    omega
   rw[lQ (by omega) (by omega)];by_cases h4:l2=1
   ·simp_all[if_pos,fo]
   ·rw[if_neg (fun e=>h4 (by grind[fo])),if_neg h4]
theorem aoC{a:TAg}(h:OkG a):ab7 (a,())=some (tickA (fQ a),()):=by show aol a=_;unfold aol tickA;have h':=h.own;rw[Ee h.sz,zD,aoB h'.lr h'.l2,zD,xN];grind
theorem aoD{a:TAg}(h:OkG a):ab9 (a,())=some (bootA (fQ a),()):=by
 show aon a=_;unfold aon bootA;rw[Ee h.sz,zD,xN];by_cases e:(fQ a).2.2.1=1
 ·simp_all[if_pos,fo]
 simp_all[if_neg,fo]
theorem aoE{s:TSl}(h:OkS s):ab8 (s,())=some (Eo s,()):=by show aom s=_;unfold aom;rw[Ba h,zD,aoC h.a];rfl
theorem aoF{s:TSl}(h:OkS s):acd (s,())=some (Ep s,()):=by show aoo s=_;unfold aoo;rw[Ba h,zD,aoD h.a];rfl
abbrev TDd:=Int×Int×Bool×Bool×Int
structure OkD(d:TDd):Prop where
 w:0≤d.1∧d.1≤255
 a:0≤d.2.1∧d.2.1≤255
 p:0≤d.2.2.2.2∧d.2.2.2.2≤65535
theorem avx{α:Type}{l:List α}{n:Nat}(h:n<l.length):∃m,l[n]? = some m∧at? l (n:Int)=some m:=by obtain⟨m,hm⟩:=jM h;exact⟨m,hm,gZ hm⟩
section
variable {pl:List (List bn)}{x g:Int}{t:TTk}{s:TSl}{w:gK}{d:TDd}
def Done(pl:List (List bn))(x g:Int)(t:TTk)(s:TSl)(r:Option (Bool×TTk×TSl×Int×Int×List (List bn)×gK×Unit)):Prop :=
 ∃t' s' x' g' w',r=some (true,t',s',x',g',pl,w',())∧PI pl x' g' t' s' w'∧x'≤x+1∧Chg pl g' s.2.2.1 s'.2.2.1
theorem art(h:PI pl x g t s w){k:Int}{m:Bool×List Int}(hc:OkM t m∧PI pl x g (gy m t s w).1 (gy m t s w).2.1 (gy m t s w).2.2∧Chg pl g s.2.2.1 (gy m t s w).2.1.2.2.1):Done pl x g t s (KJ k (t,s,(),x,g,pl) w m):=by
 obtain⟨hm,hi,hg⟩:=hc;show Done pl x g t s (ach k (t,s,(),x,g,pl) w m);unfold ach;by_cases e:k=1
 ·rw[if_neg (fun q=>gP.1 q e),je h.ks]
  exact⟨_,_,_,_,_,rfl,h,by show x≤x+1;omega,Chg.refl _⟩
 ·rw[if_pos (gP.2 e),je h.ks,RN h.mt.kt h.ks hm,zD]
  dsimp only;rw[je hi.ks];exact⟨_,_,_,_,_,rfl,hi,by omega,hg⟩
theorem aru(hp:jW pl)(hx:x≤4294967295)(h:PI pl x g t s w)(hd:OkD d){k:Int}{m:Bool×List Int}(hm:MS pl x g t.1.2.1 (av t=1) s.2.2.1 m):Done pl x g t s (ack k (t,s,(),x,g,pl) w d m):=by
 have k4:acj k false (t,s,(),x,g,pl) w d m=KJ k (t,s,(),x,g,pl) w m:=by show KI KJ k false _ w d m=_;unfold KI;rw[if_neg (by decide)]
 have plain:=art h (k:=k) (h.come hp hx hm);show Done pl x g t s (acg acj k (t,s,(),x,g,pl) w d m);unfold acg;by_cases e6:k=6
 ·rw[if_pos (fo.2 e6)]
  by_cases e1:s.2.1=1
  ·rw[show eqi s.2.1 1=true from fo.2 e1]
   show Done pl x g t s (KI KJ k true (t,s,(),x,g,pl) w d m);unfold KI;have hl:=(Gj hp hx hm).2;have hpat:=hd.p;have hmul:mul .i64 8 (zF m.2.length)=((8*m.2.length:Nat):Int):=by rw[bu,ou (by omega) (by omega)];omega
   have hr:rem (cvt .i64 d.2.2.2.2) ((8*m.2.length:Nat):Int)=((d.2.2.2.2.toNat%(8*m.2.length):Nat):Int):=by rw[jr (by omega) (by omega)];unfold rem;obtain⟨n,hn⟩:=zN hpat.1;rw[hn,kC (by omega),zQ];rfl
   obtain⟨out,any,e,q⟩:=h.spoilt hp hx hm e1 (a0:=d.2.2.2.2.toNat%(8*m.2.length)) (Nat.mod_lt _ (by omega)) d.2.2.2.2;rw[if_pos rfl,hmul,fT (gP.2 (by omega)),hr,e,zD];exact art h q
  ·rw[show eqi s.2.1 1=false from by rw[<- Bool.not_eq_true,fo];exact e1,k4]
   exact plain
 ·rw[if_neg (fun q=>e6 (fo.1 q)),k4]
  exact plain
theorem arv(hp:jW pl)(hx:x≤4294967295)(h:PI pl x g t s w)(hd:OkD d){k:Int}{n:Nat}{m:Bool×List Int}(hn:w[n]? = some m)(b:Bool):Done pl x g t s (Si k (n:Int) b (t,s,(),x,g,pl) w d m):=by
 have hlt:=(List.getElem?_eq_some_iff.1 hn).1;have hwl:=h.wl;have hm:=h.ms m (zY hn);show Done pl x g t s (acf ack k (n:Int) b (t,s,(),x,g,pl) w d m);unfold acf
 cases b with
 | false =>
  rw[if_neg (by decide)];exact aru hp hx h hd hm
 | true =>
  have e1:add .i64 (n:Int) 1=((n+1:Nat):Int):=jm (by omega);rw[if_pos rfl,e1,fT (iK.2 (by omega)),fT (fo.2 rfl),fT (iO.2 (by rw[bu];omega)),fT (iK.2 (by omega)),fT (iO.2 (by rw[bu];omega)),fT (iO.2 (Int.le_refl _)),fT (iK.2 (by omega)),jJ (by simp only[kB,List.length_drop];omega)];refine aru hp hx (h.sub (fun m' hm'=>?_) ?_) hd hm
  ·rcases List.mem_append.1 hm' with q | q
   ·exact List.mem_of_mem_drop (List.mem_of_mem_take q)
   ·exact List.mem_of_mem_drop (List.mem_of_mem_take q)
  ·simp only[List.length_append,kB,List.length_drop]
   omega
theorem avy(hp:jW pl)(hpl:OkPl pl)(hx:x≤1000000)(h:PI pl x g t s w)(hd:OkD d):Done pl x g t s (acm (d,t,s,x,g,pl,w,())):=by
 have hx2:x≤4294967295:=by omega
 have hw:=hd.w;have ha:=hd.a;have hwl:=h.wl;have ek:rem d.1 7=d.1%7:=by unfold rem;exact kC hw.1
 have come:∀k:Int,Done pl x g t s (Sj k k true (t,s,(),x,g,pl) w d):=fun k=>by
  show Done pl x g t s (KH Si k k true (t,s,(),x,g,pl) w d);unfold KH;rw[if_pos rfl];by_cases e0:w.length=0
  ·rw[if_pos (fo.2 (by rw[bu];omega)),je h.ks]
   exact⟨_,_,_,_,_,rfl,h,by show x≤x+1;omega,Chg.refl _⟩
  ·have er:rem (cvt .i64 d.2.1) (zF w.length)=((d.2.1.toNat%w.length:Nat):Int):=by rw[jr (by omega) (by omega),bu];unfold rem;obtain⟨n,hn⟩:=zN ha.1;rw[hn,kC (by omega),zQ];rfl
   obtain⟨m,hm,em⟩:=avx (l:=w) (n:=d.2.1.toNat%w.length) (Nat.mod_lt _ (by omega));rw[if_neg (fun e=>by have:=fo.1 e;rw[bu]at this;omega),fT (gP.2 (by rw[bu];omega)),er,em,zD,zD];split
   ·exact arv hp hx2 h hd hm _
   ·exact arv hp hx2 h hd hm _
 have other:∀k:Int,Done pl x g t s (Sj k k false (t,s,(),x,g,pl) w d):=fun k=>by
  show Done pl x g t s (KH Si k k false (t,s,(),x,g,pl) w d);unfold KH;rw[if_neg (by decide)];split
  ·obtain⟨ok,q⟩:=h.tick
   dsimp only;rw[Sc h.mt.kt ok,zD];dsimp only;rw[je h.ks,Bc h.ks,zD];dsimp only;rw[je h.ks];exact⟨_,_,_,_,_,rfl,q,by omega,Chg.refl _⟩
  split
  ·obtain⟨q1,q2⟩:=h.stick
   dsimp only;rw[je h.ks,aoE h.ks,zD];dsimp only;rw[je q1.ks];exact⟨_,_,_,_,_,rfl,q1,by omega,q2⟩
  split
  ·obtain⟨q1,q2⟩:=h.boot
   dsimp only;rw[je h.ks,aoF h.ks,zD];dsimp only;rw[je q1.ks];exact⟨_,_,_,_,_,rfl,q1,by omega,q2⟩
  ·obtain⟨x',g',t',w',e,q,hx1,_,_⟩:=h.begin hp hx d.2.2.2.1
   dsimp only;rw[je h.ks,Dl h.mt.kt h.ks d.2.2.2.1 ⟨h.x0,hx⟩ g hpl w,e,zD];dsimp only;rw[je h.ks];exact⟨_,_,_,_,_,rfl,q,hx1,Chg.refl _⟩
 show Done pl x g t s (aci Sj d t s x g pl w);unfold aci;split
 ·exact come _
 split
 ·exact come _
 ·cases eqi (rem d.1 7) 6 with
  | true=>exact come _
  | false=>exact other _
end
section
variable {pl:List (List bn)}{x g:Int}{t:TTk}{s:TSl}{w:gK}
theorem aoG{link timeout retries:Int}{b:List Int}(h1:0≤link)(h2:0≤timeout)(h3:0≤retries)(hb:∀x∈b,0≤x∧x≤65535)(pl:List (List bn)):PI pl 0 0 (qH link timeout retries) (qI link b) []:=by
 have n0:¬ ((0:Int)≠0):=by decide
 have ag:AG pl 0 (qI link b).2.2.1:=⟨.inl rfl,by show (0:Int)≤0;decide,fun k hk=>absurd hk (R6 k),fun e=>absurd e (show ¬ (0:Int)=2 by decide)⟩;have mk:MK pl 0 (qH link timeout retries):=⟨asO h1 h2 h3,rfl,rfl,rfl,rfl,(by decide:(0:Int)≤0∧(0:Int)≤3),fun _=>show ¬ (0:Int)=2 by decide,fun _=>rfl,fun e=>absurd e n0⟩;exact⟨⟨mk,fun _=>⟨rfl,fun e=>absurd e n0⟩,fun e=>absurd e n0,fun e=>absurd e n0⟩,Uk h1 hb,rfl,rfl,Int.le_refl _,ag,Int.le_refl _,Int.le_refl _,fun e=>by rcases e with e | e<;>exact absurd e (by decide:¬ (0:Int)=_),fun e=>absurd e (show ¬ (0:Int)=2 by decide),.inl (Int.le_refl _),fun e=>absurd e (show ¬ (0:Int)=1 by decide),fun e=>absurd e (show ¬ (0:Int)=2 by decide),fun m hm=>(by cases hm),(by decide)⟩
theorem acs{plan:List (List bn)}(hw:∀l∈plan,∀b∈l,∀y∈b.2,0≤y∧y≤65535):jW (pJ plan):=fun y=>abX hw y
theorem aeC(ok:OkG s.2.2.1)(h:AG pl x s.2.2.1)(hx:0≤x){y:Int}(hy:x<y)(la:s.2.2.1.2.2.2.2.1<y)(L:List bn):doS (fQ s.2.2.1) (7,1,y,0,0)=(agK s.2.2.1.1 7 y s.2.2.1.2.2.2.2.2.2 s.2.2.1.2.2.2.2.1 L 0,0):=by have ho:(fQ s.2.2.1).2.1.1=0∨(fQ s.2.2.1).2.1.1=7:=h.o;have ht:(fQ s.2.2.1).2.2.2.1≤x:=h.t;have hl:(fQ s.2.2.1).2.2.2.2.1<y:=la;unfold doS;dsimp only;rw[if_neg (by omega),if_neg (by omega),if_pos rfl,if_neg (by omega),if_neg (by omega)];rfl
theorem Ia(hp:jW pl)(ok:OkG s.2.2.1)(h:AG pl x s.2.2.1)(hx:0≤x){y:Int}(hy:x<y)(hy2:y≤4294967295)(la:s.2.2.1.2.2.2.2.1<y){L:List bn}(eL:fU pl y=L){p:TP}(ox:OkX (p,(7,y,L,1,1,0,0,0)) s) :
  ∃p',uf (2*L.length+2) (p,(7,y,L,1,1,0,0,0)) s=some ((p',(7,y,L,1,0,(L.length:Int),0,1)),jN s (agP s.2.2.1.1 7 y s.2.2.1.2.2.2.2.2.2 s.2.2.1.2.2.2.2.1 L)):=by
 have hpy:=hp y;rw[eL]at hpy;have hk:=ok.kr;have hla:=ok.ar;have hL:L.length≤8:=by omega
 have hf:∀x∈L,gV x=true:=fun b hb=>(hpy.2 b hb).1;have hw:∀x∈L,∀w∈x.2,0≤w∧w≤65535:=fun b hb=>(hpy.2 b hb).2.2;have ht:1≤y∧y≤4294967295:=by omega
 have hlb:0≤s.2.2.1.2.2.2.2.1∧s.2.2.1.2.2.2.2.1<y:=⟨hla.1,la⟩;have e:fZ (p,(7,y,L,1,1,0,0,0))=jd (7,1,y,0,0):=rfl;have hc:OkC (7,1,y,0,0):=nP (v:=1) ox.kt (by decide);have es:=tY ox.ks hc (aeC ok h hx hy la L) (aej ok.bl ok.bw (by decide:(1:Int)≤7∧(7:Int)≤65535) ht hk hL hf hw hlb (Nat.zero_le _))
 have e1:jL (p,(7,y,L,1,1,0,0,0)) s=kQ (sF (qz p,(7,y,L,1,1,0,0,0)) 0):=by
  unfold jL;rw[e,es,RE rfl,uM];dsimp only;rw[if_neg,if_pos]
  ·exact⟨decide_eq_true ⟨rfl,rfl⟩,rfl⟩
  ·rintro⟨_,h⟩
   exact absurd h (show ¬ (1:Int)=2 by decide)
 have e2:slX (p,(7,y,L,1,1,0,0,0)) s=jN s (agK s.2.2.1.1 7 y s.2.2.1.2.2.2.2.2.2 s.2.2.1.2.2.2.2.1 L 0):=by unfold slX;rw[e,es]
 have e1:jL (p,(7,y,L,1,1,0,0,0)) s=(qz p,ug y L 0):=e1.trans (LH _ y L 1 0);have n0:(ug y L 0).2.2.2.2.1≠0:=by unfold ug;dsimp only;split<;>decide
 have h1:=ox.next (by rw[e1];exact n0);rw[e1,e2]at h1;obtain⟨p',ih⟩:=HV ok.bl ok.bw ht hk hL hf hw hlb L.length 0 _ _ (by omega) h1 rfl;refine⟨p',?_⟩;show (if (jL _ s).2.2.2.2.2.1=0 then _ else uf (2*L.length+1) (jL _ s) (slX _ s))=_;rw[e1,e2,if_neg n0];exact ih
end
end Go.Proofs.Lx
end
noncomputable section
open Go Go.Proofs Ev Sx
set_option maxRecDepth 100000
namespace Go.Proofs.Lx
abbrev jg:Type:=((Int×Int×Int×Int×Bool×(Int×Int×Int×Int×List Int×List Bool)×Int×Int×Int)×Int×Int×List (Int×List Int)×Int×Int×Int×Int×Int)
@[reducible] def fK:Type:=List Int×(Int×Int)×Int×Int×Int×(Int×List Bool×List (Int×List Int))×Int
abbrev jh:Type:=(Int×Int×fK×List Bool)
abbrev sH:Ty:=(.pr (.int .u8) (.pr (.pr aB (.pr bK (.pr (.int .u8) (.pr (.int .u32) (.pr (.int .u32) (.pr (.pr (.int .u32) (.pr (.ar 8 .bool) (.ar 8 dY))) (.int .i64))))))) (.sl .bool)))
abbrev sI:Ty:=bC
abbrev kI:Ty:=(.sl dY)
abbrev sJ:Ty:=(.pr (.int .u16) (.pr (.int .u32) (.pr kI cJ)))
abbrev kY:Ty:=(.pr .bool aL)
abbrev My:Ty:=(.pr (.int .u8) cW)
@[reducible] def acu:Sh:=⟨[.pb 0 0],[(prG 1),.que kY 63],[.pr sI sJ,.pr (.int .u8) sH,.int .u32,.int .u32,.sl kI,.sl kY],[.d (.bool)],[(0,(prG 2)),(2,.que kY 63)],1,[.bool,.pr sI sJ,.pr (.int .u8) sH,.int .u32,.int .u32,.sl kI,.sl kY]⟩
def aoH:Env:=(cts [(1000048,Ev.iw),(9000046,Ev.iw),(9999999,Ev.iw),(11,(⟨abr,CO⟩:Ct)),(19,(⟨abp,CK⟩:Ct)),(20,(⟨Fb,yc⟩:Ct))])
def aoI:List (Nat×Hint):=[(3,⟨[],[0,30,31,32,33]⟩),(26,⟨[.quw 0 57 63],[0,8,9]⟩)]
@[reducible] def zO0:Type:=List (Bool×List Int)
def acv(t8 t9:Int)(t0:jg×jh×Unit×Int×Int×List aG)(o:zO0):St:=⟨[(0,.pb 0 0),(8,dI t8),(9,dI t9)],35,[],[(0,.box 48 (gD t0.1 (slC t0.2.1 [.row 2,d2 t0.2.2.2.1,d2 t0.2.2.2.2.1,.d (.sl kI) t0.2.2.2.2.2]))),(2,.que kY 63 o)],3,[],2⟩
def aoJ(t0:jg×jh×Unit×Int×Int×List aG)(o:zO0):St:=⟨[(0,.pb 0 0)],35,[],[(0,.box 48 (gD t0.1 (slC t0.2.1 [.row 2,d2 t0.2.2.2.1,d2 t0.2.2.2.2.1,.d (.sl kI) t0.2.2.2.2.2]))),(2,.que kY 63 o)],3,[],2⟩
def Gm(j2:jg×jh×Unit×Int×Int×List aG->List (Bool×List Int)->Option (As [.bool,.pr sI sJ,.pr (.int .u8) sH,.int .u32,.int .u32,.sl kI,.sl kY]))(self1:Int->Int->jg×jh×Unit×Int×Int×List aG->List (Bool×List Int)->Option (As [.bool,.pr sI sJ,.pr (.int .u8) sH,.int .u32,.int .u32,.sl kI,.sl kY]))(t8 t9:Int)(t0:jg×jh×Unit×Int×Int×List aG)(o:zO0):Option (As [.bool,.pr sI sJ,.pr (.int .u8) sH,.int .u32,.int .u32,.sl kI,.sl kY]) :=
 if lt t9 t8=true then zC (CO (400,t0.1,(gW t0.2.1),t0.2.2.2.1,t0.2.2.2.2.1,t0.2.2.2.2.2,o,())) fun y=>if (!y.1)=true then some (false,y.2.1,(gW y.2.2.1),y.2.2.2.1,y.2.2.2.2.1,y.2.2.2.2.2.1,y.2.2.2.2.2.2.1,()) else if eqi y.2.1.2.2.2.2.2.1 0=true then some (true,y.2.1,(gW y.2.2.1),y.2.2.2.1,y.2.2.2.2.1,y.2.2.2.2.2.1,y.2.2.2.2.2.2.1,()) else zC (CK (y.2.1,())) fun y_1=>zC (yc (y_1.2.1,y_1.1,(gW y.2.2.1),y.2.2.2.1,y.2.2.2.2.1,y.2.2.2.2.2.1,y.2.2.2.2.2.2.1,())) fun y=>self1 t8 (add .i64 t9 1) (y.1,y.2.1,(),y.2.2.1,y.2.2.2.1,y.2.2.2.2.1) y.2.2.2.2.2.1 else j2 t0 o
def avz(t0:jg×jh×Unit×Int×Int×List aG)(o:zO0):Option (As [.bool,.pr sI sJ,.pr (.int .u8) sH,.int .u32,.int .u32,.sl kI,.sl kY]) :=
 zC (CO (400,t0.1,(gW t0.2.1),t0.2.2.2.1,t0.2.2.2.2.1,t0.2.2.2.2.2,o,())) fun y=>if y.1=true then some (eqi y.2.1.2.2.2.2.2.1 0,y.2.1,(gW y.2.2.1),y.2.2.2.1,y.2.2.2.2.1,y.2.2.2.2.2.1,y.2.2.2.2.2.2.1,()) else some (false,y.2.1,(gW y.2.2.1),y.2.2.2.1,y.2.2.2.2.1,y.2.2.2.2.2.1,y.2.2.2.2.2.2.1,())
def KO(j1:Int->Int->jg×jh×Unit×Int×Int×List aG->List (Bool×List Int)->Option (As [.bool,.pr sI sJ,.pr (.int .u8) sH,.int .u32,.int .u32,.sl kI,.sl kY]))(v:(Int×Int×Int×Int×Bool×(Int×Int×Int×Int×List Int×List Bool)×Int×Int×Int)×Int×Int×List (Int×List Int)×Int×Int×Int×Int×Int)(v_2:Int×Int×fK×List Bool)(t out:Int)(v_3:List aG)(v_4:zO0):Option (As [.bool,.pr sI sJ,.pr (.int .u8) sH,.int .u32,.int .u32,.sl kI,.sl kY]) :=
 j1 (add .i64 v.1.2.2.1 2) 0 (v,v_2,(),t,out,v_3) v_4
def Sr:=avz
def KP(t8 t9:Int)(t0:jg×jh×Unit×Int×Int×List aG)(o:zO0):Option (As [.bool,.pr sI sJ,.pr (.int .u8) sH,.int .u32,.int .u32,.sl kI,.sl kY]) :=
 cu (fun self s=>Gm (Sr) (fun t8 t9 t0 o=>self (t8,t9,t0,o)) s.1 s.2.1 s.2.2.1 s.2.2.2) 18446744073709551616 (t8,t9,t0,o)
def Gn(x:As [.pr sI sJ,.pr (.int .u8) sH,.int .u32,.int .u32,.sl kI,.sl kY]):Option (As [.bool,.pr sI sJ,.pr (.int .u8) sH,.int .u32,.int .u32,.sl kI,.sl kY]):=KO KP x.1 x.2.1 x.2.2.1 x.2.2.2.1 x.2.2.2.2.1 x.2.2.2.2.2.1
abbrev pBp:=zp aoH aoI 23 acu
theorem aEz{J a b}:pBp J 3 [] (aoJ a b)=avz a b:=by kernel_rfl
theorem aEA{J w1 a b c d}:pBp J 26 [w1] (acv a b c d)=Gm (C (J 3 []) aoJ) (C w1 acv) a b c d:=by kernel_rfl
abbrev pBo:=zj aoH aoI 23 acu
theorem aEB:C (pBo 3 []) aoJ=Sr:=gNC (by decide) fun _=>aEz
theorem aEC:C (pBo 26 []) acv=KP:=gLC (by decide) (by kernel_rfl) (fun _=>by unfold KP;rfl) fun _ _=>aEA.trans (by rw[aEB]<;>kernel_rfl)
theorem aED:au Tryz.prog (fun _=>True) 23 ⟨acu,Gn⟩:=zcc (env:=aoH) (d:=6) (hs:=Ev.get aoI) (aj Ev.gJ (aj Ev.gJ (aj Ev.gJ (aj aCs (aj am6 (aj Wk bq)))))) (fun J x=>KO (C (J 26 []) acv) x.1 x.2.1 x.2.2.1 x.2.2.2.1 x.2.2.2.2.1 x.2.2.2.2.2.1) (fun _ _=>by kernel_rfl) fun _=>by rw[aEC]<;>rfl
@[reducible] def aoK:Sh:=⟨[.d (.int .u8),.d (.int .u8),.d (.int .u8),.d aB,.d (.sl kI),.d (.sl My)],[],[.int .u8,.int .u8,.int .u8,.sl (.int .u16),.sl kI,.sl My],[.d (.bool)],[],0,[.bool]⟩
def aoL:Env:=(cts [(1000048,Ev.iw),(9000046,Ev.iw),(9999999,Ev.iw),(9,(⟨Ol,I5⟩:Ct)),(10,(⟨Aq,yt⟩:Ct)),(15,(⟨FY,abq⟩:Ct)),(22,(⟨ace,acm⟩:Ct)),(23,(⟨acu,Gn⟩:Ct))])
def aoM:List (Nat×Hint):=[(15,⟨[],[13,58,59,60,67,68,69,70,75,76,77,80,81,82,83,86,87,88,89,97,98,99,100,101,102,103,106]⟩),(127,⟨[],[13,17,67,68,69,70,75,76,77,80,81,82,83,86,87,88,89,97,98,99,100,101,102,103,106]⟩),(1022,⟨[],[13,90,97,98,99,100,101,102,103,106]⟩),(510,⟨[],[13,17,71,75,76,77,80,81,82,83,86,87,88,89,97,98,99,100,101,102,103,106]⟩),(1018,⟨[],[13,17,61,67,68,69,70,75,76,77,80,81,82,83,86,87,88,89,97,98,99,100,101,102,103,106]⟩),(122,⟨[],[13,33,34,35,58,59,60,67,68,69,70,75,76,77,80,81,82,83,86,87,88,89,97,98,99,100,101,102,103,106]⟩)]
@[reducible] def zO1:Type:=List (Int×Int×Bool×Bool×Int)
def acw(t33:zO1)(t34 t35:Int)(p:jg×jh×Unit×Int×Int×List aG)(o:zO0):St:=⟨[(13,.pb 0 0),(33,.d (.sl My) t33),(34,dI t34),(35,dI t35)],108,[],[(0,.box 48 (gD p.1 (slC p.2.1 [.row 1,d2 p.2.2.2.1,d2 p.2.2.2.2.1,.d (.sl kI) p.2.2.2.2.2]))),(1,.que kY 63 o)],2,[],0⟩
def aoN(p:jg×jh×Unit×Int×Int×List aG)(o:zO0):St:=⟨[(13,.pb 0 0)],108,[],[(0,.box 48 (gD p.1 (slC p.2.1 [.row 1,d2 p.2.2.2.1,d2 p.2.2.2.2.1,.d (.sl kI) p.2.2.2.2.2]))),(1,.que kY 63 o)],2,[],0⟩
def aoO(t61:Bool)(p:jg×jh×Unit×Int×Int×List aG)(o:zO0):St:=⟨[(13,.pb 0 0),(17,.fn (.func 23) [] [.pb 0 0]),(61,dB t61)],108,[],[(0,.box 48 (gD p.1 (slC p.2.1 [.row 1,d2 p.2.2.2.1,d2 p.2.2.2.2.1,.d (.sl kI) p.2.2.2.2.2]))),(1,.que kY 63 o)],2,[],0⟩
def acy(p:jg×jh×Unit×Int×Int×List aG)(o:zO0):St:=⟨[(13,.pb 0 0),(17,.fn (.func 23) [] [.pb 0 0])],108,[],[(0,.box 48 (gD p.1 (slC p.2.1 [.row 1,d2 p.2.2.2.1,d2 p.2.2.2.2.1,.d (.sl kI) p.2.2.2.2.2]))),(1,.que kY 63 o)],2,[],0⟩
def aoP(t71:Bool)(p:jg×jh×Unit×Int×Int×List aG)(o:zO0):St:=⟨[(13,.pb 0 0),(17,.fn (.func 23) [] [.pb 0 0]),(71,dB t71)],108,[],[(0,.box 48 (gD p.1 (slC p.2.1 [.row 1,d2 p.2.2.2.1,d2 p.2.2.2.2.1,.d (.sl kI) p.2.2.2.2.2]))),(1,.que kY 63 o)],2,[],0⟩
def aoQ(t90:Bool)(p:jg×jh×Unit×Int×Int×List aG)(o:zO0):St:=⟨[(13,.pb 0 0),(90,dB t90)],108,[],[(0,.box 48 (gD p.1 (slC p.2.1 [.row 1,d2 p.2.2.2.1,d2 p.2.2.2.2.1,.d (.sl kI) p.2.2.2.2.2]))),(1,.que kY 63 o)],2,[],0⟩
def KQ(j2:jg×jh×Unit×Int×Int×List aG->List (Bool×List Int)->Option aF)(self1:List (Int×Int×Bool×Bool×Int)->Int->Int->jg×jh×Unit×Int×Int×List aG->List (Bool×List Int)->Option aF)(t33:zO1)(t34 t35:Int)(p:jg×jh×Unit×Int×Int×List aG)(o:zO0):Option aF :=
 if lt t35 t34=true then zC (at? t33 t35) fun y=>zC (acm (y,p.1,(gW p.2.1),p.2.2.2.1,p.2.2.2.2.1,p.2.2.2.2.2,o,())) fun y=>if (!y.1)=true then some (false,()) else self1 t33 t34 (add .i64 t35 1) (y.2.1,y.2.2.1,(),y.2.2.2.1,y.2.2.2.2.1,y.2.2.2.2.2.1) y.2.2.2.2.2.2.1 else j2 p o
def acz(j3:Bool->jg×jh×Unit×Int×Int×List aG->List (Bool×List Int)->Option aF)(j4:jg×jh×Unit×Int×Int×List aG->List (Bool×List Int)->Option aF)(p:jg×jh×Unit×Int×Int×List aG)(o:zO0):Option aF :=
 zC (Gn (p.1,(gW p.2.1),p.2.2.2.1,p.2.2.2.2.1,p.2.2.2.2.2,o,())) fun y=>if (!y.1)=true then some (false,()) else if eqi y.2.1.2.2.2.2.1 1=true then zC (yt (eqi y.2.1.2.2.2.2.2.2.2.2 2,y.2.1,(gW y.2.2.1),y.2.2.2.1,y.2.2.2.2.1,y.2.2.2.2.2.1,y.2.2.2.2.2.2.1,())) fun y=>if (!y.1)=true then j3 true (y.2.1,y.2.2.1,(),y.2.2.2.1,y.2.2.2.2.1,y.2.2.2.2.2.1) y.2.2.2.2.2.2.1 else zC (Gn (y.2.1,(gW y.2.2.1),y.2.2.2.1,y.2.2.2.2.1,y.2.2.2.2.2.1,y.2.2.2.2.2.2.1,())) fun y=>j3 (!y.1) (y.2.1,y.2.2.1,(),y.2.2.2.1,y.2.2.2.2.1,y.2.2.2.2.2.1) y.2.2.2.2.2.2.1 else j4 (y.2.1,y.2.2.1,(),y.2.2.2.1,y.2.2.2.2.1,y.2.2.2.2.2.1) y.2.2.2.2.2.2.1
def avA(j4:jg×jh×Unit×Int×Int×List aG->List (Bool×List Int)->Option aF)(t61:Bool)(p:jg×jh×Unit×Int×Int×List aG)(o:zO0):Option aF :=
 if t61=true then some (false,()) else j4 p o
def acA(j5:Bool->jg×jh×Unit×Int×Int×List aG->List (Bool×List Int)->Option aF)(p:jg×jh×Unit×Int×Int×List aG)(o:zO0):Option aF :=
 if nei p.1.2.2.2.2.1 0=true then j5 (nei p.1.2.2.2.2.2.2.2.2 1) p o else j5 false p o
def acB(j6:Bool->jg×jh×Unit×Int×Int×List aG->List (Bool×List Int)->Option aF)(t71:Bool)(p:jg×jh×Unit×Int×Int×List aG)(o:zO0):Option aF :=
 if t71=true then some (false,()) else zC (yt (false,p.1,(gW p.2.1),p.2.2.2.1,p.2.2.2.2.1,p.2.2.2.2.2,o,())) fun y=>if (!y.1)=true then j6 true (y.2.1,y.2.2.1,(),y.2.2.2.1,y.2.2.2.2.1,y.2.2.2.2.2.1) y.2.2.2.2.2.2.1 else zC (Gn (y.2.1,(gW y.2.2.1),y.2.2.2.1,y.2.2.2.2.1,y.2.2.2.2.2.1,y.2.2.2.2.2.2.1,())) fun y=>if (!y.1)=true then j6 true (y.2.1,y.2.2.1,(),y.2.2.2.1,y.2.2.2.2.1,y.2.2.2.2.2.1) y.2.2.2.2.2.2.1 else if nei y.2.1.2.2.2.2.1 1=true then j6 true (y.2.1,y.2.2.1,(),y.2.2.2.1,y.2.2.2.2.1,y.2.2.2.2.2.1) y.2.2.2.2.2.2.1 else j6 (nei y.2.1.2.2.2.2.2.2.2.2 1) (y.2.1,y.2.2.1,(),y.2.2.2.1,y.2.2.2.2.1,y.2.2.2.2.2.1) y.2.2.2.2.2.2.1
def acC(t90:Bool)(p:jg×jh×Unit×Int×Int×List aG)(o:zO0):Option aF :=
 if t90=true then some (false,()) else if eqi p.2.1.2.2.1.2.2.1 2=true then if eqi p.2.1.2.2.1.2.2.2.1 p.2.2.2.1=true then zC (abq ()) fun y=>some (y.1,()) else some (false,()) else some (false,())
def acD(j1:List (Int×Int×Bool×Bool×Int)->Int->Int->jg×jh×Unit×Int×Int×List aG->List (Bool×List Int)->Option aF)(link timeout retries:Int)(b:List Int)(plan:List aG)(l:zO1):Option aF :=
 zC (I5 (link,timeout,retries,b,plan,())) fun y=>if (!y.2.2.2.2.2.1)=true then some (false,()) else zC (cut l 0 (if lt 200 (zF (zG l))=true then 200 else zF (zG l))) fun y_1=>j1 y_1 (zF (zG y_1)) 0 (y.1,y.2.1,(),y.2.2.1,y.2.2.2.1,y.2.2.2.2.1) y.2.2.2.2.2.2.1
def aoR:=acC
def acE:=acB (aoR)
def Ss:=acA (acE)
def aoS:=avA (Ss)
def Sv:=acz (aoS) (Ss)
def Sw(t33:zO1)(t34 t35:Int)(p:jg×jh×Unit×Int×Int×List aG)(o:zO0):Option aF :=
 cu (fun self s=>KQ (Sv) (fun t33 t34 t35 p o=>self (t33,t34,t35,p,o)) s.1 s.2.1 s.2.2.1 s.2.2.2.1 s.2.2.2.2) 18446744073709551616 (t33,t34,t35,p,o)
def aoT(x:As [.int .u8,.int .u8,.int .u8,.sl (.int .u16),.sl kI,.sl My]):Option aF:=acD Sw x.1 x.2.1 x.2.2.1 x.2.2.2.1 x.2.2.2.2.1 x.2.2.2.2.2.1
abbrev pBn:=zp aoL aoM 5 aoK
theorem aEE{J a b c}:pBn J 1022 [] (aoQ a b c)=acC a b c:=by kernel_rfl
theorem aEF{J a b c}:pBn J 510 [] (aoP a b c)=acB (C (J 1022 []) aoQ) a b c:=by kernel_rfl
theorem aEG{J a b}:pBn J 127 [] (acy a b)=acA (C (J 510 []) aoP) a b:=by kernel_rfl
theorem aEH{J a b c}:pBn J 1018 [] (aoO a b c)=avA (C (J 127 []) acy) a b c:=by kernel_rfl
theorem aEI{J a b}:pBn J 15 [] (aoN a b)=acz (C (J 1018 []) aoO) (C (J 127 []) acy) a b:=by kernel_rfl
theorem aEJ{J w1 a b c d e}:pBn J 122 [w1] (acw a b c d e)=KQ (C (J 15 []) aoN) (C w1 acw) a b c d e:=by kernel_rfl
abbrev pBm:=zj aoL aoM 5 aoK
theorem aEK:C (pBm 1022 []) aoQ=aoR:=gNC (by decide) fun _=>aEE
theorem aEL:C (pBm 510 []) aoP=acE:=gNC (by decide) fun _=>aEF.trans (by rw[aEK]<;>kernel_rfl)
theorem avB:C (pBm 127 []) acy=Ss:=gNC (by decide) fun _=>aEG.trans (by rw[aEL]<;>kernel_rfl)
theorem aEM:C (pBm 1018 []) aoO=aoS:=gNC (by decide) fun _=>aEH.trans (by rw[avB]<;>kernel_rfl)
theorem aEN:C (pBm 15 []) aoN=Sv:=gNC (by decide) fun _=>aEI.trans (by rw[aEM,avB]<;>kernel_rfl)
theorem aEO:C (pBm 122 []) acw=Sw:=gLC (by decide) (by kernel_rfl) (fun _=>by unfold Sw;rfl) fun _ _=>aEJ.trans (by rw[aEN]<;>kernel_rfl)
theorem aEP:au Tryz.prog (fun _=>True) 5 ⟨aoK,aoT⟩:=zcc (env:=aoL) (d:=6) (hs:=Ev.get aoM) (aj Ev.gJ (aj Ev.gJ (aj Ev.gJ (aj ao7 (aj aiy (aj aCn (aj aEv (aj aED bq)))))))) (fun J x=>acD (C (J 122 []) acw) x.1 x.2.1 x.2.2.1 x.2.2.2.1 x.2.2.2.2.1 x.2.2.2.2.2.1) (fun _ _=>by kernel_rfl) fun _=>by rw[aEO]<;>rfl
end Go.Proofs.Lx
end
noncomputable section
namespace Go.Proofs.Lx
open Go Ev Sx Pl
set_option maxRecDepth 100000
section
variable {pl:List (List bn)}{x g:Int}{t:TTk}{s:TSl}{w:gK}
theorem as1(hp:jW pl)(hx:x≤4294967295)(h:PI pl x g t s w):∃(t':TTk) (s':TSl),CO (400,t,s,x,g,pl,w,())=some (true,t',s',x,g,pl,[],())∧PI pl x g t' s' []∧av t'=av t∧t'.1.2.2.1=t.1.2.2.1∧(atT t=0->atT t'=0)∧(atT t≠0->Live t w->atT t'=0):=by
 obtain⟨q1,q2,q3,q4⟩:=h.calm hp hx 400;have e:=aoA hp hx h;have hwl:=h.wl;have q2':PI pl x g (jv 400 t s w).1 (jv 400 t s w).2.1 []:=by have:=q2;rw[e]at this;exact this
 refine⟨_,_,?_,q2',q3,q4,Dt hp hx 400 h,fun a0 hL=>LP hp hx 400 h a0 hL e⟩;have:=Gg (N:=400) (by decide) h.ks q1 (by omega) x g pl;rw[e]at this;exact this
def Far(k:Nat)(t:TTk)(w:gK):Prop:=atT t=0∨Live t w∧1≤k∨t.1.2.2.1+2≤k∨w=[]∧t.1.2.2.2.2.2.2.2.1+1≤k
theorem LQ(hp:jW pl)(hx:x≤4294967295)(N:Nat)(hN:N≤200000):∀(k i n:Nat) {t:TTk} {s:TSl} {w:gK},i+k=N->k<n->PI pl x g t s w->Far k t w->k≠0 ->
  ∃(t':TTk) (s':TSl),cu (fun (self:Int×Int×TPr×gK->Option (As [.bool,_,_,_,_,_,_])) st=>Gm Sr (fun a b c d=>self (a,b,c,d)) st.1 st.2.1 st.2.2.1 st.2.2.2) n ((N:Int),(i:Int),(t,s,(),x,g,pl),w)=some (true,t',s',x,g,pl,[],())∧PI pl x g t' s' []∧atT t'=0∧av t'=av t
 | _,_,0,_,_,_,_,h,_,_,_=>by omega
 | 0,_,_,_,_,_,_,_,_,_,h0=>absurd rfl h0
 | k+1,i,n+1,t,s,w,hi,hk,h,hF,_=>by
  obtain⟨t1,s1,e1,p1,g1,m1,r1,l1⟩:=as1 hp hx h;rw[nH];show ∃(t':TTk) (s':TSl),Gm Sr _ (N:Int) (i:Int) (t,s,(),x,g,pl) w=_∧_;unfold Gm;rw[if_pos (fq.2 (by omega))];dsimp only;rw[je h.ks,e1,zD];dsimp only;rw[if_neg (by decide)];by_cases a1:atT t1=0
  ·rw[if_pos (fo.2 a1),je p1.ks]
   exact⟨t1,s1,rfl,p1,a1,g1⟩
  ·rw[if_neg (fun q=>a1 (fo.1 q))]
   obtain⟨ok,p2⟩:=p1.tick;have tm:(jO t1).1.1.2.2.1=t1.1.2.2.1:=p1.mt.tick.1.tm;have gl:av (jO t1).1=av t1:=p1.mt.tick.1.gl;rw[Sc p1.mt.kt ok,zD];dsimp only;rw[je p1.ks,Bc p1.ks,zD,jm (by omega)];have a0:atT t≠0:=fun e=>a1 (r1 e);have nl:¬ Live t w:=fun e=>a1 (l1 a0 e);have lt1:=p1.mt.lt a1;rw[m1]at lt1;have t0:=p1.mt.kt.p.t0;rw[m1]at t0;have w1:1≤t1.1.2.2.2.2.2.2.2.1:=(p1.mt.w a1).2.2.2.1.1
   have far:t.1.2.2.1+1≤(k:Int)∨w=[]∧t.1.2.2.2.2.2.2.2.1≤(k:Int):=by
    rcases hF with q | ⟨q,_⟩ | q | q
    ·exact absurd q a0
    ·exact absurd q nl
    ·exact .inl (by omega)
    ·exact .inr ⟨q.1,by omega⟩
   have same:w=[]->t1=t:=fun e=>by
    have:CO (400,t,s,x,g,pl,[],())=some (true,t,s,x,g,pl,[],()):=by have q:=Gg (N:=400) (by decide) h.ks (show Et 400 t s [] from trivial) (by decide) x g pl;exact q
    rw[e,this]at e1;have:=Option.some.inj e1;exact (congrArg (·.2.1) this).symm
   have lk:t1.1.2.2.2.2.2.2.2.1≤(k:Int):=by
    rcases far with q | ⟨q1,q2⟩
    ·omega
    ·rw[same q1];exact q2
   obtain⟨t',s',e3,p3,a3,g3⟩:=LQ hp hx N hN k (i+1) n (t:=(jO t1).1) (s:=s1) (w:=iA [] false (jO t1).2) (by omega) (by omega) p2 (by
    rcases aeB p1 a1 with q | ⟨q1,q2,q3⟩ | q
    ·exact .inl q
    ·exact .inr (.inr (.inr ⟨q2,by omega⟩))
    ·exact .inr (.inl ⟨q,by omega⟩)) (by omega)
   exact⟨t',s',e3,p3,a3,g3.trans (gl.trans g1)⟩
theorem Sy(hp:jW pl)(hx:x≤4294967295)(h:PI pl x g t s w):∃(t':TTk) (s':TSl),Gn (t,s,x,g,pl,w,())=some (true,t',s',x,g,pl,[],())∧PI pl x g t' s' []∧atT t'=0∧av t'=av t:=by have t0:=h.mt.kt.p.t0;have t1:=h.mt.kt.p.t1;obtain⟨N,hN⟩:=zN (show 0≤t.1.2.2.1+2 by omega);obtain⟨t',s',e,q⟩:=LQ hp hx N (by omega) N 0 18446744073709551616 (by omega) (by omega) h (.inr (.inr (.inl (by omega)))) (by omega);refine⟨t',s',?_,q⟩;show KO KP t s x g pl w=_;unfold KO;rw[jS (by omega) (by omega),hN];exact e
theorem aoU(h:av t=0∨(av t=2∨av t=3)∧iE t=1)(x:Int):qA false t x=some (1,x+1):=by
 unfold qA;rcases h with e | ⟨e | e,s⟩
 ·rw[show t.2.2.2.2.1=0 from e,if_neg (fun q=>absurd q.1 (by decide)),if_neg (fun q=>absurd q.1 (by decide)),if_neg (fun q=>q.1 rfl)]
 ·rw[show t.2.2.2.2.1=2 from e,show t.2.2.2.2.2.2.2.2=1 from s,if_neg (by decide),if_neg (by decide),if_neg (by decide)]
 ·rw[show t.2.2.2.2.1=3 from e,show t.2.2.2.2.2.2.2.2=1 from s,if_neg (by decide),if_neg (by decide),if_neg (by decide)]
theorem Ux(hp:jW pl)(hpl:OkPl pl)(hx:x≤1000000)(h:PI pl x g t s [])(hg:av t=0∨(av t=2∨av t=3)∧iE t=1):acE false (t,s,(),x,g,pl) []=some (true,()):=by
 have x0:=h.x0;have gx:=h.gx;have lg:=h.lg;have hy:1≤x+1∧x+1≤4294967295:=by omega
 have hl:=(hp (x+1)).1;have hfit:o7 (fU pl (x+1))=true:=Dn (by omega) (fun b hb=>((hp (x+1)).2 b hb).1);obtain⟨b1,ox⟩:=aeg (alt:=false) (g:=g) (k:=1) (y:=x+1) (x:=x) h.mt.kt h.ks (h.u.trans h.mt.u.symm) h.l ⟨x0,hx⟩ hpl (aoU hg x) (by decide) hy (fun _=>hfit);generalize eL:fU pl (x+1)=L at b1 ox hl hfit;have e1:iG t 1 (x+1) L=(cr t.1,(7,x+1,L,1,1,0,0,0)):=by show (cr t.1,(t.2.1,x+1,L,1,1,0,0,0))=_;rw[h.mt.o]
 rw[e1]at b1 ox;obtain⟨p',hz⟩:=Ia hp h.ks.a h.ag x0 (y:=x+1) (by omega) (by omega) (by omega) eL ox;have c1:=asM (N:=400) ox hz (by omega) (by decide) (x+1) g pl;obtain⟨ok2,os2,_⟩:=RY ox hz;dsimp only at os2
 have ends:Gn ((dw (cr t.1,(7,x+1,L,1,1,0,0,0))).1,s,x+1,g,pl,[(false,(dw (cr t.1,(7,x+1,L,1,1,0,0,0))).2)],()) =
   some (true,(p',(7,x+1,L,1,0,(L.length:Int),0,1)),jN s (agP s.2.2.1.1 7 (x+1) s.2.2.1.2.2.2.2.2.2 s.2.2.1.2.2.2.2.1 L),x+1,g,pl,[],()):=by
  have tm:(dw (cr t.1,(7,x+1,L,1,1,0,0,0))).1.1.2.2.1=t.1.2.2.1:=by rw[tZ ox];rfl
  have t0:=h.mt.kt.p.t0;have t1:=h.mt.kt.p.t1;show KO KP _ s (x+1) g pl _=_;unfold KO;rw[tm,jS (by omega) (by omega)];unfold KP;rw[show (18446744073709551616:Nat)=18446744073709551615+1 from rfl,nH];show Gm Sr _ (t.1.2.2.1+2) 0 (_,s,(),x+1,g,pl) _=_;unfold Gm;rw[if_pos (fq.2 (by omega))];dsimp only;rw[je h.ks,show (400:Int)=((400:Nat):Int) from rfl,c1,zD];dsimp only;rw[if_neg (by decide),if_pos (show eqi (0:Int) 0=true from rfl),je os2]
 show acB aoR false (t,s,(),x,g,pl) []=_;unfold acB;rw[if_neg (by decide)];dsimp only;rw[je h.ks,b1,zD];dsimp only;rw[if_neg (by decide),je h.ks,if_neg (show ¬ (1:Int)=2 by decide),ends,zD];dsimp only;rw[if_neg (by decide),if_neg (by decide)];show acC (nei (1:Int) 1) (_,jN s (agP s.2.2.1.1 7 (x+1) s.2.2.1.2.2.2.2.2.2 s.2.2.1.2.2.2.2.1 L),(),x+1,g,pl) []=_;unfold acC;rw[if_neg (by decide),if_pos (show eqi (jN s (agP s.2.2.1.1 7 (x+1) s.2.2.1.2.2.2.2.2.2 s.2.2.1.2.2.2.2.1 L)).2.2.1.2.2.1 2=true from rfl),if_pos (show eqi (jN s (agP s.2.2.1.1 7 (x+1) s.2.2.1.2.2.2.2.2.2 s.2.2.1.2.2.2.2.1 L)).2.2.1.2.2.2.1 (x+1)=true from fo.2 rfl),an0];rfl
theorem Uy(hp:jW pl)(hpl:OkPl pl)(hx:x≤1000000)(h:PI pl x g t s [])(a0:atT t=0)(hg:av t≠1):Ss (t,s,(),x,g,pl) []=some (true,()):=by
 have gl:=h.mt.gl;show acA acE (t,s,(),x,g,pl) []=_;unfold acA;by_cases g0:av t=0
 ·rw[if_neg (fun e=>gP.1 e g0)]
  exact Ux hp hpl hx h (.inl g0)
 ·have sd:iE t=1:=by
   rcases (h.mt.r a0).2 g0 with e | e
   ·exact e
   ·exact absurd e (h.mt.sn hg)
  rw[if_pos (gP.2 g0),show nei (t,s,(),x,g,pl).1.2.2.2.2.2.2.2.2 1=false from by
   show nei (iE t) 1=false;rw[sd]
   rfl]
  exact Ux hp hpl hx h (.inr ⟨by omega,sd⟩)
theorem as2(hp:jW pl)(hpl:OkPl pl)(hx:x≤999999)(h:PI pl x g t s w):Sv (t,s,(),x,g,pl) w=some (true,()):=by
 obtain⟨t1,s1,e1,p1,a1,g1⟩:=Sy hp (by omega) h;show acz aoS Ss (t,s,(),x,g,pl) w=_;unfold acz;dsimp only;rw[je h.ks,e1,zD];dsimp only;rw[if_neg (by decide)];by_cases c:av t1=1
 ·obtain⟨x',g',t',w',e2,p2,hx1,hx2,hk⟩:=p1.begin hp (by omega) (eqi (iE t1) 2)
  obtain⟨t3,s3,e3,p3,a3,g3⟩:=Sy hp (by omega) p2
  have gg:av t'=2∨av t'=3:=by
   rcases HY p1.mt (eqi (iE t1) 2) with q | ⟨q,_⟩ | ⟨q,_⟩ | ⟨_,q,_⟩
   ·exfalso
    unfold qA at q;split at q
    ·cases q
    split at q
    ·cases q
    split at q
    ·rename_i q1
     rcases (p1.mt.r a1).2 (by omega) with sd | sd
     ·have q2:iE t1=0:=q1.2
      omega
     ·have q2:iE t1=0:=q1.2
      omega
    ·cases q
   ·exact .inl (hk _ _ q).1
   ·exact .inr (hk _ _ q).1
   ·exact absurd c q
  rw[if_pos (fo.2 c),je p1.ks,Dl p1.mt.kt p1.ks (eqi (iE t1) 2) ⟨p1.x0,by omega⟩ g hpl [],e2,zD];dsimp only;rw[if_neg (by decide),je p1.ks,e3,zD];exact Uy hp hpl (show x'≤1000000 by omega) p3 a3 (show av t3≠1 by omega)
 ·rw[if_neg (fun q=>c (fo.1 q))]
  exact Uy hp hpl (by omega) p1 a1 c
end
theorem acF{link timeout retries:Int}{b:List Int}{plan:List (List bn)}{l:List TDd}(h1:0≤link)(h2:0≤timeout)(h3:0≤retries)(hb:∀x∈b,0≤x∧x≤65535)(hw:∀l∈plan,∀b∈l,∀y∈b.2,0≤y∧y≤65535)(hl:l.length≤9223372036854775807)(hd:∀d∈l,OkD d) :
  aoT (link,timeout,retries,b,plan,l,())=some (true,()):=by
 have hp:=acs hw;have hpl:=anY hw;have pi:=aoG h1 h2 h3 hb (pJ plan);show acD Sw link timeout retries b plan l=_;unfold acD;rw[anZ h1 h2 h3 hb,zD];dsimp only
 have hc:cut l 0 (if lt 200 (zF l.length)=true then 200 else zF l.length)=some (l.take 200):=by
  by_cases h:200<l.length
  ·rw[if_pos (by rw[fq,bu];omega)]
   exact pW (j:=200) (by omega)
  ·rw[if_neg (by rw[fq,bu];omega),bu,pW (Nat.le_refl _),List.take_of_length_le (Nat.le_refl _),List.take_of_length_le (by omega)]
 rw[if_neg (by decide),hc,zD];have hd:∀d∈l.take 200,OkD d:=fun d hm=>hd d (List.mem_of_mem_take hm);have hl:(l.take 200).length≤200:=by rw[kB];omega
 generalize l.take 200=m at hd hl;unfold Sw;refine KD (Q:=fun o=>o=some (true,())) (mk:=fun k (b:Int×Int×TTk×TSl×gK)=>(m,zF m.length,(k:Int),(b.2.2.1,b.2.2.2.1,(),b.1,b.2.1,pJ plan),b.2.2.2.2)) (N:=m.length) (Inv:=fun k b=>PI (pJ plan) b.1 b.2.1 b.2.2.1 b.2.2.2.1 b.2.2.2.2∧b.1≤k) ?_ ?_ m.length 0 (0,0,qH link timeout retries,qI link b,[]) 18446744073709551616 (by omega) (by omega) ⟨pi,Int.le_refl _⟩
 ·rintro self k ⟨x,g,t,s,w⟩ hk ⟨pi,hx⟩
  dsimp only at pi hx;obtain⟨d,hdk⟩:=jM (xs:=m) (i:=k) hk;obtain⟨t',s',x',g',w',e,p',hx',_⟩:=avy hp hpl (by omega) pi (hd d (zY hdk));refine⟨(x',g',t',s',w'),⟨p',by dsimp only;omega⟩,?_⟩;show KQ Sv _ m (zF m.length) (k:Int) (t,s,(),x,g,pJ plan) w=_;unfold KQ;rw[if_pos (fq.2 (by rw[bu];omega)),gZ hdk,zD];dsimp only;rw[je pi.ks,e,zD];dsimp only;rw[if_neg (by decide),jm (by omega)]
 ·rintro self ⟨x,g,t,s,w⟩ ⟨pi,hx⟩
  dsimp only at pi hx;show KQ Sv _ m (zF m.length) (m.length:Int) (t,s,(),x,g,pJ plan) w=_;unfold KQ;rw[if_neg (fun h=>by have:=fq.1 h;rw[bu]at this;omega)];exact as2 hp hpl (by omega) pi
abbrev avC:Ty:=.pr (.int .i64) aB
abbrev tDd:Ty:=.pr (.int .u8) cW
theorem aoV(x:As [.int .u8,.int .u8,.int .u8,.sl (.int .u16),.sl (.sl avC),.sl tDd])(h:Rw.okA [.int .u8,.int .u8,.int .u8,.sl (.int .u16),.sl (.sl avC),.sl tDd] x):aoT x=some (true,()) :=
 acF (link:=x.1) (timeout:=x.2.1) (retries:=x.2.2.1) (b:=x.2.2.2.1) (plan:=x.2.2.2.2.1) (l:=x.2.2.2.2.2.1) (ok8 h.1).1 (ok8 h.2.1).1 (ok8 h.2.2.1).1 (fun y hy=>ok16 (h.2.2.2.1.2 y hy)) (fun l hl y hy w hw=>ok16 (((h.2.2.2.2.1.2 l hl).2 y hy).2.2 w hw)) (by have:=h.2.2.2.2.2.1.1;unfold maxLen at this;omega)
  (fun d hd=>⟨ok8 (h.2.2.2.2.2.1.2 d hd).1,ok8 (h.2.2.2.2.2.1.2 d hd).2.1,ok16 (h.2.2.2.2.2.1.2 d hd).2.2.2.2⟩)
end Go.Proofs.Lx
end
