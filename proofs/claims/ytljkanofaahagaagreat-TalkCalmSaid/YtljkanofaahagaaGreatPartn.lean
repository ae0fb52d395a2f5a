/- Proved in the last of these 16 parts (this is part 14): TalkCalm. Conditions: those of the given statement, and no others. -/
import Derived.Test.YtljkanofaahagaaGreatPartm
import Derived.Test.YtljkanofaahagaaGreatPartk
import Derived.Test.YtljkanofaahagaaGreatPartd
import Derived.Test.YtljkanofaahagaaGreatProg
import Derived.Test.YtljkanofaahagaaGreatPartj
set_option linter.unusedVariables false
set_option linter.unusedSimpArgs false
set_option linter.unusedSectionVars false
open Option renaming bind → zC, bind_some → zD
open Int renaming ofNat → zF, toNat → zI, eq_ofNat_of_zero_le → zN, toNat_natCast → zQ
open List renaming length → zG, mem_cons_of_mem → zT, getElem?_eq_getElem → zV, getD_eq_getElem?_getD → zX, mem_of_getElem? → zY, length_take → kB, length_replicate → kD
open Bool renaming and_eq_true → zO
noncomputable section
namespace Go.Proofs.Lx
open Go Ev Sx Pl
set_option maxRecDepth 100000
structure AG(pl:List (List bn)) (x:Int) (a:TAg):Prop where
 o:a.2.1.1=0∨a.2.1.1=7
 t:a.2.2.2.1≤x
 s:∀k:Nat,a.2.2.2.2.2.1.2.1[k]? = some true->∃b,(fU pl a.2.2.2.1)[k]? = some b∧a.2.2.2.2.2.1.2.2[k]? = some b
 p:a.2.2.1=2->a.2.2.2.2.2.1.2.1.count true=(fU pl a.2.2.2.1).length
theorem AG.mono{pl:List (List bn)}{x y:Int}{a:TAg}(h:AG pl x a)(hxy:x≤y):AG pl y a:=⟨h.o,Int.le_trans h.t hxy,h.s,h.p⟩
theorem R6(k:Nat):zSt.2.1[k]? ≠ some true:=by intro h;have:=zY h;exact absurd this (by decide)
theorem uw{hv:List Bool}{bs:List bn}{k:Nat}{b:bn}(h1:hv[k]? = some true)(h2:bs[k]? = some b):(nzB hv bs)[k]? = some b:=He h1 h2
theorem AG.own{pl:List (List bn)}{x:Int}{a:TAg}(h:AG pl x a):AG pl x (fQ a) :=
 ⟨h.o,h.t,fun k hk=>by
  obtain⟨b,h1,h2⟩:=h.s k hk
  exact⟨b,h1,uw hk h2⟩,h.p⟩
theorem R7{hv:List Bool}{n:Nat}(hl:hv.length=8)(hn:n≤8)(hf:qJ hv (n:Int)=true):hv=hvK n:=by
 have hf:=of_decide_eq_true hf;refine List.ext_getElem? fun i=>?_;by_cases hi:i<8
 ·have h1:=hf i hi
  have h2:hv[i]? = some (hv.getD i false):=by rw[zX,zV (by omega)];rfl
  rw[h2,h1];unfold hvK;by_cases hk:i<n
  ·rw[List.getElem?_append_left (by rw[kD];exact hk),List.getElem?_replicate,if_pos hk,decide_eq_true (by omega)]
  ·rw[List.getElem?_append_right (by rw[kD];omega),kD,List.getElem?_replicate,if_pos (by omega),decide_eq_false (by omega)]
 ·rw[List.getElem?_eq_none (by omega),List.getElem?_eq_none (by rw[Un hn];omega)]
theorem SX{hv:List Bool}{n:Nat}(hl:hv.length=8)(hn:n≤8)(hf:qJ hv (n:Int)=true):hv.count true=n:=by rw[R7 hl hn hf,aeh hn]
theorem ael{hv:List Bool}{bs L:List bn}(hl:hv.length=8)(hb:bs.length=8)(hL:L.length≤8)(hf:qJ hv (L.length:Int)=true)(hs:∀k:Nat,hv[k]? = some true->∃b,L[k]? = some b∧bs[k]? = some b):gY hv bs=L:=by
 have e1:=R7 hl hL hf
 have e2:nzB hv bs=bsK L L.length:=by
  refine List.ext_getElem? fun i=>?_;by_cases hi:i<8
  ·by_cases hk:i<L.length
   ·have ht:hv[i]? = some true:=by rw[e1];unfold hvK;rw[List.getElem?_append_left (by rw[kD];exact hk),List.getElem?_replicate,if_pos hk]
    obtain⟨b,h1,h2⟩:=hs i ht;rw[uw ht h2];unfold bsK;rw[List.getElem?_append_left (by rw[kB];omega),List.getElem?_take,if_pos hk,h1]
   ·have ht:hv[i]? = some false:=by rw[e1];unfold hvK;rw[List.getElem?_append_right (by rw[kD];omega),kD,List.getElem?_replicate,if_pos (by omega)]
    obtain⟨b,hb'⟩:=jM (xs:=bs) (i:=i) (by omega);rw[He ht hb',if_neg (by decide)];unfold bsK;rw[List.getElem?_append_right (by rw[kB];omega),kB,List.getElem?_replicate,if_pos (by omega)]
  ·rw[List.getElem?_eq_none (by rw[y5 hl hb];omega),List.getElem?_eq_none (by rw[Uo hL (Nat.le_refl _)];omega)]
 rw[<- Eh,e2,e1,R3 (Nat.le_refl _),List.take_length]
theorem AG.blk{pl:List (List bn)}{x:Int}{a:TAg}(h:AG pl x a)(ok:OkG a)(hp:a.2.2.1=2)(h8:(fU pl a.2.2.2.1).length≤8):gY a.2.2.2.2.2.1.2.1 a.2.2.2.2.2.1.2.2=fU pl a.2.2.2.1:=by have h2:=(ok.p2 hp).2;rw[h.p hp]at h2;exact ael ok.hl ok.sl h8 h2 h.s
theorem AG.free{pl:List (List bn)}{x:Int}(hx:0≤x)(a:TAg):AG pl x (pG a) :=
 ⟨.inl rfl,hx,fun k hk=>absurd hk (R6 k),fun e=>absurd e (show ¬ (0:Int)=2 by decide)⟩
theorem LJ(l:TLs)(o t:Int):(lG l o t).1=o:=by
 unfold lG;split
 ·rename_i h
  rw[h]
 ·rfl
section
variable {pl:List (List bn)}{x y n c:Int}{v:Int}{a:TAg}
theorem aDN(ok:OkG a)(h:AG pl x a)(hy:1≤y∧y≤x)(hn:v=2->n=((fU pl y).length:Int))(h8:(fU pl y).length≤8)(h0:(doS (fQ a) (7,v,y,n,c)).2=0):AG pl x (doS (fQ a) (7,v,y,n,c)).1:=by
 have g:=h.own;have ok':=ok.own;generalize fQ a=b at *;unfold doS at h0 ⊢;dsimp only at h0 ⊢;split at h0
 ·exact absurd h0 (by simp)
 split at h0
 ·exact absurd h0 (by simp)
 rw[if_neg ‹_›,if_neg ‹_›];split at h0
 ·rw[if_pos ‹_›]
  split at h0
  ·exact absurd h0 (by simp)
  rw[if_neg ‹_›];split at h0
  ·rw[if_pos ‹_›]
   exact⟨.inr (LJ _ _ _),g.t,g.s,g.p⟩
  ·rw[if_neg ‹_›]
   exact⟨.inr rfl,hy.2,fun k hk=>absurd hk (R6 k),fun e=>absurd e (show ¬ (1:Int)=2 by decide)⟩
 ·rw[if_neg ‹_›]
  split at h0
  ·rename_i hv2
   rw[if_pos hv2];split at h0
   ·rename_i hc
    rw[if_pos hc];refine⟨.inr rfl,g.t,g.s,fun _=>?_⟩;rcases hc with ⟨h2,_⟩ | ⟨h1,ht,hw⟩
    ·exact g.p h2
    ·unfold uG at hw
     rw[zO,zO]at hw;have hf:=hw.2.1;rw[hn hv2]at hf;have:=SX ok'.hl h8 hf;show b.2.2.2.2.2.1.2.1.count true=(fU pl b.2.2.2.1).length;rw[ht];exact this
   ·exact absurd h0 (by simp)
  ·rw[if_neg ‹_›]
   split at h0
   ·rw[if_pos ‹_›]
    split at h0
    ·rw[if_pos ‹_›];exact g
    rw[if_neg ‹_›];split at h0
    ·rw[if_pos ‹_›]
     exact AG.free (by omega) _
    ·exact absurd h0 (by simp)
   ·rw[if_neg ‹_›]
    split at h0
    ·exact absurd h0 (by simp)
    rw[if_neg ‹_›];split
    ·exact AG.free (by omega) _
    ·exact g
theorem avo(ok:OkG a)(h:AG pl x a)(h8:(fU pl y).length≤8)(h0:(doS (fQ a) (7,v,y,n,c)).2=0) :
  ((doS (fQ a) (7,v,y,n,c)).1.1=a.1∧(doS (fQ a) (7,v,y,n,c)).1.2.2.2.2.1=a.2.2.2.2.1 ∨
   v=3∧a.2.2.1=2∧a.2.2.2.1=y∧(doS (fQ a) (7,v,y,n,c)).1.1=uo a.1 (fU pl y)∧(doS (fQ a) (7,v,y,n,c)).1.2.2.2.2.1=y) ∧
  (a.2.2.1=2->(doS (fQ a) (7,v,y,n,c)).1.2.2.1=2∧(doS (fQ a) (7,v,y,n,c)).1.2.2.2.1=a.2.2.2.1∨a.2.2.2.1=y∧(v=3∧(doS (fQ a) (7,v,y,n,c)).1.2.2.2.2.1=y∨v=4)∨a.2.2.2.1<y∧v=1):=by
 have g:=h.own;have ok':=ok.own;have e1:a.1=(fQ a).1:=rfl;have e2:a.2.2.2.2.1=(fQ a).2.2.2.2.1:=rfl;have e3:a.2.2.1=(fQ a).2.2.1:=rfl;have e4:a.2.2.2.1=(fQ a).2.2.2.1:=rfl;rw[e1,e2,e3,e4];clear e1 e2 e3 e4;generalize fQ a=b at *;unfold doS at h0 ⊢;dsimp only at h0 ⊢;split at h0
 ·exact absurd h0 (by simp)
 split at h0
 ·exact absurd h0 (by simp)
 rename_i q1 q2;rw[if_neg q1,if_neg q2];split at h0
 ·rename_i v1
  rw[if_pos v1];split at h0
  ·exact absurd h0 (by simp)
  rename_i q3;rw[if_neg q3];split at h0
  ·rw[if_pos ‹_›]
   exact⟨.inl ⟨rfl,rfl⟩,fun h2=>.inl ⟨h2,rfl⟩⟩
  ·rename_i q4
   rw[if_neg q4];refine⟨.inl ⟨rfl,rfl⟩,fun h2=>.inr (.inr ⟨?_,v1⟩)⟩;have:¬ (b.2.2.1≠0∧y<b.2.2.2.1):=fun e=>q3 (.inr e);have:¬ y<b.2.2.2.1:=fun e=>this ⟨by omega,e⟩;omega
 ·rw[if_neg ‹_›]
  split at h0
  ·rename_i hv2
   rw[if_pos hv2];split at h0
   ·rename_i hc
    rw[if_pos hc];exact⟨.inl ⟨rfl,rfl⟩,fun _=>.inl ⟨rfl,rfl⟩⟩
   ·exact absurd h0 (by simp)
  ·rw[if_neg ‹_›]
   split at h0
   ·rename_i v3
    rw[if_pos v3];split at h0
    ·rw[if_pos ‹_›];exact⟨.inl ⟨rfl,rfl⟩,fun h2=>.inl ⟨h2,rfl⟩⟩
    rw[if_neg ‹_›];split at h0
    ·rename_i q
     rw[if_pos q];refine⟨.inr ⟨v3,q.1,q.2,?_,rfl⟩,fun _=>.inr (.inl ⟨q.2,.inl ⟨v3,rfl⟩⟩)⟩;have:=g.blk ok' q.1 (by rw[q.2];exact h8);rw[q.2]at this;show uo b.1 (gY b.2.2.2.2.2.1.2.1 b.2.2.2.2.2.1.2.2)=_;rw[this]
    ·exact absurd h0 (by simp)
   ·rename_i v3
    rw[if_neg v3];split at h0
    ·exact absurd h0 (by simp)
    rw[if_neg ‹_›];have v4:v=4:=by omega
    split
    ·rename_i q
     exact⟨.inl ⟨rfl,rfl⟩,fun _=>.inr (.inl ⟨q.2,.inr v4⟩)⟩
    ·exact⟨.inl ⟨rfl,rfl⟩,fun h2=>.inl ⟨h2,rfl⟩⟩
theorem avp{k:Nat}{b:bn}(ok:OkG a)(h:AG pl x a)(hb:(fU pl y)[k]? = some b)(hk:k<8)(h0:(putA (fQ a) 7 y (k:Int) b).2=0) :
  AG pl x (putA (fQ a) 7 y (k:Int) b).1∧(putA (fQ a) 7 y (k:Int) b).1.1=a.1∧(putA (fQ a) 7 y (k:Int) b).1.2.2.2.2.1=a.2.2.2.2.1∧a.2.2.1=1:=by
 have g:=h.own;have ok':=ok.own;have e1:a.1=(fQ a).1:=rfl;have e2:a.2.2.2.2.1=(fQ a).2.2.2.2.1:=rfl;have e3:a.2.2.1=(fQ a).2.2.1:=rfl;rw[e1,e2,e3];clear e1 e2 e3;generalize fQ a=A at *;unfold putA at h0 ⊢;split at h0
 ·exact absurd h0 (by simp)
 split at h0
 ·exact absurd h0 (by simp)
 rw[if_neg ‹_›,if_neg ‹_›];split at h0
 ·exact absurd h0 (by simp)
 rename_i q;rw[if_neg q];have q:A.2.2.1=1∧A.2.2.2.1=y:=Decidable.not_not.1 q;refine⟨⟨.inr (LJ _ _ _),g.t,fun j hj=>?_,fun e=>absurd (q.1.symm.trans e) (by decide)⟩,rfl,rfl,q.1⟩;have hj:(A.2.2.2.2.2.1.2.1.set k true)[j]? = some true:=hj;show ∃b',(fU pl A.2.2.2.1)[j]? = some b'∧(nzB (A.2.2.2.2.2.1.2.1.set k true) (A.2.2.2.2.2.1.2.2.set k b))[j]? = some b';rw[q.2];by_cases e:j=k
 ·subst e
  refine⟨b,hb,uw hj ?_⟩;rw[List.getElem?_set_self (by have:=ok'.sl;omega)]
 ·have hj':A.2.2.2.2.2.1.2.1[j]? = some true:=by rw[List.getElem?_set_ne (fun h=>e h.symm)]at hj;exact hj
  obtain⟨b',h1,h2⟩:=g.s j hj';rw[q.2]at h1;refine⟨b',h1,uw hj ?_⟩;rw[List.getElem?_set_ne (fun h=>e h.symm)];exact h2
end
def jW(pl:List (List bn)):Prop:=∀y,(fU pl y).length≤4∧∀b∈fU pl y,gV b=true∧b.2.length≤14∧∀z∈b.2,0≤z∧z≤65535
inductive RQ(pl:List (List bn)) (C:Int->Int->Prop):TA->Prop
 | cmd (v y n c:Int) (hv:1≤v∧v≤4) (hc:C v y) (h2:v=2->n=((fU pl y).length:Int)∧c=nM (fU pl y)) (h0:v≠2->n=0∧c=0):RQ pl C (jd (7,v,y,n,c))
 | blk (y:Int) (k:Nat) (b:bn) (hc:C 0 y) (hb:(fU pl y)[k]? = some b):RQ pl C (nO (iB 7 y (k:Int) b))
 | back (k:Nat) (h:k<8):RQ pl C (rdQ (512+(k:Int)*32) 20)
 | look:RQ pl C (rdQ 256 8)
theorem RQ.mono{pl:List (List bn)}{C D:Int->Int->Prop}{a:TA}(h:RQ pl C a)(hC:∀v y,C v y->D v y):RQ pl D a:=by
 cases h with
 | cmd v y n c hv hc h2 h0=>exact .cmd v y n c hv (hC _ _ hc) h2 h0
 | blk y k b hc hb=>exact .blk y k b (hC _ _ hc) hb
 | back k h=>exact .back k h
 | look=>exact .look
section
variable {pl:List (List bn)}{C:Int->Int->Prop}{x:Int}{a:TA}{s:TSl}(hp:jW pl)(hx:x≤4294967295)(hC:∀v y,C v y->1≤y∧y≤x)
include hp hx hC
theorem R8{v y n c:Int}(hv:1≤v∧v≤4)(hc:C v y)(h2:v=2->n=((fU pl y).length:Int)∧c=nM (fU pl y))(h0:v≠2->n=0∧c=0):OkC (7,v,y,n,c):=by
 have h4:=(hp y).1;have hy:=hC _ _ hc;have hs:0≤nM (fU pl y)∧nM (fU pl y)≤4294967295:=Rb _
 have hnc:(0≤n∧n≤65535)∧0≤c∧c≤4294967295:=by
  by_cases e:v=2
  ·obtain⟨rfl,rfl⟩:=h2 e
   exact⟨by omega,hs⟩
  ·obtain⟨rfl,rfl⟩:=h0 e
   exact⟨by decide,by decide⟩
 exact⟨(by decide:(0:Int)≤7∧(7:Int)≤65535),by show 0≤v∧v≤255;omega,by show 0≤y∧y≤4294967295;omega,hnc.1,hnc.2⟩
theorem R9{y:Int}{k:Nat}{b:bn}(hc:C 0 y)(hb:(fU pl y)[k]? = some b):k<4∧gV b=true∧∀w∈iB 7 y (k:Int) b,0≤w∧w≤65535:=by have hk:=(List.getElem?_eq_some_iff.1 hb).1;have h4:=(hp y).1;have hm:=(hp y).2 b (zY hb);have hy:=hC _ _ hc;exact⟨by omega,hm.1,Bb (by decide) (by omega) (by omega) hm.2.2⟩
theorem RQ.ok(h:RQ pl C a):OkA a∧iR a=true:=by
 cases h with
 | cmd v y n c hv hc h2 h0 =>
  have:=nN (R8 hp hx hC hv hc h2 h0);exact⟨this.1,this.2.1⟩
 | blk y k b hc hb =>
  have:=y9 nk (R9 hp hx hC hc hb).2.2;exact⟨this.1,this.2.1⟩
 | back k h=>exact za (by omega) (by decide)
 | look=>exact za (by decide) (by decide)
theorem EI{o tx n:Int}{b:bn}(hf:gV b=true)(hn:0≤n∧n≤7)(hr:∀y∈iB o tx n b,0≤y∧y≤65535)(hA:(putA (fQ s.2.2.1) o tx n b).2≠0) :
  gu s (nO (iB o tx n b))=(s,(16,4,[],[],0,0)):=by
 obtain⟨_,_,h3⟩:=y9 nk hr;have hw:iM s.2.2.1 (atW (nO (iB o tx n b))) (nO (iB o tx n b)).2.2.2.2.1=(s.2.2.1,4):=by show iM s.2.2.1 288 (iB o tx n b)=_;unfold iM;rw[if_neg (by decide),T8 hf hn.2];dsimp only;rw[if_neg (by simp),if_pos hA]
 have hl:¬ (nO (iB o tx n b)).2.2.2.2.1.length=0:=by show ¬ ((iB o tx n b).length=0);rw[nk];decide
 unfold gu;rw[if_neg (by rw[h3];decide),if_neg (show ¬ ((nO (iB o tx n b)).1=5∨(nO (iB o tx n b)).1=15) from (by decide:¬ ((16:Int)=5∨(16:Int)=15))),if_neg hl,hw,if_pos (by simp)];rfl
structure Srv(pl:List (List bn)) (C:Int->Int->Prop) (x:Int) (a A:TAg) (r:TR):Prop where
 ok:OkG A
 ag:AG pl x A
 bk:A.1=a.1∧A.2.2.2.2.1=a.2.2.2.2.1∨∃y,C 3 y∧a.2.2.1=2∧a.2.2.2.1=y∧A.1=uo a.1 (fU pl y)∧A.2.2.2.2.1=y
 st:a.2.2.1=2->A.2.2.1=2∧A.2.2.2.1=a.2.2.2.1∨C 3 a.2.2.2.1∧A.2.2.2.2.1=a.2.2.2.1∨C 4 a.2.2.2.1∨∃y,a.2.2.2.1<y∧C 1 y
 rd:∀st,gH r=some st->st=(A.2.1.1,A.2.2.1,A.2.2.2.1,A.2.2.2.2.1)
omit hp hx hC in
theorem Srv.same{r:TR}(ok:OkG s.2.2.1)(g:AG pl x s.2.2.1)(rd:∀st,gH r=some st->st=(s.2.2.1.2.1.1,s.2.2.1.2.2.1,s.2.2.1.2.2.2.1,s.2.2.1.2.2.2.2.1)):Srv pl C x s.2.2.1 s.2.2.1 r :=
 ⟨ok,g,.inl ⟨rfl,rfl⟩,fun h=>.inl ⟨h,rfl⟩,rd⟩
omit hp hx hC in
theorem xS{r:TR}{st:TSt}{p:Prop}(h:r.2.1≠0∨r.2.2.2.1.length≠8)(e:gH r=some st):p:=by unfold gH at e;rw[if_neg (by omega)]at e;cases e
theorem aem(hs:OkS s)(g:AG pl x s.2.2.1)(rq:RQ pl C a):∃A,(gu s a).1=jN s A∧Srv pl C x s.2.2.1 A (gu s a).2:=by
 cases rq with
 | cmd v y n c hv hc h2 h0 =>
  have okc:=R8 hp hx hC hv hc h2 h0;have hy:=hC _ _ hc;have h8:(fU pl y).length≤8:=by have:=(hp y).1;omega
  by_cases e:(doS (fQ s.2.2.1) (7,v,y,n,c)).2=0
  ·have okA:OkG (doS (fQ s.2.2.1) (7,v,y,n,c)).1:=hs.a.own.doS (c:=(7,v,y,n,c)) okc.o okc.t okc.n
   have es:=tY hs okc (A:=(doS (fQ s.2.2.1) (7,v,y,n,c)).1) (Prod.ext rfl e) okA;have g':=aDN hs.a g hy (fun e2=>(h2 e2).1) h8 e (c:=c);obtain⟨q1,q2⟩:=avo hs.a g h8 e;refine⟨_,congrArg (·.1) es,okA,g',?_,fun hp2=>?_,?_⟩
   ·rcases q1 with q | ⟨rfl,q⟩
    ·exact .inl q
    ·exact .inr ⟨y,hc,q⟩
   ·rcases q2 hp2 with q | ⟨q,⟨rfl,e3⟩ | rfl⟩ | ⟨q,rfl⟩
    ·exact .inl q
    ·exact .inr (.inl ⟨by rw[q];exact hc,e3.trans q.symm⟩)
    ·exact .inr (.inr (.inl (by rw[q];exact hc)))
    ·exact .inr (.inr (.inr ⟨y,q,hc⟩))
   ·intro st hst
    rw[es,uM]at hst;cases hst;rfl
  ·have es:=Um (s:=s) okc e
   rw[es];exact⟨s.2.2.1,rfl,.same hs.a g (fun st h=>xS (r:=(23,4,[],[],0,0)) (.inl (by decide)) h)⟩
 | blk y k b hc hb =>
  obtain⟨hk,hf,hr⟩:=R9 hp hx hC hc hb;by_cases e:(putA (fQ s.2.2.1) 7 y (k:Int) b).2=0
  ·have es:=F9 hs hf (by omega) hr (A:=(putA (fQ s.2.2.1) 7 y (k:Int) b).1) (Prod.ext rfl e)
   obtain⟨g',q1,q2,q3⟩:=avp hs.a g hb (by omega) e;have okA:OkG (putA (fQ s.2.2.1) 7 y (k:Int) b).1:=hs.a.own.putA (by decide) hf ((hp y).2 b (zY hb)).2.2;rw[es];exact⟨_,rfl,okA,g',.inl ⟨q1,q2⟩,fun h2=>absurd (q3.symm.trans h2) (by decide),fun st h=>xS (r:=(16,0,[],[],288,20)) (.inr (by decide)) h⟩
  ·rw[EI hp hx hC hf (by omega) hr e]
   exact⟨s.2.2.1,rfl,.same hs.a g (fun st h=>xS (r:=(16,4,[],[],0,0)) (.inl (by decide)) h)⟩
 | back k h =>
  have e:(512+(k:Int)*32).toNat=512+k*32:=by omega
  have e20:(20:Int).toNat=20:=rfl;rw[vR s (Ga h),e,e20,Lt hs.a h];refine⟨s.2.2.1,rfl,.same hs.a g (fun st h=>xS (r:=(3,0,[],kE s.2.2.1.2.2.2.2.2.1 s.2.2.1.2.1.1 (k:Int),0,0)) (.inr ?_) h)⟩;show (kE _ _ _).length≠8;rw[rF];decide
 | look =>
  have e:gu s (rdQ 256 8)=(s,(3,0,[],iq s.2.2.1,0,0)):=by rw[vR s (by decide)];show (s,((3:Int),(0:Int),([]:List Bool),((kW s.2.2.1).drop 256).take 8,(0:Int),(0:Int)))=_;rw[De hs.a]
  rw[e];refine⟨s.2.2.1,rfl,.same hs.a g (fun st h=>?_)⟩;rw[uM]at h;cases h;rfl
end
def OkW(p:TP):Prop:=p.2.2.2.2.1=true->iR p.2.2.2.2.2.1=true∧1≤p.2.2.2.2.2.2.2.1∧p.2.2.2.2.2.2.2.1≤100000∧0≤p.2.2.2.2.2.2.2.2∧p.2.2.2.2.2.2.2.2≤1000
theorem an4{p:TP}(h:OkP p):OkP (jB p).1:=by
 unfold jB;split
 ·split
  ·split
   ·have hx:=nS p.2.1 h.x0 h.x1
    exact⟨h.u0,h.u1,h.l,h.t0,h.t1,h.r0,h.r1,h.a,hx.1,hx.2⟩
   ·exact⟨h.u0,h.u1,h.l,h.t0,h.t1,h.r0,h.r1,vB,h.x0,h.x1⟩
  ·exact⟨h.u0,h.u1,h.l,h.t0,h.t1,h.r0,h.r1,h.a,h.x0,h.x1⟩
 ·exact h
theorem OkT.poll{t:TTk}(h:OkT t){p:TP}(hp:OkP p):OkT (p,t.2):=⟨hp,h.o,h.x,h.bl,h.bf,h.at',h.n,h.tr⟩
theorem Sc{t:TTk}(h:OkT t)(hw:OkW t.1):CK (t,())=some ((jO t).1,(jO t).2,()):=by
 have ok:=h.poll (an4 h.p);show am5 t=_;unfold am5 jO;rw[Es h.sz,zD,asJ h.p hw,zD];dsimp only
 cases hb:(jB t.1).2.2 with
 | false=>rfl
 | true =>
  have e0:¬ (true=false):=by decide
  rw[if_neg (show ¬ (!true)=true by decide)];simp only[if_neg e0];by_cases e:t.2.2.2.2.1=1
  ·rw[if_pos (fo.2 e),if_pos e]
   rfl
  ·rw[if_neg (fun h=>e (fo.1 h)),if_neg e,Gc ok]
   rfl
abbrev av(t:TTk):Int:=t.2.2.2.2.1
abbrev atT(t:TTk):Int:=t.2.2.2.2.2.1
abbrev iE(t:TTk):Int:=t.2.2.2.2.2.2.2.2
def ApT(g k:Int):Prop:=g=1∧1≤k∧k≤4∨g=2∧(k=5∨k=7)∨g=3∧(k=6∨k=7)
structure MK(pl:List (List bn)) (x:Int) (t:TTk):Prop where
 kt:OkT t
 o:t.2.1=7
 u:t.1.1=9
 tx:t.2.2.1=x
 bl:t.2.2.2.1=if av t=1 then fU pl x else []
 gl:0≤av t∧av t≤3
 sn:av t≠1->iE t≠2
 z:av t=0->iE t=0
 xp:av t≠0->1≤x
structure MG(pl:List (List bn)) (x:Int) (t:TTk):Prop extends MK pl x t where
 g:goodX t
 ap:ApT (av t) (atT t)
 sd:iE t=0
structure MT(pl:List (List bn)) (x:Int) (t:TTk):Prop extends MK pl x t where
 r:atT t=0->t.1.2.2.2.2.1=false∧(av t≠0->iE t=1∨iE t=2)
 w:atT t≠0->MG pl x t∧t.1.2.2.2.2.1=true∧t.1.2.2.2.2.2.1=fZ t∧(1≤t.1.2.2.2.2.2.2.2.1∧t.1.2.2.2.2.2.2.2.1≤100000)∧0≤t.1.2.2.2.2.2.2.2.2∧t.1.2.2.2.2.2.2.2.2≤1000
 lt:atT t≠0->t.1.2.2.2.2.2.2.2.1≤t.1.2.2.1
section
variable {pl:List (List bn)}{C:Int->Int->Prop}{x:Int}{t:TTk}
theorem MK.poll(h:MK pl x t){p:TP}(hp:OkP p)(hu:p.1=9):MK pl x (p,t.2):=⟨h.kt.poll hp,h.o,hu,h.tx,h.bl,h.gl,h.sn,h.z,h.xp⟩
theorem MG.poll(h:MG pl x t){p:TP}(hp:OkP p)(hu:p.1=9):MG pl x (p,t.2):=⟨h.toMK.poll hp hu,h.g,h.ap,h.sd⟩
theorem Sd{p:TP}(h:OkP p):OkP (cr p):=⟨h.u0,h.u1,h.l,h.t0,h.t1,h.r0,h.r1,vB,h.x0,h.x1⟩
theorem MG.rq(h:MG pl x t)(h1:av t=1->C 0 x∧C 1 x∧C 2 x)(h2:av t=2->C 3 x)(h3:av t=3->C 4 x):RQ pl C (fZ t):=by
 have hbl:=h.bl
 have cm:∀v:Int,1≤v∧v≤4->C v x->(v=2->av t=1)->RQ pl C (jd (qX t v)):=fun v hv hc hg=>by
  unfold qX;rw[h.o,h.tx];refine .cmd v x _ _ hv hc (fun e=>?_) (fun e=>?_)
  ·rw[if_pos e,if_pos e,hbl,if_pos (hg e)]
   exact⟨rfl,rfl⟩
  ·rw[if_neg e,if_neg e]
   exact⟨rfl,rfl⟩
 rcases h.ap with ⟨e,k1,k2⟩ | ⟨e,k | k⟩ | ⟨e,k | k⟩
 ·have hc:=h1 e
  have k:atT t=1∨atT t=2∨atT t=3∨atT t=4:=by omega
  rcases k with k | k | k | k
  ·unfold fZ
   rw[if_pos k];exact cm 1 (by decide) hc.2.1 (fun e=>absurd e (by decide))
  ·have hh:=h.g.2 (.inl k)
   obtain⟨b,hb,eb,_⟩:=Dg h.kt hh;have er:fZ t=nO (qG t):=by unfold fZ;rw[show t.2.2.2.2.2.1=2 from k,if_neg (by decide),if_pos rfl,if_pos hh]
   have hn:=h.kt.n.1;rw[er,eb,h.o,h.tx];obtain⟨n,hn⟩:=zN hn;rw[hn]at hb ⊢;rw[hbl,if_pos e,zQ]at hb;exact .blk x n b hc.1 hb
  ·have hh:=of_decide_eq_true (h.g.2 (.inr k))
   have hn:=h.kt.n.1;have hl:=h.kt.bl;have er:fZ t=rdQ (512+32*t.2.2.2.2.2.2.1) 20:=by unfold fZ;rw[show t.2.2.2.2.2.1=3 from k,if_neg (by decide),if_neg (by decide),if_pos rfl]
   rw[er,Int.mul_comm];obtain⟨n,hn⟩:=zN hn;rw[hn]at hh ⊢;exact .back n (by omega)
  ·unfold fZ
   rw[show t.2.2.2.2.2.1=4 from k];exact cm 2 (by decide) hc.2.2 (fun _=>e)
 ·unfold fZ
  rw[show t.2.2.2.2.2.1=5 from k];exact cm 3 (by decide) (h2 e) (fun e=>absurd e (by decide))
 ·unfold fZ
  rw[show t.2.2.2.2.2.1=7 from k];exact .look
 ·unfold fZ
  rw[show t.2.2.2.2.2.1=6 from k];exact cm 4 (by decide) (h3 e) (fun e=>absurd e (by decide))
 ·unfold fZ
  rw[show t.2.2.2.2.2.1=7 from k];exact .look
theorem MG.send(h:MG pl x t)(hw:t.1.2.2.2.2.1=false):∃z,(0≤z∧z≤65535)∧(dw t).2=jo t.1.2.1 9 z (fZ t)∧MT pl x (dw t).1∧(dw t).1.2=t.2∧(dw t).1.1.2.1=t.1.2.1∧(dw t).1.1.2.2.1=t.1.2.2.1:=by
 have hx:=nS t.1.2.1 h.kt.p.x0 h.kt.p.x1;have hr:=qY h.kt h.g.good;have e:dw t=((mU (lS t.1 (fZ t)),t.2),jo t.1.2.1 t.1.1 (kP t.1.2.1 t.1.2.2.2.2.2.2.1) (fZ t)):=by unfold dw;rw[if_neg (by rw[hw];decide),if_pos hr];rfl
 have hp:OkP (mU (lS t.1 (fZ t))):=⟨h.kt.p.u0,h.kt.p.u1,h.kt.p.l,h.kt.p.t0,h.kt.p.t1,h.kt.p.r0,h.kt.p.r1,oQ h.kt,hx.1,hx.2⟩;have hm:=h.poll hp h.u;refine⟨_,hx,by rw[e,h.u],?_,by rw[e],by rw[e];rfl,by rw[e];rfl⟩;rw[e];exact⟨hm.toMK,fun e0=>absurd e0 h.g.1,fun _=>⟨hm,rfl,rfl,⟨h.kt.p.t0,h.kt.p.t1⟩,h.kt.p.r0,h.kt.p.r1⟩,fun _=>Int.le_refl _⟩
structure Ef(x:Int) (t t':TTk) (r:TR):Prop where
 p:t'.1=t.1
 o:t'.2.1=t.2.1
 tx:t'.2.2.1=t.2.2.1
 bl:t'.2.2.2.1=t.2.2.2.1
 gl:av t'=av t
 c:atT t'=0∧(iE t'=1∨iE t'=2∧av t=1)∧(iE t'=1->∃st,gH r=some st∧(av t=1->st.1=t.2.1∧st.2.2.1=t.2.2.1∧st.2.1=2)∧(av t=2->t.2.2.1≤st.2.2.2)) ∨
  atT t'≠0∧iE t'=iE t∧ApT (av t) (atT t')
theorem vG{p:TP}{c:_}{r:TR}{k:Int}(h:k≠0)(ha:ApT (av (cr p,c)) k):Ef x (cr p,c) (toT (cr p,c) k) r :=
 ⟨rfl,rfl,rfl,rfl,rfl,.inr ⟨h,rfl,ha⟩⟩
theorem abY{p:TP}{c:_}{r:TR}(ha:av (cr p,c)=1):Ef x (cr p,c) (jK (cr p,c) 2) r :=
 ⟨rfl,rfl,rfl,rfl,rfl,.inl ⟨rfl,.inr ⟨rfl,ha⟩,fun e=>absurd e (show ¬ (2:Int)=1 by decide)⟩⟩
theorem ze{p:TP}{c:_}{r:TR}{st:TSt}(h:gH r=some st)(h1:av (cr p,c)=1->st.1=c.1∧st.2.2.1=c.2.1∧st.2.1=2)(h2:av (cr p,c)=2->c.2.1≤st.2.2.2):Ef x (cr p,c) (jK (cr p,c) 1) r :=
 ⟨rfl,rfl,rfl,rfl,rfl,.inl ⟨rfl,.inl rfl,fun _=>⟨st,h,h1,h2⟩⟩⟩
theorem Ur{p:TP}{c:_}{r:TR}(n:Int)(ha:av (cr p,c)=1):Ef x (cr p,c) (kQ (sF (cr p,c) n)) r:=by
 unfold kQ;split
 ·exact⟨rfl,rfl,rfl,rfl,rfl,.inr ⟨show ¬ (4:Int)=0 by decide,rfl,.inl ⟨ha,(by decide:(1:Int)≤4),(by decide:(4:Int)≤4)⟩⟩⟩
 ·exact⟨rfl,rfl,rfl,rfl,rfl,.inr ⟨show ¬ (2:Int)=0 by decide,rfl,.inl ⟨ha,(by decide:(1:Int)≤2),(by decide:(2:Int)≤4)⟩⟩⟩
theorem Gh{p:TP}{c:_}{r:TR}{k:Int}(hk:1≤k∧k≤4)(ha:av (cr p,c)=1):Ef x (cr p,c) (jf (cr p,c) k) r:=by
 unfold jf;split
 ·exact⟨rfl,rfl,rfl,rfl,rfl,.inl ⟨rfl,.inr ⟨rfl,ha⟩,fun e=>absurd e (show ¬ (2:Int)=1 by decide)⟩⟩
 ·exact⟨rfl,rfl,rfl,rfl,rfl,.inr ⟨show ¬ k=0 by omega,rfl,.inl ⟨ha,hk⟩⟩⟩
theorem KC{p:TP}{c:_}{r:TR}(ha:ApT (av (cr p,c)) (atT (cr p,c))):Ef x (cr p,c) (gF (cr p,c) r) r:=by
 have own:∀st,nu st (cr p,c)=true->st.1=c.1∧st.2.2.1=c.2.1:=fun st h=>of_decide_eq_true h;rcases ha with ⟨e,k1,k2⟩ | ⟨e,k | k⟩ | ⟨e,k | k⟩
 ·have k:atT (cr p,c)=1∨atT (cr p,c)=2∨atT (cr p,c)=3∨atT (cr p,c)=4:=by omega
  have ne2:¬ av (cr p,c)=2:=by rw[e];decide
  rcases k with k | k | k | k
  ·rw[RE k]
   cases hr:gH r with
   | none=>exact abY e
   | some st =>
    dsimp only;split
    ·rename_i q
     exact ze hr (fun _=>⟨(own st q.1).1,(own st q.1).2,q.2⟩) (fun h=>absurd h ne2)
    ·split
     ·exact Ur 0 e
     ·exact Gh (by decide) e
  ·rw[RF k]
   split
   ·exact abY e
   ·exact vG (by decide) (.inl ⟨e,by decide,by decide⟩)
  ·rw[RG k]
   split
   ·exact Ur _ e
   ·exact Gh (by decide) e
  ·rw[RH k]
   cases hr:gH r with
   | none=>exact abY e
   | some st =>
    dsimp only;split
    ·rename_i q
     exact ze hr (fun _=>⟨(own st q.1).1,(own st q.1).2,q.2⟩) (fun h=>absurd h ne2)
    ·exact Gh (by decide) e
 ·have ne1:¬ av (cr p,c)=1:=by rw[e];decide
  rw[anQ k]
  cases hr:gH r with
  | none=>exact vG (by decide) (.inr (.inl ⟨e,.inr rfl⟩))
  | some st =>
   dsimp only;split
   ·rename_i q
    exact ze hr (fun h=>absurd h ne1) (fun _=>q)
   ·exact vG (by decide) (.inr (.inl ⟨e,.inl rfl⟩))
 ·have ne1:¬ av (cr p,c)=1:=by rw[e];decide
  rw[RI k,if_pos e]
  cases hr:gH r with
  | none=>exact vG (by decide) (.inr (.inl ⟨e,.inl rfl⟩))
  | some st =>
   dsimp only;split
   ·rename_i q
    exact ze hr (fun h=>absurd h ne1) (fun _=>q)
   ·exact vG (by decide) (.inr (.inl ⟨e,.inl rfl⟩))
 ·have ne1:¬ av (cr p,c)=1:=by rw[e];decide
  have ne2:¬ av (cr p,c)=2:=by rw[e];decide
  rw[anR k]
  cases hr:gH r with
  | none=>exact vG (by decide) (.inr (.inr ⟨e,.inr rfl⟩))
  | some st =>
   dsimp only;split
   ·exact vG (by decide) (.inr (.inr ⟨e,.inl rfl⟩))
   ·exact ze hr (fun h=>absurd h ne1) (fun h=>absurd h ne2)
 ·have ne1:¬ av (cr p,c)=1:=by rw[e];decide
  have ne2:¬ av (cr p,c)=2:=by rw[e];decide
  rw[RI k,if_neg ne2]
  cases hr:gH r with
  | none=>exact vG (by decide) (.inr (.inr ⟨e,.inl rfl⟩))
  | some st =>
   dsimp only;split
   ·exact vG (by decide) (.inr (.inr ⟨e,.inl rfl⟩))
   ·exact ze hr (fun h=>absurd h ne1) (fun h=>absurd h ne2)
structure Stp2(pl:List (List bn)) (x:Int) (t t':TTk) (f:List Int):Prop where
 mt:MT pl x t'
 gl:av t'=av t
 l:t'.1.2.1=t.1.2.1
 tm:t'.1.2.2.1=t.1.2.2.1
 f:f=[]∨atT t'≠0∧∃z,(0≤z∧z≤65535)∧f=jo t.1.2.1 9 z (fZ t')
theorem MT.same(h:MT pl x t):Stp2 pl x t t []:=⟨h,rfl,rfl,rfl,.inl rfl⟩
theorem MG.go(h:MG pl x t)(hw:t.1.2.2.2.2.1=false):Stp2 pl x t (dw t).1 (dw t).2∧iE (dw t).1=0∧atT (dw t).1≠0:=by
 obtain⟨z,hz,ef,hm,e2,el,em⟩:=h.send hw;have hr:fZ (dw t).1=fZ t:=by have:∀p q c,fZ (p,c)=fZ (q,c):=fun p q c=>rfl;exact (this (dw t).1.1 t.1 (dw t).1.2).trans (by rw[e2])
 refine⟨⟨hm,by unfold av;rw[e2],el,em,.inr ⟨?_,z,hz,by rw[hr];exact ef⟩⟩,?_,?_⟩
 ·unfold atT;rw[e2];exact h.g.1
 ·unfold iE;rw[e2];exact h.sd
 ·unfold atT;rw[e2];exact h.g.1
theorem MT.take(h:MT pl x t)(f:List Int):Stp2 pl x t (iH t f).1 (iH t f).2∧(iE (iH t f).1=1->iE t≠1->∃r st,kV t.1 f=some r∧gH r=some st∧(av t=1->st.1=7∧st.2.2.1=x∧st.2.1=2)∧(av t=2->x≤st.2.2.2)) ∧
  (atT (iH t f).1≠0->atT t≠0):=by
 cases hk:kV t.1 f with
 | none =>
  have e:iH t f=(t,[]):=by unfold iH;rw[hk]
  rw[e];exact⟨h.same,fun e n=>absurd e n,fun e=>e⟩
 | some r =>
  have h0:atT t≠0:=fun e=>by have:=(h.r e).1;unfold kV at hk;rw[this,if_neg (by decide)]at hk;cases hk
  obtain⟨hg,hw,_⟩:=h.w h0;have ef:Ef x (cr t.1,t.2) (gF (cr t.1,t.2) r) r:=KC hg.ap;have okd:=h.kt.drop;have oke:=okd.eff r;have e:iH t f=if atT (gF (cr t.1,t.2) r)=0 then (gF (cr t.1,t.2) r,[]) else dw (gF (cr t.1,t.2) r):=by unfold iH;rw[hk]
  have gx:atT (gF (cr t.1,t.2) r)≠0->goodX (gF (cr t.1,t.2) r):=fun e0=>Dj (t:=(cr t.1,t.2)) hg.g okd.at' e0;rw[e];clear e;generalize gF (cr t.1,t.2) r=t' at *;have ep:=ef.p;dsimp only at ep;have egl:av t'=av t:=ef.gl;have mk:(iE t'=2->av t=1)->MK pl x t':=fun hs=>⟨oke,ef.o.trans h.o,by rw[ep];exact h.u,ef.tx.trans h.tx,by rw[ef.bl,egl];exact h.bl,by rw[egl];exact h.gl,fun n e2=>n (egl.trans (hs e2)),fun z=>by rcases hg.ap with ⟨q,_⟩ | ⟨q,_⟩ | ⟨q,_⟩<;>rw[egl,q]at z<;>exact absurd z (by decide),fun n=>h.xp (by rw[<- egl];exact n)⟩;rcases ef.c with ⟨a0,s0,tr⟩ | ⟨a0,s0,ap⟩
  ·rw[if_pos a0]
   refine⟨⟨⟨mk (fun e2=>by rcases s0 with s | s;rw[s]at e2;exact absurd e2 (by decide);exact s.2),fun _=>⟨by rw[ep];rfl,fun _=>by rcases s0 with s | s;exact .inl s;exact .inr s.1⟩,fun n=>absurd a0 n,fun n=>absurd a0 n⟩,egl,by rw[ep];rfl,by rw[ep];rfl,.inl rfl⟩,fun e1 _=>?_,fun n=>absurd a0 n⟩;obtain⟨st,hst,q1,q2⟩:=tr e1;refine⟨r,st,rfl,hst,fun g1=>?_,fun g2=>?_⟩
   ·have:=q1 g1
    dsimp only at this;rw[h.o,h.tx]at this;exact this
   ·have:=q2 g2
    dsimp only at this;rw[h.tx]at this;exact this
  ·rw[if_neg a0]
   have es:iE t'=0:=s0.trans hg.sd;have mg:MG pl x t':=⟨mk (fun e2=>absurd (es.symm.trans e2) (by decide)),gx a0,by rw[egl];exact ap,es⟩;obtain⟨q1,q2,q3⟩:=mg.go (by rw[ep];rfl);refine⟨⟨q1.mt,q1.gl.trans egl,q1.l.trans (by rw[ep];rfl),q1.tm.trans (by rw[ep];rfl),?_⟩,fun e1=>absurd (q2.symm.trans e1) (by decide),fun _=>h0⟩;rcases q1.f with e | e
   ·exact .inl e
   ·refine .inr ⟨e.1,?_⟩
    have el:t'.1.2.1=t.1.2.1:=by rw[ep];rfl
    rw[<- el];exact e.2
theorem MT.tick(h:MT pl x t):Stp2 pl x t (jO t).1 (jO t).2∧OkW t.1∧(iE (jO t).1=1->iE t=1)∧(atT (jO t).1≠0->atT t≠0):=by
 by_cases h0:atT t=0
 ·have hw:=(h.r h0).1
  have e:jO t=(t,[]):=by
   have:jB t.1=(t.1,[],false):=by unfold jB;rw[if_neg (by rw[hw];decide)]
   unfold jO;rw[this,if_pos rfl]
  rw[e];exact⟨h.same,fun q=>absurd (hw.symm.trans q) (by decide),fun e=>e,fun e=>e⟩
 ·obtain⟨hg,hw,ha,hl,ht⟩:=h.w h0
  have hlt:=h.lt h0;have hr:=qY h.kt hg.g.good;have okw:OkW t.1:=fun _=>⟨by rw[ha];exact hr,hl.1,hl.2,ht.1,ht.2⟩;have hx:=nS t.1.2.1 h.kt.p.x0 h.kt.p.x1;have wait:∀{p:TP},OkP p->p.1=9->p.2.2.2.2.1=true->p.2.2.2.2.2.1=fZ t->(1≤p.2.2.2.2.2.2.2.1∧p.2.2.2.2.2.2.2.1≤100000)->(0≤p.2.2.2.2.2.2.2.2∧p.2.2.2.2.2.2.2.2≤1000)->p.2.2.2.2.2.2.2.1≤p.2.2.1->MT pl x (p,t.2):=fun hp hu a b c d e=>⟨h.toMK.poll hp hu,fun e=>absurd e h0,fun _=>⟨hg.poll hp hu,a,b,c,d⟩,fun _=>e⟩;by_cases e1:t.1.2.2.2.2.2.2.2.1=1
  ·by_cases e2:0<t.1.2.2.2.2.2.2.2.2
   ·have e:jO t=((mU (nK t.1 0 (t.1.2.2.2.2.2.2.2.2 - 1)),t.2),pE (nK t.1 0 (t.1.2.2.2.2.2.2.2.2 - 1))):=by
     have:jB t.1=(mU (nK t.1 0 (t.1.2.2.2.2.2.2.2.2 - 1)),pE (nK t.1 0 (t.1.2.2.2.2.2.2.2.2 - 1)),false):=by unfold jB;rw[if_pos hw,if_pos e1,if_pos e2]
     unfold jO;rw[this,if_pos rfl]
    rw[e];refine⟨⟨wait ⟨h.kt.p.u0,h.kt.p.u1,h.kt.p.l,h.kt.p.t0,h.kt.p.t1,h.kt.p.r0,h.kt.p.r1,h.kt.p.a,hx.1,hx.2⟩ h.u hw ha ⟨h.kt.p.t0,h.kt.p.t1⟩ ⟨by show 0≤t.1.2.2.2.2.2.2.2.2 - 1;omega,by show t.1.2.2.2.2.2.2.2.2 - 1≤1000;omega⟩ (Int.le_refl _),rfl,rfl,rfl,.inr ⟨h0,_,hx,?_⟩⟩,okw,fun e=>e,fun _=>h0⟩;show jo t.1.2.1 t.1.1 _ t.1.2.2.2.2.2.1=jo t.1.2.1 9 _ (fZ t);rw[h.u,ha];rfl
   ·have e:jB t.1=(cr t.1,[],true):=by unfold jB;rw[if_pos hw,if_pos e1,if_neg e2]
    have pd:=Sd h.kt.p;unfold jO;rw[e,if_neg (fun h=>by cases h)];by_cases g1:t.2.2.2.2.1=1
    ·rw[if_pos g1]
     have mk:=h.toMK.poll pd h.u;refine⟨⟨⟨⟨(mk.kt).end 2,h.o,h.u,h.tx,h.bl,h.gl,fun n=>absurd g1 n,fun z=>absurd (g1.symm.trans z) (by decide),h.xp⟩,fun _=>⟨rfl,fun _=>.inr rfl⟩,fun n=>absurd rfl n,fun n=>absurd rfl n⟩,rfl,rfl,rfl,.inl rfl⟩,okw,fun e=>absurd e (show ¬ (2:Int)=1 by decide),fun n=>absurd rfl n⟩
    ·rw[if_neg g1]
     have mg:MG pl x (cr t.1,t.2):=hg.poll pd h.u;obtain⟨q1,q2,q3⟩:=mg.go rfl;exact⟨⟨q1.mt,q1.gl,q1.l,q1.tm,q1.f⟩,okw,fun e=>absurd (q2.symm.trans e) (by decide),fun _=>h0⟩
  ·have e:jO t=((G7 t.1 (t.1.2.2.2.2.2.2.2.1 - 1),t.2),[]):=by
    have:jB t.1=(G7 t.1 (t.1.2.2.2.2.2.2.2.1 - 1),[],false):=by unfold jB;rw[if_pos hw,if_neg e1]
    unfold jO;rw[this,if_pos rfl]
   rw[e];exact⟨⟨wait ⟨h.kt.p.u0,h.kt.p.u1,h.kt.p.l,h.kt.p.t0,h.kt.p.t1,h.kt.p.r0,h.kt.p.r1,h.kt.p.a,h.kt.p.x0,h.kt.p.x1⟩ h.u hw ha ⟨by show 1≤t.1.2.2.2.2.2.2.2.1 - 1;omega,by show t.1.2.2.2.2.2.2.2.1 - 1≤100000;omega⟩ ht (by show t.1.2.2.2.2.2.2.2.1 - 1≤t.1.2.2.1;omega),rfl,rfl,rfl,.inl rfl⟩,okw,fun e=>e,fun _=>h0⟩
end
def CQ(x g la:Int)(gp:Prop)(v y:Int):Prop:=(1≤y∧y≤x)∧(v=3->y≤g∧(y≤la∨y=g))∧(v=4->y≠g)∧(gp->v=3∨v=4->y<x)
def ST(x:Int)(gp:Prop)(A:TAg)(st:TSt):Prop:=st.2.2.2≤A.2.2.2.2.1∧st.2.2.1≤x∧(gp->st.1=7->st.2.1=2->st.2.2.1=x->A.2.2.1=2∧A.2.2.2.1=x)
inductive MS(pl:List (List bn)) (x g l:Int) (gp:Prop) (A:TAg):Bool×List Int->Prop
 | req (z:Int) (a:TA) (hz:0≤z∧z≤65535) (h:RQ pl (CQ x g A.2.2.2.2.1 gp) a):MS pl x g l gp A (false,jo l 9 z a)
 | rep (z:Int) (r:TR) (hz:0≤z∧z≤65535) (h:Rep r) (hs:∀st,gH r=some st->ST x gp A st):MS pl x g l gp A (true,gB l 9 z r)
theorem MS.mono{pl:List (List bn)}{x g l x' g':Int}{gp gp':Prop}{A A':TAg}{m:Bool×List Int}(h:MS pl x g l gp A m)(hc:∀v y,CQ x g A.2.2.2.2.1 gp v y->CQ x' g' A'.2.2.2.2.1 gp' v y)(hs:∀st,ST x gp A st->ST x' gp' A' st):MS pl x' g' l gp' A' m:=by
 cases h with
 | req z a hz h=>exact .req z a hz (h.mono hc)
 | rep z r hz h h2=>exact .rep z r hz h (fun st e=>hs st (h2 st e))
structure PI(pl:List (List bn)) (x g:Int) (t:TTk) (s:TSl) (w:gK):Prop where
 mt:MT pl x t
 ks:OkS s
 u:s.1=9
 l:s.2.1=t.1.2.1
 x0:0≤x
 ag:AG pl x s.2.2.1
 lg:s.2.2.1.2.2.2.2.1≤g
 gx:g≤x
 g1:av t=1∨av t=3->g<x
 g2:av t=2->g=x
 gd:g≤s.2.2.1.2.2.2.2.1∨av t=2∧atT t≠0
 pr:av t=1->iE t=1->s.2.2.1.2.2.1=2∧s.2.2.1.2.2.2.1=x
 cm:av t=2->atT t≠0->s.2.2.1.2.2.1=2∧s.2.2.1.2.2.2.1=x∨s.2.2.1.2.2.2.2.1=x
 ms:∀m∈w,MS pl x g t.1.2.1 (av t=1) s.2.2.1 m
 wl:w.length≤12
section
variable {pl:List (List bn)}{x g:Int}{t:TTk}{s:TSl}{w:gK}
theorem PI.sub(h:PI pl x g t s w){w':gK}(hw:∀m∈w',m∈w)(hl:w'.length≤12):PI pl x g t s w':={ h with ms:=fun m hm=>h.ms m (hw m hm),wl:=hl }
theorem an5{w:gK}{b:Bool}{f:List Int}{m:Bool×List Int}(h:m∈iA w b f):m∈w∨m=(b,f)∧0<f.length:=by
 unfold iA at h;split at h
 ·rename_i q
  rcases List.mem_append.1 h with h | h
  ·exact .inl h
  ·exact .inr ⟨List.mem_singleton.1 h,q.1⟩
 ·exact .inl h
theorem an6{w:gK}{b:Bool}{f:List Int}(h:w.length≤12):(iA w b f).length≤12:=by
 unfold iA;split
 ·rename_i q
  rw[List.length_append];have:[(b,f)].length=1:=rfl;omega
 ·exact h
theorem PI.out(h:PI pl x g t s w){b:Bool}{f:List Int}(hm:0<f.length->MS pl x g t.1.2.1 (av t=1) s.2.2.1 (b,f)):PI pl x g t s (iA w b f) :=
 {h with
  ms:=fun m hm'=>by
   rcases an5 hm' with q | ⟨rfl,q⟩
   ·exact h.ms m q
   ·exact hm q
  wl:=an6 h.wl }
def Chg(pl:List (List bn))(g:Int)(a A:TAg):Prop:=A.1=a.1∧A.2.2.2.2.1=a.2.2.2.2.1∨A.2.2.2.2.1=g∧A.2.2.2.2.1≠a.2.2.2.2.1∧A.1=uo a.1 (fU pl g)
theorem PI.agent(h:PI pl x g t s w){s':TSl}(hs:OkS s')(hu:s'.1=s.1)(hl:s'.2.1=s.2.1)(ag:AG pl x s'.2.2.1)
  (bk:s'.2.2.1.1=s.2.2.1.1∧s'.2.2.1.2.2.2.2.1=s.2.2.1.2.2.2.2.1∨∃y,CQ x g s.2.2.1.2.2.2.2.1 (av t=1) 3 y∧s.2.2.1.2.2.1=2∧s.2.2.1.2.2.2.1=y∧s'.2.2.1.1=uo s.2.2.1.1 (fU pl y)∧s'.2.2.1.2.2.2.2.1=y)
  (st:s.2.2.1.2.2.1=2->s'.2.2.1.2.2.1=2∧s'.2.2.1.2.2.2.1=s.2.2.1.2.2.2.1∨CQ x g s.2.2.1.2.2.2.2.1 (av t=1) 3 s.2.2.1.2.2.2.1∧s'.2.2.1.2.2.2.2.1=s.2.2.1.2.2.2.1∨CQ x g s.2.2.1.2.2.2.2.1 (av t=1) 4 s.2.2.1.2.2.2.1∨∃y,s.2.2.1.2.2.2.1<y∧CQ x g s.2.2.1.2.2.2.2.1 (av t=1) 1 y) :
  PI pl x g t s' w∧Chg pl g s.2.2.1 s'.2.2.1:=by
 have chg:Chg pl g s.2.2.1 s'.2.2.1∧s.2.2.1.2.2.2.2.1≤s'.2.2.1.2.2.2.2.1:=by
  rcases bk with q | ⟨y,hc,p2,ty,q1,q2⟩
  ·exact⟨.inl q,by omega⟩
  ·have lt:=(h.ks.a.pn (by omega)).2.1
   have yg:y=g:=by have:=(hc.2.1 rfl).2;omega
   subst yg;exact⟨.inr ⟨q2,by omega,q1⟩,by omega⟩
 obtain⟨chg,le⟩:=chg;have lg':s'.2.2.1.2.2.2.2.1≤g:=by have:=h.lg;rcases chg with q | q<;>omega
 have keep:av t=1->s.2.2.1.2.2.1=2->s.2.2.1.2.2.2.1=x->s'.2.2.1.2.2.1=2∧s'.2.2.1.2.2.2.1=x:=fun gp p2 tx=>by
  rcases st p2 with q | ⟨q,_⟩ | q | ⟨y,q1,q2⟩
  ·exact⟨q.1,q.2.trans tx⟩
  ·have:=q.2.2.2 gp (.inl rfl);omega
  ·have:=q.2.2.2 gp (.inr rfl);omega
  ·have:=q2.1.2;omega
 refine⟨⟨h.mt,hs,hu.trans h.u,hl.trans h.l,h.x0,ag,lg',h.gx,h.g1,h.g2,?_,fun gp sd=>?_,fun g2 a0=>?_,fun m hm=>(h.ms m hm).mono (fun v y hc=>⟨hc.1,fun e=>?_,hc.2.2.1,hc.2.2.2⟩) (fun st' q=>⟨Int.le_trans q.1 le,q.2.1,fun gp a b c=>?_⟩),h.wl⟩,chg⟩
 ·rcases h.gd with q | q
  ·exact .inl (by omega)
  ·exact .inr q
 ·obtain⟨a,b⟩:=h.pr gp sd
  exact keep gp a b
 ·rcases h.cm g2 a0 with ⟨p2,tx⟩ | q
  ·rcases st p2 with q | ⟨q1,q2⟩ | q | ⟨y,q1,q2⟩
   ·exact .inl ⟨q.1,q.2.trans tx⟩
   ·exact .inr (q2.trans tx)
   ·have:=q.2.2.1 rfl
    exact absurd (tx.trans (h.g2 g2).symm) this
   ·have:=q2.1.2;omega
  ·have:=h.gx
   exact .inr (by omega)
 ·have:=hc.2.1 e
  refine⟨this.1,?_⟩;rcases this.2 with q | q
  ·exact .inl (by omega)
  ·exact .inr q
 ·obtain⟨p2,tx⟩:=q.2.2 gp a b c
  exact keep gp p2 tx
theorem PI.req(hp:jW pl)(hx:x≤4294967295)(h:PI pl x g t s w){z:Int}{a:TA}(hz:0≤z∧z≤65535)(rq:RQ pl (CQ x g s.2.2.1.2.2.2.2.1 (av t=1)) a) :
  pI s (jo t.1.2.1 9 z a)=((gu s a).1,gB t.1.2.1 9 z (gu s a).2)∧PI pl x g t (gu s a).1 (iA w true (gB t.1.2.1 9 z (gu s a).2))∧Chg pl g s.2.2.1 (gu s a).1.2.2.1:=by
 obtain⟨ha,hr⟩:=rq.ok hp hx (fun v y h=>h.1);have et:=Gd (s:=s) ha hr (by rw[h.u];decide) hz;rw[h.l,h.u]at et;have rp:=nT h.ks ha hr;obtain⟨A,e1,sv⟩:=aem hp hx (fun v y h=>h.1) h.ks h.ag rq;have hs':=tX h.ks ha hr;have hl:=Bd s a;have eA:(gu s a).1.2.2.1=A:=by rw[e1];rfl
 obtain⟨q1,q2⟩:=h.agent hs' hl.1 hl.2 (by rw[eA];exact sv.ag) (by rw[eA];exact sv.bk) (by rw[eA];exact sv.st);refine⟨et,q1.out (fun _=>.rep z _ hz rp (fun st hst=>?_)),q2⟩;have:=sv.rd st hst;rw[eA,this];exact⟨Int.le_refl _,sv.ag.t,fun _ _ a b=>⟨a,b⟩⟩
theorem PI.frame(h:PI pl x g t s w){f:List Int}(hf:f=[]∨atT t≠0∧∃z,(0≤z∧z≤65535)∧f=jo t.1.2.1 9 z (fZ t)):PI pl x g t s (iA w false f):=by
 refine h.out fun h0=>?_;rcases hf with e | ⟨a0,z,hz,e⟩
 ·rw[e]at h0
  exact absurd h0 (by decide)
 ·obtain⟨mg,_⟩:=h.mt.w a0
  have gx:=h.gx
  have x1:1≤x:=mg.xp (fun e=>by
   have:=mg.ap;unfold ApT at this
   omega)
  rw[e];refine .req z _ hz (mg.rq (fun e=>?_) (fun e=>?_) (fun e=>?_))
  ·exact⟨⟨⟨x1,Int.le_refl _⟩,fun e=>absurd e (by decide),fun e=>absurd e (by decide),fun _ e=>by omega⟩,⟨⟨x1,Int.le_refl _⟩,fun e=>absurd e (by decide),fun e=>absurd e (by decide),fun _ e=>by omega⟩,⟨⟨x1,Int.le_refl _⟩,fun e=>absurd e (by decide),fun e=>absurd e (by decide),fun _ e=>by omega⟩⟩
  ·have:=h.g2 e
   exact⟨⟨x1,Int.le_refl _⟩,fun _=>⟨by omega,.inr this.symm⟩,fun e=>absurd e (by decide),fun e2=>by omega⟩
  ·have:=h.g1 (.inr e)
   exact⟨⟨x1,Int.le_refl _⟩,fun e=>absurd e (by decide),fun _=>by omega,fun e2=>by omega⟩
theorem PI.master(h:PI pl x g t s w){t':TTk}{f:List Int}(st:Stp2 pl x t t' f)(pr:av t=1->iE t'=1->s.2.2.1.2.2.1=2∧s.2.2.1.2.2.2.1=x)(at0:atT t'≠0->atT t≠0)(gd:av t=2->atT t'=0->g≤s.2.2.1.2.2.2.2.1) :
  PI pl x g t' s (iA w false f):=by
 have h':PI pl x g t' s w:=⟨st.mt,h.ks,h.u,h.l.trans st.l.symm,h.x0,h.ag,h.lg,h.gx,by rw[st.gl];exact h.g1,by rw[st.gl];exact h.g2,by
  rw[st.gl];rcases h.gd with q | ⟨q,_⟩
  ·exact .inl q
  ·by_cases e:atT t'=0
   ·exact .inl (gd q e)
   ·exact .inr ⟨q,e⟩,by rw[st.gl];exact pr,fun g2 a0=>h.cm (st.gl.symm.trans g2) (at0 a0),fun m hm=>by
  have:=h.ms m hm;rw[<- st.gl,<- st.l]at this
  exact this,h.wl⟩
 exact h'.frame (by rw[st.l];exact st.f)
theorem Be{p:TP}{z:Int}{r r':TR}(hr:Rep r)(hu:p.1=9)(hz:0≤z∧z≤65535)(h:kV p (gB p.2.1 9 z r)=some r'):r'=r:=by
 have hlen:=qW hr.rr;have hpr:=yI hr.ok hr.rr hr.rt;have h9:(0:Int)≤9:=by decide
 unfold kV at h;split at h
 ·have:qx p (gB p.2.1 9 z r)=none∨qx p (gB p.2.1 9 z r)=some r:=by
   unfold qx gB;by_cases h2:p.2.1=2
   ·simp only[if_pos h2]
    unfold AQ;rw[Di (by omega) hlen.2 hz.1 hz.2 (by decide) (by decide) (qy hr.rr)];dsimp only;rw[hpr]
    repeat' split
    all_goals first | exact .inl rfl | exact .inr rfl
   ·simp only[if_neg h2]
    unfold yH;rw[Hu (by omega) hlen.2 (by decide) (by decide)];dsimp only;rw[hpr]
    repeat' split
    all_goals first | exact .inl rfl | exact .inr rfl
  rcases this with e | e
  ·rw[e]at h
   cases h
  ·rw[e,zD]at h
   split at h
   ·exact (Option.some.inj h).symm
   ·cases h
 ·cases h
theorem PI.rep(h:PI pl x g t s w){z:Int}{r:TR}(hz:0≤z∧z≤65535)(hr:Rep r)(hs:∀st,gH r=some st->ST x (av t=1) s.2.2.1 st) :
  PI pl x g (iH t (gB t.1.2.1 9 z r)).1 s (iA w false (iH t (gB t.1.2.1 9 z r)).2):=by
 obtain⟨q1,q2,q3⟩:=h.mt.take (gB t.1.2.1 9 z r);have tr:iE (iH t (gB t.1.2.1 9 z r)).1=1->iE t≠1->∃st,ST x (av t=1) s.2.2.1 st∧(av t=1->st.1=7∧st.2.2.1=x∧st.2.1=2)∧(av t=2->x≤st.2.2.2):=fun e n=>by obtain⟨r',st,e1,e2,e3,e4⟩:=q2 e n;have:=Be hr h.mt.u hz e1;subst this;exact⟨st,hs st e2,e3,e4⟩
 refine h.master q1 (fun gp sd=>?_) q3 (fun g2 a0=>?_)
 ·by_cases e:iE t=1
  ·exact h.pr gp e
  ·obtain⟨st,s1,s2,_⟩:=tr sd e
   obtain⟨a,b,c⟩:=s2 gp;exact s1.2.2 gp a c b
 ·rcases h.gd with q | ⟨_,q⟩
  ·exact q
  ·have sd:iE (iH t (gB t.1.2.1 9 z r)).1=1:=by
    have hne:av (iH t (gB t.1.2.1 9 z r)).1≠0:=by rw[q1.gl,g2];decide
    rcases (q1.mt.r a0).2 hne with e | e
    ·exact e
    ·exact absurd e (q1.mt.sn (by rw[q1.gl,g2];decide))
   have s0:=(h.mt.w q).1.sd;obtain⟨st,s1,_,s3⟩:=tr sd (by rw[s0];decide);have:=s3 g2;have:=s1.1;have:=h.gx;omega
theorem PI.tick(h:PI pl x g t s w):OkW t.1∧PI pl x g (jO t).1 s (iA w false (jO t).2):=by
 obtain⟨q1,ok,q2,q3⟩:=h.mt.tick;refine⟨ok,h.master q1 (fun gp sd=>h.pr gp (q2 sd)) q3 (fun g2 a0=>?_)⟩;rcases h.gd with q | ⟨_,q⟩
 ·exact q
 ·have s0:=(h.mt.w q).1.sd
  have hne:av (jO t).1≠0:=by rw[q1.gl,g2];decide
  rcases (q1.mt.r a0).2 hne with e | e
  ·exact absurd (s0.symm.trans (q2 e)) (by decide)
  ·exact absurd e (q1.mt.sn (by rw[q1.gl,g2];decide))
theorem PI.stick(h:PI pl x g t s w):PI pl x g t (Eo s) w∧Chg pl g s.2.2.1 (Eo s).2.2.1:=by
 have hs:=anM h.ks;have go:=h.ag.own;have e:(Eo s).2.2.1=tickA (fQ s.2.2.1):=rfl
 have ag:AG pl x (Eo s).2.2.1:=by
  rw[e];unfold tickA;split
  ·exact AG.free h.x0 _
  ·refine⟨?_,go.t,go.s,go.p⟩
   show (sD _).1.1=0∨(sD _).1.1=7;unfold sD;split
   ·exact go.o
   ·split
    ·exact .inl rfl
    ·exact go.o
 refine h.agent hs rfl rfl ag (.inl ?_) (fun p2=>.inl ?_)
 ·rw[e]
  unfold tickA;split<;>exact⟨rfl,rfl⟩
 ·have hl:=(h.ks.a.p2 p2).1
  have:sD (fQ s.2.2.1).2.1=((fQ s.2.2.1).2.1,false):=by unfold sD;exact if_pos (.inr hl)
  rw[e];unfold tickA;rw[this,if_neg (by simp)];exact⟨p2,rfl⟩
theorem PI.boot(h:PI pl x g t s w):PI pl x g t (Ep s) w∧Chg pl g s.2.2.1 (Ep s).2.2.1:=by
 have hs:=anN h.ks;have e:(Ep s).2.2.1=bootA (fQ s.2.2.1):=rfl
 have ag:AG pl x (Ep s).2.2.1:=by
  rw[e];unfold bootA;split
  ·exact AG.free h.x0 _
  ·exact h.ag.own
 refine h.agent hs rfl rfl ag (.inl ?_) (fun p2=>.inl ?_)
 ·rw[e]
  unfold bootA;split<;>exact⟨rfl,rfl⟩
 ·rw[e]
  unfold bootA;rw[if_neg (by show ¬ s.2.2.1.2.2.1=1;omega)];exact⟨p2,rfl⟩
end
section
variable {pl:List (List bn)}{x g:Int}{t:TTk}{s:TSl}{w:gK}
theorem HY(h:MT pl x t)(alt:Bool):qA alt t x=none∨qA alt t x=some (2,x)∧av t=1∧iE t=1∨qA alt t x=some (3,x)∧av t=1∨qA alt t x=some (1,x+1)∧av t≠1∧atT t=0:=by
 unfold qA;split
 ·rename_i q
  exact .inr (.inl ⟨rfl,q.1,q.2.1⟩)
 split
 ·rename_i q
  exact .inr (.inr (.inl ⟨rfl,q.1⟩))
 split
 ·exact .inl rfl
 ·rename_i q1 q2 q3
  have a0:atT t=0:=Decidable.byContradiction fun n=>by obtain⟨mg,_⟩:=h.w n;have hs:=mg.sd;have ha:=mg.ap;unfold ApT at ha;exact q3 ⟨by show av t≠0;omega,hs⟩
  refine .inr (.inr (.inr ⟨rfl,fun e=>?_,a0⟩));rcases (h.r a0).2 (by rw[e];decide) with hs | hs
  ·cases alt with
   | true=>exact q2 ⟨e,.inl rfl⟩
   | false=>exact q1 ⟨e,hs,rfl⟩
  ·exact q2 ⟨e,.inr hs⟩
theorem Gi(hp:jW pl)(h:MT pl x t){k y:Int}(hk:1≤k∧k≤3)(hy:1≤y∧y≤4294967295):MG pl y (iG t k y (fU pl y)):=by
 have hl:=(hp y).1;have hfit:o7 (fU pl y)=true:=Dn (by omega) (fun b hb=>((hp y).2 b hb).1);have hc:k=1∨k=2∨k=3:=by omega
 refine⟨⟨Dh h.kt (by omega) (fun _=>hfit) (fun b hb=>((hp y).2 b hb).2.2),h.o,h.u,rfl,rfl,⟨by show 0≤k;omega,hk.2⟩,fun _=>by show ¬ (0:Int)=2;decide,fun e=>by have e:k=0:=e;omega,fun _=>hy.1⟩,?_,?_,rfl⟩
 ·have e:(iG t k y (fU pl y)).2.2.2.2.2.1=firstT k:=rfl
  unfold goodX;rw[e];rcases hc with rfl | rfl | rfl<;>exact⟨by decide,fun h=>absurd h (by decide)⟩
 ·rcases hc with rfl | rfl | rfl
  ·exact .inl ⟨rfl,(by decide:(1:Int)≤1),(by decide:(1:Int)≤4)⟩
  ·exact .inr (.inl ⟨rfl,.inl rfl⟩)
  ·exact .inr (.inr ⟨rfl,.inl rfl⟩)
theorem an7(hp:jW pl)(h:PI pl x g t s w){k y:Int}(hk:1≤k∧k≤3)(hy:1≤y∧y≤4294967295):kH t k y (fU pl y)=((dw (iG t k y (fU pl y))).1,(dw (iG t k y (fU pl y))).2,0):=by have hl:=(hp y).1;have hfit:o7 (fU pl y)=true:=Dn (by omega) (fun b hb=>((hp y).2 b hb).1);exact (RZ h.mt.kt h.ks (h.u.trans h.mt.u.symm) h.l hk hy (fun _=>hfit) (fun b hb=>((hp y).2 b hb).2.2)).1
theorem PI.begin(hp:jW pl)(hx:x≤1000000)(h:PI pl x g t s w)(alt:Bool):∃x' g' t' w',xq alt t s x g pl w=(true,t',s,x',g',pl,w',())∧PI pl x' g' t' s w'∧x'≤x+1∧x≤x'∧∀k y,qA alt t x=some (k,y)->av t'=k∧x'=y:=by
 have go:∀{k y:Int},qA alt t x=some (k,y)->1≤k∧k≤3->1≤y∧y≤4294967295->xq alt t s x g pl w=(true,(dw (iG t k y (fU pl y))).1,s,y,if k=2 then y else g,pl,iA w false (dw (iG t k y (fU pl y))).2,()):=fun hk h3 hy=>by unfold xq;rw[hk];dsimp only;rw[an7 hp h h3 hy];rfl
 rcases HY h.mt alt with e | ⟨e,g1,s1⟩ | ⟨e,g1⟩ | ⟨e,g1,a0⟩
 ·refine⟨x,g,t,w,?_,h,by omega,Int.le_refl _,fun k y q=>by rw[e]at q;cases q⟩
  unfold xq;rw[e]
 ·have x1:=h.mt.xp (by rw[g1];decide)
  have hy:1≤x∧x≤4294967295:=by omega
  obtain⟨q1,q2,q3⟩:=(Gi hp h.mt (k:=2) (by decide) hy).go rfl;have gx:=h.g1 (.inl g1);have lg:=h.lg
  have gla:g≤s.2.2.1.2.2.2.2.1:=by
   rcases h.gd with q | q
   ·exact q
   ·omega
  refine⟨_,_,_,_,go e (by decide) hy,?_,by omega,Int.le_refl _,fun k y q=>by rw[e]at q;cases q;exact⟨q1.gl,rfl⟩⟩;rw[if_pos rfl];have gl:av (dw (iG t 2 x (fU pl x))).1=2:=q1.gl
  have h':PI pl x x (dw (iG t 2 x (fU pl x))).1 s w:=⟨q1.mt,h.ks,h.u,h.l.trans q1.l.symm,h.x0,h.ag,by omega,Int.le_refl _,fun e=>by omega,fun _=>rfl,.inr ⟨gl,q3⟩,fun e=>by omega,fun _ _=>.inl (h.pr g1 s1),fun m hm=>by
   rw[q1.l];refine (h.ms m hm).mono (fun v y hc=>⟨hc.1,fun e3=>?_,fun e4=>?_,fun e=>absurd (gl.symm.trans e) (by decide)⟩) (fun st q=>⟨q.1,q.2.1,fun e=>absurd (gl.symm.trans e) (by decide)⟩)
   ·have:=hc.2.1 e3
    exact⟨by omega,.inl (by omega)⟩
   ·have:=hc.2.2.2 g1 (.inr e4)
    omega,h.wl⟩
  exact h'.frame (by rw[q1.l];exact q1.f)
 ·have x1:=h.mt.xp (by rw[g1];decide)
  have hy:1≤x∧x≤4294967295:=by omega
  obtain⟨q1,q2,q3⟩:=(Gi hp h.mt (k:=3) (by decide) hy).go rfl;have gx:=h.g1 (.inl g1)
  have gla:g≤s.2.2.1.2.2.2.2.1:=by
   rcases h.gd with q | q
   ·exact q
   ·omega
  refine⟨_,_,_,_,go e (by decide) hy,?_,by omega,Int.le_refl _,fun k y q=>by rw[e]at q;cases q;exact⟨q1.gl,rfl⟩⟩;rw[if_neg (by decide)];have gl:av (dw (iG t 3 x (fU pl x))).1=3:=q1.gl
  have h':PI pl x g (dw (iG t 3 x (fU pl x))).1 s w:=⟨q1.mt,h.ks,h.u,h.l.trans q1.l.symm,h.x0,h.ag,h.lg,h.gx,fun _=>gx,fun e=>by omega,.inl gla,fun e=>by omega,fun e=>by omega,fun m hm=>by
   rw[q1.l]
   exact (h.ms m hm).mono (fun v y hc=>⟨hc.1,hc.2.1,hc.2.2.1,fun e=>absurd (gl.symm.trans e) (by decide)⟩) (fun st q=>⟨q.1,q.2.1,fun e=>absurd (gl.symm.trans e) (by decide)⟩),h.wl⟩
  exact h'.frame (by rw[q1.l];exact q1.f)
 ·have x0:=h.x0
  have hy:1≤x+1∧x+1≤4294967295:=by omega
  obtain⟨q1,q2,q3⟩:=(Gi hp h.mt (k:=1) (by decide) hy).go rfl;have gx:=h.gx
  have gla:g≤s.2.2.1.2.2.2.2.1:=by
   rcases h.gd with q | q
   ·exact q
   ·exact absurd a0 q.2
  refine⟨_,_,_,_,go e (by decide) hy,?_,Int.le_refl _,by omega,fun k y q=>by rw[e]at q;cases q;exact⟨q1.gl,rfl⟩⟩;rw[if_neg (by decide)];have gl:av (dw (iG t 1 (x+1) (fU pl (x+1)))).1=1:=q1.gl
  have h':PI pl (x+1) g (dw (iG t 1 (x+1) (fU pl (x+1)))).1 s w:=⟨q1.mt,h.ks,h.u,h.l.trans q1.l.symm,by omega,h.ag.mono (by omega),h.lg,by omega,fun _=>by omega,fun e=>by omega,.inl gla,fun _ e=>absurd (q2.symm.trans e) (by decide),fun e=>by omega,fun m hm=>by
   rw[q1.l]
   refine (h.ms m hm).mono (fun v y hc=>⟨⟨hc.1.1,by have:=hc.1.2;omega⟩,hc.2.1,hc.2.2.1,fun _ _=>by have:=hc.1.2;omega⟩) (fun st q=>⟨q.1,by have:=q.2.1;omega,fun _ _ _ e=>by have:=q.2.1;omega⟩),h.wl⟩
  exact h'.frame (by rw[q1.l];exact q1.f)
end
end Go.Proofs.Lx
end
noncomputable section
namespace Pl
open Go Ev Sx
theorem KD{σ R β:Type}{F:(σ->Option R)->σ->Option R}{mk:Nat->β->σ}{N:Nat}{Inv:Nat->β->Prop}{Q:Option R->Prop}
  (hs:∀self i b,i<N->Inv i b->∃b',Inv (i+1) b'∧F self (mk i b)=self (mk (i+1) b')) (he:∀self b,Inv N b->Q (F self (mk N b))) :
  ∀(k i:Nat) (b:β) (n:Nat),i+k=N->k<n->Inv i b->Q (cu F n (mk i b))
 | _,_,_,0,_,h,_=>by omega
 | 0,i,b,n+1,h,_,hI=>by
  have:i=N:=by omega
  subst this;rw[nH];exact he _ _ hI
 | k+1,i,b,n+1,h,hn,hI=>by obtain⟨b',h1,h2⟩:=hs (cu F n) i b (by omega) hI;rw[nH,h2];exact KD hs he k (i+1) b' n (by omega) (by omega) h1
def tN(s:Nat):Nat:=s / 2 ^^^ (if s%2=1 then 40961 else 0)
theorem HZ{a b:Nat}(h:a ^^^ b=0):a=b:=by
 have:a ^^^ (b ^^^ b)=b:=by rw[<- Nat.xor_assoc,h,Nat.zero_xor]
 rwa[Nat.xor_self,Nat.xor_zero]at this
theorem avq(a b:Nat):tN (a ^^^ b)=tN a ^^^ tN b:=by
 unfold tN;have hm:(a ^^^ b)%2=(a+b)%2:=by have h1:=Nat.testBit_xor a b 0;rw[Nat.testBit_zero,Nat.testBit_zero,Nat.testBit_zero]at h1;rcases Nat.mod_two_eq_zero_or_one a with ha | ha<;>rcases Nat.mod_two_eq_zero_or_one b with hb | hb<;>rcases Nat.mod_two_eq_zero_or_one (a ^^^ b) with hx | hx<;>rw[ha,hb,hx]at h1<;>first | exact absurd h1 (by decide) | omega
 rw[Nat.xor_div_two,hm];rcases Nat.mod_two_eq_zero_or_one a with ha | ha<;>rcases Nat.mod_two_eq_zero_or_one b with hb | hb
 ·have:(a+b)%2=0:=by omega
  rw[this,ha,hb];simp
 ·have:(a+b)%2=1:=by omega
  rw[this,ha,hb];simp[Nat.xor_assoc]
 ·have:(a+b)%2=1:=by omega
  rw[this,ha,hb];simp only[if_true,Nat.zero_ne_one,if_false,Nat.xor_zero];rw[Nat.xor_assoc,Nat.xor_comm (b / 2),<- Nat.xor_assoc]
 ·have:(a+b)%2=0:=by omega
  rw[this,ha,hb];simp only[if_true];have:a / 2 ^^^ 40961 ^^^ (b / 2 ^^^ 40961)=a / 2 ^^^ b / 2 ^^^ (40961 ^^^ 40961):=by rw[Nat.xor_assoc,Nat.xor_assoc,<- Nat.xor_assoc 40961,Nat.xor_comm 40961 (b / 2),Nat.xor_assoc (b / 2)]
  rw[this,Nat.xor_self];simp
theorem arf{s:Nat}(h:s<65536):tN s<65536:=by
 unfold tN;have:(65536:Nat)=2 ^ 16:=by decide
 rw[this];apply Nat.xor_lt_two_pow
 ·omega
 ·split<;>decide
theorem avr{s:Nat}(h:s<65536)(e:tN s=0):s=0:=by unfold tN at e;have:=HZ e;split at this<;>omega
theorem avs(m:Nat):tN (2*m)=m:=by
 unfold tN;have h1:2*m%2=0:=by omega
 have h2:2*m / 2=m:=by omega
 rw[h1,h2];simp
def tP:Nat->Nat->Nat
 | 0,s=>s
 | k+1,s=>tP k (tN s)
theorem Dp:∀(k a b:Nat),tP k (a ^^^ b)=tP k a ^^^ tP k b
 | 0,_,_=>rfl
 | k+1,a,b=>by show tP k (tN (a ^^^ b))=_;rw[avq,Dp k];rfl
theorem Dq:∀(m n s:Nat),tP (m+n) s=tP n (tP m s)
 | 0,n,s=>by rw[Nat.zero_add];rfl
 | m+1,n,s=>by rw[Nat.add_right_comm];exact Dq m n (tN s)
theorem KE:∀k,tP k 0=0
 | 0=>rfl
 | k+1=>KE k
theorem aen:∀{k s:Nat},s<65536->tP k s=0->s=0
 | 0,_,_,e=>e
 | k+1,s,h,e=>avr h (aen (k:=k) (s:=tN s) (arf h) e)
theorem Mw:∀{k s:Nat},s<65536->tP k s<65536
 | 0,_,h=>h
 | k+1,s,h=>Mw (k:=k) (s:=tN s) (arf h)
theorem H6:∀(j m:Nat),tP j (2 ^ j*m)=m
 | 0,m=>by simp[tP]
 | j+1,m=>by
  show tP j (tN (2 ^ (j+1)*m))=m;have:2 ^ (j+1)*m=2*(2 ^ j*m):=by rw[Nat.pow_succ,Nat.mul_comm (2 ^ j) 2,Nat.mul_assoc]
  rw[this,avs,H6 j m]
theorem arh{a b k:Nat}(h:b<2 ^ k):2 ^ k*a+b=2 ^ k*a ^^^ b:=by
 apply Nat.eq_of_testBit_eq;intro i;have e0:=Nat.testBit_two_pow_mul_add a (b:=0) (i:=k) (Nat.two_pow_pos k) i;rw[Nat.add_zero]at e0;rw[Nat.testBit_two_pow_mul_add a h,Nat.testBit_xor,e0];by_cases hi:i<k
 ·rw[if_pos hi,if_pos hi];simp
 ·rw[if_neg hi,if_neg hi]
  have:b.testBit i=false:=Nat.testBit_lt_two_pow (Nat.lt_of_lt_of_le h (Nat.pow_le_pow_right (by decide) (by omega)));rw[this];simp
def abZ(s c:Nat):Nat:=tP 8 (s ^^^ c)
def jk(s:Nat)(xs:List Nat):Nat:=xs.foldl abZ s
theorem Se:∀(xs:List Nat) (s e:Nat),jk (s ^^^ e) xs=jk s xs ^^^ tP (8*xs.length) e
 | [],s,e=>rfl
 | c::r,s,e=>by
  show jk (tP 8 (s ^^^ e ^^^ c)) r=jk (tP 8 (s ^^^ c)) r ^^^ _;have:s ^^^ e ^^^ c=s ^^^ c ^^^ e:=by rw[Nat.xor_assoc,Nat.xor_comm e c,<- Nat.xor_assoc]
  rw[this,Dp,Se r,<- Dq,List.length_cons]
  congr 2
  omega
theorem aeo(pre post:List Nat)(s c d:Nat):jk s (pre++(c ^^^ d)::post)=jk s (pre++c::post) ^^^ tP (8*(post.length+1)) d:=by
 unfold jk;rw[List.foldl_append,List.foldl_append];show jk (tP 8 (_ ^^^ (c ^^^ d))) post=jk (tP 8 (_ ^^^ c)) post ^^^ _;rw[<- Nat.xor_assoc,Dp,Se,<- Dq]
 congr 2
 omega
theorem aep{n m:Nat}(hn:n<65536)(hm:m<65536):iU .u16 (n:Int) (m:Int)=((n ^^^ m:Nat):Int):=by
 unfold iU;rw[CS]
 have e1:(BitVec.ofInt IntKind.u16.bits (n:Int)).toNat=n:=by
  rw[BitVec.toNat_ofInt];have:((2 ^ IntKind.u16.bits:Nat):Int)=65536:=by decide
  rw[this];omega
 have e2:(BitVec.ofInt IntKind.u16.bits (m:Int)).toNat=m:=by
  rw[BitVec.toNat_ofInt];have:((2 ^ IntKind.u16.bits:Nat):Int)=65536:=by decide
  rw[this];omega
 rw[BitVec.toNat_xor,e1,e2];have:n ^^^ m<2 ^ 16:=Nat.xor_lt_two_pow (by omega) (by omega);omega
theorem aDO{n m:Nat}(hn:n<256)(hm:m<256):iU .u8 (n:Int) (m:Int)=((n ^^^ m:Nat):Int):=by
 unfold iU;rw[wr8]
 have e1:(BitVec.ofInt IntKind.u8.bits (n:Int)).toNat=n:=by
  rw[BitVec.toNat_ofInt];have:((2 ^ IntKind.u8.bits:Nat):Int)=256:=by decide
  rw[this];omega
 have e2:(BitVec.ofInt IntKind.u8.bits (m:Int)).toNat=m:=by
  rw[BitVec.toNat_ofInt];have:((2 ^ IntKind.u8.bits:Nat):Int)=256:=by decide
  rw[this];omega
 rw[BitVec.toNat_xor,e1,e2];have:n ^^^ m<2 ^ 8:=Nat.xor_lt_two_pow (by omega) (by omega);omega
theorem ab0{n:Nat}(hn:n<65536):lW .u16 (n:Int) 15=((n%16:Nat):Int):=by
 unfold lW;rw[CS]
 have e1:(BitVec.ofInt IntKind.u16.bits (n:Int)).toNat=n:=by
  rw[BitVec.toNat_ofInt];have:((2 ^ IntKind.u16.bits:Nat):Int)=65536:=by decide
  rw[this];omega
 have e2:(BitVec.ofInt IntKind.u16.bits 15).toNat=2 ^ 4 - 1:=by decide
 rw[BitVec.toNat_and,e1,e2,Nat.and_two_pow_sub_one_eq_mod];omega
end Pl
namespace Go.Proofs.Lx
open Go Ev Sx Pl
set_option maxRecDepth 100000
theorem avt:∀i:Fin 16,tab (i.1:Int)=((tP 4 i.1:Nat):Int):=by decide +kernel
theorem aer{s:Nat}(h:s<65536):nib (s:Int)=((tP 4 s:Nat):Int):=by
 unfold nib;have ht:=avt ⟨s%16,Nat.mod_lt _ (by decide)⟩;dsimp only at ht;have e1:(s:Int) / 16=((s / 16:Nat):Int):=by omega
 rw[ab0 h,ht,aFV _ _ (by decide),e1,aep (by omega) (Mw (by omega))]
 have e2:tP 4 s=s / 16 ^^^ tP 4 (s%16):=by
  have e:s=2 ^ 4*(s / 16)+s%16:=by omega
  have hx:=arh (a:=s / 16) (b:=s%16) (k:=4) (by omega);rw[<- e]at hx
  conv=>lhs;rw[hx]
  rw[Dp,H6]
 rw[e2]
theorem an8{s c:Nat}(hs:s<65536)(hc:c<256):uj (s:Int) (c:Int)=((abZ s c:Nat):Int):=by
 unfold uj abZ
 have h1:s ^^^ c<65536:=by
  have:(65536:Nat)=2 ^ 16:=by decide
  rw[this];exact Nat.xor_lt_two_pow (by omega) (by omega)
 have ec:cvt .u16 (c:Int)=(c:Int):=by rw[AF];omega
 rw[ec,aep hs (by omega),aer h1,aer (Mw h1),<- Dq]
abbrev nat(xs:List Int):List Nat:=xs.map zI
abbrev Byt(xs:List Int):Prop:=∀x∈xs,0≤x∧x≤255
theorem Byt.nat{xs:List Int}(h:Byt xs):∀x∈nat xs,x<256:=by intro x hx;obtain⟨y,hy,rfl⟩:=List.mem_map.1 hx;have:=h y hy;omega
theorem an9{xs:List Int}(h:Byt xs):qE xs=((jk 65535 (nat xs):Nat):Int):=by
 have key:∀(xs:List Int) (s:Nat),s<65536->Byt xs->xs.foldl uj (s:Int)=((jk s (nat xs):Nat):Int):=by
  intro xs
  induction xs with
  | nil=>exact fun s _ _=>rfl
  | cons c r ih =>
   intro s hs hb;have hc:=hb c (by simp);obtain⟨n,rfl⟩:=zN hc.1;rw[List.foldl_cons,an8 hs (by omega)];refine ih _ (Mw ?_) (fun x h=>hb x (zT _ h));have e:(65536:Nat)=2 ^ 16:=by decide
   rw[e];exact Nat.xor_lt_two_pow (by omega) (by omega)
 exact key xs 65535 (by decide) h
theorem aes{m:List Int}(hb:Byt m)(hl:2≤m.length)(h:qE (m.take (m.length - 2))=iX (m.getD (m.length - 1) 0) (m.getD (m.length - 2) 0)):jk 65535 (nat m)=0:=by
 have g1:m.length - 2<m.length:=by omega
 have g2:m.length - 2+1<m.length:=by omega
 have e:m=m.take (m.length - 2)++[m[m.length - 2],m[m.length - 2+1]]:=by
  conv=>lhs;rw[<- List.take_append_drop (m.length - 2) m]
  congr 1
  rw[List.drop_eq_getElem_cons g1,List.drop_eq_getElem_cons g2,List.drop_of_length_le (by omega)]
 have hlo:=hb _ (List.getElem_mem g1);have hhi:=hb _ (List.getElem_mem g2);have d1:m.getD (m.length - 2) 0=m[m.length - 2]:=by rw[zX,zV g1];rfl
 have d2:m.getD (m.length - 1) 0=m[m.length - 2+1]:=by
  have:m.length - 1=m.length - 2+1:=by omega
  rw[this,zX,zV g2];rfl
 rw[d1,d2,D9 hhi.1 hhi.2 hlo.1 hlo.2,an9 (fun x hx=>hb x (List.mem_of_mem_take hx))]at h;rw[e];generalize m[m.length - 2]=lo at *;generalize m[m.length - 2+1]=hi at *;obtain⟨l,rfl⟩:=zN hlo.1;obtain⟨k,rfl⟩:=zN hhi.1;have hs:jk 65535 (nat (m.take (m.length - 2)))=2 ^ 8*k+l:=by omega
 unfold nat at hs ⊢;rw[List.map_append];unfold jk at hs ⊢;rw[List.foldl_append,hs];show tP 8 (tP 8 ((2 ^ 8*k+l) ^^^ l) ^^^ k)=0;rw[arh (by omega:l<2 ^ 8),Nat.xor_assoc,Nat.xor_self,Nat.xor_zero,H6,Nat.xor_self,KE]
end Go.Proofs.Lx
end
noncomputable section
open Go Go.Proofs Ev Sx
set_option maxRecDepth 100000
namespace Go.Proofs.Lx
abbrev gQ:Ty:=(.pr bK (.pr (.int .u8) (.pr (.int .u32) (.pr (.int .u32) (.pr (.pr (.int .u32) (.pr (.ar 8 .bool) (.ar 8 dY))) (.int .i64))))))
abbrev oC:Ty:=bC
abbrev oD:Type:=((Int×Int×Int×Int×Bool×(Int×Int×Int×Int×List Int×List Bool)×Int×Int×Int)×Int×Int×List (Int×List Int)×Int×Int×Int×Int×Int)
abbrev kX:Ty:=(.sl dY)
abbrev oF:Ty:=(.pr (.int .u16) (.pr (.int .u32) (.pr kX cJ)))
abbrev ari:Type:=(Int×List Bool×List (Int×List Int))
abbrev aDP:Type:=(List Int×(Int×Int)×Int×Int×Int×ari×Int)
abbrev kR:Ty:=(.pr .bool aL)
abbrev lU:Type:=Int×Int×aDP×List Bool
abbrev mY:Type:=List Int×(Int×Int)×Int×Int×Int×ari×Int
@[reducible] def cV:List Ty:=[.sl (.int .u8),.bool]
@[reducible] def ab1:Sh:=⟨[.d aL,.d (.int .i64),.d (.int .u16)],[],[.sl (.int .u8),.int .i64,.int .u16],[.d aL,.d (.bool)],[],0,cV⟩
def aoa:Env:=(cts [])
def aob:List (Nat×Hint):=[(15,⟨[],[8,9]⟩),(122,⟨[],[1,2,8,9,15,27,28,31,32,33,34,35]⟩),(15667,⟨[.agd 31 (.int .i64),.agd 33 (.int .i64),.agd 34 (.int .i64),.agd 35 .bool,.agd 27 (.int .i64),.agd 28 .bool],[1,2,8,9,11,15,36]⟩)]
def KF(at' pattern:Int)(any:Bool)(t15:Int)(out:List Int):St:=⟨[(1,dI at'),(2,d6 pattern),(8,.row 0),(9,dB any),(15,dI t15)],50,[],[(0,.row (.int .u8) 5 out)],1,[],0⟩
def aoc(at' pattern:Int)(any:Bool)(i t15:Int)(t36:Bool)(out:List Int):St:=⟨[(1,dI at'),(2,d6 pattern),(8,.row 0),(9,dB any),(11,dI i),(15,dI t15),(36,dB t36)],50,[],[(0,.row (.int .u8) 5 out)],1,[],0⟩
def aod(any:Bool)(out:List Int):St:=⟨[(8,.row 0),(9,dB any)],50,[],[(0,.row (.int .u8) 5 out)],1,[],0⟩
@[reducible] def cN:Type:=As cV
@[reducible] def zN0:Type:=Int->Int->Bool->Int->List Int->Option cN
def ab2(j2:Int->Int->Bool->Int->Int->Bool->List Int->Option cN)(j3:Bool->List Int->Option cN)(self1:zN0)(at' pattern:Int)(any:Bool)(t15:Int)(out:List Int):Option cN :=
 if lt t15 16=true then need (ge t15 0) (if eqi (Sx.lW .u16 (Sx.shr .u16 pattern t15) 1) 1=true then if ge (add .i64 at' t15) 0=true then j2 at' pattern any (add .i64 at' t15) t15 (lt (add .i64 at' t15) (mul .i64 8 (zF (zG out)))) out else j2 at' pattern any (add .i64 at' t15) t15 false out else j2 at' pattern any (add .i64 at' t15) t15 false out) else j3 any out
def aoe(self1:zN0)(at' pattern:Int)(any:Bool)(i t15:Int)(t36:Bool)(out:List Int):Option cN :=
 if t36=true then zC (at? out (quo .i64 i 8)) fun x=>zC (at? out (quo .i64 i 8)) fun y=>need (ge (rem i 8) 0) (zC (at? out (quo .i64 i 8)) fun x=>zC (at? out (quo .i64 i 8)) fun x=>self1 at' pattern true (add .i64 t15 1) (List.set out (zI (quo .i64 i 8)) (Sx.iU .u8 y (Sx.shl .u8 1 (rem i 8))))) else self1 at' pattern any (add .i64 t15 1) out
def arj(any:Bool)(out:List Int):Option cN :=
 some (out,any,())
def ab3(j1:zN0)(b:List Int)(at' pattern:Int):Option cN :=
 need (small (0+zG b)) (j1 at' pattern false 0 b)
def ab4(u1:zN0):=aoe u1
def ark:=arj
def KG(at' pattern:Int)(any:Bool)(t15:Int)(out:List Int):Option cN :=
 cu (fun self s=>ab2 (ab4 (fun at' pattern any t15 out=>self (at',pattern,any,t15,out))) (ark) (fun at' pattern any t15 out=>self (at',pattern,any,t15,out)) s.1 s.2.1 s.2.2.1 s.2.2.2.1 s.2.2.2.2) 18446744073709551616 (at',pattern,any,t15,out)
def Sf(x:As [.sl (.int .u8),.int .i64,.int .u16]):Option cN:=ab3 KG x.1 x.2.1 x.2.2.1
abbrev pBz:=zp aoa aob 34 ab1
theorem aDQ{J w1 a b c d e f g}:pBz J 15667 [w1] (aoc a b c d e f g)=aoe (C w1 KF) a b c d e f g:=by kernel_rfl
theorem aDR{J a b}:pBz J 15 [] (aod a b)=arj a b:=by kernel_rfl
theorem aDS{J w1 a b c d e}:pBz J 122 [w1] (KF a b c d e)=ab2 (C (J 15667 [w1]) aoc) (C (J 15 []) aod) (C w1 KF) a b c d e:=by kernel_rfl
abbrev pBy:=zj aoa aob 34 ab1
theorem aDT{w1}:C (pBy 15667 [w1]) aoc=ab4 (C w1 KF):=gNC (by decide) fun _=>aDQ
theorem aDU:C (pBy 15 []) aod=ark:=gNC (by decide) fun _=>aDR
theorem aDV:C (pBy 122 []) KF=KG:=gLC (by decide) (by kernel_rfl) (fun _=>by unfold KG;rfl) fun _ _=>aDS.trans (by rw[aDT,aDU]<;>kernel_rfl)
theorem aDW:au Tryz.prog (fun _=>True) 34 ⟨ab1,Sf⟩:=zcc (env:=aoa) (d:=6) (hs:=Ev.get aob) bq (fun J x=>ab3 (C (J 122 []) KF) x.1 x.2.1 x.2.2.1) (fun _ _=>by kernel_rfl) fun _=>by rw[aDV]<;>rfl
@[reducible] def dT:List Ty:=[.pr (.int .u16) (.int .i64),.bool]
@[reducible] def aof:Sh:=⟨[.d bK],[],bM,[.d bK,.d (.bool)],[],0,dT⟩
def aog:Env:=(cts [(150,(⟨JY,tC⟩:Ct)),(198,(⟨alq,Cy⟩:Ct)),(229,(⟨alo,Av⟩:Ct))])
def aoh:List (Nat×Hint):=[(14,⟨[],[1,2,14]⟩)]
def aoi(t14:Bool)(l t2:Int×Int):St:=⟨[(1,.pb 0 0),(2,.pb 1 0),(14,dB t14)],25,[],[(0,.box 35 [d6 l.1,dI l.2]),(1,.box 35 [d6 t2.1,dI t2.2])],2,[],0⟩
def ab5(t14:Bool)(l t2:Int×Int):Option (As dT) :=
 if t14=true then some (l,false,()) else if eqi (Sx.sub .i64 l.2 1) 0=true then some ((0,0),true,()) else some ((l.1,Sx.sub .i64 l.2 1),false,())
def ab6(j1:Bool->Int×Int->Int×Int->Option (As dT))(l:Int×Int):Option (As dT) :=
 zC (Cy (l,())) fun y=>zC (tC (y.1,())) fun y_1=>if y_1.1=true then j1 true y.1 (0,0) else zC (Av (y.1.1,())) fun y_2=>j1 (eqi y.1.1 y_2.1.1 && (eqi y.1.2 y_2.1.2 && true)) y.1 (0,0)
def aoj:=ab5
def aok(x:As bM):Option (As dT):=ab6 aoj x.1
abbrev pBv:=zp aog aoh 172 aof
theorem aDX{J a b c}:pBv J 14 [] (aoi a b c)=ab5 a b c:=by kernel_rfl
abbrev pBu:=zj aog aoh 172 aof
theorem aDY:C (pBu 14 []) aoi=aoj:=gNC (by decide) fun _=>aDX
theorem aDZ:au Tryz.prog (fun _=>True) 172 ⟨aof,aok⟩:=zcc (env:=aog) (d:=6) (hs:=Ev.get aoh) (aj QD (aj ZZ (aj ZX bq))) (fun J x=>ab6 (C (J 14 []) aoi) x.1) (fun _ _=>by kernel_rfl) fun _=>by rw[aDY]<;>rfl
@[reducible] def aD0:Sh:=⟨[.d (.pr aB gQ)],[],[.pr aB gQ],[.d (.pr aB gQ)],[],0,[.pr aB gQ]⟩
def aol(a:mY):Option (As [.pr aB gQ]) :=
 zC (FU (a,())) fun y=>zC (aok (y.1.2.1,())) fun y_1=>if y_1.2.1=true then zC (Cz (y.1,())) fun y=>some (y.1,()) else some ((y.1.1,y_1.1,y.1.2.2),())
def ab7(x:As [.pr aB gQ]):Option (As [.pr aB gQ]):=aol x.1
theorem aD1:au Tryz.prog (fun _=>True) 119 ⟨aD0,ab7⟩:=ctn (aj aas (aj aDZ (aj QG bq))) 6 fun J x=>by kernel_rfl
@[reducible] def arl:Sh:=⟨[.d (.pr (.int .u8) (.pr (.int .u8) (.pr (.pr aB gQ) (.sl .bool))))],[],[.pr (.int .u8) (.pr (.int .u8) (.pr (.pr aB gQ) (.sl .bool)))],[.d (.pr (.int .u8) (.pr (.int .u8) (.pr (.pr aB gQ) (.sl .bool))))],[],0,[.pr (.int .u8) (.pr (.int .u8) (.pr (.pr aB gQ) (.sl .bool)))]⟩
def aom(s:lU):Option (As [.pr (.int .u8) (.pr (.int .u8) (.pr (.pr aB gQ) (.sl .bool)))]) :=
 zC (FI (s,())) fun y=>zC (ab7 (y.1.2.2.1,())) fun y_1=>some ((y.1.1,y.1.2.1,y_1.1,y.1.2.2.2),())
def ab8(x:As [.pr (.int .u8) (.pr (.int .u8) (.pr (.pr aB gQ) (.sl .bool)))]):Option (As [.pr (.int .u8) (.pr (.int .u8) (.pr (.pr aB gQ) (.sl .bool)))]):=aom x.1
theorem aD2:au Tryz.prog (fun _=>True) 60 ⟨arl,ab8⟩:=ctn (aj aj4 (aj aD1 bq)) 6 fun J x=>by kernel_rfl
@[reducible] def aD3:Sh:=⟨[.d (.pr aB gQ)],[],[.pr aB gQ],[.d (.pr aB gQ)],[],0,[.pr aB gQ]⟩
def aon(a:mY):Option (As [.pr aB gQ]) :=
 zC (FU (a,())) fun y=>if eqi y.1.2.2.1 1=true then zC (Cz (y.1,())) fun y=>some (y.1,()) else some (y.1,())
def ab9(x:As [.pr aB gQ]):Option (As [.pr aB gQ]):=aon x.1
theorem aD4:au Tryz.prog (fun _=>True) 120 ⟨aD3,ab9⟩:=ctn (aj aas (aj QG bq)) 6 fun J x=>by kernel_rfl
@[reducible] def arn:Sh:=⟨[.d (.pr (.int .u8) (.pr (.int .u8) (.pr (.pr aB gQ) (.sl .bool))))],[],[.pr (.int .u8) (.pr (.int .u8) (.pr (.pr aB gQ) (.sl .bool)))],[.d (.pr (.int .u8) (.pr (.int .u8) (.pr (.pr aB gQ) (.sl .bool))))],[],0,[.pr (.int .u8) (.pr (.int .u8) (.pr (.pr aB gQ) (.sl .bool)))]⟩
def aoo(s:lU):Option (As [.pr (.int .u8) (.pr (.int .u8) (.pr (.pr aB gQ) (.sl .bool)))]) :=
 zC (FI (s,())) fun y=>zC (ab9 (y.1.2.2.1,())) fun y_1=>some ((y.1.1,y.1.2.1,y_1.1,[false,false,false,false,false,false,false,false,false,false,false,false,false,false,false,false]),())
def acd(x:As [.pr (.int .u8) (.pr (.int .u8) (.pr (.pr aB gQ) (.sl .bool)))]):Option (As [.pr (.int .u8) (.pr (.int .u8) (.pr (.pr aB gQ) (.sl .bool)))]):=aoo x.1
theorem aD5:au Tryz.prog (fun _=>True) 61 ⟨arn,acd⟩:=ctn (aj aj4 (aj aD4 bq)) 6 fun J x=>by kernel_rfl
def aD6(s:Int×List Bool×List (Int×List Int)):Option aF :=
 zC (J2 (s,())) fun y=>need (le 0 y.1) (need (le y.1 8) (zC (Fx (List.take (zI (y.1 - 0)) (List.drop 0 s.2.1),false,())) fun y=>some (!y.1,())))
def aD7(x:As [.pr (.int .u32) (.pr (.ar 8 .bool) (.ar 8 dY))]):Option aF:=aD6 x.1
def aD8(j2:mY->List Bool->Int->Option aF)(a:mY)(t13:Bool):Option aF :=
 if t13=true then some (false,()) else j2 a a.2.2.2.2.2.1.2.1 0
def aD9(j3:mY->List Bool->Int->Bool->Option aF)(j4:mY->Option aF)(self2:mY->List Bool->Int->Option aF)(a:mY)(t16:List Bool)(t17:Int):Option aF :=
 if lt t17 8=true then need (lt t17 8) (zC (at? t16 t17) fun y=>if y=true then zC (at? a.2.2.2.2.2.1.2.2 t17) fun y=>zC (sZ (y,())) fun y=>j3 a t16 t17 !y.1 else j3 a t16 t17 false) else j4 a
def aEa(self2:mY->List Bool->Int->Option aF)(a:mY)(t16:List Bool)(t17:Int)(t30:Bool):Option aF :=
 if t30=true then some (false,()) else self2 a t16 (add .i64 t17 1)
def aEb(j5:mY->Bool->Option aF)(a:mY):Option aF :=
 if eqi a.2.2.1 0=true then if (eqi a.2.1.1 0 && (eqi a.2.1.2 0 && true))=true then if eqi a.2.2.2.1 0=true then if eqi a.2.2.2.2.2.1.1 0=true then zC (J2 (a.2.2.2.2.2.1,())) fun y=>some (eqi y.1 0,()) else some (false,()) else some (false,()) else some (false,()) else zC (tC (a.2.1,())) fun y=>if y.1=true then j5 a true else if le a.2.2.2.1 a.2.2.2.2.1=true then j5 a true else j5 a (nei a.2.2.2.2.2.1.1 a.2.2.2.1)
def aEc(a:mY)(t73:Bool):Option aF :=
 if t73=true then some (false,()) else if eqi a.2.2.1 1=true then some (ge a.2.1.2 1,()) else if eqi a.2.2.1 2=true then if eqi a.2.1.2 (-1)=true then zC (aD7 (a.2.2.2.2.2.1,())) fun y=>some (y.1,()) else some (false,()) else some (false,())
def aEd(j1:mY->Bool->Option aF)(a:mY):Option aF :=
 if nei (zF (zG a.1)) 64=true then j1 a true else j1 a (lt a.2.2.2.2.2.2 1)
def aEe(u2:mY->List Bool->Int->Option aF):=aEa u2
def aEf:=aEc
def aEg:=aEb (aEf)
def aEh(a:mY)(t16:List Bool)(t17:Int):Option aF :=
 cu (fun self s=>aD9 (aEe (fun a t16 t17=>self (a,t16,t17))) (aEg) (fun a t16 t17=>self (a,t16,t17)) s.1 s.2.1 s.2.2) 18446744073709551616 (a,t16,t17)
def aEi:=aD8 (aEh)
def aEj(x:As [.pr aB gQ]):Option aF:=aEd aEi x.1
def aEk(s:lU):Option aF :=
 zC (VZ (s.1,s.2.1,())) fun y=>if y.1=true then zC (aEj (s.2.2.1,())) fun y=>if y.1=true then some (eqi (zF (zG s.2.2.2)) 16,()) else some (false,()) else some (false,())
def aF9(x:As [.pr (.int .u8) (.pr (.int .u8) (.pr (.pr aB gQ) (.sl .bool)))]):Option aF:=aEk x.1
@[reducible] def fD:Ty:=.pr .bool (.int .u16)
@[reducible] def dU:Ty:=.pr .bool fD
@[reducible] def cW:Ty:=.pr (.int .u8) dU
@[reducible] def ace:Sh:=⟨[.pb 0 0,.d (.pr (.int .u8) cW)],[(prG 1),.que kR 63],[.pr (.int .u8) cW,.pr oC oF,.pr (.int .u8) (.pr (.int .u8) (.pr (.pr aB gQ) (.sl .bool))),.int .u32,.int .u32,.sl kX,.sl kR],[.d (.bool)],[(0,(prG 2)),(2,.que kR 63)],1,[.bool,.pr oC oF,.pr (.int .u8) (.pr (.int .u8) (.pr (.pr aB gQ) (.sl .bool))),.int .u32,.int .u32,.sl kX,.sl kR]⟩
def aop:Env:=(cts [(1000048,Ev.iw),(9000046,Ev.iw),(9999999,Ev.iw),(10,(⟨Aq,yt⟩:Ct)),(16,(⟨CG,AA⟩:Ct)),(19,(⟨abp,CK⟩:Ct)),(20,(⟨Fb,yc⟩:Ct)),(34,(⟨ab1,Sf⟩:Ct)),(60,(⟨arl,ab8⟩:Ct)),(61,(⟨arn,acd⟩:Ct))])
def aoq:List (Nat×Hint):=[(54,⟨[],[0,3,5,13,18,47,48,49,72,73,74,75,76,77]⟩),(1751,⟨[.quw 0 57 63],[0,3,5,7]⟩),(3503,⟨[],[0,5,7]⟩),(7006,⟨[],[0,3,5,7,78]⟩),(3502,⟨[],[0,3,5,6,7,50,72,73,74,75,76,77]⟩)]
@[reducible] def zN1:Type:=List (Bool×List Int)
@[reducible] def zN2:Type:=Int×Int×Bool×Bool×Int
def aor(k t13:Int)(t18:Bool)(p:oD×(lU)×Unit×Int×Int×List aG)(o:zN1)(d:zN2):St:=⟨[(0,.pb 0 0),(3,.pb 2 0),(5,d8 k),(13,d8 t13),(18,dB t18)],138,[],[(0,.box 48 (gD p.1 (slC p.2.1 [.row 1,d2 p.2.2.2.1,d2 p.2.2.2.2.1,.d (.sl kX) p.2.2.2.2.2]))),(1,.que kR 63 o),(2,.box 76 [d8 d.1,d8 d.2.1,dB d.2.2.1,dB d.2.2.2.1,d6 d.2.2.2.2])],3,[],2⟩
@[reducible] def zN3:Type:=Bool×List Int
def aos(k i:Int)(t50:Bool)(p:oD×(lU)×Unit×Int×Int×List aG)(o:zN1)(d:zN2)(m:zN3):St:=⟨[(0,.pb 0 0),(3,.pb 2 0),(5,d8 k),(6,dI i),(7,.pb 3 0),(50,dB t50)],138,[],[(0,.box 48 (gD p.1 (slC p.2.1 [.row 1,d2 p.2.2.2.1,d2 p.2.2.2.2.1,.d (.sl kX) p.2.2.2.2.2]))),(1,.que kR 63 o),(2,.box 76 [d8 d.1,d8 d.2.1,dB d.2.2.1,dB d.2.2.2.1,d6 d.2.2.2.2]),(3,.box 63 [dB m.1,dL m.2])],4,[],2⟩
def aot(k:Int)(p:oD×(lU)×Unit×Int×Int×List aG)(o:zN1)(d:zN2)(m:zN3):St:=⟨[(0,.pb 0 0),(3,.pb 3 0),(5,d8 k),(7,.pb 4 0)],138,[],[(0,.box 48 (gD p.1 (slC p.2.1 [.row 2,d2 p.2.2.2.1,d2 p.2.2.2.2.1,.d (.sl kX) p.2.2.2.2.2]))),(2,.que kR 63 o),(3,.box 76 [d8 d.1,d8 d.2.1,dB d.2.2.1,dB d.2.2.2.1,d6 d.2.2.2.2]),(4,.box 63 [dB m.1,dL m.2])],5,[],2⟩
def aou(k:Int)(t78:Bool)(p:oD×(lU)×Unit×Int×Int×List aG)(o:zN1)(d:zN2)(m:zN3):St:=⟨[(0,.pb 0 0),(3,.pb 3 0),(5,d8 k),(7,.pb 4 0),(78,dB t78)],138,[],[(0,.box 48 (gD p.1 (slC p.2.1 [.row 2,d2 p.2.2.2.1,d2 p.2.2.2.2.1,.d (.sl kX) p.2.2.2.2.2]))),(2,.que kR 63 o),(3,.box 76 [d8 d.1,d8 d.2.1,dB d.2.2.1,dB d.2.2.2.1,d6 d.2.2.2.2]),(4,.box 63 [dB m.1,dL m.2])],5,[],2⟩
def aov(k:Int)(p:oD×(lU)×Unit×Int×Int×List aG)(o:zN1)(m:zN3):St:=⟨[(0,.pb 0 0),(5,d8 k),(7,.pb 3 0)],138,[],[(0,.box 48 (gD p.1 (slC p.2.1 [.row 2,d2 p.2.2.2.1,d2 p.2.2.2.2.1,.d (.sl kX) p.2.2.2.2.2]))),(2,.que kR 63 o),(3,.box 63 [dB m.1,dL m.2])],4,[],2⟩
def KH(j2:Int->Int->Bool->oD×(lU)×Unit×Int×Int×List aG->List (Bool×List Int)->Int×Int×Bool×Bool×Int->Bool×List Int->Option (As [.bool,.pr oC oF,.pr (.int .u8) (.pr (.int .u8) (.pr (.pr aB gQ) (.sl .bool))),.int .u32,.int .u32,.sl kX,.sl kR]))(k t13:Int)(t18:Bool)(p:oD×(lU)×Unit×Int×Int×List aG)(o:zN1)(d:zN2):Option (As [.bool,.pr oC oF,.pr (.int .u8) (.pr (.int .u8) (.pr (.pr aB gQ) (.sl .bool))),.int .u32,.int .u32,.sl kX,.sl kR]) :=
 if t18=true then if eqi (zF (zG o)) 0=true then some (true,p.1,(gW p.2.1),p.2.2.2.1,p.2.2.2.2.1,p.2.2.2.2.2,o,()) else need (nei (zF (zG o)) 0) (zC (at? o (rem (cvt .i64 d.2.1) (zF (zG o)))) fun x=>zC (at? o (rem (cvt .i64 d.2.1) (zF (zG o)))) fun y=>if nei k 0=true then j2 k (rem (cvt .i64 d.2.1) (zF (zG o))) true p o d y else j2 k (rem (cvt .i64 d.2.1) (zF (zG o))) (!d.2.2.1) p o d y) else if eqi t13 2=true then zC (CK (p.1,())) fun y=>zC (yc (y.2.1,y.1,(gW p.2.1),p.2.2.2.1,p.2.2.2.2.1,p.2.2.2.2.2,o,())) fun y=>some (true,y.1,(gW y.2.1),y.2.2.1,y.2.2.2.1,y.2.2.2.2.1,y.2.2.2.2.2.1,()) else if eqi t13 3=true then zC (ab8 ((gW p.2.1),())) fun y=>some (true,p.1,(gW y.1),p.2.2.2.1,p.2.2.2.2.1,p.2.2.2.2.2,o,()) else if eqi t13 4=true then zC (acd ((gW p.2.1),())) fun y=>some (true,p.1,(gW y.1),p.2.2.2.1,p.2.2.2.2.1,p.2.2.2.2.2,o,()) else zC (yt (d.2.2.2.1,p.1,(gW p.2.1),p.2.2.2.1,p.2.2.2.2.1,p.2.2.2.2.2,o,())) fun y=>some (y.1,y.2.1,(gW y.2.2.1),y.2.2.2.1,y.2.2.2.2.1,y.2.2.2.2.2.1,y.2.2.2.2.2.2.1,())
def acf(j3:Int->oD×(lU)×Unit×Int×Int×List aG->List (Bool×List Int)->Int×Int×Bool×Bool×Int->Bool×List Int->Option (As [.bool,.pr oC oF,.pr (.int .u8) (.pr (.int .u8) (.pr (.pr aB gQ) (.sl .bool))),.int .u32,.int .u32,.sl kX,.sl kR]))(k i:Int)(t50:Bool)(p:oD×(lU)×Unit×Int×Int×List aG)(o:zN1)(d:zN2)(m:zN3):Option (As [.bool,.pr oC oF,.pr (.int .u8) (.pr (.int .u8) (.pr (.pr aB gQ) (.sl .bool))),.int .u32,.int .u32,.sl kX,.sl kR]) :=
 if t50=true then need (ge i 0) (need (eqi i i) (need (le i (zF (zG o))) (need (ge (add .i64 i 1) 0) (need (le (add .i64 i 1) (zF (zG o))) (need (le (zF (zG o)) (zF (zG o))) (need (ge (add .i64 i 1) 1) (need (small (zG (List.take (zI i) (List.drop 0 o))+zG (List.take (zI (zF (zG o) - add .i64 i 1)) (List.drop (zI (add .i64 i 1)) o)))) (j3 k p (List.take (zI i) (List.drop 0 o)++List.take (zI (zF (zG o) - add .i64 i 1)) (List.drop (zI (add .i64 i 1)) o)) d m)))))))) else j3 k p o d m
def acg(j4:Int->Bool->oD×(lU)×Unit×Int×Int×List aG->List (Bool×List Int)->Int×Int×Bool×Bool×Int->Bool×List Int->Option (As [.bool,.pr oC oF,.pr (.int .u8) (.pr (.int .u8) (.pr (.pr aB gQ) (.sl .bool))),.int .u32,.int .u32,.sl kX,.sl kR]))(k:Int)(p:oD×(lU)×Unit×Int×Int×List aG)(o:zN1)(d:zN2)(m:zN3):Option (As [.bool,.pr oC oF,.pr (.int .u8) (.pr (.int .u8) (.pr (.pr aB gQ) (.sl .bool))),.int .u32,.int .u32,.sl kX,.sl kR]) :=
 if eqi k 6=true then j4 k (eqi p.2.1.2.1 1) p o d m else j4 k false p o d m
def KI(j5:Int->oD×(lU)×Unit×Int×Int×List aG->List (Bool×List Int)->Bool×List Int->Option (As [.bool,.pr oC oF,.pr (.int .u8) (.pr (.int .u8) (.pr (.pr aB gQ) (.sl .bool))),.int .u32,.int .u32,.sl kX,.sl kR]))(k:Int)(t78:Bool)(p:oD×(lU)×Unit×Int×Int×List aG)(o:zN1)(d:zN2)(m:zN3):Option (As [.bool,.pr oC oF,.pr (.int .u8) (.pr (.int .u8) (.pr (.pr aB gQ) (.sl .bool))),.int .u32,.int .u32,.sl kX,.sl kR]) :=
 if t78=true then need (nei (mul .i64 8 (zF (zG m.2))) 0) (zC (Sf (m.2,rem (cvt .i64 d.2.2.2.2) (mul .i64 8 (zF (zG m.2))),d.2.2.2.2,())) fun y=>j5 k p o (m.1,y.1)) else j5 k p o m
def ach(k:Int)(p:oD×(lU)×Unit×Int×Int×List aG)(o:zN1)(m:zN3):Option (As [.bool,.pr oC oF,.pr (.int .u8) (.pr (.int .u8) (.pr (.pr aB gQ) (.sl .bool))),.int .u32,.int .u32,.sl kX,.sl kR]) :=
 if nei k 1=true then zC (AA (m,p.1,(gW p.2.1),p.2.2.2.1,p.2.2.2.2.1,p.2.2.2.2.2,o,())) fun y=>some (true,y.1,(gW y.2.1),y.2.2.1,y.2.2.2.1,y.2.2.2.2.1,y.2.2.2.2.2.1,()) else some (true,p.1,(gW p.2.1),p.2.2.2.1,p.2.2.2.2.1,p.2.2.2.2.2,o,())
def aci(j1:Int->Int->Bool->oD×(lU)×Unit×Int×Int×List aG->List (Bool×List Int)->Int×Int×Bool×Bool×Int->Option (As [.bool,.pr oC oF,.pr (.int .u8) (.pr (.int .u8) (.pr (.pr aB gQ) (.sl .bool))),.int .u32,.int .u32,.sl kX,.sl kR]))(p:zN2)(d:(Int×Int×Int×Int×Bool×(Int×Int×Int×Int×List Int×List Bool)×Int×Int×Int)×Int×Int×List (Int×List Int)×Int×Int×Int×Int×Int)(p_2:lU)(d_2 v:Int)(k:List aG)(i:zN1):Option (As [.bool,.pr oC oF,.pr (.int .u8) (.pr (.int .u8) (.pr (.pr aB gQ) (.sl .bool))),.int .u32,.int .u32,.sl kX,.sl kR]) :=
 if eqi (rem p.1 7) 0=true then j1 (rem p.1 7) (rem p.1 7) true (d,p_2,(),d_2,v,k) i p else if eqi (rem p.1 7) 1=true then j1 (rem p.1 7) (rem p.1 7) true (d,p_2,(),d_2,v,k) i p else j1 (rem p.1 7) (rem p.1 7) (eqi (rem p.1 7) 6) (d,p_2,(),d_2,v,k) i p
def KJ:=ach
def acj:=KI (KJ)
def ack:=acg (acj)
def Si:=acf (ack)
def Sj:=KH (Si)
def acm(x:As [.pr (.int .u8) cW,.pr oC oF,.pr (.int .u8) (.pr (.int .u8) (.pr (.pr aB gQ) (.sl .bool))),.int .u32,.int .u32,.sl kX,.sl kR]):Option (As [.bool,.pr oC oF,.pr (.int .u8) (.pr (.int .u8) (.pr (.pr aB gQ) (.sl .bool))),.int .u32,.int .u32,.sl kX,.sl kR]):=aci Sj x.1 x.2.1 x.2.2.1 x.2.2.2.1 x.2.2.2.2.1 x.2.2.2.2.2.1 x.2.2.2.2.2.2.1
abbrev pBd:=zp aop aoq 22 ace
theorem aEl{J a b c d}:pBd J 3503 [] (aov a b c d)=ach a b c d:=by kernel_rfl
theorem aEm{J a b c d e f}:pBd J 7006 [] (aou a b c d e f)=KI (C (J 3503 []) aov) a b c d e f:=by kernel_rfl
theorem aEn{J a b c d e}:pBd J 1751 [] (aot a b c d e)=acg (C (J 7006 []) aou) a b c d e:=by kernel_rfl
theorem aEo{J a b c d e f g}:pBd J 3502 [] (aos a b c d e f g)=acf (C (J 1751 []) aot) a b c d e f g:=by kernel_rfl
theorem aEp{J a b c d e f}:pBd J 54 [] (aor a b c d e f)=KH (C (J 3502 []) aos) a b c d e f:=by kernel_rfl
abbrev pBc:=zj aop aoq 22 ace
theorem aEq:C (pBc 3503 []) aov=KJ:=gNC (by decide) fun _=>aEl
theorem aEr:C (pBc 7006 []) aou=acj:=gNC (by decide) fun _=>aEm.trans (by rw[aEq]<;>kernel_rfl)
theorem aEs:C (pBc 1751 []) aot=ack:=gNC (by decide) fun _=>aEn.trans (by rw[aEr]<;>kernel_rfl)
theorem aEt:C (pBc 3502 []) aos=Si:=gNC (by decide) fun _=>aEo.trans (by rw[aEs]<;>kernel_rfl)
theorem aEu:C (pBc 54 []) aor=Sj:=gNC (by decide) fun _=>aEp.trans (by rw[aEt]<;>kernel_rfl)
theorem aEv:au Tryz.prog (fun _=>True) 22 ⟨ace,acm⟩:=zcc (env:=aop) (d:=6) (hs:=Ev.get aoq) (aj Ev.gJ (aj Ev.gJ (aj Ev.gJ (aj aiy (aj am3 (aj am6 (aj Wk (aj aDW (aj aD2 (aj aD5 bq)))))))))) (fun J x=>aci (C (J 54 []) aor) x.1 x.2.1 x.2.2.1 x.2.2.2.1 x.2.2.2.2.1 x.2.2.2.2.2.1 x.2.2.2.2.2.2.1) (fun _ _=>by kernel_rfl) fun _=>by rw[aEu]<;>rfl
end Go.Proofs.Lx
end
noncomputable section
namespace Go.Proofs.Lx
open Go Ev Sx Pl
set_option maxRecDepth 100000
theorem asV:∀k:Fin 8,shl .u8 1 (k.1:Int)=((2 ^ k.1:Nat):Int):=by decide +kernel
structure SpI(b0:List Int) (n a0:Nat) (c0:Nat) (k:Nat) (s:zN3):Prop where
 l:s.2.length=n
 b:Byt s.2
 p:∃P,P<2 ^ k∧(s.1=true->P≠0)∧jk 65535 (nat s.2)=c0 ^^^ tP (8*n - a0) P
 e:s.1=false->s.2=b0
theorem Ut{m k:Nat}(h:k≤m):tP m (2 ^ k)=tP (m - k) 1:=by
 have e:m=k+(m - k):=by omega
 conv=>lhs;rw[e]
 rw[Dq];have:=H6 k 1;rw[Nat.mul_one]at this;rw[this]
theorem asW{xs:List Int}{j:Nat}{y:Int}(hy:xs[j]? = some y)(hb:Byt xs){d:Nat}(hd:d<256):jk 65535 (nat (xs.set j ((y.toNat ^^^ d:Nat):Int)))=jk 65535 (nat xs) ^^^ tP (8*(xs.length - j)) d∧Byt (xs.set j ((y.toNat ^^^ d:Nat):Int)):=by
 obtain⟨hj,hy⟩:=List.getElem?_eq_some_iff.1 hy
 have e1:xs=xs.take j++y::xs.drop (j+1):=by
  conv=>lhs;rw[<- List.take_append_drop j xs]
  rw[List.drop_eq_getElem_cons hj,hy]
 have e2:xs.set j ((y.toNat ^^^ d:Nat):Int)=xs.take j++((y.toNat ^^^ d:Nat):Int)::xs.drop (j+1):=List.set_eq_take_append_cons_drop ..|>.trans (if_pos hj);have hy2:=hb y (hy ▸ List.getElem_mem hj);refine⟨?_,fun x hx=>?_⟩
 ·have e3:nat xs=nat (xs.take j)++y.toNat::nat (xs.drop (j+1)):=by
   conv=>lhs;rw[e1]
   simp[nat]
  have e4:nat (xs.set j ((y.toNat ^^^ d:Nat):Int))=nat (xs.take j)++(y.toNat ^^^ d)::nat (xs.drop (j+1)):=by rw[e2];simp[nat]
  rw[e4,aeo,<- e3];have e5:(nat (xs.drop (j+1))).length+1=xs.length - j:=by simp;omega
  rw[e5]
 ·rw[e2]at hx
  rcases List.mem_append.1 hx with h | h
  ·exact hb x (List.mem_of_mem_take h)
  ·rcases List.mem_cons.1 h with h | h
   ·have:y.toNat ^^^ d<2 ^ 8:=Nat.xor_lt_two_pow (by omega) (by omega)
    subst h;omega
   ·exact hb x (List.mem_of_mem_drop h)
theorem aow{b:List Int}(hb:Byt b)(hl:1≤b.length)(hl2:b.length≤1000){a0:Nat}(ha:a0<8*b.length)(pattern:Int) :
  ∃out any,Sf (b,(a0:Int),pattern,())=some (out,any,())∧out.length=b.length∧Byt out∧(any=true->jk 65535 (nat out)≠jk 65535 (nat b))∧(any=false->out=b):=by
 have key:∀o:Option cN,o=KG (a0:Int) pattern false 0 b->∃out any,o=some (out,any,())∧out.length=b.length∧Byt out∧(any=true->jk 65535 (nat out)≠jk 65535 (nat b))∧(any=false->out=b):=by
  intro o ho;subst ho;unfold KG;refine KD (Q:=fun o=>∃out any,o=some (out,any,())∧out.length=b.length∧Byt out∧(any=true->jk 65535 (nat out)≠jk 65535 (nat b))∧(any=false->out=b)) (mk:=fun k (s:zN3)=>((a0:Int),pattern,s.1,(k:Int),s.2)) (N:=16) (Inv:=SpI b b.length a0 (jk 65535 (nat b))) ?_ ?_ 16 0 (false,b) 18446744073709551616 (by omega) (by omega) ⟨rfl,hb,⟨0,by decide,fun h=>(by cases h),by rw[KE,Nat.xor_zero]⟩,fun _=>rfl⟩
  ·rintro self k ⟨any,out⟩ hk ⟨h1,h2,⟨P,h3,h4,h5⟩,h6⟩
   dsimp only at h1 h2 h4 h5;have stay:SpI b b.length a0 (jk 65535 (nat b)) (k+1) (any,out):=⟨h1,h2,⟨P,by rw[Nat.pow_succ];omega,h4,h5⟩,h6⟩;have ek:add .i64 (k:Int) 1=((k+1:Nat):Int):=jm (by omega);have ei:add .i64 (a0:Int) (k:Int)=((a0+k:Nat):Int):=rW (by omega)
   have K:∀(t:Bool),(t=true->a0+k<8*b.length)->∃b',SpI b b.length a0 (jk 65535 (nat b)) (k+1) b'∧ab4 (fun at' pattern any t15 out=>self (at',pattern,any,t15,out)) (a0:Int) pattern any ((a0+k:Nat):Int) (k:Int) t out=self ((a0:Int),pattern,b'.1,((k+1:Nat):Int),b'.2):=by
    intro t ht;unfold ab4 aoe
    cases t with
    | false =>
     rw[if_neg (by decide),ek];exact⟨(any,out),stay,rfl⟩
    | true =>
     have hlt:=ht rfl;have hq:quo .i64 ((a0+k:Nat):Int) 8=(((a0+k) / 8:Nat):Int):=qw (d:=8) (by omega);have hr:rem ((a0+k:Nat):Int) 8=(((a0+k)%8:Nat):Int):=vP (d:=8);have hj:(a0+k) / 8<out.length:=by omega
     have hy:out[(a0+k) / 8]? = some (out[(a0+k) / 8]'hj):=zV hj;have hyb:=h2 _ (List.getElem_mem hj);have hpow:2 ^ ((a0+k)%8)<256:=by have:2 ^ ((a0+k)%8)≤2 ^ 7:=Nat.pow_le_pow_right (by decide) (by omega);omega
     have hs:=asV ⟨(a0+k)%8,Nat.mod_lt _ (by decide)⟩;dsimp only at hs;have hx:iU .u8 (out[(a0+k) / 8]'hj) (shl .u8 1 (((a0+k)%8:Nat):Int))=(((out[(a0+k) / 8]'hj).toNat ^^^ 2 ^ ((a0+k)%8):Nat):Int):=by rw[hs];obtain⟨m,hm⟩:=zN hyb.1;rw[hm,aDO (by omega) hpow];simp
     obtain⟨f1,f2⟩:=asW hy h2 hpow;have hk2:2 ^ k≠0:=Nat.ne_of_gt (Nat.two_pow_pos k);refine⟨(true,out.set ((a0+k) / 8) (((out[(a0+k) / 8]'hj).toNat ^^^ 2 ^ ((a0+k)%8):Nat):Int)),⟨by simp[h1],f2,⟨P ^^^ 2 ^ k,?_,?_,?_⟩,fun h=>by cases h⟩,?_⟩
     ·exact Nat.xor_lt_two_pow (by rw[Nat.pow_succ];omega) (by rw[Nat.pow_succ];omega)
     ·intro _ h0
      have:=HZ h0;omega
     ·dsimp only
      rw[f1,h5,Nat.xor_assoc,Dp,h1]
      congr 2
      have e1:=Ut (m:=8*(b.length - (a0+k) / 8)) (k:=(a0+k)%8) (by omega);have e2:=Ut (m:=8*b.length - a0) (k:=k) (by omega);rw[e1,e2]
      congr 1
      omega
     ·rw[if_pos rfl,hq,hr,gZ hy]
      simp only[zD];rw[fT (by rw[iK];omega),hx,ek,zQ]
   show ∃b',SpI b b.length a0 (jk 65535 (nat b)) (k+1) b'∧ab2 _ _ _ (a0:Int) pattern any (k:Int) out=self ((a0:Int),pattern,b'.1,((k+1:Nat):Int),b'.2);unfold ab2;have hm:mul .i64 8 (zF out.length)=((8*b.length:Nat):Int):=by rw[bu,h1,ou (by omega) (by omega)];simp
   rw[if_pos (by rw[fq];omega),fT (by rw[iK];omega),ei,hm];split
   ·rw[if_pos (by rw[iK];omega)]
    exact K _ (fun h=>by rw[fq]at h;omega)
   ·exact K false (fun h=>by cases h)
  ·rintro self ⟨any,out⟩ ⟨h1,h2,⟨P,h3,h4,h5⟩,h6⟩
   refine⟨out,any,rfl,h1,h2,fun ha he=>?_,h6⟩;have hP:=h4 ha;have e:jk 65535 (nat b) ^^^ tP (8*b.length - a0) P=jk 65535 (nat b):=h5.symm.trans he
   have e2:tP (8*b.length - a0) P=0:=by
    have:jk 65535 (nat b) ^^^ (jk 65535 (nat b) ^^^ tP (8*b.length - a0) P)=jk 65535 (nat b) ^^^ jk 65535 (nat b):=by rw[e]
    rwa[<- Nat.xor_assoc,Nat.xor_self,Nat.zero_xor]at this
   exact hP (aen (by omega) e2)
 show ∃out any,ab3 KG b (a0:Int) pattern=_∧_;unfold ab3;rw[jJ (by omega)];exact key _ rfl
theorem aro{unit:Int}{pdu bad:List Int}(h1:1≤pdu.length)(h2:pdu.length≤253)(hu:1≤unit∧unit≤247)(hb:Byt pdu)(hlen:bad.length=(iP (unit::pdu)).length)(hbb:Byt bad)
  (hne:jk 65535 (nat bad)≠jk 65535 (nat (iP (unit::pdu)))):(iC bad).2.2≠0:=by
 have hpl:=qU (unit::pdu);have hs:=AJ (unit::pdu)
 have hpb:Byt (iP (unit::pdu)):=by
  intro y hy;unfold iP at hy;rcases List.mem_append.1 hy with h | h
  ·rcases List.mem_cons.1 h with h | h
   ·subst h;omega
   ·exact hb y h
  ·simp at h
   rcases h with rfl | rfl<;>omega
 have good:jk 65535 (nat (iP (unit::pdu)))=0:=by
  apply aes hpb (by omega);have e0:(iP (unit::pdu)).length - 2=(unit::pdu).length:=by omega
  have et:(iP (unit::pdu)).take (unit::pdu).length=unit::pdu:=by unfold iP;exact List.take_left
  have e1:(iP (unit::pdu)).getD ((iP (unit::pdu)).length - 1) 0=qE (unit::pdu) / 256:=by
   have:(iP (unit::pdu)).length - 1=(unit::pdu).length+1:=by omega
   rw[this,zX];unfold iP;rw[List.getElem?_append_right (by omega)];simp
  have e2:(iP (unit::pdu)).getD (unit::pdu).length 0=qE (unit::pdu)%256:=by rw[zX];unfold iP;rw[List.getElem?_append_right (by omega)];simp
  rw[e0,et,e1,e2,D9 (by omega) (by omega) (by omega) (by omega)];omega
 have hc:(cutV bad).2=11:=by
  unfold cutV;rw[if_neg (by simp at hpl;omega)];split
  ·rename_i hsum
   exact absurd ((aes hbb (by simp at hpl;omega) hsum).trans good.symm) hne
  ·rfl
 have hr:(iC bad).2.2≠0:=by
  unfold iC;split
  ·show (10:Int)≠0;decide
  ·rw[if_pos (by rw[hc];decide)]
   show (cutV bad).2≠0;rw[hc];decide
 exact hr
section
variable {pl:List (List bn)}{x g:Int}{t:TTk}{s:TSl}{w:gK}{m:Bool×List Int}
theorem Chg.refl(a:TAg):Chg pl g a a:=.inl ⟨rfl,rfl⟩
theorem Gj(hp:jW pl)(hx:x≤4294967295){l:Int}{gp:Prop}{A:TAg}(h:MS pl x g l gp A m):(∀y∈m.2,0≤y∧y≤255)∧4≤m.2.length∧m.2.length≤300:=by
 cases h with
 | req z a hz h =>
  obtain⟨ha,hr⟩:=h.ok hp hx (fun v y h=>h.1);have hl:=pY (lD hr);refine⟨Dm (lD hr) (by decide),?_⟩;show 4≤(jo l 9 z a).length∧(jo l 9 z a).length≤300;unfold jo;split
  ·simp[kN];omega
  ·rw[qU];simp;omega
 | rep z r hz h hs =>
  have hl:=qW h.rr;refine⟨EH h.rr (by decide),?_⟩;show 4≤(gB l 9 z r).length∧(gB l 9 z r).length≤300;unfold gB;split
  ·simp[kN];omega
  ·rw[qU];simp;omega
theorem PI.come(hp:jW pl)(hx:x≤4294967295)(h:PI pl x g t s w)(hm:MS pl x g t.1.2.1 (av t=1) s.2.2.1 m):OkM t m∧PI pl x g (gy m t s w).1 (gy m t s w).2.1 (gy m t s w).2.2∧Chg pl g s.2.2.1 (gy m t s w).2.1.2.2.1:=by
 obtain⟨hb,hl⟩:=Gj hp hx hm
 cases hm with
 | req z a hz rq =>
  obtain⟨et,q1,q2⟩:=h.req hp hx hz rq;have e:gy (false,jo t.1.2.1 9 z a) t s w=(t,(gu s a).1,iA w true (gB t.1.2.1 9 z (gu s a).2)):=by unfold gy;rw[if_neg (by simp)];dsimp only;rw[et]
  rw[e];exact⟨⟨hb,by omega,fun e=>by cases e⟩,q1,q2⟩
 | rep z r hz hr hs =>
  have e:gy (true,gB t.1.2.1 9 z r) t s w=((iH t (gB t.1.2.1 9 z r)).1,s,iA w false (iH t (gB t.1.2.1 9 z r)).2):=rfl;rw[e];refine⟨⟨hb,by omega,fun _ r' hr'=>?_⟩,h.rep hz hr hs,Chg.refl _⟩;have:=Be hr h.mt.u hz hr';subst this;have:=hr.ok.lw;exact⟨hr.ok.w,by omega⟩
theorem PI.spoilt(hp:jW pl)(hx:x≤4294967295)(h:PI pl x g t s w)(hm:MS pl x g t.1.2.1 (av t=1) s.2.2.1 m)(hs:s.2.1=1){a0:Nat}(ha:a0<8*m.2.length)(pattern:Int) :
  ∃out any,Sf (m.2,(a0:Int),pattern,())=some (out,any,())∧OkM t (m.1,out)∧PI pl x g (gy (m.1,out) t s w).1 (gy (m.1,out) t s w).2.1 (gy (m.1,out) t s w).2.2∧Chg pl g s.2.2.1 (gy (m.1,out) t s w).2.1.2.2.1:=by
 obtain⟨hb,hl⟩:=Gj hp hx hm;obtain⟨out,any,e,l1,b1,c1,c2⟩:=aow hb (by omega) (by omega) ha pattern;refine⟨out,any,e,?_⟩
 cases any with
 | false =>
  rw[c2 rfl];exact h.come hp hx hm
 | true =>
  have hne:=c1 rfl;have l2:t.1.2.1=1:=h.l.symm.trans hs;have n2:¬ (1:Int)=2:=by decide
  have bad:(iC out).2.2≠0:=by
   cases hm with
   | req z a hz rq =>
    obtain⟨ha,hr⟩:=rq.ok hp hx (fun v y h=>h.1);have hla:=pY (lD hr);have ef:jo t.1.2.1 9 z a=iP (9::jV a):=by unfold jo;rw[l2,if_neg n2]
    dsimp only at l1 hne;rw[ef]at l1 hne;exact aro (by omega) hla.2 (by decide) (sj (lD hr)) l1 b1 hne
   | rep z r hz hr hs' =>
    have hlr:=qW hr.rr;have ef:gB t.1.2.1 9 z r=iP (9::kU r):=by unfold gB;rw[l2,if_neg n2]
    dsimp only at l1 hne;rw[ef]at l1 hne;exact aro (by omega) hlr.2 (by decide) (qy hr.rr) l1 b1 hne
  have ts:pI s out=(s,[]):=by unfold pI;rw[hs,if_neg n2,if_pos (.inl bad)]
  have tv:kV t.1 out=none:=by
   unfold kV;split
   ·unfold qx
    rw[l2,if_neg n2];unfold yH;rw[if_pos bad];rfl
   ·rfl
  have tt:iH t out=(t,[]):=by unfold iH;rw[tv]
  have o0:∀b,iA w b []=w:=fun b=>by unfold iA;exact if_neg (by simp)
  have ec:gy (m.1,out) t s w=(t,s,w):=by
   unfold gy;split
   ·dsimp only
    rw[tt,o0]
   ·dsimp only
    rw[ts,o0]
  rw[ec]
  exact⟨⟨b1,by dsimp only;omega,fun _ r hr=>by
   dsimp only at hr;rw[tv]at hr
   cases hr⟩,h,Chg.refl _⟩
end
end Go.Proofs.Lx
end
noncomputable section
namespace Go.Proofs.Lx
set_option maxRecDepth 100000
inductive KM where
 | oq
 | cq
 | gq
 | lq
 | gr
 | br
deriving DecidableEq
namespace KM
def wB:KM->Nat
 | oq=>4
 | cq=>4
 | gq=>2
 | lq=>2
 | gr=>1
 | br=>3
def wR:KM->Nat
 | gr=>1
 | br=>1
 | _=>2
def sB:List KM->Nat
 | []=>0
 | k::l=>wB k+sB l
def sR:List KM->Nat
 | []=>0
 | k::l=>wR k+sR l
def cp:List KM->Nat
 | []=>0
 | k::l=>if k=cq∨cp l≠0 then cp l+1 else 0
def gf:List KM->Option Nat
 | []=>none
 | k::l=>if k=gq then some 0 else (gf l).map (·+ 1)
def gv(at' n:Nat):Option Nat->Nat
 | some i=>50+i
 | none=>66+n+if at'=1 then 4 else 0
def ms(at':Nat)(b:Bool)(l:List KM):Nat :=
 if at'=0 then sR l else if cp l≠0 then 120+cp l else if b=true then sB l else gv at' (sR l) (gf l)
theorem mQ(a n i:Nat):gv a n (some i)=50+i:=rfl
theorem oU(a n:Nat):gv a n none=66+n+if a=1 then 4 else 0:=rfl
theorem Eu(k:KM)(l:List KM):cp (k::l)=if k=cq∨cp l≠0 then cp l+1 else 0:=rfl
theorem Uu(k:KM)(l:List KM):gf (k::l)=if k=gq then some 0 else (gf l).map (·+ 1):=rfl
theorem sR_cons(k:KM)(l:List KM):sR (k::l)=wR k+sR l:=rfl
theorem KL(k:KM)(l:List KM):sB (k::l)=wB k+sB l:=rfl
theorem aet(l:List KM)(k:KM):sB (l++[k])=sB l+wB k:=by
 induction l with
 | nil=>simp[sB]
 | cons a l ih=>simp[sB,ih];omega
theorem sR_app(l:List KM)(k:KM):sR (l++[k])=sR l+wR k:=by
 induction l with
 | nil=>simp[sR]
 | cons a l ih=>simp[sR,ih];omega
theorem aeu{k:KM}(h:k≠cq)(l:List KM):cp (l++[k])=cp l:=by
 induction l with
 | nil=>simp[cp,h]
 | cons a l ih=>simp[cp,ih]
theorem aev{l:List KM}{i:Nat}(k:KM)(h:gf l=some i):gf (l++[k])=some i:=by
 induction l generalizing i with
 | nil=>cases h
 | cons a l ih =>
  unfold gf at h;show (if a=gq then some 0 else (gf (l++[k])).map (·+ 1))=some i;split at h
  ·rename_i e
   rw[if_pos e];exact h
  ·rename_i e
   rw[if_neg e]
   cases hg:gf l with
   | none=>rw[hg]at h;cases h
   | some j=>rw[hg]at h;rw[ih hg];exact h
theorem LK{l:List KM}{k:KM}(h:gf l=none):gf (l++[k])=if k=gq then some l.length else none:=by
 induction l with
 | nil=>simp[gf]
 | cons a l ih =>
  unfold gf at h;show (if a=gq then some 0 else (gf (l++[k])).map (·+ 1))=_;split at h
  ·cases h
  ·rename_i e
   rw[if_neg e]
   cases hg:gf l with
   | none =>
    rw[ih hg];split<;>simp
   | some j=>rw[hg]at h;cases h
theorem acn:∀{l:List KM} {i:Nat},gf l=some i->i<l.length
 | [],_,h=>by cases h
 | a::l,i,h=>by
  unfold gf at h;split at h
  ·cases h;simp
  ·cases hg:gf l with
   | none=>rw[hg]at h;cases h
   | some j =>
    rw[hg]at h;have:=acn hg;cases h;simp;omega
theorem Mx:∀l:List KM,sB l≤4*l.length
 | []=>by simp[sB]
 | k::l=>by have:=Mx l;cases k<;>simp[sB,wB]<;>omega
theorem H7:∀l:List KM,sR l≤2*l.length
 | []=>by simp[sR]
 | k::l=>by have:=H7 l;cases k<;>simp[sR,wR]<;>omega
theorem arp:∀l:List KM,sR l≤sB l
 | []=>Nat.le_refl _
 | k::l=>by have:=arp l;cases k<;>simp[sR,sB,wR,wB]<;>omega
theorem arq:∀l:List KM,cp l≤l.length
 | []=>Nat.le_refl _
 | k::l=>by have:=arq l;unfold cp;split<;>simp<;>omega
theorem ms_le{at':Nat}{b:Bool}{l:List KM}(h:l.length≤12):ms at' b l≤132:=by
 have h1:=Mx l;have h2:=H7 l;have h3:=arq l;unfold ms;split
 ·omega
 split
 ·omega
 split
 ·omega
 ·cases hg:gf l with
  | none=>rw[oU];split<;>omega
  | some i=>have:=acn hg;rw[mQ];omega
theorem aox{at':Nat}{b:Bool}{l:List KM}(h:l.length≤12)(hc:cp l=0):ms at' b l≤94:=by
 have h1:=Mx l;have h2:=H7 l;unfold ms;split
 ·omega
 rw[if_neg (by omega)];split
 ·omega
 ·cases hg:gf l with
  | none=>rw[oU];split<;>omega
  | some i=>have:=acn hg;rw[mQ];omega
theorem ask{at':Nat}{b b':Bool}{k r:KM}{l:List KM}(hl:l.length≤11)(hk:k≠gr∧k≠br)(hr:r=gr∨r=br)(h1:b=true->k=gq∨k=lq->r=gr)(h2:b=true->k≠cq->b'=true)(h3:k=gq->b'=true):ms at' b' (l++[r])<ms at' b (k::l):=by
 have hq:r≠cq∧r≠gq:=by rcases hr with rfl | rfl<;>exact⟨by decide,by decide⟩
 have len:(l++[r]).length≤12:=by simp;omega
 have ec:=aeu hq.1 l;by_cases a0:at'=0
 ·unfold ms
  rw[if_pos a0,if_pos a0,sR_app];rcases hr with rfl | rfl<;>cases k<;>simp_all[sR,wR]<;>omega
 by_cases c0:cp (k::l)=0
 ·have c1:k≠cq∧cp l=0:=by
   rw[Eu]at c0;split at c0
   ·omega
   ·rename_i h
    exact⟨fun e=>h (.inl e),Decidable.not_not.1 fun e=>h (.inr e)⟩
  rw[c1.2]at ec;have hB:=Mx (l++[r])
  cases b with
  | true =>
   have e:=h2 rfl c1.1;unfold ms;rw[if_neg a0,if_neg (by omega),if_pos e,if_neg a0,if_neg (by omega),if_pos rfl,aet];have h1:=h1 rfl;rcases hr with rfl | rfl<;>cases k<;>simp_all[sB,wB]<;>omega
  | false =>
   have big:∀n,49≤n->b'=true->ms at' b' (l++[r])<n:=fun n hn e=>by unfold ms;rw[if_neg a0,if_neg (by omega),if_pos e];omega
   have hv:ms at' false (k::l)=gv at' (sR (k::l)) (gf (k::l)):=by unfold ms;rw[if_neg a0,if_neg (by omega),if_neg (by decide)]
   rw[hv];by_cases eg:k=gq
   ·rw[show gf (k::l)=some 0 from if_pos eg,mQ]
    exact big _ (by omega) (h3 eg)
   ·have e1:gf (k::l)=(gf l).map (·+ 1):=if_neg eg
    rw[e1]
    cases b' with
    | true =>
     cases gf l with
     | none=>exact big _ (by rw[Option.map_none,oU];omega) rfl
     | some i=>exact big _ (by rw[Option.map_some,mQ];omega) rfl
    | false =>
     unfold ms;rw[if_neg a0,if_neg (by omega),if_neg (by decide)]
     cases hg:gf l with
     | some i =>
      rw[aev r hg,Option.map_some,mQ,mQ];omega
     | none =>
      rw[LK hg,if_neg hq.2,Option.map_none,oU,oU,sR_app,sR_cons];have:wR r=1:=by rcases hr with rfl | rfl<;>rfl
      have:wR k=2:=by cases k<;>simp_all[wR]
      omega
 ·have e:cp (k::l)=cp l+1:=by
   rw[Eu]at c0 ⊢;split at c0
   ·rename_i h
    rw[if_pos h]
   ·exact absurd rfl c0
  have hv:ms at' b (k::l)=120+(cp l+1):=by unfold ms;rw[if_neg a0,if_pos c0,e]
  rw[hv];by_cases c1:cp l=0
  ·have:=aox (at':=at') (b:=b') len (by omega)
   omega
  ·unfold ms
   rw[if_neg a0,if_pos (by omega)];omega
theorem ms_rest(b:Bool)(l:List KM):ms 0 b l=sR l:=rfl
theorem Sk{at':Nat}{b:Bool}{l:List KM}(h0:at'≠0)(h:cp l≠0):ms at' b l=120+cp l:=by unfold ms;rw[if_neg h0,if_pos h]
theorem Sl{at':Nat}{l:List KM}(h0:at'≠0)(h:cp l=0):ms at' true l=sB l:=by unfold ms;rw[if_neg h0,if_neg (by omega),if_pos rfl]
theorem Sm{at':Nat}{l:List KM}(h0:at'≠0)(h:cp l=0):ms at' false l=gv at' (sR l) (gf l):=by unfold ms;rw[if_neg h0,if_neg (by omega),if_neg (by decide)]
theorem drop{at' at2:Nat}{b:Bool}{k:KM}{l:List KM}(hl:l.length≤11)(hk:k=gr∨k=br)(h:at2=at'∨at2=0):ms at2 b l<ms at' b (k::l):=by
 have hR:=H7 l;have hs:=arp l;have hc:cp (k::l)=if cp l≠0 then cp l+1 else 0:=by rw[Eu];rcases hk with rfl | rfl<;>simp
 have hg:gf (k::l)=(gf l).map (·+ 1):=by rw[Uu];rcases hk with rfl | rfl<;>simp
 have w1:wR k=1:=by rcases hk with rfl | rfl<;>rfl
 have w2:1≤wB k:=by rcases hk with rfl | rfl<;>decide
 by_cases a0:at'=0
 ·have:at2=0:=by omega
  rw[this,a0,ms_rest,ms_rest,sR_cons];omega
 have eg:gv at' (sR (k::l)) (gf (k::l)) > sR l:=by
  rw[hg,sR_cons]
  cases gf l with
  | none=>rw[Option.map_none,oU];omega
  | some i=>rw[Option.map_some,mQ];omega
 by_cases a2:at2=0
 ·rw[a2,ms_rest]
  by_cases c0:cp (k::l)=0
  ·cases b with
   | true=>rw[Sl a0 c0,KL];omega
   | false=>rw[Sm a0 c0];exact eg
  ·rw[Sk a0 c0];omega
 have ea:at2=at':=by omega
 subst ea;by_cases c1:cp l=0
 ·have c0:cp (k::l)=0:=by rw[hc,if_neg (by omega)]
  cases b with
  | true=>rw[Sl a0 c0,Sl a0 c1,KL];omega
  | false =>
   rw[Sm a0 c0,Sm a0 c1,hg,sR_cons]
   cases gf l with
   | none=>rw[Option.map_none,oU,oU];omega
   | some i=>rw[Option.map_some,mQ,mQ];omega
 ·have c0:cp (k::l)=cp l+1:=by rw[hc,if_pos c1]
  rw[Sk a0 c1,Sk a0 (by omega)];omega
theorem take{at' at2:Nat}{b:Bool}{q:KM}{l:List KM}(hl:l.length≤11)(h0:at'≠0)(h:at2=1∧q=gq∨at'=1∧at2=2∧q=lq):ms at2 b (l++[q])<ms at' b (br::l):=by
 have hR:=H7 l;have qc:q≠cq:=by rcases h with ⟨_,rfl⟩ | ⟨_,_,rfl⟩<;>decide
 have n2:at2≠0:=by omega
 have ec:=aeu qc l;have hc:cp (br::l)=if cp l≠0 then cp l+1 else 0:=by rw[Eu];simp
 have hg:gf (br::l)=(gf l).map (·+ 1):=by rw[Uu];simp
 have wq:wB q=2∧wR q=2:=by rcases h with ⟨_,rfl⟩ | ⟨_,_,rfl⟩<;>exact⟨rfl,rfl⟩
 have e3:wB br=3:=rfl;have e1:wR br=1:=rfl;by_cases c1:cp l=0
 ·have c0:cp (br::l)=0:=by rw[hc,if_neg (by omega)]
  rw[c1]at ec
  cases b with
  | true=>rw[Sl h0 c0,Sl n2 ec,aet,KL];omega
  | false =>
   rw[Sm h0 c0,Sm n2 ec,hg,sR_app,sR_cons]
   cases hgl:gf l with
   | some i =>
    rw[aev q hgl,Option.map_some,mQ,mQ];omega
   | none =>
    rw[LK hgl,Option.map_none,oU];rcases h with ⟨_,rfl⟩ | ⟨a1,a2,rfl⟩
    ·rw[if_pos rfl,mQ]
     split<;>omega
    ·rw[if_neg (by decide),oU,if_neg (by omega),if_pos a1]
     omega
 ·have c0:cp (br::l)=cp l+1:=by rw[hc,if_pos c1]
  rw[Sk n2 (by omega),Sk h0 (by omega)];omega
end KM
end Go.Proofs.Lx
end
noncomputable section
namespace Go.Proofs.Lx
open Go Ev Sx Pl
set_option maxRecDepth 100000
section
variable {pl:List (List bn)}{x g:Int}{t:TTk}{s:TSl}{w:gK}{m:Bool×List Int}
theorem KN(h:MT pl x t)(m:zN3)(s:TSl)(w:gK):av (gy m t s w).1=av t∧(gy m t s w).1.1.2.2.1=t.1.2.2.1∧(gy m t s w).1.1.2.1=t.1.2.1:=by
 unfold gy;split
 ·have:=(h.take m.2).1
  exact⟨this.gl,this.tm,this.l⟩
 ·exact⟨rfl,rfl,rfl⟩
theorem PI.head(hp:jW pl)(hx:x≤4294967295)(h:PI pl x g t s (m::w)):OkM t m∧PI pl x g (gy m t s w).1 (gy m t s w).2.1 (gy m t s w).2.2 :=
 have q:=(h.sub (w':=w) (fun _ hm=>zT _ hm) (by have:=h.wl;simp at this;omega)).come hp hx (h.ms m (List.mem_cons_self ..))
 ⟨q.1,q.2.1⟩
theorem PI.calm(hp:jW pl)(hx:x≤4294967295):∀(n:Nat) {t:TTk} {s:TSl} {w:gK},PI pl x g t s w->Et n t s w∧PI pl x g (jv n t s w).1 (jv n t s w).2.1 (jv n t s w).2.2∧av (jv n t s w).1=av t∧(jv n t s w).1.1.2.2.1=t.1.2.2.1
 | 0,_,_,_,h=>⟨trivial,h,rfl,rfl⟩
 | n+1,_,_,[],h=>⟨trivial,h,rfl,rfl⟩
 | n+1,t,s,m::w,h=>by obtain⟨q1,q2⟩:=h.head hp hx;obtain⟨r1,r2,r3,r4⟩:=PI.calm hp hx n q2;have:=KN h.mt m s w;exact⟨⟨h.mt.kt,q1,r1⟩,r2,r3.trans this.1,r4.trans this.2.1⟩
theorem Dr(hp:jW pl)(hx:x≤4294967295){f:TTk->TSl->gK->Prop}{P:Nat->TTk->TSl->gK->Prop}
  (hs:∀{n:Nat} {t:TTk} {s:TSl} {m:Bool×List Int} {w:gK},PI pl x g t s (m::w)->P n t s (m::w)->∃n',n'<n∧P n' (gy m t s w).1 (gy m t s w).2.1 (gy m t s w).2.2) :
  ∀(k n:Nat) {t:TTk} {s:TSl} {w:gK},n≤k->PI pl x g t s w->P n t s w->(jv k t s w).2.2=[]
 | k,_,_,_,[],_,_,_=>by rw[LB]
 | 0,n,t,s,m::w,hn,h,hP=>by obtain⟨n',h1,_⟩:=hs h hP;omega
 | k+1,n,t,s,m::w,hn,h,hP=>by obtain⟨n',h1,h2⟩:=hs h hP;exact Dr hp hx hs (f:=f) k n' (by omega) (h.head hp hx).2 h2
def wtW(w:gK):Nat:=(w.map fun m=>if m.1=true then 1 else 2).sum
theorem Sn(m:zN3)(w:gK):wtW (m::w)=(if m.1=true then 1 else 2)+wtW w:=by simp[wtW]
theorem avu(w:gK):wtW w≤2*w.length:=by
 induction w with
 | nil=>simp[wtW]
 | cons m w ih=>rw[Sn];simp;split<;>omega
theorem Uv(w:gK)(b:Bool)(f:List Int):wtW (iA w b f)≤wtW w+if b=true then 1 else 2:=by
 unfold iA;split
 ·simp[wtW]
 ·omega
theorem SY(w:gK)(b:Bool):wtW (iA w b [])=wtW w:=by unfold iA;rw[if_neg (by simp)]
def mu(t:TTk):Nat :=
 if atT t=0 then 0 else 2*(8 - t.2.2.2.2.2.2.2.1).toNat+if atT t=1 then 2*t.2.2.2.1.length+3 else if atT t=2 then 2*(t.2.2.2.1.length - t.2.2.2.2.2.2.1.toNat)+2 else if atT t=3 then 2*(t.2.2.2.1.length - t.2.2.2.2.2.2.1.toNat)+1 else 1
theorem aEw(h:OkT t):mu t≤35:=by
 have h1:=h.bl;have h2:=h.tr.1;unfold mu;split
 ·omega
 split
 ·omega
 split
 ·omega
 split<;>omega
theorem aew(t:TTk)(k:Int):mu (jK t k)=0:=if_pos rfl
theorem Gl{p:TP}{c:_}{k:Int}(hk:k=1∨k=2∨k=4)(hc:(k=1->atT (p,c)=1)∧(k=2->atT (p,c)=3)∧(k=4->atT (p,c)=4)):mu (jf (p,c) k)<mu (p,c):=by
 have pos:0<mu (p,c):=by
  have a:atT (p,c)=1∨atT (p,c)=3∨atT (p,c)=4:=by
   rcases hk with e | e | e
   ·exact .inl (hc.1 e)
   ·exact .inr (.inl (hc.2.1 e))
   ·exact .inr (.inr (hc.2.2 e))
  unfold mu;rcases a with a | a | a<;>rw[a]<;>simp<;>omega
 unfold jf;split
 ·rw[aew];exact pos
 ·rename_i h8
  have e:∀j:Int,j≠0->mu (toT (anP (p,c)) j)=2*(8 - (c.2.2.2.2.2.2.1+1)).toNat+if j=1 then 2*c.2.2.1.length+3 else if j=2 then 2*(c.2.2.1.length - c.2.2.2.2.2.1.toNat)+2 else if j=3 then 2*(c.2.2.1.length - c.2.2.2.2.2.1.toNat)+1 else 1:=fun j hj=>if_neg hj;have h8:¬ 8≤c.2.2.2.2.2.2.1:=h8;rcases hk with rfl | rfl | rfl
  ·have a:=hc.1 rfl
   rw[e 1 (by decide)];unfold mu;rw[a];simp;omega
  ·have a:=hc.2.1 rfl
   rw[e 2 (by decide)];unfold mu;rw[a];simp;omega
  ·have a:=hc.2.2 rfl
   rw[e 4 (by decide)];unfold mu;rw[a];simp;omega
theorem avv{r:TR}(h:OkT t)(hg:goodX t)(ha:ApT (av t) (atT t))(g1:av t=1):mu (gF t r)<mu t:=by
 have k:atT t=1∨atT t=2∨atT t=3∨atT t=4:=by unfold ApT at ha;omega
 have hn:=h.n;have pos:0<mu t:=by unfold mu;rcases k with a | a | a | a<;>rw[a]<;>simp<;>omega
 have E:∀q,mu (jK t q)<mu t:=fun q=>by rw[aew];exact pos
 have nx:∀n:Int,0≤n->n≤t.2.2.2.1.length->mu (kQ (sF t n))≤2*(8 - t.2.2.2.2.2.2.2.1).toNat+if n=t.2.2.2.1.length then 1 else 2*(t.2.2.2.1.length - n.toNat)+2:=fun n n0 n1=>by
  unfold kQ;split
  ·rename_i q
   have q:(t.2.2.2.1.length:Int)≤n:=q;rw[if_pos (by omega)];exact Nat.le_refl _
  ·rename_i q
   have q:¬ (t.2.2.2.1.length:Int)≤n:=q;rw[if_neg (by omega)];exact Nat.le_refl _
 rcases k with a | a | a | a
 ·rw[RE a]
  cases gH r with
  | none=>exact E 2
  | some st =>
   dsimp only;split
   ·exact E 1
   split
   ·have:=nx 0 (by omega) (by omega)
    have e:mu t=2*(8 - t.2.2.2.2.2.2.2.1).toNat+(2*t.2.2.2.1.length+3):=by unfold mu;rw[a];simp
    rw[e];split at this<;>omega
   ·exact Gl (.inl rfl) ⟨fun _=>a,fun e=>absurd e (by decide),fun e=>absurd e (by decide)⟩
 ·rw[RF a]
  split
  ·exact E 2
  ·have e:mu t=2*(8 - t.2.2.2.2.2.2.2.1).toNat+(2*(t.2.2.2.1.length - t.2.2.2.2.2.2.1.toNat)+2):=by unfold mu;rw[a];simp
   rw[e];show 2*(8 - t.2.2.2.2.2.2.2.1).toNat+(2*(t.2.2.2.1.length - t.2.2.2.2.2.2.1.toNat)+1)<_;omega
 ·have e:mu t=2*(8 - t.2.2.2.2.2.2.2.1).toNat+(2*(t.2.2.2.1.length - t.2.2.2.2.2.2.1.toNat)+1):=by unfold mu;rw[a];simp
  rw[RG a];split
  ·have hlt:=of_decide_eq_true (hg.2 (.inr a))
   have:=nx (t.2.2.2.2.2.2.1+1) (by omega) (by omega);rw[e];split at this<;>omega
  ·exact Gl (.inr (.inl rfl)) ⟨fun e=>absurd e (by decide),fun _=>a,fun e=>absurd e (by decide)⟩
 ·rw[RH a]
  cases gH r with
  | none=>exact E 2
  | some st =>
   dsimp only;split
   ·exact E 1
   ·exact Gl (.inr (.inr rfl)) ⟨fun e=>absurd e (by decide),fun e=>absurd e (by decide),fun _=>a⟩
theorem asX(t:TTk):mu (dw t).1=mu t:=by
 unfold dw;split
 ·rfl
 ·split<;>rfl
theorem asY(h:MT pl x t)(g1:av t=1∨atT t=0)(f:List Int):(iH t f).2=[]∧mu (iH t f).1≤mu t∨mu (iH t f).1<mu t:=by
 cases hk:kV t.1 f with
 | none =>
  have e:iH t f=(t,[]):=by unfold iH;rw[hk]
  rw[e];exact .inl ⟨rfl,Nat.le_refl _⟩
 | some r =>
  have h0:atT t≠0:=fun e=>by have:=(h.r e).1;unfold kV at hk;rw[this,if_neg (by decide)]at hk;cases hk
  obtain⟨hg,hw,_⟩:=h.w h0
  have g1:av t=1:=by
   rcases g1 with e | e
   ·exact e
   ·exact absurd e h0
  have lt:mu (gF (cr t.1,t.2) r)<mu (cr t.1,t.2):=avv h.kt.drop hg.g hg.ap g1;have e:iH t f=if atT (gF (cr t.1,t.2) r)=0 then (gF (cr t.1,t.2) r,[]) else dw (gF (cr t.1,t.2) r):=by unfold iH;rw[hk]
  have em:mu (cr t.1,t.2)=mu t:=rfl;rw[e];split
  ·exact .inr (by rw[<- em];exact lt)
  ·exact .inr (by rw[asX,<- em];exact lt)
theorem LM(hp:jW pl)(hx:x≤4294967295)(h:PI pl x g t s w)(g1:av t=1∨atT t=0):(jv 400 t s w).2.2=[]:=by
 refine Dr hp hx (f:=fun _ _ _=>True) (P:=fun n t s w=>(av t=1∨atT t=0)∧n=wtW w+2*mu t) (fun {n t s m w} h hP=>?_) 400 (wtW w+2*mu t) ?_ h ⟨g1,rfl⟩
 ·obtain⟨g1,rfl⟩:=hP
  have gl:=(KN h.mt m s w).1
  have keep:av (gy m t s w).1=1∨atT (gy m t s w).1=0:=by
   rcases g1 with e | e
   ·exact .inl (gl.trans e)
   ·refine .inr ?_
    unfold gy;split
    ·exact Decidable.byContradiction fun n=>(h.mt.take m.2).2.2 n e
    ·exact e
  refine⟨_,?_,keep,rfl⟩;rw[Sn];unfold gy;split
  ·rename_i hb
   dsimp only;rcases asY h.mt g1 m.2 with ⟨e,q⟩ | q
   ·rw[e,SY]
    omega
   ·have:=Uv w false (iH t m.2).2
    rw[if_neg (by decide)]at this;omega
  ·dsimp only
   have:=Uv w true (pI s m.2).2;rw[if_pos rfl]at this;omega
 ·have h1:=avu w
  have h2:=aEw h.mt.kt;have h3:=h.wl;omega
end
def Ew(l:Int)(f:List Int):List Int:=if l=2 then (gU f).1.2.2 else (iC f).2.1
def aco(l:Int)(f:List Int):TA:=(mF (Ew l f)).1
def acp(l:Int)(f:List Int):TR:=(mh (Ew l f)).1
theorem EJ{l z:Int}{a:TA}(ha:OkA a)(hr:iR a=true)(hz:0≤z∧z≤65535):aco l (jo l 9 z a)=a:=by
 have hl:=pY (lD hr)
 have e:Ew l (jo l 9 z a)=jV a:=by
  unfold Ew jo;by_cases h2:l=2
  ·rw[if_pos h2,if_pos h2,Di (by omega) hl.2 hz.1 hz.2 (by decide) (by decide) (sj (lD hr))]
  ·rw[if_neg h2,if_neg h2,Hu (by omega) hl.2 (by decide) (by decide)]
 unfold aco;rw[e,Rx ha hr]
theorem H8{l z:Int}{r:TR}(hr:Rep r)(hz:0≤z∧z≤65535):acp l (gB l 9 z r)=r:=by
 have hl:=qW hr.rr
 have e:Ew l (gB l 9 z r)=kU r:=by
  unfold Ew gB;by_cases h2:l=2
  ·rw[if_pos h2,if_pos h2,Di (by omega) hl.2 hz.1 hz.2 (by decide) (by decide) (qy hr.rr)]
  ·rw[if_neg h2,if_neg h2,Hu (by omega) hl.2 (by decide) (by decide)]
 unfold acp;rw[e,yI hr.ok hr.rr hr.rt]
def gqA(gl x:Int):TA:=jd (7,if gl=2 then 3 else 4,x,0,0)
def kdQ(gl x:Int)(a:TA):KM:=if a=gqA gl x then .gq else if a=rdQ 256 8 then .lq else if gl=3∧a=jd (7,1,x,0,0) then .cq else .oq
def qB(gl x:Int)(r:TR):Bool:=match gH r with
 | none=>false
 | some st=>if gl=2 then decide (x≤st.2.2.2) else !decide (st.1=7∧st.2.2.1=x)
def krR(gl x:Int)(r:TR):KM:=if qB gl x r=true then .gr else .br
def kmM(gl x l:Int)(m:zN3):KM:=if m.1=true then krR gl x (acp l m.2) else kdQ gl x (aco l m.2)
def uW(x:Int)(a:TAg):Prop:=a.2.1.1=7∧a.2.2.2.1=x
instance (x:Int)(a:TAg):Decidable (uW x a):=inferInstanceAs (Decidable (_∧_))
def Bst(gl x:Int)(a:TAg):Bool:=if gl=2 then decide (a.2.2.2.2.1=x) else !decide (uW x a)
def atK(t:TTk):Nat:=if atT t=0 then 0 else if atT t=7 then 2 else 1
theorem Uw(gl x:Int)(a:TA):kdQ gl x a ≠ .gr∧kdQ gl x a ≠ .br:=by
 unfold kdQ
 repeat' split
 all_goals exact⟨by decide,by decide⟩
theorem Ey(gl x:Int)(r:TR):krR gl x r = .gr∨krR gl x r = .br:=by
 unfold krR;split
 ·exact .inl rfl
 ·exact .inr rfl
theorem aex{gl x:Int}{a:TA}(h:kdQ gl x a = .gq):a=gqA gl x:=by
 unfold kdQ at h;split at h
 ·assumption
 ·repeat' split at h
  all_goals cases h
theorem aey{gl x:Int}{a:TA}(h:kdQ gl x a = .lq):a=rdQ 256 8:=by
 unfold kdQ at h;split at h
 ·cases h
 split at h
 ·assumption
 ·repeat' split at h
  all_goals cases h
theorem avw{x:Int}{a:TA}(h:kdQ 3 x a ≠ .cq):a≠jd (7,1,x,0,0):=by
 intro e;apply h;unfold kdQ;have h1:a≠gqA 3 x:=by rw[e];intro q;have q:=congrArg (fun a:TA=>a.2.2.2.2.1.getD 1 0) q;exact absurd q (by decide:¬ ((1:Int)=4))
 have h2:a≠rdQ 256 8:=by rw[e];intro q;have q:=congrArg (·.1) q;exact absurd q (by decide:¬ ((23:Int)=3))
 rw[if_neg h1,if_neg h2,if_pos ⟨rfl,e⟩]
section
variable {pl:List (List bn)}{x g:Int}{t:TTk}{s:TSl}{w:gK}{a:TA}
theorem L6(ok:OkG s.2.2.1)(h:AG pl x s.2.2.1)(x1:1≤x)(hc:s.2.2.1.2.2.1=2∧s.2.2.1.2.2.2.1=x∨s.2.2.1.2.2.2.2.1=x):(doS (fQ s.2.2.1) (7,3,x,0,0)).2=0∧(doS (fQ s.2.2.1) (7,3,x,0,0)).1.2.2.2.2.1=x:=by
 have g:=h.own;have hc:(fQ s.2.2.1).2.2.1=2∧(fQ s.2.2.1).2.2.2.1=x∨(fQ s.2.2.1).2.2.2.2.1=x:=hc;generalize fQ s.2.2.1=b at *;have ho:=g.o;unfold doS;dsimp only;rw[if_neg (by omega),if_neg (by omega),if_neg (by decide),if_neg (by decide),if_pos rfl];by_cases e:b.2.2.2.2.1=x
 ·rw[if_pos e]
  exact⟨rfl,e⟩
 ·rw[if_neg e,if_pos (by omega)]
  exact⟨rfl,rfl⟩
theorem Sq(ok:OkG s.2.2.1)(h:AG pl x s.2.2.1)(x1:1≤x)(hl:s.2.2.1.2.2.2.2.1<x):(doS (fQ s.2.2.1) (7,4,x,0,0)).2=0∧¬ uW x (doS (fQ s.2.2.1) (7,4,x,0,0)).1:=by
 have g:=h.own;have hl:(fQ s.2.2.1).2.2.2.2.1<x:=hl;generalize fQ s.2.2.1=b at *;have ho:=g.o;unfold doS;dsimp only;rw[if_neg (by omega),if_neg (by omega),if_neg (by decide),if_neg (by decide),if_neg (by decide),if_neg (by omega)];by_cases e:b.2.1.1=7∧b.2.2.2.1=x
 ·rw[if_pos e]
  refine⟨rfl,fun q=>?_⟩;have:(0:Int)=x:=q.2;omega
 ·rw[if_neg e]
  exact⟨rfl,e⟩
theorem aez(hp:jW pl)(hx:x≤4294967295){C:Int->Int->Prop}(hC:∀v y,C v y->1≤y∧y≤x)(hs:OkS s)(h:AG pl x s.2.2.1)(x1:1≤x)(rq:RQ pl C a)(hn:¬ uW x s.2.2.1)(hne:a≠jd (7,1,x,0,0)):¬ uW x (gu s a).1.2.2.1:=by
 cases rq with
 | cmd v y n c hv hc h2 h0 =>
  have okc:=R8 hp hx hC hv hc h2 h0;have hy:=hC _ _ hc;by_cases e:(doS (fQ s.2.2.1) (7,v,y,n,c)).2=0
  ·have okA:OkG (doS (fQ s.2.2.1) (7,v,y,n,c)).1:=hs.a.own.doS (c:=(7,v,y,n,c)) okc.o okc.t okc.n
   have es:=tY hs okc (A:=(doS (fQ s.2.2.1) (7,v,y,n,c)).1) (Prod.ext rfl e) okA;rw[es];show ¬ uW x (doS (fQ s.2.2.1) (7,v,y,n,c)).1;have g:=h.own;have ok':=hs.a.own;have hn:¬ uW x (fQ s.2.2.1):=hn;have v1:v=1->y≠x:=fun ev ey=>by obtain⟨rfl,rfl⟩:=h0 (by omega);exact hne (by rw[ev,ey])
   clear es okA;generalize fQ s.2.2.1=b at *;have ho:=g.o;have pn:=ok'.pn;unfold doS at e ⊢;dsimp only at e ⊢;have free:∀z,¬ uW x (pG z):=fun z q=>by have:(0:Int)=x:=q.2;omega
   split at e
   ·exact absurd e (by simp)
   split at e
   ·exact absurd e (by simp)
   rename_i q1 q2;rw[if_neg q1,if_neg q2];split at e
   ·rename_i ev
    rw[if_pos ev];split at e
    ·exact absurd e (by simp)
    rename_i q3;rw[if_neg q3];split at e
    ·rename_i q4
     rw[if_pos q4];intro q;exact v1 ev (q4.trans q.2)
    ·rename_i q4
     rw[if_neg q4];intro q;exact v1 ev q.2
   ·rename_i ev
    rw[if_neg ev];split at e
    ·rename_i ev2
     rw[if_pos ev2];split at e
     ·rename_i q4
      rw[if_pos q4];intro q;have t1:b.2.2.2.1=x:=q.2;have:b.2.2.1≠0:=by omega
      have:=(pn this).1;exact hn ⟨by omega,t1⟩
     ·exact absurd e (by simp)
    ·rename_i ev2
     rw[if_neg ev2];split at e
     ·rename_i ev3
      rw[if_pos ev3];split at e
      ·rw[if_pos ‹_›];exact hn
      rw[if_neg ‹_›];split at e
      ·rw[if_pos ‹_›];exact free _
      ·exact absurd e (by simp)
     ·rename_i ev3
      rw[if_neg ev3];split at e
      ·exact absurd e (by simp)
      rw[if_neg ‹_›];split
      ·exact free _
      ·exact hn
  ·rw[Um (s:=s) okc e]
   exact hn
 | blk y k b hc hb =>
  obtain⟨hk,hf,hr⟩:=R9 hp hx hC hc hb;by_cases e:(putA (fQ s.2.2.1) 7 y (k:Int) b).2=0
  ·rw[F9 hs hf (by omega) hr (A:=(putA (fQ s.2.2.1) 7 y (k:Int) b).1) (Prod.ext rfl e)]
   show ¬ uW x (putA (fQ s.2.2.1) 7 y (k:Int) b).1;have hn:¬ uW x (fQ s.2.2.1):=hn;have g:=h.own;have ok':=hs.a.own;generalize fQ s.2.2.1=A at *;unfold putA at e ⊢;split at e
   ·exact absurd e (by simp)
   split at e
   ·exact absurd e (by simp)
   rw[if_neg ‹_›,if_neg ‹_›];split at e
   ·exact absurd e (by simp)
   rename_i q;rw[if_neg q];have q:A.2.2.1=1∧A.2.2.2.1=y:=Decidable.not_not.1 q;intro o;have t1:A.2.2.2.1=x:=o.2;have ho:=g.o;have:=(ok'.pn (by omega)).1;exact hn ⟨by omega,t1⟩
  ·rw[EI hp hx hC hf (by omega) hr e]
   exact hn
 | back k h =>
  have e:(512+(k:Int)*32).toNat=512+k*32:=by omega
  rw[vR s (Ga h)];exact hn
 | look =>
  rw[vR s (by decide)];exact hn
theorem EK(hs:OkS s):gu s (rdQ 256 8)=(s,(3,0,[],iq s.2.2.1,0,0)):=by rw[vR s (by decide)];show (s,((3:Int),(0:Int),([]:List Bool),((kW s.2.2.1).drop 256).take 8,(0:Int),(0:Int)))=_;rw[De hs.a]
theorem xU{gl f:Int}(A:TAg):qB gl x (f,0,[],iq A,0,0)=true↔(if gl=2 then x≤A.2.2.2.2.1 else ¬ uW x A):=by
 unfold qB;rw[uM];dsimp only;by_cases e:gl=2
 ·rw[if_pos e,if_pos e,decide_eq_true_iff]
 ·rw[if_neg e,if_neg e,Bool.not_eq_true',decide_eq_false_iff_not]
  exact Iff.rfl
theorem acr(hp:jW pl)(hx:x≤4294967295)(h:PI pl x g t s w)(a0:atT t≠0)(hg:av t=2∨av t=3)(rq:RQ pl (CQ x g s.2.2.1.2.2.2.2.1 (av t=1)) a) :
  (kdQ (av t) x a = .gq->Bst (av t) x (gu s a).1.2.2.1=true∧qB (av t) x (gu s a).2=true)∧(Bst (av t) x s.2.2.1=true->kdQ (av t) x a = .lq->qB (av t) x (gu s a).2=true) ∧
  (Bst (av t) x s.2.2.1=true->kdQ (av t) x a ≠ .cq->Bst (av t) x (gu s a).1.2.2.1=true):=by
 have x1:=h.mt.xp (by omega);have chg:=(h.req hp hx (z:=0) (by decide) rq).2.2;rcases hg with hg | hg
 ·rw[hg]
  have gx:=h.g2 hg;have B2:∀A,Bst 2 x A=true↔A.2.2.2.2.1=x:=fun A=>by unfold Bst;rw[if_pos rfl,decide_eq_true_iff]
  refine⟨fun e=>?_,fun hb e=>?_,fun hb _=>?_⟩
  ·have ea:=aex e
   have ea:a=jd (7,3,x,0,0):=ea;obtain⟨q1,q2⟩:=L6 h.ks.a h.ag x1 (h.cm hg a0);have okc:OkC (7,3,x,0,0):=⟨(by decide:(0:Int)≤7∧(7:Int)≤65535),(by decide:(0:Int)≤3∧(3:Int)≤255),by show 0≤x∧x≤4294967295;omega,(by decide:(0:Int)≤0∧(0:Int)≤65535),(by decide:(0:Int)≤0∧(0:Int)≤4294967295)⟩;have okA:OkG (doS (fQ s.2.2.1) (7,3,x,0,0)).1:=h.ks.a.own.doS (c:=(7,3,x,0,0)) okc.o okc.t okc.n;rw[ea,tY h.ks okc (A:=(doS (fQ s.2.2.1) (7,3,x,0,0)).1) (Prod.ext rfl q1) okA];refine⟨(B2 _).2 q2,(xU _).2 ?_⟩;rw[if_pos rfl,q2];exact Int.le_refl _
  ·rw[aey e,EK h.ks]
   refine (xU _).2 ?_;rw[if_pos rfl,(B2 _).1 hb];exact Int.le_refl _
  ·refine (B2 _).2 ?_
   have hb:=(B2 _).1 hb;rcases chg with q | q
   ·exact q.2.trans hb
   ·omega
 ·rw[hg]
  have gx:=h.g1 (.inr hg);have lg:=h.lg;have B3:∀A,Bst 3 x A=true ↔ ¬ uW x A:=fun A=>by unfold Bst;rw[if_neg (by decide)];simp
  refine⟨fun e=>?_,fun hb e=>?_,fun hb e=>?_⟩
  ·have ea:=aex e
   have ea:a=jd (7,4,x,0,0):=ea;obtain⟨q1,q2⟩:=Sq h.ks.a h.ag x1 (by omega);have okc:OkC (7,4,x,0,0):=⟨(by decide:(0:Int)≤7∧(7:Int)≤65535),(by decide:(0:Int)≤4∧(4:Int)≤255),by show 0≤x∧x≤4294967295;omega,(by decide:(0:Int)≤0∧(0:Int)≤65535),(by decide:(0:Int)≤0∧(0:Int)≤4294967295)⟩;have okA:OkG (doS (fQ s.2.2.1) (7,4,x,0,0)).1:=h.ks.a.own.doS (c:=(7,4,x,0,0)) okc.o okc.t okc.n;rw[ea,tY h.ks okc (A:=(doS (fQ s.2.2.1) (7,4,x,0,0)).1) (Prod.ext rfl q1) okA];exact⟨(B3 _).2 q2,(xU _).2 (by rw[if_neg (by decide)];exact q2)⟩
  ·rw[aey e,EK h.ks]
   exact (xU _).2 (by rw[if_neg (by decide)];exact (B3 _).1 hb)
  ·exact (B3 _).2 (aez hp hx (fun v y h=>h.1) h.ks h.ag x1 rq ((B3 _).1 hb) (avw e))
theorem aEx{p:TP}{c:_}{r:TR}(ha:ApT (av (cr p,c)) (atT (cr p,c)))(hg:av (cr p,c)=2∨av (cr p,c)=3)(ho:c.1=7)(hx:c.2.1=x) :
  (qB (av (cr p,c)) x r=true->atT (gF (cr p,c) r)=0)∧(qB (av (cr p,c)) x r=false->atT (gF (cr p,c) r)=(if av (cr p,c)=2 then 5 else 6)∨atT (cr p,c)≠7∧atT (gF (cr p,c) r)=7):=by
 have eo:∀st:TSt,nu st (cr p,c)=decide (st.1=7∧st.2.2.1=x):=fun st=>by unfold nu;show decide (st.1=c.1∧st.2.2.1=c.2.1)=_;rw[ho,hx]
 rcases hg with hg | hg
 ·rw[hg,if_pos rfl]
  have k:atT (cr p,c)=5∨atT (cr p,c)=7:=by unfold ApT at ha;omega
  unfold qB;rcases k with k | k
  ·rw[anQ k]
   cases hr:gH r with
   | none=>exact⟨fun h=>(by cases h),fun _=>.inr ⟨by rw[k];decide,rfl⟩⟩
   | some st =>
    dsimp only;rw[if_pos rfl];have ec:((cr p,c).2.2.1≤st.2.2.2)=(x≤st.2.2.2):=by rw[<- hx]
    by_cases q:x≤st.2.2.2
    ·rw[if_pos (by rw[ec];exact q)]
     exact⟨fun _=>rfl,fun h=>by rw[decide_eq_true q]at h;cases h⟩
    ·rw[if_neg (by rw[ec];exact q)]
     exact⟨fun h=>absurd (of_decide_eq_true h) q,fun _=>.inl rfl⟩
  ·rw[RI k,if_pos hg]
   cases hr:gH r with
   | none=>exact⟨fun h=>(by cases h),fun _=>.inl rfl⟩
   | some st =>
    dsimp only;rw[if_pos rfl];have ec:((cr p,c).2.2.1≤st.2.2.2)=(x≤st.2.2.2):=by rw[<- hx]
    by_cases q:x≤st.2.2.2
    ·rw[if_pos (by rw[ec];exact q)]
     exact⟨fun _=>rfl,fun h=>by rw[decide_eq_true q]at h;cases h⟩
    ·rw[if_neg (by rw[ec];exact q)]
     exact⟨fun h=>absurd (of_decide_eq_true h) q,fun _=>.inl rfl⟩
 ·have n2:¬ (3:Int)=2:=by decide
  rw[hg,if_neg n2];have k:atT (cr p,c)=6∨atT (cr p,c)=7:=by unfold ApT at ha;omega
  unfold qB;rcases k with k | k
  ·rw[anR k]
   cases hr:gH r with
   | none=>exact⟨fun h=>(by cases h),fun _=>.inr ⟨by rw[k];decide,rfl⟩⟩
   | some st =>
    dsimp only;rw[if_neg n2,eo];by_cases q:st.1=7∧st.2.2.1=x
    ·rw[decide_eq_true q,if_pos rfl]
     exact⟨fun h=>(by cases h),fun _=>.inl rfl⟩
    ·rw[decide_eq_false q,if_neg (by decide)]
     exact⟨fun _=>rfl,fun h=>by cases h⟩
  ·rw[RI k,if_neg (by rw[show (cr p,c).2.2.2.2.1=3 from hg];decide)]
   cases hr:gH r with
   | none=>exact⟨fun h=>(by cases h),fun _=>.inl rfl⟩
   | some st =>
    dsimp only;rw[if_neg n2,eo];by_cases q:st.1=7∧st.2.2.1=x
    ·rw[decide_eq_true q,if_pos rfl]
     exact⟨fun h=>(by cases h),fun _=>.inl rfl⟩
    ·rw[decide_eq_false q,if_neg (by decide)]
     exact⟨fun _=>rfl,fun h=>by cases h⟩
end
end Go.Proofs.Lx
end
