/- Proved in the last of these 16 parts (this is part 13): TalkCalm. Conditions: those of the given statement, and no others. -/
import Derived.Test.YtljkanofaahagaaGreatPartl
import Derived.Test.YtljkanofaahagaaGreatPartk
set_option linter.unusedVariables false
set_option linter.unusedSimpArgs false
set_option linter.unusedSectionVars false
open Option renaming bind → zC, bind_some → zD
open List renaming replicate → zE, getD_eq_getElem?_getD → zX, mem_of_getElem? → zY, length_append → zZ, length_map → kA, length_take → kB, length_replicate → kD
open Int renaming ofNat → zF, toNat → zI, eq_ofNat_of_zero_le → zN, toNat_natCast → zQ, tmod_eq_emod_of_nonneg → kC
open Bool renaming and_eq_true → zO
noncomputable section
namespace Go.Proofs.Lx
open Go Ev Sx Pl
set_option maxRecDepth 100000
def rdA(a:TA):TA:=(if a.1=23 then 3 else a.1,a.2.1,a.2.2.1,0,[],[])
def uq(s:TSl)(a:TA):TR:=if isE a.1=true then Mv a else (a.1,(F6 (wX s) (rdA a)).2)
theorem avj{a:TA}(ha:OkA a)(hr:iR a=true)(he:isE a.1=false)(hc:kF a=true):OkA (rdA a)∧iR (rdA a)=true∧kF (rdA a)=true∧isE (rdA a).1=false:=by
 have nil:∀x∈([]:List Int),0≤x∧x≤65535:=fun x hx=>by cases hx
 cases hra:lD hr with
 | bits f p n hf h1 h2 =>
  rcases hf with rfl | rfl
  ·exact⟨ha,hr,hc,he⟩
  ·exact⟨ha,hr,hc,he⟩
 | words f p n hf h1 h2 =>
  rcases hf with rfl | rfl
  ·exact⟨ha,hr,hc,he⟩
  ·exact⟨ha,hr,hc,he⟩
 | coil p b=>cases he
 | word p x=>cases he
 | coils p l h1 h2=>cases he
 | regs p l h1 h2=>cases he
 | swap p n t l h1 h2 h3 h4 =>
  have hc1:=(zO _ _ ▸ (show (rdH p n.toNat && decide (t=272∧l.length=8∨t=288∧l.length=20))=true from hc):_∧_).1;refine⟨⟨(by decide:(0:Int)≤3),(by decide:(3:Int)≤255),ha.at0,ha.at1,ha.m0,ha.m1,(by decide:(0:Int)≤0),(by decide:(0:Int)≤65535),nil,Nat.zero_le _,Nat.zero_le _⟩,?_,hc1,rfl⟩;show wN (3,p,n,0,[],[]) (125,0,0,false,false)=true;unfold wN;dsimp only;have e:jE n 125=true:=by unfold jE;rw[if_neg (by decide),if_pos (iK.2 h3),iO.2 h4]
  rw[e];rfl
theorem A8{s:TSl}(h:OkS s){a:TA}(ha:OkA a)(hr:iR a=true)(hc:kF a=true):pq (s,a,())=some (uq s a,()):=by
 show aaj aak s a=_;unfold aaj uq;rw[Ru ha hr,zD]
 cases he:isE a.1 with
 | true=>rfl
 | false =>
  obtain⟨h1,h2,h3,h4⟩:=avj ha hr he hc;have hd:=avi (Uc h) h1 h2
  have hdo:(doM (wX s) (rdA a)).2=F6 (wX s) (rdA a):=by
   unfold doM;rw[if_pos h3,h4]
   have:wrM (wX s) (rdA a)=wX s:=by
    unfold isE at h4;have h5:=of_decide_eq_false h4;unfold wrM;have h23:(rdA a).1≠23:=by show (if a.1=23 then (3:Int) else a.1)≠23;split<;>omega
    rw[if_neg (by omega),if_neg (by omega),if_neg h23]
   rw[this];rfl
  have K:aak s a 0 0 0 0 (if a.1=23 then 3 else a.1) a.2.1 a.2.2.1 0=some ((a.1,(F6 (wX s) (rdA a)).2),()):=by have hd':l5 (SP,wX s,((if a.1=23 then (3:Int) else a.1),a.2.1,a.2.2.1,0,[],[]),())=_:=hd;show aai alO s a 0 0 0 0 _ a.2.1 a.2.2.1 0=_;unfold aai;simp only[Rj,avf h,zD,hd',tF (eqAs_refl oK.rs),auU (eqAs_refl oK.rs)];show some ((a.1,(doM (wX s) (rdA a)).2.2),())=_;rw[hdo]
  rw[if_neg (fun e=>Bool.false_ne_true e),if_neg (fun e=>Bool.false_ne_true e)];by_cases e:a.1=23
  ·rw[if_pos (fo.2 e)]
   rw[if_pos e]at K;exact K
  ·rw[if_neg (fun x=>e (fo.1 x))]
   rw[if_neg e]at K;exact K
def lT(w:List Int):TCm×Int :=
 if w.length≠8∨w.getD 7 0≠0∨256≤w.getD 1 0 then ((0,0,0,0,0),2)
 else ((w.getD 0 0,w.getD 1 0,65536*w.getD 2 0+w.getD 3 0,w.getD 4 0,65536*w.getD 5 0+w.getD 6 0),0)
theorem adX{w:List Int}(hr:∀x∈w,0≤x∧x≤65535):J4 (w,())=some ((lT w).1,(lT w).2,()):=by
 show aan aao w=_;unfold aan;by_cases hl:w.length=8
 ·rw[if_neg (fun e=>gP.1 e (by rw[bu];omega))]
  have g:∀k:Nat,k<8->at? w (k:Int)=some (w.getD k 0):=fun k hk=>by obtain⟨x,hx⟩:=jM (xs:=w) (i:=k) (by omega);rw[gZ hx,zX,hx];rfl
  have rg:∀k:Nat,k<8->0≤w.getD k 0∧w.getD k 0≤65535:=fun k hk=>by obtain⟨x,hx⟩:=jM (xs:=w) (i:=k) (by omega);rw[zX,hx];exact hr x (zY hx)
  have g0:at? w 0=some (w.getD 0 0):=g 0 (by omega);have g1:at? w 1=some (w.getD 1 0):=g 1 (by omega);have g2:at? w 2=some (w.getD 2 0):=g 2 (by omega);have g3:at? w 3=some (w.getD 3 0):=g 3 (by omega);have g4:at? w 4=some (w.getD 4 0):=g 4 (by omega);have g5:at? w 5=some (w.getD 5 0):=g 5 (by omega);have g6:at? w 6=some (w.getD 6 0):=g 6 (by omega);have g7:at? w 7=some (w.getD 7 0):=g 7 (by omega)
  have K:∀b,aao w b (0,0,0,0,0)=some (if b=true then (((0,0,0,0,0):TCm),(2:Int),()) else ((w.getD 0 0,cvt .u8 (w.getD 1 0),65536*w.getD 2 0+w.getD 3 0,w.getD 4 0,65536*w.getD 5 0+w.getD 6 0),0,())):=fun b=>by
   show aam w b (0,0,0,0,0)=_;unfold aam
   cases b with
   | true=>rfl
   | false =>
    have r2:=rg 2 (by omega);have r3:=rg 3 (by omega);have r5:=rg 5 (by omega);have r6:=rg 6 (by omega);rw[if_neg (by decide),if_neg (by decide),g0,zD,g1,zD,g2,zD,g3,zD,g4,zD,g5,zD,g6,zD,y7 r2.1 r2.2 r3.1 r3.2,zD,y7 r5.1 r5.2 r6.1 r6.2,zD]
  rw[g7,zD];unfold lT;by_cases h7:w.getD 7 0=0
  ·rw[if_neg (fun e=>gP.1 e h7),g1,zD,K]
   by_cases h1:256≤w.getD 1 0
   ·rw[if_pos (iK.2 h1),if_pos (Or.inr (Or.inr h1))]
   ·have r1:=rg 1 (by omega)
    rw[if_neg (fun e=>h1 (iK.1 e)),if_neg (by omega),show cvt .u8 (w.getD 1 0)=w.getD 1 0 from wu8 r1.1 (by omega)]
  ·rw[if_pos (gP.2 h7),K,if_pos rfl,if_pos (Or.inr (Or.inl h7))]
 ·rw[if_pos (gP.2 (by rw[bu];omega))]
  unfold lT;rw[if_pos (Or.inl hl)];rfl
def iM(a:TAg)(p:Int)(w:List Int):TAg×Int :=
 if p=272 then
  if (lT w).2≠0 then (a,3) else if (doS (fQ a) (lT w).1).2≠0 then (a,4) else ((doS (fQ a) (lT w).1).1,0)
 else
  if (rdB w).2.2.2.2≠0 then (a,3) else if (putA (fQ a) (rdB w).1 (rdB w).2.1 (rdB w).2.2.1 (rdB w).2.2.2.1).2≠0 then (a,4)
  else ((putA (fQ a) (rdB w).1 (rdB w).2.1 (rdB w).2.2.1 (rdB w).2.2.2.1).1,0)
def atW(a:TA):Int:=if a.1=23 then a.2.2.2.1 else a.2.1
def jN(s:TSl)(a:TAg):TSl:=(s.1,s.2.1,a,s.2.2.2)
def KA(s:TSl)(c:List Bool):TSl:=(s.1,s.2.1,s.2.2.1,c)
def gu(s:TSl)(a:TA):TSl×TR :=
 if kF a=false then (s,(a.1,2,[],[],0,0))
 else if a.1=5∨a.1=15 then (KA s (cpy s.2.2.2 a.2.1.toNat a.2.2.2.2.2),uq (KA s (cpy s.2.2.2 a.2.1.toNat a.2.2.2.2.2)) a)
 else if a.2.2.2.2.1.length=0 then (s,uq s a)
 else if (iM s.2.2.1 (atW a) a.2.2.2.2.1).2≠0 then (s,(a.1,(iM s.2.2.1 (atW a) a.2.2.2.2.1).2,[],[],0,0))
 else (jN s (iM s.2.2.1 (atW a) a.2.2.2.2.1).1,uq (jN s (iM s.2.2.1 (atW a) a.2.2.2.2.1).1) a)
theorem Ll{w:List Int}(hr:∀x∈w,0≤x∧x≤65535):(0≤(lT w).1.1∧(lT w).1.1≤65535)∧(0≤(lT w).1.2.2.1∧(lT w).1.2.2.1≤4294967295)∧(0≤(lT w).1.2.2.2.1∧(lT w).1.2.2.2.1≤65535):=by
 unfold lT;split
 ·exact⟨⟨by decide,by decide⟩,⟨by decide,by decide⟩,⟨by decide,by decide⟩⟩
 ·rename_i h
  have rg:∀k:Nat,0≤w.getD k 0∧w.getD k 0≤65535:=fun k=>by
   rw[zX]
   cases hx:w[k]? with
   | none=>exact⟨by decide,by decide⟩
   | some x=>exact hr x (zY hx)
  have r0:=rg 0;have r2:=rg 2;have r3:=rg 3;have r4:=rg 4;exact⟨r0,⟨by dsimp only;omega,by dsimp only;omega⟩,r4⟩
theorem Ud{w:List Int}(hr:∀x∈w,0≤x∧x≤65535)(h:(rdB w).2.2.2.2=0):(0≤(rdB w).1∧(rdB w).1≤65535)∧(0≤(rdB w).2.2.1∧(rdB w).2.2.1≤7)∧gV (rdB w).2.2.2.1=true∧(∀x∈(rdB w).2.2.2.1.2,0≤x∧x≤65535):=by
 have rg:∀k:Nat,0≤w.getD k 0∧w.getD k 0≤65535:=fun k=>by
  rw[zX]
  cases hx:w[k]? with
  | none=>exact⟨by decide,by decide⟩
  | some x=>exact hr x (zY hx)
 unfold rdB at h ⊢;split
 ·rename_i q
  rw[if_pos q]at h;exact absurd h (by decide)
 ·rename_i q
  rw[if_neg q]at h;split
  ·rename_i q2
   rw[if_pos q2]at h;exact absurd h (by decide)
  ·rename_i q2
   rw[if_neg q2]at h;split
   ·rename_i q3
    have r3:=rg 3;exact⟨rg 0,⟨r3.1,by dsimp only;omega⟩,q3.1,fun x hx=>hr x (List.mem_of_mem_drop (List.mem_of_mem_take hx))⟩
   ·rename_i q3
    rw[if_neg q3]at h;exact absurd h (by decide)
theorem Lm{a:TAg}(h:OkG a){p:Int}{w:List Int}(hr:∀x∈w,0≤x∧x≤65535):OkG (iM a p w).1:=by
 unfold iM;split
 ·split
  ·exact h
  ·split
   ·exact h
   ·obtain⟨r1,r2,r3⟩:=Ll hr
    exact h.own.doS r1 r2 r3
 ·split
  ·exact h
  ·rename_i q
   obtain⟨r1,r2,r3,r4⟩:=Ud hr (Classical.not_not.1 q);split
   ·exact h
   ·exact h.own.putA r1 r3 r4
theorem tX{s:TSl}(h:OkS s){a:TA}(ha:OkA a)(hr:iR a=true):OkS (gu s a).1:=by
 unfold gu;split
 ·exact h
 ·rename_i hc
  have hc:kF a=true:=by cases e:kF a with | true=>rfl | false=>exact absurd e hc
  have hw:=(adV (Uc h) ha hr hc).c;split
  ·rename_i q
   unfold wrM at hw;rw[if_pos q]at hw;exact⟨h.u,h.l,h.a,hw⟩
  ·split
   ·exact h
   ·split
    ·exact h
    ·exact⟨h.u,h.l,Lm h.a ha.w,h.c⟩
theorem eight{α:Type}{l:List α}(h:l.length=8):∃a b c d e f g i,l=[a,b,c,d,e,f,g,i]:=by
 match l,h with
 | [a,b,c,d,e,f,g,i],_=>exact⟨a,b,c,d,e,f,g,i,rfl⟩
theorem ara{α:Type}{l:List α}{z:α}(h:l.length=8):[l.getD 0 z,l.getD 1 z,l.getD 2 z,l.getD 3 z,l.getD 4 z,l.getD 5 z,l.getD 6 z,l.getD 7 z]=l:=by obtain⟨a,b,c,d,e,f,g,i,rfl⟩:=eight h;rfl
theorem Ue{a:TAg}(h1:a.2.2.2.2.2.1.2.1.length=8)(h2:a.2.2.2.2.2.1.2.2.length=8):jT a=a:=by unfold jT;rw[ara h1,ara h2]
def abP(x:Int)(s:TSl)(a:TA):Option (As wK.rs) :=
 amQ x s.2.2.2 s.1 s.2.1 s.2.2.1.1 s.2.2.1.2.1.1 s.2.2.1.2.1.2 s.2.2.1.2.2.1 s.2.2.1.2.2.2.1 s.2.2.1.2.2.2.2.1 s.2.2.1.2.2.2.2.2.1.1
  (s.2.2.1.2.2.2.2.2.1.2.1.getD 0 false) (s.2.2.1.2.2.2.2.2.1.2.1.getD 1 false) (s.2.2.1.2.2.2.2.2.1.2.1.getD 2 false) (s.2.2.1.2.2.2.2.2.1.2.1.getD 3 false) (s.2.2.1.2.2.2.2.2.1.2.1.getD 4 false) (s.2.2.1.2.2.2.2.2.1.2.1.getD 5 false) (s.2.2.1.2.2.2.2.2.1.2.1.getD 6 false) (s.2.2.1.2.2.2.2.2.1.2.1.getD 7 false)
  (s.2.2.1.2.2.2.2.2.1.2.2.getD 0 (0,[])).1 (s.2.2.1.2.2.2.2.2.1.2.2.getD 0 (0,[])).2 (s.2.2.1.2.2.2.2.2.1.2.2.getD 1 (0,[])).1 (s.2.2.1.2.2.2.2.2.1.2.2.getD 1 (0,[])).2 (s.2.2.1.2.2.2.2.2.1.2.2.getD 2 (0,[])).1 (s.2.2.1.2.2.2.2.2.1.2.2.getD 2 (0,[])).2 (s.2.2.1.2.2.2.2.2.1.2.2.getD 3 (0,[])).1 (s.2.2.1.2.2.2.2.2.1.2.2.getD 3 (0,[])).2 (s.2.2.1.2.2.2.2.2.1.2.2.getD 4 (0,[])).1 (s.2.2.1.2.2.2.2.2.1.2.2.getD 4 (0,[])).2 (s.2.2.1.2.2.2.2.2.1.2.2.getD 5 (0,[])).1 (s.2.2.1.2.2.2.2.2.1.2.2.getD 5 (0,[])).2 (s.2.2.1.2.2.2.2.2.1.2.2.getD 6 (0,[])).1 (s.2.2.1.2.2.2.2.2.1.2.2.getD 6 (0,[])).2 (s.2.2.1.2.2.2.2.2.1.2.2.getD 7 (0,[])).1 (s.2.2.1.2.2.2.2.2.1.2.2.getD 7 (0,[])).2
  s.2.2.1.2.2.2.2.2.2 0 0 0 0 0 0 0 0 false false false false false false false false 0 0 0 0 0 0 0 0 0 0 0 0 0 a
abbrev RS:=Option (As wK.rs)
def F7(s:TSl)(a:TA)(p:Int):RS :=
 if eqi 272 p=true then zC (J4 (a.2.2.2.2.1,())) fun y=>if nei y.2.1 0=true then zC (lF (a.1,3,())) fun y=>some (s,y.1,()) else amb (ay wK.rs) [zC (Ay (s.2.2.1,y.1,())) fun y=>if nei y.2.1 0=true then zC (lF (a.1,4,())) fun y=>some (s,y.1,()) else zC (pq (jN s (jT y.1),a,())) fun y_1=>some (jN s (jT y.1),y_1.1,()),zC (Ay (s.2.2.1,y.1,())) fun y=>if nei y.2.1 0=true then zC (lF (a.1,4,())) fun y=>some (s,y.1,()) else zC (pq (jN s (jT y.1),a,())) fun y_1=>some (jN s (jT y.1),y_1.1,())]
 else if eqi 288 p=true then zC (Kb (a.2.2.2.2.1,())) fun y=>if nei y.2.2.2.2.1 0=true then zC (lF (a.1,3,())) fun y=>some (s,y.1,()) else amb (ay wK.rs) [zC (Az (s.2.2.1,y.1,y.2.1,y.2.2.1,y.2.2.2.1,())) fun y=>if nei y.2.1 0=true then zC (lF (a.1,4,())) fun y=>some (s,y.1,()) else zC (pq (jN s (jT y.1),a,())) fun y_1=>some (jN s (jT y.1),y_1.1,()),zC (Az (s.2.2.1,y.1,y.2.1,y.2.2.1,y.2.2.2.1,())) fun y=>if nei y.2.1 0=true then zC (lF (a.1,4,())) fun y=>some (s,y.1,()) else zC (pq (jN s (jT y.1),a,())) fun y_1=>some (jN s (jT y.1),y_1.1,())]
 else zC (lF (a.1,2,())) fun y=>some (s,y.1,())
def abQ(s:TSl)(a:TA):RS:=if le (add .i64 (cvt .i64 a.2.1) (zF a.2.2.2.2.2.length)) (zF s.2.2.2.length)=true then need (ge a.2.1 0) (need (le a.2.1 (zF s.2.2.2.length)) (need (le (zF s.2.2.2.length) (zF s.2.2.2.length)) (need (le (a.2.1+(zF s.2.2.2.length - a.2.1)) (zF s.2.2.2.length)) (zC (pq (KA s (s.2.2.2.take (zI a.2.1)++a.2.2.2.2.2.take (zI (zF s.2.2.2.length - a.2.1))++s.2.2.2.drop (zI a.2.1+(a.2.2.2.2.2.take (zI (zF s.2.2.2.length - a.2.1))).length)),a,())) fun y=>some (KA s (s.2.2.2.take (zI a.2.1)++a.2.2.2.2.2.take (zI (zF s.2.2.2.length - a.2.1))++s.2.2.2.drop (zI a.2.1+(a.2.2.2.2.2.take (zI (zF s.2.2.2.length - a.2.1))).length)),y.1,()))))) else zC (pq (s,a,())) fun y=>some (s,y.1,())
theorem adY{x:Int}{s:TSl}{a:TA}(h1:s.2.2.1.2.2.2.2.2.1.2.1.length=8)(h2:s.2.2.1.2.2.2.2.2.1.2.2.length=8):abP x s a =
  if nei x 0=true then zC (lF (a.1,x,())) fun y=>some (s,y.1,())
  else if eqi a.1 5=true then abQ s a
  else if eqi a.1 15=true then abQ s a
  else if eqi (zF a.2.2.2.2.1.length) 0=true then zC (pq (s,a,())) fun y=>some (s,y.1,())
  else if eqi a.1 23=true then F7 s a a.2.2.2.1
  else F7 s a a.2.1:=by
 obtain⟨u,l,⟨bk,⟨lo,lf⟩,ph,tx,la,⟨st,hv,bs⟩,tk⟩,co⟩:=s;obtain⟨b0,b1,b2,b3,b4,b5,b6,b7,e1⟩:=eight h1;obtain⟨c0,c1,c2,c3,c4,c5,c6,c7,e2⟩:=eight h2;dsimp only at e1 e2;subst e1 e2;rfl
theorem Rv{r:TR}(h:RR r):pZ r=true:=by
 cases h with
 | ex f e h0 h h1 h2=>exact (xP h0 h h1 h2).rt
 | bits f l hf h1 h2 h3 =>
  have hb:AL (f,0,l,[],0,0)=true:=by unfold AL;dsimp only;rw[decide_eq_true h1,decide_eq_true h2,decide_eq_true h3,decide_eq_true rfl];rfl
  rcases hf with rfl | rfl<;>exact hb
 | words f l hf h1 h2 =>
  have hb:rZ (f,0,[],l,0,0)=true:=by unfold rZ;dsimp only;rw[decide_eq_true h1,decide_eq_true h2,decide_eq_true rfl];rfl
  rcases hf with rfl | rfl | rfl<;>exact hb
 | coil b p =>
  show obR (5,0,[b],[],p,0)=true;unfold obR;rw[decide_eq_true rfl];rfl
 | word x p =>
  show owR (6,0,[],[x],p,0)=true;unfold owR;rw[decide_eq_true rfl];rfl
 | coils p n h1 h2 =>
  show ctR 1968 (15,0,[],[],p,n)=true;unfold ctR;dsimp only;rw[decide_eq_true h1,decide_eq_true h2,decide_eq_true rfl];rfl
 | regs p n h1 h2 =>
  show ctR 123 (16,0,[],[],p,n)=true;unfold ctR;dsimp only;rw[decide_eq_true h1,decide_eq_true h2,decide_eq_true rfl];rfl
theorem uJ{r:TR}(h:OkR r)(hr:RR r):Rep r:=⟨h,hr,Rv hr⟩
theorem Uf{x:bn}(hf:gV x=true->∀w∈x.2,0≤w∧w≤65535):∀w∈itB x,0≤w∧w≤65535:=by
 intro w hw;unfold itB at hw;split at hw
 ·rename_i h
  have h2:=of_decide_eq_true h;grind
 simp_all
theorem adZ{s:nZ}{o n:Int}(ho:0≤o∧o≤65535)(hn:0≤n∧n≤7)(ht:0≤s.1∧s.1≤4294967295)(hw:∀b∈s.2.2,∀w∈b.2,0≤w∧w≤65535):∀w∈kE s o n,0≤w∧w≤65535:=by
 intro w hm;unfold kE at hm;split at hm
 ·rename_i x h1 h2
  unfold iB at hm;rcases List.mem_cons.1 hm with e | hm
  ·omega
  ·rcases List.mem_cons.1 hm with e | hm
   ·omega
   ·rcases List.mem_cons.1 hm with e | hm
    ·omega
    ·rcases List.mem_cons.1 hm with e | hm
     ·omega
     ·exact Uf (fun _=>hw x (zY h2)) w hm
 simp_all
theorem Lr{a:TAg}(h:OkG a):∀w∈iq a,0≤w∧w≤65535:=by
 intro w hw;have h1:=h.l1;have h2:=h.pr;have h3:=h.tr;have h4:=h.ar;have hc:a.2.2.2.2.2.1.2.1.count true≤8:=by have:=List.count_le_length (a:=true) (l:=a.2.2.2.2.2.1.2.1);have:=h.hl;omega
 simp only[iq,List.mem_cons,List.not_mem_nil,or_false]at hw;omega
theorem OkG.st{a:TAg}(h:OkG a):0≤a.2.2.2.2.2.1.1∧a.2.2.2.2.2.1.1≤4294967295:=by
 by_cases e:a.2.2.1=0
 ·have:=(h.p0 e).2.2.1;omega
 ·have:=(h.pn e).2.2;have:=h.tr;omega
theorem ad1{a:TAg}(h:OkG a):∀w∈kW a,0≤w∧w≤65535:=by
 have hg:∀k:Nat,k≤8->∀w∈(List.range k).foldl (fun h b=>cpy h (512+b*32) (kE a.2.2.2.2.2.1 a.2.1.1 (b:Int))) (cpy (cpy (zE 756 0) 0 a.1) 256 (iq a)),0≤w∧w≤65535:=by
  intro k
  induction k with
  | zero =>
   intro _;rw[List.range_zero,List.foldl_nil];exact Ky (P:=fun y=>0≤y∧y≤65535) (Ky (P:=fun y=>0≤y∧y≤65535) (fun y hy=>by simp_all) h.bw) (Lr h)
  | succ k ih =>
   intro hk;rw[List.range_succ,List.foldl_append,List.foldl_cons,List.foldl_nil];exact Ky (P:=fun y=>0≤y∧y≤65535) (ih (by omega)) (adZ h.l1 ⟨by omega,by omega⟩ h.st h.wb)
 exact hg 8 (by omega)
theorem A9{c:List Bool}{p n:Nat}(h:p+n≤c.length):(kG c p n).length=(n+7) / 8*8:=by grind[kG,zZ,kB,List.length_drop,kD]
theorem uK{f:Int}(h0:0≤f)(h1:f≤255){b:List Bool}{w:List Int}(hb:b.length≤100000)(hw:∀x∈w,0≤x∧x≤65535)(hl:w.length≤100000):OkR (f,0,b,w,0,0) :=
 ⟨h0,h1,(by decide:(0:Int)≤0),(by decide:(0:Int)≤255),hw,(by decide:(0:Int)≤0),(by decide:(0:Int)≤65535),(by decide:(0:Int)≤0),(by decide:(0:Int)≤65535),hb,hl⟩
theorem KB:∀x∈([]:List Int),0≤x∧x≤65535:=fun x hx=>by cases hx
theorem xQ{s:TSl}(h:OkS s){a:TA}(ha:OkA a)(hr:iR a=true)(hc:kF a=true):Rep (uq s a):=by
 have p0:=ha.at0;have p1:=ha.at1;have hcl:=h.c;have hil:=F5 s.2.2.1;have hhl:=Db h.a;have hhr:=ad1 h.a;have hsr:=Lr h.a;unfold kF at hc
 cases lD hr with
 | bits f p n hf g1 g2 =>
  obtain⟨p,rfl⟩:=zN (show 0≤p from p0);obtain⟨n,rfl⟩:=zN (show 0≤n by omega);rcases hf with rfl | rfl
  ·have hc:(p:Int)+(n:Int)≤16:=of_decide_eq_true hc
   have hl:=A9 (c:=s.2.2.2) (p:=p) (n:=n) (by omega);exact uJ (uK (f:=1) (by decide) (by decide) (by show (kG s.2.2.2 p n).length≤_;omega) KB (by decide)) (.bits 1 _ (Or.inl rfl) (by show 8≤(kG s.2.2.2 p n).length;omega) (by show (kG s.2.2.2 p n).length≤2000;omega) (by show (kG s.2.2.2 p n).length%8=0;omega))
  ·have hc:(p:Int)+(n:Int)≤8:=of_decide_eq_true hc
   have hl:=A9 (c:=tV s.2.2.1) (p:=p) (n:=n) (by omega);exact uJ (uK (f:=2) (by decide) (by decide) (by show (kG (tV s.2.2.1) p n).length≤_;omega) KB (by decide)) (.bits 2 _ (Or.inr rfl) (by show 8≤(kG (tV s.2.2.1) p n).length;omega) (by show (kG (tV s.2.2.1) p n).length≤2000;omega) (by show (kG (tV s.2.2.1) p n).length%8=0;omega))
 | words f p n hf g1 g2 =>
  obtain⟨p,rfl⟩:=zN (show 0≤p from p0);obtain⟨n,rfl⟩:=zN (show 0≤n by omega);rcases hf with rfl | rfl
  ·have hle:=Da (p:=(p:Int)) (m:=n) (by omega) hc
   have hl:((kW s.2.2.1).drop p |>.take n).length=n:=by grind
   exact uJ (uK (f:=3) (by decide) (by decide) (by decide) (fun x hx=>hhr x (List.mem_of_mem_drop (List.mem_of_mem_take hx))) (by show ((kW s.2.2.1).drop p |>.take n).length≤_;omega)) (.words 3 _ (Or.inl rfl) (by show 1≤((kW s.2.2.1).drop p |>.take n).length;omega) (by show ((kW s.2.2.1).drop p |>.take n).length≤125;omega))
  ·have hc:(p:Int)+(n:Int)≤8:=of_decide_eq_true hc
   have hl:((iq s.2.2.1).drop p |>.take n).length=n:=by rw[kB,List.length_drop];show min n (8 - p)=n;omega
   exact uJ (uK (f:=4) (by decide) (by decide) (by decide) (fun x hx=>hsr x (List.mem_of_mem_drop (List.mem_of_mem_take hx))) (by show ((iq s.2.2.1).drop p |>.take n).length≤_;omega)) (.words 4 _ (Or.inr (Or.inl rfl)) (by show 1≤((iq s.2.2.1).drop p |>.take n).length;omega) (by show ((iq s.2.2.1).drop p |>.take n).length≤125;omega))
 | coil p b =>
  exact uJ ⟨(by decide:(0:Int)≤5),(by decide:(5:Int)≤255),(by decide:(0:Int)≤0),(by decide:(0:Int)≤255),KB,p0,p1,(by decide:(0:Int)≤0),(by decide:(0:Int)≤65535),(by decide:1≤100000),(by decide:0≤100000)⟩ (.coil b p)
 | word p x =>
  simp_all
 | coils p l g1 g2 =>
  exact uJ ⟨(by decide:(0:Int)≤15),(by decide:(15:Int)≤255),(by decide:(0:Int)≤0),(by decide:(0:Int)≤255),KB,p0,p1,by show (0:Int)≤(l.length:Int);omega,by show (l.length:Int)≤65535;omega,(by decide:0≤100000),(by decide:0≤100000)⟩ (.coils p (l.length:Int) (by omega) (by omega))
 | regs p l g1 g2 =>
  exact uJ ⟨(by decide:(0:Int)≤16),(by decide:(16:Int)≤255),(by decide:(0:Int)≤0),(by decide:(0:Int)≤255),KB,p0,p1,by show (0:Int)≤(l.length:Int);omega,by show (l.length:Int)≤65535;omega,(by decide:0≤100000),(by decide:0≤100000)⟩ (.regs p (l.length:Int) (by omega) (by omega))
 | swap p n t l g1 g2 g3 g4 =>
  obtain⟨p,rfl⟩:=zN (show 0≤p from p0);obtain⟨n,rfl⟩:=zN (show 0≤n by omega);have hc1:=(zO _ _ ▸ (show (rdH (p:Int) n && decide (t=272∧l.length=8∨t=288∧l.length=20))=true from hc):_∧_).1;have hle:=Da (p:=(p:Int)) (m:=n) (by omega) hc1;have hl:((kW s.2.2.1).drop p |>.take n).length=n:=by grind
  exact uJ (uK (f:=23) (by decide) (by decide) (by decide) (fun x hx=>hhr x (List.mem_of_mem_drop (List.mem_of_mem_take hx))) (by show ((kW s.2.2.1).drop p |>.take n).length≤_;omega)) (.words 23 _ (Or.inr (Or.inr rfl)) (by show 1≤((kW s.2.2.1).drop p |>.take n).length;omega) (by show ((kW s.2.2.1).drop p |>.take n).length≤125;omega))
theorem ad2(a:TAg)(p:Int)(w:List Int):(iM a p w).2=0∨(iM a p w).2=3∨(iM a p w).2=4:=by unfold iM;grind
theorem arb{a:TA}(h:¬ kF a=false):kF a=true:=by simp_all
theorem nT{s:TSl}(h:OkS s){a:TA}(ha:OkA a)(hr:iR a=true):Rep (gu s a).2:=by
 have hf:=En hr;have ok:=tX h ha hr;unfold gu at ok ⊢;split
 ·grind[xP]
 ·rename_i hc
  rw[if_neg hc]at ok;have hc:=arb hc;split
  ·simp_all[if_pos,xQ]
  ·rename_i q
   rw[if_neg q]at ok;split
   ·simp_all[xQ]
   ·rename_i q2
    rw[if_neg q2]at ok;split
    ·grind[ad2,atW,xP]
    simp_all[if_neg,xQ]
theorem avk{s:TSl}(h:OkS s){a:TA}(ha:OkA a)(hr:iR a=true)(hc:kF a=true){p:Int}(hp:p=272∨p=288) :
  F7 s a p=some (if (iM s.2.2.1 p a.2.2.2.2.1).2≠0 then (s,(a.1,(iM s.2.2.1 p a.2.2.2.2.1).2,[],[],0,0),()) else (jN s (iM s.2.2.1 p a.2.2.2.2.1).1,uq (jN s (iM s.2.2.1 p a.2.2.2.2.1).1) a,())):=by
 have hf:=En hr;have w4:∀e,lF (a.1,e,())=some ((a.1,e,[],[],0,0),()):=fun e=>by grind[AZ,G9]
 have hok:=Lm h.a (p:=p) ha.w;have fin:∀g:TAg,OkG g->zC (pq (jN s (jT g),a,())) (fun y_1=>some (jN s (jT g),y_1.1,()))=(some (jN s g,uq (jN s g) a,()):RS):=fun g hg=>by rw[Ue hg.hl hg.sl,A8 (s:=jN s g) ⟨h.u,h.l,hg,h.c⟩ ha hr hc];rfl
 unfold F7 iM at *;by_cases e:p=272
 ·rw[if_pos e]at hok
  rw[if_pos (fo.2 e.symm),if_pos e,adX ha.w,zD,tF (eqAs_refl _)];obtain⟨r1,r2,r3⟩:=Ll ha.w;dsimp only;by_cases q1:(lT a.2.2.2.2.1).2≠0
  ·simp_all[if_pos,gP]
  ·rw[if_neg q1]at hok
   rw[if_neg (fun x=>q1 (gP.1 x)),if_neg q1,avc h.a r3,zD];dsimp only;by_cases q2:(doS (fQ s.2.2.1) (lT a.2.2.2.2.1).1).2≠0
   ·simp_all[if_pos,gP]
   simp_all[if_neg,gP]
 ·have e2:p=288:=by omega
  rw[if_neg e]at hok;rw[if_neg (fun x=>e (fo.1 x).symm),if_pos (fo.2 e2.symm),if_neg e,anE ha.w,zD,tF (eqAs_refl _)];dsimp only;by_cases q1:(rdB a.2.2.2.2.1).2.2.2.2≠0
  ·simp_all[if_pos,gP]
  ·rw[if_neg q1]at hok
   obtain⟨r1,r2,r3,r4⟩:=Ud ha.w (Classical.not_not.1 q1);rw[if_neg (fun x=>q1 (gP.1 x)),if_neg q1,asC h.a r2 r3,zD];dsimp only;by_cases q2:(putA (fQ s.2.2.1) (rdB a.2.2.2.2.1).1 (rdB a.2.2.2.2.1).2.1 (rdB a.2.2.2.2.1).2.2.1 (rdB a.2.2.2.2.1).2.2.2.1).2≠0
   ·simp_all[if_pos,gP]
   simp_all[if_neg,gP]
theorem ad3{s:TSl}(h:OkS s){a:TA}(ha:OkA a)(hr:iR a=true)(hc:kF a=true)(hf:a.1=5∨a.1=15):abQ s a=some (KA s (cpy s.2.2.2 a.2.1.toNat a.2.2.2.2.2),uq (KA s (cpy s.2.2.2 a.2.1.toNat a.2.2.2.2.2)) a,()):=by
 have ok:=tX h ha hr;unfold gu at ok;rw[if_neg (by simp_all),if_pos hf]at ok;have p0:=ha.at0;have p1:=ha.at1;have hcl:=h.c;have lb:=ha.lb;have hle:=hc;unfold kF at hle;rw[if_neg (by omega),if_neg (by omega),if_neg (by omega),if_pos hf,decide_eq_true_eq]at hle;unfold abQ;have e1:add .i64 (cvt .i64 a.2.1) (zF a.2.2.2.2.2.length)=a.2.1+(a.2.2.2.2.2.length:Int):=by grind[jr,bu,jS]
 rw[e1,if_pos (iO.2 (by simp_all)),fT (iK.2 p0),fT (iO.2 (by grind)),fT (iO.2 (Int.le_refl _)),fT (iO.2 (by omega)),qd (by grind),A8 ok ha hr hc];rfl
theorem anI{s:TSl}(h:OkS s){a:TA}(ha:OkA a)(hr:iR a=true):abP (if kF a=true then 0 else 2) s a=some ((gu s a).1,(gu s a).2,()):=by
 have hf:=En hr;have w4:∀e,lF (a.1,e,())=some ((a.1,e,[],[],0,0),()):=fun e=>by grind[AZ,G9]
 rw[adY h.a.hl h.a.sl];unfold gu
 cases hc:kF a with
 | false =>
  simp_all[Bool.false_eq_true,if_false,if_true,if_pos,nei]
 | true =>
  simp only[if_true,Bool.true_eq_false,if_false];rw[if_neg (show ¬ nei 0 0=true by decide)];by_cases q5:a.1=5
  ·simp_all[if_pos,fo,ad3,Or.inl]
  ·rw[if_neg (fun e=>q5 (fo.1 e))]
   by_cases q15:a.1=15
   ·simp_all[if_pos,fo,ad3,Or.inr]
   ·rw[if_neg (fun e=>q15 (fo.1 e)),if_neg (show ¬ (a.1=5∨a.1=15) by omega)]
    by_cases q0:a.2.2.2.2.1.length=0
    ·rw[if_pos (fo.2 (by simp_all)),if_pos q0,A8 h ha hr hc]
     rfl
    ·rw[if_neg (fun e=>q0 (by simp_all[fo,bu])),if_neg q0]
     have hp:atW a=272∨atW a=288:=by
      have hc2:=hc;unfold kF at hc2
      have hc3:¬ (a.1=1∨a.1=2∨a.1=3∨a.1=4):=by
       intro e;apply q0
       cases lD hr with
       | bits f p n hf=>rfl
       | words f p n hf=>rfl
       | coil p b=>rfl
       | word p x=>omega
       | coils p l=>rfl
       | regs p l=>omega
       | swap p n t l=>omega
      rw[if_neg (by omega),if_neg (by omega),if_neg (by omega),if_neg (by omega)]at hc2;unfold atW;grind
     have hcm:=avk h ha hr hc hp
     have e2:(if eqi a.1 23=true then F7 s a a.2.2.2.1 else F7 s a a.2.1)=F7 s a (atW a):=by
      unfold atW;by_cases q23:a.1=23
      ·simp_all[if_pos,fo]
      simp_all[if_neg,fo]
     grind
def mF(b:List Int):TA×Int:=((Cj (b,())).map fun y=>(y.1,y.2.1)).getD (zA,1)
theorem ad4{b:List Int}(hb:∀x∈b,0≤x∧x≤255):Cj (b,())=some ((mF b).1,(mF b).2,()) ∧
  (((mF b).2=0∧OkA (mF b).1∧iR (mF b).1=true∧toS (jV (mF b).1)=toS b)∨(((mF b).2=1∨(mF b).2=3)∧(mF b).1=(b.headD 0,0,0,0,[],[]))):=by
 match b with
 | []=>exact⟨rfl,Or.inr ⟨Or.inl rfl,rfl⟩⟩
 | f::r =>
  obtain⟨a,e,h1,h2⟩:=anx hb;simp_all[mF]
def lH(s:TSl)(b:List Int):TSl×TR:=if (mF b).2≠0 then (s,(rem (b.headD 0) 128,(mF b).2,[],[],0,0)) else gu s (mF b).1
theorem anJ{b:List Int}(hb:∀x∈b,0≤x∧x≤255):0≤b.headD 0∧b.headD 0≤255:=by
 match b with
 | []=>simp
 | f::r=>simp_all
theorem asF{x:Int}(h0:0≤x):0≤rem x 128∧rem x 128<128:=by grind[rem,kC]
theorem wY{s:TSl}(h:OkS s){b:List Int}(hb:∀x∈b,0≤x∧x≤255):OkS (lH s b).1∧Rep (lH s b).2:=by unfold lH;obtain⟨_,h2⟩:=ad4 hb;grind[asF,anJ,xP,tX,nT]
theorem ad5{s:TSl}(h:OkS s):Zf (s,())=some (s.1,s.2.1,s.2.2.1.1,s.2.2.1.2.1.1,s.2.2.1.2.1.2,s.2.2.1.2.2.1,s.2.2.1.2.2.2.1,s.2.2.1.2.2.2.2.1,s.2.2.1.2.2.2.2.2.1.1,
  s.2.2.1.2.2.2.2.2.1.2.1.getD 0 false,s.2.2.1.2.2.2.2.2.1.2.1.getD 1 false,s.2.2.1.2.2.2.2.2.1.2.1.getD 2 false,s.2.2.1.2.2.2.2.2.1.2.1.getD 3 false,s.2.2.1.2.2.2.2.2.1.2.1.getD 4 false,s.2.2.1.2.2.2.2.2.1.2.1.getD 5 false,s.2.2.1.2.2.2.2.2.1.2.1.getD 6 false,s.2.2.1.2.2.2.2.2.1.2.1.getD 7 false,
  (s.2.2.1.2.2.2.2.2.1.2.2.getD 0 (0,[])).1,(s.2.2.1.2.2.2.2.2.1.2.2.getD 0 (0,[])).2,(s.2.2.1.2.2.2.2.2.1.2.2.getD 1 (0,[])).1,(s.2.2.1.2.2.2.2.2.1.2.2.getD 1 (0,[])).2,(s.2.2.1.2.2.2.2.2.1.2.2.getD 2 (0,[])).1,(s.2.2.1.2.2.2.2.2.1.2.2.getD 2 (0,[])).2,(s.2.2.1.2.2.2.2.2.1.2.2.getD 3 (0,[])).1,(s.2.2.1.2.2.2.2.2.1.2.2.getD 3 (0,[])).2,(s.2.2.1.2.2.2.2.2.1.2.2.getD 4 (0,[])).1,(s.2.2.1.2.2.2.2.2.1.2.2.getD 4 (0,[])).2,(s.2.2.1.2.2.2.2.2.1.2.2.getD 5 (0,[])).1,(s.2.2.1.2.2.2.2.2.1.2.2.getD 5 (0,[])).2,(s.2.2.1.2.2.2.2.2.1.2.2.getD 6 (0,[])).1,(s.2.2.1.2.2.2.2.2.1.2.2.getD 6 (0,[])).2,(s.2.2.1.2.2.2.2.2.1.2.2.getD 7 (0,[])).1,(s.2.2.1.2.2.2.2.2.1.2.2.getD 7 (0,[])).2,
  s.2.2.1.2.2.2.2.2.2,s.2.2.2,()):=by
 have hw:∀i,((s.2.2.1.2.2.2.2.2.1.2.2.getD i (0,[])).2).length≤1000000:=fun i=>by
  rw[zX]
  cases hx:s.2.2.1.2.2.2.2.2.1.2.2[i]? with
  | none=>simp
  | some x=>have:=h.a.bb x (zY hx);grind
 have hc:=h.c;have hbl:=h.a.bl;show aj5 s=_;unfold aj5;rw[A7 (by omega),zD,oZ (by omega),zD,oZ (hw 0),zD,oZ (hw 1),zD,oZ (hw 2),zD,oZ (hw 3),zD,oZ (hw 4),zD,oZ (hw 5),zD,oZ (hw 6),zD,oZ (hw 7),zD]
theorem Ho{s:TSl}(h:OkS s){b:List Int}(hb:∀x∈b,0≤x∧x≤255):Kc (s,b,())=some ((lH s b).1,kU (lH s b).2,()):=by
 obtain⟨ok,rp⟩:=wY h hb;obtain⟨h1,h2⟩:=ad4 hb;show amT s b=_;unfold amT;rw[ad5 h,zD]
 have key:zC (Cj (b,())) (fun y=>if eqi y.2.1 0=true then zC (wJ ()) fun y_1=>zC (FT (y_1.1,y.1,())) fun y_2=>abP y_2.1 s y.1 else abP y.2.1 s y.1)=some ((lH s b).1,(lH s b).2,()):=by
  rw[h1,zD];dsimp only;unfold lH;rcases h2 with ⟨e,ha,hr,_⟩ | ⟨e,e2⟩
  ·rw[if_pos (fo.2 e),Rj,zD,Rl ha hr,zD,if_neg (show ¬ ((mF b).2≠0) by omega)]
   grind[anI]
  ·have hne:(mF b).2≠0:=by omega
   rw[if_neg (fun x=>hne (fo.1 x)),if_pos hne,adY h.a.hl h.a.sl,if_pos (gP.2 hne),e2,AZ];rfl
 refine (congrArg (fun z=>zC z fun y=>zC (QO (y.2.1,())) fun y_1=>(some (y.1,y_1.1,()):Option (As amS.rs))) key).trans ?_;rw[zD,adS rp];rfl
def uL(b:List Int):List Int:=b.take 64++zE (64 - b.length) 0
theorem Hq(b:List Int):(uL b).length=64:=by grind[uL,zZ,kB,kD]
theorem abR{b:List Int}(h:∀x∈b,0≤x∧x≤65535):∀x∈uL b,0≤x∧x≤65535:=by
 intro x hx;rcases List.mem_append.1 hx with e | e
 ·grind
 simp_all
theorem anK(b:List Int):Mf (b,())=some (uL b,()):=by show VR b=_;unfold VR uL;grind
theorem Rx{a:TA}(ha:OkA a)(hr:iR a=true):mF (jV a)=(a,0):=by
 have hl:=(pY (lD hr)).1;unfold mF;have:Cj (jV a,())=some (a,0,()):=by show P6 (jV a)=_;unfold P6;rw[if_neg (by grind[fo,bu]),adF ha hr];rfl
 simp_all
theorem Ry{s:TSl}{a:TA}(ha:OkA a)(hr:iR a=true):lH s (jV a)=gu s a:=by simp_all[lH,Rx,if_neg]
theorem Ug{a:TA}(hr:iR a=true){e:Int}(he:e≠0)(h:RR (a.1,e,[],[],0,0)):nD a (a.1,e,[],[],0,0)=true:=by unfold nD;rw[hr,Rv h];dsimp only;rw[if_pos he,decide_eq_true rfl];rfl
theorem SN{c:List Bool}{p n:Nat}(h:p+n≤c.length):(kG c p n).drop n=zE ((n+7) / 8*8 - n) false:=by grind[kG,List.drop_left',kB,List.length_drop]
theorem F8{s:TSl}(h:OkS s){a:TA}(ha:OkA a)(hr:iR a=true)(hc:kF a=true):nD a (uq s a)=true:=by
 have rp:=xQ h ha hr hc;have p0:=ha.at0;have hcl:=h.c;have hil:=F5 s.2.2.1;have hhl:=Db h.a;unfold nD;rw[hr,rp.rt,Bool.true_and,Bool.true_and];unfold kF at hc;have bits:∀(c:List Bool) (p n:Nat),p+n≤c.length->1≤n->(if 0<(kG c p n).length then decide (((kG c p n).length:Int)=((n:Int)+7) / 8*8) && !decide (true∈(kG c p n).drop (zI (n:Int))) else decide ((([]:List Int).length:Int)=(n:Int)))=true:=fun c p n hle h1=>by have hl:=A9 hle;rw[if_pos (by omega),zQ,SN hle,decide_eq_true (by omega),decide_eq_false (by simp)];rfl
 have words:∀(c:List Int) (p n:Nat),p+n≤c.length->(if 0<([]:List Bool).length then decide ((([]:List Bool).length:Int)=((n:Int)+7) / 8*8) && !decide (true∈([]:List Bool).drop (zI (n:Int))) else decide ((((c.drop p).take n).length:Int)=(n:Int)))=true:=fun c p n hle=>by grind
 cases lD hr with
 | bits f p n hf g1 g2 =>
  obtain⟨p,rfl⟩:=zN (show 0≤p from p0);obtain⟨n,rfl⟩:=zN (show 0≤n by omega);rcases hf with rfl | rfl
  ·have hc:(p:Int)+(n:Int)≤16:=of_decide_eq_true hc
   exact bits s.2.2.2 p n (by omega) (by omega)
  ·have hc:(p:Int)+(n:Int)≤8:=of_decide_eq_true hc
   exact bits (tV s.2.2.1) p n (by omega) (by omega)
 | words f p n hf g1 g2 =>
  obtain⟨p,rfl⟩:=zN (show 0≤p from p0);obtain⟨n,rfl⟩:=zN (show 0≤n by omega);rcases hf with rfl | rfl
  ·have hle:=Da (p:=(p:Int)) (m:=n) (by omega) hc
   exact words (kW s.2.2.1) p n (by omega)
  ·have hc:(p:Int)+(n:Int)≤8:=of_decide_eq_true hc
   exact words (iq s.2.2.1) p n (by show p+n≤8;omega)
 | coil p b=>show (decide ((5:Int)=5) && decide (((5,0,[b],[],p,0):TR)=(5,0,[b],[],p,0)))=true;simp
 | word p x=>simp_all
 | coils p l g1 g2=>show (decide ((15:Int)=15) && decide (((15,0,[],[],p,(l.length:Int)):TR)=(15,0,[],[],p,(l.length:Int))))=true;simp
 | regs p l g1 g2=>show (decide ((16:Int)=16) && decide (((16,0,[],[],p,(l.length:Int)):TR)=(16,0,[],[],p,(l.length:Int))))=true;simp
 | swap p n t l g1 g2 g3 g4 =>
  obtain⟨p,rfl⟩:=zN (show 0≤p from p0);obtain⟨n,rfl⟩:=zN (show 0≤n by omega);have hc1:=(zO _ _ ▸ (show (rdH (p:Int) n && decide (t=272∧l.length=8∨t=288∧l.length=20))=true from hc):_∧_).1;have hle:=Da (p:=(p:Int)) (m:=n) (by omega) hc1;exact words (kW s.2.2.1) p n (by omega)
theorem Dc{s:TSl}(h:OkS s){a:TA}(ha:OkA a)(hr:iR a=true):nD a (gu s a).2=true:=by
 have rp:=nT h ha hr;have ok:=tX h ha hr;unfold gu at rp ok ⊢;split
 ·rename_i q
  rw[if_pos q]at rp;exact Ug hr (by decide) rp.rr
 ·rename_i hc
  rw[if_neg hc]at ok rp;have hc:=arb hc;split
  ·simp_all[if_pos,F8]
  ·rename_i q
   rw[if_neg q]at ok rp;split
   ·simp_all[F8]
   ·rename_i q2
    rw[if_neg q2]at ok rp;split
    ·rename_i q3
     rw[if_pos q3]at rp;exact Ug hr q3 rp.rr
    simp_all[if_neg,F8]
theorem Ls{a:TAg}(h:OkG a){p n:Nat}(hd:p+n≤512):∀k:Nat,k≤8->(((List.range k).foldl (fun h b=>cpy h (512+b*32) (kE a.2.2.2.2.2.1 a.2.1.1 (b:Int))) (cpy (cpy (zE 756 0) 0 a.1) 256 (iq a))).drop p).take n=((cpy (cpy (zE 756 0) 0 a.1) 256 (iq a)).drop p).take n
 | 0,_=>rfl
 | k+1,hk=>by have hl:=uI h k (by omega);rw[List.range_succ,List.foldl_append,List.foldl_cons,List.foldl_nil,Ub (by grind[rF]) (Or.inr (by omega)),Ls h hd k (by omega)]
theorem anL{a:TAg}(h:OkG a):(cpy (zE 756 (0:Int)) 0 a.1).length=756:=by have:=h.bl;simp_all[tT,kD]
theorem De{a:TAg}(h:OkG a):((kW a).drop 256).take 8=iq a:=by unfold kW;rw[Ls h (by omega) 8 (by omega)];exact adT (w:=iq a) (by rw[anL h];show 256+8≤756;omega)
theorem Lt{a:TAg}(h:OkG a){i:Nat}(hi:i<8):((kW a).drop (512+i*32)).take 20=kE a.2.2.2.2.2.1 a.2.1.1 (i:Int):=by
 have hg:∀k:Nat,i<k->k≤8->(((List.range k).foldl (fun h b=>cpy h (512+b*32) (kE a.2.2.2.2.2.1 a.2.1.1 (b:Int))) (cpy (cpy (zE 756 0) 0 a.1) 256 (iq a))).drop (512+i*32)).take 20=kE a.2.2.2.2.2.1 a.2.1.1 (i:Int):=by
  intro k
  induction k with
  | zero=>omega
  | succ k ih =>
   intro h1 h2;have hl:=uI h k (by omega);rw[List.range_succ,List.foldl_append,List.foldl_cons,List.foldl_nil];by_cases e:i=k
   ·grind[adT,List.range,cpy,kE,Int,zE,iq,rF]
   ·rw[Ub (by grind[rF]) (Or.inr (by omega)),ih (by omega) (by omega)]
 exact hg 8 hi (Nat.le_refl _)
theorem ad6{c:TCm}(h1:0≤c.2.1∧c.2.1≤255)(h2:0≤c.2.2.1∧c.2.2.1≤4294967295)(h3:0≤c.2.2.2.2∧c.2.2.2.2≤4294967295):Xu (c,())=some ([c.1,c.2.1,c.2.2.1 / 65536,c.2.2.1%65536,c.2.2.2.1,c.2.2.2.2 / 65536,c.2.2.2.2%65536,0],()):=by show ahk c=_;grind[ahk,parts_eq,cvt,abw]
theorem Ba{s:TSl}(h:OkS s):FI (s,())=some (s,()):=by
 have hc:=h.c;have hbl:=h.a.bl;obtain⟨u,l,⟨bk,ls,ph,tx,la,⟨st,hv,bs⟩,tk⟩,co⟩:=s;have hsl:bs.length=8:=h.a.sl;have hbb:∀b∈bs,b.2.length≤1000:=h.a.bb;show Ze JH (u,l,(bk,ls,ph,tx,la,(st,hv,bs),tk),co)=_;unfold Ze;dsimp only at hc hbl ⊢;rw[C5 (by omega),zD,oZ (by omega),zD];show JH 0 0 0 [(u,l,(bk,ls,ph,tx,la,(st,hv,bs),tk),co)] _=_;unfold JH;refine nI (N:=8) (mk:=fun i=>(0,0,(i:Int),[(u,l,(bk,ls,ph,tx,la,(st,hv,bs),tk),co)],_)) ?_ ?_ 8 0 _ (by omega) (by omega)
 ·intro self i hi
  show JG _ 0 0 (i:Int) [(u,l,(bk,ls,ph,tx,la,(st,hv,bs),tk),co)] _=_;obtain⟨b,hb⟩:=jM (xs:=bs) (i:=i) (by omega);have l8:lt (i:Int) 8=true:=fq.2 (by omega);have g0:ge (i:Int) 0=true:=iK.2 (by omega)
  have hset:bs.set i (b.1,b.2)=bs:=by
   apply List.ext_getElem?;intro j;by_cases e:i=j
   ·subst e
    rw[List.getElem?_set_self (by omega),hb]
   ·rw[List.getElem?_set_ne e]
  unfold JG;rw[if_pos l8,fT g0,fT l8,jy,zD];dsimp only;rw[gZ hb,zD,oZ (by have:=hbb b (zY hb);omega),zD,zD];dsimp only;rw[gZ hb,zD,jm (by omega),zQ,hset];rfl
 ·intro self
  show JG _ 0 0 (8:Int) [(u,l,(bk,ls,ph,tx,la,(st,hv,bs),tk),co)] _=_;unfold JG;rw[if_neg (by decide)];rfl
def Eo(s:TSl):TSl:=jN s (tickA (fQ s.2.2.1))
def Ep(s:TSl):TSl:=(s.1,s.2.1,bootA (fQ s.2.2.1),zE 16 false)
theorem anM{s:TSl}(h:OkS s):OkS (Eo s):=⟨h.u,h.l,h.a.own.tickA,h.c⟩
theorem anN{s:TSl}(h:OkS s):OkS (Ep s):=⟨h.u,h.l,h.a.own.bootA,rfl⟩
def pI(s:TSl)(f:List Int):TSl×List Int :=
 if s.2.1=2 then
  if (gU f).2≠0∨(gU f).1.2.1≠s.1 then (s,[]) else ((lH s (gU f).1.2.2).1,kN (gU f).1.1 (gU f).1.2.1 (kU (lH s (gU f).1.2.2).2))
 else
  if (iC f).2.2≠0∨(iC f).1≠s.1 then (s,[]) else ((lH s (iC f).2.1).1,iP ((iC f).1::kU (lH s (iC f).2.1).2))
theorem Uh{r:TR}(h:Rep r):2≤(kU r).length∧(kU r).length≤253:=qW h.rr
theorem EE{f:List Int}(hf:∀x∈f,0≤x∧x≤255):∀x∈(gU f).1.2.2,0≤x∧x≤255:=by
 intro x hx;unfold gU at hx;split at hx
 ·rename_i b0 b1 b2 b3 b4 b5 b6 pdu
  have hp:∀y∈pdu,0≤y∧y≤255:=fun y hy=>hf y (by simp[hy]);revert hx
  repeat' split
  all_goals first | exact fun hx=>hp x hx | (intro hx;cases hx)
 ·cases hx
theorem Hr{f:List Int}(hf:∀x∈f,0≤x∧x≤255):∀x∈(iC f).2.1,0≤x∧x≤255:=by
 intro x hx;unfold iC at hx;split at hx
 ·cases hx
 ·split at hx
  ·cases hx
  ·rename_i h0
   have hc:∀y∈(cutV f).1,0≤y∧y≤255:=by
    intro y hy;unfold cutV at hy;split at hy
    ·cases hy
    ·split at hy
     ·exact hf y (List.mem_of_mem_take hy)
     ·cases hy
   split at hx
   ·cases hx
   ·rename_i a r he
    rw[he]at hc;split at hx
    ·exact hc x (List.mem_cons_of_mem _ hx)
    ·cases hx
theorem anO{s:TSl}(h:OkS s){f:List Int}(hf:∀x∈f,0≤x∧x≤255)(hl:f.length≤100000):QT (s,f,())=some ((pI s f).1,(pI s f).2,()):=by
 have hu:=h.u;show abh Kh QS s f=_;unfold abh pI;by_cases hk:s.2.1=2
 ·rw[if_pos (fo.2 hk),if_pos hk,xJ hl hf,zD]
  have hb:=EE hf
  have K:∀t z,Kh 0 0 t [s] [z] (gU f).1=some (if t=true then (s,[],()) else ((lH s (gU f).1.2.2).1,if (gU f).1.2.1=s.1 then kN (gU f).1.1 (gU f).1.2.1 (kU (lH s (gU f).1.2.2).2) else ((Kh 0 0 t [s] [z] (gU f).1).getD (s,[],())).2.1,())):=fun t z=>by
   cases t with
   | true =>
    show Ke 0 0 true [s] [z] (gU f).1=_;unfold Ke;rw[if_pos rfl,jy,zD,Ba h];rfl
   | false =>
    obtain⟨ok,rp⟩:=wY h hb;have hlen:=Uh rp;have e:Kh 0 0 false [s] [z] (gU f).1=some ((lH s (gU f).1.2.2).1,kN (gU f).1.1 (gU f).1.2.1 (kU (lH s (gU f).1.2.2).2),()):=by show Ke 0 0 false [s] [z] (gU f).1=_;unfold Ke;rw[if_neg (by decide),jy,zD,Ho h hb,zD,zD];dsimp only;rw[aq7 (by omega) hlen.2];rfl
    rw[e];simp
  by_cases h0:(gU f).2=0
  ·rw[if_neg (fun e=>gP.1 e h0)]
   by_cases h1:(gU f).1.2.1=s.1
   ·have hn:nei (gU f).1.2.1 s.1=false:=by rw[Bool.eq_false_iff];exact fun e=>gP.1 e h1
    dsimp only;rw[hn,K,if_neg (by decide),if_pos h1,if_neg (by rintro (e | e);exact e h0;exact e h1)]
   ·dsimp only
    rw[gP.2 h1,K,if_pos rfl,if_pos (Or.inr h1)]
  ·rw[if_pos (gP.2 h0)]
   dsimp only;rw[K,if_pos rfl,if_pos (Or.inl h0)]
 ·rw[if_neg (fun e=>hk (fo.1 e)),if_neg hk,Ea,zD]
  have hb:=Hr hf;have Kt:∀z,QS 0 0 (iC f).1 (iC f).2.1 true [s] [z]=some (s,[],()):=fun z=>by show Kg 0 0 (iC f).1 (iC f).2.1 true [s] [z]=_;unfold Kg;rw[if_pos rfl,jy,zD,Ba h];rfl
  have Kf:∀z,(iC f).1=s.1->QS 0 0 (iC f).1 (iC f).2.1 false [s] [z]=some ((lH s (iC f).2.1).1,iP ((iC f).1::kU (lH s (iC f).2.1).2),()):=fun z hz=>by obtain⟨ok,rp⟩:=wY h hb;have hlen:=Uh rp;show Kg 0 0 (iC f).1 (iC f).2.1 false [s] [z]=_;unfold Kg;rw[if_neg (by decide),jy,zD,Ho h hb,zD,zD];dsimp only;rw[T3 (by omega) (by omega) (by omega) hlen.2];rfl
  by_cases h0:(iC f).2.2=0
  ·rw[if_neg (fun e=>gP.1 e h0)]
   by_cases h1:(iC f).1=s.1
   ·have hn:nei (iC f).1 s.1=false:=by rw[Bool.eq_false_iff];exact fun e=>gP.1 e h1
    dsimp only;rw[hn,Kf _ h1,if_neg (by rintro (e | e);exact e h0;exact e h1)]
   ·dsimp only
    rw[gP.2 h1,Kt,if_pos (Or.inr h1)]
  ·rw[if_pos (gP.2 h0)]
   dsimp only;rw[Kt,if_pos (Or.inl h0)]
theorem Rz{s:TSl}(h:OkS s){f:List Int}(hf:∀x∈f,0≤x∧x≤255):OkS (pI s f).1:=by
 unfold pI;split
 ·split
  ·exact h
  ·exact (wY h (EE hf)).1
 ·split
  ·exact h
  ·exact (wY h (Hr hf)).1
def jd(c:TCm):TA:=(23,256,8,272,[c.1,c.2.1,c.2.2.1 / 65536,c.2.2.1%65536,c.2.2.2.1,c.2.2.2.2 / 65536,c.2.2.2.2%65536,0],[])
structure OkC(c:TCm):Prop where
 o:0≤c.1∧c.1≤65535
 v:0≤c.2.1∧c.2.1≤255
 t:0≤c.2.2.1∧c.2.2.1≤4294967295
 n:0≤c.2.2.2.1∧c.2.2.2.1≤65535
 k:0≤c.2.2.2.2∧c.2.2.2.2≤4294967295
theorem nN{c:TCm}(h:OkC c):OkA (jd c)∧iR (jd c)=true∧kF (jd c)=true:=by
 have h1:=h.o;have h2:=h.v;have h3:=h.t;have h4:=h.n;have h5:=h.k;refine⟨⟨(by decide:(0:Int)≤23),(by decide:(23:Int)≤255),(by decide:(0:Int)≤256),(by decide:(256:Int)≤65535),(by decide:(0:Int)≤8),(by decide:(8:Int)≤65535),(by decide:(0:Int)≤272),(by decide:(272:Int)≤65535),?_,(by decide:8≤100000),(by decide:0≤100000)⟩,rfl,?_⟩
 ·intro x hx
  simp only[jd,List.mem_cons,List.not_mem_nil,or_false]at hx;rcases hx with e | e | e | e | e | e | e | e<;>omega
 ·show (rdH 256 8 && decide ((272:Int)=272∧8=8∨(272:Int)=288∧8=20))=true
  decide
theorem Lu{c:TCm}(h:OkC c):lT (jd c).2.2.2.2.1=(c,0):=by
 have h2:=h.v;have h3:=h.t;have h5:=h.k;obtain⟨o,v,t,n,k⟩:=c;show lT [o,v,t / 65536,t%65536,n,k / 65536,k%65536,0]=_;unfold lT;dsimp only at h2 h3 h5;rw[if_neg (by simp;omega)];refine Prod.ext (Prod.ext rfl (Prod.ext rfl (Prod.ext ?_ (Prod.ext rfl ?_)))) rfl
 ·show 65536*(t / 65536)+t%65536=t
  omega
 ·show 65536*(k / 65536)+k%65536=k
  omega
theorem tY{s:TSl}(hs:OkS s){c:TCm}(h:OkC c){A:TAg}(hA:doS (fQ s.2.2.1) c=(A,0))(ok:OkG A):gu s (jd c)=(jN s A,(23,0,[],iq A,0,0)):=by
 obtain⟨_,_,h3⟩:=nN h;have hw:iM s.2.2.1 (atW (jd c)) (jd c).2.2.2.2.1=(A,0):=by show iM s.2.2.1 272 (jd c).2.2.2.2.1=_;unfold iM;rw[if_pos rfl,Lu h,hA,if_neg (by simp),if_neg (by simp)]
 have hn:¬ ((jd c).1=5∨(jd c).1=15):=by show ¬ ((23:Int)=5∨(23:Int)=15);decide
 have hl:¬ (jd c).2.2.2.2.1.length=0:=by show ¬ (8=0);decide
 unfold gu;rw[if_neg (by rw[h3];decide),if_neg hn,if_neg hl,hw,if_neg (by simp)];refine congrArg (fun x=>(jN s A,x)) ?_;show ((23:Int),(0:Int),([]:List Bool),((kW A).drop 256).take 8,(0:Int),(0:Int))=_;rw[De ok]
def nO(w:List Int):TA:=(16,288,20,0,w,[])
theorem y9{w:List Int}(hl:w.length=20)(hr:∀x∈w,0≤x∧x≤65535):OkA (nO w)∧iR (nO w)=true∧kF (nO w)=true:=by
 refine⟨⟨(by decide:(0:Int)≤16),(by decide:(16:Int)≤255),(by decide:(0:Int)≤288),(by decide:(288:Int)≤65535),(by decide:(0:Int)≤20),(by decide:(20:Int)≤65535),(by decide:(0:Int)≤0),(by decide:(0:Int)≤65535),hr,by show w.length≤100000;omega,(by decide:0≤100000)⟩,?_,?_⟩
 ·match w,hl with
  | [_,_,_,_,_,_,_,_,_,_,_,_,_,_,_,_,_,_,_,_],_=>rfl
 ·show decide ((288:Int)=272∧w.length=8∨(288:Int)=288∧w.length=20)=true
  rw[decide_eq_true_eq];exact Or.inr ⟨rfl,hl⟩
theorem F9{s:TSl}(hs:OkS s){o tx n:Int}{x:bn}(hf:gV x=true)(hn:0≤n∧n≤7)(hr:∀y∈iB o tx n x,0≤y∧y≤65535){A:TAg}(hA:putA (fQ s.2.2.1) o tx n x=(A,0)) :
  gu s (nO (iB o tx n x))=(jN s A,(16,0,[],[],288,20)):=by
 obtain⟨_,_,h3⟩:=y9 nk hr;have hw:iM s.2.2.1 (atW (nO (iB o tx n x))) (nO (iB o tx n x)).2.2.2.2.1=(A,0):=by show iM s.2.2.1 288 (iB o tx n x)=_;unfold iM;rw[if_neg (by decide),T8 hf hn.2];dsimp only;rw[hA,if_neg (by simp),if_neg (by simp)]
 have hl:¬ (nO (iB o tx n x)).2.2.2.2.1.length=0:=by show ¬ ((iB o tx n x).length=0);rw[nk];decide
 unfold gu;rw[if_neg (by rw[h3];decide),if_neg (show ¬ ((nO (iB o tx n x)).1=5∨(nO (iB o tx n x)).1=15) from (by decide:¬ ((16:Int)=5∨(16:Int)=15))),if_neg hl,hw,if_neg (by simp)];rfl
def rdQ(p n:Int):TA:=(3,p,n,0,[],[])
theorem za{p n:Int}(hp:0≤p∧p≤65535)(hn:1≤n∧n≤125):OkA (rdQ p n)∧iR (rdQ p n)=true:=by
 refine⟨⟨(by decide:(0:Int)≤3),(by decide:(3:Int)≤255),hp.1,hp.2,by show 0≤n;omega,by show n≤65535;omega,(by decide:(0:Int)≤0),(by decide:(0:Int)≤65535),KB,(by decide:0≤100000),(by decide:0≤100000)⟩,?_⟩;show wN (3,p,n,0,[],[]) (125,0,0,false,false)=true;unfold wN;dsimp only;have e:jE n 125=true:=by unfold jE;rw[if_neg (by decide),if_pos (iK.2 hn.1),iO.2 hn.2]
 rw[e];rfl
theorem vR(s:TSl){p n:Int}(hc:rdH p n.toNat=true):gu s (rdQ p n)=(s,(3,0,[],((kW s.2.2.1).drop p.toNat).take n.toNat,0,0)):=by have h3:kF (rdQ p n)=true:=hc;unfold gu;rw[if_neg (by rw[h3];decide),if_neg (show ¬ ((rdQ p n).1=5∨(rdQ p n).1=15) from (by decide:¬ ((3:Int)=5∨(3:Int)=15))),if_pos (by rfl)];rfl
theorem Ga{i:Nat}(hi:i<8):rdH (512+(i:Int)*32) 20=true:=by
 have:∀i:Fin 8,rdH (512+(i.1:Int)*32) 20=true:=by decide
 exact this ⟨i,hi⟩
instance dBk:DecidableEq bn:=inferInstance
instance dSt1:DecidableEq (List Bool×List bn):=inferInstance
instance dSt:DecidableEq nZ:=inferInstance
instance dAg1:DecidableEq (nZ×Int):=inferInstance
instance dAg2:DecidableEq (Int×nZ×Int):=inferInstance
instance dAg3:DecidableEq (Int×Int×nZ×Int):=inferInstance
instance dAg4:DecidableEq (Int×Int×Int×nZ×Int):=inferInstance
instance dAg5:DecidableEq (TLs×Int×Int×Int×nZ×Int):=inferInstance
instance dAg:DecidableEq TAg:=inferInstance
instance dSl1:DecidableEq (TAg×List Bool):=inferInstance
instance dSl:DecidableEq TSl:=inferInstance
abbrev TOp:=Int×List Int×TA×TCm
structure OkO(o:TOp):Prop where
 w:0≤o.1∧o.1≤255
 b:∀x∈o.2.1,0≤x∧x≤255
 bl:o.2.1.length≤300
 a:OkA o.2.2.1
 c:OkC o.2.2.2
theorem Lv{a:TA}(h1:a.2.2.2.2.1.length≤1000000)(h2:a.2.2.2.2.2.length≤1000000):Ww (a,())=some (a,()):=by show agf a=_;unfold agf;rw[oZ h1,zD,C5 h2,zD]
theorem Ht{p:TP}(h1:p.2.2.2.2.2.1.2.2.2.2.1.length≤1000000)(h2:p.2.2.2.2.2.1.2.2.2.2.2.length≤1000000):Am (p,())=some (p,()):=by show Wx p=_;unfold Wx;rw[Lv h1 h2,zD]
theorem asG{unit tx:Int}{a:TA}(h:OkA a)(hr:iR a=true):agz ((),unit,tx,a,())=some (kN tx unit (jV a),()):=by show agy () unit tx a=_;unfold agy;have hl:=pY (lD hr);rw[Mr h,if_pos hr,zD,if_neg (by show ¬ nei 0 0=true;decide)];dsimp only;rw[aq7 (by omega) (by omega),zD,if_neg (by show ¬ nei 0 0=true;decide)]
theorem asH{unit tx:Int}{a:TA}(h:OkA a)(hr:iR a=true)(hu:1≤unit)(hu2:unit≤247):agR ((),unit,tx,a,())=some (iP (unit::jV a),()):=by
 show agQ () unit tx a=_;unfold agQ;have hl:=pY (lD hr);have e:Xd (unit,a,())=some (iP (unit::jV a),0,()):=by show Xc unit a=_;unfold Xc;rw[Mr h,if_pos hr,zD,if_neg (by show ¬ nei 0 0=true;decide)];dsimp only;rw[T3 hu hu2 (by omega) (by omega),zD]
 rw[e,zD,if_neg (by show ¬ nei 0 0=true;decide)]
theorem Ui{p:TP}(h:OkP p)(hr:iR p.2.2.2.2.2.1=true):Xe (p,())=some (mU p,pE p,()):=by
 show agT p=_;unfold agT mU pE jo kP;by_cases hl:p.2.1=2
 ·have e:agA ((),p.2.2.2.2.2.2.1,())=some ((p.2.2.2.2.2.2.1+1)%65536,()):=congrArg (fun x=>some (x,())) (CS _)
  rw[if_pos (fo.2 hl),e,zD,asG h.a hr,zD,if_pos hl,if_pos hl]
 ·have e:agS ((),p.2.2.2.2.2.2.1,())=some (p.2.2.2.2.2.2.1,()):=rfl
  rw[if_neg (fun e=>hl (fo.1 e)),e,zD,asH h.a hr h.u0 h.u1,zD,if_neg hl,if_neg hl]
theorem asI{p:TP}{a:TA}(h:OkP p)(ha:OkA a):Je (p,a,()) =
  if p.2.2.2.2.1=true then some (p,[],30,()) else if iR a=true then some (mU (lS p a),pE (lS p a),0,()) else some (p,[],12,()):=by
 show agU p a=_;unfold agU;have h1:=h.a.lw;have h2:=h.a.lb;have h3:=ha.lw;have h4:=ha.lb;rw[Ht (by omega) (by omega),zD,right_eq ha,zD];split
 ·rfl
 ·cases hr:iR a with
  | false=>rfl
  | true =>
   rw[if_neg (by decide),if_pos rfl,Lv (by omega) (by omega),zD];dsimp only;have hw:OkP (lS p a):=⟨h.u0,h.u1,h.l,h.t0,h.t1,h.r0,h.r1,ha,h.x0,h.x1⟩;have e:=Ui hw hr;unfold lS at e;rw[e];rfl
theorem drop_eq(p:TP):Ca (p,())=some (cr p,()):=rfl
theorem asJ{p:TP}(h:OkP p)(hr:p.2.2.2.2.1=true->iR p.2.2.2.2.2.1=true∧1≤p.2.2.2.2.2.2.2.1∧p.2.2.2.2.2.2.2.1≤100000∧0≤p.2.2.2.2.2.2.2.2∧p.2.2.2.2.2.2.2.2≤1000) :
  abo (p,())=some ((jB p).1,(jB p).2.1,(jB p).2.2,()):=by
 show am4 p=_;unfold am4;have h1:=h.a.lw;have h2:=h.a.lb;rw[Ht (by omega) (by omega),zD];dsimp only;unfold jB;by_cases hw:p.2.2.2.2.1=true
 ·obtain⟨q1,q2,q3,q4,q5⟩:=hr hw
  rw[if_neg (by rw[hw];decide),if_pos hw,lQ (by omega) (by omega)];by_cases hl:p.2.2.2.2.2.2.2.1=1
  ·rw[if_neg (by rw[gP];omega),if_pos hl]
   by_cases hg:0<p.2.2.2.2.2.2.2.2
   ·rw[if_pos (by rw[jU];omega),if_pos hg,lQ (by omega) (by omega),hl]
    have e0:(1:Int) - 1=0:=rfl;rw[e0];have hw':OkP (nK p 0 (p.2.2.2.2.2.2.2.2 - 1)):=⟨h.u0,h.u1,h.l,h.t0,h.t1,h.r0,h.r1,h.a,h.x0,h.x1⟩;have e:=Ui hw' q1;unfold nK at e;rw[e];rfl
   ·rw[if_neg (by rw[jU];omega),if_neg hg,drop_eq,zD]
    rfl
  ·rw[if_pos (by rw[gP];omega),if_neg hl]
   rfl
 ·have hw':p.2.2.2.2.1=false:=by simpa using hw
  rw[if_pos (by rw[hw'];rfl),if_neg hw]
theorem ad7(u l t r:Int):VT (u,l,t,r,())=some (vQ u l t r,()):=by
 show afI u l t r=_;unfold afI vQ;simp only[iK,iO,fo]
 by_cases h1:1≤u<;>by_cases h2:u≤247<;>by_cases h5:1≤t<;>by_cases h6:t≤100000<;>by_cases h7:0≤r<;>simp only[h1,h2,h5,h6,h7,if_true,if_false,true_and,false_and,and_false,and_true] <;>
  by_cases h3:l=1<;>by_cases h4:l=2<;>simp[h3,h4,le]<;>omega
theorem avl(u l t r:Int):Mg (u,l,t,r,())=if vQ u l t r=true then some ((u,l,t,r,false,zA,0,0,0),0,()) else some (zP,2,()):=by show afJ u l t r=_;unfold afJ;rw[ad7,zD];cases vQ u l t r<;>rfl
theorem abS(unit tx:Int)(b:List Int):JD ((),unit,tx,b,())=r9 (yH unit b):=by
 show ajO () unit tx b=_;unfold ajO
 have e:Y5 (unit,b,())=if (iC b).2.2≠0 then some (zR,(iC b).2.2,()) else if (iC b).1≠unit then some (zR,10,()) else some ((mh (iC b).2.1).1,(mh (iC b).2.1).2,()):=by
  show ajN unit b=_;unfold ajN;rw[Ea,zD];dsimp only;rw[Q6,zD];simp only[gP]
  repeat' split
  all_goals first | rfl | contradiction
 rw[e];unfold yH;by_cases h1:(iC b).2.2=0
 ·by_cases h2:(iC b).1=unit
  ·by_cases h3:(mh (iC b).2.1).2=0
   ·simp[h1,h2,h3,nei,r9]
   ·simp[h1,h2,h3,nei,r9,zR]
  ·simp[h1,h2,nei,r9,zR]
 ·simp[h1,nei,r9,zR]
theorem abT{b:List Int}(hl:b.length≤100000)(hb:∀x∈b,0≤x∧x≤255)(unit tx:Int):JB ((),unit,tx,b,())=r9 (AQ unit tx b):=by
 show YZ PY () unit tx b=_;unfold YZ;rw[xJ hl hb,zD];dsimp only;have K:∀(t:Bool) (y1 y2:Int) (y3:List Int),PY t 0 0 0 0 y1 y2 y3=if t=true then some (zR,false,()) else if (mh y3).2≠0 then some (zR,false,()) else some ((mh y3).1,true,()):=fun t y1 y2 y3=>by unfold PY ajJ;rw[Q6,zD];simp only[gP];rfl
 rw[K,K];unfold AQ;by_cases h1:(gU b).2=0
 ·by_cases h2:(gU b).1.2.1=unit
  ·by_cases h3:(gU b).1.1=tx
   ·by_cases h4:(mh (gU b).1.2.2).2=0
    ·simp[h1,h2,h3,h4,nei,r9]
    ·simp[h1,h2,h3,h4,nei,r9]
   ·simp[h1,h2,h3,nei,r9]
  ·simp[h1,h2,nei,r9]
 ·simp[h1,nei,r9]
theorem ad8{p:TP}(h:OkP p){r:TR}(hs:SmR r)(ok:Bool):JF ok p.1 p.2.1 p.2.2.1 p.2.2.2.1 p.2.2.2.2.1 p.2.2.2.2.2.1.1 p.2.2.2.2.2.1.2.1 p.2.2.2.2.2.1.2.2.1 p.2.2.2.2.2.1.2.2.2.1 p.2.2.2.2.2.1.2.2.2.2.1 p.2.2.2.2.2.1.2.2.2.2.2
  p.2.2.2.2.2.2.1 p.2.2.2.2.2.2.2.1 p.2.2.2.2.2.2.2.2 0 0 0 0 false 0 0 0 0 0 0 0 0 0 0 0 r.1 r.2.1 r.2.2.1 r.2.2.2.1 r.2.2.2.2.1 r.2.2.2.2.2 =
  outT p (if ok=true then if nD p.2.2.2.2.2.1 r=true then some r else none else none):=by
 unfold JF ajT;have h1:=h.a.lw;have h2:=h.a.lb
 have e2:∀t,Y7 t p.1 p.2.1 p.2.2.1 p.2.2.2.1 p.2.2.2.2.1 p.2.2.2.2.2.1.1 p.2.2.2.2.2.1.2.1 p.2.2.2.2.2.1.2.2.1 p.2.2.2.2.2.1.2.2.2.1 p.2.2.2.2.2.1.2.2.2.2.1 p.2.2.2.2.2.1.2.2.2.2.2
  p.2.2.2.2.2.2.1 p.2.2.2.2.2.2.2.1 p.2.2.2.2.2.2.2.2 0 0 0 0 false 0 0 0 0 0 0 0 0 0 0 0 r.1 r.2.1 r.2.2.1 r.2.2.2.1 r.2.2.2.2.1 r.2.2.2.2.2=if t=true then some (p,zR,false,()) else some (cr p,r,true,()):=fun t=>by
  unfold Y7 ajU;have eo:Am (p,())=some (p,()):=Ht (by omega) (by omega)
  cases t with
  | true=>exact (congrArg (fun q=>zC q fun y=>some (y.1,zR,false,())) eo).trans rfl
  | false=>rfl
 rw[e2];have e3:PE ((p.2.2.2.2.2.1.1,p.2.2.2.2.2.1.2.1,p.2.2.2.2.2.1.2.2.1,p.2.2.2.2.2.1.2.2.2.1,p.2.2.2.2.2.1.2.2.2.2.1,p.2.2.2.2.2.1.2.2.2.2.2),(r.1,r.2.1,r.2.2.1,r.2.2.2.1,r.2.2.2.2.1,r.2.2.2.2.2),())=some (nD p.2.2.2.2.2.1 r,()):=asr h.a hs;rw[e3,zD,e2]
 cases ok with
 | false=>rfl
 | true=>cases nD p.2.2.2.2.2.1 r<;>rfl
theorem asK{p:TP}(h:OkP p){b:List Int}(hl:b.length≤100000)(hb:∀x∈b,0≤x∧x≤255):ajV (p,b,())=outT p (kV p b):=by
 show Y6 JF p b=_;unfold Y6;have h1:=h.a.lw;have h2:=h.a.lb;rw[Ht (by omega) (by omega),zD,abT hl hb,abS]
 have key:∀o:Option TR,(∀r,o=some r->SmR r)->(zC (r9 o) fun y=>JF y.2.1 p.1 p.2.1 p.2.2.1 p.2.2.2.1 p.2.2.2.2.1 p.2.2.2.2.2.1.1 p.2.2.2.2.2.1.2.1 p.2.2.2.2.2.1.2.2.1 p.2.2.2.2.2.1.2.2.2.1 p.2.2.2.2.2.1.2.2.2.2.1 p.2.2.2.2.2.1.2.2.2.2.2
   p.2.2.2.2.2.2.1 p.2.2.2.2.2.2.2.1 p.2.2.2.2.2.2.2.2 0 0 0 0 false 0 0 0 0 0 0 0 0 0 0 0 y.1.1 y.1.2.1 y.1.2.2.1 y.1.2.2.2.1 y.1.2.2.2.2.1 y.1.2.2.2.2.2)=outT p (o.bind fun r=>if nD p.2.2.2.2.2.1 r=true then some r else none):=fun o ho=>by
  cases o with
  | none=>exact ad8 h xH false
  | some r=>exact ad8 h (ho r rfl) true
 have hout:∀o,∃x,outT p o=some x:=fun o=>by cases o<;>exact⟨_,rfl⟩
 unfold kV
 cases hw:p.2.2.2.2.1 with
 | false=>rfl
 | true =>
  rw[if_neg (by decide),if_pos rfl];rw[hw]at key;by_cases hlk:p.2.1=2
  ·have e:qx p b=AQ p.1 p.2.2.2.2.2.2.1 b:=by unfold qx;rw[if_pos hlk]
   have kk:=key (AQ p.1 p.2.2.2.2.2.2.1 b) (fun r hr=>Q7 (e.trans hr));rw[e];obtain⟨x,hx⟩:=hout ((AQ p.1 p.2.2.2.2.2.2.1 b).bind fun r=>if nD p.2.2.2.2.2.1 r=true then some r else none);rw[hx]at kk ⊢;simp only[fo,hlk,if_true];rw[hlk]at kk;rw[kk,wT (eqAs_refl _),wT (eqAs_refl _)]
  ·have e:qx p b=yH p.1 b:=by unfold qx;rw[if_neg hlk]
   have kk:=key (yH p.1 b) (fun r hr=>Q7 (e.trans hr));rw[e];obtain⟨x,hx⟩:=hout ((yH p.1 b).bind fun r=>if nD p.2.2.2.2.2.1 r=true then some r else none);rw[hx]at kk ⊢;simp only[fo,hlk,if_false];rw[kk,wT (eqAs_refl _),wT (eqAs_refl _)]
structure OkT(t:TTk):Prop where
 p:OkP t.1
 o:1≤t.2.1∧t.2.1≤65535
 x:0≤t.2.2.1∧t.2.2.1≤4294967295
 bl:t.2.2.2.1.length≤8
 bf:∀b∈t.2.2.2.1,gV b=true∧∀y∈b.2,0≤y∧y≤65535
 at':0≤t.2.2.2.2.2.1∧t.2.2.2.2.2.1≤7
 n:0≤t.2.2.2.2.2.2.1∧t.2.2.2.2.2.2.1≤t.2.2.2.1.length
 tr:0≤t.2.2.2.2.2.2.2.1∧(t.2.2.2.2.2.1≠0->t.2.2.2.2.2.2.2.1≤8)
def jK(t:TTk)(s:Int):TTk:=(cr t.1,t.2.1,t.2.2.1,t.2.2.2.1,t.2.2.2.2.1,0,t.2.2.2.2.2.2.1,t.2.2.2.2.2.2.2.1,s)
def toT(t:TTk)(k:Int):TTk:=(t.1,t.2.1,t.2.2.1,t.2.2.2.1,t.2.2.2.2.1,k,t.2.2.2.2.2.2)
def sF(t:TTk)(n:Int):TTk:=(t.1,t.2.1,t.2.2.1,t.2.2.2.1,t.2.2.2.2.1,t.2.2.2.2.2.1,n,t.2.2.2.2.2.2.2)
def anP(t:TTk):TTk:=(t.1,t.2.1,t.2.2.1,t.2.2.2.1,t.2.2.2.2.1,t.2.2.2.2.2.1,t.2.2.2.2.2.2.1,t.2.2.2.2.2.2.2.1+1,t.2.2.2.2.2.2.2.2)
def kQ(t:TTk):TTk:=if (t.2.2.2.1.length:Int)≤t.2.2.2.2.2.2.1 then toT t 4 else toT t 2
def jf(t:TTk)(k:Int):TTk:=if 8≤t.2.2.2.2.2.2.2.1 then jK (anP t) 2 else toT (anP t) k
theorem ad9(t:TTk)(s:Int):nG (t,s,())=some (jK t s,()):=rfl
theorem to_eq(t:TTk)(k:Int):qT (t,k,())=some (toT t k,()):=rfl
theorem Uj(t:TTk):Cb (t,())=some (kQ t,()):=by
 show ahw t=_;unfold ahw kQ;rw[bu];by_cases h:(t.2.2.2.1.length:Int)≤t.2.2.2.2.2.2.1
 ·rw[if_pos (iK.2 h),if_pos h,to_eq];rfl
 ·rw[if_neg (fun e=>h (iK.1 e)),if_neg h,to_eq];rfl
theorem Gb{t:TTk}(h:OkT t)(ha:t.2.2.2.2.2.1≠0)(k:Int):wF (t,k,())=some (jf t k,()):=by
 have:=h.tr;have:=h.tr.2 ha;show ahx t k=_;unfold ahx jf;rw[jS (by omega) (by omega)];by_cases h8:8≤t.2.2.2.2.2.2.2.1
 ·rw[if_pos (jU.2 (by omega)),if_pos h8,ad9];rfl
 ·rw[if_neg (fun e=>h8 (by have:=jU.1 e;omega)),if_neg h8,to_eq];rfl
abbrev TSt:=Int×Int×Int×Int
def gH(r:TR):Option TSt:=if r.2.1=0∧r.2.2.2.1.length=8 then some (r.2.2.2.1.getD 0 0,r.2.2.2.1.getD 1 0,65536*r.2.2.2.1.getD 2 0+r.2.2.2.1.getD 3 0,65536*r.2.2.2.1.getD 4 0+r.2.2.2.1.getD 5 0) else none
def aF0:Option TSt->Option (TSt×Bool×Unit)
 | some s=>some (s,true,())
 | none=>some ((0,0,0,0),false,())
theorem wZ{r:TR}(hr:∀x∈r.2.2.2.1,0≤x∧x≤65535):yh (r,())=aF0 (gH r):=by
 obtain⟨f,e,b,w,p,n⟩:=r;show XB aht (f,e,b,w,p,n)=_;unfold XB gH;simp only at hr ⊢;by_cases he:e=0
 ·subst he
  rw[if_neg (by decide)];by_cases hl:w.length=8
  ·rw[if_pos ⟨rfl,hl⟩]
   obtain⟨a,b',c,d,e,f',g,i,rfl⟩:=eight hl;have h2:=hr c (by simp);have h3:=hr d (by simp);have h4:=hr e (by simp);have h5:=hr f' (by simp);have hnl:nei (zF [a,b',c,d,e,f',g,i].length) 8=false:=rfl;rw[hnl];show (zC (at? [a,b',c,d,e,f',g,i] 0) fun y=>zC (at? [a,b',c,d,e,f',g,i] 1) fun y_1=>zC (at? [a,b',c,d,e,f',g,i] 2) fun y_2=>zC (at? [a,b',c,d,e,f',g,i] 3) fun y_3=>zC (at? [a,b',c,d,e,f',g,i] 4) fun y_4=>zC (at? [a,b',c,d,e,f',g,i] 5) fun y_5=>zC (rT (y_2,y_3,())) fun y_6=>zC (rT (y_4,y_5,())) fun y_7=>some ((y,y_1,y_6.1,y_7.1),true,()))=_;show (zC (rT (c,d,())) fun y_6=>zC (rT (e,f',())) fun y_7=>some ((a,b',y_6.1,y_7.1),true,()))=_;rw[y7 h2.1 h2.2 h3.1 h3.2,zD,y7 h4.1 h4.2 h5.1 h5.2];rfl
  ·rw[if_neg (fun h=>hl h.2),show nei (zF w.length) 8=true from gP.2 (by rw[bu];omega)]
   rfl
 ·rw[if_pos (gP.2 he),if_neg (fun h=>he h.1)]
  rfl
def nu(s:TSt)(t:TTk):Bool:=decide (s.1=t.2.1∧s.2.2.1=t.2.2.1)
theorem w9(s:TSt)(t:TTk):rU (s,t,())=some (nu s t,()):=by
 show ahu s t=_;unfold ahu nu;by_cases h:s.1=t.2.1
 ·rw[if_pos (fo.2 h),show eqi s.2.2.1 t.2.2.1=decide (s.1=t.2.1∧s.2.2.1=t.2.2.1) by rw[Bool.eq_iff_iff,fo,decide_eq_true_iff];exact⟨fun e=>⟨h,e⟩,fun e=>e.2⟩]
 ·rw[if_neg (fun e=>h (fo.1 e))]
  simp[h]
def qG(t:TTk):List Int:=match t.2.2.2.1[t.2.2.2.2.2.2.1.toNat]? with
 | some b=>iB t.2.1 t.2.2.1 t.2.2.2.2.2.2.1 b
 | none=>[]
def sG(t:TTk):Bool:=decide (t.2.2.2.2.2.2.1<t.2.2.2.1.length)
theorem Df{x:bn}(h:gV x=true):x.2.length≤14:=(of_decide_eq_true h).1
theorem RD{t:TTk}(h:OkT t):O1 (t,())=some (qG t,sG t,()):=by
 have hn:=h.n;have hx:=h.x;have hbl:=h.bl;show XK ahL t=_;unfold XK qG sG;rw[if_neg (fun e=>by have:=fq.1 e;omega)];show XJ _ t=_;unfold XJ;obtain⟨k,hk⟩:=zN hn.1;rw[hk,zQ,bu];by_cases hlt:k<t.2.2.2.1.length
 ·obtain⟨b,hb⟩:=jM hlt
  obtain⟨hf,_⟩:=h.bf b (zY hb);have:=Df hf;rw[if_neg (fun e=>by have:=iK.1 e;omega),gZ hb,zD,adI hx.1 hx.2 (by omega),if_pos ⟨by omega,by omega⟩,if_pos hf,zD,hb];simp only[decide_eq_true (show ((k:Nat):Int)<((t.2.2.2.1.length:Nat):Int) by omega)];rfl
 ·rw[if_pos (iK.2 (by omega)),List.getElem?_eq_none (by omega),decide_eq_false (by omega)]
def qX(t:TTk)(v:Int):TCm:=(t.2.1,v,t.2.2.1,if v=2 then (t.2.2.2.1.length:Int) else 0,if v=2 then nM t.2.2.2.1 else 0)
theorem nP{t:TTk}(h:OkT t){v:Int}(hv:1≤v∧v≤4):OkC (qX t v):=by
 have h1:=h.o;have h2:=h.x;have h3:=h.bl;have h4:0≤nM t.2.2.2.1∧nM t.2.2.2.1≤4294967295:=Rb _;unfold qX;constructor<;>dsimp only
 ·omega
 ·omega
 ·exact h2
 ·split<;>omega
 ·split<;>omega
theorem Er{t:TTk}(h:OkT t){v:Int}(hv:1≤v∧v≤4):B6 (t,v,())=some (jd (qX t v),()):=by
 have h3:=h.bl;have ok:=nP h hv;show Xw Xx t v=_;unfold Xw;have key:∀z (c:TCm),OkC c->Xx z c=some (jd c,()):=fun z c hc=>by show Xv z c=_;unfold Xv;rw[ad6 hc.v hc.t hc.k];rfl
 by_cases h2:v=2
 ·subst h2
  rw[if_pos (by decide),T9 (by omega) (fun b hb=>by have:=Df (h.bf b hb).1;omega),zD];have e:cvt .u16 (zF t.2.2.2.1.length)=(t.2.2.2.1.length:Int):=by rw[AF,bu];omega
  rw[e];exact key _ _ ok
 ·rw[if_neg (fun e=>h2 (fo.1 e))]
  have e:qX t v=(t.2.1,v,t.2.2.1,0,0):=by simp[qX,h2]
  rw[e]at ok ⊢;exact key _ _ ok
def fZ(t:TTk):TA :=
 if t.2.2.2.2.2.1=1 then jd (qX t 1) else if t.2.2.2.2.2.1=2 then (if sG t=true then nO (qG t) else zA) else if t.2.2.2.2.2.1=3 then rdQ (512+32*t.2.2.2.2.2.2.1) 20
 else if t.2.2.2.2.2.1=4 then jd (qX t 2) else if t.2.2.2.2.2.1=5 then jd (qX t 3) else if t.2.2.2.2.2.1=6 then jd (qX t 4) else if t.2.2.2.2.2.1=7 then rdQ 256 8 else zA
theorem abU{t:TTk}(h:OkT t):Pm (t,())=some (fZ t,()):=by
 have ha:=h.at';have hn:=h.n;have hl:=h.bl;show XZ aib t=_;unfold XZ;rw[jr (by omega) (by omega),if_neg (fun e=>by have:=iK.1 e;omega)];show XY _ t _=_;unfold XY fZ;generalize hk:t.2.2.2.2.2.1=k at ha;have hc:k=0∨k=1∨k=2∨k=3∨k=4∨k=5∨k=6∨k=7:=by omega
 have e5:cvt .u16 (add .i64 512 (mul .i64 32 t.2.2.2.2.2.2.1))=512+32*t.2.2.2.2.2.2.1:=by rw[ou (by omega) (by omega),jS (by omega) (by omega),AF];omega
 rcases hc with rfl | rfl | rfl | rfl | rfl | rfl | rfl | rfl
 ·rfl
 ·rw[if_neg (by decide),if_neg (by decide),if_neg (by decide),if_neg (by decide),if_neg (by decide),if_neg (by decide),if_neg (by decide),if_pos (by decide),Er h (by decide)]
  rfl
 ·rw[if_neg (by decide),if_neg (by decide),if_neg (by decide),if_neg (by decide),if_neg (by decide),if_neg (by decide),if_pos (by decide)]
  show (zC (ahN t) fun y=>some (y.1,()))=_;unfold ahN;rw[RD h,zD]
  cases hh:sG t with
  | false=>rfl
  | true =>
   have hb:(qG t).length=20:=by unfold sG at hh;have:=of_decide_eq_true hh;obtain⟨b,hb⟩:=jM (xs:=t.2.2.2.1) (i:=t.2.2.2.2.2.2.1.toNat) (by omega);unfold qG;rw[hb];exact nk
   have e:cvt .u16 (zF (qG t).length)=20:=by rw[hb];rfl
   simp only[Bool.not_true,Bool.false_eq_true,if_false,e];rfl
 ·rw[if_neg (by decide),if_neg (by decide),if_neg (by decide),if_neg (by decide),if_neg (by decide),if_pos (by decide)]
  show (zC (ahQ t) fun y=>some (y.1,()))=_;unfold ahQ;rw[e5];rfl
 ·rw[if_neg (by decide),if_neg (by decide),if_neg (by decide),if_neg (by decide),if_pos (by decide),Er h (by decide)]
  rfl
 ·rw[if_neg (by decide),if_neg (by decide),if_neg (by decide),if_pos (by decide),Er h (by decide)]
  rfl
 ·rw[if_neg (by decide),if_neg (by decide),if_pos (by decide),Er h (by decide)]
  rfl
 ·rfl
def gF(t:TTk)(r:TR):TTk :=
 if t.2.2.2.2.2.1=1 then (match gH r with
  | none=>jK t 2
  | some s=>if nu s t=true∧s.2.1=2 then jK t 1 else if nu s t=true∧s.2.1=1 then kQ (sF t 0) else jf t 1)
 else if t.2.2.2.2.2.1=2 then (if r.2.1≠0 then jK t 2 else toT t 3)
 else if t.2.2.2.2.2.1=3 then (if sG t=true∧r.2.1=0∧r.2.2.2.1=qG t then kQ (sF t (t.2.2.2.2.2.2.1+1)) else jf t 2)
 else if t.2.2.2.2.2.1=4 then (match gH r with
  | none=>jK t 2
  | some s=>if nu s t=true∧s.2.1=2 then jK t 1 else jf t 4)
 else if t.2.2.2.2.2.1=5 then (match gH r with
  | none=>toT t 7
  | some s=>if t.2.2.1≤s.2.2.2 then jK t 1 else toT t 5)
 else if t.2.2.2.2.2.1=6 then (match gH r with
  | none=>toT t 7
  | some s=>if nu s t=true then toT t 6 else jK t 1)
 else if t.2.2.2.2.2.1=7 then (if t.2.2.2.2.1=2 then (match gH r with
   | some s=>if t.2.2.1≤s.2.2.2 then jK t 1 else toT t 5
   | none=>toT t 5)
  else (match gH r with
   | some s=>if nu s t=true then toT t 6 else jK t 1
   | none=>toT t 6))
 else jK t t.2.2.2.2.2.2.2.2
theorem OkT.end{t:TTk}(h:OkT t)(s:Int):OkT (jK t s) :=
 ⟨⟨h.p.u0,h.p.u1,h.p.l,h.p.t0,h.p.t1,h.p.r0,h.p.r1,vB,h.p.x0,h.p.x1⟩,h.o,h.x,h.bl,h.bf,(by decide:(0:Int)≤0∧(0:Int)≤7),h.n,h.tr.1,fun e=>absurd rfl e⟩
theorem RE{t:TTk}(h:t.2.2.2.2.2.1=1)(r:TR):gF t r=match gH r with
  | none=>jK t 2
  | some s=>if nu s t=true∧s.2.1=2 then jK t 1 else if nu s t=true∧s.2.1=1 then kQ (sF t 0) else jf t 1:=if_pos h
theorem RF{t:TTk}(h:t.2.2.2.2.2.1=2)(r:TR):gF t r=if r.2.1≠0 then jK t 2 else toT t 3:=by simp[gF,h]
theorem RG{t:TTk}(h:t.2.2.2.2.2.1=3)(r:TR):gF t r=if sG t=true∧r.2.1=0∧r.2.2.2.1=qG t then kQ (sF t (t.2.2.2.2.2.2.1+1)) else jf t 2:=by simp[gF,h]
theorem RH{t:TTk}(h:t.2.2.2.2.2.1=4)(r:TR):gF t r=match gH r with
  | none=>jK t 2
  | some s=>if nu s t=true∧s.2.1=2 then jK t 1 else jf t 4:=by unfold gF;rw[h];rfl
theorem anQ{t:TTk}(h:t.2.2.2.2.2.1=5)(r:TR):gF t r=match gH r with
  | none=>toT t 7
  | some s=>if t.2.2.1≤s.2.2.2 then jK t 1 else toT t 5:=by unfold gF;rw[h];rfl
theorem anR{t:TTk}(h:t.2.2.2.2.2.1=6)(r:TR):gF t r=match gH r with
  | none=>toT t 7
  | some s=>if nu s t=true then toT t 6 else jK t 1:=by unfold gF;rw[h];rfl
theorem RI{t:TTk}(h:t.2.2.2.2.2.1=7)(r:TR):gF t r=if t.2.2.2.2.1=2 then (match gH r with
   | some s=>if t.2.2.1≤s.2.2.2 then jK t 1 else toT t 5
   | none=>toT t 5)
  else (match gH r with
   | some s=>if nu s t=true then toT t 6 else jK t 1
   | none=>toT t 6):=by unfold gF;rw[h];rfl
theorem OkT.to{t:TTk}(h:OkT t)(ha:t.2.2.2.2.2.1≠0){k:Int}(hk:0≤k∧k≤7):OkT (toT t k):=⟨h.p,h.o,h.x,h.bl,h.bf,hk,h.n,h.tr.1,fun _=>h.tr.2 ha⟩
theorem OkT.num{t:TTk}(h:OkT t){k:Int}(hk:0≤k∧k≤t.2.2.2.1.length):OkT (sF t k):=⟨h.p,h.o,h.x,h.bl,h.bf,h.at',hk,h.tr⟩
theorem OkT.next{t:TTk}(h:OkT t)(ha:t.2.2.2.2.2.1≠0):OkT (kQ t):=by
 unfold kQ;split
 ·exact h.to ha (by decide)
 ·exact h.to ha (by decide)
theorem OkT.again{t:TTk}(h:OkT t)(ha:t.2.2.2.2.2.1≠0){k:Int}(hk:0≤k∧k≤7):OkT (jf t k):=by
 have h8:=h.tr.2 ha;have h0:=h.tr.1;unfold jf;split
 ·have:=h.end 2
  exact⟨this.p,this.o,this.x,this.bl,this.bf,this.at',this.n,by show 0≤t.2.2.2.2.2.2.2.1+1;omega,fun e=>absurd rfl e⟩
 ·exact⟨h.p,h.o,h.x,h.bl,h.bf,hk,h.n,by show 0≤t.2.2.2.2.2.2.2.1+1;omega,fun _=>by show t.2.2.2.2.2.2.2.1+1≤8;omega⟩
theorem abV{t:TTk}(h:OkT t)(h1:t.2.2.2.2.2.1=1){r:TR}(hr:∀x∈r.2.2.2.1,0≤x∧x≤65535):OZ (t,r,())=some (gF t r,()):=by
 show XG Fu t r=_;unfold XG;rw[wZ hr,RE h1]
 cases hs:gH r with
 | none=>rfl
 | some s =>
  show (zC (rU (s,t,())) fun y_1=>if y_1.1=true then Fu (eqi s.2.1 2) t _ s else Fu false t _ s)=_;rw[w9,zD];dsimp only;have k2:∀z,OY false t z=some (jf t 1,()):=fun z=>by show (zC (wF (t,1,())) fun y=>some (y.1,()))=_;rw[Gb h (by omega)];rfl
  have k3:∀z,OY true t z=some (kQ (sF t 0),()):=fun z=>by show (zC (Cb (sF t 0,())) fun y=>some (y.1,()))=_;rw[Uj];rfl
  have k0:∀z,Fu false t z s=some (if nu s t=true∧s.2.1=1 then kQ (sF t 0) else jf t 1,()):=fun z=>by
   show XF OY false t z s=_;unfold XF;rw[if_neg (by decide),w9,zD]
   cases ho:nu s t with
   | false=>simp only[Bool.false_eq_true,if_false,false_and];exact k2 _
   | true =>
    by_cases e:s.2.1=1
    ·rw[show eqi s.2.1 1=true from fo.2 e]
     simp only[if_true,e,and_self];exact k3 _
    ·rw[show eqi s.2.1 1=false from by rw[<- Bool.not_eq_true,fo];exact e]
     simp only[if_true,e,and_false,if_false];exact k2 _
  have k1:∀z,Fu true t z s=some (jK t 1,()):=fun z=>rfl
  cases ho:nu s t with
  | false =>
   rw[ho]at k0;simp only[Bool.false_eq_true,if_false,false_and]at k0 ⊢;exact k0 _
  | true =>
   rw[ho]at k0;by_cases e:s.2.1=2
   ·rw[show eqi s.2.1 2=true from fo.2 e]
    simp only[if_true,e,and_self];exact k1 _
   ·rw[show eqi s.2.1 2=false from by rw[<- Bool.not_eq_true,fo];exact e]
    simp only[if_true,e,and_false,if_false,true_and]at k0 ⊢;exact k0 _
theorem aea{t:TTk}(h1:t.2.2.2.2.2.1=2)(r:TR):O3 (t,r,())=some (gF t r,()):=by
 show ahP t r=_;unfold ahP;rw[RF h1];by_cases e:r.2.1=0
 ·rw[if_neg (fun h=>gP.1 h e),if_neg (fun h=>h e)];rfl
 ·rw[if_pos (gP.2 e),if_pos e];rfl
theorem SQ{t:TTk}(h:OkT t)(h1:t.2.2.2.2.2.1=3){r:TR}(hl:r.2.2.2.1.length≤1000000):O9 (t,r,())=some (gF t r,()):=by
 have hn:=h.n;have hb:=h.bl;show XQ O8 t r=_;unfold XQ;rw[RG h1,RD h,zD];have k1:∀z,O8 true t z=some (jf t 2,()):=fun z=>by show (zC (wF (t,2,())) fun y=>some (y.1,()))=_;rw[Gb h (by omega)];rfl
 have k0:∀z,O8 false t z=some (kQ (sF t (t.2.2.2.2.2.2.1+1)),()):=fun z=>by show (zC (Cb (sF t (add .i64 t.2.2.2.2.2.2.1 1),())) fun y=>some (y.1,()))=_;rw[jS (by omega) (by omega),Uj];rfl
 cases hh:sG t with
 | false=>simp only[Bool.not_false,if_true,Bool.false_eq_true,false_and,if_false];exact k1 _
 | true =>
  simp only[Bool.not_true,Bool.false_eq_true,if_false,true_and];by_cases e:r.2.1=0
  ·rw[if_neg (fun h=>gP.1 h e),C4 hl,zD]
   by_cases e2:r.2.2.2.1=qG t
   ·rw[decide_eq_true e2,if_pos ⟨e,e2⟩];exact k0 _
   ·rw[decide_eq_false e2,if_neg (fun h=>e2 h.2)];exact k1 _
  ·rw[if_pos (gP.2 e),if_neg (fun h=>e h.1)];exact k1 _
theorem SS{t:TTk}(h:OkT t)(h1:t.2.2.2.2.2.1=4){r:TR}(hr:∀x∈r.2.2.2.1,0≤x∧x≤65535):Pd (t,r,())=some (gF t r,()):=by
 show XR Fw t r=_;unfold XR;rw[wZ hr,RH h1]
 cases hs:gH r with
 | none=>rfl
 | some s =>
  show (zC (rU (s,t,())) fun y_1=>if y_1.1=true then Fw (eqi s.2.1 2) t _ else Fw false t _)=_;rw[w9,zD];dsimp only;have k0:∀z,Fw false t z=some (jf t 4,()):=fun z=>by show (zC (wF (t,4,())) fun y=>some (y.1,()))=_;rw[Gb h (by omega)];rfl
  have k1:∀z,Fw true t z=some (jK t 1,()):=fun z=>rfl
  cases ho:nu s t with
  | false=>simp only[Bool.false_eq_true,if_false,false_and];exact k0 _
  | true =>
   by_cases e:s.2.1=2
   ·rw[show eqi s.2.1 2=true from fo.2 e]
    simp only[if_true,e,and_self];exact k1 _
   ·rw[show eqi s.2.1 2=false from by rw[<- Bool.not_eq_true,fo];exact e]
    simp only[if_true,e,and_false,if_false];exact k0 _
theorem RJ{t:TTk}(h1:t.2.2.2.2.2.1=5){r:TR}(hr:∀x∈r.2.2.2.1,0≤x∧x≤65535):Pe (t,r,())=some (gF t r,()):=by
 show ah1 t r=_;unfold ah1;rw[wZ hr,anQ h1]
 cases hs:gH r with
 | none=>rfl
 | some s =>
  show (if ge s.2.2.2 t.2.2.1=true then (zC (nG (t,1,())) fun y=>some (y.1,())) else zC (qT (t,5,())) fun y=>some (y.1,()))=_;dsimp only;by_cases e:t.2.2.1≤s.2.2.2
  ·rw[if_pos (iK.2 e),if_pos e];rfl
  ·rw[if_neg (fun h=>e (iK.1 h)),if_neg e];rfl
theorem abW{t:TTk}(h1:t.2.2.2.2.2.1=6){r:TR}(hr:∀x∈r.2.2.2.1,0≤x∧x≤65535):Pf (t,r,())=some (gF t r,()):=by
 show ah3 t r=_;unfold ah3;rw[wZ hr,anR h1]
 cases hs:gH r with
 | none=>rfl
 | some s =>
  show (zC (rU (s,t,())) fun y=>if (!y.1)=true then (zC (nG (t,1,())) fun y=>some (y.1,())) else zC (qT (t,6,())) fun y=>some (y.1,()))=_;rw[w9,zD];dsimp only;cases nu s t<;>rfl
theorem aeb{t:TTk}(h1:t.2.2.2.2.2.1=7){r:TR}(hr:∀x∈r.2.2.2.1,0≤x∧x≤65535):Pk (t,r,())=some (gF t r,()):=by
 show XW Ph Pj t r=_;unfold XW;rw[wZ hr,RI h1];by_cases hg:t.2.2.2.2.1=2
 ·rw[if_pos hg]
  cases hs:gH r with
  | none =>
   show (if eqi t.2.2.2.2.1 2=true then Ph false t _ else _)=_;rw[if_pos (fo.2 hg)];rfl
  | some s =>
   show (if eqi t.2.2.2.2.1 2=true then Ph (ge s.2.2.2 t.2.2.1) t _ else _)=_;rw[if_pos (fo.2 hg)];dsimp only;by_cases e:t.2.2.1≤s.2.2.2
   ·rw[show ge s.2.2.2 t.2.2.1=true from iK.2 e,if_pos e];rfl
   ·rw[show ge s.2.2.2 t.2.2.1=false from by rw[<- Bool.not_eq_true,iK];exact e,if_neg e];rfl
 ·rw[if_neg hg]
  cases hs:gH r with
  | none =>
   show (if eqi t.2.2.2.2.1 2=true then _ else Pj false t _)=_;rw[if_neg (fun h=>hg (fo.1 h))];rfl
  | some s =>
   show (if eqi t.2.2.2.2.1 2=true then _ else zC (rU (s,t,())) fun y=>Pj (!y.1) t _)=_;rw[if_neg (fun h=>hg (fo.1 h)),w9,zD];dsimp only;cases nu s t<;>rfl
theorem aec{t:TTk}(h:OkT t){r:TR}(hr:∀x∈r.2.2.2.1,0≤x∧x≤65535)(hl:r.2.2.2.1.length≤1000000):Za (t,r,())=some (gF t r,()):=by
 have ha:=h.at';show Y9 aj0 t r=_;unfold Y9;rw[jr (by omega) (by omega),if_neg (fun e=>by have:=iK.1 e;omega)];show Y8 _ t r _=_;unfold Y8;have e:∀k:Int,eqi t.2.2.2.2.2.1 k=decide (t.2.2.2.2.2.1=k):=fun k=>by rw[Bool.eq_iff_iff,fo,decide_eq_true_iff]
 have hc:t.2.2.2.2.2.1=0∨t.2.2.2.2.2.1=1∨t.2.2.2.2.2.1=2∨t.2.2.2.2.2.1=3∨t.2.2.2.2.2.1=4∨t.2.2.2.2.2.1=5∨t.2.2.2.2.2.1=6∨t.2.2.2.2.2.1=7:=by omega
 rcases hc with hk | hk | hk | hk | hk | hk | hk | hk
 ·rw[if_pos (fo.2 hk),ad9]
  unfold gF;rw[if_neg (by omega),if_neg (by omega),if_neg (by omega),if_neg (by omega),if_neg (by omega),if_neg (by omega),if_neg (by omega)];rfl
 all_goals
  simp only[e,hk]
  try rw[abV h hk hr]
  try rw[aea hk r]
  try rw[SQ h hk hl]
  try rw[SS h hk hr]
  try rw[RJ hk hr]
  try rw[abW hk hr]
  try rw[aeb hk hr]
  rfl
theorem OkT.eff{t:TTk}(h:OkT t)(r:TR):OkT (gF t r):=by
 have hn:=h.n;by_cases ha:t.2.2.2.2.2.1=0
 ·have:gF t r=jK t t.2.2.2.2.2.2.2.2:=by unfold gF;rw[ha];rfl
  rw[this];exact h.end _
 unfold gF;have n0:OkT (sF t 0):=h.num (by omega);split
 ·split
  ·exact h.end _
  ·split
   ·exact h.end _
   ·split
    ·exact n0.next ha
    ·exact h.again ha (by decide)
 ·split
  ·split
   ·exact h.end _
   ·exact h.to ha (by decide)
  ·split
   ·split
    ·rename_i hc
     have:t.2.2.2.2.2.2.1<t.2.2.2.1.length:=of_decide_eq_true hc.1;exact (h.num (by omega)).next ha
    ·exact h.again ha (by decide)
   ·split
    ·split
     ·exact h.end _
     ·split
      ·exact h.end _
      ·exact h.again ha (by decide)
    ·split
     ·split
      ·exact h.to ha (by decide)
      ·split
       ·exact h.end _
       ·exact h.to ha (by decide)
     ·split
      ·split
       ·exact h.to ha (by decide)
       ·split
        ·exact h.to ha (by decide)
        ·exact h.end _
      ·split
       ·split
        ·split
         ·split
          ·exact h.end _
          ·exact h.to ha (by decide)
         ·exact h.to ha (by decide)
        ·split
         ·split
          ·exact h.to ha (by decide)
          ·exact h.end _
         ·exact h.to ha (by decide)
       ·exact h.end _
theorem RL{σ α:Type}{F:(σ->Option (Bool×Unit))->σ->Option (Bool×Unit)}{mk:Nat->σ}{l:List α}{p:α->Bool}(hs:∀self i x,l[i]? = some x->F self (mk i)=if p x=true then self (mk (i+1)) else some (false,()))
  (he:∀self,F self (mk l.length)=some (true,())):∀(k i n:Nat),i+k=l.length->k<n->cu F n (mk i)=some ((l.drop i).all p,())
 | _,_,0,_,hn=>by omega
 | 0,i,n+1,h,_=>by
  have:i=l.length:=by omega
  subst this;rw[nH,he,List.drop_length];rfl
 | k+1,i,n+1,h,hn=>by
  obtain⟨x,hx⟩:=jM (xs:=l) (i:=i) (by omega);rw[nH,hs _ _ _ hx,RL hs he k (i+1) n (by omega) (by omega),List.drop_eq_getElem_cons (show i<l.length by omega),List.all_cons];have:l[i]'(by omega)=x:=by rw[List.getElem?_eq_getElem (by omega)]at hx;exact Option.some.inj hx
  rw[this];cases p x<;>rfl
theorem LA{l:List bn}(hl:l.length≤1000000)(hw:∀b∈l,b.2.length≤1000000):Ot (l,())=some (l,()):=by
 show Oo l (zF l.length) 0 []=_;unfold Oo
 have e:∀(x acc:List bn),x.foldl (fun r x=>r++[x]) acc=acc++x:=by
  intro x
  induction x with
  | nil=>simp
  | cons a q ih=>intro acc;rw[List.foldl_cons,ih];simp
 refine (pX (mk:=fun i (r:List bn)=>(l,zF l.length,(i:Int),r)) (xs:=l) (stp:=fun r x=>r++[x]) (fin:=fun r=>some (r,())) (fun i r=>r.length=i∧i≤l.length) ?_ ?_ ?_ l.length 0 [] 18446744073709551616 (by omega) (by omega) ⟨rfl,Nat.zero_le _⟩).trans (by rw[List.drop_zero,e];rfl)
 ·intro self i acc x hx hI
  have hi:=(List.getElem?_eq_some_iff.1 hx).1;show I7 _ l (zF l.length) (i:Int) acc=_;unfold I7;rw[if_pos (fq.2 (by rw[bu];omega)),gZ hx,zD,oZ (hw x (zY hx)),zD,jJ (by show acc.length+1≤_;omega),jm (by omega)]
 ·intro i acc x hx hI
  have hi:=(List.getElem?_eq_some_iff.1 hx).1;exact⟨by simp;omega,by omega⟩
 ·intro self acc _
  show I7 _ l (zF l.length) (l.length:Int) acc=_;unfold I7;rw[if_neg (fun h=>by have:=fq.1 h;rw[bu]at this;omega)]
def o7(l:List bn):Bool:=decide (l.length≤8) && l.all gV
theorem avm{l:List bn}(hl:l.length≤1000000)(hw:∀b∈l,b.2.length≤1000000):X8 (l,())=some (o7 l,()):=by
 show X6 X7 l=_;unfold X6 o7;by_cases h8:l.length≤8
 ·rw[if_neg (fun h=>by have:=jU.1 h;rw[bu]at this;omega),decide_eq_true h8,Bool.true_and]
  refine (RL (mk:=fun i=>(l,zF l.length,(i:Int))) (l:=l) (p:=gV) ?_ ?_ l.length 0 18446744073709551616 (by omega) (by omega)).trans (by rw[List.drop_zero])
  ·intro self i x hx
   have hi:=(List.getElem?_eq_some_iff.1 hx).1;show Jm _ l (zF l.length) (i:Int)=_;unfold Jm;rw[if_pos (fq.2 (by rw[bu];omega)),gZ hx,zD,tQ (hw x (zY hx)),zD,jm (by omega)];cases gV x<;>rfl
  ·intro self
   show Jm _ l (zF l.length) (l.length:Int)=_;unfold Jm;rw[if_neg (fun h=>by have:=fq.1 h;rw[bu]at this;omega)]
 ·rw[if_pos (jU.2 (by rw[bu];omega)),decide_eq_false h8]
  rfl
structure SzT(t:TTk):Prop where
 w:t.1.2.2.2.2.2.1.2.2.2.2.1.length≤1000000
 b:t.1.2.2.2.2.2.1.2.2.2.2.2.length≤1000000
 l:t.2.2.2.1.length≤1000000
 k:∀b∈t.2.2.2.1,b.2.length≤1000000
theorem OkT.sz{t:TTk}(h:OkT t):SzT t:=⟨by have:=h.p.a.lw;omega,by have:=h.p.a.lb;omega,by have:=h.bl;omega,fun b hb=>by have:=Df (h.bf b hb).1;omega⟩
theorem Es{t:TTk}(h:SzT t):Fg (t,())=some (t,()):=by show Wp t=_;unfold Wp;rw[oZ h.w,zD,C5 h.b,zD,LA h.l h.k];rfl
def arc(t:TTk):Prop:=t.2.2.2.2.2.1≠0∧(t.2.2.2.2.2.1=2->sG t=true)
theorem Dg{t:TTk}(h:OkT t)(hh:sG t=true):∃b,t.2.2.2.1[t.2.2.2.2.2.2.1.toNat]? = some b∧qG t=iB t.2.1 t.2.2.1 t.2.2.2.2.2.2.1 b∧gV b=true∧∀y∈b.2,0≤y∧y≤65535:=by have hn:=h.n;have:=of_decide_eq_true hh;obtain⟨b,hb⟩:=jM (xs:=t.2.2.2.1) (i:=t.2.2.2.2.2.2.1.toNat) (by omega);obtain⟨h1,h2⟩:=h.bf b (zY hb);exact⟨b,hb,by unfold qG;rw[hb],h1,h2⟩
theorem Bb{o tx n:Int}{x:bn}(ho:0≤o∧o≤65535)(ht:0≤tx∧tx≤4294967295)(hn:0≤n∧n≤7)(hw:∀w∈x.2,0≤w∧w≤65535):∀w∈iB o tx n x,0≤w∧w≤65535:=by
 intro w hm;unfold iB at hm;simp only[List.mem_cons]at hm;rcases hm with rfl | rfl | rfl | rfl | hm
 ·exact ho
 ·omega
 ·omega
 ·omega
 ·exact Uf (fun _=>hw) w hm
theorem oQ{t:TTk}(h:OkT t):OkA (fZ t):=by
 have hn:=h.n;have hl:=h.bl;unfold fZ;split
 ·exact (nN (nP h (by decide))).1
 ·split
  ·split
   ·rename_i hh
    obtain⟨b,_,h2,h3,h4⟩:=Dg h hh;have:=of_decide_eq_true hh;have ho:=h.o;rw[h2];exact (y9 nk (Bb (by omega) h.x (by omega) h4)).1
   ·exact vB
  ·split
   ·exact (za (by omega) (by decide)).1
   ·split
    ·exact (nN (nP h (by decide))).1
    ·split
     ·exact (nN (nP h (by decide))).1
     ·split
      ·exact (nN (nP h (by decide))).1
      ·split
       ·exact (za (by decide) (by decide)).1
       ·exact vB
theorem qY{t:TTk}(h:OkT t)(hg:arc t):iR (fZ t)=true:=by
 have hn:=h.n;have hl:=h.bl;have ha:=h.at';have h0:=hg.1;unfold fZ;split
 ·exact (nN (nP h (by decide))).2.1
 ·split
  ·rename_i h2
   rw[if_pos (hg.2 h2)];obtain⟨b,_,h2,h3,h4⟩:=Dg h (hg.2 h2);have:=of_decide_eq_true (hg.2 (by assumption));have ho:=h.o;rw[h2];exact (y9 nk (Bb (by omega) h.x (by omega) h4)).2.1
  ·split
   ·exact (za (by omega) (by decide)).2
   ·split
    ·exact (nN (nP h (by decide))).2.1
    ·split
     ·exact (nN (nP h (by decide))).2.1
     ·split
      ·exact (nN (nP h (by decide))).2.1
      ·split
       ·exact (za (by decide) (by decide)).2
       ·omega
def dw(t:TTk):TTk×List Int:=if t.1.2.2.2.2.1=true then (t,[]) else if iR (fZ t)=true then ((mU (lS t.1 (fZ t)),t.2),pE (lS t.1 (fZ t))) else (t,[])
theorem Gc{t:TTk}(h:OkT t):Ap (t,())=some ((dw t).1,(dw t).2,()):=by
 show X0 aif t=_;unfold X0 dw;rw[abU h,zD,tF (eqAs_refl _)];dsimp only;rw[zD,tF (eqAs_refl _),asI h.p (oQ h)];split
 ·rfl
 ·split
  ·rfl
  ·rfl
def firstT(g:Int):Int:=if g=1 then 1 else if g=2 then 5 else if g=3 then 6 else 0
def iG(t:TTk)(g tx:Int)(l:List bn):TTk:=(cr t.1,t.2.1,tx,if g=1 then l else [],g,firstT g,0,0,0)
def kH(t:TTk)(g tx:Int)(l:List bn):TTk×List Int×Int :=
 if ¬ (1≤g∧g≤3)∨tx=0 then (t,[],2) else if g=1∧o7 l=false then (t,[],20) else ((dw (iG t g tx l)).1,(dw (iG t g tx l)).2,0)
theorem Dh{t:TTk}(h:OkT t){g tx:Int}{l:List bn}(hx:0≤tx∧tx≤4294967295)(hl:g=1->o7 l=true)(hw:∀b∈l,∀y∈b.2,0≤y∧y≤65535):OkT (iG t g tx l):=by
 refine⟨⟨h.p.u0,h.p.u1,h.p.l,h.p.t0,h.p.t1,h.p.r0,h.p.r1,vB,h.p.x0,h.p.x1⟩,h.o,hx,?_,?_,?_,?_,(by decide:(0:Int)≤0),fun _=>(by decide:(0:Int)≤8)⟩
 ·show (if g=1 then l else []).length≤8
  split
  ·rename_i e
   have:=hl e;unfold o7 at this;simp only[zO,decide_eq_true_eq]at this;exact this.1
  ·decide
 ·show ∀b∈(if g=1 then l else []),_
  split
  ·rename_i e
   have:=hl e;unfold o7 at this;simp only[zO,List.all_eq_true]at this;exact fun b hb=>⟨this.2 b hb,hw b hb⟩
  ·intro b hb;cases hb
 ·show 0≤firstT g∧firstT g≤7
  unfold firstT;split
  ·decide
  ·split
   ·decide
   ·split<;>decide
 ·exact⟨(by decide:(0:Int)≤0),by show (0:Int)≤((if g=1 then l else []).length:Int);omega⟩
theorem start_eq{t:TTk}(h:OkT t){g tx:Int}{l:List bn}(hx:0≤tx∧tx≤4294967295)(hl:l.length≤1000000)(hk:∀b∈l,b.2.length≤1000000)(hw:∀b∈l,∀y∈b.2,0≤y∧y≤65535) :
  uQ (t,g,tx,l,())=some ((kH t g tx l).1,(kH t g tx l).2.1,(kH t g tx l).2.2,()):=by
 show Ya Yb t g tx l=_;unfold Ya kH;have k1:∀(g l a z),Yb g tx l a true t z=some (t,[],2,()):=fun g l a z=>by show Jn Po g tx l a true t z=_;unfold Jn;rw[if_pos rfl,Es h.sz];rfl
 have hf:X3 (g,())=some (firstT g,decide (1≤g∧g≤3),()):=by
  show aij g=_;unfold aij firstT;by_cases h1:g=1
  ·subst h1;rfl
  ·rw[if_neg (fun e=>h1 (fo.1 e)),if_neg h1]
   by_cases h2:g=2
   ·subst h2;rfl
   ·rw[if_neg (fun e=>h2 (fo.1 e)),if_neg h2]
    by_cases h3:g=3
    ·subst h3;rfl
    ·rw[if_neg (fun e=>h3 (fo.1 e)),if_neg h3,decide_eq_false (by omega)]
 rw[hf,zD];by_cases hg:1≤g∧g≤3
 ·rw[decide_eq_true hg]
  by_cases h0:tx=0
  ·rw[if_neg (by simp),show eqi tx 0=true from fo.2 h0,k1,if_pos (.inr h0)]
  ·rw[if_neg (by simp),show eqi tx 0=false from by rw[<- Bool.not_eq_true,fo];exact h0,if_neg (fun e=>e.elim (fun e=>e hg) h0)]
   have k2:∀(l':List bn) z,l'=(if g=1 then l else [])->Po g tx l' (firstT g) t z=some (if g=1∧o7 l=false then (t,[],20,()) else ((dw (iG t g tx l)).1,(dw (iG t g tx l)).2,0,())):=fun l' z el=>by
    have hl':l'.length≤1000000:=by
     rw[el];split
     ·exact hl
     ·exact Nat.zero_le _
    have hk':∀b∈l',b.2.length≤1000000:=by
     rw[el];split
     ·exact hk
     ·intro b hb;cases hb
    show X9 g tx l' (firstT g) t z=_;unfold X9;rw[avm hl' hk',zD];by_cases hc:g=1∧o7 l=false
    ·have:o7 l'=false:=by rw[el,if_pos hc.1];exact hc.2
     rw[this,if_pos (by decide),if_pos hc,Es h.sz];rfl
    ·have:o7 l'=true:=by
      rw[el];by_cases e:g=1
      ·rw[if_pos e]
       cases hfl:o7 l with
       | true=>rfl
       | false=>exact absurd ⟨e,hfl⟩ hc
      ·rw[if_neg e];rfl
     have ok:=Dh h (g:=g) hx (l:=l) (fun e=>by rw[el,if_pos e]at this;exact this) hw;rw[this,if_neg (by decide),if_neg hc,drop_eq,zD,LA hl' hk',zD];show (zC (Ap ((cr t.1,t.2.1,tx,l',g,firstT g,0,0,0),())) fun y=>some (y.1,y.2.1,0,()))=_;rw[el];show (zC (Ap (iG t g tx l,())) fun y=>some (y.1,y.2.1,0,()))=_;rw[Gc ok];rfl
   show Jn Po g tx l (firstT g) false t _=_;unfold Jn;rw[if_neg (by decide)];by_cases e:g=1
   ·rw[if_neg (fun h=>gP.1 h e),k2 l _ (by rw[if_pos e])]
    split<;>rfl
   ·rw[if_pos (gP.2 e),k2 [] _ (by rw[if_neg e])]
    split<;>rfl
 ·rw[decide_eq_false hg,if_pos (by simp),k1,if_pos (.inl hg)]
def iH(t:TTk)(f:List Int):TTk×List Int:=match kV t.1 f with
 | none=>(t,[])
 | some r=>if (gF (cr t.1,t.2) r).2.2.2.2.2.1=0 then (gF (cr t.1,t.2) r,[]) else dw (gF (cr t.1,t.2) r)
theorem OkT.drop{t:TTk}(h:OkT t):OkT (cr t.1,t.2) :=
 ⟨⟨h.p.u0,h.p.u1,h.p.l,h.p.t0,h.p.t1,h.p.r0,h.p.r1,vB,h.p.x0,h.p.x1⟩,h.o,h.x,h.bl,h.bf,h.at',h.n,h.tr⟩
theorem anS{t:TTk}(h:OkT t){f:List Int}(hf:∀x∈f,0≤x∧x≤255)(hl:f.length≤100000)(hr:∀r,kV t.1 f=some r->(∀x∈r.2.2.2.1,0≤x∧x≤65535)∧r.2.2.2.1.length≤1000000) :
  yB (t,f,())=some ((iH t f).1,(iH t f).2,()):=by
 show aj1 t f=_;unfold aj1 iH;rw[Es h.sz,zD,asK h.p hl hf]
 cases hv:kV t.1 f with
 | none=>rfl
 | some r =>
  obtain⟨h1,h2⟩:=hr r hv;show (zC (Za ((cr t.1,t.2),r,())) fun y=>if eqi y.1.2.2.2.2.2.1 0=true then some (y.1,[],()) else zC (Ap (y.1,())) fun y=>some (y.1,y.2.1,()))=_;rw[aec h.drop h1 h2,zD];dsimp only;by_cases e:(gF (cr t.1,t.2) r).2.2.2.2.2.1=0
  ·rw[if_pos (fo.2 e),if_pos e]
  ·rw[if_neg (fun h=>e (fo.1 h)),if_neg e,Gc (h.drop.eff r)]
   rfl
def jO(t:TTk):TTk×List Int :=
 if (jB t.1).2.2=false then (((jB t.1).1,t.2),(jB t.1).2.1) else if t.2.2.2.2.1=1 then (jK ((jB t.1).1,t.2) 2,[]) else dw ((jB t.1).1,t.2)
abbrev gK:=List (Bool×List Int)
theorem je{s:TSl}(h:OkS s):gW s=s:=by have h1:=h.a.sz.hv;have h2:=h.a.sz.bs;unfold gW;rw[Ue h1 h2]
def iA(w:gK)(m:Bool)(b:List Int):gK:=if 0<b.length∧w.length<12 then w++[(m,b)] else w
theorem Bc{b:List Int}{t:TTk}{s:TSl}(hs:OkS s)(x g:Int)(pl:List (List bn))(w:gK):yc (b,t,s,x,g,pl,w,())=some (t,s,x,g,pl,iA w false b,()):=by
 show Wj Om b t s x g pl w=_;unfold Wj iA;have k1:Om b true (t,s,(),x,g,pl) w=need (small (w.length+1)) (some (t,s,x,g,pl,w++[(false,b)],())):=by show I6 b true (t,s,(),x,g,pl) w=_;unfold I6;rw[if_pos rfl,je hs]
 have k0:Om b false (t,s,(),x,g,pl) w=some (t,s,x,g,pl,w,()):=by show I6 b false (t,s,(),x,g,pl) w=_;unfold I6;rw[if_neg (by decide),je hs]
 by_cases h1:0<b.length
 ·rw[if_pos (jU.2 (by rw[bu];omega))]
  by_cases h2:w.length<12
  ·rw[show lt (zF w.length) 12=true from fq.2 (by rw[bu];omega),k1,jJ (by omega),if_pos ⟨h1,h2⟩]
  ·rw[show lt (zF w.length) 12=false from by rw[<- Bool.not_eq_true,fq,bu];omega,k0,if_neg (fun h=>h2 h.2)]
 ·rw[if_neg (fun h=>h1 (by have:=jU.1 h;rw[bu]at this;omega)),k0,if_neg (fun h=>h1 h.1)]
def gy(m:Bool×List Int)(t:TTk)(s:TSl)(w:gK):TTk×TSl×gK :=
 if m.1=true then ((iH t m.2).1,s,iA w false (iH t m.2).2) else (t,(pI s m.2).1,iA w true (pI s m.2).2)
structure OkM(t:TTk) (m:Bool×List Int):Prop where
 b:∀x∈m.2,0≤x∧x≤255
 l:m.2.length≤100000
 r:m.1=true->∀r,kV t.1 m.2=some r->(∀x∈r.2.2.2.1,0≤x∧x≤65535)∧r.2.2.2.1.length≤1000000
theorem RN{m:Bool×List Int}{t:TTk}{s:TSl}(ht:OkT t)(hs:OkS s)(hm:OkM t m)(x g:Int)(pl:List (List bn))(w:gK) :
  AA (m,t,s,x,g,pl,w,())=some ((gy m t s w).1,(gy m t s w).2.1,x,g,pl,(gy m t s w).2.2,()):=by
 show abl abm abn m t s x g pl w=_;unfold abl gy;have k1:∀b (o:gK) (t':TTk),abm b (t,s,(),x,g,pl) o t'=some (t',s,x,g,pl,iA o false b,()):=fun b o t'=>by show abj b (t,s,(),x,g,pl) o t'=_;unfold abj;rw[je hs,Bc hs,zD];dsimp only;rw[je hs]
 have k2:∀b (o:gK) (s':TSl),OkS s'->abn 0 b (t,s,(),x,g,pl) o [s']=some (t,s',x,g,pl,iA o true b,()):=fun b o s' hs'=>by
  have k3:CJ b true (t,s',(),x,g,pl) o=need (small (o.length+1)) (some (t,s',x,g,pl,o++[(true,b)],())):=by show Ki b true (t,s',(),x,g,pl) o=_;unfold Ki;rw[if_pos rfl,je hs']
  have k4:CJ b false (t,s',(),x,g,pl) o=some (t,s',x,g,pl,o,()):=by show Ki b false (t,s',(),x,g,pl) o=_;unfold Ki;rw[if_neg (by decide),je hs']
  show abk CJ 0 b (t,s,(),x,g,pl) o [s']=_;unfold abk iA;rw[jy,zD];by_cases h1:0<b.length
  ·rw[if_pos (jU.2 (by rw[bu];omega))]
   by_cases h2:o.length<12
   ·rw[show lt (zF o.length) 12=true from fq.2 (by rw[bu];omega)]
    show CJ b true (t,s',(),x,g,pl) o=_;rw[k3,jJ (by omega),if_pos ⟨h1,h2⟩]
   ·rw[show lt (zF o.length) 12=false from by rw[<- Bool.not_eq_true,fq,bu];omega]
    show CJ b false (t,s',(),x,g,pl) o=_;rw[k4,if_neg (fun h=>h2 h.2)]
  ·rw[if_neg (fun h=>h1 (by have:=jU.1 h;rw[bu]at this;omega))]
   show CJ b false (t,s',(),x,g,pl) o=_;rw[k4,if_neg (fun h=>h1 h.1)]
 by_cases h1:m.1=true
 ·rw[if_pos h1,if_pos h1,tF (eqAs_refl _),anS ht hm.b hm.l (hm.r h1),zD]
  exact k1 _ _ _
 ·rw[if_neg h1,if_neg h1,tF (eqAs_refl _),je hs,anO hs hm.b hm.l,zD]
  exact k2 _ _ _ (Rz hs hm.b)
theorem qy{r:TR}(hr:RR r):∀y∈kU r,0≤y∧y≤255:=by
 have app:∀{l r:List Int},(∀y∈l,0≤y∧y≤255)->(∀y∈r,0≤y∧y≤255)->∀y∈l++r,0≤y∧y≤255:=fun h1 h2 y hy=>by
  rcases List.mem_append.1 hy with h | h
  ·exact h1 y h
  ·exact h2 y h
 have con:∀{x:Int} {r:List Int},(0≤x∧x≤255)->(∀y∈r,0≤y∧y≤255)->∀y∈x::r,0≤y∧y≤255:=fun h1 h2 y hy=>by
  rcases List.mem_cons.1 hy with h | h
  ·subst h;exact h1
  ·exact h2 y h
 have nil:∀y∈([]:List Int),0≤y∧y≤255:=fun y hy=>by cases hy
 cases hr with
 | ex f e h0 h h1 h2 =>
  have ea:add .u8 f 128=f+128:=wu8 (by omega) (by omega);unfold kU;rw[if_pos (by rw[gP];show e≠0;omega)];unfold exB;dsimp only;rw[ea];exact con (by omega) (con (by omega) nil)
 | bits f l hf h1 h2 h3 =>
  have e:kU (f,0,l,[],0,0)=f::(gT l.length:Int)%256::iW l:=by rcases hf with rfl | rfl<;>rfl
  rw[e];exact con (by omega) (con (by omega) (G8 l))
 | words f l hf h1 h2 =>
  have e:kU (f,0,[],l,0,0)=f::2*(l.length:Int)%256::l.flatMap two:=by rcases hf with rfl | rfl | rfl<;>rfl
  rw[e];exact con (by omega) (con (by omega) (vD l))
 | coil b p =>
  show ∀y∈(5:Int)::two p++two (if b=true then 65280 else 0),0≤y∧y≤255;exact app (con (by decide) (mJ p)) (mJ _)
 | word x p =>
  show ∀y∈(6:Int)::two p++two x,0≤y∧y≤255;exact app (con (by decide) (mJ p)) (mJ _)
 | coils p n h1 h2 =>
  show ∀y∈(15:Int)::two p++two n,0≤y∧y≤255;exact app (con (by decide) (mJ p)) (mJ _)
 | regs p n h1 h2 =>
  show ∀y∈(16:Int)::two p++two n,0≤y∧y≤255;exact app (con (by decide) (mJ p)) (mJ _)
theorem Di{tx unit:Int}{pdu:List Int}(h1:1≤pdu.length)(h2:pdu.length≤253)(ht:0≤tx)(ht2:tx≤65535)(hu:0≤unit)(hu2:unit≤255)(hb:∀y∈pdu,0≤y∧y≤255):gU (kN tx unit pdu)=((tx,unit,pdu),0):=by
 have h:=aDr h1 h2 ht ht2 hu hu2 hb
 have hall:∀y∈kN tx unit pdu,0≤y∧y≤255:=by
  intro y hy;unfold kN at hy;rcases List.mem_append.1 hy with h | h
  ·simp at h
   rcases h with rfl | rfl | rfl | rfl | rfl<;>omega
  ·exact hb y h
 rw[xJ (by simp[kN];omega) hall]at h;have h:=Option.some.inj h;have e1:=congrArg (·.1) h;have e2:=congrArg (·.2.1) h;exact Prod.ext e1 e2
theorem Hu{unit:Int}{pdu:List Int}(h1:1≤pdu.length)(h2:pdu.length≤253)(hu:1≤unit)(hu2:unit≤247):iC (iP (unit::pdu))=(unit,pdu,0):=by have h:=aDs h1 h2 hu hu2;rw[Ea]at h;have h:=Option.some.inj h;exact Prod.ext (congrArg (·.1) h) (Prod.ext (congrArg (·.2.1) h) (congrArg (·.2.2.1) h))
def gB(l u x:Int)(r:TR):List Int:=if l=2 then kN x u (kU r) else iP (u::kU r)
theorem Gd{s:TSl}{a:TA}(ha:OkA a)(hr:iR a=true)(hu:1≤s.1∧s.1≤247){x:Int}(hx:0≤x∧x≤65535):pI s (jo s.2.1 s.1 x a)=((gu s a).1,gB s.2.1 s.1 x (gu s a).2):=by
 have hl:=pY (lD hr);have hb:=sj (lD hr);unfold pI jo gB;by_cases h2:s.2.1=2
 ·simp only[if_pos h2]
  rw[Di (by omega) hl.2 hx.1 hx.2 (by omega) (by omega) hb];dsimp only;rw[if_neg (by simp),Ry ha hr]
 ·simp only[if_neg h2]
  rw[Hu (by omega) hl.2 hu.1 hu.2];dsimp only;rw[if_neg (by simp),Ry ha hr]
theorem anT{q:TP}{r:TR}(h:Rep r)(hq:OkP q):qx q (gB q.2.1 q.1 q.2.2.2.2.2.2.1 r)=some r:=by
 have hlen:=qW h.rr;have hu:=hq.u0;have hu2:=hq.u1;have hpr:=yI h.ok h.rr h.rt;unfold qx gB;by_cases h2:q.2.1=2
 ·simp only[if_pos h2]
  unfold AQ;rw[Di (by omega) hlen.2 hq.x0 hq.x1 (by omega) (by omega) (qy h.rr)];dsimp only;rw[hpr,if_neg (by decide),if_neg (fun e=>e rfl),if_neg (fun e=>e rfl),if_neg (by show ¬ (0:Int)≠0;decide)]
 ·simp only[if_neg h2]
  unfold yH;rw[Hu (by omega) hlen.2 hu hu2];dsimp only;rw[hpr,if_neg (by decide),if_neg (fun e=>e rfl),if_neg (by show ¬ (0:Int)≠0;decide)]
theorem Gf{q:TP}{r:TR}(h:Rep r)(hq:OkP q)(hw:q.2.2.2.2.1=true)(hf:nD q.2.2.2.2.2.1 r=true):kV q (gB q.2.1 q.1 q.2.2.2.2.2.2.1 r)=some r:=by unfold kV;rw[if_pos hw,anT h hq,zD,if_pos hf]
def goodX(t:TTk):Prop:=t.2.2.2.2.2.1≠0∧(t.2.2.2.2.2.1=2∨t.2.2.2.2.2.1=3->sG t=true)
theorem goodX.good{t:TTk}(h:goodX t):arc t:=⟨h.1,fun e=>h.2 (.inl e)⟩
theorem xg{t:TTk}{k:Int}(h0:k≠0)(h2:k=2∨k=3->sG t=true):goodX (toT t k):=⟨h0,h2⟩
theorem Hw(t:TTk):goodX (kQ t):=by
 unfold kQ;split
 ·exact xg (by decide) (fun e=>by omega)
 ·rename_i h
  exact xg (by decide) (fun _=>decide_eq_true (by omega))
theorem EF{t:TTk}{k:Int}(h0:k≠0)(h2:k=2∨k=3->sG t=true)(h:(jf t k).2.2.2.2.2.1≠0):goodX (jf t k):=by
 unfold jf at h ⊢;split
 ·rename_i h8
  rw[if_pos h8]at h;exact absurd rfl h
 ·exact xg h0 h2
theorem Dj{t:TTk}{r:TR}(hg:goodX t)(ha:0≤t.2.2.2.2.2.1∧t.2.2.2.2.2.1≤7)(h:(gF t r).2.2.2.2.2.1≠0):goodX (gF t r):=by
 have E:∀{s},(jK t s).2.2.2.2.2.1≠0->goodX (jK t s):=fun h=>absurd rfl h;have hc:t.2.2.2.2.2.1=1∨t.2.2.2.2.2.1=2∨t.2.2.2.2.2.1=3∨t.2.2.2.2.2.1=4∨t.2.2.2.2.2.1=5∨t.2.2.2.2.2.1=6∨t.2.2.2.2.2.1=7:=by have:=hg.1;omega
 have T:∀{k:Int},4≤k->goodX (toT t k):=fun hk=>xg (by omega) (fun e=>by omega);have A:∀{k:Int},k=1∨k=4->(jf t k).2.2.2.2.2.1≠0->goodX (jf t k):=fun hk=>EF (by omega) (fun e=>by omega);rcases hc with e | e | e | e | e | e | e
 ·rw[RE e]at h ⊢
  cases hr:gH r with
  | none=>rw[hr]at h;exact E h
  | some s =>
   rw[hr]at h;dsimp only at h ⊢;split
   ·rename_i q
    rw[if_pos q]at h;exact E h
   ·rename_i q
    rw[if_neg q]at h;split
    ·exact Hw _
    ·rename_i q
     rw[if_neg q]at h;exact A (.inl rfl) h
 ·rw[RF e]at h ⊢
  split
  ·rename_i q
   rw[if_pos q]at h;exact E h
  ·exact xg (by decide) (fun _=>hg.2 (.inl e))
 ·rw[RG e]at h ⊢
  split
  ·exact Hw _
  ·rename_i q
   rw[if_neg q]at h;exact EF (by decide) (fun _=>hg.2 (.inr e)) h
 ·rw[RH e]at h ⊢
  cases hr:gH r with
  | none=>rw[hr]at h;exact E h
  | some s =>
   rw[hr]at h;dsimp only at h ⊢;split
   ·rename_i q
    rw[if_pos q]at h;exact E h
   ·rename_i q
    rw[if_neg q]at h;exact A (.inr rfl) h
 ·unfold gF at h ⊢
  rw[e]at h ⊢;simp only[show ¬ (5:Int)=1 by decide,show ¬ (5:Int)=2 by decide,show ¬ (5:Int)=3 by decide,show ¬ (5:Int)=4 by decide,if_false,if_true]at h ⊢
  cases hr:gH r with
  | none=>exact T (by decide)
  | some s =>
   rw[hr]at h;dsimp only at h ⊢;split
   ·rename_i q
    rw[if_pos q]at h;exact E h
   ·exact T (by decide)
 ·unfold gF at h ⊢
  rw[e]at h ⊢;simp only[show ¬ (6:Int)=1 by decide,show ¬ (6:Int)=2 by decide,show ¬ (6:Int)=3 by decide,show ¬ (6:Int)=4 by decide,show ¬ (6:Int)=5 by decide,if_false,if_true]at h ⊢
  cases hr:gH r with
  | none=>exact T (by decide)
  | some s =>
   rw[hr]at h;dsimp only at h ⊢;split
   ·exact T (by decide)
   ·rename_i q
    rw[if_neg q]at h;exact E h
 ·unfold gF at h ⊢
  rw[e]at h ⊢;simp only[show ¬ (7:Int)=1 by decide,show ¬ (7:Int)=2 by decide,show ¬ (7:Int)=3 by decide,show ¬ (7:Int)=4 by decide,show ¬ (7:Int)=5 by decide,show ¬ (7:Int)=6 by decide,if_false,if_true]at h ⊢;split
  ·rename_i q
   rw[if_pos q]at h
   cases hr:gH r with
   | none=>exact T (by decide)
   | some s =>
    rw[hr]at h;dsimp only at h ⊢;split
    ·rename_i q
     rw[if_pos q]at h;exact E h
    ·exact T (by decide)
  ·rename_i q
   rw[if_neg q]at h
   cases hr:gH r with
   | none=>exact T (by decide)
   | some s =>
    rw[hr]at h;dsimp only at h ⊢;split
    ·exact T (by decide)
    ·rename_i q
     rw[if_neg q]at h;exact E h
def qz(p:TP):TP:=(p.1,p.2.1,p.2.2.1,p.2.2.2.1,false,zA,kP p.2.1 p.2.2.2.2.2.2.1,0,0)
structure OkX(t:TTk) (s:TSl):Prop where
 kt:OkT t
 ks:OkS s
 g:goodX t
 w:t.1.2.2.2.2.1=false
 u:s.1=t.1.1
 l:s.2.1=t.1.2.1
def jL(t:TTk)(s:TSl):TTk:=gF (qz t.1,t.2) (gu s (fZ t)).2
def slX(t:TTk)(s:TSl):TSl:=(gu s (fZ t)).1
theorem tZ{t:TTk}{s:TSl}(h:OkX t s):dw t=((mU (lS t.1 (fZ t)),t.2),jo s.2.1 s.1 (kP s.2.1 t.1.2.2.2.2.2.2.1) (fZ t)):=by unfold dw;rw[if_neg (by rw[h.w];decide),if_pos (qY h.kt h.g.good),h.u,h.l];rfl
theorem anU{t:TTk}{s:TSl}(h:OkX t s):pI s (dw t).2=(slX t s,gB s.2.1 s.1 (kP s.2.1 t.1.2.2.2.2.2.2.1) (gu s (fZ t)).2):=by have hx:=nS s.2.1 h.kt.p.x0 h.kt.p.x1;have h0:=h.kt.p.u0;have h1:=h.kt.p.u1;have hu:=h.u;rw[tZ h];exact Gd (oQ h.kt) (qY h.kt h.g.good) (by omega) hx
theorem anV{t:TTk}{s:TSl}(h:OkX t s):iH (dw t).1 (gB s.2.1 s.1 (kP s.2.1 t.1.2.2.2.2.2.2.1) (gu s (fZ t)).2)=if (jL t s).2.2.2.2.2.1=0 then (jL t s,[]) else dw (jL t s):=by have hx:=nS t.1.2.1 h.kt.p.x0 h.kt.p.x1;have ha:=oQ h.kt;have hr:=qY h.kt h.g.good;have hp:OkP (mU (lS t.1 (fZ t))):=⟨h.kt.p.u0,h.kt.p.u1,h.kt.p.l,h.kt.p.t0,h.kt.p.t1,h.kt.p.r0,h.kt.p.r1,ha,hx.1,hx.2⟩;have e:=Gf (nT h.ks ha hr) hp rfl (Dc h.ks ha hr);rw[tZ h,h.u,h.l];unfold iH;dsimp only;have e2:kV (mU (lS t.1 (fZ t))) (gB t.1.2.1 t.1.1 (kP t.1.2.1 t.1.2.2.2.2.2.2.1) (gu s (fZ t)).2)=some (gu s (fZ t)).2:=e;rw[e2];rfl
theorem aed(p:TP)(c:_)(r:TR):(gF (qz p,c) r).1=qz p:=by
 unfold gF kQ jf
 repeat' split
 all_goals rfl
theorem Bd(s:TSl)(a:TA):(gu s a).1.1=s.1∧(gu s a).1.2.1=s.2.1:=by
 unfold gu
 repeat' split
 all_goals exact⟨rfl,rfl⟩
theorem OkX.kt'{t:TTk}{s:TSl}(h:OkX t s):OkT (jL t s):=by have hx:=nS t.1.2.1 h.kt.p.x0 h.kt.p.x1;have ok:OkT (qz t.1,t.2):=⟨⟨h.kt.p.u0,h.kt.p.u1,h.kt.p.l,h.kt.p.t0,h.kt.p.t1,h.kt.p.r0,h.kt.p.r1,vB,hx.1,hx.2⟩,h.kt.o,h.kt.x,h.kt.bl,h.kt.bf,h.kt.at',h.kt.n,h.kt.tr⟩;exact ok.eff _
theorem OkX.ks'{t:TTk}{s:TSl}(h:OkX t s):OkS (slX t s):=tX h.ks (oQ h.kt) (qY h.kt h.g.good)
theorem OkX.next{t:TTk}{s:TSl}(h:OkX t s)(h0:(jL t s).2.2.2.2.2.1≠0):OkX (jL t s) (slX t s):=by
 have e:(jL t s).1=qz t.1:=aed _ _ _;have l:=Bd s (fZ t);refine⟨h.kt',h.ks',Dj h.g h.kt.at' h0,by rw[e];rfl,?_,?_⟩
 ·rw[e]
  exact l.1.trans h.u
 ·rw[e]
  exact l.2.trans h.l
def jv:Nat->TTk->TSl->gK->TTk×TSl×gK
 | 0,t,s,w=>(t,s,w)
 | _+1,t,s,[]=>(t,s,[])
 | n+1,t,s,m::w=>jv n (gy m t s w).1 (gy m t s w).2.1 (gy m t s w).2.2
theorem LB(n:Nat)(t:TTk)(s:TSl):jv n t s []=(t,s,[]):=by cases n<;>rfl
def uf:Nat->TTk->TSl->Option (TTk×TSl)
 | 0,_,_=>none
 | n+1,t,s=>if (jL t s).2.2.2.2.2.1=0 then some (jL t s,slX t s) else uf n (jL t s) (slX t s)
theorem Dk{t:TTk}{s:TSl}(h:OkX t s):8≤(dw t).2.length∧(dw t).2.length≤260:=by have:=xG (p:=lS t.1 (fZ t)) (qY h.kt h.g.good);unfold dw;rw[if_neg (by rw[h.w];decide),if_pos (qY h.kt h.g.good)];exact this
theorem xR{l u x:Int}{r:TR}(h:RR r):1≤(gB l u x r).length∧(gB l u x r).length≤300:=by
 have:=qW h;unfold gB;split
 ·simp[kN];omega
 ·rw[qU];simp;omega
theorem RO{t:TTk}{s:TSl}(h:OkX t s):gy (false,(dw t).2) (dw t).1 s []=((dw t).1,slX t s,[(true,gB s.2.1 s.1 (kP s.2.1 t.1.2.2.2.2.2.2.1) (gu s (fZ t)).2)]):=by have hr:=nT h.ks (oQ h.kt) (qY h.kt h.g.good);unfold gy;rw[if_neg (by simp)];dsimp only;rw[anU h];unfold iA;have hl:=xR (l:=s.2.1) (u:=s.1) (x:=kP s.2.1 t.1.2.2.2.2.2.2.1) hr.rr;rw[if_pos ⟨hl.1,by decide⟩];rfl
theorem RP{t:TTk}{s:TSl}(h:OkX t s):gy (true,gB s.2.1 s.1 (kP s.2.1 t.1.2.2.2.2.2.2.1) (gu s (fZ t)).2) (dw t).1 (slX t s) [] =
  if (jL t s).2.2.2.2.2.1=0 then (jL t s,slX t s,[]) else ((dw (jL t s)).1,slX t s,[(false,(dw (jL t s)).2)]):=by
 unfold gy;rw[if_pos rfl];dsimp only;rw[anV h];split
 ·rfl
 ·rename_i h0
  have:=Dk (h.next h0);unfold iA;rw[if_pos ⟨by omega,by decide⟩];rfl
theorem RU:∀{n m:Nat} {t:TTk} {s:TSl} {z:TTk×TSl},OkX t s->uf n t s=some z->2*n≤m->jv m (dw t).1 s [(false,(dw t).2)]=(z.1,z.2,[])
 | 0,_,_,_,_,_,h,_=>by cases h
 | n+1,m,t,s,z,hx,h,hm=>by
  obtain⟨k,rfl⟩:∃k,m=k+2:=⟨m - 2,by omega⟩;show jv (k+1) (gy (false,(dw t).2) (dw t).1 s []).1 (gy (false,(dw t).2) (dw t).1 s []).2.1 (gy (false,(dw t).2) (dw t).1 s []).2.2=_;rw[RO hx];show jv k (gy (true,_) (dw t).1 (slX t s) []).1 (gy (true,_) (dw t).1 (slX t s) []).2.1 (gy (true,_) (dw t).1 (slX t s) []).2.2=_;rw[RP hx];unfold uf at h;split at h
  ·rename_i h0
   rw[if_pos h0,LB];cases h;rfl
  ·rename_i h0
   rw[if_neg h0];exact RU (hx.next h0) h (by omega)
def Et:Nat->TTk->TSl->gK->Prop
 | 0,_,_,_=>True
 | _+1,_,_,[]=>True
 | n+1,t,s,m::w=>OkT t∧OkM t m∧Et n (gy m t s w).1 (gy m t s w).2.1 (gy m t s w).2.2
theorem anW{m:Bool×List Int}{t:TTk}{s:TSl}{w:gK}(hs:OkS s)(hm:OkM t m):OkS (gy m t s w).2.1:=by
 unfold gy;split
 ·exact hs
 ·exact Rz hs hm.b
def aDL(self:Int×Int×(TTk×TSl×Unit×Int×Int×List (List bn))×gK->Option (Bool×TTk×TSl×Int×Int×List (List bn)×gK×Unit))(st:Int×Int×(TTk×TSl×Unit×Int×Int×List (List bn))×gK) :=
 AB Kl (fun t6 t7 p o=>self (t6,t7,p,o)) st.1 st.2.1 st.2.2.1 st.2.2.2
theorem LC{N:Nat}(hN:N≤1000000)(x g:Int)(pl:List (List bn)):∀(k i n:Nat) (t:TTk) (s:TSl) (w:gK),i+k=N->k<n->OkS s->Et k t s w->w.length≤1000000 ->
  cu aDL n ((N:Int),(i:Int),(t,s,(),x,g,pl),w)
   = some (eqi (zF (jv k t s w).2.2.length) 0,(jv k t s w).1,(jv k t s w).2.1,x,g,pl,(jv k t s w).2.2,())
 | _,_,0,_,_,_,_,h,_,_,_=>by omega
 | 0,i,n+1,t,s,w,h,_,hs,_,_=>by rw[nH];show AB Kl _ (N:Int) (i:Int) (t,s,(),x,g,pl) w=_;unfold AB;rw[if_neg (fun h=>by have:=fq.1 h;omega)];show abu (t,s,(),x,g,pl) w=_;unfold abu;rw[je hs];rfl
 | k+1,i,n+1,t,s,[],h,_,hs,_,_=>by rw[nH];show AB Kl _ (N:Int) (i:Int) (t,s,(),x,g,pl) []=_;unfold AB;rw[if_pos (fq.2 (by omega)),if_pos (show eqi (zF ([]:gK).length) 0=true from rfl),je hs];rfl
 | k+1,i,n+1,t,s,m::w,h,hn,hs,hr,hw=>by
  have hl:(m::w).length=w.length+1:=rfl;rw[hl]at hw;rw[nH];show AB Kl _ (N:Int) (i:Int) (t,s,(),x,g,pl) (m::w)=_;unfold AB
  have e:List.take (zI (zF (m::w).length - 1)) (List.drop 1 (m::w))=w:=by
   have:zI (zF (m::w).length - 1)=w.length:=by rw[hl,bu];omega
   rw[this];exact List.take_length
  rw[if_pos (fq.2 (by omega)),if_neg (fun e=>by have:=fo.1 e;rw[bu]at this;omega),jy,zD,zD,fT (iO.2 (by rw[bu];omega)),fT (iO.2 (Int.le_refl _)),fT (fq.2 (by rw[bu];omega)),e];dsimp only;rw[je hs,RN hr.1 hs hr.2.1,zD,jm (by omega)];refine LC hN x g pl k (i+1) n _ _ _ (by omega) (by omega) (anW hs hr.2.1) hr.2.2 ?_;unfold gy iA
  repeat' split
  all_goals first | (dsimp only;omega) | (dsimp only;rw[zZ];have:∀z:Bool×List Int,[z].length=1:=fun _=>rfl;rw[this];omega)
theorem Gg{N:Nat}(hN:N≤1000000){t:TTk}{s:TSl}{w:gK}(hs:OkS s)(hr:Et N t s w)(hw:w.length≤1000000)(x g:Int)(pl:List (List bn)) :
  CO ((N:Int),t,s,x,g,pl,w,())=some (eqi (zF (jv N t s w).2.2.length) 0,(jv N t s w).1,(jv N t s w).2.1,x,g,pl,(jv N t s w).2.2,()) :=
 LC hN x g pl N 0 18446744073709551616 t s w (by omega) (by omega) hs hr hw
def qA(alt:Bool)(t:TTk)(x:Int):Option (Int×Int) :=
 if t.2.2.2.2.1=1∧t.2.2.2.2.2.2.2.2=1∧alt=false then some (2,x) else if t.2.2.2.2.1=1∧(alt=true∨t.2.2.2.2.2.2.2.2=2) then some (3,x) else if t.2.2.2.2.1≠0∧t.2.2.2.2.2.2.2.2=0 then none else some (1,x+1)
def fU(pl:List (List bn))(y:Int):List bn:=pl.getD (y.toNat%pl.length) []
structure OkPl(pl:List (List bn)):Prop where
 l:pl.length≤1000000
 b:∀q∈pl,q.length≤1000000∧∀b∈q,b.2.length≤1000000∧∀y∈b.2,0≤y∧y≤65535
theorem RV{pl:List (List bn)}(h:OkPl pl)(y:Int):(fU pl y).length≤1000000∧∀b∈fU pl y,b.2.length≤1000000∧∀z∈b.2,0≤z∧z≤65535:=by
 unfold fU;rw[zX]
 cases e:pl[y.toNat%pl.length]? with
 | none=>exact⟨Nat.zero_le _,fun b hb=>by cases hb⟩
 | some q=>exact h.b q (zY e)
theorem anX{t:TTk}{s:TSl}(ht:OkT t)(hs:OkS s){k y:Int}(hy:0≤y∧y≤4294967295){pl:List (List bn)}(hp:OkPl pl)(x g:Int)(w:gK) :
  Ar k y (t,s,(),x,g,pl) w=some (decide ((kH t k y (fU pl y)).2.2=0),(kH t k y (fU pl y)).1,s,y,if k=2 then y else g,pl,iA w false (kH t k y (fU pl y)).2.1,()):=by
 have k6:∀(b:List Int) (e:Int) g' (t':TTk),Pq y b e (t,s,(),x,g',pl) w t'=some (eqi e 0,t',s,y,g',pl,iA w false b,()):=fun b e g' t'=>by show Yf y b e (t,s,(),x,g',pl) w t'=_;unfold Yf;dsimp only;rw[je hs,Bc hs,zD];dsimp only;rw[je hs]
 have st:∀(l:List bn) (g':Int),l=fU pl y->(zC (uQ (t,k,y,l,())) fun z=>Pq y z.2.1 z.2.2.1 (t,s,(),x,g',pl) w z.1)=some (decide ((kH t k y (fU pl y)).2.2=0),(kH t k y (fU pl y)).1,s,y,g',pl,iA w false (kH t k y (fU pl y)).2.1,()):=fun l g' e=>by
  obtain⟨h1,h2⟩:=RV hp y;rw[e,start_eq ht hy h1 (fun b hb=>(h2 b hb).1) (fun b hb=>(h2 b hb).2),zD];dsimp only;rw[k6];have:∀z:Int,eqi z 0=decide (z=0):=fun z=>by rw[Bool.eq_iff_iff,fo,decide_eq_true_iff]
  rw[this]
 have k4:∀g':Int,Yh k y (t,s,(),x,g',pl) w=some (decide ((kH t k y (fU pl y)).2.2=0),(kH t k y (fU pl y)).1,s,y,g',pl,iA w false (kH t k y (fU pl y)).2.1,()):=fun g'=>by
  show Yd Pq k y (t,s,(),x,g',pl) w=_;unfold Yd;by_cases h0:pl.length=0
  ·have e0:eqi (zF pl.length) 0=true:=fo.2 (by rw[bu];omega)
   have:pl=[]:=List.length_eq_zero_iff.1 h0;simp only[e0,if_true];rw[tF (eqAs_refl _),tF (eqAs_refl _)];exact st [] g' (by rw[this];rfl)
  ·have e0:eqi (zF pl.length) 0=false:=by rw[<- Bool.not_eq_true,fo,bu];omega
   have hl:=hp.l;have er:rem (cvt .i64 y) (zF pl.length)=((y.toNat%pl.length:Nat):Int):=by obtain⟨n,rfl⟩:=zN hy.1;rw[jr (by omega) (by omega),bu];unfold rem;rw[kC (by omega),zQ];rfl
   have hlt:y.toNat%pl.length<pl.length:=Nat.mod_lt _ (by omega);obtain⟨q,hq⟩:=jM (xs:=pl) hlt;have ep:q=fU pl y:=by unfold fU;rw[zX,hq];rfl
   simp only[e0];rw[if_neg (by decide),if_neg (by decide),fT (by rw[gP,bu];omega),fT (by rw[gP,bu];omega),er,gZ hq,zD,zD,tF (eqAs_refl _),tF (eqAs_refl _)];exact st q g' ep
 show Yc Yh k y (t,s,(),x,g,pl) w=_;unfold Yc;by_cases h2:k=2
 ·rw[if_pos (fo.2 h2),if_pos h2]
  exact k4 y
 ·rw[if_neg (fun e=>h2 (fo.1 e)),if_neg h2]
  exact k4 g
def xq(alt:Bool)(t:TTk)(s:TSl)(x g:Int)(pl:List (List bn))(w:gK):Bool×TTk×TSl×Int×Int×List (List bn)×gK×Unit :=
 match qA alt t x with
 | none=>(true,t,s,x,g,pl,w,())
 | some (k,y)=>(decide ((kH t k y (fU pl y)).2.2=0),(kH t k y (fU pl y)).1,s,y,if k=2 then y else g,pl,iA w false (kH t k y (fU pl y)).2.1,())
theorem Dl{t:TTk}{s:TSl}(ht:OkT t)(hs:OkS s)(alt:Bool){x:Int}(hx:0≤x∧x≤1000000)(g:Int){pl:List (List bn)}(hp:OkPl pl)(w:gK) :
  yt (alt,t,s,x,g,pl,w,())=some (xq alt t s x g pl w):=by
 have ea:add .u32 x 1=x+1:=auS (by omega) (by omega);have go:=fun k y hy=>anX ht hs (k:=k) (y:=y) hy hp x g w;have K5:∀b,Pt 1 (x+1) b (t,s,(),x,g,pl) w=if b=true then some (true,t,s,x,g,pl,w,()) else Ar 1 (x+1) (t,s,(),x,g,pl) w:=fun b=>by show Ye Ar 1 (x+1) b (t,s,(),x,g,pl) w=_;unfold Ye;rw[je hs]
 have K3:∀b,Jo 1 (x+1) b (t,s,(),x,g,pl) w=if b=true then Ar 3 x (t,s,(),x,g,pl) w else if nei t.2.2.2.2.1 0=true then Pt 1 (x+1) (eqi t.2.2.2.2.2.2.2.2 0) (t,s,(),x,g,pl) w else Pt 1 (x+1) false (t,s,(),x,g,pl) w:=fun b=>rfl;have K1:∀b,Yi alt 1 (x+1) b (t,s,(),x,g,pl) w=if b=true then Ar 2 x (t,s,(),x,g,pl) w else if eqi t.2.2.2.2.1 1=true then (if alt=true then Jo 1 (x+1) true (t,s,(),x,g,pl) w else Jo 1 (x+1) (eqi t.2.2.2.2.2.2.2.2 2) (t,s,(),x,g,pl) w) else Jo 1 (x+1) false (t,s,(),x,g,pl) w:=fun b=>rfl;show Yg Yi alt t s x g pl w=_;unfold Yg xq qA;rw[ea];simp only[K1,K3,K5,go 1 (x+1) (by omega),go 2 x (by omega),go 3 x (by omega)];generalize t.2.2.2.2.1=a;generalize t.2.2.2.2.2.2.2.2=c;have eq:∀p q:Int,(eqi p q=true)=(p=q):=fun p q=>propext fo;have ne:∀p q:Int,(nei p q=true)=(p≠q):=fun p q=>propext gP;cases alt<;>simp only[eq,ne,Bool.not_true,Bool.not_false,if_true,Bool.false_eq_true,if_false]<;>(by_cases h1:a=1<;>by_cases h2:c=1<;>by_cases h3:c=2<;>by_cases h4:c=0<;>by_cases h5:a=0<;>simp_all<;>omega)
theorem EG{tx unit:Int}{pdu:List Int}(hu:0≤unit∧unit≤255)(hb:∀y∈pdu,0≤y∧y≤255):∀y∈kN tx unit pdu,0≤y∧y≤255:=by
 intro y hy;unfold kN at hy;rcases List.mem_append.1 hy with h | h
 ·simp at h
  rcases h with rfl | rfl | rfl | rfl | rfl<;>omega
 ·exact hb y h
theorem Hy{b:List Int}(hb:∀y∈b,0≤y∧y≤255):∀y∈iP b,0≤y∧y≤255:=by
 have hs:=AJ b;intro y hy;unfold iP at hy;rcases List.mem_append.1 hy with h | h
 ·exact hb y h
 ·simp at h
  rcases h with rfl | rfl<;>omega
theorem LD{u:Int}{b:List Int}(hu:0≤u∧u≤255)(hb:∀y∈b,0≤y∧y≤255):∀y∈u::b,0≤y∧y≤255:=by
 intro y hy;rcases List.mem_cons.1 hy with h | h
 ·exact h ▸ hu
 ·exact hb y h
theorem EH{l u x:Int}{r:TR}(hr:RR r)(hu:0≤u∧u≤255):∀y∈gB l u x r,0≤y∧y≤255:=by
 unfold gB;split
 ·exact EG hu (qy hr)
 ·exact Hy (LD hu (qy hr))
theorem Dm{l u x:Int}{a:TA}(hr:RA a)(hu:0≤u∧u≤255):∀y∈jo l u x a,0≤y∧y≤255:=by
 unfold jo;split
 ·exact EG hu (sj hr)
 ·exact Hy (LD hu (sj hr))
theorem RX{t:TTk}{s:TSl}(h:OkX t s):OkT (dw t).1:=by have hx:=nS t.1.2.1 h.kt.p.x0 h.kt.p.x1;rw[tZ h];exact⟨⟨h.kt.p.u0,h.kt.p.u1,h.kt.p.l,h.kt.p.t0,h.kt.p.t1,h.kt.p.r0,h.kt.p.r1,oQ h.kt,hx.1,hx.2⟩,h.kt.o,h.kt.x,h.kt.bl,h.kt.bf,h.kt.at',h.kt.n,h.kt.tr⟩
theorem aDM{t:TTk}{s:TSl}(h:OkX t s):OkM (dw t).1 (false,(dw t).2):=by have hl:=Dk h;have h0:=h.kt.p.u0;have h1:=h.kt.p.u1;have hu:=h.u;refine⟨?_,by dsimp only;omega,fun e=>by cases e⟩;rw[tZ h];exact Dm (lD (qY h.kt h.g.good)) (by omega)
theorem asL{t:TTk}{s:TSl}(h:OkX t s):OkM (dw t).1 (true,gB s.2.1 s.1 (kP s.2.1 t.1.2.2.2.2.2.2.1) (gu s (fZ t)).2):=by have h0:=h.kt.p.u0;have h1:=h.kt.p.u1;have hu:=h.u;have hx:=nS t.1.2.1 h.kt.p.x0 h.kt.p.x1;have ha:=oQ h.kt;have hr:=qY h.kt h.g.good;have rp:=nT h.ks ha hr;have hl:=xR (l:=s.2.1) (u:=s.1) (x:=kP s.2.1 t.1.2.2.2.2.2.2.1) rp.rr;refine⟨EH rp.rr (by omega),by dsimp only;omega,fun _ r e=>?_⟩;have hp:OkP (mU (lS t.1 (fZ t))):=⟨h.kt.p.u0,h.kt.p.u1,h.kt.p.l,h.kt.p.t0,h.kt.p.t1,h.kt.p.r0,h.kt.p.r1,ha,hx.1,hx.2⟩;have e1:=Gf rp hp rfl (Dc h.ks ha hr);have e2:kV (mU (lS t.1 (fZ t))) (gB t.1.2.1 t.1.1 (kP t.1.2.1 t.1.2.2.2.2.2.2.1) (gu s (fZ t)).2)=some (gu s (fZ t)).2:=e1;rw[tZ h,h.u,h.l]at e;dsimp only at e;rw[e2]at e;cases e;have:=rp.ok.lw;exact⟨rp.ok.w,by omega⟩
theorem aee:∀{n m:Nat} {t:TTk} {s:TSl} {z:TTk×TSl},OkX t s->uf n t s=some z->2*n≤m->Et m (dw t).1 s [(false,(dw t).2)]
 | 0,_,_,_,_,_,h,_=>by cases h
 | n+1,m,t,s,z,hx,h,hm=>by
  obtain⟨k,rfl⟩:∃k,m=k+2:=⟨m - 2,by omega⟩;refine⟨RX hx,aDM hx,?_⟩;rw[RO hx];refine⟨RX hx,asL hx,?_⟩;rw[RP hx];unfold uf at h;split at h
  ·rename_i h0
   rw[if_pos h0];cases k<;>trivial
  ·rename_i h0
   rw[if_neg h0];exact aee (hx.next h0) h (by omega)
theorem asM{n N:Nat}{t:TTk}{s:TSl}{z:TTk×TSl}(h:OkX t s)(hz:uf n t s=some z)(hn:2*n≤N)(hN:N≤1000000)(x g:Int)(pl:List (List bn)) :
  CO ((N:Int),(dw t).1,s,x,g,pl,[(false,(dw t).2)],())=some (true,z.1,z.2,x,g,pl,[],()):=by
 rw[Gg hN h.ks (aee h hz hn) (Nat.le_add_left _ _),RU h hz hn];rfl
theorem RY:∀{n:Nat} {t:TTk} {s:TSl} {z:TTk×TSl},OkX t s->uf n t s=some z->OkT z.1∧OkS z.2∧z.1.2.2.2.2.2.1=0∧z.1.1.2.2.2.2.1=false∧z.2.1=z.1.1.1∧z.2.2.1=z.1.1.2.1
 | 0,_,_,_,_,h=>by cases h
 | n+1,t,s,z,hx,h=>by
  unfold uf at h;split at h
  ·rename_i h0
   cases h
   have e:(jL t s).1=qz t.1:=aed _ _ _;have l:=Bd s (fZ t);refine⟨hx.kt',hx.ks',h0,by dsimp only;rw[e];rfl,?_,?_⟩
   ·dsimp only;rw[e];exact l.1.trans hx.u
   ·dsimp only;rw[e];exact l.2.trans hx.l
  ·rename_i h0
   exact RY (hx.next h0) h
theorem RZ{t:TTk}{s:TSl}(ht:OkT t)(hs:OkS s)(hu:s.1=t.1.1)(hl:s.2.1=t.1.2.1){g y:Int}{l:List bn}(hg:1≤g∧g≤3)(hy:1≤y∧y≤4294967295)(hf:g=1->o7 l=true)(hw:∀b∈l,∀z∈b.2,0≤z∧z≤65535) :
  kH t g y l=((dw (iG t g y l)).1,(dw (iG t g y l)).2,0)∧OkX (iG t g y l) s:=by
 constructor
 ·unfold kH
  rw[if_neg (by rintro (h | h);exact h hg;omega),if_neg (fun h=>by rw[hf h.1]at h;exact absurd h.2 (by decide))]
 ·refine⟨Dh ht (by omega) hf hw,hs,?_,rfl,hu,hl⟩
  have hc:g=1∨g=2∨g=3:=by omega
  have e:(iG t g y l).2.2.2.2.2.1=firstT g:=rfl;unfold goodX;rw[e];rcases hc with rfl | rfl | rfl<;>exact⟨by decide,fun h=>absurd h (by decide)⟩
def o8(x:bn):bn:=(x.1%64,x.2.take (min (min x.2.length 14) (64 - x.1%64).toNat))
def qZ(l:List bn):List bn:=(l.take 4).map o8
theorem aef(x:bn):gV (o8 x)=true:=by unfold gV o8;rw[decide_eq_true_eq];dsimp only;rw[kB];omega
theorem asN{l:List bn}:Mh (l,4,())=some (qZ l,()):=by
 show V8 IZ l 4=_;unfold V8 qZ
 have hc:cut l 0 (if lt 4 (zF l.length)=true then 4 else zF l.length)=some (l.take 4):=by
  by_cases h:4<l.length
  ·rw[if_pos (by rw[fq,bu];omega)]
   exact pW (j:=4) (by omega)
  ·rw[if_neg (by rw[fq,bu];omega),bu,pW (Nat.le_refl _),List.take_of_length_le (Nat.le_refl _),List.take_of_length_le (by omega)]
 rw[hc,zD];have h8:(l.take 4).length≤4:=by rw[kB];omega
 generalize l.take 4=m at h8;show IZ m (zF m.length) 0 ((m.take 0).map o8)=_;unfold IZ;refine nI (N:=m.length) (mk:=fun i=>(m,zF m.length,(i:Int),(m.take i).map o8)) ?_ ?_ m.length 0 _ (by omega) (by omega)
 ·intro self i hi
  show IY (Oj _) _ m (zF m.length) (i:Int) ((m.take i).map o8)=self (m,zF m.length,((i+1:Nat):Int),(m.take (i+1)).map o8);obtain⟨x,hx⟩:=jM (xs:=m) (i:=i) hi;have es:(m.take (i+1)).map o8=(m.take i).map o8++[o8 x]:=by rw[List.take_add_one,hx,List.map_append];rfl
  have hlen:((m.take i).map o8).length≤4:=by rw[kA,kB];omega
  rw[es];unfold IY;rw[if_pos (by rw[fq,bu];omega),gZ hx,zD]
  have K2:Oj (fun t14 t15 t16 out=>self (t14,t15,t16,out)) (x.1%64) m (zF m.length) (i:Int) ((m.take i).map o8) x=self (m,zF m.length,((i+1:Nat):Int),(m.take i).map o8++[o8 x]):=by
   show V7 _ (x.1%64) m (zF m.length) (i:Int) ((m.take i).map o8) x=_;unfold V7;have e1:Sx.sub .i64 64 (x.1%64)=64 - x.1%64:=lQ (by omega) (by omega)
   have hc2:cut x.2 0 (if lt (Sx.sub .i64 64 (x.1%64)) (if lt 14 (zF x.2.length)=true then 14 else zF x.2.length)=true then Sx.sub .i64 64 (x.1%64) else if lt 14 (zF x.2.length)=true then 14 else zF x.2.length)=some (o8 x).2:=by
    rw[e1];have e2:(if lt (64 - x.1%64) (if lt 14 (zF x.2.length)=true then 14 else zF x.2.length)=true then 64 - x.1%64 else if lt 14 (zF x.2.length)=true then 14 else zF x.2.length)=((min (min x.2.length 14) (64 - x.1%64).toNat:Nat):Int):=by simp only[rX,bu,decide_eq_true_eq];split<;>split<;>omega
    rw[e2,pW (by omega)];rfl
   rw[hc2,zD];have h14:(o8 x).2.length≤14:=by show (x.2.take _).length≤14;rw[kB];omega
   rw[jJ (by omega),jJ (by show _+1≤_;omega),jm (by omega)];rfl
  have er:rem x.1 64=x.1%64∨(rem x.1 64<0∧rem x.1 64+64=x.1%64):=by unfold rem;have:=Int.tmod_eq_emod (a:=x.1) (b:=64);rw[this];split<;>omega
  by_cases hneg:rem x.1 64<0
  ·rw[if_pos (fq.2 hneg)]
   have h2:rem x.1 64+64=x.1%64:=by
    rcases er with e | e
    ·have:=Int.emod_nonneg x.1 (show (64:Int)≠0 by decide);omega
    ·exact e.2
   rw[jS (by omega) (by omega),h2];exact K2
  ·rw[if_neg (fun e=>hneg (fq.1 e))]
   have h2:rem x.1 64=x.1%64:=by
    rcases er with e | e
    ·exact e
    ·exact absurd e.1 hneg
   rw[h2];exact K2
 ·intro self
  show IY (Oj _) _ m (zF m.length) (m.length:Int) _=_;unfold IY;rw[if_neg (by rw[fq,bu];omega),List.take_of_length_le (Nat.le_refl _)]
def qH(link timeout retries:Int):TTk:=((9,1+link%2,1+timeout%10,retries%4,false,zA,0,0,0),7,0,[],0,0,0,0,0)
def qI(link:Int)(b:List Int):TSl:=(9,1+link%2,zAg (uL b) 40,zE 16 false)
def pJ(plan:List (List bn)):List (List bn):=(plan.take 6).map qZ
theorem asO{link timeout retries:Int}(h1:0≤link)(h2:0≤timeout)(h3:0≤retries):OkT (qH link timeout retries) :=
 ⟨abC (decide_eq_true ⟨⟨by omega,by omega⟩,by omega,⟨by omega,by omega⟩,by omega,by omega⟩),(by decide:(1:Int)≤7∧(7:Int)≤65535),(by decide:(0:Int)≤0∧(0:Int)≤4294967295),Nat.zero_le _,fun b hb=>(by cases hb),(by decide:(0:Int)≤0∧(0:Int)≤7),(by decide:(0:Int)≤0∧(0:Int)≤((0:Nat):Int)),(by decide:(0:Int)≤0),fun e=>absurd rfl e⟩
theorem Uk{link:Int}{b:List Int}(h:0≤link)(hb:∀x∈b,0≤x∧x≤65535):OkS (qI link b):=by refine⟨⟨(by decide:(1:Int)≤9),(by decide:(9:Int)≤247)⟩,?_,Ej (Hq b) (abR hb) ⟨by decide,by decide⟩ ⟨by decide,by decide⟩,rfl⟩;show 1+link%2=1∨1+link%2=2;omega
theorem Ul{l:List bn}(hw:∀b∈l,∀y∈b.2,0≤y∧y≤65535):(qZ l).length≤4∧∀b∈qZ l,gV b=true∧b.2.length≤14∧∀y∈b.2,0≤y∧y≤65535:=by refine⟨by unfold qZ;rw[kA,kB];omega,fun b hb=>?_⟩;obtain⟨x,hx,rfl⟩:=List.mem_map.1 hb;refine⟨aef x,?_,fun y hy=>hw x (List.mem_of_mem_take hx) y (List.mem_of_mem_take hy)⟩;unfold o8;dsimp only;rw[kB];omega
theorem anY{plan:List (List bn)}(hw:∀l∈plan,∀b∈l,∀y∈b.2,0≤y∧y≤65535):OkPl (pJ plan):=by refine⟨by unfold pJ;rw[kA,kB];omega,fun q hq=>?_⟩;obtain⟨l,hl,rfl⟩:=List.mem_map.1 hq;obtain⟨h1,h2⟩:=Ul (hw l (List.mem_of_mem_take hl));exact⟨by omega,fun b hb=>⟨by have:=(h2 b hb).2.1;omega,(h2 b hb).2.2⟩⟩
theorem abX{plan:List (List bn)}(hw:∀l∈plan,∀b∈l,∀y∈b.2,0≤y∧y≤65535)(y:Int):(fU (pJ plan) y).length≤4∧∀b∈fU (pJ plan) y,gV b=true∧b.2.length≤14∧∀y∈b.2,0≤y∧y≤65535:=by
 unfold fU;rw[zX]
 cases e:(pJ plan)[y.toNat%(pJ plan).length]? with
 | none=>exact⟨Nat.zero_le _,fun b hb=>by cases hb⟩
 | some q =>
  obtain⟨l,hl,rfl⟩:=List.mem_map.1 (zY e);exact Ul (hw l (List.mem_of_mem_take hl))
theorem Dn{l:List bn}(h:l.length≤8)(hf:∀b∈l,gV b=true):o7 l=true:=by unfold o7;rw[decide_eq_true h,Bool.true_and,List.all_eq_true];exact hf
theorem asP{u l o t r:Int}(h:vQ u l t r=true)(ho:o≠0):VY (u,l,o,t,r,())=some (((u,l,t,r,false,zA,0,0,0),o,0,[],0,0,0,0,0),0,()):=by show VX afM u l o t r=_;unfold VX;rw[avl,if_pos h,zD];dsimp only;rw[if_neg (by decide),show eqi o 0=false from by rw[<- Bool.not_eq_true,fo];exact ho];rfl
theorem asQ{link:Int}(h:0≤link)(b:List Int):V4 (9,1+link%2,uL b,40,())=some (qI link b,0,()):=by
 show afR 9 (1+link%2) (uL b) 40=_;unfold afR
 have e:VZ (9,1+link%2,())=some (true,()):=by
  show afN 9 (1+link%2)=_;unfold afN;rw[if_pos (by decide),if_pos (by decide)];by_cases h1:1+link%2=1
  ·rw[if_pos (fo.2 h1)]
  ·rw[if_neg (fun e=>h1 (fo.1 e)),show eqi (1+link%2) 2=true from fo.2 (by omega)]
 have hl:=Hq b;rw[e,zD,if_neg (by decide),asD (by omega),if_pos hl,if_pos (by decide),zD];rfl
theorem anZ{link timeout retries:Int}(h1:0≤link)(h2:0≤timeout)(h3:0≤retries){bank:List Int}(hb:∀x∈bank,0≤x∧x≤65535)(plan:List (List bn)) :
  I5 (link,timeout,retries,bank,plan,())=some (qH link timeout retries,qI link bank,0,0,pJ plan,true,[],()):=by
 show Wh I4 link timeout retries bank plan=_;unfold Wh;have e1:add .u8 1 (rem link 2)=1+link%2:=by unfold rem;rw[kC h1];exact wu8 (by omega) (by omega)
 have e2:add .i64 1 (cvt .i64 (rem timeout 10))=1+timeout%10:=by unfold rem;rw[kC h2,jr (by omega) (by omega),jS (by omega) (by omega)]
 have e3:cvt .i64 (rem retries 4)=retries%4:=by unfold rem;rw[kC h3,jr (by omega) (by omega)]
 have hc:cut plan 0 (if lt 6 (zF plan.length)=true then 6 else zF plan.length)=some (plan.take 6):=by
  by_cases h:6<plan.length
  ·rw[if_pos (by rw[fq,bu];omega)]
   exact pW (j:=6) (by omega)
  ·rw[if_neg (by rw[fq,bu];omega),bu,pW (Nat.le_refl _),List.take_of_length_le (Nat.le_refl _),List.take_of_length_le (by omega)]
 rw[e1,e2,e3,asP (decide_eq_true ⟨⟨by omega,by omega⟩,by omega,⟨by omega,by omega⟩,by omega,by omega⟩) (by decide),zD,anK,zD,asQ h1,zD,hc,zD];have h6:(plan.take 6).length≤6:=by rw[kB];omega
 unfold pJ;generalize plan.take 6=m at h6;show I4 0 0 0 m (zF m.length) 0 _ (qH link timeout retries) [qI link bank] (qH link timeout retries,qI link bank,(),0,0,()) [] ((m.take 0).map qZ)=_;unfold I4;refine nI (N:=m.length) (mk:=fun i=>(0,0,0,m,zF m.length,(i:Int),_,qH link timeout retries,[qI link bank],(qH link timeout retries,qI link bank,(),0,0,()),[],(m.take i).map qZ)) ?_ ?_ m.length 0 _ (by omega) (by omega)
 ·intro self i hi
  show I1 Wi _ 0 0 0 m (zF m.length) (i:Int) _ (qH link timeout retries) [qI link bank] (qH link timeout retries,qI link bank,(),0,0,()) [] ((m.take i).map qZ)=_;obtain⟨x,hx⟩:=jM (xs:=m) (i:=i) hi;have es:(m.take (i+1)).map qZ=(m.take i).map qZ++[qZ x]:=by rw[List.take_add_one,hx,List.map_append];rfl
  have hlen:((m.take i).map qZ).length≤6:=by rw[kA,kB];omega
  rw[es];unfold I1;rw[if_pos (by rw[fq,bu];omega),gZ hx,zD,asN,zD,jJ (by show _+1≤_;omega),jm (by omega)];rfl
 ·intro self
  show I1 Wi _ 0 0 0 m (zF m.length) (m.length:Int) _ (qH link timeout retries) [qI link bank] (qH link timeout retries,qI link bank,(),0,0,()) [] ((m.take m.length).map qZ)=_;unfold I1;rw[if_neg (by rw[fq,bu];omega),List.take_of_length_le (Nat.le_refl _)];show Wd 0 0 0 _ (qH link timeout retries) [qI link bank] (qH link timeout retries,qI link bank,(),0,0,()) [] (m.map qZ)=_;unfold Wd;rw[if_pos (by decide),if_pos (by decide),if_pos (show eqi (qH link timeout retries).2.1 7=true from rfl),jy,zD];dsimp only;rw[je (Uk h1 hb)];rfl
theorem Um{s:TSl}{c:TCm}(h:OkC c)(hA:(doS (fQ s.2.2.1) c).2≠0):gu s (jd c)=(s,(23,4,[],[],0,0)):=by
 obtain⟨_,_,h3⟩:=nN h;have hw:iM s.2.2.1 (atW (jd c)) (jd c).2.2.2.2.1=(s.2.2.1,4):=by show iM s.2.2.1 272 (jd c).2.2.2.2.1=_;unfold iM;rw[if_pos rfl,Lu h,if_neg (by simp),if_pos hA]
 have hn:¬ ((jd c).1=5∨(jd c).1=15):=by show ¬ ((23:Int)=5∨(23:Int)=15);decide
 have hl:¬ (jd c).2.2.2.2.1.length=0:=by show ¬ (8=0);decide
 unfold gu;rw[if_neg (by rw[h3];decide),if_neg hn,if_neg hl,hw,if_pos (by simp)];rfl
theorem others{a:TAg}(h1:a.2.1.1≠0)(h2:a.2.1.1≠7){v t:Int}(n k:Int)(hv:1≤v∧v≤4)(ht:t≠0):(doS (fQ a) (7,v,t,n,k)).2=22:=by unfold doS;rw[if_neg (by rintro (h | h | h);exact absurd h (by decide:(7:Int)≠0);exact ht h;exact h hv),if_pos ⟨h1,h2⟩]
theorem an0:abq ()=some (true,()):=by kernel_rfl
abbrev TPr:=TTk×TSl×Unit×Int×Int×List (List bn)
theorem aeg{alt:Bool}{t:TTk}{s:TSl}{x g k y:Int}{pl:List (List bn)}(ht:OkT t)(hs:OkS s)(hu:s.1=t.1.1)(hl:s.2.1=t.1.2.1)(hx:0≤x∧x≤1000000)(hp:OkPl pl)
  (hk:qA alt t x=some (k,y)) (hk3:1≤k∧k≤3) (hy:1≤y∧y≤4294967295) (hf:k=1->o7 (fU pl y)=true) :
  yt (alt,t,s,x,g,pl,[],())=some (true,(dw (iG t k y (fU pl y))).1,s,y,if k=2 then y else g,pl,[(false,(dw (iG t k y (fU pl y))).2)],())∧OkX (iG t k y (fU pl y)) s:=by
 obtain⟨e1,ox⟩:=RZ (g:=k) (y:=y) (l:=fU pl y) ht hs hu hl hk3 hy hf (fun b hb=>((RV hp y).2 b hb).2);have hlen:=Dk ox;refine⟨?_,ox⟩;rw[Dl ht hs alt hx g hp []];unfold xq;rw[hk];dsimp only;have eo:iA [] false (dw (iG t k y (fU pl y))).2=[(false,(dw (iG t k y (fU pl y))).2)]:=by unfold iA;rw[if_pos ⟨by omega,by decide⟩];rfl
 rw[e1];dsimp only;rw[eo];rfl
def hvK(k:Nat):List Bool:=zE k true++zE (8 - k) false
def bsK(L:List bn)(k:Nat):List bn:=L.take k++zE (8 - k) zB
def agK(bank:List Int)(o tx tk la:Int)(L:List bn)(k:Nat):TAg:=(bank,(o,tk),1,tx,la,(tx,hvK k,bsK L k),tk)
theorem Un{k:Nat}(h:k≤8):(hvK k).length=8:=by simp[hvK];omega
theorem Uo{L:List bn}{k:Nat}(h:k≤8)(hL:k≤L.length):(bsK L k).length=8:=by simp[bsK];omega
theorem asR{k:Nat}(h:k<8):(hvK k).set k true=hvK (k+1):=by
 have:∀k:Fin 8,(hvK k.1).set k.1 true=hvK (k.1+1):=by decide
 exact this ⟨k,h⟩
theorem asS{L:List bn}{k:Nat}{x:bn}(h:k<8)(hx:L[k]? = some x):(bsK L k).set k x=bsK L (k+1):=by
 have hk:=(List.getElem?_eq_some_iff.1 hx).1;unfold bsK;have lp:(L.take k).length=k:=by rw[kB];omega
 have er:zE (8 - k) zB=zB::zE (8 - (k+1)) zB:=by rw[show 8 - k=(8 - (k+1))+1 by omega];rfl
 have:=adp (L.take k) zB x (zE (8 - (k+1)) zB);rw[lp]at this;rw[er,this,List.take_add_one,hx,List.append_assoc];rfl
theorem an1:∀{h1 h2:List Bool} {b1 b2:List bn},h1.length=b1.length->gY (h1++h2) (b1++b2)=gY h1 b1++gY h2 b2:=by intro h1 h2 b1 b2 h;unfold gY;rw[List.zip_append h,List.filter_append,List.map_append]
theorem LF:∀(l:List bn),gY (zE l.length true) l=l
 | []=>rfl
 | x::r=>by have:=LF r;unfold gY at this ⊢;rw[List.length_cons,List.replicate_succ,List.zip_cons_cons,List.filter_cons,if_pos rfl,List.map_cons,this]
theorem Hz:∀(n m:Nat),gY (zE n false) (zE m zB)=[]
 | 0,_=>by simp[gY]
 | n+1,0=>by simp[gY]
 | n+1,m+1=>by have:=Hz n m;unfold gY at this ⊢;rw[List.replicate_succ,List.replicate_succ,List.zip_cons_cons,List.filter_cons,if_neg (by decide),this]
theorem R3{L:List bn}{k:Nat}(hL:k≤L.length):gY (hvK k) (bsK L k)=L.take k:=by
 have lp:(L.take k).length=k:=by rw[kB];omega
 unfold hvK bsK;rw[an1 (by rw[kD,lp]),Hz,List.append_nil];have:=LF (L.take k);rw[lp]at this;exact this
theorem asT{h1 h2:List Bool}{b1 b2:List bn}(h:h1.length=b1.length):nzB (h1++h2) (b1++b2)=nzB h1 b1++nzB h2 b2:=by unfold nzB;exact List.zipWith_append h
theorem R4:∀(l:List bn),nzB (zE l.length true) l=l
 | []=>rfl
 | x::r=>by have:=R4 r;unfold nzB at this ⊢;rw[List.length_cons,List.replicate_succ,List.zipWith_cons_cons,if_pos rfl,this]
theorem LG:∀(n:Nat),nzB (zE n false) (zE n zB)=zE n zB
 | 0=>rfl
 | n+1=>by have:=LG n;unfold nzB at this ⊢;rw[List.replicate_succ,List.replicate_succ,List.zipWith_cons_cons,if_neg (by decide),this]
theorem ard{L:List bn}{k:Nat}(hL:k≤L.length):nzB (hvK k) (bsK L k)=bsK L k:=by
 have lp:(L.take k).length=k:=by rw[kB];omega
 unfold hvK bsK;rw[asT (by rw[kD,lp]),LG];have:=R4 (L.take k);rw[lp]at this;rw[this]
theorem aeh{k:Nat}(h:k≤8):(hvK k).count true=k:=by
 have:∀k:Fin 9,(hvK k.1).count true=k.1:=by decide
 exact this ⟨k,by omega⟩
theorem aei{k:Nat}(h:k≤8):qJ (hvK k) (k:Int)=true:=by
 have:∀k:Fin 9,qJ (hvK k.1) (k.1:Int)=true:=by decide
 exact this ⟨k,by omega⟩
section
variable {bank:List Int}{o tx tk la:Int}{L:List bn}(hb:bank.length=64)(hbr:∀x∈bank,0≤x∧x≤65535)(ho:1≤o∧o≤65535)(ht:1≤tx∧tx≤4294967295)(hk:1≤tk∧tk≤9223372036854775807)
 (hL:L.length≤8) (hf:∀x∈L,gV x=true) (hw:∀x∈L,∀w∈x.2,0≤w∧w≤65535) (hla:0≤la∧la<tx)
include hb hbr ho ht hk hL hf hw hla
theorem Up{k:Nat}{P:bn->Prop}(hz:P zB)(hp:∀x∈L,P x):∀x∈bsK L k,P x:=by
 intro x hx;rcases List.mem_append.1 hx with e | e
 ·exact hp x (List.mem_of_mem_take e)
 ·rw[List.eq_of_mem_replicate e];exact hz
theorem aej{k:Nat}(h:k≤L.length):OkG (agK bank o tx tk la L k) where
 bl:=hb
 bw:=hbr
 lr:=Or.inr ⟨by show o≠0;omega,Or.inl hk.1⟩
 l1:=⟨by show 0≤o;omega,ho.2⟩
 l2:=hk.2
 pr:=⟨by show (0:Int)≤1;decide,by show (1:Int)≤2;decide⟩
 tr:=⟨by show 0≤tx;omega,ht.2⟩
 ar:=⟨hla.1,by show la≤4294967295;omega⟩
 kr:=hk
 hl:=Un (by omega)
 sl:=Uo (by omega) h
 bb:=Up hb hbr ho ht hk hL hf hw hla (P:=fun b=>b.2.length≤1000) (by show 0≤1000;omega) (fun x hx=>by have:=of_decide_eq_true (hf x hx);omega)
 wb:=Up hb hbr ho ht hk hL hf hw hla (P:=fun b=>∀w∈b.2,0≤w∧w≤65535) (by intro w hw;cases hw) hw
 fb:=fun b hb=>by have:b∈gY (hvK k) (bsK L k):=hb;rw[R3 h]at this;exact hf b (List.mem_of_mem_take this)
 p0:=fun e=>absurd e (show (1:Int)≠0 by decide)
 pn:=fun _=>⟨by show o≠0;omega,by show la<tx;omega,rfl⟩
 p1:=fun _=>hk.1
 p2:=fun e=>absurd e (show (1:Int)≠2 by decide)
theorem Uq{k:Nat}(h:k≤L.length):fQ (agK bank o tx tk la L k)=agK bank o tx tk la L k:=by unfold fQ agK;dsimp only;rw[ard h]
theorem asU{k:Nat}{x:bn}(hx:L[k]? = some x):putA (fQ (agK bank o tx tk la L k)) o tx (k:Int) x=(agK bank o tx tk la L (k+1),0):=by
 have hk':=(List.getElem?_eq_some_iff.1 hx).1;rw[Uq hb hbr ho ht hk hL hf hw hla (by omega)];unfold putA agK;dsimp only;rw[if_neg (by omega),if_neg (by omega),if_neg (by simp)];have et:lG (o,tk) o tk=(o,tk):=by unfold lG;split<;>rfl
 have es:F4 (tx,hvK k,bsK L k) (zI (k:Int)) x=(tx,hvK (k+1),bsK L (k+1)):=by unfold F4;dsimp only;rw[zQ,asR (by omega),asS (by omega) hx,ard (by omega)]
 rw[et,es]
def agP(bank:List Int)(o tx tk la:Int)(L:List bn):TAg:=(bank,(o,-1),2,tx,la,(tx,hvK L.length,bsK L L.length),tk)
theorem R5:doS (fQ (agK bank o tx tk la L L.length)) (o,2,tx,(L.length:Int),nM L)=(agP bank o tx tk la L,0):=by
 rw[Uq hb hbr ho ht hk hL hf hw hla (Nat.le_refl _)];unfold doS;have hwh:uG (agK bank o tx tk la L L.length) (L.length:Int) (nM L)=true:=by show (decide (0≤(L.length:Int)∧(L.length:Int)≤8) && (qJ (hvK L.length) (L.length:Int) && decide (nM (gY (hvK L.length) (bsK L L.length))=nM L)))=true;rw[R3 (Nat.le_refl _),List.take_length,aei hL,decide_eq_true rfl,decide_eq_true (by omega)];rfl
 unfold agK at hwh ⊢;dsimp only;rw[if_neg (by omega),if_neg (by omega),if_neg (by decide),if_pos rfl,if_pos (Or.inr ⟨rfl,rfl,hwh⟩)];rfl
theorem avn:OkG (agP bank o tx tk la L):=by have h0:=aej hb hbr ho ht hk hL hf hw hla (Nat.le_refl L.length);have h1:=h0.own.doS (c:=(o,2,tx,(L.length:Int),nM L)) ⟨by show 0≤o;omega,ho.2⟩ ⟨by show 0≤tx;omega,ht.2⟩ ⟨by show (0:Int)≤(L.length:Int);omega,by show (L.length:Int)≤65535;omega⟩;rw[R5 hb hbr ho ht hk hL hf hw hla]at h1;exact h1
end
theorem uM(f:Int)(A:TAg):gH (f,0,[],iq A,0,0)=some (A.2.1.1,A.2.2.1,A.2.2.2.1,A.2.2.2.2.1):=by
 have e:gH (f,0,[],iq A,0,0)=some (A.2.1.1,A.2.2.1,65536*(A.2.2.2.1 / 65536)+A.2.2.2.1%65536,65536*(A.2.2.2.2.1 / 65536)+A.2.2.2.2.1%65536):=rfl;have h:∀x:Int,65536*(x / 65536)+x%65536=x:=fun x=>by omega
 rw[e,h,h]
section
variable {bank:List Int}{tx tk la:Int}{L:List bn}(hb:bank.length=64)(hbr:∀x∈bank,0≤x∧x≤65535)(ht:1≤tx∧tx≤4294967295)(hk:1≤tk∧tk≤9223372036854775807)
 (hL:L.length≤8) (hf:∀x∈L,gV x=true) (hw:∀x∈L,∀w∈x.2,0≤w∧w≤65535) (hla:0≤la∧la<tx)
include hb hbr ht hk hL hf hw hla
theorem aek{p:TP}{s:TSl}{k:Nat}{x:bn}(h:OkX (p,(7,tx,L,1,2,(k:Int),0,0)) s)(hx:L[k]? = some x)(hs:s.2.2.1=agK bank 7 tx tk la L k):jL (p,(7,tx,L,1,2,(k:Int),0,0)) s=(qz p,(7,tx,L,1,3,(k:Int),0,0))∧slX (p,(7,tx,L,1,2,(k:Int),0,0)) s=jN s (agK bank 7 tx tk la L (k+1)):=by
 have hk':=(List.getElem?_eq_some_iff.1 hx).1;have hm:=zY hx;have eb:qG (p,(7,tx,L,1,2,(k:Int),0,0))=iB 7 tx (k:Int) x:=by unfold qG;dsimp only;rw[zQ,hx]
 have e:fZ (p,(7,tx,L,1,2,(k:Int),0,0))=nO (iB 7 tx (k:Int) x):=by rw[<- eb];show (if sG (p,(7,tx,L,1,2,(k:Int),0,0))=true then nO _ else zA)=_;exact if_pos (decide_eq_true (show (k:Int)<(L.length:Int) by omega))
 have es:=F9 h.ks (hf x hm) (o:=7) (tx:=tx) (n:=(k:Int)) (by omega) (Bb (by decide) (by omega) (by omega) (hw x hm)) (A:=agK bank 7 tx tk la L (k+1)) (by rw[hs];exact asU hb hbr (by decide:(1:Int)≤7∧(7:Int)≤65535) ht hk hL hf hw hla hx);constructor
 ·unfold jL
  rw[e,es,RF rfl];exact if_neg (show ¬ (0:Int)≠0 by decide)
 ·unfold slX
  rw[e,es]
theorem an2{p:TP}{s:TSl}{k:Nat}{x:bn}(h:OkX (p,(7,tx,L,1,3,(k:Int),0,0)) s)(hx:L[k]? = some x)(hs:s.2.2.1=agK bank 7 tx tk la L (k+1)):jL (p,(7,tx,L,1,3,(k:Int),0,0)) s=kQ (qz p,(7,tx,L,1,3,(k:Int)+1,0,0))∧slX (p,(7,tx,L,1,3,(k:Int),0,0)) s=s:=by
 have hk':=(List.getElem?_eq_some_iff.1 hx).1;have eb:qG (qz p,(7,tx,L,1,3,(k:Int),0,0))=iB 7 tx (k:Int) x:=by unfold qG;dsimp only;rw[zQ,hx]
 have e:fZ (p,(7,tx,L,1,3,(k:Int),0,0))=rdQ (512+(k:Int)*32) 20:=by show rdQ (512+32*(k:Int)) 20=_;rw[Int.mul_comm]
 have hbk:kE s.2.2.1.2.2.2.2.2.1 s.2.2.1.2.1.1 (k:Int)=iB 7 tx (k:Int) x:=by
  rw[hs];unfold kE agK;dsimp only;rw[zQ];have e1:(hvK (k+1))[k]? = some true:=by unfold hvK;rw[List.getElem?_append_left (by rw[kD];omega),List.getElem?_replicate,if_pos (by omega)]
  have e2:(bsK L (k+1))[k]? = some x:=by unfold bsK;rw[List.getElem?_append_left (by rw[kB];omega),List.getElem?_take,if_pos (by omega),hx]
  rw[e1,e2]
 have es:gu s (rdQ (512+(k:Int)*32) 20)=(s,(3,0,[],iB 7 tx (k:Int) x,0,0)):=by
  rw[vR s (Ga (by omega)),<- hbk,<- Lt h.ks.a (by omega:k<8)];have:(512+(k:Int)*32).toNat=512+k*32:=by omega
  rw[this];rfl
 constructor
 ·unfold jL
  rw[e,es,RG rfl];exact if_pos ⟨decide_eq_true (show (k:Int)<(L.length:Int) by omega),rfl,eb.symm⟩
 ·unfold slX
  rw[e,es]
theorem an3{p:TP}{s:TSl}(h:OkX (p,(7,tx,L,1,4,(L.length:Int),0,0)) s)(hs:s.2.2.1=agK bank 7 tx tk la L L.length):jL (p,(7,tx,L,1,4,(L.length:Int),0,0)) s=(qz p,(7,tx,L,1,0,(L.length:Int),0,1))∧slX (p,(7,tx,L,1,4,(L.length:Int),0,0)) s=jN s (agP bank 7 tx tk la L):=by
 have e:fZ (p,(7,tx,L,1,4,(L.length:Int),0,0))=jd (7,2,tx,(L.length:Int),nM L):=rfl;have hc:OkC (7,2,tx,(L.length:Int),nM L):=nP (v:=2) h.kt (by decide);have es:=tY h.ks hc (A:=agP bank 7 tx tk la L) (by rw[hs];exact R5 hb hbr (by decide:(1:Int)≤7∧(7:Int)≤65535) ht hk hL hf hw hla) (avn hb hbr (by decide:(1:Int)≤7∧(7:Int)≤65535) ht hk hL hf hw hla);constructor
 ·unfold jL
  rw[e,es,RH rfl,uM];dsimp only;rw[if_pos ⟨decide_eq_true ⟨rfl,rfl⟩,rfl⟩];rfl
 ·unfold slX
  rw[e,es]
end
def ug(tx:Int)(L:List bn)(k:Nat):Int×Int×List bn×Int×Int×Int×Int×Int:=(7,tx,L,1,if k<L.length then 2 else 4,(k:Int),0,0)
theorem LH(p:TP)(tx:Int)(L:List bn)(a:Int)(k:Nat):kQ (p,(7,tx,L,1,a,(k:Int),0,0))=(p,ug tx L k):=by
 unfold kQ ug;dsimp only;by_cases h:k<L.length
 ·rw[if_neg (by omega),if_pos h]
  rfl
 ·rw[if_pos (by omega),if_neg h]
  rfl
section
variable {bank:List Int}{tx tk la:Int}{L:List bn}(hb:bank.length=64)(hbr:∀x∈bank,0≤x∧x≤65535)(ht:1≤tx∧tx≤4294967295)(hk:1≤tk∧tk≤9223372036854775807)
 (hL:L.length≤8) (hf:∀x∈L,gV x=true) (hw:∀x∈L,∀w∈x.2,0≤w∧w≤65535) (hla:0≤la∧la<tx)
include hb hbr ht hk hL hf hw hla
theorem HV:∀(j k:Nat) (p:TP) (s:TSl),k+j=L.length->OkX (p,ug tx L k) s->s.2.2.1=agK bank 7 tx tk la L k->∃p',uf (2*j+1) (p,ug tx L k) s=some ((p',(7,tx,L,1,0,(L.length:Int),0,1)),jN s (agP bank 7 tx tk la L))
 | 0,k,p,s,hj,hx,hs=>by
  have e:k=L.length:=by omega
  subst e;have ep:ug tx L L.length=(7,tx,L,1,4,(L.length:Int),0,0):=by unfold ug;rw[if_neg (by omega)]
  rw[ep]at hx ⊢;obtain⟨e1,e2⟩:=an3 hb hbr ht hk hL hf hw hla hx hs;refine⟨qz p,?_⟩;show (if (jL _ s).2.2.2.2.2.1=0 then some (jL _ s,slX _ s) else _)=_;rw[e1,e2];exact if_pos rfl
 | j+1,k,p,s,hj,hx,hs=>by
  have ep:ug tx L k=(7,tx,L,1,2,(k:Int),0,0):=by unfold ug;rw[if_pos (by omega)]
  obtain⟨x,hxk⟩:=jM (xs:=L) (i:=k) (by omega);rw[ep]at hx ⊢;obtain⟨e1,e2⟩:=aek hb hbr ht hk hL hf hw hla hx hxk hs;have h1:=hx.next (by rw[e1];show (3:Int)≠0;decide);rw[e1,e2]at h1;obtain⟨e3,e4⟩:=an2 hb hbr ht hk hL hf hw hla h1 hxk rfl;have ec:(k:Int)+1=((k+1:Nat):Int):=by omega
  rw[ec,LH]at e3;have n0:(ug tx L (k+1)).2.2.2.2.1≠0:=by unfold ug;dsimp only;split<;>decide
  have h2:=h1.next (by rw[e3];exact n0);rw[e3,e4]at h2;obtain⟨p',ih⟩:=HV j (k+1) _ _ (by omega) h2 rfl;refine⟨p',?_⟩;have er:2*(j+1)+1=(2*j+1)+1+1:=by omega
  rw[er];show (if (jL _ s).2.2.2.2.2.1=0 then _ else uf ((2*j+1)+1) (jL _ s) (slX _ s))=_;rw[e1,e2,if_neg (show ¬ (3:Int)=0 by decide)];show (if (jL _ _).2.2.2.2.2.1=0 then _ else uf (2*j+1) (jL _ _) (slX _ _))=_;rw[e3,e4,if_neg n0];exact ih
end
section
variable {bank:List Int}{tx tk la:Int}{L:List bn}(hb:bank.length=64)(hbr:∀x∈bank,0≤x∧x≤65535)(ht:1≤tx∧tx≤4294967295)(hk:1≤tk∧tk≤9223372036854775807)
 (hL:L.length≤8) (hf:∀x∈L,gV x=true) (hw:∀x∈L,∀w∈x.2,0≤w∧w≤65535) (hla:0≤la∧la<tx)
include hb hbr ht hk hL hf hw hla
end
end Go.Proofs.Lx
end
