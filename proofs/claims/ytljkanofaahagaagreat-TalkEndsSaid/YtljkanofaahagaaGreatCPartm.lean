/- Proved in the last of these 15 parts (this is part 13): TalkEnds. Conditions: those of the given statement, and no others. -/
import Derived.Test.YtljkanofaahagaaGreatCPartl
import Derived.Test.YtljkanofaahagaaGreatCPartk
set_option linter.unusedVariables false
set_option linter.unusedSimpArgs false
set_option linter.unusedSectionVars false
open Option renaming bind → zC, bind_some → zD
open List renaming replicate → zE, getD_eq_getElem?_getD → zX, mem_of_getElem? → zY, length_append → zZ, length_map → kA, length_take → kB, length_replicate → kD
open Int renaming ofNat → zF, toNat → zI, eq_ofNat_of_zero_le → zN, toNat_natCast → zQ, tmod_eq_emod_of_nonneg → kC
open Bool renaming and_eq_true → zO
noncomputable section
namespace Go.Proofs.Lx
open Go Ev Sx Pl
set_option maxRecDepth 100000
def rdA(a:TA):TA:=(if a.1=23 then 3 else a.1,a.2.1,a.2.2.1,0,[],[])
def qQ(s:TSl)(a:TA):TR:=if isE a.1=true then JJ a else (a.1,(DZ (uF s) (rdA a)).2)
theorem ari{a:TA}(ha:OkA a)(hr:iq a=true)(he:isE a.1=false)(hc:ji a=true):OkA (rdA a)∧iq (rdA a)=true∧ji (rdA a)=true∧isE (rdA a).1=false:=by
 have nil:∀x∈([]:List Int),0≤x∧x≤65535:=fun x hx=>by cases hx
 cases hra:lS hr with
 | bits f p n hf h1 h2 =>
  rcases hf with rfl | rfl
  ·exact⟨ha,hr,hc,he⟩
  ·exact⟨ha,hr,hc,he⟩
 | words f p n hf h1 h2 =>
  rcases hf with rfl | rfl
  ·exact⟨ha,hr,hc,he⟩
  ·exact⟨ha,hr,hc,he⟩
 | coil p b=>cases he
 | word p x=>cases he
 | coils p l h1 h2=>cases he
 | regs p l h1 h2=>cases he
 | swap p n t l h1 h2 h3 h4 =>
  have hc1:=(zO _ _ ▸ (show (rdH p n.toNat && decide (t=272∧l.length=8∨t=288∧l.length=20))=true from hc):_∧_).1;refine⟨⟨(by decide:(0:Int)≤3),(by decide:(3:Int)≤255),ha.at0,ha.at1,ha.m0,ha.m1,(by decide:(0:Int)≤0),(by decide:(0:Int)≤65535),nil,Nat.zero_le _,Nat.zero_le _⟩,?_,hc1,rfl⟩;show uj (3,p,n,0,[],[]) (125,0,0,false,false)=true;unfold uj;dsimp only;have e:iL n 125=true:=by unfold iL;rw[if_neg (by decide),if_pos (gY.2 h3),gM.2 h4]
  rw[e];rfl
theorem yG{s:TSl}(h:OkS s){a:TA}(ha:OkA a)(hr:iq a=true)(hc:ji a=true):ni (s,a,())=some (qQ s a,()):=by
 show Xi Xj s a=_;unfold Xi qQ;rw[OT ha hr,zD]
 cases he:isE a.1 with
 | true=>rfl
 | false =>
  obtain⟨h1,h2,h3,h4⟩:=ari ha hr he hc;have hd:=arh (QD h) h1 h2
  have hdo:(doM (uF s) (rdA a)).2=DZ (uF s) (rdA a):=by
   unfold doM;rw[if_pos h3,h4]
   have:wrM (uF s) (rdA a)=uF s:=by
    unfold isE at h4;have h5:=of_decide_eq_false h4;unfold wrM;have h23:(rdA a).1≠23:=by show (if a.1=23 then (3:Int) else a.1)≠23;split<;>omega
    rw[if_neg (by omega),if_neg (by omega),if_neg h23]
   rw[this];rfl
  have K:Xj s a 0 0 0 0 (if a.1=23 then 3 else a.1) a.2.1 a.2.2.1 0=some ((a.1,(DZ (uF s) (rdA a)).2),()):=by have hd':kF (SP,uF s,((if a.1=23 then (3:Int) else a.1),a.2.1,a.2.2.1,0,[],[]),())=_:=hd;show Xh aiK s a 0 0 0 0 _ a.2.1 a.2.2.1 0=_;unfold Xh;simp only[OG,arc h,zD,hd',qB (eqAs_refl mK.rs),aqR (eqAs_refl mK.rs)];show some ((a.1,(doM (uF s) (rdA a)).2.2),())=_;rw[hdo]
  rw[if_neg (fun e=>Bool.false_ne_true e),if_neg (fun e=>Bool.false_ne_true e)];by_cases e:a.1=23
  ·rw[if_pos (dw.2 e)]
   rw[if_pos e]at K;exact K
  ·rw[if_neg (fun x=>e (dw.1 x))]
   rw[if_neg e]at K;exact K
def jV(w:List Int):TCm×Int :=
 if w.length≠8∨w.getD 7 0≠0∨256≤w.getD 1 0 then ((0,0,0,0,0),2)
 else ((w.getD 0 0,w.getD 1 0,65536*w.getD 2 0+w.getD 3 0,w.getD 4 0,65536*w.getD 5 0+w.getD 6 0),0)
theorem aav{w:List Int}(hr:∀x∈w,0≤x∧x≤65535):G9 (w,())=some ((jV w).1,(jV w).2,()):=by
 show Xn Xo w=_;unfold Xn;by_cases hl:w.length=8
 ·rw[if_neg (fun e=>fo.1 e (by rw[ay];omega))]
  have g:∀k:Nat,k<8->at? w (k:Int)=some (w.getD k 0):=fun k hk=>by obtain⟨x,hx⟩:=fU (xs:=w) (i:=k) (by omega);rw[fI hx,zX,hx];rfl
  have rg:∀k:Nat,k<8->0≤w.getD k 0∧w.getD k 0≤65535:=fun k hk=>by obtain⟨x,hx⟩:=fU (xs:=w) (i:=k) (by omega);rw[zX,hx];exact hr x (zY hx)
  have g0:at? w 0=some (w.getD 0 0):=g 0 (by omega);have g1:at? w 1=some (w.getD 1 0):=g 1 (by omega);have g2:at? w 2=some (w.getD 2 0):=g 2 (by omega);have g3:at? w 3=some (w.getD 3 0):=g 3 (by omega);have g4:at? w 4=some (w.getD 4 0):=g 4 (by omega);have g5:at? w 5=some (w.getD 5 0):=g 5 (by omega);have g6:at? w 6=some (w.getD 6 0):=g 6 (by omega);have g7:at? w 7=some (w.getD 7 0):=g 7 (by omega)
  have K:∀b,Xo w b (0,0,0,0,0)=some (if b=true then (((0,0,0,0,0):TCm),(2:Int),()) else ((w.getD 0 0,cvt .u8 (w.getD 1 0),65536*w.getD 2 0+w.getD 3 0,w.getD 4 0,65536*w.getD 5 0+w.getD 6 0),0,())):=fun b=>by
   show Xm w b (0,0,0,0,0)=_;unfold Xm
   cases b with
   | true=>rfl
   | false =>
    have r2:=rg 2 (by omega);have r3:=rg 3 (by omega);have r5:=rg 5 (by omega);have r6:=rg 6 (by omega);rw[if_neg (by decide),if_neg (by decide),g0,zD,g1,zD,g2,zD,g3,zD,g4,zD,g5,zD,g6,zD,wR r2.1 r2.2 r3.1 r3.2,zD,wR r5.1 r5.2 r6.1 r6.2,zD]
  rw[g7,zD];unfold jV;by_cases h7:w.getD 7 0=0
  ·rw[if_neg (fun e=>fo.1 e h7),g1,zD,K]
   by_cases h1:256≤w.getD 1 0
   ·rw[if_pos (gY.2 h1),if_pos (Or.inr (Or.inr h1))]
   ·have r1:=rg 1 (by omega)
    rw[if_neg (fun e=>h1 (gY.1 e)),if_neg (by omega),show cvt .u8 (w.getD 1 0)=w.getD 1 0 from wu8 r1.1 (by omega)]
  ·rw[if_pos (fo.2 h7),K,if_pos rfl,if_pos (Or.inr (Or.inl h7))]
 ·rw[if_pos (fo.2 (by rw[ay];omega))]
  unfold jV;rw[if_pos (Or.inl hl)];rfl
def iR(a:TAg)(p:Int)(w:List Int):TAg×Int :=
 if p=272 then
  if (jV w).2≠0 then (a,3) else if (doS (jh a) (jV w).1).2≠0 then (a,4) else ((doS (jh a) (jV w).1).1,0)
 else
  if (rdB w).2.2.2.2≠0 then (a,3) else if (putA (jh a) (rdB w).1 (rdB w).2.1 (rdB w).2.2.1 (rdB w).2.2.2.1).2≠0 then (a,4)
  else ((putA (jh a) (rdB w).1 (rdB w).2.1 (rdB w).2.2.1 (rdB w).2.2.2.1).1,0)
def atW(a:TA):Int:=if a.1=23 then a.2.2.2.1 else a.2.1
def jC(s:TSl)(a:TAg):TSl:=(s.1,s.2.1,a,s.2.2.2)
def Io(s:TSl)(c:List Bool):TSl:=(s.1,s.2.1,s.2.2.1,c)
def fV(s:TSl)(a:TA):TSl×TR :=
 if ji a=false then (s,(a.1,2,[],[],0,0))
 else if a.1=5∨a.1=15 then (Io s (cpy s.2.2.2 a.2.1.toNat a.2.2.2.2.2),qQ (Io s (cpy s.2.2.2 a.2.1.toNat a.2.2.2.2.2)) a)
 else if a.2.2.2.2.1.length=0 then (s,qQ s a)
 else if (iR s.2.2.1 (atW a) a.2.2.2.2.1).2≠0 then (s,(a.1,(iR s.2.2.1 (atW a) a.2.2.2.2.1).2,[],[],0,0))
 else (jC s (iR s.2.2.1 (atW a) a.2.2.2.2.1).1,qQ (jC s (iR s.2.2.1 (atW a) a.2.2.2.2.1).1) a)
theorem I6{w:List Int}(hr:∀x∈w,0≤x∧x≤65535):(0≤(jV w).1.1∧(jV w).1.1≤65535)∧(0≤(jV w).1.2.2.1∧(jV w).1.2.2.1≤4294967295)∧(0≤(jV w).1.2.2.2.1∧(jV w).1.2.2.2.1≤65535):=by
 unfold jV;split
 ·exact⟨⟨by decide,by decide⟩,⟨by decide,by decide⟩,⟨by decide,by decide⟩⟩
 ·rename_i h
  have rg:∀k:Nat,0≤w.getD k 0∧w.getD k 0≤65535:=fun k=>by
   rw[zX]
   cases hx:w[k]? with
   | none=>exact⟨by decide,by decide⟩
   | some x=>exact hr x (zY hx)
  have r0:=rg 0;have r2:=rg 2;have r3:=rg 3;have r4:=rg 4;exact⟨r0,⟨by dsimp only;omega,by dsimp only;omega⟩,r4⟩
theorem QE{w:List Int}(hr:∀x∈w,0≤x∧x≤65535)(h:(rdB w).2.2.2.2=0):(0≤(rdB w).1∧(rdB w).1≤65535)∧(0≤(rdB w).2.2.1∧(rdB w).2.2.1≤7)∧fD (rdB w).2.2.2.1=true∧(∀x∈(rdB w).2.2.2.1.2,0≤x∧x≤65535):=by
 have rg:∀k:Nat,0≤w.getD k 0∧w.getD k 0≤65535:=fun k=>by
  rw[zX]
  cases hx:w[k]? with
  | none=>exact⟨by decide,by decide⟩
  | some x=>exact hr x (zY hx)
 unfold rdB at h ⊢;split
 ·rename_i q
  rw[if_pos q]at h;exact absurd h (by decide)
 ·rename_i q
  rw[if_neg q]at h;split
  ·rename_i q2
   rw[if_pos q2]at h;exact absurd h (by decide)
  ·rename_i q2
   rw[if_neg q2]at h;split
   ·rename_i q3
    have r3:=rg 3;exact⟨rg 0,⟨r3.1,by dsimp only;omega⟩,q3.1,fun x hx=>hr x (List.mem_of_mem_drop (List.mem_of_mem_take hx))⟩
   ·rename_i q3
    rw[if_neg q3]at h;exact absurd h (by decide)
theorem I7{a:TAg}(h:OkG a){p:Int}{w:List Int}(hr:∀x∈w,0≤x∧x≤65535):OkG (iR a p w).1:=by
 unfold iR;split
 ·split
  ·exact h
  ·split
   ·exact h
   ·obtain⟨r1,r2,r3⟩:=I6 hr
    exact h.own.doS r1 r2 r3
 ·split
  ·exact h
  ·rename_i q
   obtain⟨r1,r2,r3,r4⟩:=QE hr (Classical.not_not.1 q);split
   ·exact h
   ·exact h.own.putA r1 r3 r4
theorem uG{s:TSl}(h:OkS s){a:TA}(ha:OkA a)(hr:iq a=true):OkS (fV s a).1:=by
 unfold fV;split
 ·exact h
 ·rename_i hc
  have hc:ji a=true:=by cases e:ji a with | true=>rfl | false=>exact absurd e hc
  have hw:=(aat (QD h) ha hr hc).c;split
  ·rename_i q
   unfold wrM at hw;rw[if_pos q]at hw;exact⟨h.u,h.l,h.a,hw⟩
  ·split
   ·exact h
   ·split
    ·exact h
    ·exact⟨h.u,h.l,I7 h.a ha.w,h.c⟩
theorem eight{α:Type}{l:List α}(h:l.length=8):∃a b c d e f g i,l=[a,b,c,d,e,f,g,i]:=by
 match l,h with
 | [a,b,c,d,e,f,g,i],_=>exact⟨a,b,c,d,e,f,g,i,rfl⟩
theorem am9{α:Type}{l:List α}{z:α}(h:l.length=8):[l.getD 0 z,l.getD 1 z,l.getD 2 z,l.getD 3 z,l.getD 4 z,l.getD 5 z,l.getD 6 z,l.getD 7 z]=l:=by obtain⟨a,b,c,d,e,f,g,i,rfl⟩:=eight h;rfl
theorem QF{a:TAg}(h1:a.2.2.2.2.2.1.2.1.length=8)(h2:a.2.2.2.2.2.1.2.2.length=8):iY a=a:=by unfold iY;rw[am9 h1,am9 h2]
def YT(x:Int)(s:TSl)(a:TA):Option (As uh.rs) :=
 ajN x s.2.2.2 s.1 s.2.1 s.2.2.1.1 s.2.2.1.2.1.1 s.2.2.1.2.1.2 s.2.2.1.2.2.1 s.2.2.1.2.2.2.1 s.2.2.1.2.2.2.2.1 s.2.2.1.2.2.2.2.2.1.1
  (s.2.2.1.2.2.2.2.2.1.2.1.getD 0 false) (s.2.2.1.2.2.2.2.2.1.2.1.getD 1 false) (s.2.2.1.2.2.2.2.2.1.2.1.getD 2 false) (s.2.2.1.2.2.2.2.2.1.2.1.getD 3 false) (s.2.2.1.2.2.2.2.2.1.2.1.getD 4 false) (s.2.2.1.2.2.2.2.2.1.2.1.getD 5 false) (s.2.2.1.2.2.2.2.2.1.2.1.getD 6 false) (s.2.2.1.2.2.2.2.2.1.2.1.getD 7 false)
  (s.2.2.1.2.2.2.2.2.1.2.2.getD 0 (0,[])).1 (s.2.2.1.2.2.2.2.2.1.2.2.getD 0 (0,[])).2 (s.2.2.1.2.2.2.2.2.1.2.2.getD 1 (0,[])).1 (s.2.2.1.2.2.2.2.2.1.2.2.getD 1 (0,[])).2 (s.2.2.1.2.2.2.2.2.1.2.2.getD 2 (0,[])).1 (s.2.2.1.2.2.2.2.2.1.2.2.getD 2 (0,[])).2 (s.2.2.1.2.2.2.2.2.1.2.2.getD 3 (0,[])).1 (s.2.2.1.2.2.2.2.2.1.2.2.getD 3 (0,[])).2 (s.2.2.1.2.2.2.2.2.1.2.2.getD 4 (0,[])).1 (s.2.2.1.2.2.2.2.2.1.2.2.getD 4 (0,[])).2 (s.2.2.1.2.2.2.2.2.1.2.2.getD 5 (0,[])).1 (s.2.2.1.2.2.2.2.2.1.2.2.getD 5 (0,[])).2 (s.2.2.1.2.2.2.2.2.1.2.2.getD 6 (0,[])).1 (s.2.2.1.2.2.2.2.2.1.2.2.getD 6 (0,[])).2 (s.2.2.1.2.2.2.2.2.1.2.2.getD 7 (0,[])).1 (s.2.2.1.2.2.2.2.2.1.2.2.getD 7 (0,[])).2
  s.2.2.1.2.2.2.2.2.2 0 0 0 0 0 0 0 0 false false false false false false false false 0 0 0 0 0 0 0 0 0 0 0 0 0 a
abbrev RS:=Option (As uh.rs)
def D3(s:TSl)(a:TA)(p:Int):RS :=
 if eqi 272 p=true then zC (G9 (a.2.2.2.2.1,())) fun y=>if nei y.2.1 0=true then zC (jI (a.1,3,())) fun y=>some (s,y.1,()) else amb (au uh.rs) [zC (xX (s.2.2.1,y.1,())) fun y=>if nei y.2.1 0=true then zC (jI (a.1,4,())) fun y=>some (s,y.1,()) else zC (ni (jC s (iY y.1),a,())) fun y_1=>some (jC s (iY y.1),y_1.1,()),zC (xX (s.2.2.1,y.1,())) fun y=>if nei y.2.1 0=true then zC (jI (a.1,4,())) fun y=>some (s,y.1,()) else zC (ni (jC s (iY y.1),a,())) fun y_1=>some (jC s (iY y.1),y_1.1,())]
 else if eqi 288 p=true then zC (Ht (a.2.2.2.2.1,())) fun y=>if nei y.2.2.2.2.1 0=true then zC (jI (a.1,3,())) fun y=>some (s,y.1,()) else amb (au uh.rs) [zC (xY (s.2.2.1,y.1,y.2.1,y.2.2.1,y.2.2.2.1,())) fun y=>if nei y.2.1 0=true then zC (jI (a.1,4,())) fun y=>some (s,y.1,()) else zC (ni (jC s (iY y.1),a,())) fun y_1=>some (jC s (iY y.1),y_1.1,()),zC (xY (s.2.2.1,y.1,y.2.1,y.2.2.1,y.2.2.2.1,())) fun y=>if nei y.2.1 0=true then zC (jI (a.1,4,())) fun y=>some (s,y.1,()) else zC (ni (jC s (iY y.1),a,())) fun y_1=>some (jC s (iY y.1),y_1.1,())]
 else zC (jI (a.1,2,())) fun y=>some (s,y.1,())
def YU(s:TSl)(a:TA):RS:=if le (add .i64 (cvt .i64 a.2.1) (zF a.2.2.2.2.2.length)) (zF s.2.2.2.length)=true then need (ge a.2.1 0) (need (le a.2.1 (zF s.2.2.2.length)) (need (le (zF s.2.2.2.length) (zF s.2.2.2.length)) (need (le (a.2.1+(zF s.2.2.2.length - a.2.1)) (zF s.2.2.2.length)) (zC (ni (Io s (s.2.2.2.take (zI a.2.1)++a.2.2.2.2.2.take (zI (zF s.2.2.2.length - a.2.1))++s.2.2.2.drop (zI a.2.1+(a.2.2.2.2.2.take (zI (zF s.2.2.2.length - a.2.1))).length)),a,())) fun y=>some (Io s (s.2.2.2.take (zI a.2.1)++a.2.2.2.2.2.take (zI (zF s.2.2.2.length - a.2.1))++s.2.2.2.drop (zI a.2.1+(a.2.2.2.2.2.take (zI (zF s.2.2.2.length - a.2.1))).length)),y.1,()))))) else zC (ni (s,a,())) fun y=>some (s,y.1,())
theorem aaw{x:Int}{s:TSl}{a:TA}(h1:s.2.2.1.2.2.2.2.2.1.2.1.length=8)(h2:s.2.2.1.2.2.2.2.2.1.2.2.length=8):YT x s a =
  if nei x 0=true then zC (jI (a.1,x,())) fun y=>some (s,y.1,())
  else if eqi a.1 5=true then YU s a
  else if eqi a.1 15=true then YU s a
  else if eqi (zF a.2.2.2.2.1.length) 0=true then zC (ni (s,a,())) fun y=>some (s,y.1,())
  else if eqi a.1 23=true then D3 s a a.2.2.2.1
  else D3 s a a.2.1:=by
 obtain⟨u,l,⟨bk,⟨lo,lf⟩,ph,tx,la,⟨st,hv,bs⟩,tk⟩,co⟩:=s;obtain⟨b0,b1,b2,b3,b4,b5,b6,b7,e1⟩:=eight h1;obtain⟨c0,c1,c2,c3,c4,c5,c6,c7,e2⟩:=eight h2;dsimp only at e1 e2;subst e1 e2;rfl
theorem OU{r:TR}(h:RR r):nL r=true:=by
 cases h with
 | ex f e h0 h h1 h2=>exact (vk h0 h h1 h2).rt
 | bits f l hf h1 h2 h3 =>
  have hb:yh (f,0,l,[],0,0)=true:=by unfold yh;dsimp only;rw[decide_eq_true h1,decide_eq_true h2,decide_eq_true h3,decide_eq_true rfl];rfl
  rcases hf with rfl | rfl<;>exact hb
 | words f l hf h1 h2 =>
  have hb:pW (f,0,[],l,0,0)=true:=by unfold pW;dsimp only;rw[decide_eq_true h1,decide_eq_true h2,decide_eq_true rfl];rfl
  rcases hf with rfl | rfl | rfl<;>exact hb
 | coil b p =>
  show obR (5,0,[b],[],p,0)=true;unfold obR;rw[decide_eq_true rfl];rfl
 | word x p =>
  show owR (6,0,[],[x],p,0)=true;unfold owR;rw[decide_eq_true rfl];rfl
 | coils p n h1 h2 =>
  show ctR 1968 (15,0,[],[],p,n)=true;unfold ctR;dsimp only;rw[decide_eq_true h1,decide_eq_true h2,decide_eq_true rfl];rfl
 | regs p n h1 h2 =>
  show ctR 123 (16,0,[],[],p,n)=true;unfold ctR;dsimp only;rw[decide_eq_true h1,decide_eq_true h2,decide_eq_true rfl];rfl
theorem rA{r:TR}(h:OkR r)(hr:RR r):Rep r:=⟨h,hr,OU hr⟩
theorem QG{x:bn}(hf:fD x=true->∀w∈x.2,0≤w∧w≤65535):∀w∈itB x,0≤w∧w≤65535:=by
 intro w hw;unfold itB at hw;split at hw
 ·rename_i h
  have h2:=of_decide_eq_true h;grind
 simp_all
theorem aax{s:l9}{o n:Int}(ho:0≤o∧o≤65535)(hn:0≤n∧n≤7)(ht:0≤s.1∧s.1≤4294967295)(hw:∀b∈s.2.2,∀w∈b.2,0≤w∧w≤65535):∀w∈jE s o n,0≤w∧w≤65535:=by
 intro w hm;unfold jE at hm;split at hm
 ·rename_i x h1 h2
  unfold iA at hm;rcases List.mem_cons.1 hm with e | hm
  ·omega
  ·rcases List.mem_cons.1 hm with e | hm
   ·omega
   ·rcases List.mem_cons.1 hm with e | hm
    ·omega
    ·rcases List.mem_cons.1 hm with e | hm
     ·omega
     ·exact QG (fun _=>hw x (zY h2)) w hm
 simp_all
theorem I8{a:TAg}(h:OkG a):∀w∈fQ a,0≤w∧w≤65535:=by
 intro w hw;have h1:=h.l1;have h2:=h.pr;have h3:=h.tr;have h4:=h.ar;have hc:a.2.2.2.2.2.1.2.1.count true≤8:=by have:=List.count_le_length (a:=true) (l:=a.2.2.2.2.2.1.2.1);have:=h.hl;omega
 simp only[fQ,List.mem_cons,List.not_mem_nil,or_false]at hw;omega
theorem OkG.st{a:TAg}(h:OkG a):0≤a.2.2.2.2.2.1.1∧a.2.2.2.2.2.1.1≤4294967295:=by
 by_cases e:a.2.2.1=0
 ·have:=(h.p0 e).2.2.1;omega
 ·have:=(h.pn e).2.2;have:=h.tr;omega
theorem aay{a:TAg}(h:OkG a):∀w∈jU a,0≤w∧w≤65535:=by
 have hg:∀k:Nat,k≤8->∀w∈(List.range k).foldl (fun h b=>cpy h (512+b*32) (jE a.2.2.2.2.2.1 a.2.1.1 (b:Int))) (cpy (cpy (zE 756 0) 0 a.1) 256 (fQ a)),0≤w∧w≤65535:=by
  intro k
  induction k with
  | zero =>
   intro _;rw[List.range_zero,List.foldl_nil];exact Il (P:=fun y=>0≤y∧y≤65535) (Il (P:=fun y=>0≤y∧y≤65535) (fun y hy=>by simp_all) h.bw) (I8 h)
  | succ k ih =>
   intro hk;rw[List.range_succ,List.foldl_append,List.foldl_cons,List.foldl_nil];exact Il (P:=fun y=>0≤y∧y≤65535) (ih (by omega)) (aax h.l1 ⟨by omega,by omega⟩ h.st h.wb)
 exact hg 8 (by omega)
theorem yH{c:List Bool}{p n:Nat}(h:p+n≤c.length):(jk c p n).length=(n+7) / 8*8:=by grind[jk,zZ,kB,List.length_drop,kD]
theorem rC{f:Int}(h0:0≤f)(h1:f≤255){b:List Bool}{w:List Int}(hb:b.length≤100000)(hw:∀x∈w,0≤x∧x≤65535)(hl:w.length≤100000):OkR (f,0,b,w,0,0) :=
 ⟨h0,h1,(by decide:(0:Int)≤0),(by decide:(0:Int)≤255),hw,(by decide:(0:Int)≤0),(by decide:(0:Int)≤65535),(by decide:(0:Int)≤0),(by decide:(0:Int)≤65535),hb,hl⟩
theorem Ip:∀x∈([]:List Int),0≤x∧x≤65535:=fun x hx=>by cases hx
theorem vo{s:TSl}(h:OkS s){a:TA}(ha:OkA a)(hr:iq a=true)(hc:ji a=true):Rep (qQ s a):=by
 have p0:=ha.at0;have p1:=ha.at1;have hcl:=h.c;have hil:=DY s.2.2.1;have hhl:=Bf h.a;have hhr:=aay h.a;have hsr:=I8 h.a;unfold ji at hc
 cases lS hr with
 | bits f p n hf g1 g2 =>
  obtain⟨p,rfl⟩:=zN (show 0≤p from p0);obtain⟨n,rfl⟩:=zN (show 0≤n by omega);rcases hf with rfl | rfl
  ·have hc:(p:Int)+(n:Int)≤16:=of_decide_eq_true hc
   have hl:=yH (c:=s.2.2.2) (p:=p) (n:=n) (by omega);exact rA (rC (f:=1) (by decide) (by decide) (by show (jk s.2.2.2 p n).length≤_;omega) Ip (by decide)) (.bits 1 _ (Or.inl rfl) (by show 8≤(jk s.2.2.2 p n).length;omega) (by show (jk s.2.2.2 p n).length≤2000;omega) (by show (jk s.2.2.2 p n).length%8=0;omega))
  ·have hc:(p:Int)+(n:Int)≤8:=of_decide_eq_true hc
   have hl:=yH (c:=qK s.2.2.1) (p:=p) (n:=n) (by omega);exact rA (rC (f:=2) (by decide) (by decide) (by show (jk (qK s.2.2.1) p n).length≤_;omega) Ip (by decide)) (.bits 2 _ (Or.inr rfl) (by show 8≤(jk (qK s.2.2.1) p n).length;omega) (by show (jk (qK s.2.2.1) p n).length≤2000;omega) (by show (jk (qK s.2.2.1) p n).length%8=0;omega))
 | words f p n hf g1 g2 =>
  obtain⟨p,rfl⟩:=zN (show 0≤p from p0);obtain⟨n,rfl⟩:=zN (show 0≤n by omega);rcases hf with rfl | rfl
  ·have hle:=Be (p:=(p:Int)) (m:=n) (by omega) hc
   have hl:((jU s.2.2.1).drop p |>.take n).length=n:=by grind
   exact rA (rC (f:=3) (by decide) (by decide) (by decide) (fun x hx=>hhr x (List.mem_of_mem_drop (List.mem_of_mem_take hx))) (by show ((jU s.2.2.1).drop p |>.take n).length≤_;omega)) (.words 3 _ (Or.inl rfl) (by show 1≤((jU s.2.2.1).drop p |>.take n).length;omega) (by show ((jU s.2.2.1).drop p |>.take n).length≤125;omega))
  ·have hc:(p:Int)+(n:Int)≤8:=of_decide_eq_true hc
   have hl:((fQ s.2.2.1).drop p |>.take n).length=n:=by rw[kB,List.length_drop];show min n (8 - p)=n;omega
   exact rA (rC (f:=4) (by decide) (by decide) (by decide) (fun x hx=>hsr x (List.mem_of_mem_drop (List.mem_of_mem_take hx))) (by show ((fQ s.2.2.1).drop p |>.take n).length≤_;omega)) (.words 4 _ (Or.inr (Or.inl rfl)) (by show 1≤((fQ s.2.2.1).drop p |>.take n).length;omega) (by show ((fQ s.2.2.1).drop p |>.take n).length≤125;omega))
 | coil p b =>
  exact rA ⟨(by decide:(0:Int)≤5),(by decide:(5:Int)≤255),(by decide:(0:Int)≤0),(by decide:(0:Int)≤255),Ip,p0,p1,(by decide:(0:Int)≤0),(by decide:(0:Int)≤65535),(by decide:1≤100000),(by decide:0≤100000)⟩ (.coil b p)
 | word p x =>
  simp_all
 | coils p l g1 g2 =>
  exact rA ⟨(by decide:(0:Int)≤15),(by decide:(15:Int)≤255),(by decide:(0:Int)≤0),(by decide:(0:Int)≤255),Ip,p0,p1,by show (0:Int)≤(l.length:Int);omega,by show (l.length:Int)≤65535;omega,(by decide:0≤100000),(by decide:0≤100000)⟩ (.coils p (l.length:Int) (by omega) (by omega))
 | regs p l g1 g2 =>
  exact rA ⟨(by decide:(0:Int)≤16),(by decide:(16:Int)≤255),(by decide:(0:Int)≤0),(by decide:(0:Int)≤255),Ip,p0,p1,by show (0:Int)≤(l.length:Int);omega,by show (l.length:Int)≤65535;omega,(by decide:0≤100000),(by decide:0≤100000)⟩ (.regs p (l.length:Int) (by omega) (by omega))
 | swap p n t l g1 g2 g3 g4 =>
  obtain⟨p,rfl⟩:=zN (show 0≤p from p0);obtain⟨n,rfl⟩:=zN (show 0≤n by omega);have hc1:=(zO _ _ ▸ (show (rdH (p:Int) n && decide (t=272∧l.length=8∨t=288∧l.length=20))=true from hc):_∧_).1;have hle:=Be (p:=(p:Int)) (m:=n) (by omega) hc1;have hl:((jU s.2.2.1).drop p |>.take n).length=n:=by grind
  exact rA (rC (f:=23) (by decide) (by decide) (by decide) (fun x hx=>hhr x (List.mem_of_mem_drop (List.mem_of_mem_take hx))) (by show ((jU s.2.2.1).drop p |>.take n).length≤_;omega)) (.words 23 _ (Or.inr (Or.inr rfl)) (by show 1≤((jU s.2.2.1).drop p |>.take n).length;omega) (by show ((jU s.2.2.1).drop p |>.take n).length≤125;omega))
theorem aaz(a:TAg)(p:Int)(w:List Int):(iR a p w).2=0∨(iR a p w).2=3∨(iR a p w).2=4:=by unfold iR;grind
theorem ana{a:TA}(h:¬ ji a=false):ji a=true:=by simp_all
theorem rD{s:TSl}(h:OkS s){a:TA}(ha:OkA a)(hr:iq a=true):Rep (fV s a).2:=by
 have hf:=Ce hr;have ok:=uG h ha hr;unfold fV at ok ⊢;split
 ·grind[vk]
 ·rename_i hc
  rw[if_neg hc]at ok;have hc:=ana hc;split
  ·simp_all[if_pos,vo]
  ·rename_i q
   rw[if_neg q]at ok;split
   ·simp_all[vo]
   ·rename_i q2
    rw[if_neg q2]at ok;split
    ·grind[aaz,atW,vk]
    simp_all[if_neg,vo]
theorem arj{s:TSl}(h:OkS s){a:TA}(ha:OkA a)(hr:iq a=true)(hc:ji a=true){p:Int}(hp:p=272∨p=288) :
  D3 s a p=some (if (iR s.2.2.1 p a.2.2.2.2.1).2≠0 then (s,(a.1,(iR s.2.2.1 p a.2.2.2.2.1).2,[],[],0,0),()) else (jC s (iR s.2.2.1 p a.2.2.2.2.1).1,qQ (jC s (iR s.2.2.1 p a.2.2.2.2.1).1) a,())):=by
 have hf:=Ce hr;have w4:∀e,jI (a.1,e,())=some ((a.1,e,[],[],0,0),()):=fun e=>by grind[yE,EK]
 have hok:=I7 h.a (p:=p) ha.w;have fin:∀g:TAg,OkG g->zC (ni (jC s (iY g),a,())) (fun y_1=>some (jC s (iY g),y_1.1,()))=(some (jC s g,qQ (jC s g) a,()):RS):=fun g hg=>by rw[QF hg.hl hg.sl,yG (s:=jC s g) ⟨h.u,h.l,hg,h.c⟩ ha hr hc];rfl
 unfold D3 iR at *;by_cases e:p=272
 ·rw[if_pos e]at hok
  rw[if_pos (dw.2 e.symm),if_pos e,aav ha.w,zD,qB (eqAs_refl _)];obtain⟨r1,r2,r3⟩:=I6 ha.w;dsimp only;by_cases q1:(jV a.2.2.2.2.1).2≠0
  ·simp_all[if_pos,fo]
  ·rw[if_neg q1]at hok
   rw[if_neg (fun x=>q1 (fo.1 x)),if_neg q1,aq9 h.a r3,zD];dsimp only;by_cases q2:(doS (jh s.2.2.1) (jV a.2.2.2.2.1).1).2≠0
   ·simp_all[if_pos,fo]
   simp_all[if_neg,fo]
 ·have e2:p=288:=by omega
  rw[if_neg e]at hok;rw[if_neg (fun x=>e (dw.1 x).symm),if_pos (dw.2 e2.symm),if_neg e,akv ha.w,zD,qB (eqAs_refl _)];dsimp only;by_cases q1:(rdB a.2.2.2.2.1).2.2.2.2≠0
  ·simp_all[if_pos,fo]
  ·rw[if_neg q1]at hok
   obtain⟨r1,r2,r3,r4⟩:=QE ha.w (Classical.not_not.1 q1);rw[if_neg (fun x=>q1 (fo.1 x)),if_neg q1,aoj h.a r2 r3,zD];dsimp only;by_cases q2:(putA (jh s.2.2.1) (rdB a.2.2.2.2.1).1 (rdB a.2.2.2.2.1).2.1 (rdB a.2.2.2.2.1).2.2.1 (rdB a.2.2.2.2.1).2.2.2.1).2≠0
   ·simp_all[if_pos,fo]
   simp_all[if_neg,fo]
theorem aaA{s:TSl}(h:OkS s){a:TA}(ha:OkA a)(hr:iq a=true)(hc:ji a=true)(hf:a.1=5∨a.1=15):YU s a=some (Io s (cpy s.2.2.2 a.2.1.toNat a.2.2.2.2.2),qQ (Io s (cpy s.2.2.2 a.2.1.toNat a.2.2.2.2.2)) a,()):=by
 have ok:=uG h ha hr;unfold fV at ok;rw[if_neg (by simp_all),if_pos hf]at ok;have p0:=ha.at0;have p1:=ha.at1;have hcl:=h.c;have lb:=ha.lb;have hle:=hc;unfold ji at hle;rw[if_neg (by omega),if_neg (by omega),if_neg (by omega),if_pos hf,decide_eq_true_eq]at hle;unfold YU;have e1:add .i64 (cvt .i64 a.2.1) (zF a.2.2.2.2.2.length)=a.2.1+(a.2.2.2.2.2.length:Int):=by grind[iI,ay,jg]
 rw[e1,if_pos (gM.2 (by simp_all)),eu (gY.2 p0),eu (gM.2 (by grind)),eu (gM.2 (Int.le_refl _)),eu (gM.2 (by omega)),nP (by grind),yG ok ha hr hc];rfl
theorem akz{s:TSl}(h:OkS s){a:TA}(ha:OkA a)(hr:iq a=true):YT (if ji a=true then 0 else 2) s a=some ((fV s a).1,(fV s a).2,()):=by
 have hf:=Ce hr;have w4:∀e,jI (a.1,e,())=some ((a.1,e,[],[],0,0),()):=fun e=>by grind[yE,EK]
 rw[aaw h.a.hl h.a.sl];unfold fV
 cases hc:ji a with
 | false =>
  simp_all[Bool.false_eq_true,if_false,if_true,if_pos,nei]
 | true =>
  simp only[if_true,Bool.true_eq_false,if_false];rw[if_neg (show ¬ nei 0 0=true by decide)];by_cases q5:a.1=5
  ·simp_all[if_pos,dw,aaA,Or.inl]
  ·rw[if_neg (fun e=>q5 (dw.1 e))]
   by_cases q15:a.1=15
   ·simp_all[if_pos,dw,aaA,Or.inr]
   ·rw[if_neg (fun e=>q15 (dw.1 e)),if_neg (show ¬ (a.1=5∨a.1=15) by omega)]
    by_cases q0:a.2.2.2.2.1.length=0
    ·rw[if_pos (dw.2 (by simp_all)),if_pos q0,yG h ha hr hc]
     rfl
    ·rw[if_neg (fun e=>q0 (by simp_all[dw,ay])),if_neg q0]
     have hp:atW a=272∨atW a=288:=by
      have hc2:=hc;unfold ji at hc2
      have hc3:¬ (a.1=1∨a.1=2∨a.1=3∨a.1=4):=by
       intro e;apply q0
       cases lS hr with
       | bits f p n hf=>rfl
       | words f p n hf=>rfl
       | coil p b=>rfl
       | word p x=>omega
       | coils p l=>rfl
       | regs p l=>omega
       | swap p n t l=>omega
      rw[if_neg (by omega),if_neg (by omega),if_neg (by omega),if_neg (by omega)]at hc2;unfold atW;grind
     have hcm:=arj h ha hr hc hp
     have e2:(if eqi a.1 23=true then D3 s a a.2.2.2.1 else D3 s a a.2.1)=D3 s a (atW a):=by
      unfold atW;by_cases q23:a.1=23
      ·simp_all[if_pos,dw]
      simp_all[if_neg,dw]
     grind
def kY(b:List Int):TA×Int:=((Ao (b,())).map fun y=>(y.1,y.2.1)).getD (zA,1)
theorem aaB{b:List Int}(hb:∀x∈b,0≤x∧x≤255):Ao (b,())=some ((kY b).1,(kY b).2,()) ∧
  (((kY b).2=0∧OkA (kY b).1∧iq (kY b).1=true∧toS (jr (kY b).1)=toS b)∨(((kY b).2=1∨(kY b).2=3)∧(kY b).1=(b.headD 0,0,0,0,[],[]))):=by
 match b with
 | []=>exact⟨rfl,Or.inr ⟨Or.inl rfl,rfl⟩⟩
 | f::r =>
  obtain⟨a,e,h1,h2⟩:=akq hb;simp_all[kY]
def jK(s:TSl)(b:List Int):TSl×TR:=if (kY b).2≠0 then (s,(rem (b.headD 0) 128,(kY b).2,[],[],0,0)) else fV s (kY b).1
theorem akA{b:List Int}(hb:∀x∈b,0≤x∧x≤255):0≤b.headD 0∧b.headD 0≤255:=by
 match b with
 | []=>simp
 | f::r=>simp_all
theorem aom{x:Int}(h0:0≤x):0≤rem x 128∧rem x 128<128:=by grind[rem,kC]
theorem uH{s:TSl}(h:OkS s){b:List Int}(hb:∀x∈b,0≤x∧x≤255):OkS (jK s b).1∧Rep (jK s b).2:=by unfold jK;obtain⟨_,h2⟩:=aaB hb;grind[aom,akA,vk,uG,rD]
theorem aaC{s:TSl}(h:OkS s):agX (s,())=some (s.1,s.2.1,s.2.2.1.1,s.2.2.1.2.1.1,s.2.2.1.2.1.2,s.2.2.1.2.2.1,s.2.2.1.2.2.2.1,s.2.2.1.2.2.2.2.1,s.2.2.1.2.2.2.2.2.1.1,
  s.2.2.1.2.2.2.2.2.1.2.1.getD 0 false,s.2.2.1.2.2.2.2.2.1.2.1.getD 1 false,s.2.2.1.2.2.2.2.2.1.2.1.getD 2 false,s.2.2.1.2.2.2.2.2.1.2.1.getD 3 false,s.2.2.1.2.2.2.2.2.1.2.1.getD 4 false,s.2.2.1.2.2.2.2.2.1.2.1.getD 5 false,s.2.2.1.2.2.2.2.2.1.2.1.getD 6 false,s.2.2.1.2.2.2.2.2.1.2.1.getD 7 false,
  (s.2.2.1.2.2.2.2.2.1.2.2.getD 0 (0,[])).1,(s.2.2.1.2.2.2.2.2.1.2.2.getD 0 (0,[])).2,(s.2.2.1.2.2.2.2.2.1.2.2.getD 1 (0,[])).1,(s.2.2.1.2.2.2.2.2.1.2.2.getD 1 (0,[])).2,(s.2.2.1.2.2.2.2.2.1.2.2.getD 2 (0,[])).1,(s.2.2.1.2.2.2.2.2.1.2.2.getD 2 (0,[])).2,(s.2.2.1.2.2.2.2.2.1.2.2.getD 3 (0,[])).1,(s.2.2.1.2.2.2.2.2.1.2.2.getD 3 (0,[])).2,(s.2.2.1.2.2.2.2.2.1.2.2.getD 4 (0,[])).1,(s.2.2.1.2.2.2.2.2.1.2.2.getD 4 (0,[])).2,(s.2.2.1.2.2.2.2.2.1.2.2.getD 5 (0,[])).1,(s.2.2.1.2.2.2.2.2.1.2.2.getD 5 (0,[])).2,(s.2.2.1.2.2.2.2.2.1.2.2.getD 6 (0,[])).1,(s.2.2.1.2.2.2.2.2.1.2.2.getD 6 (0,[])).2,(s.2.2.1.2.2.2.2.2.1.2.2.getD 7 (0,[])).1,(s.2.2.1.2.2.2.2.2.1.2.2.getD 7 (0,[])).2,
  s.2.2.1.2.2.2.2.2.2,s.2.2.2,()):=by
 have hw:∀i,((s.2.2.1.2.2.2.2.2.1.2.2.getD i (0,[])).2).length≤1000000:=fun i=>by
  rw[zX]
  cases hx:s.2.2.1.2.2.2.2.2.1.2.2[i]? with
  | none=>simp
  | some x=>have:=h.a.bb x (zY hx);grind
 have hc:=h.c;have hbl:=h.a.bl;show agW s=_;unfold agW;rw[yF (by omega),zD,mX (by omega),zD,mX (hw 0),zD,mX (hw 1),zD,mX (hw 2),zD,mX (hw 3),zD,mX (hw 4),zD,mX (hw 5),zD,mX (hw 6),zD,mX (hw 7),zD]
theorem EO{s:TSl}(h:OkS s){b:List Int}(hb:∀x∈b,0≤x∧x≤255):Hu (s,b,())=some ((jK s b).1,jN (jK s b).2,()):=by
 obtain⟨ok,rp⟩:=uH h hb;obtain⟨h1,h2⟩:=aaB hb;show ajQ s b=_;unfold ajQ;rw[aaC h,zD]
 have key:zC (Ao (b,())) (fun y=>if eqi y.2.1 0=true then zC (ug ()) fun y_1=>zC (Dx (y_1.1,y.1,())) fun y_2=>YT y_2.1 s y.1 else YT y.2.1 s y.1)=some ((jK s b).1,(jK s b).2,()):=by
  rw[h1,zD];dsimp only;unfold jK;rcases h2 with ⟨e,ha,hr,_⟩ | ⟨e,e2⟩
  ·rw[if_pos (dw.2 e),OG,zD,OI ha hr,zD,if_neg (show ¬ ((kY b).2≠0) by omega)]
   grind[akz]
  ·have hne:(kY b).2≠0:=by omega
   rw[if_neg (fun x=>hne (dw.1 x)),if_pos hne,aaw h.a.hl h.a.sl,if_pos (fo.2 hne),e2,yE];rfl
 refine (congrArg (fun z=>zC z fun y=>zC (Oa (y.2.1,())) fun y_1=>(some (y.1,y_1.1,()):Option (As ajP.rs))) key).trans ?_;rw[zD,aaq rp];rfl
def pZ(b:List Int):List Int:=b.take 64++zE (64 - b.length) 0
theorem yI(b:List Int):(pZ b).length=64:=by grind[pZ,zZ,kB,kD]
theorem EP{b:List Int}(h:∀x∈b,0≤x∧x≤65535):∀x∈pZ b,0≤x∧x≤65535:=by
 intro x hx;rcases List.mem_append.1 hx with e | e
 ·grind
 simp_all
theorem akB(b:List Int):JB (b,())=some (pZ b,()):=by show ace b=_;unfold ace pZ;grind
theorem akC{a:TA}(ha:OkA a)(hr:iq a=true):kY (jr a)=(a,0):=by
 have hl:=(uq (lS hr)).1;unfold kY;have:Ao (jr a,())=some (a,0,()):=by show Ni (jr a)=_;unfold Ni;rw[if_neg (by grind[dw,ay]),aad ha hr];rfl
 simp_all
theorem OV{s:TSl}{a:TA}(ha:OkA a)(hr:iq a=true):jK s (jr a)=fV s a:=by simp_all[jK,akC,if_neg]
theorem QI{a:TA}(hr:iq a=true){e:Int}(he:e≠0)(h:RR (a.1,e,[],[],0,0)):mD a (a.1,e,[],[],0,0)=true:=by unfold mD;rw[hr,OU h];dsimp only;rw[if_pos he,decide_eq_true rfl];rfl
theorem Pz{c:List Bool}{p n:Nat}(h:p+n≤c.length):(jk c p n).drop n=zE ((n+7) / 8*8 - n) false:=by grind[jk,List.drop_left',kB,List.length_drop]
theorem D4{s:TSl}(h:OkS s){a:TA}(ha:OkA a)(hr:iq a=true)(hc:ji a=true):mD a (qQ s a)=true:=by
 have rp:=vo h ha hr hc;have p0:=ha.at0;have hcl:=h.c;have hil:=DY s.2.2.1;have hhl:=Bf h.a;unfold mD;rw[hr,rp.rt,Bool.true_and,Bool.true_and];unfold ji at hc;have bits:∀(c:List Bool) (p n:Nat),p+n≤c.length->1≤n->(if 0<(jk c p n).length then decide (((jk c p n).length:Int)=((n:Int)+7) / 8*8) && !decide (true∈(jk c p n).drop (zI (n:Int))) else decide ((([]:List Int).length:Int)=(n:Int)))=true:=fun c p n hle h1=>by have hl:=yH hle;rw[if_pos (by omega),zQ,Pz hle,decide_eq_true (by omega),decide_eq_false (by simp)];rfl
 have words:∀(c:List Int) (p n:Nat),p+n≤c.length->(if 0<([]:List Bool).length then decide ((([]:List Bool).length:Int)=((n:Int)+7) / 8*8) && !decide (true∈([]:List Bool).drop (zI (n:Int))) else decide ((((c.drop p).take n).length:Int)=(n:Int)))=true:=fun c p n hle=>by grind
 cases lS hr with
 | bits f p n hf g1 g2 =>
  obtain⟨p,rfl⟩:=zN (show 0≤p from p0);obtain⟨n,rfl⟩:=zN (show 0≤n by omega);rcases hf with rfl | rfl
  ·have hc:(p:Int)+(n:Int)≤16:=of_decide_eq_true hc
   exact bits s.2.2.2 p n (by omega) (by omega)
  ·have hc:(p:Int)+(n:Int)≤8:=of_decide_eq_true hc
   exact bits (qK s.2.2.1) p n (by omega) (by omega)
 | words f p n hf g1 g2 =>
  obtain⟨p,rfl⟩:=zN (show 0≤p from p0);obtain⟨n,rfl⟩:=zN (show 0≤n by omega);rcases hf with rfl | rfl
  ·have hle:=Be (p:=(p:Int)) (m:=n) (by omega) hc
   exact words (jU s.2.2.1) p n (by omega)
  ·have hc:(p:Int)+(n:Int)≤8:=of_decide_eq_true hc
   exact words (fQ s.2.2.1) p n (by show p+n≤8;omega)
 | coil p b=>show (decide ((5:Int)=5) && decide (((5,0,[b],[],p,0):TR)=(5,0,[b],[],p,0)))=true;simp
 | word p x=>simp_all
 | coils p l g1 g2=>show (decide ((15:Int)=15) && decide (((15,0,[],[],p,(l.length:Int)):TR)=(15,0,[],[],p,(l.length:Int))))=true;simp
 | regs p l g1 g2=>show (decide ((16:Int)=16) && decide (((16,0,[],[],p,(l.length:Int)):TR)=(16,0,[],[],p,(l.length:Int))))=true;simp
 | swap p n t l g1 g2 g3 g4 =>
  obtain⟨p,rfl⟩:=zN (show 0≤p from p0);obtain⟨n,rfl⟩:=zN (show 0≤n by omega);have hc1:=(zO _ _ ▸ (show (rdH (p:Int) n && decide (t=272∧l.length=8∨t=288∧l.length=20))=true from hc):_∧_).1;have hle:=Be (p:=(p:Int)) (m:=n) (by omega) hc1;exact words (jU s.2.2.1) p n (by omega)
theorem I9{s:TSl}(h:OkS s){a:TA}(ha:OkA a)(hr:iq a=true):mD a (fV s a).2=true:=by
 have rp:=rD h ha hr;have ok:=uG h ha hr;unfold fV at rp ok ⊢;split
 ·rename_i q
  rw[if_pos q]at rp;exact QI hr (by decide) rp.rr
 ·rename_i hc
  rw[if_neg hc]at ok rp;have hc:=ana hc;split
  ·simp_all[if_pos,D4]
  ·rename_i q
   rw[if_neg q]at ok rp;split
   ·simp_all[D4]
   ·rename_i q2
    rw[if_neg q2]at ok rp;split
    ·rename_i q3
     rw[if_pos q3]at rp;exact QI hr q3 rp.rr
    simp_all[if_neg,D4]
theorem Ja{a:TAg}(h:OkG a){p n:Nat}(hd:p+n≤512):∀k:Nat,k≤8->(((List.range k).foldl (fun h b=>cpy h (512+b*32) (jE a.2.2.2.2.2.1 a.2.1.1 (b:Int))) (cpy (cpy (zE 756 0) 0 a.1) 256 (fQ a))).drop p).take n=((cpy (cpy (zE 756 0) 0 a.1) 256 (fQ a)).drop p).take n
 | 0,_=>rfl
 | k+1,hk=>by have hl:=ru h k (by omega);rw[List.range_succ,List.foldl_append,List.foldl_cons,List.foldl_nil,QC (by grind[q9]) (Or.inr (by omega)),Ja h hd k (by omega)]
theorem akD{a:TAg}(h:OkG a):(cpy (zE 756 (0:Int)) 0 a.1).length=756:=by have:=h.bl;simp_all[qJ,kD]
theorem aaD{a:TAg}(h:OkG a):((jU a).drop 256).take 8=fQ a:=by unfold jU;rw[Ja h (by omega) 8 (by omega)];exact aar (w:=fQ a) (by rw[akD h];show 256+8≤756;omega)
theorem aaE{a:TAg}(h:OkG a){i:Nat}(hi:i<8):((jU a).drop (512+i*32)).take 20=jE a.2.2.2.2.2.1 a.2.1.1 (i:Int):=by
 have hg:∀k:Nat,i<k->k≤8->(((List.range k).foldl (fun h b=>cpy h (512+b*32) (jE a.2.2.2.2.2.1 a.2.1.1 (b:Int))) (cpy (cpy (zE 756 0) 0 a.1) 256 (fQ a))).drop (512+i*32)).take 20=jE a.2.2.2.2.2.1 a.2.1.1 (i:Int):=by
  intro k
  induction k with
  | zero=>omega
  | succ k ih =>
   intro h1 h2;have hl:=ru h k (by omega);rw[List.range_succ,List.foldl_append,List.foldl_cons,List.foldl_nil];by_cases e:i=k
   ·grind[aar,List.range,cpy,jE,Int,zE,fQ,q9]
   ·rw[QC (by grind[q9]) (Or.inr (by omega)),ih (by omega) (by omega)]
 exact hg 8 hi (Nat.le_refl _)
theorem aaF{a b:List Int}(h:a.length≤1000000):Yy (a,b,())=some (decide (a=b),()):=by
 show Yx Oe a b=_;unfold Yx;by_cases hl:a.length=b.length
 ·rw[if_neg (by simp_all[fo,ay])]
  unfold Oe;have hz:(a.zip b).length=a.length:=by simp_all
  rw[<- EI (ne:=nei) (fun a b=>by rfl) a b hl];refine qC (xs:=a.zip b) (mk:=fun i _=>(a,b,zF a.length,(i:Int))) ?_ ?_ a.length 0 () _ (by omega) (by omega)
  ·intro self i acc x hx
   have hi:=(List.getElem?_eq_some_iff.1 hx).1;obtain⟨h1,h2⟩:=Oh hl hx;show Od _ a b (zF a.length) (i:Int)=_;unfold Od;rw[if_pos (by grind[cu,ay]),fI h1,zD,fI h2,zD,iD (by omega)]
  simp_all[Od,zF,Nat,Int,if_neg,cu,ay]
 ·rw[if_pos (by grind[fo,ay]),decide_eq_false (fun e=>hl (by rw[e]))]
theorem aaG{c:TCm}(h1:0≤c.2.1∧c.2.1≤255)(h2:0≤c.2.2.1∧c.2.2.1≤4294967295)(h3:0≤c.2.2.2.2∧c.2.2.2.2≤4294967295):Ui (c,())=some ([c.1,c.2.1,c.2.2.1 / 65536,c.2.2.1%65536,c.2.2.2.1,c.2.2.2.2 / 65536,c.2.2.2.2%65536,0],()):=by show ad3 c=_;grind[ad3,parts_eq,cvt,Yz]
theorem OX{s:TSl}(h:OkS s):Nc (s,())=some (s,()):=by
 have hc:=h.c;have hbl:=h.a.bl;obtain⟨u,l,⟨bk,ls,ph,tx,la,⟨st,hv,bs⟩,tk⟩,co⟩:=s;have hsl:bs.length=8:=h.a.sl;have hbb:∀b∈bs,b.2.length≤1000:=h.a.bb;show VZ GJ (u,l,(bk,ls,ph,tx,la,(st,hv,bs),tk),co)=_;unfold VZ;dsimp only at hc hbl ⊢;rw[AY (by omega),zD,mX (by omega),zD];show GJ 0 0 0 [(u,l,(bk,ls,ph,tx,la,(st,hv,bs),tk),co)] _=_;unfold GJ;refine lN (N:=8) (mk:=fun i=>(0,0,(i:Int),[(u,l,(bk,ls,ph,tx,la,(st,hv,bs),tk),co)],_)) ?_ ?_ 8 0 _ (by omega) (by omega)
 ·intro self i hi
  show GI _ 0 0 (i:Int) [(u,l,(bk,ls,ph,tx,la,(st,hv,bs),tk),co)] _=_;obtain⟨b,hb⟩:=fU (xs:=bs) (i:=i) (by omega);have l8:lt (i:Int) 8=true:=cu.2 (by omega);have g0:ge (i:Int) 0=true:=gY.2 (by omega)
  have hset:bs.set i (b.1,b.2)=bs:=by
   apply List.ext_getElem?;intro j;by_cases e:i=j
   ·subst e
    rw[List.getElem?_set_self (by omega),hb]
   ·rw[List.getElem?_set_ne e]
  unfold GI;rw[if_pos l8,eu g0,eu l8,iG,zD];dsimp only;rw[fI hb,zD,mX (by have:=hbb b (zY hb);omega),zD,zD];dsimp only;rw[fI hb,zD,iD (by omega),zQ,hset];rfl
 ·intro self
  show GI _ 0 0 (8:Int) [(u,l,(bk,ls,ph,tx,la,(st,hv,bs),tk),co)] _=_;unfold GI;rw[if_neg (by decide)];rfl
def qR(s:TSl)(f:List Int):TSl×List Int :=
 if s.2.1=2 then
  if (fC f).2≠0∨(fC f).1.2.1≠s.1 then (s,[]) else ((jK s (fC f).1.2.2).1,jJ (fC f).1.1 (fC f).1.2.1 (jN (jK s (fC f).1.2.2).2))
 else
  if (gF f).2.2≠0∨(gF f).1≠s.1 then (s,[]) else ((jK s (gF f).2.1).1,jT ((gF f).1::jN (jK s (gF f).2.1).2))
theorem QJ{r:TR}(h:Rep r):2≤(jN r).length∧(jN r).length≤253:=DT h.rr
theorem Cm{f:List Int}(hf:∀x∈f,0≤x∧x≤255):∀x∈(fC f).1.2.2,0≤x∧x≤255:=by
 intro x hx;unfold fC at hx;split at hx
 ·rename_i b0 b1 b2 b3 b4 b5 b6 pdu
  have hp:∀y∈pdu,0≤y∧y≤255:=fun y hy=>hf y (by simp[hy]);revert hx
  repeat' split
  all_goals first | exact fun hx=>hp x hx | (intro hx;cases hx)
 ·cases hx
theorem ER{f:List Int}(hf:∀x∈f,0≤x∧x≤255):∀x∈(gF f).2.1,0≤x∧x≤255:=by
 intro x hx;unfold gF at hx;split at hx
 ·cases hx
 ·split at hx
  ·cases hx
  ·rename_i h0
   have hc:∀y∈(cutV f).1,0≤y∧y≤255:=by
    intro y hy;unfold cutV at hy;split at hy
    ·cases hy
    ·split at hy
     ·exact hf y (List.mem_of_mem_take hy)
     ·cases hy
   split at hx
   ·cases hx
   ·rename_i a r he
    rw[he]at hc;split at hx
    ·exact hc x (List.mem_cons_of_mem _ hx)
    ·cases hx
theorem akE{s:TSl}(h:OkS s){f:List Int}(hf:∀x∈f,0≤x∧x≤255)(hl:f.length≤100000):Oc (s,f,())=some ((qR s f).1,(qR s f).2,()):=by
 have hu:=h.u;show Yh Hz Ob s f=_;unfold Yh qR;by_cases hk:s.2.1=2
 ·rw[if_pos (dw.2 hk),if_pos hk,uX hl hf,zD]
  have hb:=Cm hf
  have K:∀t z,Hz 0 0 t [s] [z] (fC f).1=some (if t=true then (s,[],()) else ((jK s (fC f).1.2.2).1,if (fC f).1.2.1=s.1 then jJ (fC f).1.1 (fC f).1.2.1 (jN (jK s (fC f).1.2.2).2) else ((Hz 0 0 t [s] [z] (fC f).1).getD (s,[],())).2.1,())):=fun t z=>by
   cases t with
   | true =>
    show Hw 0 0 true [s] [z] (fC f).1=_;unfold Hw;rw[if_pos rfl,iG,zD,OX h];rfl
   | false =>
    obtain⟨ok,rp⟩:=uH h hb;have hlen:=QJ rp;have e:Hz 0 0 false [s] [z] (fC f).1=some ((jK s (fC f).1.2.2).1,jJ (fC f).1.1 (fC f).1.2.1 (jN (jK s (fC f).1.2.2).2),()):=by show Hw 0 0 false [s] [z] (fC f).1=_;unfold Hw;rw[if_neg (by decide),iG,zD,EO h hb,zD,zD];dsimp only;rw[am6 (by omega) hlen.2];rfl
    rw[e];simp
  by_cases h0:(fC f).2=0
  ·rw[if_neg (fun e=>fo.1 e h0)]
   by_cases h1:(fC f).1.2.1=s.1
   ·have hn:nei (fC f).1.2.1 s.1=false:=by rw[Bool.eq_false_iff];exact fun e=>fo.1 e h1
    dsimp only;rw[hn,K,if_neg (by decide),if_pos h1,if_neg (by rintro (e | e);exact e h0;exact e h1)]
   ·dsimp only
    rw[fo.2 h1,K,if_pos rfl,if_pos (Or.inr h1)]
  ·rw[if_pos (fo.2 h0)]
   dsimp only;rw[K,if_pos rfl,if_pos (Or.inl h0)]
 ·rw[if_neg (fun e=>hk (dw.1 e)),if_neg hk,BX,zD]
  have hb:=ER hf;have Kt:∀z,Ob 0 0 (gF f).1 (gF f).2.1 true [s] [z]=some (s,[],()):=fun z=>by show Hy 0 0 (gF f).1 (gF f).2.1 true [s] [z]=_;unfold Hy;rw[if_pos rfl,iG,zD,OX h];rfl
  have Kf:∀z,(gF f).1=s.1->Ob 0 0 (gF f).1 (gF f).2.1 false [s] [z]=some ((jK s (gF f).2.1).1,jT ((gF f).1::jN (jK s (gF f).2.1).2),()):=fun z hz=>by obtain⟨ok,rp⟩:=uH h hb;have hlen:=QJ rp;show Hy 0 0 (gF f).1 (gF f).2.1 false [s] [z]=_;unfold Hy;rw[if_neg (by decide),iG,zD,EO h hb,zD,zD];dsimp only;rw[Qu (by omega) (by omega) (by omega) hlen.2];rfl
  by_cases h0:(gF f).2.2=0
  ·rw[if_neg (fun e=>fo.1 e h0)]
   by_cases h1:(gF f).1=s.1
   ·have hn:nei (gF f).1 s.1=false:=by rw[Bool.eq_false_iff];exact fun e=>fo.1 e h1
    dsimp only;rw[hn,Kf _ h1,if_neg (by rintro (e | e);exact e h0;exact e h1)]
   ·dsimp only
    rw[fo.2 h1,Kt,if_pos (Or.inr h1)]
  ·rw[if_pos (fo.2 h0)]
   dsimp only;rw[Kt,if_pos (Or.inl h0)]
theorem OY{s:TSl}(h:OkS s){f:List Int}(hf:∀x∈f,0≤x∧x≤255):OkS (qR s f).1:=by
 unfold qR;split
 ·split
  ·exact h
  ·exact (uH h (Cm hf)).1
 ·split
  ·exact h
  ·exact (uH h (ER hf)).1
def kP(c:TCm):TA:=(23,256,8,272,[c.1,c.2.1,c.2.2.1 / 65536,c.2.2.1%65536,c.2.2.2.1,c.2.2.2.2 / 65536,c.2.2.2.2%65536,0],[])
structure OkC(c:TCm):Prop where
 o:0≤c.1∧c.1≤65535
 v:0≤c.2.1∧c.2.1≤255
 t:0≤c.2.2.1∧c.2.2.1≤4294967295
 n:0≤c.2.2.2.1∧c.2.2.2.1≤65535
 k:0≤c.2.2.2.2∧c.2.2.2.2≤4294967295
theorem nY{c:TCm}(h:OkC c):OkA (kP c)∧iq (kP c)=true∧ji (kP c)=true:=by
 have h1:=h.o;have h2:=h.v;have h3:=h.t;have h4:=h.n;have h5:=h.k;refine⟨⟨(by decide:(0:Int)≤23),(by decide:(23:Int)≤255),(by decide:(0:Int)≤256),(by decide:(256:Int)≤65535),(by decide:(0:Int)≤8),(by decide:(8:Int)≤65535),(by decide:(0:Int)≤272),(by decide:(272:Int)≤65535),?_,(by decide:8≤100000),(by decide:0≤100000)⟩,rfl,?_⟩
 ·intro x hx
  simp only[kP,List.mem_cons,List.not_mem_nil,or_false]at hx;rcases hx with e | e | e | e | e | e | e | e<;>omega
 ·show (rdH 256 8 && decide ((272:Int)=272∧8=8∨(272:Int)=288∧8=20))=true
  decide
theorem aaH{c:TCm}(h:OkC c):jV (kP c).2.2.2.2.1=(c,0):=by
 have h2:=h.v;have h3:=h.t;have h5:=h.k;obtain⟨o,v,t,n,k⟩:=c;show jV [o,v,t / 65536,t%65536,n,k / 65536,k%65536,0]=_;unfold jV;dsimp only at h2 h3 h5;rw[if_neg (by simp;omega)];refine Prod.ext (Prod.ext rfl (Prod.ext rfl (Prod.ext ?_ (Prod.ext rfl ?_)))) rfl
 ·show 65536*(t / 65536)+t%65536=t
  omega
 ·show 65536*(k / 65536)+k%65536=k
  omega
theorem yJ{s:TSl}(hs:OkS s){c:TCm}(h:OkC c){A:TAg}(hA:doS (jh s.2.2.1) c=(A,0))(ok:OkG A):fV s (kP c)=(jC s A,(23,0,[],fQ A,0,0)):=by
 obtain⟨_,_,h3⟩:=nY h;have hw:iR s.2.2.1 (atW (kP c)) (kP c).2.2.2.2.1=(A,0):=by show iR s.2.2.1 272 (kP c).2.2.2.2.1=_;unfold iR;rw[if_pos rfl,aaH h,hA,if_neg (by simp),if_neg (by simp)]
 have hn:¬ ((kP c).1=5∨(kP c).1=15):=by show ¬ ((23:Int)=5∨(23:Int)=15);decide
 have hl:¬ (kP c).2.2.2.2.1.length=0:=by show ¬ (8=0);decide
 unfold fV;rw[if_neg (by rw[h3];decide),if_neg hn,if_neg hl,hw,if_neg (by simp)];refine congrArg (fun x=>(jC s A,x)) ?_;show ((23:Int),(0:Int),([]:List Bool),((jU A).drop 256).take 8,(0:Int),(0:Int))=_;rw[aaD ok]
def rU(w:List Int):TA:=(16,288,20,0,w,[])
theorem Iq{w:List Int}(hl:w.length=20)(hr:∀x∈w,0≤x∧x≤65535):OkA (rU w)∧iq (rU w)=true∧ji (rU w)=true:=by
 refine⟨⟨(by decide:(0:Int)≤16),(by decide:(16:Int)≤255),(by decide:(0:Int)≤288),(by decide:(288:Int)≤65535),(by decide:(0:Int)≤20),(by decide:(20:Int)≤65535),(by decide:(0:Int)≤0),(by decide:(0:Int)≤65535),hr,by show w.length≤100000;omega,(by decide:0≤100000)⟩,?_,?_⟩
 ·match w,hl with
  | [_,_,_,_,_,_,_,_,_,_,_,_,_,_,_,_,_,_,_,_],_=>rfl
 ·show decide ((288:Int)=272∧w.length=8∨(288:Int)=288∧w.length=20)=true
  rw[decide_eq_true_eq];exact Or.inr ⟨rfl,hl⟩
theorem akF{s:TSl}(hs:OkS s){o tx n:Int}{x:bn}(hf:fD x=true)(hn:0≤n∧n≤7)(hr:∀y∈iA o tx n x,0≤y∧y≤65535){A:TAg}(hA:putA (jh s.2.2.1) o tx n x=(A,0)) :
  fV s (rU (iA o tx n x))=(jC s A,(16,0,[],[],288,20)):=by
 obtain⟨_,_,h3⟩:=Iq oO hr;have hw:iR s.2.2.1 (atW (rU (iA o tx n x))) (rU (iA o tx n x)).2.2.2.2.1=(A,0):=by show iR s.2.2.1 288 (iA o tx n x)=_;unfold iR;rw[if_neg (by decide),aoe hf hn.2];dsimp only;rw[hA,if_neg (by simp),if_neg (by simp)]
 have hl:¬ (rU (iA o tx n x)).2.2.2.2.1.length=0:=by show ¬ ((iA o tx n x).length=0);rw[oO];decide
 unfold fV;rw[if_neg (by rw[h3];decide),if_neg (show ¬ ((rU (iA o tx n x)).1=5∨(rU (iA o tx n x)).1=15) from (by decide:¬ ((16:Int)=5∨(16:Int)=15))),if_neg hl,hw,if_neg (by simp)];rfl
def rdQ(p n:Int):TA:=(3,p,n,0,[],[])
theorem ES{p n:Int}(hp:0≤p∧p≤65535)(hn:1≤n∧n≤125):OkA (rdQ p n)∧iq (rdQ p n)=true:=by
 refine⟨⟨(by decide:(0:Int)≤3),(by decide:(3:Int)≤255),hp.1,hp.2,by show 0≤n;omega,by show n≤65535;omega,(by decide:(0:Int)≤0),(by decide:(0:Int)≤65535),Ip,(by decide:0≤100000),(by decide:0≤100000)⟩,?_⟩;show uj (3,p,n,0,[],[]) (125,0,0,false,false)=true;unfold uj;dsimp only;have e:iL n 125=true:=by unfold iL;rw[if_neg (by decide),if_pos (gY.2 hn.1),gM.2 hn.2]
 rw[e];rfl
theorem aon(s:TSl){p n:Int}(hc:rdH p n.toNat=true):fV s (rdQ p n)=(s,(3,0,[],((jU s.2.2.1).drop p.toNat).take n.toNat,0,0)):=by have h3:ji (rdQ p n)=true:=hc;unfold fV;rw[if_neg (by rw[h3];decide),if_neg (show ¬ ((rdQ p n).1=5∨(rdQ p n).1=15) from (by decide:¬ ((3:Int)=5∨(3:Int)=15))),if_pos (by rfl)];rfl
theorem akG{i:Nat}(hi:i<8):rdH (512+(i:Int)*32) 20=true:=by
 have:∀i:Fin 8,rdH (512+(i.1:Int)*32) 20=true:=by decide
 exact this ⟨i,hi⟩
instance dBk:DecidableEq bn:=inferInstance
instance dSt1:DecidableEq (List Bool×List bn):=inferInstance
instance dSt:DecidableEq l9:=inferInstance
instance dAg1:DecidableEq (l9×Int):=inferInstance
instance dAg2:DecidableEq (Int×l9×Int):=inferInstance
instance dAg3:DecidableEq (Int×Int×l9×Int):=inferInstance
instance dAg4:DecidableEq (Int×Int×Int×l9×Int):=inferInstance
instance dAg5:DecidableEq (TLs×Int×Int×Int×l9×Int):=inferInstance
instance dAg:DecidableEq TAg:=inferInstance
instance dSl1:DecidableEq (TAg×List Bool):=inferInstance
instance dSl:DecidableEq TSl:=inferInstance
abbrev TOp:=Int×List Int×TA×TCm
structure OkO(o:TOp):Prop where
 w:0≤o.1∧o.1≤255
 b:∀x∈o.2.1,0≤x∧x≤255
 bl:o.2.1.length≤300
 a:OkA o.2.2.1
 c:OkC o.2.2.2
theorem Jb{a:TA}(h1:a.2.2.2.2.1.length≤1000000)(h2:a.2.2.2.2.2.length≤1000000):Tj (a,())=some (a,()):=by show acT a=_;unfold acT;rw[mX h1,zD,AY h2,zD]
theorem OZ{p:TP}(h1:p.2.2.2.2.2.1.2.2.2.2.1.length≤1000000)(h2:p.2.2.2.2.2.1.2.2.2.2.2.length≤1000000):xQ (p,())=some (p,()):=by show acU p=_;unfold acU;rw[Jb h1 h2,zD]
theorem aoo{unit tx:Int}{a:TA}(h:OkA a)(hr:iq a=true):adg ((),unit,tx,a,())=some (jJ tx unit (jr a),()):=by show adf () unit tx a=_;unfold adf;have hl:=uq (lS hr);rw[JH h,if_pos hr,zD,if_neg (by show ¬ nei 0 0=true;decide)];dsimp only;rw[am6 (by omega) (by omega),zD,if_neg (by show ¬ nei 0 0=true;decide)]
theorem aop{unit tx:Int}{a:TA}(h:OkA a)(hr:iq a=true)(hu:1≤unit)(hu2:unit≤247):ady ((),unit,tx,a,())=some (jT (unit::jr a),()):=by
 show adx () unit tx a=_;unfold adx;have hl:=uq (lS hr);have e:TV (unit,a,())=some (jT (unit::jr a),0,()):=by show TU unit a=_;unfold TU;rw[JH h,if_pos hr,zD,if_neg (by show ¬ nei 0 0=true;decide)];dsimp only;rw[Qu hu hu2 (by omega) (by omega),zD]
 rw[e,zD,if_neg (by show ¬ nei 0 0=true;decide)]
theorem aoq{p:TP}(h:OkP p)(hr:iq p.2.2.2.2.2.1=true):TW (p,())=some (sG p,yc p,()):=by
 show adA p=_;unfold adA sG yc qY kT;by_cases hl:p.2.1=2
 ·have e:adh ((),p.2.2.2.2.2.2.1,())=some ((p.2.2.2.2.2.2.1+1)%65536,()):=congrArg (fun x=>some (x,())) (H8 _)
  rw[if_pos (dw.2 hl),e,zD,aoo h.a hr,zD,if_pos hl,if_pos hl]
 ·have e:adz ((),p.2.2.2.2.2.2.1,())=some (p.2.2.2.2.2.2.1,()):=rfl
  rw[if_neg (fun e=>hl (dw.1 e)),e,zD,aop h.a hr h.u0 h.u1,zD,if_neg hl,if_neg hl]
theorem aor{p:TP}{a:TA}(h:OkP p)(ha:OkA a):F9 (p,a,()) =
  if p.2.2.2.2.1=true then some (p,[],30,()) else if iq a=true then some (sG (oI p a),yc (oI p a),0,()) else some (p,[],12,()):=by
 show adB p a=_;unfold adB;have h1:=h.a.lw;have h2:=h.a.lb;have h3:=ha.lw;have h4:=ha.lb;rw[OZ (by omega) (by omega),zD,right_eq ha,zD];split
 ·rfl
 ·cases hr:iq a with
  | false=>rfl
  | true =>
   rw[if_neg (by decide),if_pos rfl,Jb (by omega) (by omega),zD];dsimp only;have hw:OkP (oI p a):=⟨h.u0,h.u1,h.l,h.t0,h.t1,h.r0,h.r1,ha,h.x0,h.x1⟩;have e:=aoq hw hr;unfold oI at e;rw[e];rfl
theorem drop_eq(p:TP):Ae (p,())=some (lI p,()):=rfl
theorem aaI(u l t r:Int):acg (u,l,t,r,())=some (sZ u l t r,()):=by
 show acf u l t r=_;unfold acf sZ;simp only[gY,gM,dw]
 by_cases h1:1≤u<;>by_cases h2:u≤247<;>by_cases h5:1≤t<;>by_cases h6:t≤100000<;>by_cases h7:0≤r<;>simp only[h1,h2,h5,h6,h7,if_true,if_false,true_and,false_and,and_false,and_true] <;>
  by_cases h3:l=1<;>by_cases h4:l=2<;>simp[h3,h4,le]<;>omega
theorem ark(u l t r:Int):JC (u,l,t,r,())=if sZ u l t r=true then some ((u,l,t,r,false,zA,0,0,0),0,()) else some (zP,2,()):=by show ach u l t r=_;unfold ach;rw[aaI,zD];cases sZ u l t r<;>rfl
theorem YV(unit tx:Int)(b:List Int):GD ((),unit,tx,b,())=pX (A7 unit b):=by
 show agD () unit tx b=_;unfold agD
 have e:VP (unit,b,())=if (gF b).2.2≠0 then some (zR,(gF b).2.2,()) else if (gF b).1≠unit then some (zR,10,()) else some ((kU (gF b).2.1).1,(kU (gF b).2.1).2,()):=by
  show agC unit b=_;unfold agC;rw[BX,zD];dsimp only;rw[Ou,zD];simp only[fo]
  repeat' split
  all_goals first | rfl | contradiction
 rw[e];unfold A7;by_cases h1:(gF b).2.2=0
 ·by_cases h2:(gF b).1=unit
  ·by_cases h3:(kU (gF b).2.1).2=0
   ·simp[h1,h2,h3,nei,pX]
   ·simp[h1,h2,h3,nei,pX,zR]
  ·simp[h1,h2,nei,pX,zR]
 ·simp[h1,nei,pX,zR]
theorem YW{b:List Int}(hl:b.length≤100000)(hb:∀x∈b,0≤x∧x≤255)(unit tx:Int):GA ((),unit,tx,b,())=pX (A8 unit tx b):=by
 show VJ Nb () unit tx b=_;unfold VJ;rw[uX hl hb,zD];dsimp only;have K:∀(t:Bool) (y1 y2:Int) (y3:List Int),Nb t 0 0 0 0 y1 y2 y3=if t=true then some (zR,false,()) else if (kU y3).2≠0 then some (zR,false,()) else some ((kU y3).1,true,()):=fun t y1 y2 y3=>by unfold Nb agy;rw[Ou,zD];simp only[fo];rfl
 rw[K,K];unfold A8;by_cases h1:(fC b).2=0
 ·by_cases h2:(fC b).1.2.1=unit
  ·by_cases h3:(fC b).1.1=tx
   ·by_cases h4:(kU (fC b).1.2.2).2=0
    ·simp[h1,h2,h3,h4,nei,pX]
    ·simp[h1,h2,h3,h4,nei,pX]
   ·simp[h1,h2,h3,nei,pX]
  ·simp[h1,h2,nei,pX]
 ·simp[h1,nei,pX]
theorem aaJ{p:TP}(h:OkP p){r:TR}(hs:SmR r)(ok:Bool):GH ok p.1 p.2.1 p.2.2.1 p.2.2.2.1 p.2.2.2.2.1 p.2.2.2.2.2.1.1 p.2.2.2.2.2.1.2.1 p.2.2.2.2.2.1.2.2.1 p.2.2.2.2.2.1.2.2.2.1 p.2.2.2.2.2.1.2.2.2.2.1 p.2.2.2.2.2.1.2.2.2.2.2
  p.2.2.2.2.2.2.1 p.2.2.2.2.2.2.2.1 p.2.2.2.2.2.2.2.2 0 0 0 0 false 0 0 0 0 0 0 0 0 0 0 0 r.1 r.2.1 r.2.2.1 r.2.2.2.1 r.2.2.2.2.1 r.2.2.2.2.2 =
  outT p (if ok=true then if mD p.2.2.2.2.2.1 r=true then some r else none else none):=by
 unfold GH agI;have h1:=h.a.lw;have h2:=h.a.lb
 have e2:∀t,VR t p.1 p.2.1 p.2.2.1 p.2.2.2.1 p.2.2.2.2.1 p.2.2.2.2.2.1.1 p.2.2.2.2.2.1.2.1 p.2.2.2.2.2.1.2.2.1 p.2.2.2.2.2.1.2.2.2.1 p.2.2.2.2.2.1.2.2.2.2.1 p.2.2.2.2.2.1.2.2.2.2.2
  p.2.2.2.2.2.2.1 p.2.2.2.2.2.2.2.1 p.2.2.2.2.2.2.2.2 0 0 0 0 false 0 0 0 0 0 0 0 0 0 0 0 r.1 r.2.1 r.2.2.1 r.2.2.2.1 r.2.2.2.2.1 r.2.2.2.2.2=if t=true then some (p,zR,false,()) else some (lI p,r,true,()):=fun t=>by
  unfold VR agJ;have eo:xQ (p,())=some (p,()):=OZ (by omega) (by omega)
  cases t with
  | true=>exact (congrArg (fun q=>zC q fun y=>some (y.1,zR,false,())) eo).trans rfl
  | false=>rfl
 rw[e2];have e3:MW ((p.2.2.2.2.2.1.1,p.2.2.2.2.2.1.2.1,p.2.2.2.2.2.1.2.2.1,p.2.2.2.2.2.1.2.2.2.1,p.2.2.2.2.2.1.2.2.2.2.1,p.2.2.2.2.2.1.2.2.2.2.2),(r.1,r.2.1,r.2.2.1,r.2.2.2.1,r.2.2.2.2.1,r.2.2.2.2.2),())=some (mD p.2.2.2.2.2.1 r,()):=an8 h.a hs;rw[e3,zD,e2]
 cases ok with
 | false=>rfl
 | true=>cases mD p.2.2.2.2.2.1 r<;>rfl
theorem aos{p:TP}(h:OkP p){b:List Int}(hl:b.length≤100000)(hb:∀x∈b,0≤x∧x≤255):agL (p,b,())=outT p (qP p b):=by
 show VQ GH p b=_;unfold VQ;have h1:=h.a.lw;have h2:=h.a.lb;rw[OZ (by omega) (by omega),zD,YW hl hb,YV]
 have key:∀o:Option TR,(∀r,o=some r->SmR r)->(zC (pX o) fun y=>GH y.2.1 p.1 p.2.1 p.2.2.1 p.2.2.2.1 p.2.2.2.2.1 p.2.2.2.2.2.1.1 p.2.2.2.2.2.1.2.1 p.2.2.2.2.2.1.2.2.1 p.2.2.2.2.2.1.2.2.2.1 p.2.2.2.2.2.1.2.2.2.2.1 p.2.2.2.2.2.1.2.2.2.2.2
   p.2.2.2.2.2.2.1 p.2.2.2.2.2.2.2.1 p.2.2.2.2.2.2.2.2 0 0 0 0 false 0 0 0 0 0 0 0 0 0 0 0 y.1.1 y.1.2.1 y.1.2.2.1 y.1.2.2.2.1 y.1.2.2.2.2.1 y.1.2.2.2.2.2)=outT p (o.bind fun r=>if mD p.2.2.2.2.2.1 r=true then some r else none):=fun o ho=>by
  cases o with
  | none=>exact aaJ h uV false
  | some r=>exact aaJ h (ho r rfl) true
 have hout:∀o,∃x,outT p o=some x:=fun o=>by cases o<;>exact⟨_,rfl⟩
 unfold qP
 cases hw:p.2.2.2.2.1 with
 | false=>rfl
 | true =>
  rw[if_neg (by decide),if_pos rfl];rw[hw]at key;by_cases hlk:p.2.1=2
  ·have e:sH p b=A8 p.1 p.2.2.2.2.2.2.1 b:=by unfold sH;rw[if_pos hlk]
   have kk:=key (A8 p.1 p.2.2.2.2.2.2.1 b) (fun r hr=>Ov (e.trans hr));rw[e];obtain⟨x,hx⟩:=hout ((A8 p.1 p.2.2.2.2.2.2.1 b).bind fun r=>if mD p.2.2.2.2.2.1 r=true then some r else none);rw[hx]at kk ⊢;simp only[dw,hlk,if_true];rw[hlk]at kk;rw[kk,uw (eqAs_refl _),uw (eqAs_refl _)]
  ·have e:sH p b=A7 p.1 b:=by unfold sH;rw[if_neg hlk]
   have kk:=key (A7 p.1 b) (fun r hr=>Ov (e.trans hr));rw[e];obtain⟨x,hx⟩:=hout ((A7 p.1 b).bind fun r=>if mD p.2.2.2.2.2.1 r=true then some r else none);rw[hx]at kk ⊢;simp only[dw,hlk,if_false];rw[kk,uw (eqAs_refl _),uw (eqAs_refl _)]
structure OkT(t:TTk):Prop where
 p:OkP t.1
 o:1≤t.2.1∧t.2.1≤65535
 x:0≤t.2.2.1∧t.2.2.1≤4294967295
 bl:t.2.2.2.1.length≤8
 bf:∀b∈t.2.2.2.1,fD b=true∧∀y∈b.2,0≤y∧y≤65535
 at':0≤t.2.2.2.2.2.1∧t.2.2.2.2.2.1≤7
 n:0≤t.2.2.2.2.2.2.1∧t.2.2.2.2.2.2.1≤t.2.2.2.1.length
 tr:0≤t.2.2.2.2.2.2.2.1∧(t.2.2.2.2.2.1≠0->t.2.2.2.2.2.2.2.1≤8)
def jD(t:TTk)(s:Int):TTk:=(lI t.1,t.2.1,t.2.2.1,t.2.2.2.1,t.2.2.2.2.1,0,t.2.2.2.2.2.2.1,t.2.2.2.2.2.2.2.1,s)
def toT(t:TTk)(k:Int):TTk:=(t.1,t.2.1,t.2.2.1,t.2.2.2.1,t.2.2.2.2.1,k,t.2.2.2.2.2.2)
def rV(t:TTk)(n:Int):TTk:=(t.1,t.2.1,t.2.2.1,t.2.2.2.1,t.2.2.2.2.1,t.2.2.2.2.2.1,n,t.2.2.2.2.2.2.2)
def arl(t:TTk):TTk:=(t.1,t.2.1,t.2.2.1,t.2.2.2.1,t.2.2.2.2.1,t.2.2.2.2.2.1,t.2.2.2.2.2.2.1,t.2.2.2.2.2.2.2.1+1,t.2.2.2.2.2.2.2.2)
def kK(t:TTk):TTk:=if (t.2.2.2.1.length:Int)≤t.2.2.2.2.2.2.1 then toT t 4 else toT t 2
def iV(t:TTk)(k:Int):TTk:=if 8≤t.2.2.2.2.2.2.2.1 then jD (arl t) 2 else toT (arl t) k
theorem aaK(t:TTk)(s:Int):lM (t,s,())=some (jD t s,()):=rfl
theorem to_eq(t:TTk)(k:Int):oM (t,k,())=some (toT t k,()):=rfl
theorem QK(t:TTk):Af (t,())=some (kK t,()):=by
 show aeg t=_;unfold aeg kK;rw[ay];by_cases h:(t.2.2.2.1.length:Int)≤t.2.2.2.2.2.2.1
 ·rw[if_pos (gY.2 h),if_pos h,to_eq];rfl
 ·rw[if_neg (fun e=>h (gY.1 e)),if_neg h,to_eq];rfl
theorem D5{t:TTk}(h:OkT t)(ha:t.2.2.2.2.2.1≠0)(k:Int):tY (t,k,())=some (iV t k,()):=by
 have:=h.tr;have:=h.tr.2 ha;show aeh t k=_;unfold aeh iV;rw[jg (by omega) (by omega)];by_cases h8:8≤t.2.2.2.2.2.2.2.1
 ·rw[if_pos (gq.2 (by omega)),if_pos h8,aaK];rfl
 ·rw[if_neg (fun e=>h8 (by have:=gq.1 e;omega)),if_neg h8,to_eq];rfl
abbrev TSt:=Int×Int×Int×Int
def iy(r:TR):Option TSt:=if r.2.1=0∧r.2.2.2.1.length=8 then some (r.2.2.2.1.getD 0 0,r.2.2.2.1.getD 1 0,65536*r.2.2.2.1.getD 2 0+r.2.2.2.1.getD 3 0,65536*r.2.2.2.1.getD 4 0+r.2.2.2.1.getD 5 0) else none
def aBh:Option TSt->Option (TSt×Bool×Unit)
 | some s=>some (s,true,())
 | none=>some ((0,0,0,0),false,())
theorem uI{r:TR}(hr:∀x∈r.2.2.2.1,0≤x∧x≤65535):vI (r,())=aBh (iy r):=by
 obtain⟨f,e,b,w,p,n⟩:=r;show Uo aed (f,e,b,w,p,n)=_;unfold Uo iy;simp only at hr ⊢;by_cases he:e=0
 ·subst he
  rw[if_neg (by decide)];by_cases hl:w.length=8
  ·rw[if_pos ⟨rfl,hl⟩]
   obtain⟨a,b',c,d,e,f',g,i,rfl⟩:=eight hl;have h2:=hr c (by simp);have h3:=hr d (by simp);have h4:=hr e (by simp);have h5:=hr f' (by simp);have hnl:nei (zF [a,b',c,d,e,f',g,i].length) 8=false:=rfl;rw[hnl];show (zC (at? [a,b',c,d,e,f',g,i] 0) fun y=>zC (at? [a,b',c,d,e,f',g,i] 1) fun y_1=>zC (at? [a,b',c,d,e,f',g,i] 2) fun y_2=>zC (at? [a,b',c,d,e,f',g,i] 3) fun y_3=>zC (at? [a,b',c,d,e,f',g,i] 4) fun y_4=>zC (at? [a,b',c,d,e,f',g,i] 5) fun y_5=>zC (pO (y_2,y_3,())) fun y_6=>zC (pO (y_4,y_5,())) fun y_7=>some ((y,y_1,y_6.1,y_7.1),true,()))=_;show (zC (pO (c,d,())) fun y_6=>zC (pO (e,f',())) fun y_7=>some ((a,b',y_6.1,y_7.1),true,()))=_;rw[wR h2.1 h2.2 h3.1 h3.2,zD,wR h4.1 h4.2 h5.1 h5.2];rfl
  ·rw[if_neg (fun h=>hl h.2),show nei (zF w.length) 8=true from fo.2 (by rw[ay];omega)]
   rfl
 ·rw[if_pos (fo.2 he),if_neg (fun h=>he h.1)]
  rfl
def mY(s:TSt)(t:TTk):Bool:=decide (s.1=t.2.1∧s.2.2.1=t.2.2.1)
theorem uJ(s:TSt)(t:TTk):pP (s,t,())=some (mY s t,()):=by
 show aee s t=_;unfold aee mY;by_cases h:s.1=t.2.1
 ·rw[if_pos (dw.2 h),show eqi s.2.2.1 t.2.2.1=decide (s.1=t.2.1∧s.2.2.1=t.2.2.1) by rw[Bool.eq_iff_iff,dw,decide_eq_true_iff];exact⟨fun e=>⟨h,e⟩,fun e=>e.2⟩]
 ·rw[if_neg (fun e=>h (dw.1 e))]
  simp[h]
def oP(t:TTk):List Int:=match t.2.2.2.1[t.2.2.2.2.2.2.1.toNat]? with
 | some b=>iA t.2.1 t.2.2.1 t.2.2.2.2.2.2.1 b
 | none=>[]
def p8(t:TTk):Bool:=decide (t.2.2.2.2.2.2.1<t.2.2.2.1.length)
theorem Bg{x:bn}(h:fD x=true):x.2.length≤14:=(of_decide_eq_true h).1
theorem O0{t:TTk}(h:OkT t):Mk (t,())=some (oP t,p8 t,()):=by
 have hn:=h.n;have hx:=h.x;have hbl:=h.bl;show Uy aew t=_;unfold Uy oP p8;rw[if_neg (fun e=>by have:=cu.1 e;omega)];show Ux _ t=_;unfold Ux;obtain⟨k,hk⟩:=zN hn.1;rw[hk,zQ,ay];by_cases hlt:k<t.2.2.2.1.length
 ·obtain⟨b,hb⟩:=fU hlt
  obtain⟨hf,_⟩:=h.bf b (zY hb);have:=Bg hf;rw[if_neg (fun e=>by have:=gY.1 e;omega),fI hb,zD,aah hx.1 hx.2 (by omega),if_pos ⟨by omega,by omega⟩,if_pos hf,zD,hb];simp only[decide_eq_true (show ((k:Nat):Int)<((t.2.2.2.1.length:Nat):Int) by omega)];rfl
 ·rw[if_pos (gY.2 (by omega)),List.getElem?_eq_none (by omega),decide_eq_false (by omega)]
def yK(t:TTk)(v:Int):TCm:=(t.2.1,v,t.2.2.1,if v=2 then (t.2.2.2.1.length:Int) else 0,if v=2 then ou t.2.2.2.1 else 0)
theorem jY{t:TTk}(h:OkT t){v:Int}(hv:1≤v∧v≤4):OkC (yK t v):=by
 have h1:=h.o;have h2:=h.x;have h3:=h.bl;have h4:0≤ou t.2.2.2.1∧ou t.2.2.2.1≤4294967295:=aky _;unfold yK;constructor<;>dsimp only
 ·omega
 ·omega
 ·exact h2
 ·split<;>omega
 ·split<;>omega
theorem Cf{t:TTk}(h:OkT t){v:Int}(hv:1≤v∧v≤4):Ad (t,v,())=some (kP (yK t v),()):=by
 have h3:=h.bl;have ok:=jY h hv;show Uk Ul t v=_;unfold Uk;have key:∀z (c:TCm),OkC c->Ul z c=some (kP c,()):=fun z c hc=>by show Uj z c=_;unfold Uj;rw[aaG hc.v hc.t hc.k];rfl
 by_cases h2:v=2
 ·subst h2
  rw[if_pos (by decide),QA (by omega) (fun b hb=>by have:=Bg (h.bf b hb).1;omega),zD];have e:cvt .u16 (zF t.2.2.2.1.length)=(t.2.2.2.1.length:Int):=by rw[BV,ay];omega
  rw[e];exact key _ _ ok
 ·rw[if_neg (fun e=>h2 (dw.1 e))]
  have e:yK t v=(t.2.1,v,t.2.2.1,0,0):=by simp[yK,h2]
  rw[e]at ok ⊢;exact key _ _ ok
def iB(t:TTk):TA :=
 if t.2.2.2.2.2.1=1 then kP (yK t 1) else if t.2.2.2.2.2.1=2 then (if p8 t=true then rU (oP t) else zA) else if t.2.2.2.2.2.1=3 then rdQ (512+32*t.2.2.2.2.2.2.1) 20
 else if t.2.2.2.2.2.1=4 then kP (yK t 2) else if t.2.2.2.2.2.1=5 then kP (yK t 3) else if t.2.2.2.2.2.1=6 then kP (yK t 4) else if t.2.2.2.2.2.1=7 then rdQ 256 8 else zA
theorem YX{t:TTk}(h:OkT t):MI (t,())=some (iB t,()):=by
 have ha:=h.at';have hn:=h.n;have hl:=h.bl;show UJ aeY t=_;unfold UJ;rw[iI (by omega) (by omega),if_neg (fun e=>by have:=gY.1 e;omega)];show UI _ t _=_;unfold UI iB;generalize hk:t.2.2.2.2.2.1=k at ha;have hc:k=0∨k=1∨k=2∨k=3∨k=4∨k=5∨k=6∨k=7:=by omega
 have e5:cvt .u16 (add .i64 512 (mul .i64 32 t.2.2.2.2.2.2.1))=512+32*t.2.2.2.2.2.2.1:=by rw[nX (by omega) (by omega),jg (by omega) (by omega),BV];omega
 rcases hc with rfl | rfl | rfl | rfl | rfl | rfl | rfl | rfl
 ·rfl
 ·rw[if_neg (by decide),if_neg (by decide),if_neg (by decide),if_neg (by decide),if_neg (by decide),if_neg (by decide),if_neg (by decide),if_pos (by decide),Cf h (by decide)]
  rfl
 ·rw[if_neg (by decide),if_neg (by decide),if_neg (by decide),if_neg (by decide),if_neg (by decide),if_neg (by decide),if_pos (by decide)]
  show (zC (aey t) fun y=>some (y.1,()))=_;unfold aey;rw[O0 h,zD]
  cases hh:p8 t with
  | false=>rfl
  | true =>
   have hb:(oP t).length=20:=by unfold p8 at hh;have:=of_decide_eq_true hh;obtain⟨b,hb⟩:=fU (xs:=t.2.2.2.1) (i:=t.2.2.2.2.2.2.1.toNat) (by omega);unfold oP;rw[hb];exact oO
   have e:cvt .u16 (zF (oP t).length)=20:=by rw[hb];rfl
   simp only[Bool.not_true,Bool.false_eq_true,if_false,e];rfl
 ·rw[if_neg (by decide),if_neg (by decide),if_neg (by decide),if_neg (by decide),if_neg (by decide),if_pos (by decide)]
  show (zC (aeC t) fun y=>some (y.1,()))=_;unfold aeC;rw[e5];rfl
 ·rw[if_neg (by decide),if_neg (by decide),if_neg (by decide),if_neg (by decide),if_pos (by decide),Cf h (by decide)]
  rfl
 ·rw[if_neg (by decide),if_neg (by decide),if_neg (by decide),if_pos (by decide),Cf h (by decide)]
  rfl
 ·rw[if_neg (by decide),if_neg (by decide),if_pos (by decide),Cf h (by decide)]
  rfl
 ·rfl
def gQ(t:TTk)(r:TR):TTk :=
 if t.2.2.2.2.2.1=1 then (match iy r with
  | none=>jD t 2
  | some s=>if mY s t=true∧s.2.1=2 then jD t 1 else if mY s t=true∧s.2.1=1 then kK (rV t 0) else iV t 1)
 else if t.2.2.2.2.2.1=2 then (if r.2.1≠0 then jD t 2 else toT t 3)
 else if t.2.2.2.2.2.1=3 then (if p8 t=true∧r.2.1=0∧r.2.2.2.1=oP t then kK (rV t (t.2.2.2.2.2.2.1+1)) else iV t 2)
 else if t.2.2.2.2.2.1=4 then (match iy r with
  | none=>jD t 2
  | some s=>if mY s t=true∧s.2.1=2 then jD t 1 else iV t 4)
 else if t.2.2.2.2.2.1=5 then (match iy r with
  | none=>toT t 7
  | some s=>if t.2.2.1≤s.2.2.2 then jD t 1 else toT t 5)
 else if t.2.2.2.2.2.1=6 then (match iy r with
  | none=>toT t 7
  | some s=>if mY s t=true then toT t 6 else jD t 1)
 else if t.2.2.2.2.2.1=7 then (if t.2.2.2.2.1=2 then (match iy r with
   | some s=>if t.2.2.1≤s.2.2.2 then jD t 1 else toT t 5
   | none=>toT t 5)
  else (match iy r with
   | some s=>if mY s t=true then toT t 6 else jD t 1
   | none=>toT t 6))
 else jD t t.2.2.2.2.2.2.2.2
theorem OkT.end{t:TTk}(h:OkT t)(s:Int):OkT (jD t s) :=
 ⟨⟨h.p.u0,h.p.u1,h.p.l,h.p.t0,h.p.t1,h.p.r0,h.p.r1,yu,h.p.x0,h.p.x1⟩,h.o,h.x,h.bl,h.bf,(by decide:(0:Int)≤0∧(0:Int)≤7),h.n,h.tr.1,fun e=>absurd rfl e⟩
theorem akH{t:TTk}(h:t.2.2.2.2.2.1=1)(r:TR):gQ t r=match iy r with
  | none=>jD t 2
  | some s=>if mY s t=true∧s.2.1=2 then jD t 1 else if mY s t=true∧s.2.1=1 then kK (rV t 0) else iV t 1:=if_pos h
theorem akI{t:TTk}(h:t.2.2.2.2.2.1=2)(r:TR):gQ t r=if r.2.1≠0 then jD t 2 else toT t 3:=by simp[gQ,h]
theorem akJ{t:TTk}(h:t.2.2.2.2.2.1=3)(r:TR):gQ t r=if p8 t=true∧r.2.1=0∧r.2.2.2.1=oP t then kK (rV t (t.2.2.2.2.2.2.1+1)) else iV t 2:=by simp[gQ,h]
theorem akK{t:TTk}(h:t.2.2.2.2.2.1=4)(r:TR):gQ t r=match iy r with
  | none=>jD t 2
  | some s=>if mY s t=true∧s.2.1=2 then jD t 1 else iV t 4:=by unfold gQ;rw[h];rfl
theorem arn{t:TTk}(h:t.2.2.2.2.2.1=5)(r:TR):gQ t r=match iy r with
  | none=>toT t 7
  | some s=>if t.2.2.1≤s.2.2.2 then jD t 1 else toT t 5:=by unfold gQ;rw[h];rfl
theorem aro{t:TTk}(h:t.2.2.2.2.2.1=6)(r:TR):gQ t r=match iy r with
  | none=>toT t 7
  | some s=>if mY s t=true then toT t 6 else jD t 1:=by unfold gQ;rw[h];rfl
theorem aBi{t:TTk}(h:t.2.2.2.2.2.1=7)(r:TR):gQ t r=if t.2.2.2.2.1=2 then (match iy r with
   | some s=>if t.2.2.1≤s.2.2.2 then jD t 1 else toT t 5
   | none=>toT t 5)
  else (match iy r with
   | some s=>if mY s t=true then toT t 6 else jD t 1
   | none=>toT t 6):=by unfold gQ;rw[h];rfl
theorem OkT.to{t:TTk}(h:OkT t)(ha:t.2.2.2.2.2.1≠0){k:Int}(hk:0≤k∧k≤7):OkT (toT t k):=⟨h.p,h.o,h.x,h.bl,h.bf,hk,h.n,h.tr.1,fun _=>h.tr.2 ha⟩
theorem OkT.num{t:TTk}(h:OkT t){k:Int}(hk:0≤k∧k≤t.2.2.2.1.length):OkT (rV t k):=⟨h.p,h.o,h.x,h.bl,h.bf,h.at',hk,h.tr⟩
theorem OkT.next{t:TTk}(h:OkT t)(ha:t.2.2.2.2.2.1≠0):OkT (kK t):=by
 unfold kK;split
 ·exact h.to ha (by decide)
 ·exact h.to ha (by decide)
theorem OkT.again{t:TTk}(h:OkT t)(ha:t.2.2.2.2.2.1≠0){k:Int}(hk:0≤k∧k≤7):OkT (iV t k):=by
 have h8:=h.tr.2 ha;have h0:=h.tr.1;unfold iV;split
 ·have:=h.end 2
  exact⟨this.p,this.o,this.x,this.bl,this.bf,this.at',this.n,by show 0≤t.2.2.2.2.2.2.2.1+1;omega,fun e=>absurd rfl e⟩
 ·exact⟨h.p,h.o,h.x,h.bl,h.bf,hk,h.n,by show 0≤t.2.2.2.2.2.2.2.1+1;omega,fun _=>by show t.2.2.2.2.2.2.2.1+1≤8;omega⟩
theorem YY{t:TTk}(h:OkT t)(h1:t.2.2.2.2.2.1=1){r:TR}(hr:∀x∈r.2.2.2.1,0≤x∧x≤65535):Mi (t,r,())=some (gQ t r,()):=by
 show Uu Db t r=_;unfold Uu;rw[uI hr,akH h1]
 cases hs:iy r with
 | none=>rfl
 | some s =>
  show (zC (pP (s,t,())) fun y_1=>if y_1.1=true then Db (eqi s.2.1 2) t _ s else Db false t _ s)=_;rw[uJ,zD];dsimp only;have k2:∀z,Mh false t z=some (iV t 1,()):=fun z=>by show (zC (tY (t,1,())) fun y=>some (y.1,()))=_;rw[D5 h (by omega)];rfl
  have k3:∀z,Mh true t z=some (kK (rV t 0),()):=fun z=>by show (zC (Af (rV t 0,())) fun y=>some (y.1,()))=_;rw[QK];rfl
  have k0:∀z,Db false t z s=some (if mY s t=true∧s.2.1=1 then kK (rV t 0) else iV t 1,()):=fun z=>by
   show Ut Mh false t z s=_;unfold Ut;rw[if_neg (by decide),uJ,zD]
   cases ho:mY s t with
   | false=>simp only[Bool.false_eq_true,if_false,false_and];exact k2 _
   | true =>
    by_cases e:s.2.1=1
    ·rw[show eqi s.2.1 1=true from dw.2 e]
     simp only[if_true,e,and_self];exact k3 _
    ·rw[show eqi s.2.1 1=false from by rw[<- Bool.not_eq_true,dw];exact e]
     simp only[if_true,e,and_false,if_false];exact k2 _
  have k1:∀z,Db true t z s=some (jD t 1,()):=fun z=>rfl
  cases ho:mY s t with
  | false =>
   rw[ho]at k0;simp only[Bool.false_eq_true,if_false,false_and]at k0 ⊢;exact k0 _
  | true =>
   rw[ho]at k0;by_cases e:s.2.1=2
   ·rw[show eqi s.2.1 2=true from dw.2 e]
    simp only[if_true,e,and_self];exact k1 _
   ·rw[show eqi s.2.1 2=false from by rw[<- Bool.not_eq_true,dw];exact e]
    simp only[if_true,e,and_false,if_false,true_and]at k0 ⊢;exact k0 _
theorem aaL{t:TTk}(h1:t.2.2.2.2.2.1=2)(r:TR):Ml (t,r,())=some (gQ t r,()):=by
 show aeA t r=_;unfold aeA;rw[akI h1];by_cases e:r.2.1=0
 ·rw[if_neg (fun h=>fo.1 h e),if_neg (fun h=>h e)];rfl
 ·rw[if_pos (fo.2 e),if_pos e];rfl
theorem PD{t:TTk}(h:OkT t)(h1:t.2.2.2.2.2.1=3){r:TR}(hl:r.2.2.2.1.length≤1000000):Mw (t,r,())=some (gQ t r,()):=by
 have hn:=h.n;have hb:=h.bl;show UD Mv t r=_;unfold UD;rw[akJ h1,O0 h,zD];have k1:∀z,Mv true t z=some (iV t 2,()):=fun z=>by show (zC (tY (t,2,())) fun y=>some (y.1,()))=_;rw[D5 h (by omega)];rfl
 have k0:∀z,Mv false t z=some (kK (rV t (t.2.2.2.2.2.2.1+1)),()):=fun z=>by show (zC (Af (rV t (add .i64 t.2.2.2.2.2.2.1 1),())) fun y=>some (y.1,()))=_;rw[jg (by omega) (by omega),QK];rfl
 cases hh:p8 t with
 | false=>simp only[Bool.not_false,if_true,Bool.false_eq_true,false_and,if_false];exact k1 _
 | true =>
  simp only[Bool.not_true,Bool.false_eq_true,if_false,true_and];by_cases e:r.2.1=0
  ·rw[if_neg (fun h=>fo.1 h e),AX hl,zD]
   by_cases e2:r.2.2.2.1=oP t
   ·rw[decide_eq_true e2,if_pos ⟨e,e2⟩];exact k0 _
   ·rw[decide_eq_false e2,if_neg (fun h=>e2 h.2)];exact k1 _
  ·rw[if_pos (fo.2 e),if_neg (fun h=>e h.1)];exact k1 _
theorem PE{t:TTk}(h:OkT t)(h1:t.2.2.2.2.2.1=4){r:TR}(hr:∀x∈r.2.2.2.1,0≤x∧x≤65535):My (t,r,())=some (gQ t r,()):=by
 show UE De t r=_;unfold UE;rw[uI hr,akK h1]
 cases hs:iy r with
 | none=>rfl
 | some s =>
  show (zC (pP (s,t,())) fun y_1=>if y_1.1=true then De (eqi s.2.1 2) t _ else De false t _)=_;rw[uJ,zD];dsimp only;have k0:∀z,De false t z=some (iV t 4,()):=fun z=>by show (zC (tY (t,4,())) fun y=>some (y.1,()))=_;rw[D5 h (by omega)];rfl
  have k1:∀z,De true t z=some (jD t 1,()):=fun z=>rfl
  cases ho:mY s t with
  | false=>simp only[Bool.false_eq_true,if_false,false_and];exact k0 _
  | true =>
   by_cases e:s.2.1=2
   ·rw[show eqi s.2.1 2=true from dw.2 e]
    simp only[if_true,e,and_self];exact k1 _
   ·rw[show eqi s.2.1 2=false from by rw[<- Bool.not_eq_true,dw];exact e]
    simp only[if_true,e,and_false,if_false];exact k0 _
theorem O1{t:TTk}(h1:t.2.2.2.2.2.1=5){r:TR}(hr:∀x∈r.2.2.2.1,0≤x∧x≤65535):MB (t,r,())=some (gQ t r,()):=by
 show aeN t r=_;unfold aeN;rw[uI hr,arn h1]
 cases hs:iy r with
 | none=>rfl
 | some s =>
  show (if ge s.2.2.2 t.2.2.1=true then (zC (lM (t,1,())) fun y=>some (y.1,())) else zC (oM (t,5,())) fun y=>some (y.1,()))=_;dsimp only;by_cases e:t.2.2.1≤s.2.2.2
  ·rw[if_pos (gY.2 e),if_pos e];rfl
  ·rw[if_neg (fun h=>e (gY.1 h)),if_neg e];rfl
theorem YZ{t:TTk}(h1:t.2.2.2.2.2.1=6){r:TR}(hr:∀x∈r.2.2.2.1,0≤x∧x≤65535):MC (t,r,())=some (gQ t r,()):=by
 show aeP t r=_;unfold aeP;rw[uI hr,aro h1]
 cases hs:iy r with
 | none=>rfl
 | some s =>
  show (zC (pP (s,t,())) fun y=>if (!y.1)=true then (zC (lM (t,1,())) fun y=>some (y.1,())) else zC (oM (t,6,())) fun y=>some (y.1,()))=_;rw[uJ,zD];dsimp only;cases mY s t<;>rfl
theorem aaM{t:TTk}(h1:t.2.2.2.2.2.1=7){r:TR}(hr:∀x∈r.2.2.2.1,0≤x∧x≤65535):MH (t,r,())=some (gQ t r,()):=by
 show UG MF MG t r=_;unfold UG;rw[uI hr,aBi h1];by_cases hg:t.2.2.2.2.1=2
 ·rw[if_pos hg]
  cases hs:iy r with
  | none =>
   show (if eqi t.2.2.2.2.1 2=true then MF false t _ else _)=_;rw[if_pos (dw.2 hg)];rfl
  | some s =>
   show (if eqi t.2.2.2.2.1 2=true then MF (ge s.2.2.2 t.2.2.1) t _ else _)=_;rw[if_pos (dw.2 hg)];dsimp only;by_cases e:t.2.2.1≤s.2.2.2
   ·rw[show ge s.2.2.2 t.2.2.1=true from gY.2 e,if_pos e];rfl
   ·rw[show ge s.2.2.2 t.2.2.1=false from by rw[<- Bool.not_eq_true,gY];exact e,if_neg e];rfl
 ·rw[if_neg hg]
  cases hs:iy r with
  | none =>
   show (if eqi t.2.2.2.2.1 2=true then _ else MG false t _)=_;rw[if_neg (fun h=>hg (dw.1 h))];rfl
  | some s =>
   show (if eqi t.2.2.2.2.1 2=true then _ else zC (pP (s,t,())) fun y=>MG (!y.1) t _)=_;rw[if_neg (fun h=>hg (dw.1 h)),uJ,zD];dsimp only;cases mY s t<;>rfl
theorem aaN{t:TTk}(h:OkT t){r:TR}(hr:∀x∈r.2.2.2.1,0≤x∧x≤65535)(hl:r.2.2.2.1.length≤1000000):VW (t,r,())=some (gQ t r,()):=by
 have ha:=h.at';show VU agR t r=_;unfold VU;rw[iI (by omega) (by omega),if_neg (fun e=>by have:=gY.1 e;omega)];show VT _ t r _=_;unfold VT;have e:∀k:Int,eqi t.2.2.2.2.2.1 k=decide (t.2.2.2.2.2.1=k):=fun k=>by rw[Bool.eq_iff_iff,dw,decide_eq_true_iff]
 have hc:t.2.2.2.2.2.1=0∨t.2.2.2.2.2.1=1∨t.2.2.2.2.2.1=2∨t.2.2.2.2.2.1=3∨t.2.2.2.2.2.1=4∨t.2.2.2.2.2.1=5∨t.2.2.2.2.2.1=6∨t.2.2.2.2.2.1=7:=by omega
 rcases hc with hk | hk | hk | hk | hk | hk | hk | hk
 ·rw[if_pos (dw.2 hk),aaK]
  unfold gQ;rw[if_neg (by omega),if_neg (by omega),if_neg (by omega),if_neg (by omega),if_neg (by omega),if_neg (by omega),if_neg (by omega)];rfl
 all_goals
  simp only[e,hk]
  try rw[YY h hk hr]
  try rw[aaL hk r]
  try rw[PD h hk hl]
  try rw[PE h hk hr]
  try rw[O1 hk hr]
  try rw[YZ hk hr]
  try rw[aaM hk hr]
  rfl
theorem OkT.eff{t:TTk}(h:OkT t)(r:TR):OkT (gQ t r):=by
 have hn:=h.n;by_cases ha:t.2.2.2.2.2.1=0
 ·have:gQ t r=jD t t.2.2.2.2.2.2.2.2:=by unfold gQ;rw[ha];rfl
  rw[this];exact h.end _
 unfold gQ;have n0:OkT (rV t 0):=h.num (by omega);split
 ·split
  ·exact h.end _
  ·split
   ·exact h.end _
   ·split
    ·exact n0.next ha
    ·exact h.again ha (by decide)
 ·split
  ·split
   ·exact h.end _
   ·exact h.to ha (by decide)
  ·split
   ·split
    ·rename_i hc
     have:t.2.2.2.2.2.2.1<t.2.2.2.1.length:=of_decide_eq_true hc.1;exact (h.num (by omega)).next ha
    ·exact h.again ha (by decide)
   ·split
    ·split
     ·exact h.end _
     ·split
      ·exact h.end _
      ·exact h.again ha (by decide)
    ·split
     ·split
      ·exact h.to ha (by decide)
      ·split
       ·exact h.end _
       ·exact h.to ha (by decide)
     ·split
      ·split
       ·exact h.to ha (by decide)
       ·split
        ·exact h.to ha (by decide)
        ·exact h.end _
      ·split
       ·split
        ·split
         ·split
          ·exact h.end _
          ·exact h.to ha (by decide)
         ·exact h.to ha (by decide)
        ·split
         ·split
          ·exact h.to ha (by decide)
          ·exact h.end _
         ·exact h.to ha (by decide)
       ·exact h.end _
theorem O3{σ α:Type}{F:(σ->Option (Bool×Unit))->σ->Option (Bool×Unit)}{mk:Nat->σ}{l:List α}{p:α->Bool}(hs:∀self i x,l[i]? = some x->F self (mk i)=if p x=true then self (mk (i+1)) else some (false,()))
  (he:∀self,F self (mk l.length)=some (true,())):∀(k i n:Nat),i+k=l.length->k<n->bu F n (mk i)=some ((l.drop i).all p,())
 | _,_,0,_,hn=>by omega
 | 0,i,n+1,h,_=>by
  have:i=l.length:=by omega
  subst this;rw[jM,he,List.drop_length];rfl
 | k+1,i,n+1,h,hn=>by
  obtain⟨x,hx⟩:=fU (xs:=l) (i:=i) (by omega);rw[jM,hs _ _ _ hx,O3 hs he k (i+1) n (by omega) (by omega),List.drop_eq_getElem_cons (show i<l.length by omega),List.all_cons];have:l[i]'(by omega)=x:=by rw[List.getElem?_eq_getElem (by omega)]at hx;exact Option.some.inj hx
  rw[this];cases p x<;>rfl
theorem Jc{l:List bn}(hl:l.length≤1000000)(hw:∀b∈l,b.2.length≤1000000):LG (l,())=some (l,()):=by
 show LF l (zF l.length) 0 []=_;unfold LF
 have e:∀(x acc:List bn),x.foldl (fun r x=>r++[x]) acc=acc++x:=by
  intro x
  induction x with
  | nil=>simp
  | cons a q ih=>intro acc;rw[List.foldl_cons,ih];simp
 refine (nK (mk:=fun i (r:List bn)=>(l,zF l.length,(i:Int),r)) (xs:=l) (stp:=fun r x=>r++[x]) (fin:=fun r=>some (r,())) (fun i r=>r.length=i∧i≤l.length) ?_ ?_ ?_ l.length 0 [] 18446744073709551616 (by omega) (by omega) ⟨rfl,Nat.zero_le _⟩).trans (by rw[List.drop_zero,e];rfl)
 ·intro self i acc x hx hI
  have hi:=(List.getElem?_eq_some_iff.1 hx).1;show FZ _ l (zF l.length) (i:Int) acc=_;unfold FZ;rw[if_pos (cu.2 (by rw[ay];omega)),fI hx,zD,mX (hw x (zY hx)),zD,iT (by show acc.length+1≤_;omega),iD (by omega)]
 ·intro i acc x hx hI
  have hi:=(List.getElem?_eq_some_iff.1 hx).1;exact⟨by simp;omega,by omega⟩
 ·intro self acc _
  show FZ _ l (zF l.length) (l.length:Int) acc=_;unfold FZ;rw[if_neg (fun h=>by have:=cu.1 h;rw[ay]at this;omega)]
def oz(l:List bn):Bool:=decide (l.length≤8) && l.all fD
theorem arp{l:List bn}(hl:l.length≤1000000)(hw:∀b∈l,b.2.length≤1000000):UR (l,())=some (oz l,()):=by
 show UO UQ l=_;unfold UO oz;by_cases h8:l.length≤8
 ·rw[if_neg (fun h=>by have:=gq.1 h;rw[ay]at this;omega),decide_eq_true h8,Bool.true_and]
  refine (O3 (mk:=fun i=>(l,zF l.length,(i:Int))) (l:=l) (p:=fD) ?_ ?_ l.length 0 18446744073709551616 (by omega) (by omega)).trans (by rw[List.drop_zero])
  ·intro self i x hx
   have hi:=(List.getElem?_eq_some_iff.1 hx).1;show Gi _ l (zF l.length) (i:Int)=_;unfold Gi;rw[if_pos (cu.2 (by rw[ay];omega)),fI hx,zD,qI (hw x (zY hx)),zD,iD (by omega)];cases fD x<;>rfl
  ·intro self
   show Gi _ l (zF l.length) (l.length:Int)=_;unfold Gi;rw[if_neg (fun h=>by have:=cu.1 h;rw[ay]at this;omega)]
 ·rw[if_pos (gq.2 (by rw[ay];omega)),decide_eq_false h8]
  rfl
structure SzT(t:TTk):Prop where
 w:t.1.2.2.2.2.2.1.2.2.2.2.1.length≤1000000
 b:t.1.2.2.2.2.2.1.2.2.2.2.2.length≤1000000
 l:t.2.2.2.1.length≤1000000
 k:∀b∈t.2.2.2.1,b.2.length≤1000000
theorem OkT.sz{t:TTk}(h:OkT t):SzT t:=⟨by have:=h.p.a.lw;omega,by have:=h.p.a.lb;omega,by have:=h.bl;omega,fun b hb=>by have:=Bg (h.bf b hb).1;omega⟩
theorem Ir{t:TTk}(h:SzT t):C5 (t,())=some (t,()):=by show acK t=_;unfold acK;rw[mX h.w,zD,AY h.b,zD,Jc h.l h.k];rfl
def anb(t:TTk):Prop:=t.2.2.2.2.2.1≠0∧(t.2.2.2.2.2.1=2->p8 t=true)
theorem Jd{t:TTk}(h:OkT t)(hh:p8 t=true):∃b,t.2.2.2.1[t.2.2.2.2.2.2.1.toNat]? = some b∧oP t=iA t.2.1 t.2.2.1 t.2.2.2.2.2.2.1 b∧fD b=true∧∀y∈b.2,0≤y∧y≤65535:=by have hn:=h.n;have:=of_decide_eq_true hh;obtain⟨b,hb⟩:=fU (xs:=t.2.2.2.1) (i:=t.2.2.2.2.2.2.1.toNat) (by omega);obtain⟨h1,h2⟩:=h.bf b (zY hb);exact⟨b,hb,by unfold oP;rw[hb],h1,h2⟩
theorem D6{o tx n:Int}{x:bn}(ho:0≤o∧o≤65535)(ht:0≤tx∧tx≤4294967295)(hn:0≤n∧n≤7)(hw:∀w∈x.2,0≤w∧w≤65535):∀w∈iA o tx n x,0≤w∧w≤65535:=by
 intro w hm;unfold iA at hm;simp only[List.mem_cons]at hm;rcases hm with rfl | rfl | rfl | rfl | hm
 ·exact ho
 ·omega
 ·omega
 ·omega
 ·exact QG (fun _=>hw) w hm
theorem qL{t:TTk}(h:OkT t):OkA (iB t):=by
 have hn:=h.n;have hl:=h.bl;unfold iB;split
 ·exact (nY (jY h (by decide))).1
 ·split
  ·split
   ·rename_i hh
    obtain⟨b,_,h2,h3,h4⟩:=Jd h hh;have:=of_decide_eq_true hh;have ho:=h.o;rw[h2];exact (Iq oO (D6 (by omega) h.x (by omega) h4)).1
   ·exact yu
  ·split
   ·exact (ES (by omega) (by decide)).1
   ·split
    ·exact (nY (jY h (by decide))).1
    ·split
     ·exact (nY (jY h (by decide))).1
     ·split
      ·exact (nY (jY h (by decide))).1
      ·split
       ·exact (ES (by decide) (by decide)).1
       ·exact yu
theorem jW{t:TTk}(h:OkT t)(hg:anb t):iq (iB t)=true:=by
 have hn:=h.n;have hl:=h.bl;have ha:=h.at';have h0:=hg.1;unfold iB;split
 ·exact (nY (jY h (by decide))).2.1
 ·split
  ·rename_i h2
   rw[if_pos (hg.2 h2)];obtain⟨b,_,h2,h3,h4⟩:=Jd h (hg.2 h2);have:=of_decide_eq_true (hg.2 (by assumption));have ho:=h.o;rw[h2];exact (Iq oO (D6 (by omega) h.x (by omega) h4)).2.1
  ·split
   ·exact (ES (by omega) (by decide)).2
   ·split
    ·exact (nY (jY h (by decide))).2.1
    ·split
     ·exact (nY (jY h (by decide))).2.1
     ·split
      ·exact (nY (jY h (by decide))).2.1
      ·split
       ·exact (ES (by decide) (by decide)).2
       ·omega
def eZ(t:TTk):TTk×List Int:=if t.1.2.2.2.2.1=true then (t,[]) else if iq (iB t)=true then ((sG (oI t.1 (iB t)),t.2),yc (oI t.1 (iB t))) else (t,[])
theorem O4{t:TTk}(h:OkT t):xS (t,())=some ((eZ t).1,(eZ t).2,()):=by
 show UK ae2 t=_;unfold UK eZ;rw[YX h,zD,qB (eqAs_refl _)];dsimp only;rw[zD,qB (eqAs_refl _),aor h.p (qL h)];split
 ·rfl
 ·split
  ·rfl
  ·rfl
def firstT(g:Int):Int:=if g=1 then 1 else if g=2 then 5 else if g=3 then 6 else 0
def jy(t:TTk)(g tx:Int)(l:List bn):TTk:=(lI t.1,t.2.1,tx,if g=1 then l else [],g,firstT g,0,0,0)
def jA(t:TTk)(g tx:Int)(l:List bn):TTk×List Int×Int :=
 if ¬ (1≤g∧g≤3)∨tx=0 then (t,[],2) else if g=1∧oz l=false then (t,[],20) else ((eZ (jy t g tx l)).1,(eZ (jy t g tx l)).2,0)
theorem Je{t:TTk}(h:OkT t){g tx:Int}{l:List bn}(hx:0≤tx∧tx≤4294967295)(hl:g=1->oz l=true)(hw:∀b∈l,∀y∈b.2,0≤y∧y≤65535):OkT (jy t g tx l):=by
 refine⟨⟨h.p.u0,h.p.u1,h.p.l,h.p.t0,h.p.t1,h.p.r0,h.p.r1,yu,h.p.x0,h.p.x1⟩,h.o,hx,?_,?_,?_,?_,(by decide:(0:Int)≤0),fun _=>(by decide:(0:Int)≤8)⟩
 ·show (if g=1 then l else []).length≤8
  split
  ·rename_i e
   have:=hl e;unfold oz at this;simp only[zO,decide_eq_true_eq]at this;exact this.1
  ·decide
 ·show ∀b∈(if g=1 then l else []),_
  split
  ·rename_i e
   have:=hl e;unfold oz at this;simp only[zO,List.all_eq_true]at this;exact fun b hb=>⟨this.2 b hb,hw b hb⟩
  ·intro b hb;cases hb
 ·show 0≤firstT g∧firstT g≤7
  unfold firstT;split
  ·decide
  ·split
   ·decide
   ·split<;>decide
 ·exact⟨(by decide:(0:Int)≤0),by show (0:Int)≤((if g=1 then l else []).length:Int);omega⟩
theorem start_eq{t:TTk}(h:OkT t){g tx:Int}{l:List bn}(hx:0≤tx∧tx≤4294967295)(hl:l.length≤1000000)(hk:∀b∈l,b.2.length≤1000000)(hw:∀b∈l,∀y∈b.2,0≤y∧y≤65535) :
  rJ (t,g,tx,l,())=some ((jA t g tx l).1,(jA t g tx l).2.1,(jA t g tx l).2.2,()):=by
 show UT UU t g tx l=_;unfold UT jA;have k1:∀(g l a z),UU g tx l a true t z=some (t,[],2,()):=fun g l a z=>by show Gj MK g tx l a true t z=_;unfold Gj;rw[if_pos rfl,Ir h.sz];rfl
 have hf:UL (g,())=some (firstT g,decide (1≤g∧g≤3),()):=by
  show ae4 g=_;unfold ae4 firstT;by_cases h1:g=1
  ·subst h1;rfl
  ·rw[if_neg (fun e=>h1 (dw.1 e)),if_neg h1]
   by_cases h2:g=2
   ·subst h2;rfl
   ·rw[if_neg (fun e=>h2 (dw.1 e)),if_neg h2]
    by_cases h3:g=3
    ·subst h3;rfl
    ·rw[if_neg (fun e=>h3 (dw.1 e)),if_neg h3,decide_eq_false (by omega)]
 rw[hf,zD];by_cases hg:1≤g∧g≤3
 ·rw[decide_eq_true hg]
  by_cases h0:tx=0
  ·rw[if_neg (by simp),show eqi tx 0=true from dw.2 h0,k1,if_pos (.inr h0)]
  ·rw[if_neg (by simp),show eqi tx 0=false from by rw[<- Bool.not_eq_true,dw];exact h0,if_neg (fun e=>e.elim (fun e=>e hg) h0)]
   have k2:∀(l':List bn) z,l'=(if g=1 then l else [])->MK g tx l' (firstT g) t z=some (if g=1∧oz l=false then (t,[],20,()) else ((eZ (jy t g tx l)).1,(eZ (jy t g tx l)).2,0,())):=fun l' z el=>by
    have hl':l'.length≤1000000:=by
     rw[el];split
     ·exact hl
     ·exact Nat.zero_le _
    have hk':∀b∈l',b.2.length≤1000000:=by
     rw[el];split
     ·exact hk
     ·intro b hb;cases hb
    show US g tx l' (firstT g) t z=_;unfold US;rw[arp hl' hk',zD];by_cases hc:g=1∧oz l=false
    ·have:oz l'=false:=by rw[el,if_pos hc.1];exact hc.2
     rw[this,if_pos (by decide),if_pos hc,Ir h.sz];rfl
    ·have:oz l'=true:=by
      rw[el];by_cases e:g=1
      ·rw[if_pos e]
       cases hfl:oz l with
       | true=>rfl
       | false=>exact absurd ⟨e,hfl⟩ hc
      ·rw[if_neg e];rfl
     have ok:=Je h (g:=g) hx (l:=l) (fun e=>by rw[el,if_pos e]at this;exact this) hw;rw[this,if_neg (by decide),if_neg hc,drop_eq,zD,Jc hl' hk',zD];show (zC (xS ((lI t.1,t.2.1,tx,l',g,firstT g,0,0,0),())) fun y=>some (y.1,y.2.1,0,()))=_;rw[el];show (zC (xS (jy t g tx l,())) fun y=>some (y.1,y.2.1,0,()))=_;rw[O4 ok];rfl
   show Gj MK g tx l (firstT g) false t _=_;unfold Gj;rw[if_neg (by decide)];by_cases e:g=1
   ·rw[if_neg (fun h=>fo.1 h e),k2 l _ (by rw[if_pos e])]
    split<;>rfl
   ·rw[if_pos (fo.2 e),k2 [] _ (by rw[if_neg e])]
    split<;>rfl
 ·rw[decide_eq_false hg,if_pos (by simp),k1,if_pos (.inl hg)]
def uK(t:TTk)(f:List Int):TTk×List Int:=match qP t.1 f with
 | none=>(t,[])
 | some r=>if (gQ (lI t.1,t.2) r).2.2.2.2.2.1=0 then (gQ (lI t.1,t.2) r,[]) else eZ (gQ (lI t.1,t.2) r)
theorem OkT.drop{t:TTk}(h:OkT t):OkT (lI t.1,t.2) :=
 ⟨⟨h.p.u0,h.p.u1,h.p.l,h.p.t0,h.p.t1,h.p.r0,h.p.r1,yu,h.p.x0,h.p.x1⟩,h.o,h.x,h.bl,h.bf,h.at',h.n,h.tr⟩
theorem akL{t:TTk}(h:OkT t){f:List Int}(hf:∀x∈f,0≤x∧x≤255)(hl:f.length≤100000)(hr:∀r,qP t.1 f=some r->(∀x∈r.2.2.2.1,0≤x∧x≤65535)∧r.2.2.2.1.length≤1000000) :
  vP (t,f,())=some ((uK t f).1,(uK t f).2,()):=by
 show agT t f=_;unfold agT uK;rw[Ir h.sz,zD,aos h.p hl hf]
 cases hv:qP t.1 f with
 | none=>rfl
 | some r =>
  obtain⟨h1,h2⟩:=hr r hv;show (zC (VW ((lI t.1,t.2),r,())) fun y=>if eqi y.1.2.2.2.2.2.1 0=true then some (y.1,[],()) else zC (xS (y.1,())) fun y=>some (y.1,y.2.1,()))=_;rw[aaN h.drop h1 h2,zD];dsimp only;by_cases e:(gQ (lI t.1,t.2) r).2.2.2.2.2.1=0
  ·rw[if_pos (dw.2 e),if_pos e]
  ·rw[if_neg (fun h=>e (dw.1 h)),if_neg e,O4 (h.drop.eff r)]
   rfl
abbrev jP:=List (Bool×List Int)
theorem iM{s:TSl}(h:OkS s):iZ s=s:=by have h1:=h.a.sz.hv;have h2:=h.a.sz.bs;unfold iZ;rw[QF h1 h2]
def nQ(w:jP)(m:Bool)(b:List Int):jP:=if 0<b.length∧w.length<12 then w++[(m,b)] else w
theorem O5{b:List Int}{t:TTk}{s:TSl}(hs:OkS s)(x g:Int)(pl:List (List bn))(w:jP):FY (b,t,s,x,g,pl,w,())=some (t,s,x,g,pl,nQ w false b,()):=by
 show S9 LD b t s x g pl w=_;unfold S9 nQ;have k1:LD b true (t,s,(),x,g,pl) w=need (small (w.length+1)) (some (t,s,x,g,pl,w++[(false,b)],())):=by show FX b true (t,s,(),x,g,pl) w=_;unfold FX;rw[if_pos rfl,iM hs]
 have k0:LD b false (t,s,(),x,g,pl) w=some (t,s,x,g,pl,w,()):=by show FX b false (t,s,(),x,g,pl) w=_;unfold FX;rw[if_neg (by decide),iM hs]
 by_cases h1:0<b.length
 ·rw[if_pos (gq.2 (by rw[ay];omega))]
  by_cases h2:w.length<12
  ·rw[show lt (zF w.length) 12=true from cu.2 (by rw[ay];omega),k1,iT (by omega),if_pos ⟨h1,h2⟩]
  ·rw[show lt (zF w.length) 12=false from by rw[<- Bool.not_eq_true,cu,ay];omega,k0,if_neg (fun h=>h2 h.2)]
 ·rw[if_neg (fun h=>h1 (by have:=gq.1 h;rw[ay]at this;omega)),k0,if_neg (fun h=>h1 h.1)]
def jl(m:Bool×List Int)(t:TTk)(s:TSl)(w:jP):TTk×TSl×jP :=
 if m.1=true then ((uK t m.2).1,s,nQ w false (uK t m.2).2) else (t,(qR s m.2).1,nQ w true (qR s m.2).2)
structure OkM(t:TTk) (m:Bool×List Int):Prop where
 b:∀x∈m.2,0≤x∧x≤255
 l:m.2.length≤100000
 r:m.1=true->∀r,qP t.1 m.2=some r->(∀x∈r.2.2.2.1,0≤x∧x≤65535)∧r.2.2.2.1.length≤1000000
theorem akM{m:Bool×List Int}{t:TTk}{s:TSl}(ht:OkT t)(hs:OkS s)(hm:OkM t m)(x g:Int)(pl:List (List bn))(w:jP) :
  DK (m,t,s,x,g,pl,w,())=some ((jl m t s w).1,(jl m t s w).2.1,x,g,pl,(jl m t s w).2.2,()):=by
 show Yk Yl Ym m t s x g pl w=_;unfold Yk jl;have k1:∀b (o:jP) (t':TTk),Yl b (t,s,(),x,g,pl) o t'=some (t',s,x,g,pl,nQ o false b,()):=fun b o t'=>by show Yi b (t,s,(),x,g,pl) o t'=_;unfold Yi;rw[iM hs,O5 hs,zD];dsimp only;rw[iM hs]
 have k2:∀b (o:jP) (s':TSl),OkS s'->Ym 0 b (t,s,(),x,g,pl) o [s']=some (t,s',x,g,pl,nQ o true b,()):=fun b o s' hs'=>by
  have k3:AJ b true (t,s',(),x,g,pl) o=need (small (o.length+1)) (some (t,s',x,g,pl,o++[(true,b)],())):=by show HV b true (t,s',(),x,g,pl) o=_;unfold HV;rw[if_pos rfl,iM hs']
  have k4:AJ b false (t,s',(),x,g,pl) o=some (t,s',x,g,pl,o,()):=by show HV b false (t,s',(),x,g,pl) o=_;unfold HV;rw[if_neg (by decide),iM hs']
  show Yj AJ 0 b (t,s,(),x,g,pl) o [s']=_;unfold Yj nQ;rw[iG,zD];by_cases h1:0<b.length
  ·rw[if_pos (gq.2 (by rw[ay];omega))]
   by_cases h2:o.length<12
   ·rw[show lt (zF o.length) 12=true from cu.2 (by rw[ay];omega)]
    show AJ b true (t,s',(),x,g,pl) o=_;rw[k3,iT (by omega),if_pos ⟨h1,h2⟩]
   ·rw[show lt (zF o.length) 12=false from by rw[<- Bool.not_eq_true,cu,ay];omega]
    show AJ b false (t,s',(),x,g,pl) o=_;rw[k4,if_neg (fun h=>h2 h.2)]
  ·rw[if_neg (fun h=>h1 (by have:=gq.1 h;rw[ay]at this;omega))]
   show AJ b false (t,s',(),x,g,pl) o=_;rw[k4,if_neg (fun h=>h1 h.1)]
 by_cases h1:m.1=true
 ·rw[if_pos h1,if_pos h1,qB (eqAs_refl _),akL ht hm.b hm.l (hm.r h1),zD]
  exact k1 _ _ _
 ·rw[if_neg h1,if_neg h1,qB (eqAs_refl _),iM hs,akE hs hm.b hm.l,zD]
  exact k2 _ _ _ (OY hs hm.b)
theorem yL{r:TR}(hr:RR r):∀y∈jN r,0≤y∧y≤255:=by
 have app:∀{l r:List Int},(∀y∈l,0≤y∧y≤255)->(∀y∈r,0≤y∧y≤255)->∀y∈l++r,0≤y∧y≤255:=fun h1 h2 y hy=>by
  rcases List.mem_append.1 hy with h | h
  ·exact h1 y h
  ·exact h2 y h
 have con:∀{x:Int} {r:List Int},(0≤x∧x≤255)->(∀y∈r,0≤y∧y≤255)->∀y∈x::r,0≤y∧y≤255:=fun h1 h2 y hy=>by
  rcases List.mem_cons.1 hy with h | h
  ·subst h;exact h1
  ·exact h2 y h
 have nil:∀y∈([]:List Int),0≤y∧y≤255:=fun y hy=>by cases hy
 cases hr with
 | ex f e h0 h h1 h2 =>
  have ea:add .u8 f 128=f+128:=wu8 (by omega) (by omega);unfold jN;rw[if_pos (by rw[fo];show e≠0;omega)];unfold exB;dsimp only;rw[ea];exact con (by omega) (con (by omega) nil)
 | bits f l hf h1 h2 h3 =>
  have e:jN (f,0,l,[],0,0)=f::(fu l.length:Int)%256::gK l:=by rcases hf with rfl | rfl<;>rfl
  rw[e];exact con (by omega) (con (by omega) (EJ l))
 | words f l hf h1 h2 =>
  have e:jN (f,0,[],l,0,0)=f::2*(l.length:Int)%256::l.flatMap two:=by rcases hf with rfl | rfl | rfl<;>rfl
  rw[e];exact con (by omega) (con (by omega) (sJ l))
 | coil b p =>
  show ∀y∈(5:Int)::two p++two (if b=true then 65280 else 0),0≤y∧y≤255;exact app (con (by decide) (kN p)) (kN _)
 | word x p =>
  show ∀y∈(6:Int)::two p++two x,0≤y∧y≤255;exact app (con (by decide) (kN p)) (kN _)
 | coils p n h1 h2 =>
  show ∀y∈(15:Int)::two p++two n,0≤y∧y≤255;exact app (con (by decide) (kN p)) (kN _)
 | regs p n h1 h2 =>
  show ∀y∈(16:Int)::two p++two n,0≤y∧y≤255;exact app (con (by decide) (kN p)) (kN _)
theorem aaO{tx unit:Int}{pdu:List Int}(h1:1≤pdu.length)(h2:pdu.length≤253)(ht:0≤tx)(ht2:tx≤65535)(hu:0≤unit)(hu2:unit≤255)(hb:∀y∈pdu,0≤y∧y≤255):fC (jJ tx unit pdu)=((tx,unit,pdu),0):=by
 have h:=azr h1 h2 ht ht2 hu hu2 hb
 have hall:∀y∈jJ tx unit pdu,0≤y∧y≤255:=by
  intro y hy;unfold jJ at hy;rcases List.mem_append.1 hy with h | h
  ·simp at h
   rcases h with rfl | rfl | rfl | rfl | rfl<;>omega
  ·exact hb y h
 rw[uX (by simp[jJ];omega) hall]at h;have h:=Option.some.inj h;have e1:=congrArg (·.1) h;have e2:=congrArg (·.2.1) h;exact Prod.ext e1 e2
theorem anc{unit:Int}{pdu:List Int}(h1:1≤pdu.length)(h2:pdu.length≤253)(hu:1≤unit)(hu2:unit≤247):gF (jT (unit::pdu))=(unit,pdu,0):=by have h:=azs h1 h2 hu hu2;rw[BX]at h;have h:=Option.some.inj h;exact Prod.ext (congrArg (·.1) h) (Prod.ext (congrArg (·.2.1) h) (congrArg (·.2.2.1) h))
def kZ(l u x:Int)(r:TR):List Int:=if l=2 then jJ x u (jN r) else jT (u::jN r)
theorem akN{s:TSl}{a:TA}(ha:OkA a)(hr:iq a=true)(hu:1≤s.1∧s.1≤247){x:Int}(hx:0≤x∧x≤65535):qR s (qY s.2.1 s.1 x a)=((fV s a).1,kZ s.2.1 s.1 x (fV s a).2):=by
 have hl:=uq (lS hr);have hb:=yw (lS hr);unfold qR qY kZ;by_cases h2:s.2.1=2
 ·simp only[if_pos h2]
  rw[aaO (by omega) hl.2 hx.1 hx.2 (by omega) (by omega) hb];dsimp only;rw[if_neg (by simp),OV ha hr]
 ·simp only[if_neg h2]
  rw[anc (by omega) hl.2 hu.1 hu.2];dsimp only;rw[if_neg (by simp),OV ha hr]
theorem akO{q:TP}{r:TR}(h:Rep r)(hq:OkP q):sH q (kZ q.2.1 q.1 q.2.2.2.2.2.2.1 r)=some r:=by
 have hlen:=DT h.rr;have hu:=hq.u0;have hu2:=hq.u1;have hpr:=Pv h.ok h.rr h.rt;unfold sH kZ;by_cases h2:q.2.1=2
 ·simp only[if_pos h2]
  unfold A8;rw[aaO (by omega) hlen.2 hq.x0 hq.x1 (by omega) (by omega) (yL h.rr)];dsimp only;rw[hpr,if_neg (by decide),if_neg (fun e=>e rfl),if_neg (fun e=>e rfl),if_neg (by show ¬ (0:Int)≠0;decide)]
 ·simp only[if_neg h2]
  unfold A7;rw[anc (by omega) hlen.2 hu hu2];dsimp only;rw[hpr,if_neg (by decide),if_neg (fun e=>e rfl),if_neg (by show ¬ (0:Int)≠0;decide)]
theorem O6{q:TP}{r:TR}(h:Rep r)(hq:OkP q)(hw:q.2.2.2.2.1=true)(hf:mD q.2.2.2.2.2.1 r=true):qP q (kZ q.2.1 q.1 q.2.2.2.2.2.2.1 r)=some r:=by unfold qP;rw[if_pos hw,akO h hq,zD,if_pos hf]
def goodX(t:TTk):Prop:=t.2.2.2.2.2.1≠0∧(t.2.2.2.2.2.1=2∨t.2.2.2.2.2.1=3->p8 t=true)
theorem goodX.good{t:TTk}(h:goodX t):anb t:=⟨h.1,fun e=>h.2 (.inl e)⟩
theorem uL{t:TTk}{k:Int}(h0:k≠0)(h2:k=2∨k=3->p8 t=true):goodX (toT t k):=⟨h0,h2⟩
theorem ET(t:TTk):goodX (kK t):=by
 unfold kK;split
 ·exact uL (by decide) (fun e=>by omega)
 ·rename_i h
  exact uL (by decide) (fun _=>decide_eq_true (by omega))
theorem Cn{t:TTk}{k:Int}(h0:k≠0)(h2:k=2∨k=3->p8 t=true)(h:(iV t k).2.2.2.2.2.1≠0):goodX (iV t k):=by
 unfold iV at h ⊢;split
 ·rename_i h8
  rw[if_pos h8]at h;exact absurd rfl h
 ·exact uL h0 h2
theorem aaP{t:TTk}{r:TR}(hg:goodX t)(ha:0≤t.2.2.2.2.2.1∧t.2.2.2.2.2.1≤7)(h:(gQ t r).2.2.2.2.2.1≠0):goodX (gQ t r):=by
 have E:∀{s},(jD t s).2.2.2.2.2.1≠0->goodX (jD t s):=fun h=>absurd rfl h;have hc:t.2.2.2.2.2.1=1∨t.2.2.2.2.2.1=2∨t.2.2.2.2.2.1=3∨t.2.2.2.2.2.1=4∨t.2.2.2.2.2.1=5∨t.2.2.2.2.2.1=6∨t.2.2.2.2.2.1=7:=by have:=hg.1;omega
 have T:∀{k:Int},4≤k->goodX (toT t k):=fun hk=>uL (by omega) (fun e=>by omega);have A:∀{k:Int},k=1∨k=4->(iV t k).2.2.2.2.2.1≠0->goodX (iV t k):=fun hk=>Cn (by omega) (fun e=>by omega);rcases hc with e | e | e | e | e | e | e
 ·rw[akH e]at h ⊢
  cases hr:iy r with
  | none=>rw[hr]at h;exact E h
  | some s =>
   rw[hr]at h;dsimp only at h ⊢;split
   ·rename_i q
    rw[if_pos q]at h;exact E h
   ·rename_i q
    rw[if_neg q]at h;split
    ·exact ET _
    ·rename_i q
     rw[if_neg q]at h;exact A (.inl rfl) h
 ·rw[akI e]at h ⊢
  split
  ·rename_i q
   rw[if_pos q]at h;exact E h
  ·exact uL (by decide) (fun _=>hg.2 (.inl e))
 ·rw[akJ e]at h ⊢
  split
  ·exact ET _
  ·rename_i q
   rw[if_neg q]at h;exact Cn (by decide) (fun _=>hg.2 (.inr e)) h
 ·rw[akK e]at h ⊢
  cases hr:iy r with
  | none=>rw[hr]at h;exact E h
  | some s =>
   rw[hr]at h;dsimp only at h ⊢;split
   ·rename_i q
    rw[if_pos q]at h;exact E h
   ·rename_i q
    rw[if_neg q]at h;exact A (.inr rfl) h
 ·unfold gQ at h ⊢
  rw[e]at h ⊢;simp only[show ¬ (5:Int)=1 by decide,show ¬ (5:Int)=2 by decide,show ¬ (5:Int)=3 by decide,show ¬ (5:Int)=4 by decide,if_false,if_true]at h ⊢
  cases hr:iy r with
  | none=>exact T (by decide)
  | some s =>
   rw[hr]at h;dsimp only at h ⊢;split
   ·rename_i q
    rw[if_pos q]at h;exact E h
   ·exact T (by decide)
 ·unfold gQ at h ⊢
  rw[e]at h ⊢;simp only[show ¬ (6:Int)=1 by decide,show ¬ (6:Int)=2 by decide,show ¬ (6:Int)=3 by decide,show ¬ (6:Int)=4 by decide,show ¬ (6:Int)=5 by decide,if_false,if_true]at h ⊢
  cases hr:iy r with
  | none=>exact T (by decide)
  | some s =>
   rw[hr]at h;dsimp only at h ⊢;split
   ·exact T (by decide)
   ·rename_i q
    rw[if_neg q]at h;exact E h
 ·unfold gQ at h ⊢
  rw[e]at h ⊢;simp only[show ¬ (7:Int)=1 by decide,show ¬ (7:Int)=2 by decide,show ¬ (7:Int)=3 by decide,show ¬ (7:Int)=4 by decide,show ¬ (7:Int)=5 by decide,show ¬ (7:Int)=6 by decide,if_false,if_true]at h ⊢;split
  ·rename_i q
   rw[if_pos q]at h
   cases hr:iy r with
   | none=>exact T (by decide)
   | some s =>
    rw[hr]at h;dsimp only at h ⊢;split
    ·rename_i q
     rw[if_pos q]at h;exact E h
    ·exact T (by decide)
  ·rename_i q
   rw[if_neg q]at h
   cases hr:iy r with
   | none=>exact T (by decide)
   | some s =>
    rw[hr]at h;dsimp only at h ⊢;split
    ·exact T (by decide)
    ·rename_i q
     rw[if_neg q]at h;exact E h
def lg(p:TP):TP:=(p.1,p.2.1,p.2.2.1,p.2.2.2.1,false,zA,kT p.2.1 p.2.2.2.2.2.2.1,0,0)
structure OkX(t:TTk) (s:TSl):Prop where
 kt:OkT t
 ks:OkS s
 g:goodX t
 w:t.1.2.2.2.2.1=false
 u:s.1=t.1.1
 l:s.2.1=t.1.2.1
def gG(t:TTk)(s:TSl):TTk:=gQ (lg t.1,t.2) (fV s (iB t)).2
def slX(t:TTk)(s:TSl):TSl:=(fV s (iB t)).1
theorem uM{t:TTk}{s:TSl}(h:OkX t s):eZ t=((sG (oI t.1 (iB t)),t.2),qY s.2.1 s.1 (kT s.2.1 t.1.2.2.2.2.2.2.1) (iB t)):=by unfold eZ;rw[if_neg (by rw[h.w];decide),if_pos (jW h.kt h.g.good),h.u,h.l];rfl
theorem akP{t:TTk}{s:TSl}(h:OkX t s):qR s (eZ t).2=(slX t s,kZ s.2.1 s.1 (kT s.2.1 t.1.2.2.2.2.2.2.1) (fV s (iB t)).2):=by have hx:=qZ s.2.1 h.kt.p.x0 h.kt.p.x1;have h0:=h.kt.p.u0;have h1:=h.kt.p.u1;have hu:=h.u;rw[uM h];exact akN (qL h.kt) (jW h.kt h.g.good) (by omega) hx
theorem akQ{t:TTk}{s:TSl}(h:OkX t s):uK (eZ t).1 (kZ s.2.1 s.1 (kT s.2.1 t.1.2.2.2.2.2.2.1) (fV s (iB t)).2)=if (gG t s).2.2.2.2.2.1=0 then (gG t s,[]) else eZ (gG t s):=by have hx:=qZ t.1.2.1 h.kt.p.x0 h.kt.p.x1;have ha:=qL h.kt;have hr:=jW h.kt h.g.good;have hp:OkP (sG (oI t.1 (iB t))):=⟨h.kt.p.u0,h.kt.p.u1,h.kt.p.l,h.kt.p.t0,h.kt.p.t1,h.kt.p.r0,h.kt.p.r1,ha,hx.1,hx.2⟩;have e:=O6 (rD h.ks ha hr) hp rfl (I9 h.ks ha hr);rw[uM h,h.u,h.l];unfold uK;dsimp only;have e2:qP (sG (oI t.1 (iB t))) (kZ t.1.2.1 t.1.1 (kT t.1.2.1 t.1.2.2.2.2.2.2.1) (fV s (iB t)).2)=some (fV s (iB t)).2:=e;rw[e2];rfl
theorem aaQ(p:TP)(c:_)(r:TR):(gQ (lg p,c) r).1=lg p:=by
 unfold gQ kK iV
 repeat' split
 all_goals rfl
theorem EU(s:TSl)(a:TA):(fV s a).1.1=s.1∧(fV s a).1.2.1=s.2.1:=by
 unfold fV
 repeat' split
 all_goals exact⟨rfl,rfl⟩
theorem OkX.kt'{t:TTk}{s:TSl}(h:OkX t s):OkT (gG t s):=by have hx:=qZ t.1.2.1 h.kt.p.x0 h.kt.p.x1;have ok:OkT (lg t.1,t.2):=⟨⟨h.kt.p.u0,h.kt.p.u1,h.kt.p.l,h.kt.p.t0,h.kt.p.t1,h.kt.p.r0,h.kt.p.r1,yu,hx.1,hx.2⟩,h.kt.o,h.kt.x,h.kt.bl,h.kt.bf,h.kt.at',h.kt.n,h.kt.tr⟩;exact ok.eff _
theorem OkX.ks'{t:TTk}{s:TSl}(h:OkX t s):OkS (slX t s):=uG h.ks (qL h.kt) (jW h.kt h.g.good)
theorem OkX.next{t:TTk}{s:TSl}(h:OkX t s)(h0:(gG t s).2.2.2.2.2.1≠0):OkX (gG t s) (slX t s):=by
 have e:(gG t s).1=lg t.1:=aaQ _ _ _;have l:=EU s (iB t);refine⟨h.kt',h.ks',aaP h.g h.kt.at' h0,by rw[e];rfl,?_,?_⟩
 ·rw[e]
  exact l.1.trans h.u
 ·rw[e]
  exact l.2.trans h.l
def nZ:Nat->TTk->TSl->jP->TTk×TSl×jP
 | 0,t,s,w=>(t,s,w)
 | _+1,t,s,[]=>(t,s,[])
 | n+1,t,s,m::w=>nZ n (jl m t s w).1 (jl m t s w).2.1 (jl m t s w).2.2
theorem aaR(n:Nat)(t:TTk)(s:TSl):nZ n t s []=(t,s,[]):=by cases n<;>rfl
def oQ:Nat->TTk->TSl->Option (TTk×TSl)
 | 0,_,_=>none
 | n+1,t,s=>if (gG t s).2.2.2.2.2.1=0 then some (gG t s,slX t s) else oQ n (gG t s) (slX t s)
theorem Bh{t:TTk}{s:TSl}(h:OkX t s):8≤(eZ t).2.length∧(eZ t).2.length≤260:=by have:=Z5 (p:=oI t.1 (iB t)) (jW h.kt h.g.good);unfold eZ;rw[if_neg (by rw[h.w];decide),if_pos (jW h.kt h.g.good)];exact this
theorem Jf{l u x:Int}{r:TR}(h:RR r):1≤(kZ l u x r).length∧(kZ l u x r).length≤300:=by
 have:=DT h;unfold kZ;split
 ·simp[jJ];omega
 ·rw[yg];simp;omega
theorem O7{t:TTk}{s:TSl}(h:OkX t s):jl (false,(eZ t).2) (eZ t).1 s []=((eZ t).1,slX t s,[(true,kZ s.2.1 s.1 (kT s.2.1 t.1.2.2.2.2.2.2.1) (fV s (iB t)).2)]):=by have hr:=rD h.ks (qL h.kt) (jW h.kt h.g.good);unfold jl;rw[if_neg (by simp)];dsimp only;rw[akP h];unfold nQ;have hl:=Jf (l:=s.2.1) (u:=s.1) (x:=kT s.2.1 t.1.2.2.2.2.2.2.1) hr.rr;rw[if_pos ⟨hl.1,by decide⟩];rfl
theorem O8{t:TTk}{s:TSl}(h:OkX t s):jl (true,kZ s.2.1 s.1 (kT s.2.1 t.1.2.2.2.2.2.2.1) (fV s (iB t)).2) (eZ t).1 (slX t s) [] =
  if (gG t s).2.2.2.2.2.1=0 then (gG t s,slX t s,[]) else ((eZ (gG t s)).1,slX t s,[(false,(eZ (gG t s)).2)]):=by
 unfold jl;rw[if_pos rfl];dsimp only;rw[akQ h];split
 ·rfl
 ·rename_i h0
  have:=Bh (h.next h0);unfold nQ;rw[if_pos ⟨by omega,by decide⟩];rfl
theorem O9:∀{n m:Nat} {t:TTk} {s:TSl} {z:TTk×TSl},OkX t s->oQ n t s=some z->2*n≤m->nZ m (eZ t).1 s [(false,(eZ t).2)]=(z.1,z.2,[])
 | 0,_,_,_,_,_,h,_=>by cases h
 | n+1,m,t,s,z,hx,h,hm=>by
  obtain⟨k,rfl⟩:∃k,m=k+2:=⟨m - 2,by omega⟩;show nZ (k+1) (jl (false,(eZ t).2) (eZ t).1 s []).1 (jl (false,(eZ t).2) (eZ t).1 s []).2.1 (jl (false,(eZ t).2) (eZ t).1 s []).2.2=_;rw[O7 hx];show nZ k (jl (true,_) (eZ t).1 (slX t s) []).1 (jl (true,_) (eZ t).1 (slX t s) []).2.1 (jl (true,_) (eZ t).1 (slX t s) []).2.2=_;rw[O8 hx];unfold oQ at h;split at h
  ·rename_i h0
   rw[if_pos h0,aaR];cases h;rfl
  ·rename_i h0
   rw[if_neg h0];exact O9 (hx.next h0) h (by omega)
def JK:Nat->TTk->TSl->jP->Prop
 | 0,_,_,_=>True
 | _+1,_,_,[]=>True
 | n+1,t,s,m::w=>OkT t∧OkM t m∧JK n (jl m t s w).1 (jl m t s w).2.1 (jl m t s w).2.2
theorem akR{m:Bool×List Int}{t:TTk}{s:TSl}{w:jP}(hs:OkS s)(hm:OkM t m):OkS (jl m t s w).2.1:=by
 unfold jl;split
 ·exact hs
 ·exact OY hs hm.b
def azL(self:Int×Int×(TTk×TSl×Unit×Int×Int×List (List bn))×jP->Option (Bool×TTk×TSl×Int×Int×List (List bn)×jP×Unit))(st:Int×Int×(TTk×TSl×Unit×Int×Int×List (List bn))×jP) :=
 xZ H6 (fun t6 t7 p o=>self (t6,t7,p,o)) st.1 st.2.1 st.2.2.1 st.2.2.2
theorem Jg{N:Nat}(hN:N≤1000000)(x g:Int)(pl:List (List bn)):∀(k i n:Nat) (t:TTk) (s:TSl) (w:jP),i+k=N->k<n->OkS s->JK k t s w->w.length≤1000000 ->
  bu azL n ((N:Int),(i:Int),(t,s,(),x,g,pl),w)
   = some (eqi (zF (nZ k t s w).2.2.length) 0,(nZ k t s w).1,(nZ k t s w).2.1,x,g,pl,(nZ k t s w).2.2,())
 | _,_,0,_,_,_,_,h,_,_,_=>by omega
 | 0,i,n+1,t,s,w,h,_,hs,_,_=>by rw[jM];show xZ H6 _ (N:Int) (i:Int) (t,s,(),x,g,pl) w=_;unfold xZ;rw[if_neg (fun h=>by have:=cu.1 h;omega)];show Yr (t,s,(),x,g,pl) w=_;unfold Yr;rw[iM hs];rfl
 | k+1,i,n+1,t,s,[],h,_,hs,_,_=>by rw[jM];show xZ H6 _ (N:Int) (i:Int) (t,s,(),x,g,pl) []=_;unfold xZ;rw[if_pos (cu.2 (by omega)),if_pos (show eqi (zF ([]:jP).length) 0=true from rfl),iM hs];rfl
 | k+1,i,n+1,t,s,m::w,h,hn,hs,hr,hw=>by
  have hl:(m::w).length=w.length+1:=rfl;rw[hl]at hw;rw[jM];show xZ H6 _ (N:Int) (i:Int) (t,s,(),x,g,pl) (m::w)=_;unfold xZ
  have e:List.take (zI (zF (m::w).length - 1)) (List.drop 1 (m::w))=w:=by
   have:zI (zF (m::w).length - 1)=w.length:=by rw[hl,ay];omega
   rw[this];exact List.take_length
  rw[if_pos (cu.2 (by omega)),if_neg (fun e=>by have:=dw.1 e;rw[ay]at this;omega),iG,zD,zD,eu (gM.2 (by rw[ay];omega)),eu (gM.2 (Int.le_refl _)),eu (cu.2 (by rw[ay];omega)),e];dsimp only;rw[iM hs,akM hr.1 hs hr.2.1,zD,iD (by omega)];refine Jg hN x g pl k (i+1) n _ _ _ (by omega) (by omega) (akR hs hr.2.1) hr.2.2 ?_;unfold jl nQ
  repeat' split
  all_goals first | (dsimp only;omega) | (dsimp only;rw[zZ];have:∀z:Bool×List Int,[z].length=1:=fun _=>rfl;rw[this];omega)
theorem akS{N:Nat}(hN:N≤1000000){t:TTk}{s:TSl}{w:jP}(hs:OkS s)(hr:JK N t s w)(hw:w.length≤1000000)(x g:Int)(pl:List (List bn)) :
  AL ((N:Int),t,s,x,g,pl,w,())=some (eqi (zF (nZ N t s w).2.2.length) 0,(nZ N t s w).1,(nZ N t s w).2.1,x,g,pl,(nZ N t s w).2.2,()) :=
 Jg hN x g pl N 0 18446744073709551616 t s w (by omega) (by omega) hs hr hw
def EV(alt:Bool)(t:TTk)(x:Int):Option (Int×Int) :=
 if t.2.2.2.2.1=1∧t.2.2.2.2.2.2.2.2=1∧alt=false then some (2,x) else if t.2.2.2.2.1=1∧(alt=true∨t.2.2.2.2.2.2.2.2=2) then some (3,x) else if t.2.2.2.2.1≠0∧t.2.2.2.2.2.2.2.2=0 then none else some (1,x+1)
def fJ(pl:List (List bn))(y:Int):List bn:=pl.getD (y.toNat%pl.length) []
structure OkPl(pl:List (List bn)):Prop where
 l:pl.length≤1000000
 b:∀q∈pl,q.length≤1000000∧∀b∈q,b.2.length≤1000000∧∀y∈b.2,0≤y∧y≤65535
theorem Pb{pl:List (List bn)}(h:OkPl pl)(y:Int):(fJ pl y).length≤1000000∧∀b∈fJ pl y,b.2.length≤1000000∧∀z∈b.2,0≤z∧z≤65535:=by
 unfold fJ;rw[zX]
 cases e:pl[y.toNat%pl.length]? with
 | none=>exact⟨Nat.zero_le _,fun b hb=>by cases hb⟩
 | some q=>exact h.b q (zY e)
theorem akT{t:TTk}{s:TSl}(ht:OkT t)(hs:OkS s){k y:Int}(hy:0≤y∧y≤4294967295){pl:List (List bn)}(hp:OkPl pl)(x g:Int)(w:jP) :
  xU k y (t,s,(),x,g,pl) w=some (decide ((jA t k y (fJ pl y)).2.2=0),(jA t k y (fJ pl y)).1,s,y,if k=2 then y else g,pl,nQ w false (jA t k y (fJ pl y)).2.1,()):=by
 have k6:∀(b:List Int) (e:Int) g' (t':TTk),MN y b e (t,s,(),x,g',pl) w t'=some (eqi e 0,t',s,y,g',pl,nQ w false b,()):=fun b e g' t'=>by show UZ y b e (t,s,(),x,g',pl) w t'=_;unfold UZ;dsimp only;rw[iM hs,O5 hs,zD];dsimp only;rw[iM hs]
 have st:∀(l:List bn) (g':Int),l=fJ pl y->(zC (rJ (t,k,y,l,())) fun z=>MN y z.2.1 z.2.2.1 (t,s,(),x,g',pl) w z.1)=some (decide ((jA t k y (fJ pl y)).2.2=0),(jA t k y (fJ pl y)).1,s,y,g',pl,nQ w false (jA t k y (fJ pl y)).2.1,()):=fun l g' e=>by
  obtain⟨h1,h2⟩:=Pb hp y;rw[e,start_eq ht hy h1 (fun b hb=>(h2 b hb).1) (fun b hb=>(h2 b hb).2),zD];dsimp only;rw[k6];have:∀z:Int,eqi z 0=decide (z=0):=fun z=>by rw[Bool.eq_iff_iff,dw,decide_eq_true_iff]
  rw[this]
 have k4:∀g':Int,U1 k y (t,s,(),x,g',pl) w=some (decide ((jA t k y (fJ pl y)).2.2=0),(jA t k y (fJ pl y)).1,s,y,g',pl,nQ w false (jA t k y (fJ pl y)).2.1,()):=fun g'=>by
  show UX MN k y (t,s,(),x,g',pl) w=_;unfold UX;by_cases h0:pl.length=0
  ·have e0:eqi (zF pl.length) 0=true:=dw.2 (by rw[ay];omega)
   have:pl=[]:=List.length_eq_zero_iff.1 h0;simp only[e0,if_true];rw[qB (eqAs_refl _),qB (eqAs_refl _)];exact st [] g' (by rw[this];rfl)
  ·have e0:eqi (zF pl.length) 0=false:=by rw[<- Bool.not_eq_true,dw,ay];omega
   have hl:=hp.l;have er:rem (cvt .i64 y) (zF pl.length)=((y.toNat%pl.length:Nat):Int):=by obtain⟨n,rfl⟩:=zN hy.1;rw[iI (by omega) (by omega),ay];unfold rem;rw[kC (by omega),zQ];rfl
   have hlt:y.toNat%pl.length<pl.length:=Nat.mod_lt _ (by omega);obtain⟨q,hq⟩:=fU (xs:=pl) hlt;have ep:q=fJ pl y:=by unfold fJ;rw[zX,hq];rfl
   simp only[e0];rw[if_neg (by decide),if_neg (by decide),eu (by rw[fo,ay];omega),eu (by rw[fo,ay];omega),er,fI hq,zD,zD,qB (eqAs_refl _),qB (eqAs_refl _)];exact st q g' ep
 show UW U1 k y (t,s,(),x,g,pl) w=_;unfold UW;by_cases h2:k=2
 ·rw[if_pos (dw.2 h2),if_pos h2]
  exact k4 y
 ·rw[if_neg (fun e=>h2 (dw.1 e)),if_neg h2]
  exact k4 g
def Pd(alt:Bool)(t:TTk)(s:TSl)(x g:Int)(pl:List (List bn))(w:jP):Bool×TTk×TSl×Int×Int×List (List bn)×jP×Unit :=
 match EV alt t x with
 | none=>(true,t,s,x,g,pl,w,())
 | some (k,y)=>(decide ((jA t k y (fJ pl y)).2.2=0),(jA t k y (fJ pl y)).1,s,y,if k=2 then y else g,pl,nQ w false (jA t k y (fJ pl y)).2.1,())
theorem aaS{t:TTk}{s:TSl}(ht:OkT t)(hs:OkS s)(alt:Bool){x:Int}(hx:0≤x∧x≤1000000)(g:Int){pl:List (List bn)}(hp:OkPl pl)(w:jP) :
  vK (alt,t,s,x,g,pl,w,())=some (Pd alt t s x g pl w):=by
 have ea:add .u32 x 1=x+1:=aqP (by omega) (by omega);have go:=fun k y hy=>akT ht hs (k:=k) (y:=y) hy hp x g w;have K5:∀b,MO 1 (x+1) b (t,s,(),x,g,pl) w=if b=true then some (true,t,s,x,g,pl,w,()) else xU 1 (x+1) (t,s,(),x,g,pl) w:=fun b=>by show UY xU 1 (x+1) b (t,s,(),x,g,pl) w=_;unfold UY;rw[iM hs]
 have K3:∀b,Gl 1 (x+1) b (t,s,(),x,g,pl) w=if b=true then xU 3 x (t,s,(),x,g,pl) w else if nei t.2.2.2.2.1 0=true then MO 1 (x+1) (eqi t.2.2.2.2.2.2.2.2 0) (t,s,(),x,g,pl) w else MO 1 (x+1) false (t,s,(),x,g,pl) w:=fun b=>rfl;have K1:∀b,U2 alt 1 (x+1) b (t,s,(),x,g,pl) w=if b=true then xU 2 x (t,s,(),x,g,pl) w else if eqi t.2.2.2.2.1 1=true then (if alt=true then Gl 1 (x+1) true (t,s,(),x,g,pl) w else Gl 1 (x+1) (eqi t.2.2.2.2.2.2.2.2 2) (t,s,(),x,g,pl) w) else Gl 1 (x+1) false (t,s,(),x,g,pl) w:=fun b=>rfl;show U0 U2 alt t s x g pl w=_;unfold U0 Pd EV;rw[ea];simp only[K1,K3,K5,go 1 (x+1) (by omega),go 2 x (by omega),go 3 x (by omega)];generalize t.2.2.2.2.1=a;generalize t.2.2.2.2.2.2.2.2=c;have eq:∀p q:Int,(eqi p q=true)=(p=q):=fun p q=>propext dw;have ne:∀p q:Int,(nei p q=true)=(p≠q):=fun p q=>propext fo;cases alt<;>simp only[eq,ne,Bool.not_true,Bool.not_false,if_true,Bool.false_eq_true,if_false]<;>(by_cases h1:a=1<;>by_cases h2:c=1<;>by_cases h3:c=2<;>by_cases h4:c=0<;>by_cases h5:a=0<;>simp_all<;>omega)
theorem Cq{tx unit:Int}{pdu:List Int}(hu:0≤unit∧unit≤255)(hb:∀y∈pdu,0≤y∧y≤255):∀y∈jJ tx unit pdu,0≤y∧y≤255:=by
 intro y hy;unfold jJ at hy;rcases List.mem_append.1 hy with h | h
 ·simp at h
  rcases h with rfl | rfl | rfl | rfl | rfl<;>omega
 ·exact hb y h
theorem EW{b:List Int}(hb:∀y∈b,0≤y∧y≤255):∀y∈jT b,0≤y∧y≤255:=by
 have hs:=DN b;intro y hy;unfold jT at hy;rcases List.mem_append.1 hy with h | h
 ·exact hb y h
 ·simp at h
  rcases h with rfl | rfl<;>omega
theorem Jh{u:Int}{b:List Int}(hu:0≤u∧u≤255)(hb:∀y∈b,0≤y∧y≤255):∀y∈u::b,0≤y∧y≤255:=by
 intro y hy;rcases List.mem_cons.1 hy with h | h
 ·exact h ▸ hu
 ·exact hb y h
theorem PG{l u x:Int}{r:TR}(hr:RR r)(hu:0≤u∧u≤255):∀y∈kZ l u x r,0≤y∧y≤255:=by
 unfold kZ;split
 ·exact Cq hu (yL hr)
 ·exact EW (Jh hu (yL hr))
theorem Pe{l u x:Int}{a:TA}(hr:RA a)(hu:0≤u∧u≤255):∀y∈qY l u x a,0≤y∧y≤255:=by
 unfold qY;split
 ·exact Cq hu (yw hr)
 ·exact EW (Jh hu (yw hr))
theorem Pf{t:TTk}{s:TSl}(h:OkX t s):OkT (eZ t).1:=by have hx:=qZ t.1.2.1 h.kt.p.x0 h.kt.p.x1;rw[uM h];exact⟨⟨h.kt.p.u0,h.kt.p.u1,h.kt.p.l,h.kt.p.t0,h.kt.p.t1,h.kt.p.r0,h.kt.p.r1,qL h.kt,hx.1,hx.2⟩,h.kt.o,h.kt.x,h.kt.bl,h.kt.bf,h.kt.at',h.kt.n,h.kt.tr⟩
theorem azM{t:TTk}{s:TSl}(h:OkX t s):OkM (eZ t).1 (false,(eZ t).2):=by have hl:=Bh h;have h0:=h.kt.p.u0;have h1:=h.kt.p.u1;have hu:=h.u;refine⟨?_,by dsimp only;omega,fun e=>by cases e⟩;rw[uM h];exact Pe (lS (jW h.kt h.g.good)) (by omega)
theorem aot{t:TTk}{s:TSl}(h:OkX t s):OkM (eZ t).1 (true,kZ s.2.1 s.1 (kT s.2.1 t.1.2.2.2.2.2.2.1) (fV s (iB t)).2):=by have h0:=h.kt.p.u0;have h1:=h.kt.p.u1;have hu:=h.u;have hx:=qZ t.1.2.1 h.kt.p.x0 h.kt.p.x1;have ha:=qL h.kt;have hr:=jW h.kt h.g.good;have rp:=rD h.ks ha hr;have hl:=Jf (l:=s.2.1) (u:=s.1) (x:=kT s.2.1 t.1.2.2.2.2.2.2.1) rp.rr;refine⟨PG rp.rr (by omega),by dsimp only;omega,fun _ r e=>?_⟩;have hp:OkP (sG (oI t.1 (iB t))):=⟨h.kt.p.u0,h.kt.p.u1,h.kt.p.l,h.kt.p.t0,h.kt.p.t1,h.kt.p.r0,h.kt.p.r1,ha,hx.1,hx.2⟩;have e1:=O6 rp hp rfl (I9 h.ks ha hr);have e2:qP (sG (oI t.1 (iB t))) (kZ t.1.2.1 t.1.1 (kT t.1.2.1 t.1.2.2.2.2.2.2.1) (fV s (iB t)).2)=some (fV s (iB t)).2:=e1;rw[uM h,h.u,h.l]at e;dsimp only at e;rw[e2]at e;cases e;have:=rp.ok.lw;exact⟨rp.ok.w,by omega⟩
theorem aaT:∀{n m:Nat} {t:TTk} {s:TSl} {z:TTk×TSl},OkX t s->oQ n t s=some z->2*n≤m->JK m (eZ t).1 s [(false,(eZ t).2)]
 | 0,_,_,_,_,_,h,_=>by cases h
 | n+1,m,t,s,z,hx,h,hm=>by
  obtain⟨k,rfl⟩:∃k,m=k+2:=⟨m - 2,by omega⟩;refine⟨Pf hx,azM hx,?_⟩;rw[O7 hx];refine⟨Pf hx,aot hx,?_⟩;rw[O8 hx];unfold oQ at h;split at h
  ·rename_i h0
   rw[if_pos h0];cases k<;>trivial
  ·rename_i h0
   rw[if_neg h0];exact aaT (hx.next h0) h (by omega)
theorem Iu{n N:Nat}{t:TTk}{s:TSl}{z:TTk×TSl}(h:OkX t s)(hz:oQ n t s=some z)(hn:2*n≤N)(hN:N≤1000000)(x g:Int)(pl:List (List bn)) :
  AL ((N:Int),(eZ t).1,s,x,g,pl,[(false,(eZ t).2)],())=some (true,z.1,z.2,x,g,pl,[],()):=by
 rw[akS hN h.ks (aaT h hz hn) (Nat.le_add_left _ _),O9 h hz hn];rfl
theorem yM:∀{n:Nat} {t:TTk} {s:TSl} {z:TTk×TSl},OkX t s->oQ n t s=some z->OkT z.1∧OkS z.2∧z.1.2.2.2.2.2.1=0∧z.1.1.2.2.2.2.1=false∧z.2.1=z.1.1.1∧z.2.2.1=z.1.1.2.1
 | 0,_,_,_,_,h=>by cases h
 | n+1,t,s,z,hx,h=>by
  unfold oQ at h;split at h
  ·rename_i h0
   cases h
   have e:(gG t s).1=lg t.1:=aaQ _ _ _;have l:=EU s (iB t);refine⟨hx.kt',hx.ks',h0,by dsimp only;rw[e];rfl,?_,?_⟩
   ·dsimp only;rw[e];exact l.1.trans hx.u
   ·dsimp only;rw[e];exact l.2.trans hx.l
  ·rename_i h0
   exact yM (hx.next h0) h
theorem akU{t:TTk}{s:TSl}(ht:OkT t)(hs:OkS s)(hu:s.1=t.1.1)(hl:s.2.1=t.1.2.1){g y:Int}{l:List bn}(hg:1≤g∧g≤3)(hy:1≤y∧y≤4294967295)(hf:g=1->oz l=true)(hw:∀b∈l,∀z∈b.2,0≤z∧z≤65535) :
  jA t g y l=((eZ (jy t g y l)).1,(eZ (jy t g y l)).2,0)∧OkX (jy t g y l) s:=by
 constructor
 ·unfold jA
  rw[if_neg (by rintro (h | h);exact h hg;omega),if_neg (fun h=>by rw[hf h.1]at h;exact absurd h.2 (by decide))]
 ·refine⟨Je ht (by omega) hf hw,hs,?_,rfl,hu,hl⟩
  have hc:g=1∨g=2∨g=3:=by omega
  have e:(jy t g y l).2.2.2.2.2.1=firstT g:=rfl;unfold goodX;rw[e];rcases hc with rfl | rfl | rfl<;>exact⟨by decide,fun h=>absurd h (by decide)⟩
def mZ(x:bn):bn:=(x.1%64,x.2.take (min (min x.2.length 14) (64 - x.1%64).toNat))
def oU(l:List bn):List bn:=(l.take 4).map mZ
theorem aaU(x:bn):fD (mZ x)=true:=by unfold fD mZ;rw[decide_eq_true_eq];dsimp only;rw[kB];omega
theorem aou{l:List bn}:SS (l,4,())=some (oU l,()):=by
 show SQ FT l 4=_;unfold SQ oU
 have hc:cut l 0 (if lt 4 (zF l.length)=true then 4 else zF l.length)=some (l.take 4):=by
  by_cases h:4<l.length
  ·rw[if_pos (by rw[cu,ay];omega)]
   exact pU (j:=4) (by omega)
  ·rw[if_neg (by rw[cu,ay];omega),ay,pU (Nat.le_refl _),List.take_of_length_le (Nat.le_refl _),List.take_of_length_le (by omega)]
 rw[hc,zD];have h8:(l.take 4).length≤4:=by rw[kB];omega
 generalize l.take 4=m at h8;show FT m (zF m.length) 0 ((m.take 0).map mZ)=_;unfold FT;refine lN (N:=m.length) (mk:=fun i=>(m,zF m.length,(i:Int),(m.take i).map mZ)) ?_ ?_ m.length 0 _ (by omega) (by omega)
 ·intro self i hi
  show FR (LA _) _ m (zF m.length) (i:Int) ((m.take i).map mZ)=self (m,zF m.length,((i+1:Nat):Int),(m.take (i+1)).map mZ);obtain⟨x,hx⟩:=fU (xs:=m) (i:=i) hi;have es:(m.take (i+1)).map mZ=(m.take i).map mZ++[mZ x]:=by rw[List.take_add_one,hx,List.map_append];rfl
  have hlen:((m.take i).map mZ).length≤4:=by rw[kA,kB];omega
  rw[es];unfold FR;rw[if_pos (by rw[cu,ay];omega),fI hx,zD]
  have K2:LA (fun t14 t15 t16 out=>self (t14,t15,t16,out)) (x.1%64) m (zF m.length) (i:Int) ((m.take i).map mZ) x=self (m,zF m.length,((i+1:Nat):Int),(m.take i).map mZ++[mZ x]):=by
   show SN _ (x.1%64) m (zF m.length) (i:Int) ((m.take i).map mZ) x=_;unfold SN;have e1:Sx.sub .i64 64 (x.1%64)=64 - x.1%64:=lH (by omega) (by omega)
   have hc2:cut x.2 0 (if lt (Sx.sub .i64 64 (x.1%64)) (if lt 14 (zF x.2.length)=true then 14 else zF x.2.length)=true then Sx.sub .i64 64 (x.1%64) else if lt 14 (zF x.2.length)=true then 14 else zF x.2.length)=some (mZ x).2:=by
    rw[e1];have e2:(if lt (64 - x.1%64) (if lt 14 (zF x.2.length)=true then 14 else zF x.2.length)=true then 64 - x.1%64 else if lt 14 (zF x.2.length)=true then 14 else zF x.2.length)=((min (min x.2.length 14) (64 - x.1%64).toNat:Nat):Int):=by simp only[pR,ay,decide_eq_true_eq];split<;>split<;>omega
    rw[e2,pU (by omega)];rfl
   rw[hc2,zD];have h14:(mZ x).2.length≤14:=by show (x.2.take _).length≤14;rw[kB];omega
   rw[iT (by omega),iT (by show _+1≤_;omega),iD (by omega)];rfl
  have er:rem x.1 64=x.1%64∨(rem x.1 64<0∧rem x.1 64+64=x.1%64):=by unfold rem;have:=Int.tmod_eq_emod (a:=x.1) (b:=64);rw[this];split<;>omega
  by_cases hneg:rem x.1 64<0
  ·rw[if_pos (cu.2 hneg)]
   have h2:rem x.1 64+64=x.1%64:=by
    rcases er with e | e
    ·have:=Int.emod_nonneg x.1 (show (64:Int)≠0 by decide);omega
    ·exact e.2
   rw[jg (by omega) (by omega),h2];exact K2
  ·rw[if_neg (fun e=>hneg (cu.1 e))]
   have h2:rem x.1 64=x.1%64:=by
    rcases er with e | e
    ·exact e
    ·exact absurd e.1 hneg
   rw[h2];exact K2
 ·intro self
  show FR (LA _) _ m (zF m.length) (m.length:Int) _=_;unfold FR;rw[if_neg (by rw[cu,ay];omega),List.take_of_length_le (Nat.le_refl _)]
def p9(link timeout retries:Int):TTk:=((9,1+link%2,1+timeout%10,retries%4,false,zA,0,0,0),7,0,[],0,0,0,0,0)
def qb(link:Int)(b:List Int):TSl:=(9,1+link%2,zAg (pZ b) 40,zE 16 false)
def vw(plan:List (List bn)):List (List bn):=(plan.take 6).map oU
theorem aov{link timeout retries:Int}(h1:0≤link)(h2:0≤timeout)(h3:0≤retries):OkT (p9 link timeout retries) :=
 ⟨YF (decide_eq_true ⟨⟨by omega,by omega⟩,by omega,⟨by omega,by omega⟩,by omega,by omega⟩),(by decide:(1:Int)≤7∧(7:Int)≤65535),(by decide:(0:Int)≤0∧(0:Int)≤4294967295),Nat.zero_le _,fun b hb=>(by cases hb),(by decide:(0:Int)≤0∧(0:Int)≤7),(by decide:(0:Int)≤0∧(0:Int)≤((0:Nat):Int)),(by decide:(0:Int)≤0),fun e=>absurd rfl e⟩
theorem QL{link:Int}{b:List Int}(h:0≤link)(hb:∀x∈b,0≤x∧x≤65535):OkS (qb link b):=by refine⟨⟨(by decide:(1:Int)≤9),(by decide:(9:Int)≤247)⟩,?_,wU (yI b) (EP hb) ⟨by decide,by decide⟩ ⟨by decide,by decide⟩,rfl⟩;show 1+link%2=1∨1+link%2=2;omega
theorem QM{l:List bn}(hw:∀b∈l,∀y∈b.2,0≤y∧y≤65535):(oU l).length≤4∧∀b∈oU l,fD b=true∧b.2.length≤14∧∀y∈b.2,0≤y∧y≤65535:=by refine⟨by unfold oU;rw[kA,kB];omega,fun b hb=>?_⟩;obtain⟨x,hx,rfl⟩:=List.mem_map.1 hb;refine⟨aaU x,?_,fun y hy=>hw x (List.mem_of_mem_take hx) y (List.mem_of_mem_take hy)⟩;unfold mZ;dsimp only;rw[kB];omega
theorem akV{plan:List (List bn)}(hw:∀l∈plan,∀b∈l,∀y∈b.2,0≤y∧y≤65535):OkPl (vw plan):=by refine⟨by unfold vw;rw[kA,kB];omega,fun q hq=>?_⟩;obtain⟨l,hl,rfl⟩:=List.mem_map.1 hq;obtain⟨h1,h2⟩:=QM (hw l (List.mem_of_mem_take hl));exact⟨by omega,fun b hb=>⟨by have:=(h2 b hb).2.1;omega,(h2 b hb).2.2⟩⟩
theorem Y0{plan:List (List bn)}(hw:∀l∈plan,∀b∈l,∀y∈b.2,0≤y∧y≤65535)(y:Int):(fJ (vw plan) y).length≤4∧∀b∈fJ (vw plan) y,fD b=true∧b.2.length≤14∧∀y∈b.2,0≤y∧y≤65535:=by
 unfold fJ;rw[zX]
 cases e:(vw plan)[y.toNat%(vw plan).length]? with
 | none=>exact⟨Nat.zero_le _,fun b hb=>by cases hb⟩
 | some q =>
  obtain⟨l,hl,rfl⟩:=List.mem_map.1 (zY e);exact QM (hw l (List.mem_of_mem_take hl))
theorem aaV{l:List bn}(h:l.length≤8)(hf:∀b∈l,fD b=true):oz l=true:=by unfold oz;rw[decide_eq_true h,Bool.true_and,List.all_eq_true];exact hf
theorem aow{u l o t r:Int}(h:sZ u l t r=true)(ho:o≠0):SE (u,l,o,t,r,())=some (((u,l,t,r,false,zA,0,0,0),o,0,[],0,0,0,0,0),0,()):=by show SC acm u l o t r=_;unfold SC;rw[ark,if_pos h,zD];dsimp only;rw[if_neg (by decide),show eqi o 0=false from by rw[<- Bool.not_eq_true,dw];exact ho];rfl
theorem aox{link:Int}(h:0≤link)(b:List Int):SI (9,1+link%2,pZ b,40,())=some (qb link b,0,()):=by
 show acu 9 (1+link%2) (pZ b) 40=_;unfold acu
 have e:aco (9,1+link%2,())=some (true,()):=by
  show acn 9 (1+link%2)=_;unfold acn;rw[if_pos (by decide),if_pos (by decide)];by_cases h1:1+link%2=1
  ·rw[if_pos (dw.2 h1)]
  ·rw[if_neg (fun e=>h1 (dw.1 e)),show eqi (1+link%2) 2=true from dw.2 (by omega)]
 have hl:=yI b;rw[e,zD,if_neg (by decide),aok (by omega),if_pos hl,if_pos (by decide),zD];rfl
theorem akW{link timeout retries:Int}(h1:0≤link)(h2:0≤timeout)(h3:0≤retries){bank:List Int}(hb:∀x∈bank,0≤x∧x≤65535)(plan:List (List bn)) :
  FW (link,timeout,retries,bank,plan,())=some (p9 link timeout retries,qb link bank,0,0,vw plan,true,[],()):=by
 show S7 FV link timeout retries bank plan=_;unfold S7;have e1:add .u8 1 (rem link 2)=1+link%2:=by unfold rem;rw[kC h1];exact wu8 (by omega) (by omega)
 have e2:add .i64 1 (cvt .i64 (rem timeout 10))=1+timeout%10:=by unfold rem;rw[kC h2,iI (by omega) (by omega),jg (by omega) (by omega)]
 have e3:cvt .i64 (rem retries 4)=retries%4:=by unfold rem;rw[kC h3,iI (by omega) (by omega)]
 have hc:cut plan 0 (if lt 6 (zF plan.length)=true then 6 else zF plan.length)=some (plan.take 6):=by
  by_cases h:6<plan.length
  ·rw[if_pos (by rw[cu,ay];omega)]
   exact pU (j:=6) (by omega)
  ·rw[if_neg (by rw[cu,ay];omega),ay,pU (Nat.le_refl _),List.take_of_length_le (Nat.le_refl _),List.take_of_length_le (by omega)]
 rw[e1,e2,e3,aow (decide_eq_true ⟨⟨by omega,by omega⟩,by omega,⟨by omega,by omega⟩,by omega,by omega⟩) (by decide),zD,akB,zD,aox h1,zD,hc,zD];have h6:(plan.take 6).length≤6:=by rw[kB];omega
 unfold vw;generalize plan.take 6=m at h6;show FV 0 0 0 m (zF m.length) 0 _ (p9 link timeout retries) [qb link bank] (p9 link timeout retries,qb link bank,(),0,0,()) [] ((m.take 0).map oU)=_;unfold FV;refine lN (N:=m.length) (mk:=fun i=>(0,0,0,m,zF m.length,(i:Int),_,p9 link timeout retries,[qb link bank],(p9 link timeout retries,qb link bank,(),0,0,()),[],(m.take i).map oU)) ?_ ?_ m.length 0 _ (by omega) (by omega)
 ·intro self i hi
  show FU S8 _ 0 0 0 m (zF m.length) (i:Int) _ (p9 link timeout retries) [qb link bank] (p9 link timeout retries,qb link bank,(),0,0,()) [] ((m.take i).map oU)=_;obtain⟨x,hx⟩:=fU (xs:=m) (i:=i) hi;have es:(m.take (i+1)).map oU=(m.take i).map oU++[oU x]:=by rw[List.take_add_one,hx,List.map_append];rfl
  have hlen:((m.take i).map oU).length≤6:=by rw[kA,kB];omega
  rw[es];unfold FU;rw[if_pos (by rw[cu,ay];omega),fI hx,zD,aou,zD,iT (by show _+1≤_;omega),iD (by omega)];rfl
 ·intro self
  show FU S8 _ 0 0 0 m (zF m.length) (m.length:Int) _ (p9 link timeout retries) [qb link bank] (p9 link timeout retries,qb link bank,(),0,0,()) [] ((m.take m.length).map oU)=_;unfold FU;rw[if_neg (by rw[cu,ay];omega),List.take_of_length_le (Nat.le_refl _)];show SY 0 0 0 _ (p9 link timeout retries) [qb link bank] (p9 link timeout retries,qb link bank,(),0,0,()) [] (m.map oU)=_;unfold SY;rw[if_pos (by decide),if_pos (by decide),if_pos (show eqi (p9 link timeout retries).2.1 7=true from rfl),iG,zD];dsimp only;rw[iM (QL h1 hb)];rfl
theorem others{a:TAg}(h1:a.2.1.1≠0)(h2:a.2.1.1≠7){v t:Int}(n k:Int)(hv:1≤v∧v≤4)(ht:t≠0):(doS (jh a) (7,v,t,n,k)).2=22:=by unfold doS;rw[if_neg (by rintro (h | h | h);exact absurd h (by decide:(7:Int)≠0);exact ht h;exact h hv),if_pos ⟨h1,h2⟩]
def hvK(k:Nat):List Bool:=zE k true++zE (8 - k) false
def bsK(L:List bn)(k:Nat):List bn:=L.take k++zE (8 - k) zB
def agK(bank:List Int)(o tx tk la:Int)(L:List bn)(k:Nat):TAg:=(bank,(o,tk),1,tx,la,(tx,hvK k,bsK L k),tk)
theorem aoy{k:Nat}(h:k≤8):(hvK k).length=8:=by simp[hvK];omega
theorem aoz{L:List bn}{k:Nat}(h:k≤8)(hL:k≤L.length):(bsK L k).length=8:=by simp[bsK];omega
theorem aoA{k:Nat}(h:k<8):(hvK k).set k true=hvK (k+1):=by
 have:∀k:Fin 8,(hvK k.1).set k.1 true=hvK (k.1+1):=by decide
 exact this ⟨k,h⟩
theorem aoB{L:List bn}{k:Nat}{x:bn}(h:k<8)(hx:L[k]? = some x):(bsK L k).set k x=bsK L (k+1):=by
 have hk:=(List.getElem?_eq_some_iff.1 hx).1;unfold bsK;have lp:(L.take k).length=k:=by rw[kB];omega
 have er:zE (8 - k) zB=zB::zE (8 - (k+1)) zB:=by rw[show 8 - k=(8 - (k+1))+1 by omega];rfl
 have:=ZU (L.take k) zB x (zE (8 - (k+1)) zB);rw[lp]at this;rw[er,this,List.take_add_one,hx,List.append_assoc];rfl
theorem akX:∀{h1 h2:List Bool} {b1 b2:List bn},h1.length=b1.length->fO (h1++h2) (b1++b2)=fO h1 b1++fO h2 b2:=by intro h1 h2 b1 b2 h;unfold fO;rw[List.zip_append h,List.filter_append,List.map_append]
theorem Ji:∀(l:List bn),fO (zE l.length true) l=l
 | []=>rfl
 | x::r=>by have:=Ji r;unfold fO at this ⊢;rw[List.length_cons,List.replicate_succ,List.zip_cons_cons,List.filter_cons,if_pos rfl,List.map_cons,this]
theorem EX:∀(n m:Nat),fO (zE n false) (zE m zB)=[]
 | 0,_=>by simp[fO]
 | n+1,0=>by simp[fO]
 | n+1,m+1=>by have:=EX n m;unfold fO at this ⊢;rw[List.replicate_succ,List.replicate_succ,List.zip_cons_cons,List.filter_cons,if_neg (by decide),this]
theorem Pg{L:List bn}{k:Nat}(hL:k≤L.length):fO (hvK k) (bsK L k)=L.take k:=by
 have lp:(L.take k).length=k:=by rw[kB];omega
 unfold hvK bsK;rw[akX (by rw[kD,lp]),EX,List.append_nil];have:=Ji (L.take k);rw[lp]at this;exact this
theorem aoC{h1 h2:List Bool}{b1 b2:List bn}(h:h1.length=b1.length):nzB (h1++h2) (b1++b2)=nzB h1 b1++nzB h2 b2:=by unfold nzB;exact List.zipWith_append h
theorem Ph:∀(l:List bn),nzB (zE l.length true) l=l
 | []=>rfl
 | x::r=>by have:=Ph r;unfold nzB at this ⊢;rw[List.length_cons,List.replicate_succ,List.zipWith_cons_cons,if_pos rfl,this]
theorem Jj:∀(n:Nat),nzB (zE n false) (zE n zB)=zE n zB
 | 0=>rfl
 | n+1=>by have:=Jj n;unfold nzB at this ⊢;rw[List.replicate_succ,List.replicate_succ,List.zipWith_cons_cons,if_neg (by decide),this]
theorem JL{L:List bn}{k:Nat}(hL:k≤L.length):nzB (hvK k) (bsK L k)=bsK L k:=by
 have lp:(L.take k).length=k:=by rw[kB];omega
 unfold hvK bsK;rw[aoC (by rw[kD,lp]),Jj];have:=Ph (L.take k);rw[lp]at this;rw[this]
theorem aaW{k:Nat}(h:k≤8):uD (hvK k) (k:Int)=true:=by
 have:∀k:Fin 9,uD (hvK k.1) (k.1:Int)=true:=by decide
 exact this ⟨k,by omega⟩
section
variable {bank:List Int}{o tx tk la:Int}{L:List bn}(hb:bank.length=64)(hbr:∀x∈bank,0≤x∧x≤65535)(ho:1≤o∧o≤65535)(ht:1≤tx∧tx≤4294967295)(hk:1≤tk∧tk≤9223372036854775807)
 (hL:L.length≤8) (hf:∀x∈L,fD x=true) (hw:∀x∈L,∀w∈x.2,0≤w∧w≤65535) (hla:0≤la∧la<tx)
include hb hbr ho ht hk hL hf hw hla
theorem QN{k:Nat}{P:bn->Prop}(hz:P zB)(hp:∀x∈L,P x):∀x∈bsK L k,P x:=by
 intro x hx;rcases List.mem_append.1 hx with e | e
 ·exact hp x (List.mem_of_mem_take e)
 ·rw[List.eq_of_mem_replicate e];exact hz
theorem aaX{k:Nat}(h:k≤L.length):OkG (agK bank o tx tk la L k) where
 bl:=hb
 bw:=hbr
 lr:=Or.inr ⟨by show o≠0;omega,Or.inl hk.1⟩
 l1:=⟨by show 0≤o;omega,ho.2⟩
 l2:=hk.2
 pr:=⟨by show (0:Int)≤1;decide,by show (1:Int)≤2;decide⟩
 tr:=⟨by show 0≤tx;omega,ht.2⟩
 ar:=⟨hla.1,by show la≤4294967295;omega⟩
 kr:=hk
 hl:=aoy (by omega)
 sl:=aoz (by omega) h
 bb:=QN hb hbr ho ht hk hL hf hw hla (P:=fun b=>b.2.length≤1000) (by show 0≤1000;omega) (fun x hx=>by have:=of_decide_eq_true (hf x hx);omega)
 wb:=QN hb hbr ho ht hk hL hf hw hla (P:=fun b=>∀w∈b.2,0≤w∧w≤65535) (by intro w hw;cases hw) hw
 fb:=fun b hb=>by have:b∈fO (hvK k) (bsK L k):=hb;rw[Pg h]at this;exact hf b (List.mem_of_mem_take this)
 p0:=fun e=>absurd e (show (1:Int)≠0 by decide)
 pn:=fun _=>⟨by show o≠0;omega,by show la<tx;omega,rfl⟩
 p1:=fun _=>hk.1
 p2:=fun e=>absurd e (show (1:Int)≠2 by decide)
theorem QO{k:Nat}(h:k≤L.length):jh (agK bank o tx tk la L k)=agK bank o tx tk la L k:=by unfold jh agK;dsimp only;rw[JL h]
theorem aoD{k:Nat}{x:bn}(hx:L[k]? = some x):putA (jh (agK bank o tx tk la L k)) o tx (k:Int) x=(agK bank o tx tk la L (k+1),0):=by
 have hk':=(List.getElem?_eq_some_iff.1 hx).1;rw[QO hb hbr ho ht hk hL hf hw hla (by omega)];unfold putA agK;dsimp only;rw[if_neg (by omega),if_neg (by omega),if_neg (by simp)];have et:kJ (o,tk) o tk=(o,tk):=by unfold kJ;split<;>rfl
 have es:DX (tx,hvK k,bsK L k) (zI (k:Int)) x=(tx,hvK (k+1),bsK L (k+1)):=by unfold DX;dsimp only;rw[zQ,aoA (by omega),aoB (by omega) hx,JL (by omega)]
 rw[et,es]
theorem Y1(n c:Int):doS (jh (bank,(0,0),0,0,la,zSt,tk)) (o,1,tx,n,c)=(agK bank o tx tk la L 0,0):=by show doS (bank,(0,0),0,0,la,(0,zSt.2.1,nzB zSt.2.1 zSt.2.2),tk) (o,1,tx,n,c)=_;unfold doS;dsimp only;rw[if_neg (by omega),if_neg (by omega),if_pos rfl,if_neg (by omega),if_neg (by omega)];rfl
def agP(bank:List Int)(o tx tk la:Int)(L:List bn):TAg:=(bank,(o,-1),2,tx,la,(tx,hvK L.length,bsK L L.length),tk)
theorem Pj:doS (jh (agK bank o tx tk la L L.length)) (o,2,tx,(L.length:Int),ou L)=(agP bank o tx tk la L,0):=by
 rw[QO hb hbr ho ht hk hL hf hw hla (Nat.le_refl _)];unfold doS;have hwh:uE (agK bank o tx tk la L L.length) (L.length:Int) (ou L)=true:=by show (decide (0≤(L.length:Int)∧(L.length:Int)≤8) && (uD (hvK L.length) (L.length:Int) && decide (ou (fO (hvK L.length) (bsK L L.length))=ou L)))=true;rw[Pg (Nat.le_refl _),List.take_length,aaW hL,decide_eq_true rfl,decide_eq_true (by omega)];rfl
 unfold agK at hwh ⊢;dsimp only;rw[if_neg (by omega),if_neg (by omega),if_neg (by decide),if_pos rfl,if_pos (Or.inr ⟨rfl,rfl,hwh⟩)];rfl
theorem aaY:OkG (agP bank o tx tk la L):=by have h0:=aaX hb hbr ho ht hk hL hf hw hla (Nat.le_refl L.length);have h1:=h0.own.doS (c:=(o,2,tx,(L.length:Int),ou L)) ⟨by show 0≤o;omega,ho.2⟩ ⟨by show 0≤tx;omega,ht.2⟩ ⟨by show (0:Int)≤(L.length:Int);omega,by show (L.length:Int)≤65535;omega⟩;rw[Pj hb hbr ho ht hk hL hf hw hla]at h1;exact h1
theorem Y2(n c:Int):doS (jh (agP bank o tx tk la L)) (o,3,tx,n,c)=(pY (u6 bank L,(o,-1),2,tx,tx,(tx,hvK L.length,bsK L L.length),tk),0):=by
 have e:jh (agP bank o tx tk la L)=agP bank o tx tk la L:=by unfold jh agP;dsimp only;rw[JL (Nat.le_refl _)]
 rw[e];unfold doS agP;dsimp only;rw[if_neg (by omega),if_neg (by omega),if_neg (by decide),if_neg (by decide),if_pos rfl,if_neg (by omega),if_pos ⟨rfl,rfl⟩,Pg (Nat.le_refl _),List.take_length]
end
theorem vB(f:Int)(A:TAg):iy (f,0,[],fQ A,0,0)=some (A.2.1.1,A.2.2.1,A.2.2.2.1,A.2.2.2.2.1):=by
 have e:iy (f,0,[],fQ A,0,0)=some (A.2.1.1,A.2.2.1,65536*(A.2.2.2.1 / 65536)+A.2.2.2.1%65536,65536*(A.2.2.2.2.1 / 65536)+A.2.2.2.2.1%65536):=rfl;have h:∀x:Int,65536*(x / 65536)+x%65536=x:=fun x=>by omega
 rw[e,h,h]
section
variable {bank:List Int}{tx tk la:Int}{L:List bn}(hb:bank.length=64)(hbr:∀x∈bank,0≤x∧x≤65535)(ht:1≤tx∧tx≤4294967295)(hk:1≤tk∧tk≤9223372036854775807)
 (hL:L.length≤8) (hf:∀x∈L,fD x=true) (hw:∀x∈L,∀w∈x.2,0≤w∧w≤65535) (hla:0≤la∧la<tx)
include hb hbr ht hk hL hf hw hla
theorem aaZ{t:TTk}{s:TSl}(h:OkX t s)(h2:t.2=(7,tx,L,1,1,0,0,0))(hs:s.2.2.1=(bank,(0,0),0,0,la,zSt,tk)):gG t s=kK (rV (lg t.1,t.2) 0)∧slX t s=jC s (agK bank 7 tx tk la L 0):=by
 obtain⟨p,c⟩:=t;dsimp only at h2;subst h2;have e:iB (p,(7,tx,L,1,1,0,0,0))=kP (7,1,tx,0,0):=rfl;have hc:OkC (7,1,tx,0,0):=jY (v:=1) h.kt (by decide);have es:=yJ h.ks hc (A:=agK bank 7 tx tk la L 0) (by rw[hs];exact Y1 hb hbr (by decide:(1:Int)≤7∧(7:Int)≤65535) ht hk hL hf hw hla 0 0) (aaX hb hbr (by decide:(1:Int)≤7∧(7:Int)≤65535) ht hk hL hf hw hla (Nat.zero_le _));constructor
 ·unfold gG
  rw[e,es,akH rfl,vB];dsimp only;rw[if_neg,if_pos]
  ·exact⟨decide_eq_true ⟨rfl,rfl⟩,rfl⟩
  ·rintro⟨_,h⟩
   exact absurd h (show ¬ (1:Int)=2 by decide)
 ·unfold slX
  rw[e,es]
theorem aa0{p:TP}{s:TSl}{k:Nat}{x:bn}(h:OkX (p,(7,tx,L,1,2,(k:Int),0,0)) s)(hx:L[k]? = some x)(hs:s.2.2.1=agK bank 7 tx tk la L k):gG (p,(7,tx,L,1,2,(k:Int),0,0)) s=(lg p,(7,tx,L,1,3,(k:Int),0,0))∧slX (p,(7,tx,L,1,2,(k:Int),0,0)) s=jC s (agK bank 7 tx tk la L (k+1)):=by
 have hk':=(List.getElem?_eq_some_iff.1 hx).1;have hm:=zY hx;have eb:oP (p,(7,tx,L,1,2,(k:Int),0,0))=iA 7 tx (k:Int) x:=by unfold oP;dsimp only;rw[zQ,hx]
 have e:iB (p,(7,tx,L,1,2,(k:Int),0,0))=rU (iA 7 tx (k:Int) x):=by rw[<- eb];show (if p8 (p,(7,tx,L,1,2,(k:Int),0,0))=true then rU _ else zA)=_;exact if_pos (decide_eq_true (show (k:Int)<(L.length:Int) by omega))
 have es:=akF h.ks (hf x hm) (o:=7) (tx:=tx) (n:=(k:Int)) (by omega) (D6 (by decide) (by omega) (by omega) (hw x hm)) (A:=agK bank 7 tx tk la L (k+1)) (by rw[hs];exact aoD hb hbr (by decide:(1:Int)≤7∧(7:Int)≤65535) ht hk hL hf hw hla hx);constructor
 ·unfold gG
  rw[e,es,akI rfl];exact if_neg (show ¬ (0:Int)≠0 by decide)
 ·unfold slX
  rw[e,es]
theorem akY{p:TP}{s:TSl}{k:Nat}{x:bn}(h:OkX (p,(7,tx,L,1,3,(k:Int),0,0)) s)(hx:L[k]? = some x)(hs:s.2.2.1=agK bank 7 tx tk la L (k+1)):gG (p,(7,tx,L,1,3,(k:Int),0,0)) s=kK (lg p,(7,tx,L,1,3,(k:Int)+1,0,0))∧slX (p,(7,tx,L,1,3,(k:Int),0,0)) s=s:=by
 have hk':=(List.getElem?_eq_some_iff.1 hx).1;have eb:oP (lg p,(7,tx,L,1,3,(k:Int),0,0))=iA 7 tx (k:Int) x:=by unfold oP;dsimp only;rw[zQ,hx]
 have e:iB (p,(7,tx,L,1,3,(k:Int),0,0))=rdQ (512+(k:Int)*32) 20:=by show rdQ (512+32*(k:Int)) 20=_;rw[Int.mul_comm]
 have hbk:jE s.2.2.1.2.2.2.2.2.1 s.2.2.1.2.1.1 (k:Int)=iA 7 tx (k:Int) x:=by
  rw[hs];unfold jE agK;dsimp only;rw[zQ];have e1:(hvK (k+1))[k]? = some true:=by unfold hvK;rw[List.getElem?_append_left (by rw[kD];omega),List.getElem?_replicate,if_pos (by omega)]
  have e2:(bsK L (k+1))[k]? = some x:=by unfold bsK;rw[List.getElem?_append_left (by rw[kB];omega),List.getElem?_take,if_pos (by omega),hx]
  rw[e1,e2]
 have es:fV s (rdQ (512+(k:Int)*32) 20)=(s,(3,0,[],iA 7 tx (k:Int) x,0,0)):=by
  rw[aon s (akG (by omega)),<- hbk,<- aaE h.ks.a (by omega:k<8)];have:(512+(k:Int)*32).toNat=512+k*32:=by omega
  rw[this];rfl
 constructor
 ·unfold gG
  rw[e,es,akJ rfl];exact if_pos ⟨decide_eq_true (show (k:Int)<(L.length:Int) by omega),rfl,eb.symm⟩
 ·unfold slX
  rw[e,es]
theorem akZ{p:TP}{s:TSl}(h:OkX (p,(7,tx,L,1,4,(L.length:Int),0,0)) s)(hs:s.2.2.1=agK bank 7 tx tk la L L.length):gG (p,(7,tx,L,1,4,(L.length:Int),0,0)) s=(lg p,(7,tx,L,1,0,(L.length:Int),0,1))∧slX (p,(7,tx,L,1,4,(L.length:Int),0,0)) s=jC s (agP bank 7 tx tk la L):=by
 have e:iB (p,(7,tx,L,1,4,(L.length:Int),0,0))=kP (7,2,tx,(L.length:Int),ou L):=rfl;have hc:OkC (7,2,tx,(L.length:Int),ou L):=jY (v:=2) h.kt (by decide);have es:=yJ h.ks hc (A:=agP bank 7 tx tk la L) (by rw[hs];exact Pj hb hbr (by decide:(1:Int)≤7∧(7:Int)≤65535) ht hk hL hf hw hla) (aaY hb hbr (by decide:(1:Int)≤7∧(7:Int)≤65535) ht hk hL hf hw hla);constructor
 ·unfold gG
  rw[e,es,akK rfl,vB];dsimp only;rw[if_pos ⟨decide_eq_true ⟨rfl,rfl⟩,rfl⟩];rfl
 ·unfold slX
  rw[e,es]
end
def qM(tx:Int)(L:List bn)(k:Nat):Int×Int×List bn×Int×Int×Int×Int×Int:=(7,tx,L,1,if k<L.length then 2 else 4,(k:Int),0,0)
theorem Jk(p:TP)(tx:Int)(L:List bn)(a:Int)(k:Nat):kK (p,(7,tx,L,1,a,(k:Int),0,0))=(p,qM tx L k):=by
 unfold kK qM;dsimp only;by_cases h:k<L.length
 ·rw[if_neg (by omega),if_pos h]
  rfl
 ·rw[if_pos (by omega),if_neg h]
  rfl
section
variable {bank:List Int}{tx tk la:Int}{L:List bn}(hb:bank.length=64)(hbr:∀x∈bank,0≤x∧x≤65535)(ht:1≤tx∧tx≤4294967295)(hk:1≤tk∧tk≤9223372036854775807)
 (hL:L.length≤8) (hf:∀x∈L,fD x=true) (hw:∀x∈L,∀w∈x.2,0≤w∧w≤65535) (hla:0≤la∧la<tx)
include hb hbr ht hk hL hf hw hla
theorem EY:∀(j k:Nat) (p:TP) (s:TSl),k+j=L.length->OkX (p,qM tx L k) s->s.2.2.1=agK bank 7 tx tk la L k->∃p',oQ (2*j+1) (p,qM tx L k) s=some ((p',(7,tx,L,1,0,(L.length:Int),0,1)),jC s (agP bank 7 tx tk la L))
 | 0,k,p,s,hj,hx,hs=>by
  have e:k=L.length:=by omega
  subst e;have ep:qM tx L L.length=(7,tx,L,1,4,(L.length:Int),0,0):=by unfold qM;rw[if_neg (by omega)]
  rw[ep]at hx ⊢;obtain⟨e1,e2⟩:=akZ hb hbr ht hk hL hf hw hla hx hs;refine⟨lg p,?_⟩;show (if (gG _ s).2.2.2.2.2.1=0 then some (gG _ s,slX _ s) else _)=_;rw[e1,e2];exact if_pos rfl
 | j+1,k,p,s,hj,hx,hs=>by
  have ep:qM tx L k=(7,tx,L,1,2,(k:Int),0,0):=by unfold qM;rw[if_pos (by omega)]
  obtain⟨x,hxk⟩:=fU (xs:=L) (i:=k) (by omega);rw[ep]at hx ⊢;obtain⟨e1,e2⟩:=aa0 hb hbr ht hk hL hf hw hla hx hxk hs;have h1:=hx.next (by rw[e1];show (3:Int)≠0;decide);rw[e1,e2]at h1;obtain⟨e3,e4⟩:=akY hb hbr ht hk hL hf hw hla h1 hxk rfl;have ec:(k:Int)+1=((k+1:Nat):Int):=by omega
  rw[ec,Jk]at e3;have n0:(qM tx L (k+1)).2.2.2.2.1≠0:=by unfold qM;dsimp only;split<;>decide
  have h2:=h1.next (by rw[e3];exact n0);rw[e3,e4]at h2;obtain⟨p',ih⟩:=EY j (k+1) _ _ (by omega) h2 rfl;refine⟨p',?_⟩;have er:2*(j+1)+1=(2*j+1)+1+1:=by omega
  rw[er];show (if (gG _ s).2.2.2.2.2.1=0 then _ else oQ ((2*j+1)+1) (gG _ s) (slX _ s))=_;rw[e1,e2,if_neg (show ¬ (3:Int)=0 by decide)];show (if (gG _ _).2.2.2.2.2.1=0 then _ else oQ (2*j+1) (gG _ _) (slX _ _))=_;rw[e3,e4,if_neg n0];exact ih
theorem PI{p:TP}{s:TSl}(h:OkX (p,(7,tx,L,1,1,0,0,0)) s)(hs:s.2.2.1=(bank,(0,0),0,0,la,zSt,tk)) :
  ∃p',oQ (2*L.length+2) (p,(7,tx,L,1,1,0,0,0)) s=some ((p',(7,tx,L,1,0,(L.length:Int),0,1)),jC s (agP bank 7 tx tk la L)):=by
 obtain⟨e1,e2⟩:=aaZ hb hbr ht hk hL hf hw hla h rfl hs;have e1:gG (p,(7,tx,L,1,1,0,0,0)) s=(lg p,qM tx L 0):=e1.trans (Jk _ tx L 1 0);have n0:(qM tx L 0).2.2.2.2.1≠0:=by unfold qM;dsimp only;split<;>decide
 have h1:=h.next (by rw[e1];exact n0);rw[e1,e2]at h1;obtain⟨p',ih⟩:=EY hb hbr ht hk hL hf hw hla L.length 0 _ _ (by omega) h1 rfl;refine⟨p',?_⟩;show (if (gG _ s).2.2.2.2.2.1=0 then _ else oQ (2*L.length+1) (gG _ s) (slX _ s))=_;rw[e1,e2,if_neg n0];exact ih
end
end Go.Proofs.Lx
end
