/- Proved in the last of these 16 parts (this is part 13): TalkTrue. Conditions: those of the given statement, and no others. -/
import Derived.Test.YtljkanofaahagaaGreatBPartl
import Derived.Test.YtljkanofaahagaaGreatBPartk
set_option linter.unusedVariables false
set_option linter.unusedSimpArgs false
set_option linter.unusedSectionVars false
open Option renaming bind → zC, bind_some → zD
open List renaming replicate → zE, getElem?_eq_getElem → zV, getD_eq_getElem?_getD → zX, mem_of_getElem? → zY, length_append → zZ, length_map → kA, length_take → kB, length_replicate → kD
open Int renaming ofNat → zF, toNat → zI, eq_ofNat_of_zero_le → zN, toNat_natCast → zQ, tmod_eq_emod_of_nonneg → kC
open Bool renaming and_eq_true → zO
noncomputable section
namespace Go.Proofs.Lx
open Go Ev Sx Pl
set_option maxRecDepth 100000
def rdA(a:TA):TA:=(if a.1=23 then 3 else a.1,a.2.1,a.2.2.1,0,[],[])
def uz(s:TSl)(a:TA):TR:=if isE a.1=true then K6 a else (a.1,(ET (vL s) (rdA a)).2)
theorem atI{a:TA}(ha:OkA a)(hr:iY a=true)(he:isE a.1=false)(hc:jU a=true):OkA (rdA a)∧iY (rdA a)=true∧jU (rdA a)=true∧isE (rdA a).1=false:=by
 have nil:∀x∈([]:List Int),0≤x∧x≤65535:=fun x hx=>by cases hx
 cases hra:mD hr with
 | bits f p n hf h1 h2 =>
  rcases hf with rfl | rfl
  ·exact⟨ha,hr,hc,he⟩
  ·exact⟨ha,hr,hc,he⟩
 | words f p n hf h1 h2 =>
  rcases hf with rfl | rfl
  ·exact⟨ha,hr,hc,he⟩
  ·exact⟨ha,hr,hc,he⟩
 | coil p b=>cases he
 | word p x=>cases he
 | coils p l h1 h2=>cases he
 | regs p l h1 h2=>cases he
 | swap p n t l h1 h2 h3 h4 =>
  have hc1:=(zO _ _ ▸ (show (rdH p n.toNat && decide (t=272∧l.length=8∨t=288∧l.length=20))=true from hc):_∧_).1;refine⟨⟨(by decide:(0:Int)≤3),(by decide:(3:Int)≤255),ha.at0,ha.at1,ha.m0,ha.m1,(by decide:(0:Int)≤0),(by decide:(0:Int)≤65535),nil,Nat.zero_le _,Nat.zero_le _⟩,?_,hc1,rfl⟩;show vD (3,p,n,0,[],[]) (125,0,0,false,false)=true;unfold vD;dsimp only;have e:jm n 125=true:=by unfold jm;rw[if_neg (by decide),if_pos (gZ.2 h3),iw.2 h4]
  rw[e];rfl
theorem Ae{s:TSl}(h:OkS s){a:TA}(ha:OkA a)(hr:iY a=true)(hc:jU a=true):oq (s,a,())=some (uz s a,()):=by
 show YW YX s a=_;unfold YW uz;rw[Qq ha hr,zD]
 cases he:isE a.1 with
 | true=>rfl
 | false =>
  obtain⟨h1,h2,h3,h4⟩:=atI ha hr he hc;have hd:=atH (Sc h) h1 h2
  have hdo:(doM (vL s) (rdA a)).2=ET (vL s) (rdA a):=by
   unfold doM;rw[if_pos h3,h4]
   have:wrM (vL s) (rdA a)=vL s:=by
    unfold isE at h4;have h5:=of_decide_eq_false h4;unfold wrM;have h23:(rdA a).1≠23:=by show (if a.1=23 then (3:Int) else a.1)≠23;split<;>omega
    rw[if_neg (by omega),if_neg (by omega),if_neg h23]
   rw[this];rfl
  have K:YX s a 0 0 0 0 (if a.1=23 then 3 else a.1) a.2.1 a.2.2.1 0=some ((a.1,(ET (vL s) (rdA a)).2),()):=by have hd':lD (SP,vL s,((if a.1=23 then (3:Int) else a.1),a.2.1,a.2.2.1,0,[],[]),())=_:=hd;show YV akd s a 0 0 0 0 _ a.2.1 a.2.2.1 0=_;unfold YV;simp only[Qf,atE h,zD,hd',qR (eqAs_refl nQ.rs),atg (eqAs_refl nQ.rs)];show some ((a.1,(doM (vL s) (rdA a)).2.2),())=_;rw[hdo]
  rw[if_neg (fun e=>Bool.false_ne_true e),if_neg (fun e=>Bool.false_ne_true e)];by_cases e:a.1=23
  ·rw[if_pos (bu.2 e)]
   rw[if_pos e]at K;exact K
  ·rw[if_neg (fun x=>e (bu.1 x))]
   rw[if_neg e]at K;exact K
def kW(w:List Int):TCm×Int :=
 if w.length≠8∨w.getD 7 0≠0∨256≤w.getD 1 0 then ((0,0,0,0,0),2)
 else ((w.getD 0 0,w.getD 1 0,65536*w.getD 2 0+w.getD 3 0,w.getD 4 0,65536*w.getD 5 0+w.getD 6 0),0)
theorem acJ{w:List Int}(hr:∀x∈w,0≤x∧x≤65535):IY (w,())=some ((kW w).1,(kW w).2,()):=by
 show Y0 Y1 w=_;unfold Y0;by_cases hl:w.length=8
 ·rw[if_neg (fun e=>fQ.1 e (by rw[bn];omega))]
  have g:∀k:Nat,k<8->at? w (k:Int)=some (w.getD k 0):=fun k hk=>by obtain⟨x,hx⟩:=jg (xs:=w) (i:=k) (by omega);rw[gu hx,zX,hx];rfl
  have rg:∀k:Nat,k<8->0≤w.getD k 0∧w.getD k 0≤65535:=fun k hk=>by obtain⟨x,hx⟩:=jg (xs:=w) (i:=k) (by omega);rw[zX,hx];exact hr x (zY hx)
  have g0:at? w 0=some (w.getD 0 0):=g 0 (by omega);have g1:at? w 1=some (w.getD 1 0):=g 1 (by omega);have g2:at? w 2=some (w.getD 2 0):=g 2 (by omega);have g3:at? w 3=some (w.getD 3 0):=g 3 (by omega);have g4:at? w 4=some (w.getD 4 0):=g 4 (by omega);have g5:at? w 5=some (w.getD 5 0):=g 5 (by omega);have g6:at? w 6=some (w.getD 6 0):=g 6 (by omega);have g7:at? w 7=some (w.getD 7 0):=g 7 (by omega)
  have K:∀b,Y1 w b (0,0,0,0,0)=some (if b=true then (((0,0,0,0,0):TCm),(2:Int),()) else ((w.getD 0 0,cvt .u8 (w.getD 1 0),65536*w.getD 2 0+w.getD 3 0,w.getD 4 0,65536*w.getD 5 0+w.getD 6 0),0,())):=fun b=>by
   show YZ w b (0,0,0,0,0)=_;unfold YZ
   cases b with
   | true=>rfl
   | false =>
    have r2:=rg 2 (by omega);have r3:=rg 3 (by omega);have r5:=rg 5 (by omega);have r6:=rg 6 (by omega);rw[if_neg (by decide),if_neg (by decide),g0,zD,g1,zD,g2,zD,g3,zD,g4,zD,g5,zD,g6,zD,xZ r2.1 r2.2 r3.1 r3.2,zD,xZ r5.1 r5.2 r6.1 r6.2,zD]
  rw[g7,zD];unfold kW;by_cases h7:w.getD 7 0=0
  ·rw[if_neg (fun e=>fQ.1 e h7),g1,zD,K]
   by_cases h1:256≤w.getD 1 0
   ·rw[if_pos (gZ.2 h1),if_pos (Or.inr (Or.inr h1))]
   ·have r1:=rg 1 (by omega)
    rw[if_neg (fun e=>h1 (gZ.1 e)),if_neg (by omega),show cvt .u8 (w.getD 1 0)=w.getD 1 0 from wu8 r1.1 (by omega)]
  ·rw[if_pos (fQ.2 h7),K,if_pos rfl,if_pos (Or.inr (Or.inl h7))]
 ·rw[if_pos (fQ.2 (by rw[bn];omega))]
  unfold kW;rw[if_pos (Or.inl hl)];rfl
def iC(a:TAg)(p:Int)(w:List Int):TAg×Int :=
 if p=272 then
  if (kW w).2≠0 then (a,3) else if (doS (fV a) (kW w).1).2≠0 then (a,4) else ((doS (fV a) (kW w).1).1,0)
 else
  if (rdB w).2.2.2.2≠0 then (a,3) else if (putA (fV a) (rdB w).1 (rdB w).2.1 (rdB w).2.2.1 (rdB w).2.2.2.1).2≠0 then (a,4)
  else ((putA (fV a) (rdB w).1 (rdB w).2.1 (rdB w).2.2.1 (rdB w).2.2.2.1).1,0)
def atW(a:TA):Int:=if a.1=23 then a.2.2.2.1 else a.2.1
def lS(s:TSl)(a:TAg):TSl:=(s.1,s.2.1,a,s.2.2.2)
def Js(s:TSl)(c:List Bool):TSl:=(s.1,s.2.1,s.2.2.1,c)
def gI(s:TSl)(a:TA):TSl×TR :=
 if jU a=false then (s,(a.1,2,[],[],0,0))
 else if a.1=5∨a.1=15 then (Js s (cpy s.2.2.2 a.2.1.toNat a.2.2.2.2.2),uz (Js s (cpy s.2.2.2 a.2.1.toNat a.2.2.2.2.2)) a)
 else if a.2.2.2.2.1.length=0 then (s,uz s a)
 else if (iC s.2.2.1 (atW a) a.2.2.2.2.1).2≠0 then (s,(a.1,(iC s.2.2.1 (atW a) a.2.2.2.2.1).2,[],[],0,0))
 else (lS s (iC s.2.2.1 (atW a) a.2.2.2.2.1).1,uz (lS s (iC s.2.2.1 (atW a) a.2.2.2.2.1).1) a)
theorem J8{w:List Int}(hr:∀x∈w,0≤x∧x≤65535):(0≤(kW w).1.1∧(kW w).1.1≤65535)∧(0≤(kW w).1.2.2.1∧(kW w).1.2.2.1≤4294967295)∧(0≤(kW w).1.2.2.2.1∧(kW w).1.2.2.2.1≤65535):=by
 unfold kW;split
 ·exact⟨⟨by decide,by decide⟩,⟨by decide,by decide⟩,⟨by decide,by decide⟩⟩
 ·rename_i h
  have rg:∀k:Nat,0≤w.getD k 0∧w.getD k 0≤65535:=fun k=>by
   rw[zX]
   cases hx:w[k]? with
   | none=>exact⟨by decide,by decide⟩
   | some x=>exact hr x (zY hx)
  have r0:=rg 0;have r2:=rg 2;have r3:=rg 3;have r4:=rg 4;exact⟨r0,⟨by dsimp only;omega,by dsimp only;omega⟩,r4⟩
theorem Sd{w:List Int}(hr:∀x∈w,0≤x∧x≤65535)(h:(rdB w).2.2.2.2=0):(0≤(rdB w).1∧(rdB w).1≤65535)∧(0≤(rdB w).2.2.1∧(rdB w).2.2.1≤7)∧gD (rdB w).2.2.2.1=true∧(∀x∈(rdB w).2.2.2.1.2,0≤x∧x≤65535):=by
 have rg:∀k:Nat,0≤w.getD k 0∧w.getD k 0≤65535:=fun k=>by
  rw[zX]
  cases hx:w[k]? with
  | none=>exact⟨by decide,by decide⟩
  | some x=>exact hr x (zY hx)
 unfold rdB at h ⊢;split
 ·rename_i q
  rw[if_pos q]at h;exact absurd h (by decide)
 ·rename_i q
  rw[if_neg q]at h;split
  ·rename_i q2
   rw[if_pos q2]at h;exact absurd h (by decide)
  ·rename_i q2
   rw[if_neg q2]at h;split
   ·rename_i q3
    have r3:=rg 3;exact⟨rg 0,⟨r3.1,by dsimp only;omega⟩,q3.1,fun x hx=>hr x (List.mem_of_mem_drop (List.mem_of_mem_take hx))⟩
   ·rename_i q3
    rw[if_neg q3]at h;exact absurd h (by decide)
theorem J9{a:TAg}(h:OkG a){p:Int}{w:List Int}(hr:∀x∈w,0≤x∧x≤65535):OkG (iC a p w).1:=by
 unfold iC;split
 ·split
  ·exact h
  ·split
   ·exact h
   ·obtain⟨r1,r2,r3⟩:=J8 hr
    exact h.own.doS r1 r2 r3
 ·split
  ·exact h
  ·rename_i q
   obtain⟨r1,r2,r3,r4⟩:=Sd hr (Classical.not_not.1 q);split
   ·exact h
   ·exact h.own.putA r1 r3 r4
theorem vM{s:TSl}(h:OkS s){a:TA}(ha:OkA a)(hr:iY a=true):OkS (gI s a).1:=by
 unfold gI;split
 ·exact h
 ·rename_i hc
  have hc:jU a=true:=by cases e:jU a with | true=>rfl | false=>exact absurd e hc
  have hw:=(acH (Sc h) ha hr hc).c;split
  ·rename_i q
   unfold wrM at hw;rw[if_pos q]at hw;exact⟨h.u,h.l,h.a,hw⟩
  ·split
   ·exact h
   ·split
    ·exact h
    ·exact⟨h.u,h.l,J9 h.a ha.w,h.c⟩
theorem eight{α:Type}{l:List α}(h:l.length=8):∃a b c d e f g i,l=[a,b,c,d,e,f,g,i]:=by
 match l,h with
 | [a,b,c,d,e,f,g,i],_=>exact⟨a,b,c,d,e,f,g,i,rfl⟩
theorem apS{α:Type}{l:List α}{z:α}(h:l.length=8):[l.getD 0 z,l.getD 1 z,l.getD 2 z,l.getD 3 z,l.getD 4 z,l.getD 5 z,l.getD 6 z,l.getD 7 z]=l:=by obtain⟨a,b,c,d,e,f,g,i,rfl⟩:=eight h;rfl
theorem Dm{a:TAg}(h1:a.2.2.2.2.2.1.2.1.length=8)(h2:a.2.2.2.2.2.1.2.2.length=8):gH a=a:=by unfold gH;rw[apS h1,apS h2]
def aaw(x:Int)(s:TSl)(a:TA):Option (As vC.rs) :=
 alc x s.2.2.2 s.1 s.2.1 s.2.2.1.1 s.2.2.1.2.1.1 s.2.2.1.2.1.2 s.2.2.1.2.2.1 s.2.2.1.2.2.2.1 s.2.2.1.2.2.2.2.1 s.2.2.1.2.2.2.2.2.1.1
  (s.2.2.1.2.2.2.2.2.1.2.1.getD 0 false) (s.2.2.1.2.2.2.2.2.1.2.1.getD 1 false) (s.2.2.1.2.2.2.2.2.1.2.1.getD 2 false) (s.2.2.1.2.2.2.2.2.1.2.1.getD 3 false) (s.2.2.1.2.2.2.2.2.1.2.1.getD 4 false) (s.2.2.1.2.2.2.2.2.1.2.1.getD 5 false) (s.2.2.1.2.2.2.2.2.1.2.1.getD 6 false) (s.2.2.1.2.2.2.2.2.1.2.1.getD 7 false)
  (s.2.2.1.2.2.2.2.2.1.2.2.getD 0 (0,[])).1 (s.2.2.1.2.2.2.2.2.1.2.2.getD 0 (0,[])).2 (s.2.2.1.2.2.2.2.2.1.2.2.getD 1 (0,[])).1 (s.2.2.1.2.2.2.2.2.1.2.2.getD 1 (0,[])).2 (s.2.2.1.2.2.2.2.2.1.2.2.getD 2 (0,[])).1 (s.2.2.1.2.2.2.2.2.1.2.2.getD 2 (0,[])).2 (s.2.2.1.2.2.2.2.2.1.2.2.getD 3 (0,[])).1 (s.2.2.1.2.2.2.2.2.1.2.2.getD 3 (0,[])).2 (s.2.2.1.2.2.2.2.2.1.2.2.getD 4 (0,[])).1 (s.2.2.1.2.2.2.2.2.1.2.2.getD 4 (0,[])).2 (s.2.2.1.2.2.2.2.2.1.2.2.getD 5 (0,[])).1 (s.2.2.1.2.2.2.2.2.1.2.2.getD 5 (0,[])).2 (s.2.2.1.2.2.2.2.2.1.2.2.getD 6 (0,[])).1 (s.2.2.1.2.2.2.2.2.1.2.2.getD 6 (0,[])).2 (s.2.2.1.2.2.2.2.2.1.2.2.getD 7 (0,[])).1 (s.2.2.1.2.2.2.2.2.1.2.2.getD 7 (0,[])).2
  s.2.2.1.2.2.2.2.2.2 0 0 0 0 0 0 0 0 false false false false false false false false 0 0 0 0 0 0 0 0 0 0 0 0 0 a
abbrev RS:=Option (As vC.rs)
def EU(s:TSl)(a:TA)(p:Int):RS :=
 if eqi 272 p=true then zC (IY (a.2.2.2.2.1,())) fun y=>if nei y.2.1 0=true then zC (kI (a.1,3,())) fun y=>some (s,y.1,()) else amb (au vC.rs) [zC (zf (s.2.2.1,y.1,())) fun y=>if nei y.2.1 0=true then zC (kI (a.1,4,())) fun y=>some (s,y.1,()) else zC (oq (lS s (gH y.1),a,())) fun y_1=>some (lS s (gH y.1),y_1.1,()),zC (zf (s.2.2.1,y.1,())) fun y=>if nei y.2.1 0=true then zC (kI (a.1,4,())) fun y=>some (s,y.1,()) else zC (oq (lS s (gH y.1),a,())) fun y_1=>some (lS s (gH y.1),y_1.1,())]
 else if eqi 288 p=true then zC (I8 (a.2.2.2.2.1,())) fun y=>if nei y.2.2.2.2.1 0=true then zC (kI (a.1,3,())) fun y=>some (s,y.1,()) else amb (au vC.rs) [zC (zh (s.2.2.1,y.1,y.2.1,y.2.2.1,y.2.2.2.1,())) fun y=>if nei y.2.1 0=true then zC (kI (a.1,4,())) fun y=>some (s,y.1,()) else zC (oq (lS s (gH y.1),a,())) fun y_1=>some (lS s (gH y.1),y_1.1,()),zC (zh (s.2.2.1,y.1,y.2.1,y.2.2.1,y.2.2.2.1,())) fun y=>if nei y.2.1 0=true then zC (kI (a.1,4,())) fun y=>some (s,y.1,()) else zC (oq (lS s (gH y.1),a,())) fun y_1=>some (lS s (gH y.1),y_1.1,())]
 else zC (kI (a.1,2,())) fun y=>some (s,y.1,())
def aax(s:TSl)(a:TA):RS:=if le (add .i64 (cvt .i64 a.2.1) (zF a.2.2.2.2.2.length)) (zF s.2.2.2.length)=true then need (ge a.2.1 0) (need (le a.2.1 (zF s.2.2.2.length)) (need (le (zF s.2.2.2.length) (zF s.2.2.2.length)) (need (le (a.2.1+(zF s.2.2.2.length - a.2.1)) (zF s.2.2.2.length)) (zC (oq (Js s (s.2.2.2.take (zI a.2.1)++a.2.2.2.2.2.take (zI (zF s.2.2.2.length - a.2.1))++s.2.2.2.drop (zI a.2.1+(a.2.2.2.2.2.take (zI (zF s.2.2.2.length - a.2.1))).length)),a,())) fun y=>some (Js s (s.2.2.2.take (zI a.2.1)++a.2.2.2.2.2.take (zI (zF s.2.2.2.length - a.2.1))++s.2.2.2.drop (zI a.2.1+(a.2.2.2.2.2.take (zI (zF s.2.2.2.length - a.2.1))).length)),y.1,()))))) else zC (oq (s,a,())) fun y=>some (s,y.1,())
theorem acK{x:Int}{s:TSl}{a:TA}(h1:s.2.2.1.2.2.2.2.2.1.2.1.length=8)(h2:s.2.2.1.2.2.2.2.2.1.2.2.length=8):aaw x s a =
  if nei x 0=true then zC (kI (a.1,x,())) fun y=>some (s,y.1,())
  else if eqi a.1 5=true then aax s a
  else if eqi a.1 15=true then aax s a
  else if eqi (zF a.2.2.2.2.1.length) 0=true then zC (oq (s,a,())) fun y=>some (s,y.1,())
  else if eqi a.1 23=true then EU s a a.2.2.2.1
  else EU s a a.2.1:=by
 obtain⟨u,l,⟨bk,⟨lo,lf⟩,ph,tx,la,⟨st,hv,bs⟩,tk⟩,co⟩:=s;obtain⟨b0,b1,b2,b3,b4,b5,b6,b7,e1⟩:=eight h1;obtain⟨c0,c1,c2,c3,c4,c5,c6,c7,e2⟩:=eight h2;dsimp only at e1 e2;subst e1 e2;rfl
theorem al3{r:TR}(h:RR r):oO r=true:=by
 cases h with
 | ex f e h0 h h1 h2=>exact (wO h0 h h1 h2).rt
 | bits f l hf h1 h2 h3 =>
  have hb:zn (f,0,l,[],0,0)=true:=by unfold zn;dsimp only;rw[decide_eq_true h1,decide_eq_true h2,decide_eq_true h3,decide_eq_true rfl];rfl
  rcases hf with rfl | rfl<;>exact hb
 | words f l hf h1 h2 =>
  have hb:qU (f,0,[],l,0,0)=true:=by unfold qU;dsimp only;rw[decide_eq_true h1,decide_eq_true h2,decide_eq_true rfl];rfl
  rcases hf with rfl | rfl | rfl<;>exact hb
 | coil b p =>
  show obR (5,0,[b],[],p,0)=true;unfold obR;rw[decide_eq_true rfl];rfl
 | word x p =>
  show owR (6,0,[],[x],p,0)=true;unfold owR;rw[decide_eq_true rfl];rfl
 | coils p n h1 h2 =>
  show ctR 1968 (15,0,[],[],p,n)=true;unfold ctR;dsimp only;rw[decide_eq_true h1,decide_eq_true h2,decide_eq_true rfl];rfl
 | regs p n h1 h2 =>
  show ctR 123 (16,0,[],[],p,n)=true;unfold ctR;dsimp only;rw[decide_eq_true h1,decide_eq_true h2,decide_eq_true rfl];rfl
theorem sN{r:TR}(h:OkR r)(hr:RR r):Rep r:=⟨h,hr,al3 hr⟩
theorem Se{x:ay}(hf:gD x=true->∀w∈x.2,0≤w∧w≤65535):∀w∈itB x,0≤w∧w≤65535:=by
 intro w hw;unfold itB at hw;split at hw
 ·rename_i h
  have h2:=of_decide_eq_true h;grind
 simp_all
theorem acL{s:nA}{o n:Int}(ho:0≤o∧o≤65535)(hn:0≤n∧n≤7)(ht:0≤s.1∧s.1≤4294967295)(hw:∀b∈s.2.2,∀w∈b.2,0≤w∧w≤65535):∀w∈jX s o n,0≤w∧w≤65535:=by
 intro w hm;unfold jX at hm;split at hm
 ·rename_i x h1 h2
  unfold iB at hm;rcases List.mem_cons.1 hm with e | hm
  ·omega
  ·rcases List.mem_cons.1 hm with e | hm
   ·omega
   ·rcases List.mem_cons.1 hm with e | hm
    ·omega
    ·rcases List.mem_cons.1 hm with e | hm
     ·omega
     ·exact Se (fun _=>hw x (zY h2)) w hm
 simp_all
theorem Ka{a:TAg}(h:OkG a):∀w∈gM a,0≤w∧w≤65535:=by
 intro w hw;have h1:=h.l1;have h2:=h.pr;have h3:=h.tr;have h4:=h.ar;have hc:a.2.2.2.2.2.1.2.1.count true≤8:=by have:=List.count_le_length (a:=true) (l:=a.2.2.2.2.2.1.2.1);have:=h.hl;omega
 simp only[gM,List.mem_cons,List.not_mem_nil,or_false]at hw;omega
theorem OkG.st{a:TAg}(h:OkG a):0≤a.2.2.2.2.2.1.1∧a.2.2.2.2.2.1.1≤4294967295:=by
 by_cases e:a.2.2.1=0
 ·have:=(h.p0 e).2.2.1;omega
 ·have:=(h.pn e).2.2;have:=h.tr;omega
theorem acM{a:TAg}(h:OkG a):∀w∈lJ a,0≤w∧w≤65535:=by
 have hg:∀k:Nat,k≤8->∀w∈(List.range k).foldl (fun h b=>cpy h (512+b*32) (jX a.2.2.2.2.2.1 a.2.1.1 (b:Int))) (cpy (cpy (zE 756 0) 0 a.1) 256 (gM a)),0≤w∧w≤65535:=by
  intro k
  induction k with
  | zero =>
   intro _;rw[List.range_zero,List.foldl_nil];exact Jq (P:=fun y=>0≤y∧y≤65535) (Jq (P:=fun y=>0≤y∧y≤65535) (fun y hy=>by simp_all) h.bw) (Ka h)
  | succ k ih =>
   intro hk;rw[List.range_succ,List.foldl_append,List.foldl_cons,List.foldl_nil];exact Jq (P:=fun y=>0≤y∧y≤65535) (ih (by omega)) (acL h.l1 ⟨by omega,by omega⟩ h.st h.wb)
 exact hg 8 (by omega)
theorem FY{c:List Bool}{p n:Nat}(h:p+n≤c.length):(l7 c p n).length=(n+7) / 8*8:=by grind[l7,zZ,kB,List.length_drop,kD]
theorem sO{f:Int}(h0:0≤f)(h1:f≤255){b:List Bool}{w:List Int}(hb:b.length≤100000)(hw:∀x∈w,0≤x∧x≤65535)(hl:w.length≤100000):OkR (f,0,b,w,0,0) :=
 ⟨h0,h1,(by decide:(0:Int)≤0),(by decide:(0:Int)≤255),hw,(by decide:(0:Int)≤0),(by decide:(0:Int)≤65535),(by decide:(0:Int)≤0),(by decide:(0:Int)≤65535),hb,hl⟩
theorem Jt:∀x∈([]:List Int),0≤x∧x≤65535:=fun x hx=>by cases hx
theorem Cg{s:TSl}(h:OkS s){a:TA}(ha:OkA a)(hr:iY a=true)(hc:jU a=true):Rep (uz s a):=by
 have p0:=ha.at0;have p1:=ha.at1;have hcl:=h.c;have hil:=Qk s.2.2.1;have hhl:=J7 h.a;have hhr:=acM h.a;have hsr:=Ka h.a;unfold jU at hc
 cases mD hr with
 | bits f p n hf g1 g2 =>
  obtain⟨p,rfl⟩:=zN (show 0≤p from p0);obtain⟨n,rfl⟩:=zN (show 0≤n by omega);rcases hf with rfl | rfl
  ·have hc:(p:Int)+(n:Int)≤16:=of_decide_eq_true hc
   have hl:=FY (c:=s.2.2.2) (p:=p) (n:=n) (by omega);exact sN (sO (f:=1) (by decide) (by decide) (by show (l7 s.2.2.2 p n).length≤_;omega) Jt (by decide)) (.bits 1 _ (Or.inl rfl) (by show 8≤(l7 s.2.2.2 p n).length;omega) (by show (l7 s.2.2.2 p n).length≤2000;omega) (by show (l7 s.2.2.2 p n).length%8=0;omega))
  ·have hc:(p:Int)+(n:Int)≤8:=of_decide_eq_true hc
   have hl:=FY (c:=tH s.2.2.1) (p:=p) (n:=n) (by omega);exact sN (sO (f:=2) (by decide) (by decide) (by show (l7 (tH s.2.2.1) p n).length≤_;omega) Jt (by decide)) (.bits 2 _ (Or.inr rfl) (by show 8≤(l7 (tH s.2.2.1) p n).length;omega) (by show (l7 (tH s.2.2.1) p n).length≤2000;omega) (by show (l7 (tH s.2.2.1) p n).length%8=0;omega))
 | words f p n hf g1 g2 =>
  obtain⟨p,rfl⟩:=zN (show 0≤p from p0);obtain⟨n,rfl⟩:=zN (show 0≤n by omega);rcases hf with rfl | rfl
  ·have hle:=Qh (p:=(p:Int)) (m:=n) (by omega) hc
   have hl:((lJ s.2.2.1).drop p |>.take n).length=n:=by grind
   exact sN (sO (f:=3) (by decide) (by decide) (by decide) (fun x hx=>hhr x (List.mem_of_mem_drop (List.mem_of_mem_take hx))) (by show ((lJ s.2.2.1).drop p |>.take n).length≤_;omega)) (.words 3 _ (Or.inl rfl) (by show 1≤((lJ s.2.2.1).drop p |>.take n).length;omega) (by show ((lJ s.2.2.1).drop p |>.take n).length≤125;omega))
  ·have hc:(p:Int)+(n:Int)≤8:=of_decide_eq_true hc
   have hl:((gM s.2.2.1).drop p |>.take n).length=n:=by rw[kB,List.length_drop];show min n (8 - p)=n;omega
   exact sN (sO (f:=4) (by decide) (by decide) (by decide) (fun x hx=>hsr x (List.mem_of_mem_drop (List.mem_of_mem_take hx))) (by show ((gM s.2.2.1).drop p |>.take n).length≤_;omega)) (.words 4 _ (Or.inr (Or.inl rfl)) (by show 1≤((gM s.2.2.1).drop p |>.take n).length;omega) (by show ((gM s.2.2.1).drop p |>.take n).length≤125;omega))
 | coil p b =>
  exact sN ⟨(by decide:(0:Int)≤5),(by decide:(5:Int)≤255),(by decide:(0:Int)≤0),(by decide:(0:Int)≤255),Jt,p0,p1,(by decide:(0:Int)≤0),(by decide:(0:Int)≤65535),(by decide:1≤100000),(by decide:0≤100000)⟩ (.coil b p)
 | word p x =>
  simp_all
 | coils p l g1 g2 =>
  exact sN ⟨(by decide:(0:Int)≤15),(by decide:(15:Int)≤255),(by decide:(0:Int)≤0),(by decide:(0:Int)≤255),Jt,p0,p1,by show (0:Int)≤(l.length:Int);omega,by show (l.length:Int)≤65535;omega,(by decide:0≤100000),(by decide:0≤100000)⟩ (.coils p (l.length:Int) (by omega) (by omega))
 | regs p l g1 g2 =>
  exact sN ⟨(by decide:(0:Int)≤16),(by decide:(16:Int)≤255),(by decide:(0:Int)≤0),(by decide:(0:Int)≤255),Jt,p0,p1,by show (0:Int)≤(l.length:Int);omega,by show (l.length:Int)≤65535;omega,(by decide:0≤100000),(by decide:0≤100000)⟩ (.regs p (l.length:Int) (by omega) (by omega))
 | swap p n t l g1 g2 g3 g4 =>
  obtain⟨p,rfl⟩:=zN (show 0≤p from p0);obtain⟨n,rfl⟩:=zN (show 0≤n by omega);have hc1:=(zO _ _ ▸ (show (rdH (p:Int) n && decide (t=272∧l.length=8∨t=288∧l.length=20))=true from hc):_∧_).1;have hle:=Qh (p:=(p:Int)) (m:=n) (by omega) hc1;have hl:((lJ s.2.2.1).drop p |>.take n).length=n:=by grind
  exact sN (sO (f:=23) (by decide) (by decide) (by decide) (fun x hx=>hhr x (List.mem_of_mem_drop (List.mem_of_mem_take hx))) (by show ((lJ s.2.2.1).drop p |>.take n).length≤_;omega)) (.words 23 _ (Or.inr (Or.inr rfl)) (by show 1≤((lJ s.2.2.1).drop p |>.take n).length;omega) (by show ((lJ s.2.2.1).drop p |>.take n).length≤125;omega))
theorem acN(a:TAg)(p:Int)(w:List Int):(iC a p w).2=0∨(iC a p w).2=3∨(iC a p w).2=4:=by unfold iC;grind
theorem aCf{a:TA}(h:¬ jU a=false):jU a=true:=by simp_all
theorem Kb{s:TSl}(h:OkS s){a:TA}(ha:OkA a)(hr:iY a=true):Rep (gI s a).2:=by
 have hf:=Dl hr;have ok:=vM h ha hr;unfold gI at ok ⊢;split
 ·grind[wO]
 ·rename_i hc
  rw[if_neg hc]at ok;have hc:=aCf hc;split
  ·simp_all[if_pos,Cg]
  ·rename_i q
   rw[if_neg q]at ok;split
   ·simp_all[Cg]
   ·rename_i q2
    rw[if_neg q2]at ok;split
    ·grind[acN,atW,wO]
    simp_all[if_neg,Cg]
theorem atJ{s:TSl}(h:OkS s){a:TA}(ha:OkA a)(hr:iY a=true)(hc:jU a=true){p:Int}(hp:p=272∨p=288) :
  EU s a p=some (if (iC s.2.2.1 p a.2.2.2.2.1).2≠0 then (s,(a.1,(iC s.2.2.1 p a.2.2.2.2.1).2,[],[],0,0),()) else (lS s (iC s.2.2.1 p a.2.2.2.2.1).1,uz (lS s (iC s.2.2.1 p a.2.2.2.2.1).1) a,())):=by
 have hf:=Dl hr;have w4:∀e,kI (a.1,e,())=some ((a.1,e,[],[],0,0),()):=fun e=>by grind[Ac,FU]
 have hok:=J9 h.a (p:=p) ha.w;have fin:∀g:TAg,OkG g->zC (oq (lS s (gH g),a,())) (fun y_1=>some (lS s (gH g),y_1.1,()))=(some (lS s g,uz (lS s g) a,()):RS):=fun g hg=>by rw[Dm hg.hl hg.sl,Ae (s:=lS s g) ⟨h.u,h.l,hg,h.c⟩ ha hr hc];rfl
 unfold EU iC at *;by_cases e:p=272
 ·rw[if_pos e]at hok
  rw[if_pos (bu.2 e.symm),if_pos e,acJ ha.w,zD,qR (eqAs_refl _)];obtain⟨r1,r2,r3⟩:=J8 ha.w;dsimp only;by_cases q1:(kW a.2.2.2.2.1).2≠0
  ·simp_all[if_pos,fQ]
  ·rw[if_neg q1]at hok
   rw[if_neg (fun x=>q1 (fQ.1 x)),if_neg q1,atB h.a r3,zD];dsimp only;by_cases q2:(doS (fV s.2.2.1) (kW a.2.2.2.2.1).1).2≠0
   ·simp_all[if_pos,fQ]
   simp_all[if_neg,fQ]
 ·have e2:p=288:=by omega
  rw[if_neg e]at hok;rw[if_neg (fun x=>e (bu.1 x).symm),if_pos (bu.2 e2.symm),if_neg e,al0 ha.w,zD,qR (eqAs_refl _)];dsimp only;by_cases q1:(rdB a.2.2.2.2.1).2.2.2.2≠0
  ·simp_all[if_pos,fQ]
  ·rw[if_neg q1]at hok
   obtain⟨r1,r2,r3,r4⟩:=Sd ha.w (Classical.not_not.1 q1);rw[if_neg (fun x=>q1 (fQ.1 x)),if_neg q1,arc h.a r2 r3,zD];dsimp only;by_cases q2:(putA (fV s.2.2.1) (rdB a.2.2.2.2.1).1 (rdB a.2.2.2.2.1).2.1 (rdB a.2.2.2.2.1).2.2.1 (rdB a.2.2.2.2.1).2.2.2.1).2≠0
   ·simp_all[if_pos,fQ]
   simp_all[if_neg,fQ]
theorem acO{s:TSl}(h:OkS s){a:TA}(ha:OkA a)(hr:iY a=true)(hc:jU a=true)(hf:a.1=5∨a.1=15):aax s a=some (Js s (cpy s.2.2.2 a.2.1.toNat a.2.2.2.2.2),uz (Js s (cpy s.2.2.2 a.2.1.toNat a.2.2.2.2.2)) a,()):=by
 have ok:=vM h ha hr;unfold gI at ok;rw[if_neg (by simp_all),if_pos hf]at ok;have p0:=ha.at0;have p1:=ha.at1;have hcl:=h.c;have lb:=ha.lb;have hle:=hc;unfold jU at hle;rw[if_neg (by omega),if_neg (by omega),if_neg (by omega),if_pos hf,decide_eq_true_eq]at hle;unfold aax;have e1:add .i64 (cvt .i64 a.2.1) (zF a.2.2.2.2.2.length)=a.2.1+(a.2.2.2.2.2.length:Int):=by grind[iU,bn,jO]
 rw[e1,if_pos (iw.2 (by simp_all)),eu (gZ.2 p0),eu (iw.2 (by grind)),eu (iw.2 (Int.le_refl _)),eu (iw.2 (by omega)),oV (by grind),Ae ok ha hr hc];rfl
theorem al4{s:TSl}(h:OkS s){a:TA}(ha:OkA a)(hr:iY a=true):aaw (if jU a=true then 0 else 2) s a=some ((gI s a).1,(gI s a).2,()):=by
 have hf:=Dl hr;have w4:∀e,kI (a.1,e,())=some ((a.1,e,[],[],0,0),()):=fun e=>by grind[Ac,FU]
 rw[acK h.a.hl h.a.sl];unfold gI
 cases hc:jU a with
 | false =>
  simp_all[Bool.false_eq_true,if_false,if_true,if_pos,nei]
 | true =>
  simp only[if_true,Bool.true_eq_false,if_false];rw[if_neg (show ¬ nei 0 0=true by decide)];by_cases q5:a.1=5
  ·simp_all[if_pos,bu,acO,Or.inl]
  ·rw[if_neg (fun e=>q5 (bu.1 e))]
   by_cases q15:a.1=15
   ·simp_all[if_pos,bu,acO,Or.inr]
   ·rw[if_neg (fun e=>q15 (bu.1 e)),if_neg (show ¬ (a.1=5∨a.1=15) by omega)]
    by_cases q0:a.2.2.2.2.1.length=0
    ·rw[if_pos (bu.2 (by simp_all)),if_pos q0,Ae h ha hr hc]
     rfl
    ·rw[if_neg (fun e=>q0 (by simp_all[bu,bn])),if_neg q0]
     have hp:atW a=272∨atW a=288:=by
      have hc2:=hc;unfold jU at hc2
      have hc3:¬ (a.1=1∨a.1=2∨a.1=3∨a.1=4):=by
       intro e;apply q0
       cases mD hr with
       | bits f p n hf=>rfl
       | words f p n hf=>rfl
       | coil p b=>rfl
       | word p x=>omega
       | coils p l=>rfl
       | regs p l=>omega
       | swap p n t l=>omega
      rw[if_neg (by omega),if_neg (by omega),if_neg (by omega),if_neg (by omega)]at hc2;unfold atW;grind
     have hcm:=atJ h ha hr hc hp
     have e2:(if eqi a.1 23=true then EU s a a.2.2.2.1 else EU s a a.2.1)=EU s a (atW a):=by
      unfold atW;by_cases q23:a.1=23
      ·simp_all[if_pos,bu]
      simp_all[if_neg,bu]
     grind
def l9(b:List Int):TA×Int:=((Bt (b,())).map fun y=>(y.1,y.2.1)).getD (zA,1)
theorem acP{b:List Int}(hb:∀x∈b,0≤x∧x≤255):Bt (b,())=some ((l9 b).1,(l9 b).2,()) ∧
  (((l9 b).2=0∧OkA (l9 b).1∧iY (l9 b).1=true∧toS (jJ (l9 b).1)=toS b)∨(((l9 b).2=1∨(l9 b).2=3)∧(l9 b).1=(b.headD 0,0,0,0,[],[]))):=by
 match b with
 | []=>exact⟨rfl,Or.inr ⟨Or.inl rfl,rfl⟩⟩
 | f::r =>
  obtain⟨a,e,h1,h2⟩:=alV hb;simp_all[l9]
def kL(s:TSl)(b:List Int):TSl×TR:=if (l9 b).2≠0 then (s,(rem (b.headD 0) 128,(l9 b).2,[],[],0,0)) else gI s (l9 b).1
theorem al5{b:List Int}(hb:∀x∈b,0≤x∧x≤255):0≤b.headD 0∧b.headD 0≤255:=by
 match b with
 | []=>simp
 | f::r=>simp_all
theorem arh{x:Int}(h0:0≤x):0≤rem x 128∧rem x 128<128:=by grind[rem,kC]
theorem vN{s:TSl}(h:OkS s){b:List Int}(hb:∀x∈b,0≤x∧x≤255):OkS (kL s b).1∧Rep (kL s b).2:=by unfold kL;obtain⟨_,h2⟩:=acP hb;grind[arh,al5,wO,vM,Kb]
theorem acQ{s:TSl}(h:OkS s):XP (s,())=some (s.1,s.2.1,s.2.2.1.1,s.2.2.1.2.1.1,s.2.2.1.2.1.2,s.2.2.1.2.2.1,s.2.2.1.2.2.2.1,s.2.2.1.2.2.2.2.1,s.2.2.1.2.2.2.2.2.1.1,
  s.2.2.1.2.2.2.2.2.1.2.1.getD 0 false,s.2.2.1.2.2.2.2.2.1.2.1.getD 1 false,s.2.2.1.2.2.2.2.2.1.2.1.getD 2 false,s.2.2.1.2.2.2.2.2.1.2.1.getD 3 false,s.2.2.1.2.2.2.2.2.1.2.1.getD 4 false,s.2.2.1.2.2.2.2.2.1.2.1.getD 5 false,s.2.2.1.2.2.2.2.2.1.2.1.getD 6 false,s.2.2.1.2.2.2.2.2.1.2.1.getD 7 false,
  (s.2.2.1.2.2.2.2.2.1.2.2.getD 0 (0,[])).1,(s.2.2.1.2.2.2.2.2.1.2.2.getD 0 (0,[])).2,(s.2.2.1.2.2.2.2.2.1.2.2.getD 1 (0,[])).1,(s.2.2.1.2.2.2.2.2.1.2.2.getD 1 (0,[])).2,(s.2.2.1.2.2.2.2.2.1.2.2.getD 2 (0,[])).1,(s.2.2.1.2.2.2.2.2.1.2.2.getD 2 (0,[])).2,(s.2.2.1.2.2.2.2.2.1.2.2.getD 3 (0,[])).1,(s.2.2.1.2.2.2.2.2.1.2.2.getD 3 (0,[])).2,(s.2.2.1.2.2.2.2.2.1.2.2.getD 4 (0,[])).1,(s.2.2.1.2.2.2.2.2.1.2.2.getD 4 (0,[])).2,(s.2.2.1.2.2.2.2.2.1.2.2.getD 5 (0,[])).1,(s.2.2.1.2.2.2.2.2.1.2.2.getD 5 (0,[])).2,(s.2.2.1.2.2.2.2.2.1.2.2.getD 6 (0,[])).1,(s.2.2.1.2.2.2.2.2.1.2.2.getD 6 (0,[])).2,(s.2.2.1.2.2.2.2.2.1.2.2.getD 7 (0,[])).1,(s.2.2.1.2.2.2.2.2.1.2.2.getD 7 (0,[])).2,
  s.2.2.1.2.2.2.2.2.2,s.2.2.2,()):=by
 have hw:∀i,((s.2.2.1.2.2.2.2.2.1.2.2.getD i (0,[])).2).length≤1000000:=fun i=>by
  rw[zX]
  cases hx:s.2.2.1.2.2.2.2.2.1.2.2[i]? with
  | none=>simp
  | some x=>have:=h.a.bb x (zY hx);grind
 have hc:=h.c;have hbl:=h.a.bl;show aix s=_;unfold aix;rw[Ad (by omega),zD,nY (by omega),zD,nY (hw 0),zD,nY (hw 1),zD,nY (hw 2),zD,nY (hw 3),zD,nY (hw 4),zD,nY (hw 5),zD,nY (hw 6),zD,nY (hw 7),zD]
theorem FZ{s:TSl}(h:OkS s){b:List Int}(hb:∀x∈b,0≤x∧x≤255):I9 (s,b,())=some ((kL s b).1,kG (kL s b).2,()):=by
 obtain⟨ok,rp⟩:=vN h hb;obtain⟨h1,h2⟩:=acP hb;show alf s b=_;unfold alf;rw[acQ h,zD]
 have key:zC (Bt (b,())) (fun y=>if eqi y.2.1 0=true then zC (vB ()) fun y_1=>zC (EJ (y_1.1,y.1,())) fun y_2=>aaw y_2.1 s y.1 else aaw y.2.1 s y.1)=some ((kL s b).1,(kL s b).2,()):=by
  rw[h1,zD];dsimp only;unfold kL;rcases h2 with ⟨e,ha,hr,_⟩ | ⟨e,e2⟩
  ·rw[if_pos (bu.2 e),Qf,zD,Qi ha hr,zD,if_neg (show ¬ ((l9 b).2≠0) by omega)]
   grind[al4]
  ·have hne:(l9 b).2≠0:=by omega
   rw[if_neg (fun x=>hne (bu.1 x)),if_pos hne,acK h.a.hl h.a.sl,if_pos (fQ.2 hne),e2,Ac];rfl
 refine (congrArg (fun z=>zC z fun y=>zC (PD (y.2.1,())) fun y_1=>(some (y.1,y_1.1,()):Option (As ale.rs))) key).trans ?_;rw[zD,acE rp];rfl
def sP(b:List Int):List Int:=b.take 64++zE (64 - b.length) 0
theorem F3(b:List Int):(sP b).length=64:=by grind[sP,zZ,kB,kD]
theorem aay{b:List Int}(h:∀x∈b,0≤x∧x≤65535):∀x∈sP b,0≤x∧x≤65535:=by
 intro x hx;rcases List.mem_append.1 hx with e | e
 ·grind
 simp_all
theorem al6(b:List Int):KJ (b,())=some (sP b,()):=by show Ul b=_;unfold Ul sP;grind
theorem al7{a:TA}(ha:OkA a)(hr:iY a=true):l9 (jJ a)=(a,0):=by
 have hl:=(rM (mD hr)).1;unfold l9;have:Bt (jJ a,())=some (a,0,()):=by show OG (jJ a)=_;unfold OG;rw[if_neg (by grind[bu,bn]),acp ha hr];rfl
 simp_all
theorem Qr{s:TSl}{a:TA}(ha:OkA a)(hr:iY a=true):kL s (jJ a)=gI s a:=by simp_all[kL,al7,if_neg]
theorem Kc{a:TAg}(h:OkG a){p n:Nat}(hd:p+n≤512):∀k:Nat,k≤8->(((List.range k).foldl (fun h b=>cpy h (512+b*32) (jX a.2.2.2.2.2.1 a.2.1.1 (b:Int))) (cpy (cpy (zE 756 0) 0 a.1) 256 (gM a))).drop p).take n=((cpy (cpy (zE 756 0) 0 a.1) 256 (gM a)).drop p).take n
 | 0,_=>rfl
 | k+1,hk=>by have hl:=sM h k (by omega);rw[List.range_succ,List.foldl_append,List.foldl_cons,List.foldl_nil,R9 (by grind[qB]) (Or.inr (by omega)),Kc h hd k (by omega)]
theorem al8{a:TAg}(h:OkG a):(cpy (zE 756 (0:Int)) 0 a.1).length=756:=by have:=h.bl;simp_all[rV,kD]
theorem Ke{a:TAg}(h:OkG a):((lJ a).drop 256).take 8=gM a:=by unfold lJ;rw[Kc h (by omega) 8 (by omega)];exact acF (w:=gM a) (by rw[al8 h];show 256+8≤756;omega)
theorem acR{a:TAg}(h:OkG a){i:Nat}(hi:i<8):((lJ a).drop (512+i*32)).take 20=jX a.2.2.2.2.2.1 a.2.1.1 (i:Int):=by
 have hg:∀k:Nat,i<k->k≤8->(((List.range k).foldl (fun h b=>cpy h (512+b*32) (jX a.2.2.2.2.2.1 a.2.1.1 (b:Int))) (cpy (cpy (zE 756 0) 0 a.1) 256 (gM a))).drop (512+i*32)).take 20=jX a.2.2.2.2.2.1 a.2.1.1 (i:Int):=by
  intro k
  induction k with
  | zero=>omega
  | succ k ih =>
   intro h1 h2;have hl:=sM h k (by omega);rw[List.range_succ,List.foldl_append,List.foldl_cons,List.foldl_nil];by_cases e:i=k
   ·grind[acF,List.range,cpy,jX,Int,zE,gM,qB]
   ·rw[R9 (by grind[qB]) (Or.inr (by omega)),ih (by omega) (by omega)]
 exact hg 8 hi (Nat.le_refl _)
theorem Kg{a b:List Int}(h:a.length≤1000000):BQ (a,b,())=some (decide (a=b),()):=by
 show aab PO a b=_;unfold aab;by_cases hl:a.length=b.length
 ·rw[if_neg (by simp_all[fQ,bn])]
  unfold PO;have hz:(a.zip b).length=a.length:=by simp_all
  rw[<- B6 (ne:=nei) (fun a b=>by rfl) a b hl];refine qy (xs:=a.zip b) (mk:=fun i _=>(a,b,zF a.length,(i:Int))) ?_ ?_ a.length 0 () _ (by omega) (by omega)
  ·intro self i acc x hx
   have hi:=(List.getElem?_eq_some_iff.1 hx).1;obtain⟨h1,h2⟩:=FR hl hx;show PN _ a b (zF a.length) (i:Int)=_;unfold PN;rw[if_pos (by grind[dw,bn]),gu h1,zD,gu h2,zD,iT (by omega)]
  simp_all[PN,zF,Nat,Int,if_neg,dw,bn]
 ·rw[if_pos (by grind[fQ,bn]),decide_eq_false (fun e=>hl (by rw[e]))]
theorem acS{c:TCm}(h1:0≤c.2.1∧c.2.1≤255)(h2:0≤c.2.2.1∧c.2.2.1≤4294967295)(h3:0≤c.2.2.2.2∧c.2.2.2.2≤4294967295):VF (c,())=some ([c.1,c.2.1,c.2.2.1 / 65536,c.2.2.1%65536,c.2.2.2.1,c.2.2.2.2 / 65536,c.2.2.2.2%65536,0],()):=by show afL c=_;grind[afL,parts_eq,cvt,aac]
theorem Af{s:TSl}(h:OkS s):Ez (s,())=some (s,()):=by
 have hc:=h.c;have hbl:=h.a.bl;obtain⟨u,l,⟨bk,ls,ph,tx,la,⟨st,hv,bs⟩,tk⟩,co⟩:=s;have hsl:bs.length=8:=h.a.sl;have hbb:∀b∈bs,b.2.length≤1000:=h.a.bb;show XO Iv (u,l,(bk,ls,ph,tx,la,(st,hv,bs),tk),co)=_;unfold XO;dsimp only at hc hbl ⊢;rw[Ca (by omega),zD,nY (by omega),zD];show Iv 0 0 0 [(u,l,(bk,ls,ph,tx,la,(st,hv,bs),tk),co)] _=_;unfold Iv;refine lU (N:=8) (mk:=fun i=>(0,0,(i:Int),[(u,l,(bk,ls,ph,tx,la,(st,hv,bs),tk),co)],_)) ?_ ?_ 8 0 _ (by omega) (by omega)
 ·intro self i hi
  show Iu _ 0 0 (i:Int) [(u,l,(bk,ls,ph,tx,la,(st,hv,bs),tk),co)] _=_;obtain⟨b,hb⟩:=jg (xs:=bs) (i:=i) (by omega);have l8:lt (i:Int) 8=true:=dw.2 (by omega);have g0:ge (i:Int) 0=true:=gZ.2 (by omega)
  have hset:bs.set i (b.1,b.2)=bs:=by
   apply List.ext_getElem?;intro j;by_cases e:i=j
   ·subst e
    rw[List.getElem?_set_self (by omega),hb]
   ·rw[List.getElem?_set_ne e]
  unfold Iu;rw[if_pos l8,eu g0,eu l8,iX,zD];dsimp only;rw[gu hb,zD,nY (by have:=hbb b (zY hb);omega),zD,zD];dsimp only;rw[gu hb,zD,iT (by omega),zQ,hset];rfl
 ·intro self
  show Iu _ 0 0 (8:Int) [(u,l,(bk,ls,ph,tx,la,(st,hv,bs),tk),co)] _=_;unfold Iu;rw[if_neg (by decide)];rfl
def Dn(s:TSl):TSl:=lS s (tickA (fV s.2.2.1))
def Dp(s:TSl):TSl:=(s.1,s.2.1,bootA (fV s.2.2.1),zE 16 false)
theorem al9{s:TSl}(h:OkS s):OkS (Dn s):=⟨h.u,h.l,h.a.own.tickA,h.c⟩
theorem ama{s:TSl}(h:OkS s):OkS (Dp s):=⟨h.u,h.l,h.a.own.bootA,rfl⟩
def pZ(s:TSl)(f:List Int):TSl×List Int :=
 if s.2.1=2 then
  if (gB f).2≠0∨(gB f).1.2.1≠s.1 then (s,[]) else ((kL s (gB f).1.2.2).1,kJ (gB f).1.1 (gB f).1.2.1 (kG (kL s (gB f).1.2.2).2))
 else
  if (gW f).2.2≠0∨(gW f).1≠s.1 then (s,[]) else ((kL s (gW f).2.1).1,iF ((gW f).1::kG (kL s (gW f).2.1).2))
theorem Sf{r:TR}(h:Rep r):2≤(kG r).length∧(kG r).length≤253:=zw h.rr
theorem Dz{f:List Int}(hf:∀x∈f,0≤x∧x≤255):∀x∈(gB f).1.2.2,0≤x∧x≤255:=by
 intro x hx;unfold gB at hx;split at hx
 ·rename_i b0 b1 b2 b3 b4 b5 b6 pdu
  have hp:∀y∈pdu,0≤y∧y≤255:=fun y hy=>hf y (by simp[hy]);revert hx
  repeat' split
  all_goals first | exact fun hx=>hp x hx | (intro hx;cases hx)
 ·cases hx
theorem F4{f:List Int}(hf:∀x∈f,0≤x∧x≤255):∀x∈(gW f).2.1,0≤x∧x≤255:=by
 intro x hx;unfold gW at hx;split at hx
 ·cases hx
 ·split at hx
  ·cases hx
  ·rename_i h0
   have hc:∀y∈(cutV f).1,0≤y∧y≤255:=by
    intro y hy;unfold cutV at hy;split at hy
    ·cases hy
    ·split at hy
     ·exact hf y (List.mem_of_mem_take hy)
     ·cases hy
   split at hx
   ·cases hx
   ·rename_i a r he
    rw[he]at hc;split at hx
    ·exact hc x (List.mem_cons_of_mem _ hx)
    ·cases hx
theorem amc{s:TSl}(h:OkS s){f:List Int}(hf:∀x∈f,0≤x∧x≤255)(hl:f.length≤100000):PG (s,f,())=some ((pZ s f).1,(pZ s f).2,()):=by
 have hu:=h.u;show ZT Jc PE s f=_;unfold ZT pZ;by_cases hk:s.2.1=2
 ·rw[if_pos (bu.2 hk),if_pos hk,wD hl hf,zD]
  have hb:=Dz hf
  have K:∀t z,Jc 0 0 t [s] [z] (gB f).1=some (if t=true then (s,[],()) else ((kL s (gB f).1.2.2).1,if (gB f).1.2.1=s.1 then kJ (gB f).1.1 (gB f).1.2.1 (kG (kL s (gB f).1.2.2).2) else ((Jc 0 0 t [s] [z] (gB f).1).getD (s,[],())).2.1,())):=fun t z=>by
   cases t with
   | true =>
    show Ja 0 0 true [s] [z] (gB f).1=_;unfold Ja;rw[if_pos rfl,iX,zD,Af h];rfl
   | false =>
    obtain⟨ok,rp⟩:=vN h hb;have hlen:=Sf rp;have e:Jc 0 0 false [s] [z] (gB f).1=some ((kL s (gB f).1.2.2).1,kJ (gB f).1.1 (gB f).1.2.1 (kG (kL s (gB f).1.2.2).2),()):=by show Ja 0 0 false [s] [z] (gB f).1=_;unfold Ja;rw[if_neg (by decide),iX,zD,FZ h hb,zD,zD];dsimp only;rw[apP (by omega) hlen.2];rfl
    rw[e];simp
  by_cases h0:(gB f).2=0
  ·rw[if_neg (fun e=>fQ.1 e h0)]
   by_cases h1:(gB f).1.2.1=s.1
   ·have hn:nei (gB f).1.2.1 s.1=false:=by rw[Bool.eq_false_iff];exact fun e=>fQ.1 e h1
    dsimp only;rw[hn,K,if_neg (by decide),if_pos h1,if_neg (by rintro (e | e);exact e h0;exact e h1)]
   ·dsimp only
    rw[fQ.2 h1,K,if_pos rfl,if_pos (Or.inr h1)]
  ·rw[if_pos (fQ.2 h0)]
   dsimp only;rw[K,if_pos rfl,if_pos (Or.inl h0)]
 ·rw[if_neg (fun e=>hk (bu.1 e)),if_neg hk,Da,zD]
  have hb:=F4 hf;have Kt:∀z,PE 0 0 (gW f).1 (gW f).2.1 true [s] [z]=some (s,[],()):=fun z=>by show Jb 0 0 (gW f).1 (gW f).2.1 true [s] [z]=_;unfold Jb;rw[if_pos rfl,iX,zD,Af h];rfl
  have Kf:∀z,(gW f).1=s.1->PE 0 0 (gW f).1 (gW f).2.1 false [s] [z]=some ((kL s (gW f).2.1).1,iF ((gW f).1::kG (kL s (gW f).2.1).2),()):=fun z hz=>by obtain⟨ok,rp⟩:=vN h hb;have hlen:=Sf rp;show Jb 0 0 (gW f).1 (gW f).2.1 false [s] [z]=_;unfold Jb;rw[if_neg (by decide),iX,zD,FZ h hb,zD,zD];dsimp only;rw[RZ (by omega) (by omega) (by omega) hlen.2];rfl
  by_cases h0:(gW f).2.2=0
  ·rw[if_neg (fun e=>fQ.1 e h0)]
   by_cases h1:(gW f).1=s.1
   ·have hn:nei (gW f).1 s.1=false:=by rw[Bool.eq_false_iff];exact fun e=>fQ.1 e h1
    dsimp only;rw[hn,Kf _ h1,if_neg (by rintro (e | e);exact e h0;exact e h1)]
   ·dsimp only
    rw[fQ.2 h1,Kt,if_pos (Or.inr h1)]
  ·rw[if_pos (fQ.2 h0)]
   dsimp only;rw[Kt,if_pos (Or.inl h0)]
theorem amd{s:TSl}(h:OkS s){f:List Int}(hf:∀x∈f,0≤x∧x≤255):OkS (pZ s f).1:=by
 unfold pZ;split
 ·split
  ·exact h
  ·exact (vN h (Dz hf)).1
 ·split
  ·exact h
  ·exact (vN h (F4 hf)).1
def jV(c:TCm):TA:=(23,256,8,272,[c.1,c.2.1,c.2.2.1 / 65536,c.2.2.1%65536,c.2.2.2.1,c.2.2.2.2 / 65536,c.2.2.2.2%65536,0],[])
structure OkC(c:TCm):Prop where
 o:0≤c.1∧c.1≤65535
 v:0≤c.2.1∧c.2.1≤255
 t:0≤c.2.2.1∧c.2.2.1≤4294967295
 n:0≤c.2.2.2.1∧c.2.2.2.1≤65535
 k:0≤c.2.2.2.2∧c.2.2.2.2≤4294967295
theorem mX{c:TCm}(h:OkC c):OkA (jV c)∧iY (jV c)=true∧jU (jV c)=true:=by
 have h1:=h.o;have h2:=h.v;have h3:=h.t;have h4:=h.n;have h5:=h.k;refine⟨⟨(by decide:(0:Int)≤23),(by decide:(23:Int)≤255),(by decide:(0:Int)≤256),(by decide:(256:Int)≤65535),(by decide:(0:Int)≤8),(by decide:(8:Int)≤65535),(by decide:(0:Int)≤272),(by decide:(272:Int)≤65535),?_,(by decide:8≤100000),(by decide:0≤100000)⟩,rfl,?_⟩
 ·intro x hx
  simp only[jV,List.mem_cons,List.not_mem_nil,or_false]at hx;rcases hx with e | e | e | e | e | e | e | e<;>omega
 ·show (rdH 256 8 && decide ((272:Int)=272∧8=8∨(272:Int)=288∧8=20))=true
  decide
theorem Kh{c:TCm}(h:OkC c):kW (jV c).2.2.2.2.1=(c,0):=by
 have h2:=h.v;have h3:=h.t;have h5:=h.k;obtain⟨o,v,t,n,k⟩:=c;show kW [o,v,t / 65536,t%65536,n,k / 65536,k%65536,0]=_;unfold kW;dsimp only at h2 h3 h5;rw[if_neg (by simp;omega)];refine Prod.ext (Prod.ext rfl (Prod.ext rfl (Prod.ext ?_ (Prod.ext rfl ?_)))) rfl
 ·show 65536*(t / 65536)+t%65536=t
  omega
 ·show 65536*(k / 65536)+k%65536=k
  omega
theorem ame{s:TSl}(hs:OkS s){c:TCm}(h:OkC c){A:TAg}(hA:doS (fV s.2.2.1) c=(A,0))(ok:OkG A):gI s (jV c)=(lS s A,(23,0,[],gM A,0,0)):=by
 obtain⟨_,_,h3⟩:=mX h;have hw:iC s.2.2.1 (atW (jV c)) (jV c).2.2.2.2.1=(A,0):=by show iC s.2.2.1 272 (jV c).2.2.2.2.1=_;unfold iC;rw[if_pos rfl,Kh h,hA,if_neg (by simp),if_neg (by simp)]
 have hn:¬ ((jV c).1=5∨(jV c).1=15):=by show ¬ ((23:Int)=5∨(23:Int)=15);decide
 have hl:¬ (jV c).2.2.2.2.1.length=0:=by show ¬ (8=0);decide
 unfold gI;rw[if_neg (by rw[h3];decide),if_neg hn,if_neg hl,hw,if_neg (by simp)];refine congrArg (fun x=>(lS s A,x)) ?_;show ((23:Int),(0:Int),([]:List Bool),((lJ A).drop 256).take 8,(0:Int),(0:Int))=_;rw[Ke ok]
def nZ(w:List Int):TA:=(16,288,20,0,w,[])
theorem yc{w:List Int}(hl:w.length=20)(hr:∀x∈w,0≤x∧x≤65535):OkA (nZ w)∧iY (nZ w)=true∧jU (nZ w)=true:=by
 refine⟨⟨(by decide:(0:Int)≤16),(by decide:(16:Int)≤255),(by decide:(0:Int)≤288),(by decide:(288:Int)≤65535),(by decide:(0:Int)≤20),(by decide:(20:Int)≤65535),(by decide:(0:Int)≤0),(by decide:(0:Int)≤65535),hr,by show w.length≤100000;omega,(by decide:0≤100000)⟩,?_,?_⟩
 ·match w,hl with
  | [_,_,_,_,_,_,_,_,_,_,_,_,_,_,_,_,_,_,_,_],_=>rfl
 ·show decide ((288:Int)=272∧w.length=8∨(288:Int)=288∧w.length=20)=true
  rw[decide_eq_true_eq];exact Or.inr ⟨rfl,hl⟩
theorem amf{s:TSl}(hs:OkS s){o tx n:Int}{x:ay}(hf:gD x=true)(hn:0≤n∧n≤7)(hr:∀y∈iB o tx n x,0≤y∧y≤65535){A:TAg}(hA:putA (fV s.2.2.1) o tx n x=(A,0)) :
  gI s (nZ (iB o tx n x))=(lS s A,(16,0,[],[],288,20)):=by
 obtain⟨_,_,h3⟩:=yc mI hr;have hw:iC s.2.2.1 (atW (nZ (iB o tx n x))) (nZ (iB o tx n x)).2.2.2.2.1=(A,0):=by show iC s.2.2.1 288 (iB o tx n x)=_;unfold iC;rw[if_neg (by decide),R6 hf hn.2];dsimp only;rw[hA,if_neg (by simp),if_neg (by simp)]
 have hl:¬ (nZ (iB o tx n x)).2.2.2.2.1.length=0:=by show ¬ ((iB o tx n x).length=0);rw[mI];decide
 unfold gI;rw[if_neg (by rw[h3];decide),if_neg (show ¬ ((nZ (iB o tx n x)).1=5∨(nZ (iB o tx n x)).1=15) from (by decide:¬ ((16:Int)=5∨(16:Int)=15))),if_neg hl,hw,if_neg (by simp)];rfl
def rdQ(p n:Int):TA:=(3,p,n,0,[],[])
theorem yh{p n:Int}(hp:0≤p∧p≤65535)(hn:1≤n∧n≤125):OkA (rdQ p n)∧iY (rdQ p n)=true:=by
 refine⟨⟨(by decide:(0:Int)≤3),(by decide:(3:Int)≤255),hp.1,hp.2,by show 0≤n;omega,by show n≤65535;omega,(by decide:(0:Int)≤0),(by decide:(0:Int)≤65535),Jt,(by decide:0≤100000),(by decide:0≤100000)⟩,?_⟩;show vD (3,p,n,0,[],[]) (125,0,0,false,false)=true;unfold vD;dsimp only;have e:jm n 125=true:=by unfold jm;rw[if_neg (by decide),if_pos (gZ.2 hn.1),iw.2 hn.2]
 rw[e];rfl
theorem Si(s:TSl){p n:Int}(hc:rdH p n.toNat=true):gI s (rdQ p n)=(s,(3,0,[],((lJ s.2.2.1).drop p.toNat).take n.toNat,0,0)):=by have h3:jU (rdQ p n)=true:=hc;unfold gI;rw[if_neg (by rw[h3];decide),if_neg (show ¬ ((rdQ p n).1=5∨(rdQ p n).1=15) from (by decide:¬ ((3:Int)=5∨(3:Int)=15))),if_pos (by rfl)];rfl
theorem amg{i:Nat}(hi:i<8):rdH (512+(i:Int)*32) 20=true:=by
 have:∀i:Fin 8,rdH (512+(i.1:Int)*32) 20=true:=by decide
 exact this ⟨i,hi⟩
theorem amh{x y:ay}(h:x.2.length≤1000000):Z5 (x,y,())=some (decide (x=y),()):=by
 show alF x y=_;unfold alF;by_cases e:x.1=y.1
 ·rw[if_pos (bu.2 e),wo h,zD]
  refine congrArg (fun b=>some (b,())) ?_;grind
 ·rw[if_neg (fun h=>e (bu.1 h)),decide_eq_false (fun h=>e (by rw[h]))]
theorem ami{a b:List ay}(hl:a.length≤1000000)(hw:∀x∈a,x.2.length≤1000000):zi (a,b,())=some (decide (a=b),()):=by
 have hE:alJ (a,b,())=some (decide (a=b),()):=by
  show Z8 PL a b=_;unfold Z8;by_cases hl2:a.length=b.length
  ·rw[if_neg (by simp_all[fQ,bn])]
   unfold PL;have hz:(a.zip b).length=a.length:=by simp_all
   rw[<- B6 (ne:=fun x y=>!decide (x=y)) (fun _ _=>rfl) a b hl2];refine qy (xs:=a.zip b) (mk:=fun i _=>(b,a,zF a.length,(i:Int))) ?_ ?_ a.length 0 () _ (by omega) (by omega)
   ·intro self i acc x hx
    have hi:=(List.getElem?_eq_some_iff.1 hx).1;obtain⟨h1,h2⟩:=FR hl2 hx;show PK _ b a (zF a.length) (i:Int)=_;unfold PK;rw[if_pos (by grind[dw,bn]),gu h1,zD,gu h2,zD,amh (hw _ (zY h1)),zD,iT (by omega)]
   simp_all[PK,zF,Nat,Int,if_neg,dw,bn]
  ·rw[if_pos (by grind[fQ,bn]),decide_eq_false (fun e=>hl2 (by rw[e]))]
 show alK a b=_;simp_all[alK]
instance dBk:DecidableEq ay:=inferInstance
instance dSt1:DecidableEq (List Bool×List ay):=inferInstance
instance dSt:DecidableEq nA:=inferInstance
instance dAg1:DecidableEq (nA×Int):=inferInstance
instance dAg2:DecidableEq (Int×nA×Int):=inferInstance
instance dAg3:DecidableEq (Int×Int×nA×Int):=inferInstance
instance dAg4:DecidableEq (Int×Int×Int×nA×Int):=inferInstance
instance dAg5:DecidableEq (TLs×Int×Int×Int×nA×Int):=inferInstance
instance dAg:DecidableEq TAg:=inferInstance
instance dSl1:DecidableEq (TAg×List Bool):=inferInstance
instance dSl:DecidableEq TSl:=inferInstance
abbrev TOp:=Int×List Int×TA×TCm
structure OkO(o:TOp):Prop where
 w:0≤o.1∧o.1≤255
 b:∀x∈o.2.1,0≤x∧x≤255
 bl:o.2.1.length≤300
 a:OkA o.2.2.1
 c:OkC o.2.2.2
theorem Ki{a:TA}(h1:a.2.2.2.2.1.length≤1000000)(h2:a.2.2.2.2.2.length≤1000000):UR (a,())=some (a,()):=by show aeQ a=_;unfold aeQ;rw[nY h1,zD,Ca h2,zD]
theorem F5{p:TP}(h1:p.2.2.2.2.2.1.2.2.2.2.1.length≤1000000)(h2:p.2.2.2.2.2.1.2.2.2.2.2.length≤1000000):yY (p,())=some (p,()):=by show US p=_;unfold US;rw[Ki h1 h2,zD]
theorem ari{unit tx:Int}{a:TA}(h:OkA a)(hr:iY a=true):ae7 ((),unit,tx,a,())=some (kJ tx unit (jJ a),()):=by show ae6 () unit tx a=_;unfold ae6;have hl:=rM (mD hr);rw[KY h,if_pos hr,zD,if_neg (by show ¬ nei 0 0=true;decide)];dsimp only;rw[apP (by omega) (by omega),zD,if_neg (by show ¬ nei 0 0=true;decide)]
theorem arj{unit tx:Int}{a:TA}(h:OkA a)(hr:iY a=true)(hu:1≤unit)(hu2:unit≤247):afl ((),unit,tx,a,())=some (iF (unit::jJ a),()):=by
 show afk () unit tx a=_;unfold afk;have hl:=rM (mD hr);have e:Vp (unit,a,())=some (iF (unit::jJ a),0,()):=by show Vo unit a=_;unfold Vo;rw[KY h,if_pos hr,zD,if_neg (by show ¬ nei 0 0=true;decide)];dsimp only;rw[RZ hu hu2 (by omega) (by omega),zD]
 rw[e,zD,if_neg (by show ¬ nei 0 0=true;decide)]
theorem Sj{p:TP}(h:OkP p)(hr:iY p.2.2.2.2.2.1=true):KQ (p,())=some (ug p,zm p,()):=by
 show afn p=_;unfold afn ug zm jA wu;by_cases hl:p.2.1=2
 ·have e:ae8 ((),p.2.2.2.2.2.2.1,())=some ((p.2.2.2.2.2.2.1+1)%65536,()):=congrArg (fun x=>some (x,())) (BU _)
  rw[if_pos (bu.2 hl),e,zD,ari h.a hr,zD,if_pos hl,if_pos hl]
 ·have e:afm ((),p.2.2.2.2.2.2.1,())=some (p.2.2.2.2.2.2.1,()):=rfl
  rw[if_neg (fun e=>hl (bu.1 e)),e,zD,arj h.a hr h.u0 h.u1,zD,if_neg hl,if_neg hl]
theorem ark{p:TP}{a:TA}(h:OkP p)(ha:OkA a):Hr (p,a,()) =
  if p.2.2.2.2.1=true then some (p,[],30,()) else if iY a=true then some (ug (wz p a),zm (wz p a),0,()) else some (p,[],12,()):=by
 show afo p a=_;unfold afo;have h1:=h.a.lw;have h2:=h.a.lb;have h3:=ha.lw;have h4:=ha.lb;rw[F5 (by omega) (by omega),zD,right_eq ha,zD];split
 ·rfl
 ·cases hr:iY a with
  | false=>rfl
  | true =>
   rw[if_neg (by decide),if_pos rfl,Ki (by omega) (by omega),zD];dsimp only;have hw:OkP (wz p a):=⟨h.u0,h.u1,h.l,h.t0,h.t1,h.r0,h.r1,ha,h.x0,h.x1⟩;have e:=Sj hw hr;unfold wz at e;rw[e];rfl
theorem drop_eq(p:TP):Bf (p,())=some (fK p,()):=rfl
theorem arl{p:TP}(h:OkP p)(hr:p.2.2.2.2.1=true->iY p.2.2.2.2.2.1=true∧1≤p.2.2.2.2.2.2.2.1∧p.2.2.2.2.2.2.2.1≤100000∧0≤p.2.2.2.2.2.2.2.2∧p.2.2.2.2.2.2.2.2≤1000) :
  ZZ (p,())=some ((kK p).1,(kK p).2.1,(kK p).2.2,()):=by
 show alq p=_;unfold alq;have h1:=h.a.lw;have h2:=h.a.lb;rw[F5 (by omega) (by omega),zD];dsimp only;unfold kK;by_cases hw:p.2.2.2.2.1=true
 ·obtain⟨q1,q2,q3,q4,q5⟩:=hr hw
  rw[if_neg (by rw[hw];decide),if_pos hw,kV (by omega) (by omega)];by_cases hl:p.2.2.2.2.2.2.2.1=1
  ·rw[if_neg (by rw[fQ];omega),if_pos hl]
   by_cases hg:0<p.2.2.2.2.2.2.2.2
   ·rw[if_pos (by rw[jD];omega),if_pos hg,kV (by omega) (by omega),hl]
    have e0:(1:Int) - 1=0:=rfl;rw[e0];have hw':OkP (sI p 0 (p.2.2.2.2.2.2.2.2 - 1)):=⟨h.u0,h.u1,h.l,h.t0,h.t1,h.r0,h.r1,h.a,h.x0,h.x1⟩;have e:=Sj hw' q1;unfold sI at e;rw[e];rfl
   ·rw[if_neg (by rw[jD];omega),if_neg hg,drop_eq,zD]
    rfl
  ·rw[if_pos (by rw[fQ];omega),if_neg hl]
   rfl
 ·have hw':p.2.2.2.2.1=false:=by simpa using hw
  rw[if_pos (by rw[hw'];rfl),if_neg hw]
theorem acT(u l t r:Int):Um (u,l,t,r,())=some (uO u l t r,()):=by
 show aeo u l t r=_;unfold aeo uO;simp only[gZ,iw,bu]
 by_cases h1:1≤u<;>by_cases h2:u≤247<;>by_cases h5:1≤t<;>by_cases h6:t≤100000<;>by_cases h7:0≤r<;>simp only[h1,h2,h5,h6,h7,if_true,if_false,true_and,false_and,and_false,and_true] <;>
  by_cases h3:l=1<;>by_cases h4:l=2<;>simp[h3,h4,le]<;>omega
theorem atK(u l t r:Int):KL (u,l,t,r,())=if uO u l t r=true then some ((u,l,t,r,false,zA,0,0,0),0,()) else some (zP,2,()):=by show Un u l t r=_;unfold Un;rw[acT,zD];cases uO u l t r<;>rfl
theorem aaz(unit tx:Int)(b:List Int):Ip ((),unit,tx,b,())=qV (zu unit b):=by
 show aif () unit tx b=_;unfold aif
 have e:XE (unit,b,())=if (gW b).2.2≠0 then some (zR,(gW b).2.2,()) else if (gW b).1≠unit then some (zR,10,()) else some ((lX (gW b).2.1).1,(lX (gW b).2.1).2,()):=by
  show aie unit b=_;unfold aie;rw[Da,zD];dsimp only;rw[PY,zD];simp only[fQ]
  repeat' split
  all_goals first | rfl | contradiction
 rw[e];unfold zu;by_cases h1:(gW b).2.2=0
 ·by_cases h2:(gW b).1=unit
  ·by_cases h3:(lX (gW b).2.1).2=0
   ·simp[h1,h2,h3,nei,qV]
   ·simp[h1,h2,h3,nei,qV,zR]
  ·simp[h1,h2,nei,qV,zR]
 ·simp[h1,nei,qV,zR]
theorem aaA{b:List Int}(hl:b.length≤100000)(hb:∀x∈b,0≤x∧x≤255)(unit tx:Int):Im ((),unit,tx,b,())=qV (Cc unit tx b):=by
 show Xy OB () unit tx b=_;unfold Xy;rw[wD hl hb,zD];dsimp only;have K:∀(t:Bool) (y1 y2:Int) (y3:List Int),OB t 0 0 0 0 y1 y2 y3=if t=true then some (zR,false,()) else if (lX y3).2≠0 then some (zR,false,()) else some ((lX y3).1,true,()):=fun t y1 y2 y3=>by unfold OB aia;rw[PY,zD];simp only[fQ];rfl
 rw[K,K];unfold Cc;by_cases h1:(gB b).2=0
 ·by_cases h2:(gB b).1.2.1=unit
  ·by_cases h3:(gB b).1.1=tx
   ·by_cases h4:(lX (gB b).1.2.2).2=0
    ·simp[h1,h2,h3,h4,nei,qV]
    ·simp[h1,h2,h3,h4,nei,qV]
   ·simp[h1,h2,h3,nei,qV]
  ·simp[h1,h2,nei,qV]
 ·simp[h1,nei,qV]
theorem acU{p:TP}(h:OkP p){r:TR}(hs:SmR r)(ok:Bool):Ir ok p.1 p.2.1 p.2.2.1 p.2.2.2.1 p.2.2.2.2.1 p.2.2.2.2.2.1.1 p.2.2.2.2.2.1.2.1 p.2.2.2.2.2.1.2.2.1 p.2.2.2.2.2.1.2.2.2.1 p.2.2.2.2.2.1.2.2.2.2.1 p.2.2.2.2.2.1.2.2.2.2.2
  p.2.2.2.2.2.2.1 p.2.2.2.2.2.2.2.1 p.2.2.2.2.2.2.2.2 0 0 0 0 false 0 0 0 0 0 0 0 0 0 0 0 r.1 r.2.1 r.2.2.1 r.2.2.2.1 r.2.2.2.2.1 r.2.2.2.2.2 =
  outT p (if ok=true then if uh p.2.2.2.2.2.1 r=true then some r else none else none):=by
 unfold Ir aim;have h1:=h.a.lw;have h2:=h.a.lb
 have e2:∀t,XG t p.1 p.2.1 p.2.2.1 p.2.2.2.1 p.2.2.2.2.1 p.2.2.2.2.2.1.1 p.2.2.2.2.2.1.2.1 p.2.2.2.2.2.1.2.2.1 p.2.2.2.2.2.1.2.2.2.1 p.2.2.2.2.2.1.2.2.2.2.1 p.2.2.2.2.2.1.2.2.2.2.2
  p.2.2.2.2.2.2.1 p.2.2.2.2.2.2.2.1 p.2.2.2.2.2.2.2.2 0 0 0 0 false 0 0 0 0 0 0 0 0 0 0 0 r.1 r.2.1 r.2.2.1 r.2.2.2.1 r.2.2.2.2.1 r.2.2.2.2.2=if t=true then some (p,zR,false,()) else some (fK p,r,true,()):=fun t=>by
  unfold XG ain;have eo:yY (p,())=some (p,()):=F5 (by omega) (by omega)
  cases t with
  | true=>exact (congrArg (fun q=>zC q fun y=>some (y.1,zR,false,())) eo).trans rfl
  | false=>rfl
 rw[e2];have e3:Oh ((p.2.2.2.2.2.1.1,p.2.2.2.2.2.1.2.1,p.2.2.2.2.2.1.2.2.1,p.2.2.2.2.2.1.2.2.2.1,p.2.2.2.2.2.1.2.2.2.2.1,p.2.2.2.2.2.1.2.2.2.2.2),(r.1,r.2.1,r.2.2.1,r.2.2.2.1,r.2.2.2.2.1,r.2.2.2.2.2),())=some (uh p.2.2.2.2.2.1 r,()):=aq2 h.a hs;rw[e3,zD,e2]
 cases ok with
 | false=>rfl
 | true=>cases uh p.2.2.2.2.2.1 r<;>rfl
theorem arn{p:TP}(h:OkP p){b:List Int}(hl:b.length≤100000)(hb:∀x∈b,0≤x∧x≤255):XH (p,b,())=outT p (pE p b):=by
 show XF Ir p b=_;unfold XF;have h1:=h.a.lw;have h2:=h.a.lb;rw[F5 (by omega) (by omega),zD,aaA hl hb,aaz]
 have key:∀o:Option TR,(∀r,o=some r->SmR r)->(zC (qV o) fun y=>Ir y.2.1 p.1 p.2.1 p.2.2.1 p.2.2.2.1 p.2.2.2.2.1 p.2.2.2.2.2.1.1 p.2.2.2.2.2.1.2.1 p.2.2.2.2.2.1.2.2.1 p.2.2.2.2.2.1.2.2.2.1 p.2.2.2.2.2.1.2.2.2.2.1 p.2.2.2.2.2.1.2.2.2.2.2
   p.2.2.2.2.2.2.1 p.2.2.2.2.2.2.2.1 p.2.2.2.2.2.2.2.2 0 0 0 0 false 0 0 0 0 0 0 0 0 0 0 0 y.1.1 y.1.2.1 y.1.2.2.1 y.1.2.2.2.1 y.1.2.2.2.2.1 y.1.2.2.2.2.2)=outT p (o.bind fun r=>if uh p.2.2.2.2.2.1 r=true then some r else none):=fun o ho=>by
  cases o with
  | none=>exact acU h wB false
  | some r=>exact acU h (ho r rfl) true
 have hout:∀o,∃x,outT p o=some x:=fun o=>by cases o<;>exact⟨_,rfl⟩
 unfold pE
 cases hw:p.2.2.2.2.1 with
 | false=>rfl
 | true =>
  rw[if_neg (by decide),if_pos rfl];rw[hw]at key;by_cases hlk:p.2.1=2
  ·have e:qW p b=Cc p.1 p.2.2.2.2.2.2.1 b:=by unfold qW;rw[if_pos hlk]
   have kk:=key (Cc p.1 p.2.2.2.2.2.2.1 b) (fun r hr=>PZ (e.trans hr));rw[e];obtain⟨x,hx⟩:=hout ((Cc p.1 p.2.2.2.2.2.2.1 b).bind fun r=>if uh p.2.2.2.2.2.1 r=true then some r else none);rw[hx]at kk ⊢;simp only[bu,hlk,if_true];rw[hlk]at kk;rw[kk,vH (eqAs_refl _),vH (eqAs_refl _)]
  ·have e:qW p b=zu p.1 b:=by unfold qW;rw[if_neg hlk]
   have kk:=key (zu p.1 b) (fun r hr=>PZ (e.trans hr));rw[e];obtain⟨x,hx⟩:=hout ((zu p.1 b).bind fun r=>if uh p.2.2.2.2.2.1 r=true then some r else none);rw[hx]at kk ⊢;simp only[bu,hlk,if_false];rw[kk,vH (eqAs_refl _),vH (eqAs_refl _)]
structure OkT(t:TTk):Prop where
 p:OkP t.1
 o:1≤t.2.1∧t.2.1≤65535
 x:0≤t.2.2.1∧t.2.2.1≤4294967295
 bl:t.2.2.2.1.length≤8
 bf:∀b∈t.2.2.2.1,gD b=true∧∀y∈b.2,0≤y∧y≤65535
 at':0≤t.2.2.2.2.2.1∧t.2.2.2.2.2.1≤7
 n:0≤t.2.2.2.2.2.2.1∧t.2.2.2.2.2.2.1≤t.2.2.2.1.length
 tr:0≤t.2.2.2.2.2.2.2.1∧(t.2.2.2.2.2.1≠0->t.2.2.2.2.2.2.2.1≤8)
def jE(t:TTk)(s:Int):TTk:=(fK t.1,t.2.1,t.2.2.1,t.2.2.2.1,t.2.2.2.2.1,0,t.2.2.2.2.2.2.1,t.2.2.2.2.2.2.2.1,s)
def toT(t:TTk)(k:Int):TTk:=(t.1,t.2.1,t.2.2.1,t.2.2.2.1,t.2.2.2.2.1,k,t.2.2.2.2.2.2)
def tJ(t:TTk)(n:Int):TTk:=(t.1,t.2.1,t.2.2.1,t.2.2.2.1,t.2.2.2.2.1,t.2.2.2.2.2.1,n,t.2.2.2.2.2.2.2)
def atL(t:TTk):TTk:=(t.1,t.2.1,t.2.2.1,t.2.2.2.1,t.2.2.2.2.1,t.2.2.2.2.2.1,t.2.2.2.2.2.2.1,t.2.2.2.2.2.2.2.1+1,t.2.2.2.2.2.2.2.2)
def mQ(t:TTk):TTk:=if (t.2.2.2.1.length:Int)≤t.2.2.2.2.2.2.1 then toT t 4 else toT t 2
def jc(t:TTk)(k:Int):TTk:=if 8≤t.2.2.2.2.2.2.2.1 then jE (atL t) 2 else toT (atL t) k
theorem acV(t:TTk)(s:Int):mU (t,s,())=some (jE t s,()):=rfl
theorem to_eq(t:TTk)(k:Int):qc (t,k,())=some (toT t k,()):=rfl
theorem Sk(t:TTk):Bg (t,())=some (mQ t,()):=by
 show afW t=_;unfold afW mQ;rw[bn];by_cases h:(t.2.2.2.1.length:Int)≤t.2.2.2.2.2.2.1
 ·rw[if_pos (gZ.2 h),if_pos h,to_eq];rfl
 ·rw[if_neg (fun e=>h (gZ.1 e)),if_neg h,to_eq];rfl
theorem EV{t:TTk}(h:OkT t)(ha:t.2.2.2.2.2.1≠0)(k:Int):vk (t,k,())=some (jc t k,()):=by
 have:=h.tr;have:=h.tr.2 ha;show afX t k=_;unfold afX jc;rw[jO (by omega) (by omega)];by_cases h8:8≤t.2.2.2.2.2.2.2.1
 ·rw[if_pos (jD.2 (by omega)),if_pos h8,acV];rfl
 ·rw[if_neg (fun e=>h8 (by have:=jD.1 e;omega)),if_neg h8,to_eq];rfl
abbrev TSt:=Int×Int×Int×Int
def gz(r:TR):Option TSt:=if r.2.1=0∧r.2.2.2.1.length=8 then some (r.2.2.2.1.getD 0 0,r.2.2.2.1.getD 1 0,65536*r.2.2.2.1.getD 2 0+r.2.2.2.1.getD 3 0,65536*r.2.2.2.1.getD 4 0+r.2.2.2.1.getD 5 0) else none
def aEk:Option TSt->Option (TSt×Bool×Unit)
 | some s=>some (s,true,())
 | none=>some ((0,0,0,0),false,())
theorem vO{r:TR}(hr:∀x∈r.2.2.2.1,0≤x∧x≤65535):wY (r,())=aEk (gz r):=by
 obtain⟨f,e,b,w,p,n⟩:=r;show VM afU (f,e,b,w,p,n)=_;unfold VM gz;simp only at hr ⊢;by_cases he:e=0
 ·subst he
  rw[if_neg (by decide)];by_cases hl:w.length=8
  ·rw[if_pos ⟨rfl,hl⟩]
   obtain⟨a,b',c,d,e,f',g,i,rfl⟩:=eight hl;have h2:=hr c (by simp);have h3:=hr d (by simp);have h4:=hr e (by simp);have h5:=hr f' (by simp);have hnl:nei (zF [a,b',c,d,e,f',g,i].length) 8=false:=rfl;rw[hnl];show (zC (at? [a,b',c,d,e,f',g,i] 0) fun y=>zC (at? [a,b',c,d,e,f',g,i] 1) fun y_1=>zC (at? [a,b',c,d,e,f',g,i] 2) fun y_2=>zC (at? [a,b',c,d,e,f',g,i] 3) fun y_3=>zC (at? [a,b',c,d,e,f',g,i] 4) fun y_4=>zC (at? [a,b',c,d,e,f',g,i] 5) fun y_5=>zC (qL (y_2,y_3,())) fun y_6=>zC (qL (y_4,y_5,())) fun y_7=>some ((y,y_1,y_6.1,y_7.1),true,()))=_;show (zC (qL (c,d,())) fun y_6=>zC (qL (e,f',())) fun y_7=>some ((a,b',y_6.1,y_7.1),true,()))=_;rw[xZ h2.1 h2.2 h3.1 h3.2,zD,xZ h4.1 h4.2 h5.1 h5.2];rfl
  ·rw[if_neg (fun h=>hl h.2),show nei (zF w.length) 8=true from fQ.2 (by rw[bn];omega)]
   rfl
 ·rw[if_pos (fQ.2 he),if_neg (fun h=>he h.1)]
  rfl
def nH(s:TSt)(t:TTk):Bool:=decide (s.1=t.2.1∧s.2.2.1=t.2.2.1)
theorem vP(s:TSt)(t:TTk):qM (s,t,())=some (nH s t,()):=by
 show afV s t=_;unfold afV nH;by_cases h:s.1=t.2.1
 ·rw[if_pos (bu.2 h),show eqi s.2.2.1 t.2.2.1=decide (s.1=t.2.1∧s.2.2.1=t.2.2.1) by rw[Bool.eq_iff_iff,bu,decide_eq_true_iff];exact⟨fun e=>⟨h,e⟩,fun e=>e.2⟩]
 ·rw[if_neg (fun e=>h (bu.1 e))]
  simp[h]
def tK(t:TTk):List Int:=match t.2.2.2.1[t.2.2.2.2.2.2.1.toNat]? with
 | some b=>iB t.2.1 t.2.2.1 t.2.2.2.2.2.2.1 b
 | none=>[]
def rW(t:TTk):Bool:=decide (t.2.2.2.2.2.2.1<t.2.2.2.1.length)
theorem Ch{x:ay}(h:gD x=true):x.2.length≤14:=(of_decide_eq_true h).1
theorem Qs{t:TTk}(h:OkT t):NH (t,())=some (tK t,rW t,()):=by
 have hn:=h.n;have hx:=h.x;have hbl:=h.bl;show VY agc t=_;unfold VY tK rW;rw[if_neg (fun e=>by have:=dw.1 e;omega)];show VX _ t=_;unfold VX;obtain⟨k,hk⟩:=zN hn.1;rw[hk,zQ,bn];by_cases hlt:k<t.2.2.2.1.length
 ·obtain⟨b,hb⟩:=jg hlt
  obtain⟨hf,_⟩:=h.bf b (zY hb);have:=Ch hf;rw[if_neg (fun e=>by have:=gZ.1 e;omega),gu hb,zD,acu hx.1 hx.2 (by omega),if_pos ⟨by omega,by omega⟩,if_pos hf,zD,hb];simp only[decide_eq_true (show ((k:Nat):Int)<((t.2.2.2.1.length:Nat):Int) by omega)];rfl
 ·rw[if_pos (gZ.2 (by omega)),List.getElem?_eq_none (by omega),decide_eq_false (by omega)]
def vQ(t:TTk)(v:Int):TCm:=(t.2.1,v,t.2.2.1,if v=2 then (t.2.2.2.1.length:Int) else 0,if v=2 then rU t.2.2.2.1 else 0)
theorem pG{t:TTk}(h:OkT t){v:Int}(hv:1≤v∧v≤4):OkC (vQ t v):=by
 have h1:=h.o;have h2:=h.x;have h3:=h.bl;have h4:0≤rU t.2.2.2.1∧rU t.2.2.2.1≤4294967295:=P9 _;unfold vQ;constructor<;>dsimp only
 ·omega
 ·omega
 ·exact h2
 ·split<;>omega
 ·split<;>omega
theorem Dq{t:TTk}(h:OkT t){v:Int}(hv:1≤v∧v≤4):Be (t,v,())=some (jV (vQ t v),()):=by
 have h3:=h.bl;have ok:=pG h hv;show VH VI t v=_;unfold VH;have key:∀z (c:TCm),OkC c->VI z c=some (jV c,()):=fun z c hc=>by show VG z c=_;unfold VG;rw[acS hc.v hc.t hc.k];rfl
 by_cases h2:v=2
 ·subst h2
  rw[if_pos (by decide),R7 (by omega) (fun b hb=>by have:=Ch (h.bf b hb).1;omega),zD];have e:cvt .u16 (zF t.2.2.2.1.length)=(t.2.2.2.1.length:Int):=by rw[zk,bn];omega
  rw[e];exact key _ _ ok
 ·rw[if_neg (fun e=>h2 (bu.1 e))]
  have e:vQ t v=(t.2.1,v,t.2.2.1,0,0):=by simp[vQ,h2]
  rw[e]at ok ⊢;exact key _ _ ok
def iQ(t:TTk):TA :=
 if t.2.2.2.2.2.1=1 then jV (vQ t 1) else if t.2.2.2.2.2.1=2 then (if rW t=true then nZ (tK t) else zA) else if t.2.2.2.2.2.1=3 then rdQ (512+32*t.2.2.2.2.2.2.1) 20
 else if t.2.2.2.2.2.1=4 then jV (vQ t 2) else if t.2.2.2.2.2.1=5 then jV (vQ t 3) else if t.2.2.2.2.2.1=6 then jV (vQ t 4) else if t.2.2.2.2.2.1=7 then rdQ 256 8 else zA
theorem aaB{t:TTk}(h:OkT t):NZ (t,())=some (iQ t,()):=by
 have ha:=h.at';have hn:=h.n;have hl:=h.bl;show Wj agF t=_;unfold Wj;rw[iU (by omega) (by omega),if_neg (fun e=>by have:=gZ.1 e;omega)];show Wi _ t _=_;unfold Wi iQ;generalize hk:t.2.2.2.2.2.1=k at ha;have hc:k=0∨k=1∨k=2∨k=3∨k=4∨k=5∨k=6∨k=7:=by omega
 have e5:cvt .u16 (add .i64 512 (mul .i64 32 t.2.2.2.2.2.2.1))=512+32*t.2.2.2.2.2.2.1:=by rw[nE (by omega) (by omega),jO (by omega) (by omega),zk];omega
 rcases hc with rfl | rfl | rfl | rfl | rfl | rfl | rfl | rfl
 ·rfl
 ·rw[if_neg (by decide),if_neg (by decide),if_neg (by decide),if_neg (by decide),if_neg (by decide),if_neg (by decide),if_neg (by decide),if_pos (by decide),Dq h (by decide)]
  rfl
 ·rw[if_neg (by decide),if_neg (by decide),if_neg (by decide),if_neg (by decide),if_neg (by decide),if_neg (by decide),if_pos (by decide)]
  show (zC (agf t) fun y=>some (y.1,()))=_;unfold agf;rw[Qs h,zD]
  cases hh:rW t with
  | false=>rfl
  | true =>
   have hb:(tK t).length=20:=by unfold rW at hh;have:=of_decide_eq_true hh;obtain⟨b,hb⟩:=jg (xs:=t.2.2.2.1) (i:=t.2.2.2.2.2.2.1.toNat) (by omega);unfold tK;rw[hb];exact mI
   have e:cvt .u16 (zF (tK t).length)=20:=by rw[hb];rfl
   simp only[Bool.not_true,Bool.false_eq_true,if_false,e];rfl
 ·rw[if_neg (by decide),if_neg (by decide),if_neg (by decide),if_neg (by decide),if_neg (by decide),if_pos (by decide)]
  show (zC (agj t) fun y=>some (y.1,()))=_;unfold agj;rw[e5];rfl
 ·rw[if_neg (by decide),if_neg (by decide),if_neg (by decide),if_neg (by decide),if_pos (by decide),Dq h (by decide)]
  rfl
 ·rw[if_neg (by decide),if_neg (by decide),if_neg (by decide),if_pos (by decide),Dq h (by decide)]
  rfl
 ·rw[if_neg (by decide),if_neg (by decide),if_pos (by decide),Dq h (by decide)]
  rfl
 ·rfl
def gK(t:TTk)(r:TR):TTk :=
 if t.2.2.2.2.2.1=1 then (match gz r with
  | none=>jE t 2
  | some s=>if nH s t=true∧s.2.1=2 then jE t 1 else if nH s t=true∧s.2.1=1 then mQ (tJ t 0) else jc t 1)
 else if t.2.2.2.2.2.1=2 then (if r.2.1≠0 then jE t 2 else toT t 3)
 else if t.2.2.2.2.2.1=3 then (if rW t=true∧r.2.1=0∧r.2.2.2.1=tK t then mQ (tJ t (t.2.2.2.2.2.2.1+1)) else jc t 2)
 else if t.2.2.2.2.2.1=4 then (match gz r with
  | none=>jE t 2
  | some s=>if nH s t=true∧s.2.1=2 then jE t 1 else jc t 4)
 else if t.2.2.2.2.2.1=5 then (match gz r with
  | none=>toT t 7
  | some s=>if t.2.2.1≤s.2.2.2 then jE t 1 else toT t 5)
 else if t.2.2.2.2.2.1=6 then (match gz r with
  | none=>toT t 7
  | some s=>if nH s t=true then toT t 6 else jE t 1)
 else if t.2.2.2.2.2.1=7 then (if t.2.2.2.2.1=2 then (match gz r with
   | some s=>if t.2.2.1≤s.2.2.2 then jE t 1 else toT t 5
   | none=>toT t 5)
  else (match gz r with
   | some s=>if nH s t=true then toT t 6 else jE t 1
   | none=>toT t 6))
 else jE t t.2.2.2.2.2.2.2.2
theorem OkT.end{t:TTk}(h:OkT t)(s:Int):OkT (jE t s) :=
 ⟨⟨h.p.u0,h.p.u1,h.p.l,h.p.t0,h.p.t1,h.p.r0,h.p.r1,uj,h.p.x0,h.p.x1⟩,h.o,h.x,h.bl,h.bf,(by decide:(0:Int)≤0∧(0:Int)≤7),h.n,h.tr.1,fun e=>absurd rfl e⟩
theorem amj{t:TTk}(h:t.2.2.2.2.2.1=1)(r:TR):gK t r=match gz r with
  | none=>jE t 2
  | some s=>if nH s t=true∧s.2.1=2 then jE t 1 else if nH s t=true∧s.2.1=1 then mQ (tJ t 0) else jc t 1:=if_pos h
theorem amk{t:TTk}(h:t.2.2.2.2.2.1=2)(r:TR):gK t r=if r.2.1≠0 then jE t 2 else toT t 3:=by simp[gK,h]
theorem aml{t:TTk}(h:t.2.2.2.2.2.1=3)(r:TR):gK t r=if rW t=true∧r.2.1=0∧r.2.2.2.1=tK t then mQ (tJ t (t.2.2.2.2.2.2.1+1)) else jc t 2:=by simp[gK,h]
theorem amm{t:TTk}(h:t.2.2.2.2.2.1=4)(r:TR):gK t r=match gz r with
  | none=>jE t 2
  | some s=>if nH s t=true∧s.2.1=2 then jE t 1 else jc t 4:=by unfold gK;rw[h];rfl
theorem atM{t:TTk}(h:t.2.2.2.2.2.1=5)(r:TR):gK t r=match gz r with
  | none=>toT t 7
  | some s=>if t.2.2.1≤s.2.2.2 then jE t 1 else toT t 5:=by unfold gK;rw[h];rfl
theorem atN{t:TTk}(h:t.2.2.2.2.2.1=6)(r:TR):gK t r=match gz r with
  | none=>toT t 7
  | some s=>if nH s t=true then toT t 6 else jE t 1:=by unfold gK;rw[h];rfl
theorem amn{t:TTk}(h:t.2.2.2.2.2.1=7)(r:TR):gK t r=if t.2.2.2.2.1=2 then (match gz r with
   | some s=>if t.2.2.1≤s.2.2.2 then jE t 1 else toT t 5
   | none=>toT t 5)
  else (match gz r with
   | some s=>if nH s t=true then toT t 6 else jE t 1
   | none=>toT t 6):=by unfold gK;rw[h];rfl
theorem OkT.to{t:TTk}(h:OkT t)(ha:t.2.2.2.2.2.1≠0){k:Int}(hk:0≤k∧k≤7):OkT (toT t k):=⟨h.p,h.o,h.x,h.bl,h.bf,hk,h.n,h.tr.1,fun _=>h.tr.2 ha⟩
theorem OkT.num{t:TTk}(h:OkT t){k:Int}(hk:0≤k∧k≤t.2.2.2.1.length):OkT (tJ t k):=⟨h.p,h.o,h.x,h.bl,h.bf,h.at',hk,h.tr⟩
theorem OkT.next{t:TTk}(h:OkT t)(ha:t.2.2.2.2.2.1≠0):OkT (mQ t):=by
 unfold mQ;split
 ·exact h.to ha (by decide)
 ·exact h.to ha (by decide)
theorem OkT.again{t:TTk}(h:OkT t)(ha:t.2.2.2.2.2.1≠0){k:Int}(hk:0≤k∧k≤7):OkT (jc t k):=by
 have h8:=h.tr.2 ha;have h0:=h.tr.1;unfold jc;split
 ·have:=h.end 2
  exact⟨this.p,this.o,this.x,this.bl,this.bf,this.at',this.n,by show 0≤t.2.2.2.2.2.2.2.1+1;omega,fun e=>absurd rfl e⟩
 ·exact⟨h.p,h.o,h.x,h.bl,h.bf,hk,h.n,by show 0≤t.2.2.2.2.2.2.2.1+1;omega,fun _=>by show t.2.2.2.2.2.2.2.1+1≤8;omega⟩
theorem aaC{t:TTk}(h:OkT t)(h1:t.2.2.2.2.2.1=1){r:TR}(hr:∀x∈r.2.2.2.1,0≤x∧x≤65535):NF (t,r,())=some (gK t r,()):=by
 show VT Em t r=_;unfold VT;rw[vO hr,amj h1]
 cases hs:gz r with
 | none=>rfl
 | some s =>
  show (zC (qM (s,t,())) fun y_1=>if y_1.1=true then Em (eqi s.2.1 2) t _ s else Em false t _ s)=_;rw[vP,zD];dsimp only;have k2:∀z,ND false t z=some (jc t 1,()):=fun z=>by show (zC (vk (t,1,())) fun y=>some (y.1,()))=_;rw[EV h (by omega)];rfl
  have k3:∀z,ND true t z=some (mQ (tJ t 0),()):=fun z=>by show (zC (Bg (tJ t 0,())) fun y=>some (y.1,()))=_;rw[Sk];rfl
  have k0:∀z,Em false t z s=some (if nH s t=true∧s.2.1=1 then mQ (tJ t 0) else jc t 1,()):=fun z=>by
   show VR ND false t z s=_;unfold VR;rw[if_neg (by decide),vP,zD]
   cases ho:nH s t with
   | false=>simp only[Bool.false_eq_true,if_false,false_and];exact k2 _
   | true =>
    by_cases e:s.2.1=1
    ·rw[show eqi s.2.1 1=true from bu.2 e]
     simp only[if_true,e,and_self];exact k3 _
    ·rw[show eqi s.2.1 1=false from by rw[<- Bool.not_eq_true,bu];exact e]
     simp only[if_true,e,and_false,if_false];exact k2 _
  have k1:∀z,Em true t z s=some (jE t 1,()):=fun z=>rfl
  cases ho:nH s t with
  | false =>
   rw[ho]at k0;simp only[Bool.false_eq_true,if_false,false_and]at k0 ⊢;exact k0 _
  | true =>
   rw[ho]at k0;by_cases e:s.2.1=2
   ·rw[show eqi s.2.1 2=true from bu.2 e]
    simp only[if_true,e,and_self];exact k1 _
   ·rw[show eqi s.2.1 2=false from by rw[<- Bool.not_eq_true,bu];exact e]
    simp only[if_true,e,and_false,if_false,true_and]at k0 ⊢;exact k0 _
theorem acW{t:TTk}(h1:t.2.2.2.2.2.1=2)(r:TR):NI (t,r,())=some (gK t r,()):=by
 show agi t r=_;unfold agi;rw[amk h1];by_cases e:r.2.1=0
 ·rw[if_neg (fun h=>fQ.1 h e),if_neg (fun h=>h e)];rfl
 ·rw[if_pos (fQ.2 e),if_pos e];rfl
theorem QX{t:TTk}(h:OkT t)(h1:t.2.2.2.2.2.1=3){r:TR}(hl:r.2.2.2.1.length≤1000000):NP (t,r,())=some (gK t r,()):=by
 have hn:=h.n;have hb:=h.bl;show V6 NN t r=_;unfold V6;rw[aml h1,Qs h,zD];have k1:∀z,NN true t z=some (jc t 2,()):=fun z=>by show (zC (vk (t,2,())) fun y=>some (y.1,()))=_;rw[EV h (by omega)];rfl
 have k0:∀z,NN false t z=some (mQ (tJ t (t.2.2.2.2.2.2.1+1)),()):=fun z=>by show (zC (Bg (tJ t (add .i64 t.2.2.2.2.2.2.1 1),())) fun y=>some (y.1,()))=_;rw[jO (by omega) (by omega),Sk];rfl
 cases hh:rW t with
 | false=>simp only[Bool.not_false,if_true,Bool.false_eq_true,false_and,if_false];exact k1 _
 | true =>
  simp only[Bool.not_true,Bool.false_eq_true,if_false,true_and];by_cases e:r.2.1=0
  ·rw[if_neg (fun h=>fQ.1 h e),wo hl,zD]
   by_cases e2:r.2.2.2.1=tK t
   ·rw[decide_eq_true e2,if_pos ⟨e,e2⟩];exact k0 _
   ·rw[decide_eq_false e2,if_neg (fun h=>e2 h.2)];exact k1 _
  ·rw[if_pos (fQ.2 e),if_neg (fun h=>e h.1)];exact k1 _
theorem QY{t:TTk}(h:OkT t)(h1:t.2.2.2.2.2.1=4){r:TR}(hr:∀x∈r.2.2.2.1,0≤x∧x≤65535):NR (t,r,())=some (gK t r,()):=by
 show V7 Eo t r=_;unfold V7;rw[vO hr,amm h1]
 cases hs:gz r with
 | none=>rfl
 | some s =>
  show (zC (qM (s,t,())) fun y_1=>if y_1.1=true then Eo (eqi s.2.1 2) t _ else Eo false t _)=_;rw[vP,zD];dsimp only;have k0:∀z,Eo false t z=some (jc t 4,()):=fun z=>by show (zC (vk (t,4,())) fun y=>some (y.1,()))=_;rw[EV h (by omega)];rfl
  have k1:∀z,Eo true t z=some (jE t 1,()):=fun z=>rfl
  cases ho:nH s t with
  | false=>simp only[Bool.false_eq_true,if_false,false_and];exact k0 _
  | true =>
   by_cases e:s.2.1=2
   ·rw[show eqi s.2.1 2=true from bu.2 e]
    simp only[if_true,e,and_self];exact k1 _
   ·rw[show eqi s.2.1 2=false from by rw[<- Bool.not_eq_true,bu];exact e]
    simp only[if_true,e,and_false,if_false];exact k0 _
theorem Qt{t:TTk}(h1:t.2.2.2.2.2.1=5){r:TR}(hr:∀x∈r.2.2.2.1,0≤x∧x≤65535):NS (t,r,())=some (gK t r,()):=by
 show agv t r=_;unfold agv;rw[vO hr,atM h1]
 cases hs:gz r with
 | none=>rfl
 | some s =>
  show (if ge s.2.2.2 t.2.2.1=true then (zC (mU (t,1,())) fun y=>some (y.1,())) else zC (qc (t,5,())) fun y=>some (y.1,()))=_;dsimp only;by_cases e:t.2.2.1≤s.2.2.2
  ·rw[if_pos (gZ.2 e),if_pos e];rfl
  ·rw[if_neg (fun h=>e (gZ.1 h)),if_neg e];rfl
theorem aaD{t:TTk}(h1:t.2.2.2.2.2.1=6){r:TR}(hr:∀x∈r.2.2.2.1,0≤x∧x≤65535):NT (t,r,())=some (gK t r,()):=by
 show agx t r=_;unfold agx;rw[vO hr,atN h1]
 cases hs:gz r with
 | none=>rfl
 | some s =>
  show (zC (qM (s,t,())) fun y=>if (!y.1)=true then (zC (mU (t,1,())) fun y=>some (y.1,())) else zC (qc (t,6,())) fun y=>some (y.1,()))=_;rw[vP,zD];dsimp only;cases nH s t<;>rfl
theorem acX{t:TTk}(h1:t.2.2.2.2.2.1=7){r:TR}(hr:∀x∈r.2.2.2.1,0≤x∧x≤65535):NY (t,r,())=some (gK t r,()):=by
 show Wd NV NW t r=_;unfold Wd;rw[vO hr,amn h1];by_cases hg:t.2.2.2.2.1=2
 ·rw[if_pos hg]
  cases hs:gz r with
  | none =>
   show (if eqi t.2.2.2.2.1 2=true then NV false t _ else _)=_;rw[if_pos (bu.2 hg)];rfl
  | some s =>
   show (if eqi t.2.2.2.2.1 2=true then NV (ge s.2.2.2 t.2.2.1) t _ else _)=_;rw[if_pos (bu.2 hg)];dsimp only;by_cases e:t.2.2.1≤s.2.2.2
   ·rw[show ge s.2.2.2 t.2.2.1=true from gZ.2 e,if_pos e];rfl
   ·rw[show ge s.2.2.2 t.2.2.1=false from by rw[<- Bool.not_eq_true,gZ];exact e,if_neg e];rfl
 ·rw[if_neg hg]
  cases hs:gz r with
  | none =>
   show (if eqi t.2.2.2.2.1 2=true then _ else NW false t _)=_;rw[if_neg (fun h=>hg (bu.1 h))];rfl
  | some s =>
   show (if eqi t.2.2.2.2.1 2=true then _ else zC (qM (s,t,())) fun y=>NW (!y.1) t _)=_;rw[if_neg (fun h=>hg (bu.1 h)),vP,zD];dsimp only;cases nH s t<;>rfl
theorem acY{t:TTk}(h:OkT t){r:TR}(hr:∀x∈r.2.2.2.1,0≤x∧x≤65535)(hl:r.2.2.2.1.length≤1000000):XK (t,r,())=some (gK t r,()):=by
 have ha:=h.at';show XJ ais t r=_;unfold XJ;rw[iU (by omega) (by omega),if_neg (fun e=>by have:=gZ.1 e;omega)];show XI _ t r _=_;unfold XI;have e:∀k:Int,eqi t.2.2.2.2.2.1 k=decide (t.2.2.2.2.2.1=k):=fun k=>by rw[Bool.eq_iff_iff,bu,decide_eq_true_iff]
 have hc:t.2.2.2.2.2.1=0∨t.2.2.2.2.2.1=1∨t.2.2.2.2.2.1=2∨t.2.2.2.2.2.1=3∨t.2.2.2.2.2.1=4∨t.2.2.2.2.2.1=5∨t.2.2.2.2.2.1=6∨t.2.2.2.2.2.1=7:=by omega
 rcases hc with hk | hk | hk | hk | hk | hk | hk | hk
 ·rw[if_pos (bu.2 hk),acV]
  unfold gK;rw[if_neg (by omega),if_neg (by omega),if_neg (by omega),if_neg (by omega),if_neg (by omega),if_neg (by omega),if_neg (by omega)];rfl
 all_goals
  simp only[e,hk]
  try rw[aaC h hk hr]
  try rw[acW hk r]
  try rw[QX h hk hl]
  try rw[QY h hk hr]
  try rw[Qt hk hr]
  try rw[aaD hk hr]
  try rw[acX hk hr]
  rfl
theorem OkT.eff{t:TTk}(h:OkT t)(r:TR):OkT (gK t r):=by
 have hn:=h.n;by_cases ha:t.2.2.2.2.2.1=0
 ·have:gK t r=jE t t.2.2.2.2.2.2.2.2:=by unfold gK;rw[ha];rfl
  rw[this];exact h.end _
 unfold gK;have n0:OkT (tJ t 0):=h.num (by omega);split
 ·split
  ·exact h.end _
  ·split
   ·exact h.end _
   ·split
    ·exact n0.next ha
    ·exact h.again ha (by decide)
 ·split
  ·split
   ·exact h.end _
   ·exact h.to ha (by decide)
  ·split
   ·split
    ·rename_i hc
     have:t.2.2.2.2.2.2.1<t.2.2.2.1.length:=of_decide_eq_true hc.1;exact (h.num (by omega)).next ha
    ·exact h.again ha (by decide)
   ·split
    ·split
     ·exact h.end _
     ·split
      ·exact h.end _
      ·exact h.again ha (by decide)
    ·split
     ·split
      ·exact h.to ha (by decide)
      ·split
       ·exact h.end _
       ·exact h.to ha (by decide)
     ·split
      ·split
       ·exact h.to ha (by decide)
       ·split
        ·exact h.to ha (by decide)
        ·exact h.end _
      ·split
       ·split
        ·split
         ·split
          ·exact h.end _
          ·exact h.to ha (by decide)
         ·exact h.to ha (by decide)
        ·split
         ·split
          ·exact h.to ha (by decide)
          ·exact h.end _
         ·exact h.to ha (by decide)
       ·exact h.end _
theorem Qu{σ α:Type}{F:(σ->Option (Bool×Unit))->σ->Option (Bool×Unit)}{mk:Nat->σ}{l:List α}{p:α->Bool}(hs:∀self i x,l[i]? = some x->F self (mk i)=if p x=true then self (mk (i+1)) else some (false,()))
  (he:∀self,F self (mk l.length)=some (true,())):∀(k i n:Nat),i+k=l.length->k<n->cu F n (mk i)=some ((l.drop i).all p,())
 | _,_,0,_,hn=>by omega
 | 0,i,n+1,h,_=>by
  have:i=l.length:=by omega
  subst this;rw[lN,he,List.drop_length];rfl
 | k+1,i,n+1,h,hn=>by
  obtain⟨x,hx⟩:=jg (xs:=l) (i:=i) (by omega);rw[lN,hs _ _ _ hx,Qu hs he k (i+1) n (by omega) (by omega),List.drop_eq_getElem_cons (show i<l.length by omega),List.all_cons];have:l[i]'(by omega)=x:=by rw[zV (by omega)]at hx;exact Option.some.inj hx
  rw[this];cases p x<;>rfl
theorem Kj{l:List ay}(hl:l.length≤1000000)(hw:∀b∈l,b.2.length≤1000000):Nb (l,())=some (l,()):=by
 show Na l (zF l.length) 0 []=_;unfold Na
 have e:∀(x acc:List ay),x.foldl (fun r x=>r++[x]) acc=acc++x:=by
  intro x
  induction x with
  | nil=>simp
  | cons a q ih=>intro acc;rw[List.foldl_cons,ih];simp
 refine (oN (mk:=fun i (r:List ay)=>(l,zF l.length,(i:Int),r)) (xs:=l) (stp:=fun r x=>r++[x]) (fin:=fun r=>some (r,())) (fun i r=>r.length=i∧i≤l.length) ?_ ?_ ?_ l.length 0 [] 18446744073709551616 (by omega) (by omega) ⟨rfl,Nat.zero_le _⟩).trans (by rw[List.drop_zero,e];rfl)
 ·intro self i acc x hx hI
  have hi:=(List.getElem?_eq_some_iff.1 hx).1;show G9 _ l (zF l.length) (i:Int) acc=_;unfold G9;rw[if_pos (dw.2 (by rw[bn];omega)),gu hx,zD,nY (hw x (zY hx)),zD,jw (by show acc.length+1≤_;omega),iT (by omega)]
 ·intro i acc x hx hI
  have hi:=(List.getElem?_eq_some_iff.1 hx).1;exact⟨by simp;omega,by omega⟩
 ·intro self acc _
  show G9 _ l (zF l.length) (l.length:Int) acc=_;unfold G9;rw[if_neg (fun h=>by have:=dw.1 h;rw[bn]at this;omega)]
def pO(l:List ay):Bool:=decide (l.length≤8) && l.all gD
theorem atO{l:List ay}(hl:l.length≤1000000)(hw:∀b∈l,b.2.length≤1000000):Ws (l,())=some (pO l,()):=by
 show Wp Wq l=_;unfold Wp pO;by_cases h8:l.length≤8
 ·rw[if_neg (fun h=>by have:=jD.1 h;rw[bn]at this;omega),decide_eq_true h8,Bool.true_and]
  refine (Qu (mk:=fun i=>(l,zF l.length,(i:Int))) (l:=l) (p:=gD) ?_ ?_ l.length 0 18446744073709551616 (by omega) (by omega)).trans (by rw[List.drop_zero])
  ·intro self i x hx
   have hi:=(List.getElem?_eq_some_iff.1 hx).1;show HZ _ l (zF l.length) (i:Int)=_;unfold HZ;rw[if_pos (dw.2 (by rw[bn];omega)),gu hx,zD,qg (hw x (zY hx)),zD,iT (by omega)];cases gD x<;>rfl
  ·intro self
   show HZ _ l (zF l.length) (l.length:Int)=_;unfold HZ;rw[if_neg (fun h=>by have:=dw.1 h;rw[bn]at this;omega)]
 ·rw[if_pos (jD.2 (by rw[bn];omega)),decide_eq_false h8]
  rfl
structure SzT(t:TTk):Prop where
 w:t.1.2.2.2.2.2.1.2.2.2.2.1.length≤1000000
 b:t.1.2.2.2.2.2.1.2.2.2.2.2.length≤1000000
 l:t.2.2.2.1.length≤1000000
 k:∀b∈t.2.2.2.1,b.2.length≤1000000
theorem OkT.sz{t:TTk}(h:OkT t):SzT t:=⟨by have:=h.p.a.lw;omega,by have:=h.p.a.lb;omega,by have:=h.bl;omega,fun b hb=>by have:=Ch (h.bf b hb).1;omega⟩
theorem Dr{t:TTk}(h:SzT t):Ed (t,())=some (t,()):=by show UK t=_;unfold UK;rw[nY h.w,zD,Ca h.b,zD,Kj h.l h.k];rfl
def apT(t:TTk):Prop:=t.2.2.2.2.2.1≠0∧(t.2.2.2.2.2.1=2->rW t=true)
theorem Ci{t:TTk}(h:OkT t)(hh:rW t=true):∃b,t.2.2.2.1[t.2.2.2.2.2.2.1.toNat]? = some b∧tK t=iB t.2.1 t.2.2.1 t.2.2.2.2.2.2.1 b∧gD b=true∧∀y∈b.2,0≤y∧y≤65535:=by have hn:=h.n;have:=of_decide_eq_true hh;obtain⟨b,hb⟩:=jg (xs:=t.2.2.2.1) (i:=t.2.2.2.2.2.2.1.toNat) (by omega);obtain⟨h1,h2⟩:=h.bf b (zY hb);exact⟨b,hb,by unfold tK;rw[hb],h1,h2⟩
theorem EW{o tx n:Int}{x:ay}(ho:0≤o∧o≤65535)(ht:0≤tx∧tx≤4294967295)(hn:0≤n∧n≤7)(hw:∀w∈x.2,0≤w∧w≤65535):∀w∈iB o tx n x,0≤w∧w≤65535:=by
 intro w hm;unfold iB at hm;simp only[List.mem_cons]at hm;rcases hm with rfl | rfl | rfl | rfl | hm
 ·exact ho
 ·omega
 ·omega
 ·omega
 ·exact Se (fun _=>hw) w hm
theorem Ju{t:TTk}(h:OkT t):OkA (iQ t):=by
 have hn:=h.n;have hl:=h.bl;unfold iQ;split
 ·exact (mX (pG h (by decide))).1
 ·split
  ·split
   ·rename_i hh
    obtain⟨b,_,h2,h3,h4⟩:=Ci h hh;have:=of_decide_eq_true hh;have ho:=h.o;rw[h2];exact (yc mI (EW (by omega) h.x (by omega) h4)).1
   ·exact uj
  ·split
   ·exact (yh (by omega) (by decide)).1
   ·split
    ·exact (mX (pG h (by decide))).1
    ·split
     ·exact (mX (pG h (by decide))).1
     ·split
      ·exact (mX (pG h (by decide))).1
      ·split
       ·exact (yh (by decide) (by decide)).1
       ·exact uj
theorem Ag{t:TTk}(h:OkT t)(hg:apT t):iY (iQ t)=true:=by
 have hn:=h.n;have hl:=h.bl;have ha:=h.at';have h0:=hg.1;unfold iQ;split
 ·exact (mX (pG h (by decide))).2.1
 ·split
  ·rename_i h2
   rw[if_pos (hg.2 h2)];obtain⟨b,_,h2,h3,h4⟩:=Ci h (hg.2 h2);have:=of_decide_eq_true (hg.2 (by assumption));have ho:=h.o;rw[h2];exact (yc mI (EW (by omega) h.x (by omega) h4)).2.1
  ·split
   ·exact (yh (by omega) (by decide)).2
   ·split
    ·exact (mX (pG h (by decide))).2.1
    ·split
     ·exact (mX (pG h (by decide))).2.1
     ·split
      ·exact (mX (pG h (by decide))).2.1
      ·split
       ·exact (yh (by decide) (by decide)).2
       ·omega
def gP(t:TTk):TTk×List Int:=if t.1.2.2.2.2.1=true then (t,[]) else if iY (iQ t)=true then ((ug (wz t.1 (iQ t)),t.2),zm (wz t.1 (iQ t))) else (t,[])
theorem EX{t:TTk}(h:OkT t):y5 (t,())=some ((gP t).1,(gP t).2,()):=by
 show Wk agJ t=_;unfold Wk gP;rw[aaB h,zD,qR (eqAs_refl _)];dsimp only;rw[zD,qR (eqAs_refl _),ark h.p (Ju h)];split
 ·rfl
 ·split
  ·rfl
  ·rfl
def firstT(g:Int):Int:=if g=1 then 1 else if g=2 then 5 else if g=3 then 6 else 0
def jd(t:TTk)(g tx:Int)(l:List ay):TTk:=(fK t.1,t.2.1,tx,if g=1 then l else [],g,firstT g,0,0,0)
def jK(t:TTk)(g tx:Int)(l:List ay):TTk×List Int×Int :=
 if ¬ (1≤g∧g≤3)∨tx=0 then (t,[],2) else if g=1∧pO l=false then (t,[],20) else ((gP (jd t g tx l)).1,(gP (jd t g tx l)).2,0)
theorem Cj{t:TTk}(h:OkT t){g tx:Int}{l:List ay}(hx:0≤tx∧tx≤4294967295)(hl:g=1->pO l=true)(hw:∀b∈l,∀y∈b.2,0≤y∧y≤65535):OkT (jd t g tx l):=by
 refine⟨⟨h.p.u0,h.p.u1,h.p.l,h.p.t0,h.p.t1,h.p.r0,h.p.r1,uj,h.p.x0,h.p.x1⟩,h.o,hx,?_,?_,?_,?_,(by decide:(0:Int)≤0),fun _=>(by decide:(0:Int)≤8)⟩
 ·show (if g=1 then l else []).length≤8
  split
  ·rename_i e
   have:=hl e;unfold pO at this;simp only[zO,decide_eq_true_eq]at this;exact this.1
  ·decide
 ·show ∀b∈(if g=1 then l else []),_
  split
  ·rename_i e
   have:=hl e;unfold pO at this;simp only[zO,List.all_eq_true]at this;exact fun b hb=>⟨this.2 b hb,hw b hb⟩
  ·intro b hb;cases hb
 ·show 0≤firstT g∧firstT g≤7
  unfold firstT;split
  ·decide
  ·split
   ·decide
   ·split<;>decide
 ·exact⟨(by decide:(0:Int)≤0),by show (0:Int)≤((if g=1 then l else []).length:Int);omega⟩
theorem start_eq{t:TTk}(h:OkT t){g tx:Int}{l:List ay}(hx:0≤tx∧tx≤4294967295)(hl:l.length≤1000000)(hk:∀b∈l,b.2.length≤1000000)(hw:∀b∈l,∀y∈b.2,0≤y∧y≤65535) :
  sV (t,g,tx,l,())=some ((jK t g tx l).1,(jK t g tx l).2.1,(jK t g tx l).2.2,()):=by
 show Wu Wv t g tx l=_;unfold Wu jK;have k1:∀(g l a z),Wv g tx l a true t z=some (t,[],2,()):=fun g l a z=>by show H6 N6 g tx l a true t z=_;unfold H6;rw[if_pos rfl,Dr h.sz];rfl
 have hf:Wl (g,())=some (firstT g,decide (1≤g∧g≤3),()):=by
  show agL g=_;unfold agL firstT;by_cases h1:g=1
  ·subst h1;rfl
  ·rw[if_neg (fun e=>h1 (bu.1 e)),if_neg h1]
   by_cases h2:g=2
   ·subst h2;rfl
   ·rw[if_neg (fun e=>h2 (bu.1 e)),if_neg h2]
    by_cases h3:g=3
    ·subst h3;rfl
    ·rw[if_neg (fun e=>h3 (bu.1 e)),if_neg h3,decide_eq_false (by omega)]
 rw[hf,zD];by_cases hg:1≤g∧g≤3
 ·rw[decide_eq_true hg]
  by_cases h0:tx=0
  ·rw[if_neg (by simp),show eqi tx 0=true from bu.2 h0,k1,if_pos (.inr h0)]
  ·rw[if_neg (by simp),show eqi tx 0=false from by rw[<- Bool.not_eq_true,bu];exact h0,if_neg (fun e=>e.elim (fun e=>e hg) h0)]
   have k2:∀(l':List ay) z,l'=(if g=1 then l else [])->N6 g tx l' (firstT g) t z=some (if g=1∧pO l=false then (t,[],20,()) else ((gP (jd t g tx l)).1,(gP (jd t g tx l)).2,0,())):=fun l' z el=>by
    have hl':l'.length≤1000000:=by
     rw[el];split
     ·exact hl
     ·exact Nat.zero_le _
    have hk':∀b∈l',b.2.length≤1000000:=by
     rw[el];split
     ·exact hk
     ·intro b hb;cases hb
    show Wt g tx l' (firstT g) t z=_;unfold Wt;rw[atO hl' hk',zD];by_cases hc:g=1∧pO l=false
    ·have:pO l'=false:=by rw[el,if_pos hc.1];exact hc.2
     rw[this,if_pos (by decide),if_pos hc,Dr h.sz];rfl
    ·have:pO l'=true:=by
      rw[el];by_cases e:g=1
      ·rw[if_pos e]
       cases hfl:pO l with
       | true=>rfl
       | false=>exact absurd ⟨e,hfl⟩ hc
      ·rw[if_neg e];rfl
     have ok:=Cj h (g:=g) hx (l:=l) (fun e=>by rw[el,if_pos e]at this;exact this) hw;rw[this,if_neg (by decide),if_neg hc,drop_eq,zD,Kj hl' hk',zD];show (zC (y5 ((fK t.1,t.2.1,tx,l',g,firstT g,0,0,0),())) fun y=>some (y.1,y.2.1,0,()))=_;rw[el];show (zC (y5 (jd t g tx l,())) fun y=>some (y.1,y.2.1,0,()))=_;rw[EX ok];rfl
   show H6 N6 g tx l (firstT g) false t _=_;unfold H6;rw[if_neg (by decide)];by_cases e:g=1
   ·rw[if_neg (fun h=>fQ.1 h e),k2 l _ (by rw[if_pos e])]
    split<;>rfl
   ·rw[if_pos (fQ.2 e),k2 [] _ (by rw[if_neg e])]
    split<;>rfl
 ·rw[decide_eq_false hg,if_pos (by simp),k1,if_pos (.inl hg)]
def je(t:TTk)(f:List Int):TTk×List Int:=match pE t.1 f with
 | none=>(t,[])
 | some r=>if (gK (fK t.1,t.2) r).2.2.2.2.2.1=0 then (gK (fK t.1,t.2) r,[]) else gP (gK (fK t.1,t.2) r)
theorem OkT.drop{t:TTk}(h:OkT t):OkT (fK t.1,t.2) :=
 ⟨⟨h.p.u0,h.p.u1,h.p.l,h.p.t0,h.p.t1,h.p.r0,h.p.r1,uj,h.p.x0,h.p.x1⟩,h.o,h.x,h.bl,h.bf,h.at',h.n,h.tr⟩
theorem amo{t:TTk}(h:OkT t){f:List Int}(hf:∀x∈f,0≤x∧x≤255)(hl:f.length≤100000)(hr:∀r,pE t.1 f=some r->(∀x∈r.2.2.2.1,0≤x∧x≤65535)∧r.2.2.2.1.length≤1000000) :
  xw (t,f,())=some ((je t f).1,(je t f).2,()):=by
 show ait t f=_;unfold ait je;rw[Dr h.sz,zD,arn h.p hl hf]
 cases hv:pE t.1 f with
 | none=>rfl
 | some r =>
  obtain⟨h1,h2⟩:=hr r hv;show (zC (XK ((fK t.1,t.2),r,())) fun y=>if eqi y.1.2.2.2.2.2.1 0=true then some (y.1,[],()) else zC (y5 (y.1,())) fun y=>some (y.1,y.2.1,()))=_;rw[acY h.drop h1 h2,zD];dsimp only;by_cases e:(gK (fK t.1,t.2) r).2.2.2.2.2.1=0
  ·rw[if_pos (bu.2 e),if_pos e]
  ·rw[if_neg (fun h=>e (bu.1 h)),if_neg e,EX (h.drop.eff r)]
   rfl
def kH(t:TTk):TTk×List Int :=
 if (kK t.1).2.2=false then (((kK t.1).1,t.2),(kK t.1).2.1) else if t.2.2.2.2.1=1 then (jE ((kK t.1).1,t.2) 2,[]) else gP ((kK t.1).1,t.2)
abbrev kP:=List (Bool×List Int)
theorem kQ{s:TSl}(h:OkS s):iE s=s:=by have h1:=h.a.sz.hv;have h2:=h.a.sz.bs;unfold iE;rw[Dm h1 h2]
def jW(w:kP)(m:Bool)(b:List Int):kP:=if 0<b.length∧w.length<12 then w++[(m,b)] else w
theorem EY{b:List Int}{t:TTk}{s:TSl}(hs:OkS s)(x g:Int)(pl:List (List ay))(w:kP):A8 (b,t,s,x,g,pl,w,())=some (t,s,x,g,pl,jW w false b,()):=by
 show UG M9 b t s x g pl w=_;unfold UG jW;have k1:M9 b true (t,s,(),x,g,pl) w=need (small (w.length+1)) (some (t,s,x,g,pl,w++[(false,b)],())):=by show G8 b true (t,s,(),x,g,pl) w=_;unfold G8;rw[if_pos rfl,kQ hs]
 have k0:M9 b false (t,s,(),x,g,pl) w=some (t,s,x,g,pl,w,()):=by show G8 b false (t,s,(),x,g,pl) w=_;unfold G8;rw[if_neg (by decide),kQ hs]
 by_cases h1:0<b.length
 ·rw[if_pos (jD.2 (by rw[bn];omega))]
  by_cases h2:w.length<12
  ·rw[show lt (zF w.length) 12=true from dw.2 (by rw[bn];omega),k1,jw (by omega),if_pos ⟨h1,h2⟩]
  ·rw[show lt (zF w.length) 12=false from by rw[<- Bool.not_eq_true,dw,bn];omega,k0,if_neg (fun h=>h2 h.2)]
 ·rw[if_neg (fun h=>h1 (by have:=jD.1 h;rw[bn]at this;omega)),k0,if_neg (fun h=>h1 h.1)]
def jY(m:Bool×List Int)(t:TTk)(s:TSl)(w:kP):TTk×TSl×kP :=
 if m.1=true then ((je t m.2).1,s,jW w false (je t m.2).2) else (t,(pZ s m.2).1,jW w true (pZ s m.2).2)
structure OkM(t:TTk) (m:Bool×List Int):Prop where
 b:∀x∈m.2,0≤x∧x≤255
 l:m.2.length≤100000
 r:m.1=true->∀r,pE t.1 m.2=some r->(∀x∈r.2.2.2.1,0≤x∧x≤65535)∧r.2.2.2.1.length≤1000000
theorem amq{m:Bool×List Int}{t:TTk}{s:TSl}(ht:OkT t)(hs:OkS s)(hm:OkM t m)(x g:Int)(pl:List (List ay))(w:kP) :
  BP (m,t,s,x,g,pl,w,())=some ((jY m t s w).1,(jY m t s w).2.1,x,g,pl,(jY m t s w).2.2,()):=by
 show ZW ZX ZY m t s x g pl w=_;unfold ZW jY;have k1:∀b (o:kP) (t':TTk),ZX b (t,s,(),x,g,pl) o t'=some (t',s,x,g,pl,jW o false b,()):=fun b o t'=>by show ZU b (t,s,(),x,g,pl) o t'=_;unfold ZU;rw[kQ hs,EY hs,zD];dsimp only;rw[kQ hs]
 have k2:∀b (o:kP) (s':TSl),OkS s'->ZY 0 b (t,s,(),x,g,pl) o [s']=some (t,s',x,g,pl,jW o true b,()):=fun b o s' hs'=>by
  have k3:BN b true (t,s',(),x,g,pl) o=need (small (o.length+1)) (some (t,s',x,g,pl,o++[(true,b)],())):=by show Jd b true (t,s',(),x,g,pl) o=_;unfold Jd;rw[if_pos rfl,kQ hs']
  have k4:BN b false (t,s',(),x,g,pl) o=some (t,s',x,g,pl,o,()):=by show Jd b false (t,s',(),x,g,pl) o=_;unfold Jd;rw[if_neg (by decide),kQ hs']
  show ZV BN 0 b (t,s,(),x,g,pl) o [s']=_;unfold ZV jW;rw[iX,zD];by_cases h1:0<b.length
  ·rw[if_pos (jD.2 (by rw[bn];omega))]
   by_cases h2:o.length<12
   ·rw[show lt (zF o.length) 12=true from dw.2 (by rw[bn];omega)]
    show BN b true (t,s',(),x,g,pl) o=_;rw[k3,jw (by omega),if_pos ⟨h1,h2⟩]
   ·rw[show lt (zF o.length) 12=false from by rw[<- Bool.not_eq_true,dw,bn];omega]
    show BN b false (t,s',(),x,g,pl) o=_;rw[k4,if_neg (fun h=>h2 h.2)]
  ·rw[if_neg (fun h=>h1 (by have:=jD.1 h;rw[bn]at this;omega))]
   show BN b false (t,s',(),x,g,pl) o=_;rw[k4,if_neg (fun h=>h1 h.1)]
 by_cases h1:m.1=true
 ·rw[if_pos h1,if_pos h1,qR (eqAs_refl _),amo ht hm.b hm.l (hm.r h1),zD]
  exact k1 _ _ _
 ·rw[if_neg h1,if_neg h1,qR (eqAs_refl _),kQ hs,amc hs hm.b hm.l,zD]
  exact k2 _ _ _ (amd hs hm.b)
theorem uD{r:TR}(hr:RR r):∀y∈kG r,0≤y∧y≤255:=by
 have app:∀{l r:List Int},(∀y∈l,0≤y∧y≤255)->(∀y∈r,0≤y∧y≤255)->∀y∈l++r,0≤y∧y≤255:=fun h1 h2 y hy=>by
  rcases List.mem_append.1 hy with h | h
  ·exact h1 y h
  ·exact h2 y h
 have con:∀{x:Int} {r:List Int},(0≤x∧x≤255)->(∀y∈r,0≤y∧y≤255)->∀y∈x::r,0≤y∧y≤255:=fun h1 h2 y hy=>by
  rcases List.mem_cons.1 hy with h | h
  ·subst h;exact h1
  ·exact h2 y h
 have nil:∀y∈([]:List Int),0≤y∧y≤255:=fun y hy=>by cases hy
 cases hr with
 | ex f e h0 h h1 h2 =>
  have ea:add .u8 f 128=f+128:=wu8 (by omega) (by omega);unfold kG;rw[if_pos (by rw[fQ];show e≠0;omega)];unfold exB;dsimp only;rw[ea];exact con (by omega) (con (by omega) nil)
 | bits f l hf h1 h2 h3 =>
  have e:kG (f,0,l,[],0,0)=f::(gy l.length:Int)%256::iJ l:=by rcases hf with rfl | rfl<;>rfl
  rw[e];exact con (by omega) (con (by omega) (FT l))
 | words f l hf h1 h2 =>
  have e:kG (f,0,[],l,0,0)=f::2*(l.length:Int)%256::l.flatMap two:=by rcases hf with rfl | rfl | rfl<;>rfl
  rw[e];exact con (by omega) (con (by omega) (uo l))
 | coil b p =>
  show ∀y∈(5:Int)::two p++two (if b=true then 65280 else 0),0≤y∧y≤255;exact app (con (by decide) (lQ p)) (lQ _)
 | word x p =>
  show ∀y∈(6:Int)::two p++two x,0≤y∧y≤255;exact app (con (by decide) (lQ p)) (lQ _)
 | coils p n h1 h2 =>
  show ∀y∈(15:Int)::two p++two n,0≤y∧y≤255;exact app (con (by decide) (lQ p)) (lQ _)
 | regs p n h1 h2 =>
  show ∀y∈(16:Int)::two p++two n,0≤y∧y≤255;exact app (con (by decide) (lQ p)) (lQ _)
theorem acZ{tx unit:Int}{pdu:List Int}(h1:1≤pdu.length)(h2:pdu.length≤253)(ht:0≤tx)(ht2:tx≤65535)(hu:0≤unit)(hu2:unit≤255)(hb:∀y∈pdu,0≤y∧y≤255):gB (kJ tx unit pdu)=((tx,unit,pdu),0):=by
 have h:=aBV h1 h2 ht ht2 hu hu2 hb
 have hall:∀y∈kJ tx unit pdu,0≤y∧y≤255:=by
  intro y hy;unfold kJ at hy;rcases List.mem_append.1 hy with h | h
  ·simp at h
   rcases h with rfl | rfl | rfl | rfl | rfl<;>omega
  ·exact hb y h
 rw[wD (by simp[kJ];omega) hall]at h;have h:=Option.some.inj h;have e1:=congrArg (·.1) h;have e2:=congrArg (·.2.1) h;exact Prod.ext e1 e2
theorem apU{unit:Int}{pdu:List Int}(h1:1≤pdu.length)(h2:pdu.length≤253)(hu:1≤unit)(hu2:unit≤247):gW (iF (unit::pdu))=(unit,pdu,0):=by have h:=aBW h1 h2 hu hu2;rw[Da]at h;have h:=Option.some.inj h;exact Prod.ext (congrArg (·.1) h) (Prod.ext (congrArg (·.2.1) h) (congrArg (·.2.2.1) h))
def ji(l u x:Int)(r:TR):List Int:=if l=2 then kJ x u (kG r) else iF (u::kG r)
theorem amr{s:TSl}{a:TA}(ha:OkA a)(hr:iY a=true)(hu:1≤s.1∧s.1≤247){x:Int}(hx:0≤x∧x≤65535):pZ s (jA s.2.1 s.1 x a)=((gI s a).1,ji s.2.1 s.1 x (gI s a).2):=by
 have hl:=rM (mD hr);have hb:=uq (mD hr);unfold pZ jA ji;by_cases h2:s.2.1=2
 ·simp only[if_pos h2]
  rw[acZ (by omega) hl.2 hx.1 hx.2 (by omega) (by omega) hb];dsimp only;rw[if_neg (by simp),Qr ha hr]
 ·simp only[if_neg h2]
  rw[apU (by omega) hl.2 hu.1 hu.2];dsimp only;rw[if_neg (by simp),Qr ha hr]
def goodX(t:TTk):Prop:=t.2.2.2.2.2.1≠0∧(t.2.2.2.2.2.1=2∨t.2.2.2.2.2.1=3->rW t=true)
theorem goodX.good{t:TTk}(h:goodX t):apT t:=⟨h.1,fun e=>h.2 (.inl e)⟩
theorem vR{t:TTk}{k:Int}(h0:k≠0)(h2:k=2∨k=3->rW t=true):goodX (toT t k):=⟨h0,h2⟩
theorem F6(t:TTk):goodX (mQ t):=by
 unfold mQ;split
 ·exact vR (by decide) (fun e=>by omega)
 ·rename_i h
  exact vR (by decide) (fun _=>decide_eq_true (by omega))
theorem DC{t:TTk}{k:Int}(h0:k≠0)(h2:k=2∨k=3->rW t=true)(h:(jc t k).2.2.2.2.2.1≠0):goodX (jc t k):=by
 unfold jc at h ⊢;split
 ·rename_i h8
  rw[if_pos h8]at h;exact absurd rfl h
 ·exact vR h0 h2
theorem Kk{t:TTk}{r:TR}(hg:goodX t)(ha:0≤t.2.2.2.2.2.1∧t.2.2.2.2.2.1≤7)(h:(gK t r).2.2.2.2.2.1≠0):goodX (gK t r):=by
 have E:∀{s},(jE t s).2.2.2.2.2.1≠0->goodX (jE t s):=fun h=>absurd rfl h;have hc:t.2.2.2.2.2.1=1∨t.2.2.2.2.2.1=2∨t.2.2.2.2.2.1=3∨t.2.2.2.2.2.1=4∨t.2.2.2.2.2.1=5∨t.2.2.2.2.2.1=6∨t.2.2.2.2.2.1=7:=by have:=hg.1;omega
 have T:∀{k:Int},4≤k->goodX (toT t k):=fun hk=>vR (by omega) (fun e=>by omega);have A:∀{k:Int},k=1∨k=4->(jc t k).2.2.2.2.2.1≠0->goodX (jc t k):=fun hk=>DC (by omega) (fun e=>by omega);rcases hc with e | e | e | e | e | e | e
 ·rw[amj e]at h ⊢
  cases hr:gz r with
  | none=>rw[hr]at h;exact E h
  | some s =>
   rw[hr]at h;dsimp only at h ⊢;split
   ·rename_i q
    rw[if_pos q]at h;exact E h
   ·rename_i q
    rw[if_neg q]at h;split
    ·exact F6 _
    ·rename_i q
     rw[if_neg q]at h;exact A (.inl rfl) h
 ·rw[amk e]at h ⊢
  split
  ·rename_i q
   rw[if_pos q]at h;exact E h
  ·exact vR (by decide) (fun _=>hg.2 (.inl e))
 ·rw[aml e]at h ⊢
  split
  ·exact F6 _
  ·rename_i q
   rw[if_neg q]at h;exact DC (by decide) (fun _=>hg.2 (.inr e)) h
 ·rw[amm e]at h ⊢
  cases hr:gz r with
  | none=>rw[hr]at h;exact E h
  | some s =>
   rw[hr]at h;dsimp only at h ⊢;split
   ·rename_i q
    rw[if_pos q]at h;exact E h
   ·rename_i q
    rw[if_neg q]at h;exact A (.inr rfl) h
 ·unfold gK at h ⊢
  rw[e]at h ⊢;simp only[show ¬ (5:Int)=1 by decide,show ¬ (5:Int)=2 by decide,show ¬ (5:Int)=3 by decide,show ¬ (5:Int)=4 by decide,if_false,if_true]at h ⊢
  cases hr:gz r with
  | none=>exact T (by decide)
  | some s =>
   rw[hr]at h;dsimp only at h ⊢;split
   ·rename_i q
    rw[if_pos q]at h;exact E h
   ·exact T (by decide)
 ·unfold gK at h ⊢
  rw[e]at h ⊢;simp only[show ¬ (6:Int)=1 by decide,show ¬ (6:Int)=2 by decide,show ¬ (6:Int)=3 by decide,show ¬ (6:Int)=4 by decide,show ¬ (6:Int)=5 by decide,if_false,if_true]at h ⊢
  cases hr:gz r with
  | none=>exact T (by decide)
  | some s =>
   rw[hr]at h;dsimp only at h ⊢;split
   ·exact T (by decide)
   ·rename_i q
    rw[if_neg q]at h;exact E h
 ·unfold gK at h ⊢
  rw[e]at h ⊢;simp only[show ¬ (7:Int)=1 by decide,show ¬ (7:Int)=2 by decide,show ¬ (7:Int)=3 by decide,show ¬ (7:Int)=4 by decide,show ¬ (7:Int)=5 by decide,show ¬ (7:Int)=6 by decide,if_false,if_true]at h ⊢;split
  ·rename_i q
   rw[if_pos q]at h
   cases hr:gz r with
   | none=>exact T (by decide)
   | some s =>
    rw[hr]at h;dsimp only at h ⊢;split
    ·rename_i q
     rw[if_pos q]at h;exact E h
    ·exact T (by decide)
  ·rename_i q
   rw[if_neg q]at h
   cases hr:gz r with
   | none=>exact T (by decide)
   | some s =>
    rw[hr]at h;dsimp only at h ⊢;split
    ·exact T (by decide)
    ·rename_i q
     rw[if_neg q]at h;exact E h
def F7(p:TP):TP:=(p.1,p.2.1,p.2.2.1,p.2.2.2.1,false,zA,wu p.2.1 p.2.2.2.2.2.2.1,0,0)
structure OkX(t:TTk) (s:TSl):Prop where
 kt:OkT t
 ks:OkS s
 g:goodX t
 w:t.1.2.2.2.2.1=false
 u:s.1=t.1.1
 l:s.2.1=t.1.2.1
def aaE(t:TTk)(s:TSl):TTk:=gK (F7 t.1,t.2) (gI s (iQ t)).2
def slX(t:TTk)(s:TSl):TSl:=(gI s (iQ t)).1
theorem atP(p:TP)(c:_)(r:TR):(gK (F7 p,c) r).1=F7 p:=by
 unfold gK mQ jc
 repeat' split
 all_goals rfl
theorem F8(s:TSl)(a:TA):(gI s a).1.1=s.1∧(gI s a).1.2.1=s.2.1:=by
 unfold gI
 repeat' split
 all_goals exact⟨rfl,rfl⟩
theorem OkX.kt'{t:TTk}{s:TSl}(h:OkX t s):OkT (aaE t s):=by have hx:=wF t.1.2.1 h.kt.p.x0 h.kt.p.x1;have ok:OkT (F7 t.1,t.2):=⟨⟨h.kt.p.u0,h.kt.p.u1,h.kt.p.l,h.kt.p.t0,h.kt.p.t1,h.kt.p.r0,h.kt.p.r1,uj,hx.1,hx.2⟩,h.kt.o,h.kt.x,h.kt.bl,h.kt.bf,h.kt.at',h.kt.n,h.kt.tr⟩;exact ok.eff _
theorem OkX.ks'{t:TTk}{s:TSl}(h:OkX t s):OkS (slX t s):=vM h.ks (Ju h.kt) (Ag h.kt h.g.good)
theorem OkX.next{t:TTk}{s:TSl}(h:OkX t s)(h0:(aaE t s).2.2.2.2.2.1≠0):OkX (aaE t s) (slX t s):=by
 have e:(aaE t s).1=F7 t.1:=atP _ _ _;have l:=F8 s (iQ t);refine⟨h.kt',h.ks',Kk h.g h.kt.at' h0,by rw[e];rfl,?_,?_⟩
 ·rw[e]
  exact l.1.trans h.u
 ·rw[e]
  exact l.2.trans h.l
def uE(alt:Bool)(t:TTk)(x:Int):Option (Int×Int) :=
 if t.2.2.2.2.1=1∧t.2.2.2.2.2.2.2.2=1∧alt=false then some (2,x) else if t.2.2.2.2.1=1∧(alt=true∨t.2.2.2.2.2.2.2.2=2) then some (3,x) else if t.2.2.2.2.1≠0∧t.2.2.2.2.2.2.2.2=0 then none else some (1,x+1)
def fq(pl:List (List ay))(y:Int):List ay:=pl.getD (y.toNat%pl.length) []
structure OkPl(pl:List (List ay)):Prop where
 l:pl.length≤1000000
 b:∀q∈pl,q.length≤1000000∧∀b∈q,b.2.length≤1000000∧∀y∈b.2,0≤y∧y≤65535
theorem ams{pl:List (List ay)}(h:OkPl pl)(y:Int):(fq pl y).length≤1000000∧∀b∈fq pl y,b.2.length≤1000000∧∀z∈b.2,0≤z∧z≤65535:=by
 unfold fq;rw[zX]
 cases e:pl[y.toNat%pl.length]? with
 | none=>exact⟨Nat.zero_le _,fun b hb=>by cases hb⟩
 | some q=>exact h.b q (zY e)
theorem amt{t:TTk}{s:TSl}(ht:OkT t)(hs:OkS s){k y:Int}(hy:0≤y∧y≤4294967295){pl:List (List ay)}(hp:OkPl pl)(x g:Int)(w:kP) :
  y7 k y (t,s,(),x,g,pl) w=some (decide ((jK t k y (fq pl y)).2.2=0),(jK t k y (fq pl y)).1,s,y,if k=2 then y else g,pl,jW w false (jK t k y (fq pl y)).2.1,()):=by
 have k6:∀(b:List Int) (e:Int) g' (t':TTk),N8 y b e (t,s,(),x,g',pl) w t'=some (eqi e 0,t',s,y,g',pl,jW w false b,()):=fun b e g' t'=>by show Wz y b e (t,s,(),x,g',pl) w t'=_;unfold Wz;dsimp only;rw[kQ hs,EY hs,zD];dsimp only;rw[kQ hs]
 have st:∀(l:List ay) (g':Int),l=fq pl y->(zC (sV (t,k,y,l,())) fun z=>N8 y z.2.1 z.2.2.1 (t,s,(),x,g',pl) w z.1)=some (decide ((jK t k y (fq pl y)).2.2=0),(jK t k y (fq pl y)).1,s,y,g',pl,jW w false (jK t k y (fq pl y)).2.1,()):=fun l g' e=>by
  obtain⟨h1,h2⟩:=ams hp y;rw[e,start_eq ht hy h1 (fun b hb=>(h2 b hb).1) (fun b hb=>(h2 b hb).2),zD];dsimp only;rw[k6];have:∀z:Int,eqi z 0=decide (z=0):=fun z=>by rw[Bool.eq_iff_iff,bu,decide_eq_true_iff]
  rw[this]
 have k4:∀g':Int,WB k y (t,s,(),x,g',pl) w=some (decide ((jK t k y (fq pl y)).2.2=0),(jK t k y (fq pl y)).1,s,y,g',pl,jW w false (jK t k y (fq pl y)).2.1,()):=fun g'=>by
  show Wx N8 k y (t,s,(),x,g',pl) w=_;unfold Wx;by_cases h0:pl.length=0
  ·have e0:eqi (zF pl.length) 0=true:=bu.2 (by rw[bn];omega)
   have:pl=[]:=List.length_eq_zero_iff.1 h0;simp only[e0,if_true];rw[qR (eqAs_refl _),qR (eqAs_refl _)];exact st [] g' (by rw[this];rfl)
  ·have e0:eqi (zF pl.length) 0=false:=by rw[<- Bool.not_eq_true,bu,bn];omega
   have hl:=hp.l;have er:rem (cvt .i64 y) (zF pl.length)=((y.toNat%pl.length:Nat):Int):=by obtain⟨n,rfl⟩:=zN hy.1;rw[iU (by omega) (by omega),bn];unfold rem;rw[kC (by omega),zQ];rfl
   have hlt:y.toNat%pl.length<pl.length:=Nat.mod_lt _ (by omega);obtain⟨q,hq⟩:=jg (xs:=pl) hlt;have ep:q=fq pl y:=by unfold fq;rw[zX,hq];rfl
   simp only[e0];rw[if_neg (by decide),if_neg (by decide),eu (by rw[fQ,bn];omega),eu (by rw[fQ,bn];omega),er,gu hq,zD,zD,qR (eqAs_refl _),qR (eqAs_refl _)];exact st q g' ep
 show Ww WB k y (t,s,(),x,g,pl) w=_;unfold Ww;by_cases h2:k=2
 ·rw[if_pos (bu.2 h2),if_pos h2]
  exact k4 y
 ·rw[if_neg (fun e=>h2 (bu.1 e)),if_neg h2]
  exact k4 g
def yj(alt:Bool)(t:TTk)(s:TSl)(x g:Int)(pl:List (List ay))(w:kP):Bool×TTk×TSl×Int×Int×List (List ay)×kP×Unit :=
 match uE alt t x with
 | none=>(true,t,s,x,g,pl,w,())
 | some (k,y)=>(decide ((jK t k y (fq pl y)).2.2=0),(jK t k y (fq pl y)).1,s,y,if k=2 then y else g,pl,jW w false (jK t k y (fq pl y)).2.1,())
theorem ac0{t:TTk}{s:TSl}(ht:OkT t)(hs:OkS s)(alt:Bool){x:Int}(hx:0≤x∧x≤1000000)(g:Int){pl:List (List ay)}(hp:OkPl pl)(w:kP) :
  H8 (alt,t,s,x,g,pl,w,())=some (yj alt t s x g pl w):=by
 have ea:add .u32 x 1=x+1:=ate (by omega) (by omega);have go:=fun k y hy=>amt ht hs (k:=k) (y:=y) hy hp x g w;have K5:∀b,N9 1 (x+1) b (t,s,(),x,g,pl) w=if b=true then some (true,t,s,x,g,pl,w,()) else y7 1 (x+1) (t,s,(),x,g,pl) w:=fun b=>by show Wy y7 1 (x+1) b (t,s,(),x,g,pl) w=_;unfold Wy;rw[kQ hs]
 have K3:∀b,H7 1 (x+1) b (t,s,(),x,g,pl) w=if b=true then y7 3 x (t,s,(),x,g,pl) w else if nei t.2.2.2.2.1 0=true then N9 1 (x+1) (eqi t.2.2.2.2.2.2.2.2 0) (t,s,(),x,g,pl) w else N9 1 (x+1) false (t,s,(),x,g,pl) w:=fun b=>rfl;have K1:∀b,WC alt 1 (x+1) b (t,s,(),x,g,pl) w=if b=true then y7 2 x (t,s,(),x,g,pl) w else if eqi t.2.2.2.2.1 1=true then (if alt=true then H7 1 (x+1) true (t,s,(),x,g,pl) w else H7 1 (x+1) (eqi t.2.2.2.2.2.2.2.2 2) (t,s,(),x,g,pl) w) else H7 1 (x+1) false (t,s,(),x,g,pl) w:=fun b=>rfl;show WA WC alt t s x g pl w=_;unfold WA yj uE;rw[ea];simp only[K1,K3,K5,go 1 (x+1) (by omega),go 2 x (by omega),go 3 x (by omega)];generalize t.2.2.2.2.1=a;generalize t.2.2.2.2.2.2.2.2=c;have eq:∀p q:Int,(eqi p q=true)=(p=q):=fun p q=>propext bu;have ne:∀p q:Int,(nei p q=true)=(p≠q):=fun p q=>propext fQ;cases alt<;>simp only[eq,ne,Bool.not_true,Bool.not_false,if_true,Bool.false_eq_true,if_false]<;>(by_cases h1:a=1<;>by_cases h2:c=1<;>by_cases h3:c=2<;>by_cases h4:c=0<;>by_cases h5:a=0<;>simp_all<;>omega)
theorem DF{tx unit:Int}{pdu:List Int}(hu:0≤unit∧unit≤255)(hb:∀y∈pdu,0≤y∧y≤255):∀y∈kJ tx unit pdu,0≤y∧y≤255:=by
 intro y hy;unfold kJ at hy;rcases List.mem_append.1 hy with h | h
 ·simp at h
  rcases h with rfl | rfl | rfl | rfl | rfl<;>omega
 ·exact hb y h
theorem F9{b:List Int}(hb:∀y∈b,0≤y∧y≤255):∀y∈iF b,0≤y∧y≤255:=by
 have hs:=zl b;intro y hy;unfold iF at hy;rcases List.mem_append.1 hy with h | h
 ·exact hb y h
 ·simp at h
  rcases h with rfl | rfl<;>omega
theorem Kl{u:Int}{b:List Int}(hu:0≤u∧u≤255)(hb:∀y∈b,0≤y∧y≤255):∀y∈u::b,0≤y∧y≤255:=by
 intro y hy;rcases List.mem_cons.1 hy with h | h
 ·exact h ▸ hu
 ·exact hb y h
theorem QZ{l u x:Int}{r:TR}(hr:RR r)(hu:0≤u∧u≤255):∀y∈ji l u x r,0≤y∧y≤255:=by
 unfold ji;split
 ·exact DF hu (uD hr)
 ·exact F9 (Kl hu (uD hr))
theorem Qv{l u x:Int}{a:TA}(hr:RA a)(hu:0≤u∧u≤255):∀y∈jA l u x a,0≤y∧y≤255:=by
 unfold jA;split
 ·exact DF hu (uq hr)
 ·exact F9 (Kl hu (uq hr))
theorem amu{t:TTk}{s:TSl}(ht:OkT t)(hs:OkS s)(hu:s.1=t.1.1)(hl:s.2.1=t.1.2.1){g y:Int}{l:List ay}(hg:1≤g∧g≤3)(hy:1≤y∧y≤4294967295)(hf:g=1->pO l=true)(hw:∀b∈l,∀z∈b.2,0≤z∧z≤65535) :
  jK t g y l=((gP (jd t g y l)).1,(gP (jd t g y l)).2,0)∧OkX (jd t g y l) s:=by
 constructor
 ·unfold jK
  rw[if_neg (by rintro (h | h);exact h hg;omega),if_neg (fun h=>by rw[hf h.1]at h;exact absurd h.2 (by decide))]
 ·refine⟨Cj ht (by omega) hf hw,hs,?_,rfl,hu,hl⟩
  have hc:g=1∨g=2∨g=3:=by omega
  have e:(jd t g y l).2.2.2.2.2.1=firstT g:=rfl;unfold goodX;rw[e];rcases hc with rfl | rfl | rfl<;>exact⟨by decide,fun h=>absurd h (by decide)⟩
def og(x:ay):ay:=(x.1%64,x.2.take (min (min x.2.length 14) (64 - x.1%64).toNat))
def qj(l:List ay):List ay:=(l.take 4).map og
theorem ac1(x:ay):gD (og x)=true:=by unfold gD og;rw[decide_eq_true_eq];dsimp only;rw[kB];omega
theorem aro{l:List ay}:KN (l,4,())=some (qj l,()):=by
 show UB GZ l 4=_;unfold UB qj
 have hc:cut l 0 (if lt 4 (zF l.length)=true then 4 else zF l.length)=some (l.take 4):=by
  by_cases h:4<l.length
  ·rw[if_pos (by rw[dw,bn];omega)]
   exact oM (j:=4) (by omega)
  ·rw[if_neg (by rw[dw,bn];omega),bn,oM (Nat.le_refl _),List.take_of_length_le (Nat.le_refl _),List.take_of_length_le (by omega)]
 rw[hc,zD];have h8:(l.take 4).length≤4:=by rw[kB];omega
 generalize l.take 4=m at h8;show GZ m (zF m.length) 0 ((m.take 0).map og)=_;unfold GZ;refine lU (N:=m.length) (mk:=fun i=>(m,zF m.length,(i:Int),(m.take i).map og)) ?_ ?_ m.length 0 _ (by omega) (by omega)
 ·intro self i hi
  show GY (M7 _) _ m (zF m.length) (i:Int) ((m.take i).map og)=self (m,zF m.length,((i+1:Nat):Int),(m.take (i+1)).map og);obtain⟨x,hx⟩:=jg (xs:=m) (i:=i) hi;have es:(m.take (i+1)).map og=(m.take i).map og++[og x]:=by rw[List.take_add_one,hx,List.map_append];rfl
  have hlen:((m.take i).map og).length≤4:=by rw[kA,kB];omega
  rw[es];unfold GY;rw[if_pos (by rw[dw,bn];omega),gu hx,zD]
  have K2:M7 (fun t14 t15 t16 out=>self (t14,t15,t16,out)) (x.1%64) m (zF m.length) (i:Int) ((m.take i).map og) x=self (m,zF m.length,((i+1:Nat):Int),(m.take i).map og++[og x]):=by
   show UA _ (x.1%64) m (zF m.length) (i:Int) ((m.take i).map og) x=_;unfold UA;have e1:Sx.sub .i64 64 (x.1%64)=64 - x.1%64:=kV (by omega) (by omega)
   have hc2:cut x.2 0 (if lt (Sx.sub .i64 64 (x.1%64)) (if lt 14 (zF x.2.length)=true then 14 else zF x.2.length)=true then Sx.sub .i64 64 (x.1%64) else if lt 14 (zF x.2.length)=true then 14 else zF x.2.length)=some (og x).2:=by
    rw[e1];have e2:(if lt (64 - x.1%64) (if lt 14 (zF x.2.length)=true then 14 else zF x.2.length)=true then 64 - x.1%64 else if lt 14 (zF x.2.length)=true then 14 else zF x.2.length)=((min (min x.2.length 14) (64 - x.1%64).toNat:Nat):Int):=by simp only[qQ,bn,decide_eq_true_eq];split<;>split<;>omega
    rw[e2,oM (by omega)];rfl
   rw[hc2,zD];have h14:(og x).2.length≤14:=by show (x.2.take _).length≤14;rw[kB];omega
   rw[jw (by omega),jw (by show _+1≤_;omega),iT (by omega)];rfl
  have er:rem x.1 64=x.1%64∨(rem x.1 64<0∧rem x.1 64+64=x.1%64):=by unfold rem;have:=Int.tmod_eq_emod (a:=x.1) (b:=64);rw[this];split<;>omega
  by_cases hneg:rem x.1 64<0
  ·rw[if_pos (dw.2 hneg)]
   have h2:rem x.1 64+64=x.1%64:=by
    rcases er with e | e
    ·have:=Int.emod_nonneg x.1 (show (64:Int)≠0 by decide);omega
    ·exact e.2
   rw[jO (by omega) (by omega),h2];exact K2
  ·rw[if_neg (fun e=>hneg (dw.1 e))]
   have h2:rem x.1 64=x.1%64:=by
    rcases er with e | e
    ·exact e
    ·exact absurd e.1 hneg
   rw[h2];exact K2
 ·intro self
  show GY (M7 _) _ m (zF m.length) (m.length:Int) _=_;unfold GY;rw[if_neg (by rw[dw,bn];omega),List.take_of_length_le (Nat.le_refl _)]
def pP(link timeout retries:Int):TTk:=((9,1+link%2,1+timeout%10,retries%4,false,zA,0,0,0),7,0,[],0,0,0,0,0)
def pQ(link:Int)(b:List Int):TSl:=(9,1+link%2,zAg (sP b) 40,zE 16 false)
def nI(plan:List (List ay)):List (List ay):=(plan.take 6).map qj
theorem arp{link timeout retries:Int}(h1:0≤link)(h2:0≤timeout)(h3:0≤retries):OkT (pP link timeout retries) :=
 ⟨aaj (decide_eq_true ⟨⟨by omega,by omega⟩,by omega,⟨by omega,by omega⟩,by omega,by omega⟩),(by decide:(1:Int)≤7∧(7:Int)≤65535),(by decide:(0:Int)≤0∧(0:Int)≤4294967295),Nat.zero_le _,fun b hb=>(by cases hb),(by decide:(0:Int)≤0∧(0:Int)≤7),(by decide:(0:Int)≤0∧(0:Int)≤((0:Nat):Int)),(by decide:(0:Int)≤0),fun e=>absurd rfl e⟩
theorem Sl{link:Int}{b:List Int}(h:0≤link)(hb:∀x∈b,0≤x∧x≤65535):OkS (pQ link b):=by refine⟨⟨(by decide:(1:Int)≤9),(by decide:(9:Int)≤247)⟩,?_,Dj (F3 b) (aay hb) ⟨by decide,by decide⟩ ⟨by decide,by decide⟩,rfl⟩;show 1+link%2=1∨1+link%2=2;omega
theorem Sm{l:List ay}(hw:∀b∈l,∀y∈b.2,0≤y∧y≤65535):(qj l).length≤4∧∀b∈qj l,gD b=true∧b.2.length≤14∧∀y∈b.2,0≤y∧y≤65535:=by refine⟨by unfold qj;rw[kA,kB];omega,fun b hb=>?_⟩;obtain⟨x,hx,rfl⟩:=List.mem_map.1 hb;refine⟨ac1 x,?_,fun y hy=>hw x (List.mem_of_mem_take hx) y (List.mem_of_mem_take hy)⟩;unfold og;dsimp only;rw[kB];omega
theorem amv{plan:List (List ay)}(hw:∀l∈plan,∀b∈l,∀y∈b.2,0≤y∧y≤65535):OkPl (nI plan):=by refine⟨by unfold nI;rw[kA,kB];omega,fun q hq=>?_⟩;obtain⟨l,hl,rfl⟩:=List.mem_map.1 hq;obtain⟨h1,h2⟩:=Sm (hw l (List.mem_of_mem_take hl));exact⟨by omega,fun b hb=>⟨by have:=(h2 b hb).2.1;omega,(h2 b hb).2.2⟩⟩
theorem aaF{plan:List (List ay)}(hw:∀l∈plan,∀b∈l,∀y∈b.2,0≤y∧y≤65535)(y:Int):(fq (nI plan) y).length≤4∧∀b∈fq (nI plan) y,gD b=true∧b.2.length≤14∧∀y∈b.2,0≤y∧y≤65535:=by
 unfold fq;rw[zX]
 cases e:(nI plan)[y.toNat%(nI plan).length]? with
 | none=>exact⟨Nat.zero_le _,fun b hb=>by cases hb⟩
 | some q =>
  obtain⟨l,hl,rfl⟩:=List.mem_map.1 (zY e);exact Sm (hw l (List.mem_of_mem_take hl))
theorem Km{l:List ay}(h:l.length≤8)(hf:∀b∈l,gD b=true):pO l=true:=by unfold pO;rw[decide_eq_true h,Bool.true_and,List.all_eq_true];exact hf
theorem arq{u l o t r:Int}(h:uO u l t r=true)(ho:o≠0):Ut (u,l,o,t,r,())=some (((u,l,t,r,false,zA,0,0,0),o,0,[],0,0,0,0,0),0,()):=by show Uq Ur u l o t r=_;unfold Uq;rw[atK,if_pos h,zD];dsimp only;rw[if_neg (by decide),show eqi o 0=false from by rw[<- Bool.not_eq_true,bu];exact ho];rfl
theorem ars{link:Int}(h:0≤link)(b:List Int):KM (9,1+link%2,sP b,40,())=some (pQ link b,0,()):=by
 show aev 9 (1+link%2) (sP b) 40=_;unfold aev
 have e:GU (9,1+link%2,())=some (true,()):=by
  show M6 9 (1+link%2)=_;unfold M6;rw[if_pos (by decide),if_pos (by decide)];by_cases h1:1+link%2=1
  ·rw[if_pos (bu.2 h1)]
  ·rw[if_neg (fun e=>h1 (bu.1 e)),show eqi (1+link%2) 2=true from bu.2 (by omega)]
 have hl:=F3 b;rw[e,zD,if_neg (by decide),ard (by omega),if_pos hl,if_pos (by decide),zD];rfl
theorem amw{link timeout retries:Int}(h1:0≤link)(h2:0≤timeout)(h3:0≤retries){bank:List Int}(hb:∀x∈bank,0≤x∧x≤65535)(plan:List (List ay)) :
  G6 (link,timeout,retries,bank,plan,())=some (pP link timeout retries,pQ link bank,0,0,nI plan,true,[],()):=by
 show UE G5 link timeout retries bank plan=_;unfold UE;have e1:add .u8 1 (rem link 2)=1+link%2:=by unfold rem;rw[kC h1];exact wu8 (by omega) (by omega)
 have e2:add .i64 1 (cvt .i64 (rem timeout 10))=1+timeout%10:=by unfold rem;rw[kC h2,iU (by omega) (by omega),jO (by omega) (by omega)]
 have e3:cvt .i64 (rem retries 4)=retries%4:=by unfold rem;rw[kC h3,iU (by omega) (by omega)]
 have hc:cut plan 0 (if lt 6 (zF plan.length)=true then 6 else zF plan.length)=some (plan.take 6):=by
  by_cases h:6<plan.length
  ·rw[if_pos (by rw[dw,bn];omega)]
   exact oM (j:=6) (by omega)
  ·rw[if_neg (by rw[dw,bn];omega),bn,oM (Nat.le_refl _),List.take_of_length_le (Nat.le_refl _),List.take_of_length_le (by omega)]
 rw[e1,e2,e3,arq (decide_eq_true ⟨⟨by omega,by omega⟩,by omega,⟨by omega,by omega⟩,by omega,by omega⟩) (by decide),zD,al6,zD,ars h1,zD,hc,zD];have h6:(plan.take 6).length≤6:=by rw[kB];omega
 unfold nI;generalize plan.take 6=m at h6;show G5 0 0 0 m (zF m.length) 0 _ (pP link timeout retries) [pQ link bank] (pP link timeout retries,pQ link bank,(),0,0,()) [] ((m.take 0).map qj)=_;unfold G5;refine lU (N:=m.length) (mk:=fun i=>(0,0,0,m,zF m.length,(i:Int),_,pP link timeout retries,[pQ link bank],(pP link timeout retries,pQ link bank,(),0,0,()),[],(m.take i).map qj)) ?_ ?_ m.length 0 _ (by omega) (by omega)
 ·intro self i hi
  show G4 UF _ 0 0 0 m (zF m.length) (i:Int) _ (pP link timeout retries) [pQ link bank] (pP link timeout retries,pQ link bank,(),0,0,()) [] ((m.take i).map qj)=_;obtain⟨x,hx⟩:=jg (xs:=m) (i:=i) hi;have es:(m.take (i+1)).map qj=(m.take i).map qj++[qj x]:=by rw[List.take_add_one,hx,List.map_append];rfl
  have hlen:((m.take i).map qj).length≤6:=by rw[kA,kB];omega
  rw[es];unfold G4;rw[if_pos (by rw[dw,bn];omega),gu hx,zD,aro,zD,jw (by show _+1≤_;omega),iT (by omega)];rfl
 ·intro self
  show G4 UF _ 0 0 0 m (zF m.length) (m.length:Int) _ (pP link timeout retries) [pQ link bank] (pP link timeout retries,pQ link bank,(),0,0,()) [] ((m.take m.length).map qj)=_;unfold G4;rw[if_neg (by rw[dw,bn];omega),List.take_of_length_le (Nat.le_refl _)];show UD 0 0 0 _ (pP link timeout retries) [pQ link bank] (pP link timeout retries,pQ link bank,(),0,0,()) [] (m.map qj)=_;unfold UD;rw[if_pos (by decide),if_pos (by decide),if_pos (show eqi (pP link timeout retries).2.1 7=true from rfl),iX,zD];dsimp only;rw[kQ (Sl h1 hb)];rfl
theorem art{s:TSl}{c:TCm}(h:OkC c)(hA:(doS (fV s.2.2.1) c).2≠0):gI s (jV c)=(s,(23,4,[],[],0,0)):=by
 obtain⟨_,_,h3⟩:=mX h;have hw:iC s.2.2.1 (atW (jV c)) (jV c).2.2.2.2.1=(s.2.2.1,4):=by show iC s.2.2.1 272 (jV c).2.2.2.2.1=_;unfold iC;rw[if_pos rfl,Kh h,if_neg (by simp),if_pos hA]
 have hn:¬ ((jV c).1=5∨(jV c).1=15):=by show ¬ ((23:Int)=5∨(23:Int)=15);decide
 have hl:¬ (jV c).2.2.2.2.1.length=0:=by show ¬ (8=0);decide
 unfold gI;rw[if_neg (by rw[h3];decide),if_neg hn,if_neg hl,hw,if_pos (by simp)];rfl
theorem others{a:TAg}(h1:a.2.1.1≠0)(h2:a.2.1.1≠7){v t:Int}(n k:Int)(hv:1≤v∧v≤4)(ht:t≠0):(doS (fV a) (7,v,t,n,k)).2=22:=by unfold doS;rw[if_neg (by rintro (h | h | h);exact absurd h (by decide:(7:Int)≠0);exact ht h;exact h hv),if_pos ⟨h1,h2⟩]
theorem amx:Z4 ()=some (true,()):=by kernel_rfl
def hvK(k:Nat):List Bool:=zE k true++zE (8 - k) false
def bsK(L:List ay)(k:Nat):List ay:=L.take k++zE (8 - k) zB
theorem aru{k:Nat}(h:k≤8):(hvK k).length=8:=by simp[hvK];omega
theorem arv{L:List ay}{k:Nat}(h:k≤8)(hL:k≤L.length):(bsK L k).length=8:=by simp[bsK];omega
theorem amy:∀{h1 h2:List Bool} {b1 b2:List ay},h1.length=b1.length->gF (h1++h2) (b1++b2)=gF h1 b1++gF h2 b2:=by intro h1 h2 b1 b2 h;unfold gF;rw[List.zip_append h,List.filter_append,List.map_append]
theorem Kn:∀(l:List ay),gF (zE l.length true) l=l
 | []=>rfl
 | x::r=>by have:=Kn r;unfold gF at this ⊢;rw[List.length_cons,List.replicate_succ,List.zip_cons_cons,List.filter_cons,if_pos rfl,List.map_cons,this]
theorem Ga:∀(n m:Nat),gF (zE n false) (zE m zB)=[]
 | 0,_=>by simp[gF]
 | n+1,0=>by simp[gF]
 | n+1,m+1=>by have:=Ga n m;unfold gF at this ⊢;rw[List.replicate_succ,List.replicate_succ,List.zip_cons_cons,List.filter_cons,if_neg (by decide),this]
theorem atQ{L:List ay}{k:Nat}(hL:k≤L.length):gF (hvK k) (bsK L k)=L.take k:=by
 have lp:(L.take k).length=k:=by rw[kB];omega
 unfold hvK bsK;rw[amy (by rw[kD,lp]),Ga,List.append_nil];have:=Kn (L.take k);rw[lp]at this;exact this
theorem ac2{k:Nat}(h:k≤8):(hvK k).count true=k:=by
 have:∀k:Fin 9,(hvK k.1).count true=k.1:=by decide
 exact this ⟨k,by omega⟩
section
variable {bank:List Int}{o tx tk la:Int}{L:List ay}(hb:bank.length=64)(hbr:∀x∈bank,0≤x∧x≤65535)(ho:1≤o∧o≤65535)(ht:1≤tx∧tx≤4294967295)(hk:1≤tk∧tk≤9223372036854775807)
 (hL:L.length≤8) (hf:∀x∈L,gD x=true) (hw:∀x∈L,∀w∈x.2,0≤w∧w≤65535) (hla:0≤la∧la<tx)
include hb hbr ho ht hk hL hf hw hla
end
theorem Ko(f:Int)(A:TAg):gz (f,0,[],gM A,0,0)=some (A.2.1.1,A.2.2.1,A.2.2.2.1,A.2.2.2.2.1):=by
 have e:gz (f,0,[],gM A,0,0)=some (A.2.1.1,A.2.2.1,65536*(A.2.2.2.1 / 65536)+A.2.2.2.1%65536,65536*(A.2.2.2.2.1 / 65536)+A.2.2.2.2.1%65536):=rfl;have h:∀x:Int,65536*(x / 65536)+x%65536=x:=fun x=>by omega
 rw[e,h,h]
section
variable {bank:List Int}{tx tk la:Int}{L:List ay}(hb:bank.length=64)(hbr:∀x∈bank,0≤x∧x≤65535)(ht:1≤tx∧tx≤4294967295)(hk:1≤tk∧tk≤9223372036854775807)
 (hL:L.length≤8) (hf:∀x∈L,gD x=true) (hw:∀x∈L,∀w∈x.2,0≤w∧w≤65535) (hla:0≤la∧la<tx)
include hb hbr ht hk hL hf hw hla
end
section
variable {bank:List Int}{tx tk la:Int}{L:List ay}(hb:bank.length=64)(hbr:∀x∈bank,0≤x∧x≤65535)(ht:1≤tx∧tx≤4294967295)(hk:1≤tk∧tk≤9223372036854775807)
 (hL:L.length≤8) (hf:∀x∈L,gD x=true) (hw:∀x∈L,∀w∈x.2,0≤w∧w≤65535) (hla:0≤la∧la<tx)
include hb hbr ht hk hL hf hw hla
end
section
variable {bank:List Int}{tx tk la:Int}{L:List ay}(hb:bank.length=64)(hbr:∀x∈bank,0≤x∧x≤65535)(ht:1≤tx∧tx≤4294967295)(hk:1≤tk∧tk≤9223372036854775807)
 (hL:L.length≤8) (hf:∀x∈L,gD x=true) (hw:∀x∈L,∀w∈x.2,0≤w∧w≤65535) (hla:0≤la∧la<tx)
include hb hbr ht hk hL hf hw hla
end
structure AG(pl:List (List ay)) (x:Int) (a:TAg):Prop where
 o:a.2.1.1=0∨a.2.1.1=7
 t:a.2.2.2.1≤x
 s:∀k:Nat,a.2.2.2.2.2.1.2.1[k]? = some true->∃b,(fq pl a.2.2.2.1)[k]? = some b∧a.2.2.2.2.2.1.2.2[k]? = some b
 p:a.2.2.1=2->a.2.2.2.2.2.1.2.1.count true=(fq pl a.2.2.2.1).length
theorem AG.mono{pl:List (List ay)}{x y:Int}{a:TAg}(h:AG pl x a)(hxy:x≤y):AG pl y a:=⟨h.o,Int.le_trans h.t hxy,h.s,h.p⟩
theorem Qw(k:Nat):zSt.2.1[k]? ≠ some true:=by intro h;have:=zY h;exact absurd this (by decide)
theorem r9{hv:List Bool}{bs:List ay}{k:Nat}{b:ay}(h1:hv[k]? = some true)(h2:bs[k]? = some b):(nzB hv bs)[k]? = some b:=FV h1 h2
theorem AG.own{pl:List (List ay)}{x:Int}{a:TAg}(h:AG pl x a):AG pl x (fV a) :=
 ⟨h.o,h.t,fun k hk=>by
  obtain⟨b,h1,h2⟩:=h.s k hk
  exact⟨b,h1,r9 hk h2⟩,h.p⟩
theorem Qx{hv:List Bool}{n:Nat}(hl:hv.length=8)(hn:n≤8)(hf:sJ hv (n:Int)=true):hv=hvK n:=by
 have hf:=of_decide_eq_true hf;refine List.ext_getElem? fun i=>?_;by_cases hi:i<8
 ·have h1:=hf i hi
  have h2:hv[i]? = some (hv.getD i false):=by rw[zX,zV (by omega)];rfl
  rw[h2,h1];unfold hvK;by_cases hk:i<n
  ·rw[List.getElem?_append_left (by rw[kD];exact hk),List.getElem?_replicate,if_pos hk,decide_eq_true (by omega)]
  ·rw[List.getElem?_append_right (by rw[kD];omega),kD,List.getElem?_replicate,if_pos (by omega),decide_eq_false (by omega)]
 ·rw[List.getElem?_eq_none (by omega),List.getElem?_eq_none (by rw[aru hn];omega)]
theorem Q0{hv:List Bool}{n:Nat}(hl:hv.length=8)(hn:n≤8)(hf:sJ hv (n:Int)=true):hv.count true=n:=by rw[Qx hl hn hf,ac2 hn]
theorem ac3{hv:List Bool}{bs L:List ay}(hl:hv.length=8)(hb:bs.length=8)(hL:L.length≤8)(hf:sJ hv (L.length:Int)=true)(hs:∀k:Nat,hv[k]? = some true->∃b,L[k]? = some b∧bs[k]? = some b):gF hv bs=L:=by
 have e1:=Qx hl hL hf
 have e2:nzB hv bs=bsK L L.length:=by
  refine List.ext_getElem? fun i=>?_;by_cases hi:i<8
  ·by_cases hk:i<L.length
   ·have ht:hv[i]? = some true:=by rw[e1];unfold hvK;rw[List.getElem?_append_left (by rw[kD];exact hk),List.getElem?_replicate,if_pos hk]
    obtain⟨b,h1,h2⟩:=hs i ht;rw[r9 ht h2];unfold bsK;rw[List.getElem?_append_left (by rw[kB];omega),List.getElem?_take,if_pos hk,h1]
   ·have ht:hv[i]? = some false:=by rw[e1];unfold hvK;rw[List.getElem?_append_right (by rw[kD];omega),kD,List.getElem?_replicate,if_pos (by omega)]
    obtain⟨b,hb'⟩:=jg (xs:=bs) (i:=i) (by omega);rw[FV ht hb',if_neg (by decide)];unfold bsK;rw[List.getElem?_append_right (by rw[kB];omega),kB,List.getElem?_replicate,if_pos (by omega)]
  ·rw[List.getElem?_eq_none (by rw[xY hl hb];omega),List.getElem?_eq_none (by rw[arv hL (Nat.le_refl _)];omega)]
 rw[<- Dh,e2,e1,atQ (Nat.le_refl _),List.take_length]
theorem AG.blk{pl:List (List ay)}{x:Int}{a:TAg}(h:AG pl x a)(ok:OkG a)(hp:a.2.2.1=2)(h8:(fq pl a.2.2.2.1).length≤8):gF a.2.2.2.2.2.1.2.1 a.2.2.2.2.2.1.2.2=fq pl a.2.2.2.1:=by have h2:=(ok.p2 hp).2;rw[h.p hp]at h2;exact ac3 ok.hl ok.sl h8 h2 h.s
theorem AG.free{pl:List (List ay)}{x:Int}(hx:0≤x)(a:TAg):AG pl x (pF a) :=
 ⟨.inl rfl,hx,fun k hk=>absurd hk (Qw k),fun e=>absurd e (show ¬ (0:Int)=2 by decide)⟩
theorem Kq(l:TLs)(o t:Int):(lI l o t).1=o:=by
 unfold lI;split
 ·rename_i h
  rw[h]
 ·rfl
section
variable {pl:List (List ay)}{x y n c:Int}{v:Int}{a:TAg}
theorem aCg(ok:OkG a)(h:AG pl x a)(hy:1≤y∧y≤x)(hn:v=2->n=((fq pl y).length:Int))(h8:(fq pl y).length≤8)(h0:(doS (fV a) (7,v,y,n,c)).2=0):AG pl x (doS (fV a) (7,v,y,n,c)).1:=by
 have g:=h.own;have ok':=ok.own;generalize fV a=b at *;unfold doS at h0 ⊢;dsimp only at h0 ⊢;split at h0
 ·exact absurd h0 (by simp)
 split at h0
 ·exact absurd h0 (by simp)
 rw[if_neg ‹_›,if_neg ‹_›];split at h0
 ·rw[if_pos ‹_›]
  split at h0
  ·exact absurd h0 (by simp)
  rw[if_neg ‹_›];split at h0
  ·rw[if_pos ‹_›]
   exact⟨.inr (Kq _ _ _),g.t,g.s,g.p⟩
  ·rw[if_neg ‹_›]
   exact⟨.inr rfl,hy.2,fun k hk=>absurd hk (Qw k),fun e=>absurd e (show ¬ (1:Int)=2 by decide)⟩
 ·rw[if_neg ‹_›]
  split at h0
  ·rename_i hv2
   rw[if_pos hv2];split at h0
   ·rename_i hc
    rw[if_pos hc];refine⟨.inr rfl,g.t,g.s,fun _=>?_⟩;rcases hc with ⟨h2,_⟩ | ⟨h1,ht,hw⟩
    ·exact g.p h2
    ·unfold vK at hw
     rw[zO,zO]at hw;have hf:=hw.2.1;rw[hn hv2]at hf;have:=Q0 ok'.hl h8 hf;show b.2.2.2.2.2.1.2.1.count true=(fq pl b.2.2.2.1).length;rw[ht];exact this
   ·exact absurd h0 (by simp)
  ·rw[if_neg ‹_›]
   split at h0
   ·rw[if_pos ‹_›]
    split at h0
    ·rw[if_pos ‹_›];exact g
    rw[if_neg ‹_›];split at h0
    ·rw[if_pos ‹_›]
     exact AG.free (by omega) _
    ·exact absurd h0 (by simp)
   ·rw[if_neg ‹_›]
    split at h0
    ·exact absurd h0 (by simp)
    rw[if_neg ‹_›];split
    ·exact AG.free (by omega) _
    ·exact g
theorem atS(ok:OkG a)(h:AG pl x a)(h8:(fq pl y).length≤8)(h0:(doS (fV a) (7,v,y,n,c)).2=0) :
  ((doS (fV a) (7,v,y,n,c)).1.1=a.1∧(doS (fV a) (7,v,y,n,c)).1.2.2.2.2.1=a.2.2.2.2.1 ∨
   v=3∧a.2.2.1=2∧a.2.2.2.1=y∧(doS (fV a) (7,v,y,n,c)).1.1=qY a.1 (fq pl y)∧(doS (fV a) (7,v,y,n,c)).1.2.2.2.2.1=y) ∧
  (a.2.2.1=2->(doS (fV a) (7,v,y,n,c)).1.2.2.1=2∧(doS (fV a) (7,v,y,n,c)).1.2.2.2.1=a.2.2.2.1∨a.2.2.2.1=y∧(v=3∧(doS (fV a) (7,v,y,n,c)).1.2.2.2.2.1=y∨v=4)∨a.2.2.2.1<y∧v=1):=by
 have g:=h.own;have ok':=ok.own;have e1:a.1=(fV a).1:=rfl;have e2:a.2.2.2.2.1=(fV a).2.2.2.2.1:=rfl;have e3:a.2.2.1=(fV a).2.2.1:=rfl;have e4:a.2.2.2.1=(fV a).2.2.2.1:=rfl;rw[e1,e2,e3,e4];clear e1 e2 e3 e4;generalize fV a=b at *;unfold doS at h0 ⊢;dsimp only at h0 ⊢;split at h0
 ·exact absurd h0 (by simp)
 split at h0
 ·exact absurd h0 (by simp)
 rename_i q1 q2;rw[if_neg q1,if_neg q2];split at h0
 ·rename_i v1
  rw[if_pos v1];split at h0
  ·exact absurd h0 (by simp)
  rename_i q3;rw[if_neg q3];split at h0
  ·rw[if_pos ‹_›]
   exact⟨.inl ⟨rfl,rfl⟩,fun h2=>.inl ⟨h2,rfl⟩⟩
  ·rename_i q4
   rw[if_neg q4];refine⟨.inl ⟨rfl,rfl⟩,fun h2=>.inr (.inr ⟨?_,v1⟩)⟩;have:¬ (b.2.2.1≠0∧y<b.2.2.2.1):=fun e=>q3 (.inr e);have:¬ y<b.2.2.2.1:=fun e=>this ⟨by omega,e⟩;omega
 ·rw[if_neg ‹_›]
  split at h0
  ·rename_i hv2
   rw[if_pos hv2];split at h0
   ·rename_i hc
    rw[if_pos hc];exact⟨.inl ⟨rfl,rfl⟩,fun _=>.inl ⟨rfl,rfl⟩⟩
   ·exact absurd h0 (by simp)
  ·rw[if_neg ‹_›]
   split at h0
   ·rename_i v3
    rw[if_pos v3];split at h0
    ·rw[if_pos ‹_›];exact⟨.inl ⟨rfl,rfl⟩,fun h2=>.inl ⟨h2,rfl⟩⟩
    rw[if_neg ‹_›];split at h0
    ·rename_i q
     rw[if_pos q];refine⟨.inr ⟨v3,q.1,q.2,?_,rfl⟩,fun _=>.inr (.inl ⟨q.2,.inl ⟨v3,rfl⟩⟩)⟩;have:=g.blk ok' q.1 (by rw[q.2];exact h8);rw[q.2]at this;show qY b.1 (gF b.2.2.2.2.2.1.2.1 b.2.2.2.2.2.1.2.2)=_;rw[this]
    ·exact absurd h0 (by simp)
   ·rename_i v3
    rw[if_neg v3];split at h0
    ·exact absurd h0 (by simp)
    rw[if_neg ‹_›];have v4:v=4:=by omega
    split
    ·rename_i q
     exact⟨.inl ⟨rfl,rfl⟩,fun _=>.inr (.inl ⟨q.2,.inr v4⟩)⟩
    ·exact⟨.inl ⟨rfl,rfl⟩,fun h2=>.inl ⟨h2,rfl⟩⟩
theorem atU{k:Nat}{b:ay}(ok:OkG a)(h:AG pl x a)(hb:(fq pl y)[k]? = some b)(hk:k<8)(h0:(putA (fV a) 7 y (k:Int) b).2=0) :
  AG pl x (putA (fV a) 7 y (k:Int) b).1∧(putA (fV a) 7 y (k:Int) b).1.1=a.1∧(putA (fV a) 7 y (k:Int) b).1.2.2.2.2.1=a.2.2.2.2.1∧a.2.2.1=1:=by
 have g:=h.own;have ok':=ok.own;have e1:a.1=(fV a).1:=rfl;have e2:a.2.2.2.2.1=(fV a).2.2.2.2.1:=rfl;have e3:a.2.2.1=(fV a).2.2.1:=rfl;rw[e1,e2,e3];clear e1 e2 e3;generalize fV a=A at *;unfold putA at h0 ⊢;split at h0
 ·exact absurd h0 (by simp)
 split at h0
 ·exact absurd h0 (by simp)
 rw[if_neg ‹_›,if_neg ‹_›];split at h0
 ·exact absurd h0 (by simp)
 rename_i q;rw[if_neg q];have q:A.2.2.1=1∧A.2.2.2.1=y:=Decidable.not_not.1 q;refine⟨⟨.inr (Kq _ _ _),g.t,fun j hj=>?_,fun e=>absurd (q.1.symm.trans e) (by decide)⟩,rfl,rfl,q.1⟩;have hj:(A.2.2.2.2.2.1.2.1.set k true)[j]? = some true:=hj;show ∃b',(fq pl A.2.2.2.1)[j]? = some b'∧(nzB (A.2.2.2.2.2.1.2.1.set k true) (A.2.2.2.2.2.1.2.2.set k b))[j]? = some b';rw[q.2];by_cases e:j=k
 ·subst e
  refine⟨b,hb,r9 hj ?_⟩;rw[List.getElem?_set_self (by have:=ok'.sl;omega)]
 ·have hj':A.2.2.2.2.2.1.2.1[j]? = some true:=by rw[List.getElem?_set_ne (fun h=>e h.symm)]at hj;exact hj
  obtain⟨b',h1,h2⟩:=g.s j hj';rw[q.2]at h1;refine⟨b',h1,r9 hj ?_⟩;rw[List.getElem?_set_ne (fun h=>e h.symm)];exact h2
end
def ql(pl:List (List ay)):Prop:=∀y,(fq pl y).length≤4∧∀b∈fq pl y,gD b=true∧b.2.length≤14∧∀z∈b.2,0≤z∧z≤65535
inductive RQ(pl:List (List ay)) (C:Int->Int->Prop):TA->Prop
 | cmd (v y n c:Int) (hv:1≤v∧v≤4) (hc:C v y) (h2:v=2->n=((fq pl y).length:Int)∧c=rU (fq pl y)) (h0:v≠2->n=0∧c=0):RQ pl C (jV (7,v,y,n,c))
 | blk (y:Int) (k:Nat) (b:ay) (hc:C 0 y) (hb:(fq pl y)[k]? = some b):RQ pl C (nZ (iB 7 y (k:Int) b))
 | back (k:Nat) (h:k<8):RQ pl C (rdQ (512+(k:Int)*32) 20)
 | look:RQ pl C (rdQ 256 8)
theorem RQ.mono{pl:List (List ay)}{C D:Int->Int->Prop}{a:TA}(h:RQ pl C a)(hC:∀v y,C v y->D v y):RQ pl D a:=by
 cases h with
 | cmd v y n c hv hc h2 h0=>exact .cmd v y n c hv (hC _ _ hc) h2 h0
 | blk y k b hc hb=>exact .blk y k b (hC _ _ hc) hb
 | back k h=>exact .back k h
 | look=>exact .look
section
variable {pl:List (List ay)}{C:Int->Int->Prop}{x:Int}{a:TA}{s:TSl}(hp:ql pl)(hx:x≤4294967295)(hC:∀v y,C v y->1≤y∧y≤x)
include hp hx hC
theorem ac4{v y n c:Int}(hv:1≤v∧v≤4)(hc:C v y)(h2:v=2->n=((fq pl y).length:Int)∧c=rU (fq pl y))(h0:v≠2->n=0∧c=0):OkC (7,v,y,n,c):=by
 have h4:=(hp y).1;have hy:=hC _ _ hc;have hs:0≤rU (fq pl y)∧rU (fq pl y)≤4294967295:=P9 _
 have hnc:(0≤n∧n≤65535)∧0≤c∧c≤4294967295:=by
  by_cases e:v=2
  ·obtain⟨rfl,rfl⟩:=h2 e
   exact⟨by omega,hs⟩
  ·obtain⟨rfl,rfl⟩:=h0 e
   exact⟨by decide,by decide⟩
 exact⟨(by decide:(0:Int)≤7∧(7:Int)≤65535),by show 0≤v∧v≤255;omega,by show 0≤y∧y≤4294967295;omega,hnc.1,hnc.2⟩
theorem ac5{y:Int}{k:Nat}{b:ay}(hc:C 0 y)(hb:(fq pl y)[k]? = some b):k<4∧gD b=true∧∀w∈iB 7 y (k:Int) b,0≤w∧w≤65535:=by have hk:=(List.getElem?_eq_some_iff.1 hb).1;have h4:=(hp y).1;have hm:=(hp y).2 b (zY hb);have hy:=hC _ _ hc;exact⟨by omega,hm.1,EW (by decide) (by omega) (by omega) hm.2.2⟩
theorem RQ.ok(h:RQ pl C a):OkA a∧iY a=true:=by
 cases h with
 | cmd v y n c hv hc h2 h0 =>
  have:=mX (ac4 hp hx hC hv hc h2 h0);exact⟨this.1,this.2.1⟩
 | blk y k b hc hb =>
  have:=yc mI (ac5 hp hx hC hc hb).2.2;exact⟨this.1,this.2.1⟩
 | back k h=>exact yh (by omega) (by decide)
 | look=>exact yh (by decide) (by decide)
theorem Q5{o tx n:Int}{b:ay}(hf:gD b=true)(hn:0≤n∧n≤7)(hr:∀y∈iB o tx n b,0≤y∧y≤65535)(hA:(putA (fV s.2.2.1) o tx n b).2≠0) :
  gI s (nZ (iB o tx n b))=(s,(16,4,[],[],0,0)):=by
 obtain⟨_,_,h3⟩:=yc mI hr;have hw:iC s.2.2.1 (atW (nZ (iB o tx n b))) (nZ (iB o tx n b)).2.2.2.2.1=(s.2.2.1,4):=by show iC s.2.2.1 288 (iB o tx n b)=_;unfold iC;rw[if_neg (by decide),R6 hf hn.2];dsimp only;rw[if_neg (by simp),if_pos hA]
 have hl:¬ (nZ (iB o tx n b)).2.2.2.2.1.length=0:=by show ¬ ((iB o tx n b).length=0);rw[mI];decide
 unfold gI;rw[if_neg (by rw[h3];decide),if_neg (show ¬ ((nZ (iB o tx n b)).1=5∨(nZ (iB o tx n b)).1=15) from (by decide:¬ ((16:Int)=5∨(16:Int)=15))),if_neg hl,hw,if_pos (by simp)];rfl
structure Srv(pl:List (List ay)) (C:Int->Int->Prop) (x:Int) (a A:TAg) (r:TR):Prop where
 ok:OkG A
 ag:AG pl x A
 bk:A.1=a.1∧A.2.2.2.2.1=a.2.2.2.2.1∨∃y,C 3 y∧a.2.2.1=2∧a.2.2.2.1=y∧A.1=qY a.1 (fq pl y)∧A.2.2.2.2.1=y
 st:a.2.2.1=2->A.2.2.1=2∧A.2.2.2.1=a.2.2.2.1∨C 3 a.2.2.2.1∧A.2.2.2.2.1=a.2.2.2.1∨C 4 a.2.2.2.1∨∃y,a.2.2.2.1<y∧C 1 y
 rd:∀st,gz r=some st->st=(A.2.1.1,A.2.2.1,A.2.2.2.1,A.2.2.2.2.1)
omit hp hx hC in
theorem Srv.same{r:TR}(ok:OkG s.2.2.1)(g:AG pl x s.2.2.1)(rd:∀st,gz r=some st->st=(s.2.2.1.2.1.1,s.2.2.1.2.2.1,s.2.2.1.2.2.2.1,s.2.2.1.2.2.2.2.1)):Srv pl C x s.2.2.1 s.2.2.1 r :=
 ⟨ok,g,.inl ⟨rfl,rfl⟩,fun h=>.inl ⟨h,rfl⟩,rd⟩
omit hp hx hC in
theorem wQ{r:TR}{st:TSt}{p:Prop}(h:r.2.1≠0∨r.2.2.2.1.length≠8)(e:gz r=some st):p:=by unfold gz at e;rw[if_neg (by omega)]at e;cases e
theorem ac6(hs:OkS s)(g:AG pl x s.2.2.1)(rq:RQ pl C a):∃A,(gI s a).1=lS s A∧Srv pl C x s.2.2.1 A (gI s a).2:=by
 cases rq with
 | cmd v y n c hv hc h2 h0 =>
  have okc:=ac4 hp hx hC hv hc h2 h0;have hy:=hC _ _ hc;have h8:(fq pl y).length≤8:=by have:=(hp y).1;omega
  by_cases e:(doS (fV s.2.2.1) (7,v,y,n,c)).2=0
  ·have okA:OkG (doS (fV s.2.2.1) (7,v,y,n,c)).1:=hs.a.own.doS (c:=(7,v,y,n,c)) okc.o okc.t okc.n
   have es:=ame hs okc (A:=(doS (fV s.2.2.1) (7,v,y,n,c)).1) (Prod.ext rfl e) okA;have g':=aCg hs.a g hy (fun e2=>(h2 e2).1) h8 e (c:=c);obtain⟨q1,q2⟩:=atS hs.a g h8 e;refine⟨_,congrArg (·.1) es,okA,g',?_,fun hp2=>?_,?_⟩
   ·rcases q1 with q | ⟨rfl,q⟩
    ·exact .inl q
    ·exact .inr ⟨y,hc,q⟩
   ·rcases q2 hp2 with q | ⟨q,⟨rfl,e3⟩ | rfl⟩ | ⟨q,rfl⟩
    ·exact .inl q
    ·exact .inr (.inl ⟨by rw[q];exact hc,e3.trans q.symm⟩)
    ·exact .inr (.inr (.inl (by rw[q];exact hc)))
    ·exact .inr (.inr (.inr ⟨y,q,hc⟩))
   ·intro st hst
    rw[es,Ko]at hst;cases hst;rfl
  ·have es:=art (s:=s) okc e
   rw[es];exact⟨s.2.2.1,rfl,.same hs.a g (fun st h=>wQ (r:=(23,4,[],[],0,0)) (.inl (by decide)) h)⟩
 | blk y k b hc hb =>
  obtain⟨hk,hf,hr⟩:=ac5 hp hx hC hc hb;by_cases e:(putA (fV s.2.2.1) 7 y (k:Int) b).2=0
  ·have es:=amf hs hf (by omega) hr (A:=(putA (fV s.2.2.1) 7 y (k:Int) b).1) (Prod.ext rfl e)
   obtain⟨g',q1,q2,q3⟩:=atU hs.a g hb (by omega) e;have okA:OkG (putA (fV s.2.2.1) 7 y (k:Int) b).1:=hs.a.own.putA (by decide) hf ((hp y).2 b (zY hb)).2.2;rw[es];exact⟨_,rfl,okA,g',.inl ⟨q1,q2⟩,fun h2=>absurd (q3.symm.trans h2) (by decide),fun st h=>wQ (r:=(16,0,[],[],288,20)) (.inr (by decide)) h⟩
  ·rw[Q5 hp hx hC hf (by omega) hr e]
   exact⟨s.2.2.1,rfl,.same hs.a g (fun st h=>wQ (r:=(16,4,[],[],0,0)) (.inl (by decide)) h)⟩
 | back k h =>
  have e:(512+(k:Int)*32).toNat=512+k*32:=by omega
  have e20:(20:Int).toNat=20:=rfl;rw[Si s (amg h),e,e20,acR hs.a h];refine⟨s.2.2.1,rfl,.same hs.a g (fun st h=>wQ (r:=(3,0,[],jX s.2.2.1.2.2.2.2.2.1 s.2.2.1.2.1.1 (k:Int),0,0)) (.inr ?_) h)⟩;show (jX _ _ _).length≠8;rw[qB];decide
 | look =>
  have e:gI s (rdQ 256 8)=(s,(3,0,[],gM s.2.2.1,0,0)):=by rw[Si s (by decide)];show (s,((3:Int),(0:Int),([]:List Bool),((lJ s.2.2.1).drop 256).take 8,(0:Int),(0:Int)))=_;rw[Ke hs.a]
  rw[e];refine⟨s.2.2.1,rfl,.same hs.a g (fun st h=>?_)⟩;rw[Ko]at h;cases h;rfl
end
def OkW(p:TP):Prop:=p.2.2.2.2.1=true->iY p.2.2.2.2.2.1=true∧1≤p.2.2.2.2.2.2.2.1∧p.2.2.2.2.2.2.2.1≤100000∧0≤p.2.2.2.2.2.2.2.2∧p.2.2.2.2.2.2.2.2≤1000
theorem amz{p:TP}(h:OkP p):OkP (kK p).1:=by
 unfold kK;split
 ·split
  ·split
   ·have hx:=wF p.2.1 h.x0 h.x1
    exact⟨h.u0,h.u1,h.l,h.t0,h.t1,h.r0,h.r1,h.a,hx.1,hx.2⟩
   ·exact⟨h.u0,h.u1,h.l,h.t0,h.t1,h.r0,h.r1,uj,h.x0,h.x1⟩
  ·exact⟨h.u0,h.u1,h.l,h.t0,h.t1,h.r0,h.r1,h.a,h.x0,h.x1⟩
 ·exact h
theorem OkT.poll{t:TTk}(h:OkT t){p:TP}(hp:OkP p):OkT (p,t.2):=⟨hp,h.o,h.x,h.bl,h.bf,h.at',h.n,h.tr⟩
theorem amA{t:TTk}(h:OkT t)(hw:OkW t.1):Je (t,())=some ((kH t).1,(kH t).2,()):=by
 have ok:=h.poll (amz h.p);show alr t=_;unfold alr kH;rw[Dr h.sz,zD,arl h.p hw,zD];dsimp only
 cases hb:(kK t.1).2.2 with
 | false=>rfl
 | true =>
  have e0:¬ (true=false):=by decide
  rw[if_neg (show ¬ (!true)=true by decide)];simp only[if_neg e0];by_cases e:t.2.2.2.2.1=1
  ·rw[if_pos (bu.2 e),if_pos e]
   rfl
  ·rw[if_neg (fun h=>e (bu.1 h)),if_neg e,EX ok]
   rfl
end Go.Proofs.Lx
end
