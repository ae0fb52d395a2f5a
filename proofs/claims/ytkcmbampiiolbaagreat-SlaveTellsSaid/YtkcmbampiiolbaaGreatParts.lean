/- Proved in the last of these 20 parts (this is part 19): SlaveTells. Conditions: those of the given statement, and no others. -/
import Derived.Test.YtkcmbampiiolbaaGreatPartr
set_option linter.unusedVariables false
set_option linter.unusedSimpArgs false
set_option linter.unusedSectionVars false
open Option renaming bind_some → zD
open Int renaming ofNat → zF
open List renaming mem_of_getElem? → zX
noncomputable section
namespace Go.Proofs.Lx
open Go Ev Sx Pl
set_option maxRecDepth 100000
theorem atA(a:List Int):Md (a,a,())=some (true,()):=by show some (eqs _ _,())=_;rw[JM.2 rfl]
theorem azr{o:TOp}(h:OkO o):(opB o).1.length≤10000:=by
 have hb:=h.bl;unfold opB;split
 ·grind
 ·split
  ·split
   ·grind[Sy,kM,jc,opA]
   simp
  simp
abbrev TB:=Int×Int×List TOp×Int×Int×List TSl×List TSl->Option (As [.bool])
theorem aOU{self:TB}{a b n w:TSl}{x:List Int}{l:List TOp}{i:Nat}(hi:i<1000)(ha:OkS a)(hb:OkS b)(hn:OkS n)(hw:w=dz a)(he:dz n=dz b) :
  JK (fun a b t89 t90 t91 a_2 b_2=>self (a,b,t89,t90,t91,a_2,b_2)) 0 0 0 0 x x l (zF l.length) (i:Int) [a] [b] [w] [n]=self (0,0,l,zF l.length,((i+1:Nat):Int),[n],[b]):=by
 subst hw;have hc:n.2.2.2.length≤1000000:=by rw[hn.c];decide
 have hc1:b.2.2.2.length≤1000000:=by rw[hb.c];decide
 have hc2:a.2.2.2.length≤1000000:=by rw[ha.c];decide
 have hwo:=ru ha;show ajC (asJ _) _ 0 0 0 0 x x l (zF l.length) (i:Int) [a] [b] [dz a] [n]=_;unfold ajC;rw[atA,zD,if_neg (by decide),at1,zD,at1,zD,J6 hn.a.sz hb.a.sz hc,zD,decide_eq_true he,if_neg (by decide),zD,zD,KG hn hb.a.sz,zD,decide_eq_true he,if_neg (by decide),zD,at1,zD,zD,zD,KG hn hwo.a.sz,zD,J6 hb.a.sz hwo.a.sz hc1,zD,he,TK,if_neg (by decide),at1,zD,zD,J6 ha.a.sz hwo.a.sz hc2,zD,decide_eq_true (uG a).symm,if_neg (by decide),zD,zD,alK hn,zD,al1 hb,zD,U1 he,akl _ (Cu hb),zD];show ajD _ 0 0 0 l (zF l.length) (i:Int) false [a] [b] [n]=_;unfold ajD;rw[if_neg (by decide),at1,zD,at1,zD,st1,gJ (by omega)]
def aBC(a b:TSl):Prop:=OkS a∧OkS b∧dz a=dz b
theorem azs{self:TB}{a b:TSl}{l:List TOp}{o:TOp}{i:Nat}(hl:l.length≤1000)(hx:l[i]? = some o)(oo:OkO o)(ha:aBC a b) :
  JJ (JK (fun a b t89 t90 t91 a_2 b_2=>self (a,b,t89,t90,t91,a_2,b_2))) (fun a b t89 t90 t91 a_2 b_2=>self (a,b,t89,t90,t91,a_2,b_2)) 0 0 l (zF l.length) (i:Int) [a] [b]=self (0,0,l,zF l.length,((i+1:Nat):Int),[(oN a o).1],[(uH b o).1]):=by
 obtain⟨oa,ob,he⟩:=ha;have hi:=(List.getElem?_eq_some_iff.1 hx).1;obtain⟨e1,e2⟩:=U2 he o;have on:=Tw oa oo;have on':=U3 ob oo;have hc2:a.2.2.2.length≤1000000:=by rw[oa.c];decide
 have w0:=oo.w;unfold JJ;rw[if_pos (by grind[cr,bu]),d9 hx,zD,at1,zD,Cy oa.a.sz hc2,zD,zD,ay5 oa oo,zD,FH oo,zD,at1,Cx w0.1];have fin:JK (fun a b t89 t90 t91 a_2 b_2=>self (a,b,t89,t90,t91,a_2,b_2)) 0 0 0 0 (oN a o).2 (uH b o).2 l (zF l.length) (i:Int) [a] [(uH b o).1] [dz a] [(oN a o).1]=self (0,0,l,zF l.length,((i+1:Nat):Int),[(oN a o).1],[(uH b o).1]):=by rw[e1];exact aOU (by omega) oa on' on rfl e2
 rw[<- fin];dsimp only;unfold uH
 cases e:(opB o).2 with
 | true =>
  rw[if_pos rfl,if_pos rfl,zD,Ez ob (u7 oo) (azr oo),zD,zD];rfl
 | false =>
  rw[if_neg Bool.false_ne_true,if_neg Bool.false_ne_true];by_cases h1:o.1%6=1
  ·rw[if_pos (au.2 h1),if_pos h1,zD,azq ob oo.b (by have:=oo.bl;omega),zD,zD]
   rfl
  ·rw[if_neg (fun e=>h1 (au.1 e)),if_neg h1]
   by_cases h3:o.1%6=3
   ·rw[if_pos (au.2 h3),if_pos h3,zD,azl ob,zD,zD]
    rfl
   ·rw[if_neg (fun e=>h3 (au.1 e)),if_neg h3]
    by_cases h4:o.1%6=4
    ·rw[if_pos (au.2 h4),if_pos h4,zD,azm ob,zD,zD]
     rfl
    simp_all[if_neg,au]
theorem ame{u link t:Int}{b:List Int}{l:List TOp}{o:TSl}(hb:∀x∈b,0≤x∧x≤65535)(ht:t≤9223372036854775807)(hl:l.length≤9223372036854775807)(ho:Rw.okV tSl o)
  (hL:∀o∈l,o.2.1.length≤300->o.2.2.1.2.2.2.2.1.length≤200->o.2.2.1.2.2.2.2.2.length≤2100->OkO o):asL (u,link,b,t,l,o,())=some (true,()):=by
 show ajE ajG u link b t l o=_;have K1:ajG u link b t l o true=some (true,()):=by show JI _ u link b t l o true=_;unfold JI;rw[if_pos rfl,J4,zD]
 unfold ajE;by_cases c1:80<b.length
 ·rw[if_pos (by grind[iD,bu]),K1]
 rw[if_neg (by grind[iD,bu]),amd hl,zD];dsimp only
 cases hf:akc l 40 with
 | false=>exact K1
 | true =>
 obtain⟨hf1,hf2⟩:=ato.1 hf;rw[if_neg (by decide)];by_cases c2:100<o.2.2.2.length
 ·rw[if_pos (by grind[iD,bu]),K1]
 rw[if_neg (by grind[iD,bu])];by_cases c3:100<o.2.2.1.1.length
 ·rw[if_pos (by grind[iD,bu]),K1]
 have h8:o.2.2.1.2.2.2.2.2.1.2.2.length=8:=ho.2.2.1.2.2.2.2.2.1.2.2.1;have e8:List.take 8 (List.drop 0 o.2.2.1.2.2.2.2.2.1.2.2)=o.2.2.1.2.2.2.2.2.1.2.2:=by grind
 rw[if_neg (by grind[iD,bu]),e8,aty (by omega),zD];dsimp only
 cases hg:TJ o.2.2.1.2.2.2.2.2.1.2.2 with
 | false=>exact K1
 | true =>
 have hw:∀b∈o.2.2.1.2.2.2.2.2.1.2.2,b.2.length≤100:=by unfold TJ at hg;grind
 have sz:=aBA ho (by omega) hw;have okL:∀o∈l,OkO o:=fun o ho=>hL o ho (hf1 o ho).1 (hf1 o ho).2.1 (hf1 o ho).2.2;have hl40:l.length≤40:=by omega
 show JI asK u link b t l o false=_;unfold JI;obtain⟨s,e,hs,hse⟩:=atz (u:=u) (l:=link) (t:=t) (b:=b) (by omega) hb ht;obtain⟨r,hr,hr2⟩:=TF sz;have hr3:Ib (o,())=some (r,()):=(T8 sz).trans hr2;rw[if_neg Bool.false_ne_true,aBq (by omega),hs,zD,zD,if_neg (fun x=>cu.1 x rfl),hr3,zD,hr2,zD,TK];show ajA ajF l o 0 e 0 false [s] [s]=_;unfold ajA;rw[if_neg Bool.false_ne_true,hr2,zD]
 have fin:∀(s:TSl) (e:Int),(e=0->OkS s)->ajF l 0 e 0 [s] [s]=some (true,()):=by
  intro s e hse;show ajB JL l 0 e 0 [s] [s]=_;unfold ajB;by_cases he:e=0
  ·rw[if_neg (fun x=>cu.1 x he)]
   have ok:=hse he;show JL 0 0 l (zF l.length) ((0:Nat):Int) [s] [s]=_;unfold JL;refine (nX (xs:=l) (mk:=fun i (s:TSl×TSl)=>((0:Int),(0:Int),l,zF l.length,(i:Int),[s.1],[s.2])) (stp:=fun s o=>((oN s.1 o).1,(uH s.2 o).1)) (fin:=fun _=>some (true,())) (fun _ s=>aBC s.1 s.2) ?_ ?_ ?_ l.length 0 (s,s) _ (by omega) (by omega) ⟨ok,ok,rfl⟩)
   ·intro self i s o ho hI
    exact azs (self:=self) (show l.length≤1000 by omega) ho (okL o (zX ho)) hI
   ·intro i s o ho hI
    exact⟨Tw hI.1 (okL o (zX ho)),U3 hI.2.1 (okL o (zX ho)),(U2 hI.2.2 o).2⟩
   ·intro self s hI
    show JJ (JK _) _ 0 0 l (zF l.length) (l.length:Int) [s.1] [s.2]=_;unfold JJ;rw[if_neg (by grind[cr,bu]),J4];rfl
  ·rw[if_pos (cu.2 he),J4]
   rfl
 cases r with
 | true =>
  rw[if_pos rfl,at1,zD,zD,st1];exact fin o 0 (fun _=>aBB ho hw (hr.1 rfl))
 | false =>
  grind
theorem amf(x:As [.int .u8,.int .u8,.sl (.int .u16),.int .i64,.sl tOp,tSl])(h:Rw.okA [.int .u8,.int .u8,.sl (.int .u16),.int .i64,.sl tOp,tSl] x):asL x=some (true,()) :=
 ame (u:=x.1) (link:=x.2.1) (b:=x.2.2.1) (t:=x.2.2.2.1) (l:=x.2.2.2.2.1) (o:=x.2.2.2.2.2.1) (fun y hy=>ok16 (h.2.2.1.2 y hy)) (akk h.2.2.2.1).2 (by have:=h.2.2.2.2.1.1;simp_all[maxLen]) h.2.2.2.2.2.1 (fun o ho=>aBi (h.2.2.2.2.1.2 o ho))
end Go.Proofs.Lx
end
