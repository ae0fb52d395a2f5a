/- Proved in the last of these 16 parts (this is part 12): TalkTrue. Conditions: those of the given statement, and no others. -/
import Derived.Test.YtljkanofaahagaaGreatBPartj
import Derived.Test.YtljkanofaahagaaGreatBPartk
set_option linter.unusedVariables false
set_option linter.unusedSimpArgs false
set_option linter.unusedSectionVars false
open Option renaming bind → zC, bind_some → zD
open List renaming replicate → zE, mem_cons_of_mem → zT, getElem?_eq_getElem → zV, mem_of_getElem? → zY, length_append → zZ, length_take → kB, length_replicate → kD
open Int renaming ofNat → zF, toNat → zI, eq_ofNat_of_zero_le → zN, toNat_natCast → zQ
open Bool renaming and_eq_true → zO
noncomputable section
namespace Go.Proofs.Lx
open Go Ev Sx Pl
set_option maxRecDepth 100000
abbrev fo:=Int×Int×Bool×Bool×Bool
def kN(x:fo)(i:Int):Bool:=decide (1≤x.2.1∧x.1≤i∧i<x.1+x.2.1)
def iA(l:List fo)(i:Int):Option fo:=l.find? fun x=>kN x i
def lZ(w:fo->Bool)(l:List fo)(i:Int):Bool:=match iA l i with
 | some x=>w x
 | none=>false
def iV(w:fo->Bool)(l:List fo)(p:Int)(m:Nat):Bool:=(List.range m).all fun k=>lZ w l (p+(k:Int))
def tC(x:fo):Prop:=-9223372036854775808≤x.1∧x.1≤9223372036854775807∧-9223372036854775808≤x.2.1∧x.2.1≤9223372036854775807
theorem rR(n:Int):jC n n=true:=by unfold jC;rw[if_pos rfl]
theorem zy{x:fo}{p e:Int}(h0:0≤p)(hpe:p≤e)(he:e≤1000000000000)(hx:tC x) :
  ∃f t,xB (x,p,e,())=some (f,t,())∧p≤f∧f≤e∧t≤e∧∀i,p≤i->i<e->(kN x i=true↔f≤i∧i<t):=by
 obtain⟨x1,x2,x3,x4⟩:=hx;show ∃f t,X7 OO x p e=_∧_;unfold X7;have none:∃f t,OO p e true x=some (f,t,())∧f=p∧t=p:=⟨p,p,rfl,rfl,rfl⟩;by_cases hm:x.2.1<1
 ·rw[if_pos (dw.2 hm)]
  obtain⟨f,t,h1,rfl,rfl⟩:=none;refine⟨_,_,h1,Int.le_refl _,hpe,hpe,fun i hi hie=>?_⟩;unfold kN;rw[decide_eq_true_eq];omega
 ·rw[if_neg (fun h=>hm (dw.1 h))]
  by_cases ha:e≤x.1
  ·rw[gZ.2 ha]
   obtain⟨f,t,h1,rfl,rfl⟩:=none;refine⟨_,_,h1,Int.le_refl _,hpe,hpe,fun i hi hie=>?_⟩;unfold kN;rw[decide_eq_true_eq];omega
  ·rw[show ge x.1 e=false from decide_eq_false ha]
   have K3:∀t,X8 p t x=some (if p<x.1 then x.1 else p,t,()):=fun t=>by unfold X8 aiV;simp only[jD]
   have K2t:OM p e e true x=some (if p<x.1 then x.1 else p,(if x.1+x.2.1<e then x.1+x.2.1 else e),())∨¬ (x.1<0∨x.2.1<e - x.1):=by
    by_cases hc:x.1<0∨x.2.1<e - x.1
    ·left
     unfold OM X6;have hadd:add .i64 x.1 x.2.1=x.1+x.2.1:=jO (by omega) (by omega);rw[if_pos rfl,K3,hadd];simp only[dw]
    ·exact .inr hc
   have fin:∀t,(t=(if x.1+x.2.1<e then x.1+x.2.1 else e))->p≤(if p<x.1 then x.1 else p)∧(if p<x.1 then x.1 else p)≤e∧t≤e∧∀i,p≤i->i<e->(kN x i=true↔(if p<x.1 then x.1 else p)≤i∧i<t):=fun t ht=>by subst ht;refine⟨by split<;>omega,by split<;>omega,by split<;>omega,fun i hi hie=>?_⟩;unfold kN;rw[decide_eq_true_eq];split<;>split<;>omega
   unfold OO aiU;rw[if_neg (by decide)];by_cases hn:x.1<0
   ·rw[if_pos (dw.2 hn)]
    rcases K2t with h | h
    ·obtain⟨g1,g2,g3,g4⟩:=fin _ rfl
     exact⟨_,_,h,g1,g2,g3,g4⟩
    ·exact absurd (.inl hn) h
   ·rw[if_neg (fun h=>hn (dw.1 h)),kV (by omega) (by omega)]
    by_cases hc:x.2.1<e - x.1
    ·rw[dw.2 hc]
     rcases K2t with h | h
     ·obtain⟨g1,g2,g3,g4⟩:=fin _ rfl
      exact⟨_,_,h,g1,g2,g3,g4⟩
     ·exact absurd (.inr hc) h
    ·rw[show lt x.2.1 (e - x.1)=false from decide_eq_false hc]
     unfold OM X6;rw[if_neg (by decide),K3];obtain⟨g1,g2,g3,g4⟩:=fin e (by rw[if_neg (by omega)]);exact⟨_,_,rfl,g1,g2,g3,g4⟩
theorem uy{l:List fo}{t:Nat}{i:Int}{y:fo}(h:iA (l.take t) i=some y):iA l i=some y:=by
 have:iA l i=(iA (l.take t) i).or (iA (l.drop t) i):=by unfold iA;rw[<- List.find?_append,List.take_append_drop]
 rw[this,h];rfl
theorem l5{l:List fo}{t:Nat}(ht:t<l.length)(i:Int):iA (l.take (t+1)) i=(iA (l.take t) i).or (if kN l[t] i=true then some l[t] else none):=by
 unfold iA;rw[List.take_succ_eq_append_getElem ht,List.find?_append]
 congr 1
 simp only[List.find?_cons,List.find?_nil];cases kN l[t] i<;>rfl
def lH(w:fo->Bool)(l:List fo)(p:Int)(m:Nat)(c:Int->Bool)(met:List Bool)(left:Int):Prop :=
 met.length=m∧left=((met.countP fun b=>!b:Nat):Int)∧∀k:Nat,k<m->met[k]? = some (c (p+(k:Int)))∧(c (p+(k:Int))=true->lZ w l (p+(k:Int))=true)
theorem KZ(w:fo->Bool)(l:List fo)(p:Int)(m:Nat):lH w l p m (fun i=>(iA (l.take 0) i).isSome) (zE m false) (m:Int):=by
 refine⟨kD ..,?_,fun k hk=>⟨?_,fun e=>by cases e⟩⟩
 ·rw[List.countP_replicate]
  rfl
 ·rw[List.getElem?_replicate,if_pos hk]
  rfl
theorem oU{w:fo->Bool}{l:List fo}{p:Int}{m:Nat}{c:Int->Bool}{met:List Bool}{left:Int}(h:lH w l p m c met left)(h0:left=0):iV w l p m=true:=by
 obtain⟨h1,h2,h3⟩:=h;unfold iV;rw[List.all_eq_true];intro k hk;rw[List.mem_range]at hk;obtain⟨e1,e2⟩:=h3 k hk;refine e2 ?_;have hz:met.countP (fun b=>!b)=0:=by omega
 have:=List.countP_eq_zero.1 hz _ (zY e1);simpa using this
theorem zU{w:fo->Bool}{l:List fo}{p:Int}{m:Nat}{met:List Bool}{left:Int}(h:lH w l p m (fun i=>(iA l i).isSome) met left)(h0:left≠0):iV w l p m=false:=by
 obtain⟨h1,h2,h3⟩:=h;rw[<- Bool.not_eq_true];intro hall;unfold iV at hall;rw[List.all_eq_true]at hall;apply h0;rw[h2]
 have:met.countP (fun b=>!b)=0:=by
  rw[List.countP_eq_zero];intro b hb;obtain⟨k,hk,rfl⟩:=List.getElem_of_mem hb;have e1:=(h3 k (by omega)).1;have hw:=hall k (List.mem_range.2 (by omega));unfold lZ at hw;rw[zV hk]at e1;dsimp only at e1
  cases hf:iA l (p+(k:Int)) with
  | none=>rw[hf]at hw;cases hw
  | some y =>
   rw[hf]at e1;have e1:met[k]=true:=by simpa using e1
   rw[e1];decide
 rw[this];rfl
theorem wI{w:fo->Bool}{l:List fo}{p:Int}{m k:Nat}(hk:k<m)(h:lZ w l (p+(k:Int))=false):iV w l p m=false:=by rw[<- Bool.not_eq_true];intro hall;unfold iV at hall;rw[List.all_eq_true]at hall;have:=hall k (List.mem_range.2 hk);rw[h]at this;cases this
theorem pN{w:fo->Bool}{l:List fo}{p:Int}{m:Nat}{c c':Int->Bool}{met:List Bool}{left:Int}(h:lH w l p m c met left)(hc:∀k:Nat,k<m->c' (p+(k:Int))=c (p+(k:Int))):lH w l p m c' met left :=
 ⟨h.1,h.2.1,fun k hk=>by rw[hc k hk];exact h.2.2 k hk⟩
theorem Dc{w:fo->Bool}{l:List fo}{p:Int}{m k:Nat}{c:Int->Bool}{met:List Bool}{left:Int}(h:lH w l p m c met left)(hk:k<m)(hf:c (p+(k:Int))=false)(hw:lZ w l (p+(k:Int))=true) :
  lH w l p m (fun i=>c i || decide (i=p+(k:Int))) (met.set k true) (left - 1):=by
 obtain⟨h1,h2,h3⟩:=h;have hg:=(h3 k hk).1;have hkl:k<met.length:=by omega
 rw[zV hkl,hf]at hg;have hg:met[k]=false:=by simpa using hg
 refine⟨by simp[h1],?_,fun j hj=>?_⟩
 ·have hpos:0<met.countP (fun b=>!b):=by rw[List.countP_pos_iff];exact⟨met[k],List.getElem_mem hkl,by rw[hg];rfl⟩
  rw[List.countP_set hkl,hg,h2];simp only[Bool.not_false,if_true,Bool.not_true,Bool.false_eq_true,if_false];omega
 ·obtain⟨e1,e2⟩:=h3 j hj
  dsimp only;by_cases hjk:k=j
  ·subst hjk
   refine⟨?_,fun _=>hw⟩;rw[List.getElem?_set_self hkl,decide_eq_true rfl,Bool.or_true]
  ·have:¬ (p+(j:Int)=p+(k:Int)):=by omega
   refine⟨?_,fun e=>?_⟩
   ·rw[List.getElem?_set_ne hjk,e1,decide_eq_false this,Bool.or_false]
   ·rw[decide_eq_false this,Bool.or_false]at e
    exact e2 e
@[reducible] def zL0:Type:=Int->Int->Int->List (Int×Int×Bool×Bool×Bool)->Int->Int->List Bool->Option (As [.bool])
@[reducible] def zL1:Type:=(Int)×(Int)×(Int)×(Int)×(Int)×(List (Int×Int×Bool×Bool×Bool))×(Int)×(Int)×(List Bool)×(Int×Int×Bool×Bool×Bool)->Option (As [.bool])
@[reducible] def zL2:Type:=(Int)×(Int)×(Int)×(Int)×(Int)×(List (Int×Int×Bool×Bool×Bool))×(Int)×(Int)×(List Bool)×(Int×Int×Bool×Bool×Bool)
def atq(u1:zL0):=(fun (self:zL1) (s:zL2)=>OX (IC u1 (fun at' many left to' i t19 t20 t21 met x=>self (at',many,left,to',i,t19,t20,t21,met,x))) u1 (fun at' many left to' i t19 t20 t21 met x=>self (at',many,left,to',i,t19,t20,t21,met,x)) s.1 s.2.1 s.2.2.1 s.2.2.2.1 s.2.2.2.2.1 s.2.2.2.2.2.1 s.2.2.2.2.2.2.1 s.2.2.2.2.2.2.2.1 s.2.2.2.2.2.2.2.2.1 s.2.2.2.2.2.2.2.2.2)
@[reducible] def zL3:Type:=List (Int×Int×Bool×Bool×Bool)
@[reducible] def zL4:Type:=Int×Int×Bool×Bool×Bool
theorem aBX(u1:zL0)(self:zL1)(at' many left to' i:Int)(t19:zL3)(t20 t21:Int)(met:List Bool)(x:zL4):atq u1 self (at',many,left,to',i,t19,t20,t21,met,x)=OX (IC u1 (fun at' many left to' i t19 t20 t21 met x=>self (at',many,left,to',i,t19,t20,t21,met,x))) u1 (fun at' many left to' i t19 t20 t21 met x=>self (at',many,left,to',i,t19,t20,t21,met,x)) at' many left to' i t19 t20 t21 met x:=rfl
theorem aBY(u1:zL0)(at' many left to' i:Int)(t19:zL3)(t20 t21:Int)(met:List Bool)(x:zL4):ED u1 at' many left to' i t19 t20 t21 met x=cu (atq u1) 18446744073709551616 (at',many,left,to',i,t19,t20,t21,met,x):=rfl
@[reducible] def zL5:Type:=(Int)×(Int)×(Int)×(List (Int×Int×Bool×Bool×Bool))×(Int)×(Int)×(List Bool)->Option (As [.bool])
@[reducible] def zL6:Type:=(Int)×(Int)×(Int)×(List (Int×Int×Bool×Bool×Bool))×(Int)×(Int)×(List Bool)
def atr :=(fun (self:zL5) (s:zL6)=>OV (OY) (ED (fun at' many left t19 t20 t21 met=>self (at',many,left,t19,t20,t21,met))) (fun at' many left t19 t20 t21 met=>self (at',many,left,t19,t20,t21,met)) s.1 s.2.1 s.2.2.1 s.2.2.2.1 s.2.2.2.2.1 s.2.2.2.2.2.1 s.2.2.2.2.2.2)
theorem aBZ  (self:zL5)(at':Int)(many:Int)(left:Int)(t19:zL3)(t20:Int)(t21:Int)(met:List Bool):atr self (at',many,left,t19,t20,t21,met)=OV (OY) (ED (fun at' many left t19 t20 t21 met=>self (at',many,left,t19,t20,t21,met))) (fun at' many left t19 t20 t21 met=>self (at',many,left,t19,t20,t21,met)) at' many left t19 t20 t21 met:=rfl
theorem aB0  (at':Int)(many:Int)(left:Int)(t19:zL3)(t20:Int)(t21:Int)(met:List Bool):OZ at' many left t19 t20 t21 met=cu (atr) 18446744073709551616 (at',many,left,t19,t20,t21,met):=rfl
def att(u1:zL0):=(fun (self:zL1) (s:zL2)=>O6 (IJ u1 (fun at' many left to' i t19 t20 t21 met x=>self (at',many,left,to',i,t19,t20,t21,met,x))) u1 (fun at' many left to' i t19 t20 t21 met x=>self (at',many,left,to',i,t19,t20,t21,met,x)) s.1 s.2.1 s.2.2.1 s.2.2.2.1 s.2.2.2.2.1 s.2.2.2.2.2.1 s.2.2.2.2.2.2.1 s.2.2.2.2.2.2.2.1 s.2.2.2.2.2.2.2.2.1 s.2.2.2.2.2.2.2.2.2)
theorem aB1(u1:zL0)(self:zL1)(at' many left to' i:Int)(t19:zL3)(t20 t21:Int)(met:List Bool)(x:zL4):att u1 self (at',many,left,to',i,t19,t20,t21,met,x)=O6 (IJ u1 (fun at' many left to' i t19 t20 t21 met x=>self (at',many,left,to',i,t19,t20,t21,met,x))) u1 (fun at' many left to' i t19 t20 t21 met x=>self (at',many,left,to',i,t19,t20,t21,met,x)) at' many left to' i t19 t20 t21 met x:=rfl
theorem aB2(u1:zL0)(at' many left to' i:Int)(t19:zL3)(t20 t21:Int)(met:List Bool)(x:zL4):EF u1 at' many left to' i t19 t20 t21 met x=cu (att u1) 18446744073709551616 (at',many,left,to',i,t19,t20,t21,met,x):=rfl
def atu :=(fun (self:zL5) (s:zL6)=>O5 (O7) (EF (fun at' many left t19 t20 t21 met=>self (at',many,left,t19,t20,t21,met))) (fun at' many left t19 t20 t21 met=>self (at',many,left,t19,t20,t21,met)) s.1 s.2.1 s.2.2.1 s.2.2.2.1 s.2.2.2.2.1 s.2.2.2.2.2.1 s.2.2.2.2.2.2)
theorem aB3  (self:zL5)(at':Int)(many:Int)(left:Int)(t19:zL3)(t20:Int)(t21:Int)(met:List Bool):atu self (at',many,left,t19,t20,t21,met)=O5 (O7) (EF (fun at' many left t19 t20 t21 met=>self (at',many,left,t19,t20,t21,met))) (fun at' many left t19 t20 t21 met=>self (at',many,left,t19,t20,t21,met)) at' many left t19 t20 t21 met:=rfl
theorem aB4  (at':Int)(many:Int)(left:Int)(t19:zL3)(t20:Int)(t21:Int)(met:List Bool):O8 at' many left t19 t20 t21 met=cu (atu) 18446744073709551616 (at',many,left,t19,t20,t21,met):=rfl
@[reducible] def zL7:Type:=Int->Int->Int->List (Int×Int×Bool×Bool×Bool)->Int->Int->Int->Int->List Bool->Option (As [.bool,.int .i64,.int .i64])
@[reducible] def zL8:Type:=(Int)×(Int)×(Int)×(Int)×(Int)×(List (Int×Int×Bool×Bool×Bool))×(Int)×(Int)×(Int)×(Int)×(List Bool)×(Int×Int×Bool×Bool×Bool)->Option (As [.bool,.int .i64,.int .i64])
@[reducible] def zL9:Type:=(Int)×(Int)×(Int)×(Int)×(Int)×(List (Int×Int×Bool×Bool×Bool))×(Int)×(Int)×(Int)×(Int)×(List Bool)×(Int×Int×Bool×Bool×Bool)
def atv(u1:zL7):=(fun (self:zL8) (s:zL9)=>O1 (IG u1 (fun at' many left to' i t19 t20 t21 o o_2 met x=>self (at',many,left,to',i,t19,t20,t21,o,o_2,met,x))) u1 (fun at' many left to' i t19 t20 t21 o o_2 met x=>self (at',many,left,to',i,t19,t20,t21,o,o_2,met,x)) s.1 s.2.1 s.2.2.1 s.2.2.2.1 s.2.2.2.2.1 s.2.2.2.2.2.1 s.2.2.2.2.2.2.1 s.2.2.2.2.2.2.2.1 s.2.2.2.2.2.2.2.2.1 s.2.2.2.2.2.2.2.2.2.1 s.2.2.2.2.2.2.2.2.2.2.1 s.2.2.2.2.2.2.2.2.2.2.2)
theorem aB5(u1:zL7)(self:zL8)(at' many left to' i:Int)(t19:zL3)(t20 t21 o o_2:Int)(met:List Bool)(x:zL4):atv u1 self (at',many,left,to',i,t19,t20,t21,o,o_2,met,x)=O1 (IG u1 (fun at' many left to' i t19 t20 t21 o o_2 met x=>self (at',many,left,to',i,t19,t20,t21,o,o_2,met,x))) u1 (fun at' many left to' i t19 t20 t21 o o_2 met x=>self (at',many,left,to',i,t19,t20,t21,o,o_2,met,x)) at' many left to' i t19 t20 t21 o o_2 met x:=rfl
theorem aB6(u1:zL7)(at' many left to' i:Int)(t19:zL3)(t20 t21 o o_2:Int)(met:List Bool)(x:zL4):EE u1 at' many left to' i t19 t20 t21 o o_2 met x=cu (atv u1) 18446744073709551616 (at',many,left,to',i,t19,t20,t21,o,o_2,met,x):=rfl
@[reducible] def aal:Type:=(Int)×(Int)×(Int)×(List (Int×Int×Bool×Bool×Bool))×(Int)×(Int)×(Int)×(Int)×(List Bool)->Option (As [.bool,.int .i64,.int .i64])
@[reducible] def atw:Type:=(Int)×(Int)×(Int)×(List (Int×Int×Bool×Bool×Bool))×(Int)×(Int)×(Int)×(Int)×(List Bool)
def atx :=(fun (self:aal) (s:atw)=>O0 (O3) (EE (fun at' many left t19 t20 t21 o o_2 met=>self (at',many,left,t19,t20,t21,o,o_2,met))) (fun at' many left t19 t20 t21 o o_2 met=>self (at',many,left,t19,t20,t21,o,o_2,met)) s.1 s.2.1 s.2.2.1 s.2.2.2.1 s.2.2.2.2.1 s.2.2.2.2.2.1 s.2.2.2.2.2.2.1 s.2.2.2.2.2.2.2.1 s.2.2.2.2.2.2.2.2)
theorem aB7  (self:aal)(at':Int)(many:Int)(left:Int)(t19:zL3)(t20:Int)(t21:Int)(o:Int)(o_2:Int)(met:List Bool):atx self (at',many,left,t19,t20,t21,o,o_2,met)=O0 (O3) (EE (fun at' many left t19 t20 t21 o o_2 met=>self (at',many,left,t19,t20,t21,o,o_2,met))) (fun at' many left t19 t20 t21 o o_2 met=>self (at',many,left,t19,t20,t21,o,o_2,met)) at' many left t19 t20 t21 o o_2 met:=rfl
theorem aB8  (at':Int)(many:Int)(left:Int)(t19:zL3)(t20:Int)(t21:Int)(o:Int)(o_2:Int)(met:List Bool):O4 at' many left t19 t20 t21 o o_2 met=cu (atx) 18446744073709551616 (at',many,left,t19,t20,t21,o,o_2,met):=rfl
def aty(u1:zL7):=(fun (self:zL8) (s:zL9)=>Pb (IL u1 (fun at' many left to' i t19 t20 t21 o o_2 met x=>self (at',many,left,to',i,t19,t20,t21,o,o_2,met,x))) u1 (fun at' many left to' i t19 t20 t21 o o_2 met x=>self (at',many,left,to',i,t19,t20,t21,o,o_2,met,x)) s.1 s.2.1 s.2.2.1 s.2.2.2.1 s.2.2.2.2.1 s.2.2.2.2.2.1 s.2.2.2.2.2.2.1 s.2.2.2.2.2.2.2.1 s.2.2.2.2.2.2.2.2.1 s.2.2.2.2.2.2.2.2.2.1 s.2.2.2.2.2.2.2.2.2.2.1 s.2.2.2.2.2.2.2.2.2.2.2)
theorem aB9(u1:zL7)(self:zL8)(at' many left to' i:Int)(t19:zL3)(t20 t21 o o_2:Int)(met:List Bool)(x:zL4):aty u1 self (at',many,left,to',i,t19,t20,t21,o,o_2,met,x)=Pb (IL u1 (fun at' many left to' i t19 t20 t21 o o_2 met x=>self (at',many,left,to',i,t19,t20,t21,o,o_2,met,x))) u1 (fun at' many left to' i t19 t20 t21 o o_2 met x=>self (at',many,left,to',i,t19,t20,t21,o,o_2,met,x)) at' many left to' i t19 t20 t21 o o_2 met x:=rfl
theorem aCa(u1:zL7)(at' many left to' i:Int)(t19:zL3)(t20 t21 o o_2:Int)(met:List Bool)(x:zL4):EG u1 at' many left to' i t19 t20 t21 o o_2 met x=cu (aty u1) 18446744073709551616 (at',many,left,to',i,t19,t20,t21,o,o_2,met,x):=rfl
def atz :=(fun (self:aal) (s:atw)=>O9 (Pd) (EG (fun at' many left t19 t20 t21 o o_2 met=>self (at',many,left,t19,t20,t21,o,o_2,met))) (fun at' many left t19 t20 t21 o o_2 met=>self (at',many,left,t19,t20,t21,o,o_2,met)) s.1 s.2.1 s.2.2.1 s.2.2.2.1 s.2.2.2.2.1 s.2.2.2.2.2.1 s.2.2.2.2.2.2.1 s.2.2.2.2.2.2.2.1 s.2.2.2.2.2.2.2.2)
theorem aCb  (self:aal)(at':Int)(many:Int)(left:Int)(t19:zL3)(t20:Int)(t21:Int)(o:Int)(o_2:Int)(met:List Bool):atz self (at',many,left,t19,t20,t21,o,o_2,met)=O9 (Pd) (EG (fun at' many left t19 t20 t21 o o_2 met=>self (at',many,left,t19,t20,t21,o,o_2,met))) (fun at' many left t19 t20 t21 o o_2 met=>self (at',many,left,t19,t20,t21,o,o_2,met)) at' many left t19 t20 t21 o o_2 met:=rfl
theorem aCc  (at':Int)(many:Int)(left:Int)(t19:zL3)(t20:Int)(t21:Int)(o:Int)(o_2:Int)(met:List Bool):Pe at' many left t19 t20 t21 o o_2 met=cu (atz) 18446744073709551616 (at',many,left,t19,t20,t21,o,o_2,met):=rfl
theorem aam(u1:Int->Int->Int->List fo->Int->Int->List Bool->Option (As [.bool])){w:fo->Bool}{l:List fo}{p:Int}{m t:Nat}{r:As [.bool]}(hp:0≤p)(hpm:p+(m:Int)≤1000000000000)(ht:t<l.length)(hw:∀x,Bu (x,())=some (w x,())){f to':Int}(hf:p≤f)(hfe:f≤p+(m:Int))(hte:to'≤p+(m:Int))
  (hcov:∀i,p≤i->i<p+(m:Int)->(kN l[t] i=true↔f≤i∧i<to')) (hR:∀met left,lH w l p m (fun i=>(iA (l.take (t+1)) i).isSome) met left->u1 p (m:Int) left l (l.length:Int) (add .i64 (t:Int) 1) met=some r) (hr:iV w l p m=false->r=(false,()))
  (met:List Bool) (left:Int) (h:lH w l p m (fun i=>(iA (l.take t) i).isSome) met left) :
  ED u1 p (m:Int) left to' f l (l.length:Int) (t:Int) met l[t]=some r:=by
 rw[aBY]
 refine nD (Inv:=fun s=>∃(i:Int) (met:List Bool) (left:Int),s=(p,(m:Int),left,to',i,l,(l.length:Int),(t:Int),met,l[t])∧f≤i∧(i≤to'∨i=f)∧lH w l p m (fun j=>(iA (l.take t) j).isSome || (decide (f≤j) && decide (j<i))) met left)
  (μ:=fun s=>(to' - s.2.2.2.2.1).toNat) (G:=fun _=>some r) ?_ _ _ ⟨f,met,left,rfl,Int.le_refl _,.inr rfl,pN h fun k hk=>by
   have:(decide (f≤p+(k:Int)) && decide (p+(k:Int)<f))=false:=by
    by_cases hh:f≤p+(k:Int)
    ·rw[decide_eq_false (show ¬ (p+(k:Int)<f) by omega),Bool.and_false]
    ·rw[decide_eq_false hh,Bool.false_and]
   rw[this,Bool.or_false]⟩ (by dsimp only;omega)
 rintro self s ⟨i,met,left,rfl,hi1,hi2,hI⟩ ih;rw[aBX];unfold OX;by_cases hlt:i<to'
 ·rw[if_pos (dw.2 hlt)]
  have hk:(i - p).toNat<m:=by omega
  have hki:p+(((i - p).toNat:Nat):Int)=i:=by omega
  have hs:sub .i64 i p=(((i - p).toNat:Nat):Int):=by rw[kV (by omega) (by omega)];omega
  obtain⟨g1,g2⟩:=hI.2.2 _ hk;dsimp only at g1 g2;rw[hki]at g1 g2;have hdf:(decide (f≤i) && decide (i<i))=false:=by rw[decide_eq_false (show ¬ i<i by omega),Bool.and_false]
  rw[hdf,Bool.or_false]at g1 g2;have K4:∀left met,IC u1 (fun at' many left to' i t19 t20 t21 met x=>self (at',many,left,to',i,t19,t20,t21,met,x)) p (m:Int) left to' i l (l.length:Int) (t:Int) met l[t]=self (p,(m:Int),left,to',i+1,l,(l.length:Int),(t:Int),met,l[t]):=fun left met=>by unfold IC ai2;rw[jO (by omega) (by omega)]
  have hcong:∀(k:Nat),k<m->∀b:Bool,b=(((iA (l.take t) (p+(k:Int))).isSome || (decide (f≤p+(k:Int)) && decide (p+(k:Int)<i))) || decide (p+(k:Int)=i))->((iA (l.take t) (p+(k:Int))).isSome || (decide (f≤p+(k:Int)) && decide (p+(k:Int)<i+1)))=b:=fun k hk b hc=>by
   rw[hc,Bool.or_assoc]
   congr 1
   rw[Bool.eq_iff_iff];simp only[Bool.or_eq_true,zO,decide_eq_true_eq];omega
  rw[hs,gu g1];simp only[zD]
  cases hb:(iA (l.take t) i).isSome with
  | true =>
   rw[if_pos rfl,K4];refine ih _ ⟨i+1,met,left,rfl,by omega,.inl (by omega),pN hI (fun k hk=>hcong k hk _ ?_)⟩ (by dsimp only;omega);by_cases hki':p+(k:Int)=i
   ·rw[hki',hb,Bool.true_or,Bool.true_or]
   ·rw[decide_eq_false hki',Bool.or_false]
  | false =>
   rw[if_neg (by decide),hw,zD];dsimp only;have hnone:iA (l.take t) i=none:=by simpa using hb
   have hfirst:iA l i=some l[t]:=by have hc:=(hcov i (by omega) (by omega)).2 ⟨hi1,hlt⟩;have:=l5 ht i;rw[hnone,hc]at this;exact uy this
   have hwf:lZ w l i=w l[t]:=by unfold lZ;rw[hfirst]
   cases hwx:w l[t]with
   | false =>
    rw[if_pos (by decide)];rw[hr (wI hk (by rw[hki,hwf,hwx]))]
   | true =>
    rw[if_neg (by decide)];have hset:=Dc hI hk (by rw[hki,hdf,Bool.or_false];exact hb) (by rw[hki,hwf,hwx]);rw[zQ,K4];have hl1:sub .i64 left 1=left - 1:=by have:=hI.2.1;have h2:=List.countP_le_length (p:=fun b:Bool=>!b) (l:=met);have h3:=hI.1;rw[kV (by omega) (by omega)]
    rw[hl1];refine ih _ ⟨i+1,_,_,rfl,by omega,.inl (by omega),pN hset (fun k hk=>hcong k hk _ ?_)⟩ (by dsimp only;omega);rw[hki]
 ·rw[if_neg (fun e=>hlt (dw.1 e))]
  refine hR met left (pN hI fun k hk=>?_);have hc:=hcov (p+(k:Int)) (by omega) (by omega);rw[l5 ht];have hcb:kN l[t] (p+(k:Int))=(decide (f≤p+(k:Int)) && decide (p+(k:Int)<i)):=by rw[Bool.eq_iff_iff,hc];simp only[zO,decide_eq_true_eq];omega
  rw[<- hcb]
  cases hx:iA (l.take t) (p+(k:Int)) with
  | some y=>rfl
  | none =>
   cases kN l[t] (p+(k:Int))<;>rfl
theorem aan{w:fo->Bool}{l:List fo}{p:Int}{m:Nat}(hp:0≤p)(hm:m≤1000000)(hpm:p≤1000000)(hl:l.length≤1000000)(ho:∀x∈l,tC x)(hw:∀x,Bu (x,())=some (w x,())):Yb (l,p,(m:Int),())=some (iV w l p m,()):=by
 show Ya OZ l p (m:Int)=_;unfold Ya;rw[eu (gZ.2 (by omega)),eu (rR _),zQ,jw (by omega)];rw[aB0]
 refine nD (Inv:=fun s=>∃(t:Nat) (met:List Bool) (left:Int),s=(p,(m:Int),left,l,(l.length:Int),(t:Int),met)∧t≤l.length∧lH w l p m (fun i=>(iA (l.take t) i).isSome) met left)
  (μ:=fun s=>(zF l.length - s.2.2.2.2.2.1).toNat) (G:=fun _=>some (iV w l p m,())) ?_ _ _ ⟨0,_,_,rfl,Nat.zero_le _,KZ w l p m⟩ (by dsimp only;rw[bn];omega)
 rintro self s ⟨t,met,left,rfl,ht,hI⟩ ih;rw[aBZ];unfold OV;have k2:OY left=some (eqi left 0,()):=rfl;by_cases hlt:t<l.length
 ·have hg:=zV hlt
  rw[if_pos (by rw[dw];omega),gu hg,zD];by_cases h0:left=0
  ·rw[if_pos (bu.2 h0),k2,bu.2 h0,oU hI h0]
  ·rw[if_neg (fun e=>h0 (bu.1 e)),jO (by omega) (by omega)]
   obtain⟨f,t',e1,e2,e3,e4,e5⟩:=zy (x:=l[t]) (p:=p) (e:=p+(m:Int)) hp (by omega) (by omega) (ho _ (List.getElem_mem hlt));rw[e1,zD];refine aam _ hp (by omega) hlt hw e2 e3 e4 e5 (fun met left hI'=>?_) (fun e=>by rw[e]) met left hI;rw[iT (by omega)];exact ih _ ⟨t+1,met,left,rfl,by omega,hI'⟩ (by dsimp only;rw[bn];omega)
 ·have htl:t=l.length:=by omega
  subst htl;rw[if_neg (by rw[dw];omega),k2];by_cases h0:left=0
  ·rw[bu.2 h0,oU hI h0]
  ·rw[List.take_length]at hI
   rw[zU hI h0,show eqi left 0=false from decide_eq_false h0]
theorem aao(u1:Int->Int->Int->List fo->Int->Int->List Bool->Option (As [.bool])){w:fo->Bool}{l:List fo}{p:Int}{m t:Nat}{r:As [.bool]}(hp:0≤p)(hpm:p+(m:Int)≤1000000000000)(ht:t<l.length)(hw:∀x,JU (x,())=some (w x,())){f to':Int}(hf:p≤f)(hfe:f≤p+(m:Int))(hte:to'≤p+(m:Int))
  (hcov:∀i,p≤i->i<p+(m:Int)->(kN l[t] i=true↔f≤i∧i<to')) (hR:∀met left,lH w l p m (fun i=>(iA (l.take (t+1)) i).isSome) met left->u1 p (m:Int) left l (l.length:Int) (add .i64 (t:Int) 1) met=some r) (hr:iV w l p m=false->r=(false,()))
  (met:List Bool) (left:Int) (h:lH w l p m (fun i=>(iA (l.take t) i).isSome) met left) :
  EF u1 p (m:Int) left to' f l (l.length:Int) (t:Int) met l[t]=some r:=by
 rw[aB2]
 refine nD (Inv:=fun s=>∃(i:Int) (met:List Bool) (left:Int),s=(p,(m:Int),left,to',i,l,(l.length:Int),(t:Int),met,l[t])∧f≤i∧(i≤to'∨i=f)∧lH w l p m (fun j=>(iA (l.take t) j).isSome || (decide (f≤j) && decide (j<i))) met left)
  (μ:=fun s=>(to' - s.2.2.2.2.1).toNat) (G:=fun _=>some r) ?_ _ _ ⟨f,met,left,rfl,Int.le_refl _,.inr rfl,pN h fun k hk=>by
   have:(decide (f≤p+(k:Int)) && decide (p+(k:Int)<f))=false:=by
    by_cases hh:f≤p+(k:Int)
    ·rw[decide_eq_false (show ¬ (p+(k:Int)<f) by omega),Bool.and_false]
    ·rw[decide_eq_false hh,Bool.false_and]
   rw[this,Bool.or_false]⟩ (by dsimp only;omega)
 rintro self s ⟨i,met,left,rfl,hi1,hi2,hI⟩ ih;rw[aB1];unfold O6;by_cases hlt:i<to'
 ·rw[if_pos (dw.2 hlt)]
  have hk:(i - p).toNat<m:=by omega
  have hki:p+(((i - p).toNat:Nat):Int)=i:=by omega
  have hs:sub .i64 i p=(((i - p).toNat:Nat):Int):=by rw[kV (by omega) (by omega)];omega
  obtain⟨g1,g2⟩:=hI.2.2 _ hk;dsimp only at g1 g2;rw[hki]at g1 g2;have hdf:(decide (f≤i) && decide (i<i))=false:=by rw[decide_eq_false (show ¬ i<i by omega),Bool.and_false]
  rw[hdf,Bool.or_false]at g1 g2;have K4:∀left met,IJ u1 (fun at' many left to' i t19 t20 t21 met x=>self (at',many,left,to',i,t19,t20,t21,met,x)) p (m:Int) left to' i l (l.length:Int) (t:Int) met l[t]=self (p,(m:Int),left,to',i+1,l,(l.length:Int),(t:Int),met,l[t]):=fun left met=>by unfold IJ aje;rw[jO (by omega) (by omega)]
  have hcong:∀(k:Nat),k<m->∀b:Bool,b=(((iA (l.take t) (p+(k:Int))).isSome || (decide (f≤p+(k:Int)) && decide (p+(k:Int)<i))) || decide (p+(k:Int)=i))->((iA (l.take t) (p+(k:Int))).isSome || (decide (f≤p+(k:Int)) && decide (p+(k:Int)<i+1)))=b:=fun k hk b hc=>by
   rw[hc,Bool.or_assoc]
   congr 1
   rw[Bool.eq_iff_iff];simp only[Bool.or_eq_true,zO,decide_eq_true_eq];omega
  rw[hs,gu g1];simp only[zD]
  cases hb:(iA (l.take t) i).isSome with
  | true =>
   rw[if_pos rfl,K4];refine ih _ ⟨i+1,met,left,rfl,by omega,.inl (by omega),pN hI (fun k hk=>hcong k hk _ ?_)⟩ (by dsimp only;omega);by_cases hki':p+(k:Int)=i
   ·rw[hki',hb,Bool.true_or,Bool.true_or]
   ·rw[decide_eq_false hki',Bool.or_false]
  | false =>
   rw[if_neg (by decide),hw,zD];dsimp only;have hnone:iA (l.take t) i=none:=by simpa using hb
   have hfirst:iA l i=some l[t]:=by have hc:=(hcov i (by omega) (by omega)).2 ⟨hi1,hlt⟩;have:=l5 ht i;rw[hnone,hc]at this;exact uy this
   have hwf:lZ w l i=w l[t]:=by unfold lZ;rw[hfirst]
   cases hwx:w l[t]with
   | false =>
    rw[if_pos (by decide)];rw[hr (wI hk (by rw[hki,hwf,hwx]))]
   | true =>
    rw[if_neg (by decide)];have hset:=Dc hI hk (by rw[hki,hdf,Bool.or_false];exact hb) (by rw[hki,hwf,hwx]);rw[zQ,K4];have hl1:sub .i64 left 1=left - 1:=by have:=hI.2.1;have h2:=List.countP_le_length (p:=fun b:Bool=>!b) (l:=met);have h3:=hI.1;rw[kV (by omega) (by omega)]
    rw[hl1];refine ih _ ⟨i+1,_,_,rfl,by omega,.inl (by omega),pN hset (fun k hk=>hcong k hk _ ?_)⟩ (by dsimp only;omega);rw[hki]
 ·rw[if_neg (fun e=>hlt (dw.1 e))]
  refine hR met left (pN hI fun k hk=>?_);have hc:=hcov (p+(k:Int)) (by omega) (by omega);rw[l5 ht];have hcb:kN l[t] (p+(k:Int))=(decide (f≤p+(k:Int)) && decide (p+(k:Int)<i)):=by rw[Bool.eq_iff_iff,hc];simp only[zO,decide_eq_true_eq];omega
  rw[<- hcb]
  cases hx:iA (l.take t) (p+(k:Int)) with
  | some y=>rfl
  | none =>
   cases kN l[t] (p+(k:Int))<;>rfl
theorem aap{w:fo->Bool}{l:List fo}{p:Int}{m:Nat}(hp:0≤p)(hm:m≤1000000)(hpm:p≤1000000)(hl:l.length≤1000000)(ho:∀x∈l,tC x)(hw:∀x,JU (x,())=some (w x,())):Yh (l,p,(m:Int),())=some (iV w l p m,()):=by
 show Yg O8 l p (m:Int)=_;unfold Yg;rw[eu (gZ.2 (by omega)),eu (rR _),zQ,jw (by omega)];rw[aB4]
 refine nD (Inv:=fun s=>∃(t:Nat) (met:List Bool) (left:Int),s=(p,(m:Int),left,l,(l.length:Int),(t:Int),met)∧t≤l.length∧lH w l p m (fun i=>(iA (l.take t) i).isSome) met left)
  (μ:=fun s=>(zF l.length - s.2.2.2.2.2.1).toNat) (G:=fun _=>some (iV w l p m,())) ?_ _ _ ⟨0,_,_,rfl,Nat.zero_le _,KZ w l p m⟩ (by dsimp only;rw[bn];omega)
 rintro self s ⟨t,met,left,rfl,ht,hI⟩ ih;rw[aB3];unfold O5;have k2:O7 left=some (eqi left 0,()):=rfl;by_cases hlt:t<l.length
 ·have hg:=zV hlt
  rw[if_pos (by rw[dw];omega),gu hg,zD];by_cases h0:left=0
  ·rw[if_pos (bu.2 h0),k2,bu.2 h0,oU hI h0]
  ·rw[if_neg (fun e=>h0 (bu.1 e)),jO (by omega) (by omega)]
   obtain⟨f,t',e1,e2,e3,e4,e5⟩:=zy (x:=l[t]) (p:=p) (e:=p+(m:Int)) hp (by omega) (by omega) (ho _ (List.getElem_mem hlt));rw[e1,zD];refine aao _ hp (by omega) hlt hw e2 e3 e4 e5 (fun met left hI'=>?_) (fun e=>by rw[e]) met left hI;rw[iT (by omega)];exact ih _ ⟨t+1,met,left,rfl,by omega,hI'⟩ (by dsimp only;rw[bn];omega)
 ·have htl:t=l.length:=by omega
  subst htl;rw[if_neg (by rw[dw];omega),k2];by_cases h0:left=0
  ·rw[bu.2 h0,oU hI h0]
  ·rw[List.take_length]at hI
   rw[zU hI h0,show eqi left 0=false from decide_eq_false h0]
theorem aaq(u1:Int->Int->Int->List fo->Int->Int->Int->Int->List Bool->Option (As [.bool,.int .i64,.int .i64])){w:fo->Bool}{l:List fo}{p:Int}{m t:Nat}{r:As [.bool,.int .i64,.int .i64]}{o o2:Int}(hp:0≤p)(hpm:p+(m:Int)≤1000000000000)(ht:t<l.length)(hw:∀x,FN (x,o,o2,())=some (w x,o,o2,())){f to':Int}(hf:p≤f)(hfe:f≤p+(m:Int))(hte:to'≤p+(m:Int))
  (hcov:∀i,p≤i->i<p+(m:Int)->(kN l[t] i=true↔f≤i∧i<to')) (hR:∀met left,lH w l p m (fun i=>(iA (l.take (t+1)) i).isSome) met left->u1 p (m:Int) left l (l.length:Int) (add .i64 (t:Int) 1) o o2 met=some r) (hr:iV w l p m=false->r=(false,o,o2,()))
  (met:List Bool) (left:Int) (h:lH w l p m (fun i=>(iA (l.take t) i).isSome) met left) :
  EE u1 p (m:Int) left to' f l (l.length:Int) (t:Int) o o2 met l[t]=some r:=by
 rw[aB6]
 refine nD (Inv:=fun s=>∃(i:Int) (met:List Bool) (left:Int),s=(p,(m:Int),left,to',i,l,(l.length:Int),(t:Int),o,o2,met,l[t])∧f≤i∧(i≤to'∨i=f)∧lH w l p m (fun j=>(iA (l.take t) j).isSome || (decide (f≤j) && decide (j<i))) met left)
  (μ:=fun s=>(to' - s.2.2.2.2.1).toNat) (G:=fun _=>some r) ?_ _ _ ⟨f,met,left,rfl,Int.le_refl _,.inr rfl,pN h fun k hk=>by
   have:(decide (f≤p+(k:Int)) && decide (p+(k:Int)<f))=false:=by
    by_cases hh:f≤p+(k:Int)
    ·rw[decide_eq_false (show ¬ (p+(k:Int)<f) by omega),Bool.and_false]
    ·rw[decide_eq_false hh,Bool.false_and]
   rw[this,Bool.or_false]⟩ (by dsimp only;omega)
 rintro self s ⟨i,met,left,rfl,hi1,hi2,hI⟩ ih;rw[aB5];unfold O1;by_cases hlt:i<to'
 ·rw[if_pos (dw.2 hlt)]
  have hk:(i - p).toNat<m:=by omega
  have hki:p+(((i - p).toNat:Nat):Int)=i:=by omega
  have hs:sub .i64 i p=(((i - p).toNat:Nat):Int):=by rw[kV (by omega) (by omega)];omega
  obtain⟨g1,g2⟩:=hI.2.2 _ hk;dsimp only at g1 g2;rw[hki]at g1 g2;have hdf:(decide (f≤i) && decide (i<i))=false:=by rw[decide_eq_false (show ¬ i<i by omega),Bool.and_false]
  rw[hdf,Bool.or_false]at g1 g2;have K4:∀left met,IG u1 (fun at' many left to' i t19 t20 t21 o o2 met x=>self (at',many,left,to',i,t19,t20,t21,o,o2,met,x)) p (m:Int) left to' i l (l.length:Int) (t:Int) o o2 met l[t]=self (p,(m:Int),left,to',i+1,l,(l.length:Int),(t:Int),o,o2,met,l[t]):=fun left met=>by unfold IG ai8;rw[jO (by omega) (by omega)]
  have hcong:∀(k:Nat),k<m->∀b:Bool,b=(((iA (l.take t) (p+(k:Int))).isSome || (decide (f≤p+(k:Int)) && decide (p+(k:Int)<i))) || decide (p+(k:Int)=i))->((iA (l.take t) (p+(k:Int))).isSome || (decide (f≤p+(k:Int)) && decide (p+(k:Int)<i+1)))=b:=fun k hk b hc=>by
   rw[hc,Bool.or_assoc]
   congr 1
   rw[Bool.eq_iff_iff];simp only[Bool.or_eq_true,zO,decide_eq_true_eq];omega
  rw[hs,gu g1];simp only[zD]
  cases hb:(iA (l.take t) i).isSome with
  | true =>
   rw[if_pos rfl,K4];refine ih _ ⟨i+1,met,left,rfl,by omega,.inl (by omega),pN hI (fun k hk=>hcong k hk _ ?_)⟩ (by dsimp only;omega);by_cases hki':p+(k:Int)=i
   ·rw[hki',hb,Bool.true_or,Bool.true_or]
   ·rw[decide_eq_false hki',Bool.or_false]
  | false =>
   rw[if_neg (by decide),hw,zD];dsimp only;have hnone:iA (l.take t) i=none:=by simpa using hb
   have hfirst:iA l i=some l[t]:=by have hc:=(hcov i (by omega) (by omega)).2 ⟨hi1,hlt⟩;have:=l5 ht i;rw[hnone,hc]at this;exact uy this
   have hwf:lZ w l i=w l[t]:=by unfold lZ;rw[hfirst]
   cases hwx:w l[t]with
   | false =>
    rw[if_pos (by decide)];rw[hr (wI hk (by rw[hki,hwf,hwx]))]
   | true =>
    rw[if_neg (by decide)];have hset:=Dc hI hk (by rw[hki,hdf,Bool.or_false];exact hb) (by rw[hki,hwf,hwx]);rw[zQ,K4];have hl1:sub .i64 left 1=left - 1:=by have:=hI.2.1;have h2:=List.countP_le_length (p:=fun b:Bool=>!b) (l:=met);have h3:=hI.1;rw[kV (by omega) (by omega)]
    rw[hl1];refine ih _ ⟨i+1,_,_,rfl,by omega,.inl (by omega),pN hset (fun k hk=>hcong k hk _ ?_)⟩ (by dsimp only;omega);rw[hki]
 ·rw[if_neg (fun e=>hlt (dw.1 e))]
  refine hR met left (pN hI fun k hk=>?_);have hc:=hcov (p+(k:Int)) (by omega) (by omega);rw[l5 ht];have hcb:kN l[t] (p+(k:Int))=(decide (f≤p+(k:Int)) && decide (p+(k:Int)<i)):=by rw[Bool.eq_iff_iff,hc];simp only[zO,decide_eq_true_eq];omega
  rw[<- hcb]
  cases hx:iA (l.take t) (p+(k:Int)) with
  | some y=>rfl
  | none =>
   cases kN l[t] (p+(k:Int))<;>rfl
theorem aar{w:fo->Bool}{l:List fo}{p:Int}{m:Nat}(hp:0≤p)(hm:m≤1000000)(hpm:p≤1000000)(hl:l.length≤1000000)(ho:∀x∈l,tC x){o o2:Int}(hw:∀x,FN (x,o,o2,())=some (w x,o,o2,())):Ye (l,p,(m:Int),o,o2,())=some (iV w l p m,o,o2,()):=by
 show Yd O4 l p (m:Int) o o2=_;unfold Yd;rw[eu (gZ.2 (by omega)),eu (rR _),zQ,jw (by omega)];rw[aB8]
 refine nD (Inv:=fun s=>∃(t:Nat) (met:List Bool) (left:Int),s=(p,(m:Int),left,l,(l.length:Int),(t:Int),o,o2,met)∧t≤l.length∧lH w l p m (fun i=>(iA (l.take t) i).isSome) met left)
  (μ:=fun s=>(zF l.length - s.2.2.2.2.2.1).toNat) (G:=fun _=>some (iV w l p m,o,o2,())) ?_ _ _ ⟨0,_,_,rfl,Nat.zero_le _,KZ w l p m⟩ (by dsimp only;rw[bn];omega)
 rintro self s ⟨t,met,left,rfl,ht,hI⟩ ih;rw[aB7];unfold O0;have k2:O3 left o o2=some (eqi left 0,o,o2,()):=rfl;by_cases hlt:t<l.length
 ·have hg:=zV hlt
  rw[if_pos (by rw[dw];omega),gu hg,zD];by_cases h0:left=0
  ·rw[if_pos (bu.2 h0),k2,bu.2 h0,oU hI h0]
  ·rw[if_neg (fun e=>h0 (bu.1 e)),jO (by omega) (by omega)]
   obtain⟨f,t',e1,e2,e3,e4,e5⟩:=zy (x:=l[t]) (p:=p) (e:=p+(m:Int)) hp (by omega) (by omega) (ho _ (List.getElem_mem hlt));rw[e1,zD];refine aaq _ hp (by omega) hlt hw e2 e3 e4 e5 (fun met left hI'=>?_) (fun e=>by rw[e]) met left hI;rw[iT (by omega)];exact ih _ ⟨t+1,met,left,rfl,by omega,hI'⟩ (by dsimp only;rw[bn];omega)
 ·have htl:t=l.length:=by omega
  subst htl;rw[if_neg (by rw[dw];omega),k2];by_cases h0:left=0
  ·rw[bu.2 h0,oU hI h0]
  ·rw[List.take_length]at hI
   rw[zU hI h0,show eqi left 0=false from decide_eq_false h0]
theorem aas(u1:Int->Int->Int->List fo->Int->Int->Int->Int->List Bool->Option (As [.bool,.int .i64,.int .i64])){w:fo->Bool}{l:List fo}{p:Int}{m t:Nat}{r:As [.bool,.int .i64,.int .i64]}{o o2:Int}(hp:0≤p)(hpm:p+(m:Int)≤1000000000000)(ht:t<l.length)(hw:∀x,FO (x,o,o2,())=some (w x,o,o2,())){f to':Int}(hf:p≤f)(hfe:f≤p+(m:Int))(hte:to'≤p+(m:Int))
  (hcov:∀i,p≤i->i<p+(m:Int)->(kN l[t] i=true↔f≤i∧i<to')) (hR:∀met left,lH w l p m (fun i=>(iA (l.take (t+1)) i).isSome) met left->u1 p (m:Int) left l (l.length:Int) (add .i64 (t:Int) 1) o o2 met=some r) (hr:iV w l p m=false->r=(false,o,o2,()))
  (met:List Bool) (left:Int) (h:lH w l p m (fun i=>(iA (l.take t) i).isSome) met left) :
  EG u1 p (m:Int) left to' f l (l.length:Int) (t:Int) o o2 met l[t]=some r:=by
 rw[aCa]
 refine nD (Inv:=fun s=>∃(i:Int) (met:List Bool) (left:Int),s=(p,(m:Int),left,to',i,l,(l.length:Int),(t:Int),o,o2,met,l[t])∧f≤i∧(i≤to'∨i=f)∧lH w l p m (fun j=>(iA (l.take t) j).isSome || (decide (f≤j) && decide (j<i))) met left)
  (μ:=fun s=>(to' - s.2.2.2.2.1).toNat) (G:=fun _=>some r) ?_ _ _ ⟨f,met,left,rfl,Int.le_refl _,.inr rfl,pN h fun k hk=>by
   have:(decide (f≤p+(k:Int)) && decide (p+(k:Int)<f))=false:=by
    by_cases hh:f≤p+(k:Int)
    ·rw[decide_eq_false (show ¬ (p+(k:Int)<f) by omega),Bool.and_false]
    ·rw[decide_eq_false hh,Bool.false_and]
   rw[this,Bool.or_false]⟩ (by dsimp only;omega)
 rintro self s ⟨i,met,left,rfl,hi1,hi2,hI⟩ ih;rw[aB9];unfold Pb;by_cases hlt:i<to'
 ·rw[if_pos (dw.2 hlt)]
  have hk:(i - p).toNat<m:=by omega
  have hki:p+(((i - p).toNat:Nat):Int)=i:=by omega
  have hs:sub .i64 i p=(((i - p).toNat:Nat):Int):=by rw[kV (by omega) (by omega)];omega
  obtain⟨g1,g2⟩:=hI.2.2 _ hk;dsimp only at g1 g2;rw[hki]at g1 g2;have hdf:(decide (f≤i) && decide (i<i))=false:=by rw[decide_eq_false (show ¬ i<i by omega),Bool.and_false]
  rw[hdf,Bool.or_false]at g1 g2;have K4:∀left met,IL u1 (fun at' many left to' i t19 t20 t21 o o2 met x=>self (at',many,left,to',i,t19,t20,t21,o,o2,met,x)) p (m:Int) left to' i l (l.length:Int) (t:Int) o o2 met l[t]=self (p,(m:Int),left,to',i+1,l,(l.length:Int),(t:Int),o,o2,met,l[t]):=fun left met=>by unfold IL ajk;rw[jO (by omega) (by omega)]
  have hcong:∀(k:Nat),k<m->∀b:Bool,b=(((iA (l.take t) (p+(k:Int))).isSome || (decide (f≤p+(k:Int)) && decide (p+(k:Int)<i))) || decide (p+(k:Int)=i))->((iA (l.take t) (p+(k:Int))).isSome || (decide (f≤p+(k:Int)) && decide (p+(k:Int)<i+1)))=b:=fun k hk b hc=>by
   rw[hc,Bool.or_assoc]
   congr 1
   rw[Bool.eq_iff_iff];simp only[Bool.or_eq_true,zO,decide_eq_true_eq];omega
  rw[hs,gu g1];simp only[zD]
  cases hb:(iA (l.take t) i).isSome with
  | true =>
   rw[if_pos rfl,K4];refine ih _ ⟨i+1,met,left,rfl,by omega,.inl (by omega),pN hI (fun k hk=>hcong k hk _ ?_)⟩ (by dsimp only;omega);by_cases hki':p+(k:Int)=i
   ·rw[hki',hb,Bool.true_or,Bool.true_or]
   ·rw[decide_eq_false hki',Bool.or_false]
  | false =>
   rw[if_neg (by decide),hw,zD];dsimp only;have hnone:iA (l.take t) i=none:=by simpa using hb
   have hfirst:iA l i=some l[t]:=by have hc:=(hcov i (by omega) (by omega)).2 ⟨hi1,hlt⟩;have:=l5 ht i;rw[hnone,hc]at this;exact uy this
   have hwf:lZ w l i=w l[t]:=by unfold lZ;rw[hfirst]
   cases hwx:w l[t]with
   | false =>
    rw[if_pos (by decide)];rw[hr (wI hk (by rw[hki,hwf,hwx]))]
   | true =>
    rw[if_neg (by decide)];have hset:=Dc hI hk (by rw[hki,hdf,Bool.or_false];exact hb) (by rw[hki,hwf,hwx]);rw[zQ,K4];have hl1:sub .i64 left 1=left - 1:=by have:=hI.2.1;have h2:=List.countP_le_length (p:=fun b:Bool=>!b) (l:=met);have h3:=hI.1;rw[kV (by omega) (by omega)]
    rw[hl1];refine ih _ ⟨i+1,_,_,rfl,by omega,.inl (by omega),pN hset (fun k hk=>hcong k hk _ ?_)⟩ (by dsimp only;omega);rw[hki]
 ·rw[if_neg (fun e=>hlt (dw.1 e))]
  refine hR met left (pN hI fun k hk=>?_);have hc:=hcov (p+(k:Int)) (by omega) (by omega);rw[l5 ht];have hcb:kN l[t] (p+(k:Int))=(decide (f≤p+(k:Int)) && decide (p+(k:Int)<i)):=by rw[Bool.eq_iff_iff,hc];simp only[zO,decide_eq_true_eq];omega
  rw[<- hcb]
  cases hx:iA (l.take t) (p+(k:Int)) with
  | some y=>rfl
  | none =>
   cases kN l[t] (p+(k:Int))<;>rfl
theorem aat{w:fo->Bool}{l:List fo}{p:Int}{m:Nat}(hp:0≤p)(hm:m≤1000000)(hpm:p≤1000000)(hl:l.length≤1000000)(ho:∀x∈l,tC x){o o2:Int}(hw:∀x,FO (x,o,o2,())=some (w x,o,o2,())):Yk (l,p,(m:Int),o,o2,())=some (iV w l p m,o,o2,()):=by
 show Yj Pe l p (m:Int) o o2=_;unfold Yj;rw[eu (gZ.2 (by omega)),eu (rR _),zQ,jw (by omega)];rw[aCc]
 refine nD (Inv:=fun s=>∃(t:Nat) (met:List Bool) (left:Int),s=(p,(m:Int),left,l,(l.length:Int),(t:Int),o,o2,met)∧t≤l.length∧lH w l p m (fun i=>(iA (l.take t) i).isSome) met left)
  (μ:=fun s=>(zF l.length - s.2.2.2.2.2.1).toNat) (G:=fun _=>some (iV w l p m,o,o2,())) ?_ _ _ ⟨0,_,_,rfl,Nat.zero_le _,KZ w l p m⟩ (by dsimp only;rw[bn];omega)
 rintro self s ⟨t,met,left,rfl,ht,hI⟩ ih;rw[aCb];unfold O9;have k2:Pd left o o2=some (eqi left 0,o,o2,()):=rfl;by_cases hlt:t<l.length
 ·have hg:=zV hlt
  rw[if_pos (by rw[dw];omega),gu hg,zD];by_cases h0:left=0
  ·rw[if_pos (bu.2 h0),k2,bu.2 h0,oU hI h0]
  ·rw[if_neg (fun e=>h0 (bu.1 e)),jO (by omega) (by omega)]
   obtain⟨f,t',e1,e2,e3,e4,e5⟩:=zy (x:=l[t]) (p:=p) (e:=p+(m:Int)) hp (by omega) (by omega) (ho _ (List.getElem_mem hlt));rw[e1,zD];refine aas _ hp (by omega) hlt hw e2 e3 e4 e5 (fun met left hI'=>?_) (fun e=>by rw[e]) met left hI;rw[iT (by omega)];exact ih _ ⟨t+1,met,left,rfl,by omega,hI'⟩ (by dsimp only;rw[bn];omega)
 ·have htl:t=l.length:=by omega
  subst htl;rw[if_neg (by rw[dw];omega),k2];by_cases h0:left=0
  ·rw[bu.2 h0,oU hI h0]
  ·rw[List.take_length]at hI
   rw[zU hI h0,show eqi left 0=false from decide_eq_false h0]
abbrev TCm:=Int×Int×Int×Int×Int
def kS(l:TLs):Prop:=(l.1=0∧l.2=0)∨(l.1≠0∧(1≤l.2∨l.2=-1))
instance (l:TLs):Decidable (kS l):=inferInstanceAs (Decidable (_∨_))
theorem z8(o:Int):y9 (o,())=some ((o,-1),()):=rfl
theorem aau(l:TLs):YF (l,())=some (decide (kS l),()):=by
 obtain⟨o,n⟩:=l;show ajO (o,n)=_;unfold ajO;simp only[z8,zD,bu,gZ,Bool.and_true];by_cases h0:o=0
 ·rw[if_pos h0]
  congr 2
  rw[Bool.eq_iff_iff];simp[bu,kS,h0]
 ·rw[if_neg h0]
  by_cases h1:1≤n
  ·rw[if_pos h1]
   congr 2
   symm;rw[decide_eq_true_eq];exact Or.inr ⟨h0,Or.inl h1⟩
  ·rw[if_neg h1]
   have e:(zC (y9 (o,())) fun y=>some (eqi o y.1.1 && eqi n y.1.2,()):Option (As [.bool]))=some (eqi o o && eqi n (-1),()):=rfl;refine Eq.trans e (congrArg (fun b=>some (b,())) ?_);rw[Bool.eq_iff_iff,zO,bu,bu,decide_eq_true_eq];constructor
   ·rintro⟨_,e⟩
    exact Or.inr ⟨h0,Or.inr e⟩
   ·rintro (⟨e,_⟩ | ⟨_,e | e⟩)
    ·omega
    ·omega
    omega
def alW(l:TLs):TLs:=if kS l then l else (0,0)
theorem De(l:TLs):BI (l,())=some (alW l,()):=by show ajQ l=_;grind[ajQ,alW,aau,kS]
theorem wJ{l:TLs}(h:kS l):alW l=l:=if_pos h
theorem rT{l:TLs}(h:kS l):qN (l,())=some (decide (l.1=0),()):=by
 show ajR l=_;unfold ajR;rw[De,zD,wJ h,Bool.and_true]
 congr 2
 rw[Bool.eq_iff_iff];simp only[zO,bu,decide_eq_true_eq];grind[kS]
def lI(l:TLs)(o t:Int):TLs:=if l=(o,-1) then l else (o,t)
theorem alX{l:TLs}{o t:Int}(h:kS l)(ho:o≠0)(ht:1≤t)(hf:l.1=0∨l.1=o):aks (l,o,t,())=some (lI l o t,0,()):=by
 obtain⟨l1,l2⟩:=l;show Y9 akr (l1,l2) o t=_;unfold Y9;rw[De,zD,wJ h];dsimp only;rw[if_neg (fun e=>ho (bu.1 e)),qQ,decide_eq_false (by omega)];show Y7 Za o t false (l1,l2) (0,0)=_;unfold Y7;rw[if_neg (by decide),rT h,zD];have K2:∀b z,b=false->Za o t b (l1,l2) z=some (lI (l1,l2) o t,0,()):=fun b z hb=>by subst hb;show Y8 o t false (l1,l2) z=_;unfold Y8 lI;rw[if_neg (by decide),z8,zD];simp only[Bool.and_true,zO,bu,Prod.mk.injEq];grind
 by_cases h0:l1=0
 ·simp_all
 ·rw[if_pos (by grind)]
  refine K2 _ _ ?_;rw[Bool.eq_false_iff];simp_all[fQ,absurd]
theorem alY{l:TLs}{o:Int}(h:kS l)(ho:o≠0)(hf:l.1=o):Zo (l,o,())=some ((o,-1),0,()):=by show akF l o=_;unfold akF;rw[De,zD,wJ h];dsimp only;rw[if_neg (fun e=>ho (bu.1 e)),if_neg (fun e=>fQ.1 e hf),z8,zD]
def qX(l:TLs):TLs×Bool:=if l.1=0∨l.2=-1 then (l,false) else if l.2=1 then ((0,0),true) else ((l.1,l.2 - 1),false)
def gD(x:ay):Bool:=decide (x.2.length≤14∧0≤x.1∧x.1≤63∧x.1+(x.2.length:Int)≤64)
theorem qg{x:ay}(h:x.2.length≤1000000):qK (x,())=some (gD x,()):=by
 obtain⟨p,w⟩:=x;show afp (p,w)=_;unfold afp gD;simp only[iw,gZ,dw,bn]at h ⊢;by_cases h1:(w.length:Int)≤14
 ·rw[if_pos h1]
  by_cases h2:0≤p
  ·rw[if_pos h2]
   by_cases h3:p<64
   ·rw[if_pos h3,jO (by omega) (by omega),le_dec]
    grind
   grind
  grind
 grind
def zB:ay:=(0,[])
def nzB(hv:List Bool)(bs:List ay):List ay:=List.zipWith (fun h b=>if h=true then b else zB) hv bs
theorem xY{hv:List Bool}{bs:List ay}(h1:hv.length=8)(h2:bs.length=8):(nzB hv bs).length=8:=by simp_all[nzB,List.length_zipWith]
theorem FV{hv:List Bool}{bs:List ay}{i:Nat}{h:Bool}{b:ay}(h1:hv[i]? = some h)(h2:bs[i]? = some b):(nzB hv bs)[i]? = some (if h=true then b else zB):=by simp_all[nzB,List.getElem?_zipWith]
theorem R5{α:Type}{xs ys:List α}(hl:xs.length=ys.length){i:Nat}{y:α}(h:ys[i]? = some y):(ys.take i++xs.drop i).set i y=ys.take (i+1)++xs.drop (i+1):=by grind[List.getElem?_eq_some_iff,List.take_add_one,List.drop_eq_getElem_cons,kB,List.append_assoc,List.singleton_append,ath]
def fV(a:TAg):TAg:=(a.1,a.2.1,a.2.2.1,a.2.2.2.1,a.2.2.2.2.1,(a.2.2.2.2.2.1.1,a.2.2.2.2.2.1.2.1,nzB a.2.2.2.2.2.1.2.1 a.2.2.2.2.2.1.2.2),a.2.2.2.2.2.2)
structure SzA(a:TAg):Prop where
 bk:a.1.length≤1000
 hv:a.2.2.2.2.2.1.2.1.length=8
 bs:a.2.2.2.2.2.1.2.2.length=8
 bw:∀b∈a.2.2.2.2.2.1.2.2,b.2.length≤1000
theorem jg{α:Type}{xs:List α}{i:Nat}(h:i<xs.length):∃x,xs[i]? = some x:=⟨xs[i],zV h⟩
theorem Df{a:TAg}(h:SzA a):EL (a,())=some (fV a,()):=by
 obtain⟨bk,ls,ph,tx,la,⟨st,hv,bs⟩,tk⟩:=a;obtain⟨hk,h1,h2,h3⟩:=h;dsimp only at hk h1 h2 h3;show Y4 I4 (bk,ls,ph,tx,la,(st,hv,bs),tk)=_;unfold Y4;rw[nY (show bk.length≤1000000 by omega)];have hl:=xY h1 h2;show I4 0 0 hv 0 [(bk,ls,ph,tx,la,(st,hv,bs),tk)] _=some ((bk,ls,ph,tx,la,(st,hv,nzB hv bs),tk),());unfold I4;refine lU (N:=8) (mk:=fun i=>(0,0,hv,(i:Int),[(bk,ls,ph,tx,la,(st,hv,(nzB hv bs).take i++bs.drop i),tk)],_)) ?_ ?_ 8 0 _ (by omega) (by omega)
 ·intro self i hi
  show I1 (Po _) _ 0 0 hv (i:Int) [(bk,ls,ph,tx,la,(st,hv,(nzB hv bs).take i++bs.drop i),tk)] _=self (0,0,hv,((i+1:Nat):Int),[(bk,ls,ph,tx,la,(st,hv,(nzB hv bs).take (i+1)++bs.drop (i+1)),tk)],_);obtain⟨x,hx⟩:=jg (xs:=hv) (i:=i) (by omega);obtain⟨b,hb⟩:=jg (xs:=bs) (i:=i) (by omega);have hm:at? ((nzB hv bs).take i++bs.drop i) (i:Int)=some b:=gu (by grind);have hs:=R5 (xs:=bs) (ys:=nzB hv bs) (by omega) (FV hx hb);unfold I1;have l8:lt (i:Int) 8=true:=dw.2 (by omega);have g0:ge (i:Int) 0=true:=gZ.2 (by omega);have K2:∀y z,Po (fun a t2 t12 t13 a_2 t2_2=>self (a,t2,t12,t13,a_2,t2_2)) 0 0 (i:Int) hv (i:Int) [(bk,ls,ph,tx,la,(st,hv,(nzB hv bs).take i++bs.drop i),tk)] z y=self (0,0,hv,((i+1:Nat):Int),[(bk,ls,ph,tx,la,(st,hv,((nzB hv bs).take i++bs.drop i).set i y),tk)],z):=fun y z=>by show Y3 _ _ _ _ _ _ _ _ _=_;grind[Y3,eu,iX,iT]
  rw[if_pos l8,eu l8,gu hx,zD]
  cases x with
  | true =>
   rw[if_pos rfl,eu g0,eu l8,iX,zD];grind[eu,nY,zY]
  | false =>
   rw[if_neg (by decide),K2,<- hs];rfl
 ·intro self
  show I1 (Po _) _ 0 0 hv (8:Int) [(bk,ls,ph,tx,la,(st,hv,(nzB hv bs).take 8++bs.drop 8),tk)] _=_;unfold I1;rw[if_neg (by decide)];have e1:(nzB hv bs).take 8++bs.drop 8=nzB hv bs:=by grind
  rw[e1];rfl
theorem alZ(x:Int):IntKind.u32.wrap x=x%4294967296:=by rfl
theorem aCd{x:Int}:shr .u32 x 16=x / 65536:=by
 unfold shr;have:min (16:Int).toNat IntKind.u32.bits=16:=by decide
 grind
theorem parts_eq{x:Int}(h0:0≤x)(h1:x≤4294967295):Bd (x,())=some (x / 65536,x%65536,()):=by show afJ x=_;grind[afJ,aCd,zk]
theorem aCe{y:Int}(h0:0≤y)(h1:y≤65535):shl .u32 (cvt .u32 y) 16=65536*y:=by
 unfold cvt;rw[alZ];unfold shl;have:min (16:Int).toNat IntKind.u32.bits=16:=by decide
 grind[alZ]
theorem atA{a b:Int}(ha:0≤a)(ha2:a≤65535)(hb:0≤b)(hb':b≤65535):bor .u32 (65536*a) b=65536*a+b:=by
 obtain⟨n,rfl⟩:=zN ha;obtain⟨m,rfl⟩:=zN hb;unfold bor;rw[alZ]
 have e1:(BitVec.ofInt IntKind.u32.bits (65536*(n:Int))).toNat=65536*n:=by
  rw[BitVec.toNat_ofInt];have:((2 ^ IntKind.u32.bits:Nat):Int)=4294967296:=by decide
  grind
 have e2:(BitVec.ofInt IntKind.u32.bits (m:Int)).toNat=m:=by
  rw[BitVec.toNat_ofInt];have:((2 ^ IntKind.u32.bits:Nat):Int)=4294967296:=by decide
  grind
 rw[BitVec.toNat_or,e1,e2];have e3:65536*n ||| m=65536*n+m:=by have:=Nat.two_pow_add_eq_or_of_lt (i:=16) (b:=m) (by omega) n;simp_all
 omega
theorem xZ{a b:Int}(ha:0≤a)(ha2:a≤65535)(hb:0≤b)(hb':b≤65535):qL (a,b,())=some (65536*a+b,()):=by show afP a b=_;unfold afP;rw[aCe ha ha2,show cvt .u32 b=b from ate hb (by omega),atA ha ha2 hb hb']
theorem P5{st:Int}{hv:List Bool}{bs:List ay}(h:hv.length=8):xC ((st,hv,bs),())=some (((hv.count true:Nat):Int),()):=by
 show Pn 0 hv 0=_;unfold Pn;refine (lU (N:=8) (mk:=fun i=>((((hv.take i).count true:Nat):Int),hv,(i:Int))) (r:=some (((hv.count true:Nat):Int),())) ?_ ?_ 8 0 _ (by omega) (by omega))
 ·intro self i hi
  show IW _ (((hv.take i).count true:Nat):Int) hv (i:Int)=_;obtain⟨x,hx⟩:=jg (xs:=hv) (i:=i) (by omega);have l8:lt (i:Int) 8=true:=dw.2 (by omega);have hle:(hv.take i).count true≤8:=by grind[List.count_le_length,kB]
  have e:(hv.take (i+1)).count true=(hv.take i).count true+(if x=true then 1 else 0):=by grind[List.take_add_one]
  unfold IW;rw[if_pos l8,eu l8,gu hx,zD,iT (by omega),iT (by omega),e];grind
 ·intro self
  show IW _ (((hv.take 8).count true:Nat):Int) hv (8:Int)=_;unfold IW;rw[if_neg (by decide),List.take_of_length_le (by omega)]
theorem Jm{x:ay}(h:x.2.length≤1000):BK (x,())=some (x,()):=by show akv x=_;grind[akv,nY]
theorem number_eq(n:Int):En (n,())=some (decide (0≤n∧n≤7),()):=by
 show af5 n=_;unfold af5;by_cases h:0≤n
 ·rw[if_pos (gZ.2 h),qQ]
  grind
 simp_all[if_neg,gZ,decide_eq_false]
def itB(x:ay):List Int:=if gD x=true then x.1::(x.2.length:Int)::x.2++zE (14 - x.2.length) 0 else zE 16 0
theorem apQ(s:List Int->Option (As [.sl (.int .u16)]))(l:List Int):Vr s l=if lt (zF l.length) 16=true then need (small (l.length+1)) (s (l++[0])) else some (l,()):=rfl
theorem apR:∀(k:Nat) (l:List Int) (n:Nat),l.length+k=16->k<n->cu (fun (self:List Int->Option (As [.sl (.int .u16)])) (s:List Int)=>Vr (fun l=>self l) s) n l=some (l++zE k 0,())
 | _,_,0,_,h=>by omega
 | 0,l,n+1,h,_=>by simp_all[lN,apQ,if_neg,dw,bn]
 | k+1,l,n+1,h,hn=>by rw[lN,apQ,if_pos (by grind[dw,bn]),jw (by omega),apR k (l++[0]) n (by grind) (by omega),List.append_assoc];rfl
theorem Ce{x:ay}(h:x.2.length≤1000):Ej (x,())=some (itB x,()):=by
 show Vs Vt x=_;unfold Vs itB;rw[qg (by omega),zD];have K:∀(l:List Int) k,l.length+k=16->Vt l=some (l++zE k 0,()):=fun l k hk=>by show Np l=_;grind[Np,apR]
 by_cases hf:gD x=true
 ·rw[if_pos hf,if_pos hf]
  have hf2:=of_decide_eq_true hf;grind[jw,zk,bn,Int.emod_eq_of_lt]
 simp_all
theorem x9{x:ay}:(itB x).length=16:=by
 unfold itB;split
 ·rename_i h
  have:=of_decide_eq_true h;simp_all
 ·simp
def iB(o tx n:Int)(x:ay):List Int:=o::tx / 65536::tx%65536::n::itB x
theorem mI{o tx n:Int}{x:ay}:(iB o tx n x).length=20:=by simp_all[iB,x9]
theorem JZ{o tx n:Int}{x:ay}(h0:0≤tx)(h1:tx≤4294967295)(hn:0≤n∧n≤7)(h:x.2.length≤1000):NG (o,tx,n,x,())=some (iB o tx n x,()):=by show af7 o tx n x=_;unfold af7;rw[parts_eq h0 h1,zD,jw (by omega),Ce h,zD,jw (by grind[x9]),show cvt .u16 n=n from aac hn.1 (by omega)];rfl
theorem acu{o tx n:Int}{x:ay}(h0:0≤tx)(h1:tx≤4294967295)(h:x.2.length≤1000) :
  VU (o,tx,n,x,())=some (if 0≤n∧n≤7 then if gD x=true then (iB o tx n x,0,()) else ([],20,()) else ([],2,())):=by
 show af8 o tx n x=_;unfold af8;rw[number_eq,zD];by_cases hn:0≤n∧n≤7
 ·rw[if_neg (by grind),if_pos hn,qg (by omega),zD]
  cases hf:gD x with
  | true=>rw[if_neg (by decide),JZ h0 h1 hn h];rfl
  | false=>rfl
 grind
def jX(s:nA)(o n:Int):List Int:=match s.2.1[n.toNat]?,s.2.2[n.toNat]? with
 | some true,some x=>iB o s.1 n x
 | _,_=>zE 20 0
theorem back_eq{s:nA}{o n:Int}(h0:0≤s.1)(h1:s.1≤4294967295)(hn:0≤n∧n≤7)(hh:s.2.1.length=8)(hb:s.2.2.length=8)(hw:∀b∈s.2.2,b.2.length≤1000):YP (s,o,n,())=some (jX s o n,()):=by
 obtain⟨st,hv,bs⟩:=s;obtain⟨k,rfl⟩:=zN hn.1;show YO aj1 (st,hv,bs) o (k:Int)=_;unfold YO jX;rw[number_eq,zD,if_neg (by grind)];dsimp only at hh hb ⊢;obtain⟨x,hx⟩:=jg (xs:=hv) (i:=k) (by omega);obtain⟨b,hb'⟩:=jg (xs:=bs) (i:=k) (by omega);rw[gu hx,zD,zQ,hx,hb'];show YN o (k:Int) (st,hv,bs) (!x)=_;unfold YN
 cases x with
 | true =>
  rw[if_neg (by decide)];grind[gu,JZ,zY]
 | false=>rfl
def rdB(w:List Int):Int×Int×Int×ay×Int :=
 if w.length≠20∨8≤w.getD 3 0 then (0,0,0,zB,2)
 else if 14<w.getD 5 0 then (0,0,0,zB,20)
 else if gD (w.getD 4 0,(w.drop 6).take (w.getD 5 0).toNat)=true∧itB (w.getD 4 0,(w.drop 6).take (w.getD 5 0).toNat)=w.drop 4 then (w.getD 0 0,65536*w.getD 1 0+w.getD 2 0,w.getD 3 0,(w.getD 4 0,(w.drop 6).take (w.getD 5 0).toNat),0)
 else (0,0,0,zB,20)
theorem al0{w:List Int}(hr:∀x∈w,0≤x∧x≤65535):I8 (w,())=some ((rdB w).1,(rdB w).2.1,(rdB w).2.2.1,(rdB w).2.2.2.1,(rdB w).2.2.2.2,()):=by
 show ZI ak2 w=_;unfold ZI;by_cases hl:w.length=20
 ·rw[if_neg (fun e=>fQ.1 e (by simp_all))]
  have g:∀k:Nat,k<20->at? w (k:Int)=some (w.getD k 0):=fun k hk=>by simp_all[jg,gu,List.getD_eq_getElem?_getD]
  have rg:∀k:Nat,k<20->0≤w.getD k 0∧w.getD k 0≤65535:=fun k hk=>by simp_all
  have c64:∀k:Nat,k<20->cvt .i64 (w.getD k 0)=w.getD k 0:=fun k hk=>iU (by grind) (by grind);have g3:at? w 3=some (w.getD 3 0):=g 3 (by omega);have g4:at? w 4=some (w.getD 4 0):=g 4 (by omega);have g5:at? w 5=some (w.getD 5 0):=g 5 (by omega);have g0:at? w 0=some (w.getD 0 0):=g 0 (by omega);have g1:at? w 1=some (w.getD 1 0):=g 1 (by omega);have g2:at? w 2=some (w.getD 2 0):=g 2 (by omega);rw[g3,zD];show ZG ZJ w (ge (w.getD 3 0) 8) 0=_;unfold ZG;by_cases h8:8≤w.getD 3 0
  ·rw[if_pos (gZ.2 h8)]
   unfold rdB;rw[if_pos (Or.inr h8)];rfl
  ·rw[if_neg (fun e=>h8 (gZ.1 e)),g4,zD,g5,zD]
   have c6:cut w 6 (zF w.length)=some (w.drop 6):=lF (i:=6) (by omega);have c4:cut w 4 (zF w.length)=some (w.drop 4):=lF (i:=4) (by omega);have l6:(w.drop 6).length=14:=by simp_all
   rw[c6,zD,c64 5 (by omega),c64 4 (by omega)];have r5:=rg 5 (by omega);have r4:=rg 4 (by omega);by_cases h14:14<w.getD 5 0
   ·rw[if_pos (jD.2 (by simp_all))]
    unfold rdB;rw[if_neg (by omega),if_pos h14];rfl
   ·rw[if_neg (fun e=>h14 (by simp_all[jD,bn]))]
    obtain⟨m,hm⟩:=zN r5.1;have cm:cut (w.drop 6) 0 (w.getD 5 0)=some ((w.drop 6).take m):=by grind[oM]
    rw[cm,zD,eu (iw.2 (Int.le_refl _)),eu (iw.2 (by simp_all))];have lm:((w.drop 6).take m).length=m:=by grind
    rw[Jm (by grind),zD];dsimp only;rw[qg (by grind),zD];unfold rdB;rw[if_neg (show ¬ (w.length≠20∨8≤w.getD 3 0) by omega),if_neg h14,hm,zQ]
    have K2:∀b,ZJ w b 0 (w.getD 4 0,(w.drop 6).take m)=some (if b=true then (0,0,0,zB,20,()) else (w.getD 0 0,65536*w.getD 1 0+w.getD 2 0,w.getD 3 0,(w.getD 4 0,(w.drop 6).take m),0,())):=fun b=>by
     show ZH w b 0 _=_;unfold ZH
     cases b with
     | true=>rfl
     | false =>
      have r1:=rg 1 (by omega);have r2:=rg 2 (by omega);rw[if_neg (by decide),if_neg (by decide),g0,zD,g1,zD,g2,zD,g3,zD,xZ r1.1 r1.2 r2.1 r2.2,zD,c64 3 (by omega)]
    cases hf:gD (w.getD 4 0,(w.drop 6).take m) with
    | false =>
     rfl
    | true =>
     rw[if_neg (by decide),c4,zD,Ce (by grind),zD];dsimp only;rw[wo (by grind[x9]),zD,K2];grind
 ·rw[if_pos (fQ.2 (by grind))]
  unfold rdB;rw[if_pos (Or.inl hl)];rfl
theorem ES{o tx n:Int}{x:ay}(hf:gD x=true):iB o tx n x=o::tx / 65536::tx%65536::n::x.1::(x.2.length:Int)::(x.2++zE (14 - x.2.length) 0):=by simp_all[iB,itB,if_pos]
theorem R6{o tx n:Int}{x:ay}(hf:gD x=true)(hn:n≤7):rdB (iB o tx n x)=(o,tx,n,x,0):=by
 obtain⟨p,w⟩:=x;have h2:=of_decide_eq_true hf;dsimp only at h2;have hl:=mI (o:=o) (tx:=tx) (n:=n) (x:=(p,w));have hd:(iB o tx n (p,w)).drop 4=itB (p,w):=rfl;have e:(w++zE (14 - w.length) (0:Int)).take w.length=w:=List.take_left' rfl;have k0:(iB o tx n (p,w)).getD 0 0=o:=rfl;have k1:(iB o tx n (p,w)).getD 1 0=tx / 65536:=rfl;have k2:(iB o tx n (p,w)).getD 2 0=tx%65536:=rfl;have k3:(iB o tx n (p,w)).getD 3 0=n:=rfl;have k4:(iB o tx n (p,w)).getD 4 0=p:=by grind[ES]
 have k5:(iB o tx n (p,w)).getD 5 0=(w.length:Int):=by grind[ES]
 have k6:(iB o tx n (p,w)).drop 6=w++zE (14 - w.length) 0:=by rw[ES hf];rfl
 unfold rdB;grind
def P6(s:nA)(k:Nat)(x:ay):nA:=(s.1,s.2.1.set k true,nzB (s.2.1.set k true) (s.2.2.set k x))
theorem aq8{s:nA}{n:Int}{x:ay}(hh:s.2.1.length=8)(hb:s.2.2.length=8)(hw:∀b∈s.2.2,b.2.length≤1000)(hx:x.2.length≤1000) :
  ZN (s,n,x,())=some (if 0≤n∧n≤7 then if gD x=true then (P6 s n.toNat x,0,()) else (zSt,20,()) else (zSt,2,())):=by
 obtain⟨st,hv,bs⟩:=s;dsimp only at hh hb hw;show ZM Pz (st,hv,bs) n x=_;unfold ZM;rw[number_eq,zD];by_cases hn:0≤n∧n≤7
 ·obtain⟨k,rfl⟩:=zN hn.1
  rw[decide_eq_true hn,if_neg (by decide),if_pos hn,qg (by omega),zD]
  cases hf:gD x with
  | false =>
   rfl
  | true =>
   have g0:ge (k:Int) 0=true:=gZ.2 (by omega);have l8:lt (k:Int) 8=true:=dw.2 (by omega);obtain⟨y,hy⟩:=jg (xs:=hv) (i:=k) (by omega);obtain⟨b,hb'⟩:=jg (xs:=bs) (i:=k) (by omega);rw[if_neg (by decide),if_pos rfl,eu g0,eu l8];dsimp only;rw[gu hy,zD,eu g0,eu l8,gu hb',zD,zQ];have hh2:(hv.set k true).length=8:=by simp_all
   have hb2:(bs.set k x).length=8:=by simp_all
   have hw2:∀c∈bs.set k x,c.2.length≤1000:=fun c hc=>by grind
   unfold P6;dsimp only;generalize hv.set k true=hv' at *;generalize bs.set k x=bs' at *;have hl:=xY hh2 hb2;unfold Pz;refine lU (N:=8) (mk:=fun i=>(0,0,hv',(i:Int),[(st,hv',(nzB hv' bs').take i++bs'.drop i)],_)) ?_ ?_ 8 0 _ (by omega) (by omega)
   ·intro self i hi
    show Py _ _ 0 0 hv' (i:Int) [(st,hv',(nzB hv' bs').take i++bs'.drop i)] _=self (0,0,hv',((i+1:Nat):Int),[(st,hv',(nzB hv' bs').take (i+1)++bs'.drop (i+1))],_);obtain⟨z,hz⟩:=jg (xs:=hv') (i:=i) (by omega);obtain⟨c,hc⟩:=jg (xs:=bs') (i:=i) (by omega);have hm:at? ((nzB hv' bs').take i++bs'.drop i) (i:Int)=some c:=gu (by grind);have hs:=R5 (xs:=bs') (ys:=nzB hv' bs') (by omega) (FV hz hc);have l8:lt (i:Int) 8=true:=dw.2 (by omega);have g0:ge (i:Int) 0=true:=gZ.2 (by omega);unfold Py;rw[if_pos l8,eu l8,gu hz,zD]
    cases z with
    | true =>
     rw[if_pos rfl,eu g0,eu l8,iX,zD];grind[Jm,zY,eu,iT]
    | false =>
     rw[if_neg (by decide),eu g0,eu l8,iX,zD];dsimp only;rw[hm,zD,iT (by omega),<- hs];rfl
   ·intro self
    show Py _ _ 0 0 hv' (8:Int) [(st,hv',(nzB hv' bs').take 8++bs'.drop 8)] _=_;have e1:(nzB hv' bs').take 8++bs'.drop 8=nzB hv' bs':=by grind
    rw[e1];rfl
 grind
def gF(hv:List Bool)(bs:List ay):List ay:=((hv.zip bs).filter (fun p=>p.1)).map (fun p=>p.2)
theorem acv{hv:List Bool}{bs:List ay}{i:Nat}{x:Bool}{b:ay}(h1:hv[i]? = some x)(h2:bs[i]? = some b) :
  gF (hv.take (i+1)) (bs.take (i+1))=gF (hv.take i) (bs.take i)++(if x=true then [b] else []):=by
 have i1:=(List.getElem?_eq_some_iff.1 h1).1;have i2:=(List.getElem?_eq_some_iff.1 h2).1;unfold gF;rw[List.take_add_one,List.take_add_one,h1,h2];show (List.map _ (List.filter _ ((hv.take i++[x]).zip (bs.take i++[b]))))=_;rw[List.zip_append (by grind),List.filter_append,List.map_append];cases x<;>rfl
theorem P7{hv:List Bool}{bs:List ay}{b:ay}(h:b∈gF hv bs):b∈bs:=by obtain⟨p,hp,rfl⟩:=List.mem_map.1 h;exact (List.of_mem_zip (List.mem_filter.1 hp).1).2
theorem Jn{hv:List Bool}{bs:List ay}:(gF hv bs).length≤hv.length:=by grind[gF,List.length_map,Nat.le_trans,List.length_filter_le,List.length_zip]
theorem Aa{s:nA}(hh:s.2.1.length=8)(hb:s.2.2.length=8)(hw:∀b∈s.2.2,b.2.length≤1000):ze (s,())=some (gF s.2.1 s.2.2,()):=by
 obtain⟨st,hv,bs⟩:=s;dsimp only at hh hb hw ⊢;show Pt (st,hv,bs) hv 0 []=_;unfold Pt;refine lU (N:=8) (mk:=fun i=>((st,hv,bs),hv,(i:Int),gF (hv.take i) (bs.take i))) ?_ ?_ 8 0 _ (by omega) (by omega)
 ·intro self i hi
  show I5 _ (st,hv,bs) hv (i:Int) (gF (hv.take i) (bs.take i))=self ((st,hv,bs),hv,((i+1:Nat):Int),gF (hv.take (i+1)) (bs.take (i+1)));obtain⟨z,hz⟩:=jg (xs:=hv) (i:=i) (by omega);obtain⟨c,hc⟩:=jg (xs:=bs) (i:=i) (by omega);have l8:lt (i:Int) 8=true:=dw.2 (by omega);have hle:(gF (hv.take i) (bs.take i)).length≤8:=by grind[Jn,kB]
  rw[acv hz hc];unfold I5;rw[if_pos l8,eu l8,gu hz,zD]
  cases z with
  | true =>
   rw[if_pos rfl];grind[gu,Jm,zY,jw,iT]
  | false =>
   rw[if_neg (by decide),iT (by omega)];simp
 ·intro self
  show I5 _ (st,hv,bs) hv (8:Int) (gF (hv.take 8) (bs.take 8))=_;unfold I5;rw[if_neg (by decide),List.take_of_length_le (by omega),List.take_of_length_le (by omega)]
def shV(s:Int):Int:=if eqi (kZ .u32 s 1) 1=true then iI .u32 (shr .u32 s 1) 3988292384 else shr .u32 s 1
theorem al1(s:Int):Nq (s,())=some (shV s,()):=by show afv s=_;grind[afv,shV]
def P8(s b:Int):Int:=shV (shV (shV (shV (shV (shV (shV (shV (iI .u32 s (cvt .u32 b)))))))))
theorem aq9(f:Int->Int->Option (As [.int .u32]))(s i:Int):Nr f s i=if lt i 8=true then zC (Nq (s,())) fun y=>f y.1 (add .i64 i 1) else some (s,()):=rfl
theorem ara(s b:Int):KR (s,b,())=some (P8 s b,()):=by
 show Ns (iI .u32 s (cvt .u32 b)) 0=_;unfold P8;generalize iI .u32 s (cvt .u32 b)=x;have st:∀n x (i:Int),lt i 8=true->cu (fun (self:Int×Int->Option (As [.int .u32])) (s:Int×Int)=>Nr (fun a b=>self (a,b)) s.1 s.2) (n+1) (x,i)=cu (fun (self:Int×Int->Option (As [.int .u32])) (s:Int×Int)=>Nr (fun a b=>self (a,b)) s.1 s.2) n (shV x,add .i64 i 1):=fun n x i h=>by rw[lN,aq9,if_pos h,al1,zD]
 unfold Ns;rw[st _ _ _ (by rfl),st _ _ _ (by rfl),st _ _ _ (by rfl),st _ _ _ (by rfl),st _ _ _ (by rfl),st _ _ _ (by rfl),st _ _ _ (by rfl),st _ _ _ (by rfl)];rfl
def Jo(s:Int):Int:=((Vz s).getD (0,())).1
theorem al2(s:Int):0≤Jo s∧Jo s≤4294967295:=by grind[Jo,Vz,Int.natCast_nonneg,Int.ofNat_le,Nat.le_of_lt_succ,Nat.mod_lt]
theorem acw{b:List Int}(h:b.length≤1000000):VA (b,())=some (Jo (b.foldl P8 4294967295),()):=by
 show Nt b 4294967295 (zF b.length) 0=_;unfold Nt;refine (oN (xs:=b) (mk:=fun i acc=>(b,acc,zF b.length,(i:Int))) (stp:=P8) (fin:=fun acc=>some (Jo acc,())) (fun _ _=>True) ?_ (fun _ _ _ _ _=>trivial) ?_ b.length 0 4294967295 _ (by omega) (by omega) trivial)
 ·intro self i acc x hx _
  have hi:=(List.getElem?_eq_some_iff.1 hx).1;show Hu _ _ b acc (zF b.length) (i:Int)=_;unfold Hu;rw[if_pos (by grind[dw,bn]),gu hx,zD,ara,zD,iT (by omega)]
 ·intro self acc _
  show Hu _ _ b acc (zF b.length) (b.length:Int)=_;unfold Hu;rw[if_neg (by grind[dw,bn])];rfl
theorem acy(l:List Int)(x:Int):(l++[x]).flatMap two=l.flatMap two++two x:=by simp
theorem QV{l:List Int}(h:l.length≤100000):afD (l,())=some (l.flatMap two,()):=by
 show VC Nv l=_;unfold VC;have e2:mul .i64 2 (zF l.length)=((2*l.length:Nat):Int):=by grind[bn,nE]
 rw[e2,eu (gZ.2 (by omega)),eu (nG _),zQ,jw (by omega)];unfold Nv;have hz:zE (2*l.length) (0:Int)=(l.take 0).flatMap two++(zE (2*l.length) 0).drop 0:=by simp
 rw[hz];refine lU (N:=l.length) (mk:=fun i=>(l,zF l.length,(i:Int),(l.take i).flatMap two++(zE (2*l.length) 0).drop (2*i))) ?_ ?_ l.length 0 _ (by omega) (by omega)
 ·intro self i hi
  show Nu _ l (zF l.length) (i:Int) ((l.take i).flatMap two++(zE (2*l.length) 0).drop (2*i))=self (l,zF l.length,((i+1:Nat):Int),(l.take (i+1)).flatMap two++(zE (2*l.length) 0).drop (2*(i+1)));obtain⟨x,hx⟩:=jg (xs:=l) (i:=i) (by omega);have lp:((l.take i).flatMap two).length=2*i:=by grind[xE,kB]
  have ed:(zE (2*l.length) (0:Int)).drop (2*i)=0::0::(zE (2*l.length) 0).drop (2*(i+1)):=by rw[List.drop_replicate,List.drop_replicate,show 2*l.length - 2*i=(2*l.length - 2*(i+1))+1+1 by omega];rfl
  have ei:(l.take (i+1)).flatMap two=(l.take i).flatMap two++two x:=by simp_all[List.take_add_one,acy]
  rw[ed,ei];unfold Nu;have m2:mul .i64 2 (i:Int)=((2*i:Nat):Int):=by grind[nE]
  have m3:add .i64 ((2*i:Nat):Int) 1=((2*i+1:Nat):Int):=iT (by omega);generalize (l.take i).flatMap two=p at *;generalize (zE (2*l.length) (0:Int)).drop (2*(i+1))=q at *;have g1:at? (p++0::0::q) ((2*i:Nat):Int)=some 0:=gu (by simp_all);have s1:∀y:Int,(p++0::0::q).set (2*i) y=p++y::0::q:=fun y=>by simp_all
  have g2:∀y:Int,at? (p++y::0::q) ((2*i+1:Nat):Int)=some 0:=fun y=>gu (by simp_all);have s2:∀y z:Int,(p++y::0::q).set (2*i+1) z=p++y::z::q:=fun y z=>by simp_all
  rw[if_pos (by grind[dw,bn]),gu hx,zD,zD,m2,g1,zD,zD,m3,zQ,zQ,s1,g2,zD,zD,s2,iT (by omega),sZ,sZ,aad _ _ (by decide),List.append_assoc];rfl
 simp_all[Nu,zF,Int,two,zE,if_neg,dw,bn,List.take_length,List.drop_eq_nil_of_le]
def Jp(l:List Int):Int:=Jo ((l.flatMap two).foldl P8 4294967295)
theorem P9(l:List Int):0≤Jp l∧Jp l≤4294967295:=al2 _
theorem QW{l:List Int}(h:l.length≤100000):KS (l,())=some (Jp l,()):=by show afE l=_;unfold afE;rw[QV h,zD];dsimp only;rw[acw (by grind[xE])];rfl
def rU(l:List ay):Int:=Jp (l.flatMap itB)
theorem R7{l:List ay}(h:l.length≤1000)(hw:∀b∈l,b.2.length≤1000):Hy (l,())=some (rU l,()):=by
 show Ny l (zF l.length) 0 []=_;unfold Ny;have K2:∀all:List Int,all.length≤100000->afI all=some (Jp all,()):=fun all ha=>by show VE all=_;grind[VE,QW]
 have hn:l.flatMap itB=[]++l.flatMap itB:=rfl;unfold rU;rw[hn,<- vZ];refine (oN (xs:=l) (mk:=fun i acc=>(l,zF l.length,(i:Int),acc)) (stp:=fun o x=>o++itB x) (fin:=fun acc=>some (Jp acc,())) (fun i acc=>acc.length=16*i) ?_ ?_ ?_ l.length 0 [] _ (by omega) (by omega) rfl)
 ·intro self i acc x hx ha
  have hi:=(List.getElem?_eq_some_iff.1 hx).1;show Hw _ _ l (zF l.length) (i:Int) acc=_;unfold Hw;rw[if_pos (by grind[dw,bn]),gu hx,zD,Ce (hw x (zY hx)),zD,jw (by grind[x9]),iT (by omega)]
 ·grind[zZ,x9]
 ·intro self acc ha
  show Hw _ _ l (zF l.length) (l.length:Int) acc=_;unfold Hw;rw[if_neg (by grind[dw,bn]),K2 _ (by omega)]
def sJ(hv:List Bool)(n:Int):Bool:=decide (∀i:Nat,i<8->hv.getD i false=decide ((i:Int)<n))
theorem acz{s:nA}{n c:Int}(hh:s.2.1.length=8)(hb:s.2.2.length=8)(hw:∀b∈s.2.2,b.2.length≤1000) :
  Zm (s,n,c,())=some (decide (0≤n∧n≤8) && (sJ s.2.1 n && decide (rU (gF s.2.1 s.2.2)=c)),()):=by
 have hblk:=Aa hh hb hw;obtain⟨st,hv,bs⟩:=s;dsimp only at hh hb hw hblk ⊢;show Zk Zl (st,hv,bs) n c=_;unfold Zk;have K1t:Zl n c (st,hv,bs) true=some (false,()):=rfl;by_cases h0:n<0
 ·simp_all[if_pos,dw,decide_eq_false]
 ·rw[if_neg (fun e=>h0 (dw.1 e))]
  by_cases h8:8<n
  ·grind[jD,decide_eq_false]
  ·rw[BS,decide_eq_false h8,decide_eq_true (show 0≤n∧n≤8 by omega),Bool.true_and]
   show Pv n c (st,hv,bs) hv 0=_;have K3:BL c (st,hv,bs)=some (decide (rU (gF hv bs)=c),()):=by show Zj c (st,hv,bs)=_;unfold Zj;rw[hblk,zD];dsimp only;rw[R7 (by grind[Jn]) (fun b hb=>hw b (P7 hb)),zD];rfl
   unfold Pv
   have hg:∀k i m:Nat,i+k=8->k<m->cu (fun (self:Int×Int×nA×List Bool×Int->Option (As [.bool])) (s:Int×Int×nA×List Bool×Int)=>EN BL (fun count check s t16 t17=>self (count,check,s,t16,t17)) s.1 s.2.1 s.2.2.1 s.2.2.2.1 s.2.2.2.2) m (n,c,(st,hv,bs),hv,(i:Int))=some (decide (∀j:Nat,j<8->i≤j->hv.getD j false=decide ((j:Int)<n)) && decide (rU (gF hv bs)=c),()):=by
    intro k
    induction k with
    | zero =>
     intro i m hi hm;obtain⟨m,rfl⟩:∃q,m=q+1:=⟨m - 1,by omega⟩;have:i=8:=by omega
     subst this;rw[lN];show EN BL _ n c (st,hv,bs) hv (8:Int)=_;unfold EN;rw[if_neg (by decide),K3,decide_eq_true (p:=∀j:Nat,j<8->8≤j->hv.getD j false=decide ((j:Int)<n)) (fun j h1 h2=>by omega),Bool.true_and]
    | succ k ih =>
     intro i m hi hm;obtain⟨m,rfl⟩:∃q,m=q+1:=⟨m - 1,by omega⟩;have l8:lt (i:Int) 8=true:=dw.2 (by omega);obtain⟨x,hx⟩:=jg (xs:=hv) (i:=i) (by omega);have gx:hv.getD i false=x:=by simp_all
     rw[lN];show EN BL _ n c (st,hv,bs) hv (i:Int)=_;have u:∀f,EN BL f n c (st,hv,bs) hv (i:Int)=if lt (i:Int) 8=true then need (lt (i:Int) 8) (zC (at? hv (i:Int)) fun y=>if neb y (lt (i:Int) n)=true then some (false,()) else f n c (st,hv,bs) hv (add .i64 (i:Int) 1)) else BL c (st,hv,bs):=fun f=>rfl;rw[u,if_pos l8,eu l8,gu hx,zD,qQ];by_cases he:x=decide ((i:Int)<n)
     ·rw[if_neg (by rw[<- he];cases x<;>decide),iT (by omega),ih (i+1) m (by omega) (by omega)]
      refine congrArg (fun b=>some (b && _,())) ?_;grind
     ·rw[if_pos (by revert he;cases x<;>cases decide ((i:Int)<n)<;>decide),decide_eq_false (fun h=>he (by rw[<- gx];grind))]
      rfl
   have:=hg 8 0 18446744073709551616 rfl (by omega);refine this.trans ?_;refine congrArg (fun b=>some (b && _,())) ?_;unfold sJ;simp
def Dg(b:List Int)(x:ay):List Int:=b.take x.1.toNat++x.2++b.drop (x.1.toNat+x.2.length)
theorem J2{b:List Int}{x:ay}(h:b.length=64)(hf:gD x=true):(Dg b x).length=64:=by have:=of_decide_eq_true hf;grind[Dg,zZ,kB,List.length_drop]
def qY(b:List Int)(l:List ay):List Int:=l.foldl Dg b
theorem J3:∀{l:List ay} {b:List Int},b.length=64->(∀x∈l,gD x=true)->(qY b l).length=64
 | [],_,h,_=>h
 | x::r,b,h,hf=>J3 (l:=r) (J2 h (hf x (List.mem_cons_self ..))) (fun y hy=>hf y (zT _ hy))
theorem acA{b:List Int}{x:ay}{P:Int->Prop}(hb:∀y∈b,P y)(hx:∀y∈x.2,P y):∀y∈Dg b x,P y:=by grind[Dg,List.mem_of_mem_take,List.mem_of_mem_drop]
theorem J4{P:Int->Prop}:∀{l:List ay} {b:List Int},(∀y∈b,P y)->(∀x∈l,∀y∈x.2,P y)->∀y∈qY b l,P y
 | [],_,h,_=>h
 | x::r,b,h,hf=>J4 (l:=r) (acA h (hf x (List.mem_cons_self ..))) (fun y hy=>hf y (zT _ hy))
theorem arb{l:List ay}(hl:l.length≤1000000)(hf:∀x∈l,gD x=true):KW (l,())=some (true,()):=by
 have hi:akN (l,())=some (-1,()):=by
  show Px l (zF l.length) 0=_;unfold Px;refine lU (N:=l.length) (mk:=fun i=>(l,zF l.length,(i:Int))) ?_ ?_ l.length 0 _ (by omega) (by omega)
  ·intro self i hi
   obtain⟨x,hx⟩:=jg (xs:=l) (i:=i) hi;have hfx:=hf x (zY hx);have h2:=of_decide_eq_true hfx;have hz:Zr (x,())=some (false,()):=by show akI x=_;grind[akI,qg]
   show Pw _ l (zF l.length) (i:Int)=_;unfold Pw;rw[if_pos (by grind[dw,bn]),gu hx,zD,hz,zD,if_neg (by decide),iT (by omega)]
  simp_all[Pw,zF,Int,if_neg,dw,bn]
 have hc:akP (l,())=some (false,()):=by show akO l=_;unfold akO;rw[hi];rfl
 show Zt l=_;simp_all[Zt]
theorem Ab{s:List Int}(h:s.length≤1000000):Eb (s,())=some (s,()):=by
 show aet s=_;unfold aet;by_cases h0:s.length=0
 ·have:s=[]:=List.eq_nil_of_length_eq_zero h0
  subst this;rfl
 ·rw[if_neg (by grind[bu,bn]),jw (by omega)]
theorem Qa{b:List Int}{l:List ay}(hb:b.length=64)(hl:l.length≤1000000)(hf:∀x∈l,gD x=true):BM (b,l,())=some (qY b l,0,()):=by
 show Zw I7 b l=_;unfold Zw;rw[if_neg (fun e=>fQ.1 e (by simp_all)),arb hl hf,zD,if_neg (by decide),Ab (by omega),zD];show I7 l (zF l.length) 0 b=_;unfold I7;refine (oN (xs:=l) (mk:=fun i acc=>(l,zF l.length,(i:Int),acc)) (stp:=Dg) (fin:=fun acc=>some (acc,0,())) (fun i acc=>acc.length=64) ?_ ?_ ?_ l.length 0 b _ (by omega) (by omega) hb)
 ·intro self i acc x hx ha
  have hi:=(List.getElem?_eq_some_iff.1 hx).1;have h2:=of_decide_eq_true (hf x (zY hx));show I6 _ _ l (zF l.length) (i:Int) acc=_;unfold I6;rw[if_pos (by grind[dw,bn]),gu hx,zD,eu (gZ.2 (by omega)),eu (iw.2 (by grind)),eu (iw.2 (Int.le_refl _)),eu (iw.2 (by omega)),iT (by omega)];have e:x.2.take (zI (zF acc.length - x.1))=x.2:=List.take_of_length_le (by grind);rw[e];rfl
 ·grind[J2,zY]
 ·intro self acc ha
  show I6 _ _ l (zF l.length) (l.length:Int) acc=_;unfold I6;rw[if_neg (by grind[dw,bn])];rfl
structure OkG(a:TAg):Prop where
 bl:a.1.length=64
 bw:∀x∈a.1,0≤x∧x≤65535
 lr:kS a.2.1
 l1:0≤a.2.1.1∧a.2.1.1≤65535
 l2:a.2.1.2≤9223372036854775807
 pr:0≤a.2.2.1∧a.2.2.1≤2
 tr:0≤a.2.2.2.1∧a.2.2.2.1≤4294967295
 ar:0≤a.2.2.2.2.1∧a.2.2.2.2.1≤4294967295
 kr:1≤a.2.2.2.2.2.2∧a.2.2.2.2.2.2≤9223372036854775807
 hl:a.2.2.2.2.2.1.2.1.length=8
 sl:a.2.2.2.2.2.1.2.2.length=8
 bb:∀b∈a.2.2.2.2.2.1.2.2,b.2.length≤1000
 wb:∀b∈a.2.2.2.2.2.1.2.2,∀w∈b.2,0≤w∧w≤65535
 fb:∀b∈gF a.2.2.2.2.2.1.2.1 a.2.2.2.2.2.1.2.2,gD b=true
 p0:a.2.2.1=0->a.2.1.1=0∧a.2.2.2.1=0∧a.2.2.2.2.2.1.1=0∧a.2.2.2.2.2.1.2.1.count true=0
 pn:a.2.2.1≠0->a.2.1.1≠0∧a.2.2.2.2.1<a.2.2.2.1∧a.2.2.2.2.2.1.1=a.2.2.2.1
 p1:a.2.2.1=1->1≤a.2.1.2
 p2:a.2.2.1=2->a.2.1.2=-1∧sJ a.2.2.2.2.2.1.2.1 ((a.2.2.2.2.2.1.2.1.count true:Nat):Int)=true
theorem OkG.sz{a:TAg}(h:OkG a):SzA a:=⟨by have:=h.bl;omega,h.hl,h.sl,h.bb⟩
theorem Dh:∀(hv:List Bool) (bs:List ay),gF hv (nzB hv bs)=gF hv bs
 | [],_=>by rfl
 | _::_,[]=>by rfl
 | h::r,b::q=>by have ih:=Dh r q;unfold gF nzB at ih ⊢;rw[List.zipWith_cons_cons,List.zip_cons_cons,List.zip_cons_cons];grind
theorem Di{hv:List Bool}{bs:List ay}{P:ay->Prop}(hz:P zB)(hp:∀b∈bs,P b):∀b∈nzB hv bs,P b:=by grind[nzB,List.getElem?_of_mem,zY]
theorem OkG.own{a:TAg}(h:OkG a):OkG (fV a):=by
 obtain⟨bk,ls,ph,tx,la,⟨st,hv,bs⟩,tk⟩:=a
 exact { h with
  sl:=xY h.hl h.sl
  bb:=Di (P:=fun b=>b.2.length≤1000) (by show (0:Nat)≤1000;omega) h.bb
  wb:=Di (P:=fun b=>∀w∈b.2,0≤w∧w≤65535) (by intro w hw;cases hw) h.wb
  fb:=by have:=h.fb;show ∀b∈gF hv (nzB hv bs),_;simp_all[Dh] }
def pF(a:TAg):TAg:=(a.1,(0,0),0,0,a.2.2.2.2.1,zSt,a.2.2.2.2.2.2)
def vK(a:TAg)(n c:Int):Bool:=decide (0≤n∧n≤8) && (sJ a.2.2.2.2.2.1.2.1 n && decide (rU (gF a.2.2.2.2.2.1.2.1 a.2.2.2.2.2.1.2.2)=c))
def doS(a:TAg)(c:TCm):TAg×Int :=
 if c.1=0∨c.2.2.1=0∨¬ (1≤c.2.1∧c.2.1≤4) then (a,2)
 else if a.2.1.1≠0∧a.2.1.1≠c.1 then (a,22)
 else if c.2.1=1 then
  if c.2.2.1≤a.2.2.2.2.1∨a.2.2.1≠0∧c.2.2.1<a.2.2.2.1 then (a,23)
  else if c.2.2.1=a.2.2.2.1 then ((a.1,lI a.2.1 c.1 a.2.2.2.2.2.2,a.2.2),0)
  else ((a.1,(c.1,a.2.2.2.2.2.2),1,c.2.2.1,a.2.2.2.2.1,(c.2.2.1,zSt.2),a.2.2.2.2.2.2),0)
 else if c.2.1=2 then
  if a.2.2.1=2∧a.2.2.2.1=c.2.2.1∨a.2.2.1=1∧a.2.2.2.1=c.2.2.1∧vK a c.2.2.2.1 c.2.2.2.2=true then ((a.1,(c.1,-1),2,a.2.2.2),0)
  else (a,23)
 else if c.2.1=3 then
  if a.2.2.2.2.1=c.2.2.1 then (a,0)
  else if a.2.2.1=2∧a.2.2.2.1=c.2.2.1 then (pF (qY a.1 (gF a.2.2.2.2.2.1.2.1 a.2.2.2.2.2.1.2.2),a.2.1,a.2.2.1,a.2.2.2.1,c.2.2.1,a.2.2.2.2.2),0)
  else (a,23)
 else
  if c.2.2.1≤a.2.2.2.2.1 then (a,23) else if a.2.1.1=c.1∧a.2.2.2.1=c.2.2.1 then (pF a,0) else (a,0)
theorem wK(a:TAg):BJ (a,())=some (pF a,()):=rfl
theorem FW(a:TAg)(p t:Int):za (a,p,t,())=some (decide (a.2.2.1=p∧a.2.2.2.1=t),()):=by
 show Zd a p t=_;unfold Zd;by_cases h:a.2.2.1=p
 ·rw[if_pos (bu.2 h)]
  refine congrArg (fun b=>some (b,())) ?_;rw[Bool.eq_iff_iff,bu,decide_eq_true_eq];omega
 simp_all[if_neg,bu,decide_eq_false]
theorem FX{a:TAg}(h:kS a.2.1)(o:Int):sW (a,o,())=some (decide (a.2.1.1≠0∧a.2.1.1≠o),()):=by
 show akk a o=_;unfold akk;rw[rT h,zD];by_cases h0:a.2.1.1=0
 ·simp_all
 ·rw[decide_eq_false h0,if_pos (by rfl)]
  refine congrArg (fun b=>some (b,())) ?_;rw[Bool.eq_iff_iff,fQ,decide_eq_true_eq];omega
theorem Cf{a:TAg}{o:Int}(h:kS a.2.1)(ho:o≠0)(ht:1≤a.2.2.2.2.2.2)(hf:a.2.1.1=0∨a.2.1.1=o):EM (a,o,())=some ((a.1,lI a.2.1 o a.2.2.2.2.2.2,a.2.2),()):=by show akt a o=_;grind[akt,alX]
set_option maxHeartbeats 1000000 in
theorem atB{a:TAg}(h:OkG a){c:TCm}(hc:0≤c.2.2.2.1∧c.2.2.2.1≤65535):zf (a,c,())=some ((doS (fV a) c).1,(doS (fV a) c).2,()):=by
 show ZE a c=_;unfold ZE;have h':=h.own;rw[Df h.sz,zD,qR (eqAs_refl _)];dsimp only;generalize fV a=g at h';obtain⟨co,cv,ct,cc,ck⟩:=c;dsimp only at hc ⊢;have lr:=h'.lr;have kr:=h'.kr;rw[FX lr,zD];unfold doS;dsimp only;by_cases hq:co=0∨ct=0∨¬ (1≤cv∧cv≤4)
 ·rw[if_pos hq]
  simp only[bu];by_cases h1:co=0
  ·simp[h1]
  ·by_cases h2:ct=0
   ·simp[h1,h2]
   ·have hv:¬ (1≤cv∧cv≤4):=by omega
    rw[if_neg (by omega),if_neg (by omega),if_neg (by omega),if_neg (by omega),if_neg h1,if_neg h2]
 ·rw[if_neg hq]
  have h1:co≠0:=by omega
  have h2:ct≠0:=by omega
  have hv:1≤cv∧cv≤4:=by omega
  simp only[bu,if_neg h1,if_neg h2];by_cases ho:g.2.1.1≠0∧g.2.1.1≠co
  ·rw[if_pos ho,decide_eq_true ho]
   simp only[if_true];split<;>first | rfl | skip
   split<;>first | rfl | skip
   split<;>first | rfl | skip
   split<;>first | rfl | skip
   omega
  ·rw[if_neg ho,decide_eq_false ho]
   simp only[Bool.false_eq_true,if_false];have hf:g.2.1.1=0∨g.2.1.1=co:=by omega
   by_cases v1:cv=1
   ·subst v1
    rw[if_pos rfl,if_pos rfl]
    have hn:Y6 (g,(co,1,ct,cc,ck),())=some (decide (ct≤g.2.2.2.2.1∨g.2.2.1≠0∧ct<g.2.2.2.1),()):=by
     show akl g (co,1,ct,cc,ck)=_;unfold akl;dsimp only;by_cases q1:ct≤g.2.2.2.2.1
     ·rw[if_pos (iw.2 q1),decide_eq_true (Or.inl q1)]
     ·rw[if_neg (fun e=>q1 (iw.1 e))]
      by_cases q2:g.2.2.1=0
      ·rw[if_neg (fun e=>fQ.1 e q2),decide_eq_false (by omega)]
      ·rw[if_pos (fQ.2 q2),qQ]
       refine congrArg (fun b=>some (b,())) ?_;rw[Bool.eq_iff_iff,decide_eq_true_eq,decide_eq_true_eq];omega
    rw[hn,zD];by_cases q:ct≤g.2.2.2.2.1∨g.2.2.1≠0∧ct<g.2.2.2.1
    ·rw[if_pos q,decide_eq_true q]
     rfl
    ·rw[if_neg q,decide_eq_false q,if_neg (by decide)]
     have hcl:Zb (g,(co,1,ct,cc,ck),())=some (if ct=g.2.2.2.1 then (g.1,lI g.2.1 co g.2.2.2.2.2.2,g.2.2) else (g.1,(co,g.2.2.2.2.2.2),1,ct,g.2.2.2.2.1,(ct,zSt.2),g.2.2.2.2.2.2),()):=by
      show aku g (co,1,ct,cc,ck)=_;unfold aku;dsimp only;by_cases e:ct=g.2.2.2.1
      ·rw[if_pos (bu.2 e),if_pos e,Cf lr h1 kr.1 hf]
       rfl
      ·rw[if_neg (fun x=>e (bu.1 x)),if_neg e,wK,zD]
       have:=Cf (a:=pF g) (o:=co) (Or.inl ⟨rfl,rfl⟩) h1 kr.1 (Or.inl rfl);dsimp only;rw[this];have et:lI (0,0) co (pF g).2.2.2.2.2.2=(co,g.2.2.2.2.2.2):=by unfold lI;rw[if_neg (fun x=>h1 (by cases x))];rfl
       show some ((g.1,lI (0,0) co (pF g).2.2.2.2.2.2,1,ct,g.2.2.2.2.1,(ct,zSt.2),g.2.2.2.2.2.2),())=_;rw[et]
     rw[hcl,zD];split<;>rfl
   ·rw[if_neg (Ne.symm v1),if_neg v1]
    by_cases v2:cv=2
    ·subst v2
     rw[if_pos rfl,if_pos rfl]
     have hn:Zn (g,(co,2,ct,cc,ck),())=some (decide (¬ (g.2.2.1=2∧g.2.2.2.1=ct∨g.2.2.1=1∧g.2.2.2.1=ct∧vK g cc ck=true)),()):=by
      show akE g (co,2,ct,cc,ck)=_;unfold akE;dsimp only;rw[FW,zD];by_cases q1:g.2.2.1=2∧g.2.2.2.1=ct
      ·rw[decide_eq_true q1,if_pos rfl,decide_eq_false (fun e=>e (Or.inl q1))]
      ·rw[decide_eq_false q1,if_neg (by decide),FW,zD]
       by_cases q2:g.2.2.1=1∧g.2.2.2.1=ct
       ·rw[decide_eq_true q2,if_neg (by decide),iU (by omega) (by omega),acz h'.hl h'.sl h'.bb,zD]
        refine congrArg (fun b=>some (b,())) ?_;show (!vK g cc ck)=_
        cases hw:vK g cc ck with
        | true=>rw[decide_eq_false (fun e=>e (Or.inr ⟨q2.1,q2.2,rfl⟩))];rfl
        | false=>rw[decide_eq_true (by rintro (e | e);exact q1 e;exact Bool.false_ne_true e.2.2)];rfl
       ·rw[decide_eq_false q2,if_pos (by rfl),decide_eq_true (by rintro (e | e);exact q1 e;exact q2 ⟨e.1,e.2.1⟩)]
     rw[hn,zD];by_cases q:g.2.2.1=2∧g.2.2.2.1=ct∨g.2.2.1=1∧g.2.2.2.1=ct∧vK g cc ck=true
     ·rw[if_pos q,decide_eq_false (fun e=>e q),if_neg (by decide)]
      have hph:g.2.2.1≠0:=by rcases q with q | q<;>omega
      have hown:g.2.1.1=co:=by have:=(h'.pn hph).1;omega
      have hp:Zp (g,(co,2,ct,cc,ck),())=some ((g.1,(co,-1),2,g.2.2.2),()):=by show akG g (co,2,ct,cc,ck)=_;unfold akG;dsimp only;rw[alY lr h1 hown];rfl
      rw[hp];rfl
     ·rw[if_neg q,decide_eq_true q]
      rfl
    ·rw[if_neg (Ne.symm v2),if_neg v2]
     by_cases v3:cv=3
     ·subst v3
      rw[if_pos rfl,if_pos rfl]
      have hn:Zq (g,(co,3,ct,cc,ck),())=some (decide (g.2.2.2.2.1≠ct∧¬ (g.2.2.1=2∧g.2.2.2.1=ct)),()):=by
       show akH g (co,3,ct,cc,ck)=_;unfold akH;dsimp only;by_cases q1:g.2.2.2.2.1=ct
       ·rw[if_neg (fun e=>fQ.1 e q1),decide_eq_false (fun e=>e.1 q1)]
       ·rw[if_pos (fQ.2 q1),FW,zD]
        refine congrArg (fun b=>some (b,())) ?_;by_cases q2:g.2.2.1=2∧g.2.2.2.1=ct
        ·rw[decide_eq_true q2,decide_eq_false (fun e=>e.2 q2)];rfl
        ·rw[decide_eq_false q2,decide_eq_true ⟨q1,q2⟩];rfl
      rw[hn,zD]
      have hcm:g.2.2.2.2.1=ct∨(g.2.2.1=2∧g.2.2.2.1=ct)->Zx (g,(co,3,ct,cc,ck),())=some (if g.2.2.2.2.1=ct then g else pF (qY g.1 (gF g.2.2.2.2.2.1.2.1 g.2.2.2.2.2.1.2.2),g.2.1,g.2.2.1,g.2.2.2.1,ct,g.2.2.2.2.2),()):=fun _=>by
       show akT g (co,3,ct,cc,ck)=_;unfold akT;dsimp only;by_cases q1:g.2.2.2.2.1=ct
       ·rw[if_pos (bu.2 q1),if_pos q1]
       ·rw[if_neg (fun e=>q1 (bu.1 e)),if_neg q1,Aa h'.hl h'.sl h'.bb,zD]
        dsimp only;rw[Qa h'.bl (by have:=Jn (hv:=g.2.2.2.2.2.1.2.1) (bs:=g.2.2.2.2.2.1.2.2);have:=h'.hl;omega) h'.fb,zD];dsimp only;rw[if_neg (by decide),wK];rfl
      by_cases q1:g.2.2.2.2.1=ct
      ·rw[decide_eq_false (fun e=>e.1 q1),if_neg (by decide),hcm (Or.inl q1),if_pos q1,if_pos q1]
       rfl
      ·by_cases q2:g.2.2.1=2∧g.2.2.2.1=ct
       ·rw[decide_eq_false (fun e=>e.2 q2),if_neg (by decide),hcm (Or.inr q2),if_neg q1,if_neg q1,if_pos q2]
        rfl
       ·rw[decide_eq_true ⟨q1,q2⟩,if_neg q1,if_neg q2]
        rfl
     ·have v4:cv=4:=by omega
      subst v4;rw[if_neg (by decide),if_pos rfl,if_neg v3];have hn:Zy (g,(co,4,ct,cc,ck),())=some (decide (ct≤g.2.2.2.2.1),()):=rfl;rw[hn,zD];by_cases q1:ct≤g.2.2.2.2.1
      ·rw[decide_eq_true q1,if_pos q1]
       rfl
      ·rw[decide_eq_false q1,if_neg (by decide),if_neg q1]
       have ha:ZC (g,(co,4,ct,cc,ck),())=some (if g.2.1.1=co∧g.2.2.2.1=ct then pF g else g,()):=by
        show ZA ZB g (co,4,ct,cc,ck)=_;unfold ZA;dsimp only;have K:∀b z,ZB g 0 b [z]=some (if b=true then g else pF g,()):=fun b z=>by show Zz g 0 b [z]=_;unfold Zz;cases b<;>rfl
        by_cases e1:g.2.1.1=co
        ·rw[if_neg (fun e=>fQ.1 e e1),K]
         by_cases e2:g.2.2.2.1=ct
         ·rw[if_neg (fun e=>fQ.1 e e2),if_pos ⟨e1,e2⟩]
         ·rw[if_pos (fQ.2 e2),if_neg (fun e=>e2 e.2)]
        ·rw[if_pos (fQ.2 e1),K,if_pos rfl,if_neg (fun e=>e1 e.1)]
       rw[ha,zD];by_cases e:g.2.1.1=co∧g.2.2.2.1=ct
       ·rw[if_pos e,if_pos e]
        rfl
       ·rw[if_neg e,if_neg e]
        rfl
def putA(a:TAg)(o t n:Int)(x:ay):TAg×Int :=
 if o=0∨t=0 then (a,2) else if a.2.1.1≠0∧a.2.1.1≠o then (a,22) else if ¬ (a.2.2.1=1∧a.2.2.2.1=t) then (a,23)
 else ((a.1,lI a.2.1 o a.2.2.2.2.2.2,a.2.2.1,a.2.2.2.1,a.2.2.2.2.1,P6 a.2.2.2.2.2.1 n.toNat x,a.2.2.2.2.2.2),0)
theorem arc{a:TAg}(h:OkG a){o t n:Int}{x:ay}(hn:0≤n∧n≤7)(hf:gD x=true):zh (a,o,t,n,x,())=some ((putA (fV a) o t n x).1,(putA (fV a) o t n x).2,()):=by
 show ZQ ZR a o t n x=_;unfold ZQ;have h':=h.own;rw[Df h.sz,zD];dsimp only;generalize fV a=g at h';have lr:=h'.lr;have kr:=h'.kr;have hx:x.2.length≤1000:=by have:=of_decide_eq_true hf;omega
 have K:∀b z,ZR o t n 0 0 b [g] x [z]=some (if b=true then (g,2,()) else ((putA g o t n x).1,(putA g o t n x).2,()))∨¬ (b=true↔(o=0∨t=0)):=fun b z=>by
  by_cases hb:b=true↔(o=0∨t=0)
  ·left
   show ZP o t n 0 0 b [g] x [z]=_;unfold ZP
   cases b with
   | true=>rfl
   | false =>
    rw[if_neg (by decide),if_neg (by decide)];have h0:¬ (o=0∨t=0):=fun e=>Bool.false_ne_true (hb.2 e);unfold putA;rw[if_neg h0];rw[iX,zD,FX lr,zD];by_cases q1:g.2.1.1≠0∧g.2.1.1≠o
    ·rw[decide_eq_true q1,if_pos q1]
     rfl
    ·rw[decide_eq_false q1,if_neg (by decide),if_neg q1,zD,FW,zD]
     by_cases q2:g.2.2.1=1∧g.2.2.2.1=t
     ·rw[decide_eq_true q2,if_neg (by decide),if_neg (fun e=>e q2),zD,aq8 h'.hl h'.sl h'.bb hx,if_pos hn,if_pos hf,zD]
      dsimp only;rw[if_neg (by decide),zD];have:=Cf (a:=(g.1,g.2.1,g.2.2.1,g.2.2.2.1,g.2.2.2.2.1,P6 g.2.2.2.2.2.1 n.toNat x,g.2.2.2.2.2.2)) (o:=o) lr (by omega) kr.1 (by dsimp only;omega);show zC (EM ((g.1,g.2.1,g.2.2.1,g.2.2.2.1,g.2.2.2.2.1,P6 g.2.2.2.2.2.1 n.toNat x,g.2.2.2.2.2.2),o,())) _=_;rw[this];rfl
     ·rw[decide_eq_false q2,if_pos (by rfl),if_pos q2]
      rfl
  ·exact Or.inr hb
 have p2:o=0∨t=0->putA g o t n x=(g,2):=fun e=>if_pos e;by_cases ho:o=0
 ·rw[if_pos (bu.2 ho)]
  rcases K true _ with e | e
  ·rw[e,if_pos rfl,p2 (Or.inl ho)]
  ·exact absurd ⟨fun _=>Or.inl ho,fun _=>rfl⟩ e
 ·rw[if_neg (fun e=>ho (bu.1 e))]
  rcases K (eqi t 0) ([],(0,0),0,0,0,zSt,0) with e | e
  ·refine e.trans ?_
   by_cases ht:t=0
   ·rw[if_pos (bu.2 ht),p2 (Or.inr ht)]
   ·rw[if_neg (fun e=>ht (bu.1 e))]
  ·exact absurd ⟨fun x=>Or.inr (bu.1 x),fun x=>bu.2 (x.resolve_left ho)⟩ e
def tickA(a:TAg):TAg:=if (qX a.2.1).2=true then pF a else (a.1,(qX a.2.1).1,a.2.2)
def bootA(a:TAg):TAg:=if a.2.2.1=1 then pF a else a
def gM(a:TAg):List Int:=[a.2.1.1,a.2.2.1,a.2.2.2.1 / 65536,a.2.2.2.1%65536,a.2.2.2.2.1 / 65536,a.2.2.2.2.1%65536,((a.2.2.2.2.2.1.2.1.count true:Nat):Int),0]
theorem aav{a:TAg}(h:OkG a):gG (a,())=some (gM a,()):=by
 obtain⟨bk,ls,ph,tx,la,⟨st,hv,bs⟩,tk⟩:=a;have lr:=h.lr;have pr:=h.pr;have tr:=h.tr;have ar:=h.ar;have hl:=h.hl;dsimp only at lr pr tr ar hl;show YK YL (bk,ls,ph,tx,la,(st,hv,bs),tk)=_;unfold YK;have hc:hv.count true≤8:=by have:=List.count_le_length (a:=true) (l:=hv);omega
 have K:∀o,YL (bk,ls,ph,tx,la,(st,hv,bs),tk) o=some ([o,ph,tx / 65536,tx%65536,la / 65536,la%65536,((hv.count true:Nat):Int),0],()):=fun o=>by show YJ _ o=_;unfold YJ;dsimp only;rw[parts_eq tr.1 tr.2,zD,parts_eq ar.1 ar.2,zD,P5 hl,zD,show cvt .u16 ph=ph from aac pr.1 (by omega),show cvt .u16 ((hv.count true:Nat):Int)=_ from aac (by omega) (by omega)]
 rw[rT lr,zD];dsimp only;by_cases e:ls.1=0
 ·rw[decide_eq_true e,if_pos rfl,K]
  unfold gM;dsimp only;rw[e]
 ·rw[decide_eq_false e,if_neg (by decide),K]
  rfl
def zAg(b:List Int)(t:Int):TAg:=(b,(0,0),0,0,0,zSt,t)
theorem ard{b:List Int}{t:Int}(hb:b.length≤1000000):Uv (b,t,())=some (if b.length=64 then if 1≤t then (zAg b t,0,()) else (zAg [] 0,2,()) else (zAg [] 0,21,())):=by
 show aeu b t=_;unfold aeu;by_cases h:b.length=64
 ·rw[if_neg (fun e=>fQ.1 e (by simp_all)),if_pos h]
  by_cases h1:1≤t
  ·rw[if_neg (fun e=>by grind[dw]),if_pos h1,nY hb]
   rfl
  ·rw[if_pos (dw.2 (by omega)),if_neg h1]
   rfl
 ·rw[if_pos (fQ.2 (by grind)),if_neg h]
  rfl
theorem acB:gF zSt.2.1 zSt.2.2=[]:=rfl
theorem Dj{bk:List Int}{la tk:Int}(bl:bk.length=64)(bw:∀x∈bk,0≤x∧x≤65535)(ar:0≤la∧la≤4294967295)(kr:1≤tk∧tk≤9223372036854775807):OkG (bk,(0,0),0,0,la,zSt,tk) where
 bl:=bl
 bw:=bw
 lr:=Or.inl ⟨rfl,rfl⟩
 l1:=⟨by simp,by simp⟩
 l2:=by simp
 pr:=⟨by simp,by simp⟩
 tr:=⟨by simp,by simp⟩
 ar:=ar
 kr:=kr
 hl:=rfl
 sl:=rfl
 bb:=by simp
 wb:=by simp
 fb:=fun b hb=>by simp_all[gF,acB]
 p0:=fun _=>⟨rfl,rfl,rfl,rfl⟩
 pn:=fun e=>absurd rfl e
 p1:=fun e=>absurd e (by simp)
 p2:=fun e=>absurd e (by simp)
theorem OkG.free{a:TAg}(h:OkG a):OkG (pF a):=Dj h.bl h.bw h.ar h.kr
theorem OkG.doS{a:TAg}(h:OkG a){c:TCm}(h1:0≤c.1∧c.1≤65535)(h3:0≤c.2.2.1∧c.2.2.1≤4294967295)(hc:0≤c.2.2.2.1∧c.2.2.2.1≤65535):OkG (doS a c).1:=by
 unfold Lx.doS;split
 ·exact h
 ·rename_i q0
  split
  ·exact h
  ·rename_i q1
   split
   ·split
    ·exact h
    ·rename_i q2
     split
     ·rename_i q3
      have hp:a.2.2.1≠0:=fun e=>by have:=(h.p0 e).2.1;omega
      have hn:=h.pn hp;have hown:a.2.1.1=c.1:=by omega
      have hph:a.2.2.1=1∨a.2.2.1=2:=by have:=h.pr;omega
      have hkr:=h.kr;rcases hph with e | e
      ·have ht:lI a.2.1 c.1 a.2.2.2.2.2.2=(c.1,a.2.2.2.2.2.2):=by unfold lI;rw[if_neg];intro x;have:=h.p1 e;simp_all
       rw[ht];exact { h with lr:=Or.inr ⟨by simp_all,Or.inl hkr.1⟩,l1:=h1,l2:=hkr.2,p0:=fun x=>absurd x hp,pn:=fun _=>⟨by simp_all,hn.2⟩,p1:=fun _=>hkr.1,p2:=fun x=>absurd (e.symm.trans x) (by decide) }
      ·have ht:lI a.2.1 c.1 a.2.2.2.2.2.2=a.2.1:=by unfold lI;rw[if_pos];exact Prod.ext hown (h.p2 e).1
       simp_all
     ·rename_i q3
      have hkr:=h.kr;have har:=h.ar;exact { Dj h.bl h.bw h.ar h.kr with lr:=Or.inr ⟨by simp_all,Or.inl hkr.1⟩,l1:=h1,l2:=hkr.2,pr:=⟨by simp,by simp⟩,tr:=h3,p0:=fun x=>absurd x (show (1:Int)≠0 by decide),pn:=fun _=>⟨by simp_all,by simp_all,rfl⟩,p1:=fun _=>hkr.1,p2:=fun x=>absurd x (show (1:Int)≠2 by decide) }
   ·split
    ·split
     ·rename_i q2
      have hp:a.2.2.1≠0:=fun e=>by omega
      have hn:=h.pn hp;refine { h with lr:=Or.inr ⟨by simp_all,Or.inr rfl⟩,l1:=h1,l2:=by simp,pr:=⟨by simp,by simp⟩,p0:=fun x=>absurd x (show (2:Int)≠0 by decide),pn:=fun _=>⟨by simp_all,hn.2⟩,p1:=fun x=>absurd x (show (2:Int)≠1 by decide),p2:=fun _=>⟨rfl,?_⟩ };rcases q2 with q2 | q2
      ·exact (h.p2 q2.1).2
      ·have hw:=q2.2.2
       unfold vK at hw;rw[zO,zO,decide_eq_true_eq]at hw;have hf:=of_decide_eq_true hw.2.1;have hl:=h.hl
       have hcnt:((a.2.2.2.2.2.1.2.1.count true:Nat):Int)=c.2.2.2.1:=by
        obtain⟨n,hn'⟩:=zN hw.1.1;rw[hn']at hf ⊢;have hv8:a.2.2.2.2.2.1.2.1=(List.range 8).map (fun (i:Nat)=>decide ((i:Int)<(n:Int))):=by apply List.ext_getElem?;grind
        have hn8:n≤8:=by omega
        rw[hv8];have:n=0∨n=1∨n=2∨n=3∨n=4∨n=5∨n=6∨n=7∨n=8:=by omega
        rcases this with rfl | rfl | rfl | rfl | rfl | rfl | rfl | rfl | rfl<;>rfl
       simp_all
     omega
    ·split
     ·split
      ·exact h
      ·split
       ·exact Dj (J3 h.bl h.fb) (J4 (P:=fun y=>0≤y∧y≤65535) h.bw (fun x hx=>h.wb x (P7 hx))) h3 h.kr
       omega
     ·split
      ·exact h
      ·split
       ·exact h.free
       omega
theorem Qb{α:Type}{P:α->Prop}{xs:List α}{k:Nat}{x:α}(h:∀y∈xs,P y)(hx:P x):∀y∈xs.set k x,P y:=fun y hy=>by grind
theorem Qc{P:ay->Prop}{x:ay}(hx:P x):∀{hv:List Bool} {bs:List ay} (k:Nat),(∀b∈gF hv bs,P b)->∀b∈gF (hv.set k true) (bs.set k x),P b
 | [],bs,k,_=>by simp_all[gF]
 | h::r,[],k,_=>by simp_all[gF]
 | h::r,c::q,0,hp=>by intro b hb;rw[List.set_cons_zero,List.set_cons_zero]at hb;unfold gF at hb hp;rw[List.zip_cons_cons,List.filter_cons,if_pos rfl,List.map_cons]at hb;grind[List.zip_cons_cons,zT]
 | h::r,c::q,k+1,hp=>by
  intro b hb;rw[List.set_cons_succ,List.set_cons_succ]at hb;have hr:∀b∈gF r q,P b:=fun b hb=>hp b (by grind[gF,List.zip_cons_cons,zT]);have ih:=Qc hx k hr;unfold gF at hb hp ih;rw[List.zip_cons_cons,List.filter_cons]at hb
  cases h with
  | true =>
   rw[if_pos rfl,List.map_cons]at hb;rcases List.mem_cons.1 hb with e | e
   ·simp_all
   simp_all
  | false=>simp_all
theorem OkG.putA{a:TAg}(h:OkG a){o t n:Int}{x:ay}(ho:0≤o∧o≤65535)(hf:gD x=true)(hw:∀w∈x.2,0≤w∧w≤65535):OkG (putA a o t n x).1:=by
 have hx:x.2.length≤1000:=by have:=of_decide_eq_true hf;omega
 unfold Lx.putA;split
 ·exact h
 ·rename_i q0
  split
  ·exact h
  ·rename_i q1
   split
   ·exact h
   ·rename_i q2
    have q2:=Classical.not_not.1 q2;have hkr:=h.kr;have hp:a.2.2.1≠0:=by omega
    have hn:=h.pn hp;have ht:lI a.2.1 o a.2.2.2.2.2.2=(o,a.2.2.2.2.2.2):=by unfold lI;rw[if_neg];intro e;have:=h.p1 q2.1;simp_all
    rw[ht];have hbs:∀b∈a.2.2.2.2.2.1.2.2.set n.toNat x,b.2.length≤1000:=Qb (P:=fun (b:ay)=>b.2.length≤1000) h.bb hx;have hws:∀b∈a.2.2.2.2.2.1.2.2.set n.toNat x,∀w∈b.2,0≤w∧w≤65535:=Qb (P:=fun (b:ay)=>∀w∈b.2,0≤w∧w≤65535) h.wb hw;have hhl:=h.hl;have hsl:=h.sl
    exact { h with
     lr:=Or.inr ⟨by simp_all,Or.inl hkr.1⟩
     l1:=ho
     l2:=hkr.2
     hl:=by show (a.2.2.2.2.2.1.2.1.set n.toNat true).length=8;simp_all
     sl:=xY (by simp_all) (by simp_all)
     bb:=Di (P:=fun b=>b.2.length≤1000) (by show (0:Nat)≤1000;omega) hbs
     wb:=Di (P:=fun b=>∀w∈b.2,0≤w∧w≤65535) (by intro w hw;cases hw) hws
     fb:=by show ∀b∈gF (a.2.2.2.2.2.1.2.1.set n.toNat true) (nzB (a.2.2.2.2.2.1.2.1.set n.toNat true) (a.2.2.2.2.2.1.2.2.set n.toNat x)),gD b=true;rw[Dh];exact Qc hf _ h.fb
     p0:=fun e=>absurd e hp
     pn:=fun _=>⟨by simp_all,hn.2⟩
     p1:=fun _=>hkr.1
     p2:=fun e=>absurd (q2.1.symm.trans e) (by decide) }
theorem OkG.tickA{a:TAg}(h:OkG a):OkG (tickA a):=by
 unfold Lx.tickA qX;by_cases q0:a.2.1.1=0∨a.2.1.2=-1
 ·simp_all
 ·rw[if_neg q0]
  by_cases q1:a.2.1.2=1
  ·rw[if_pos q1,if_pos rfl]
   exact h.free
  ·rw[if_neg q1,if_neg (show ¬ ((a.2.1.1,a.2.1.2 - 1),false).2=true from Bool.false_ne_true)]
   have hl2:=h.l2;have lr:1≤a.2.1.2:=by have:=h.lr;simp_all[kS]
   have hp:a.2.2.1≠0:=fun e=>by have:=(h.p0 e).1;omega
   have hn:=h.pn hp
   exact { h with
    lr:=Or.inr ⟨hn.1,Or.inl (by grind)⟩
    l2:=by grind
    p0:=fun e=>absurd e hp
    pn:=fun _=>⟨hn.1,hn.2⟩
    p1:=fun _=>by grind
    p2:=fun e=>by have:=(h.p2 e).1;omega }
theorem OkG.bootA{a:TAg}(h:OkG a):OkG (bootA a):=by
 unfold Lx.bootA;split
 ·exact h.free
 omega
abbrev atC:=List fo×List fo×List fo×List fo
theorem R8(f:Int):Iz (f,())=some ((if f=1 then (1,0) else if f=2 then (2,0) else if f=3 then (3,0) else if f=4 then (4,0) else if f=5 then (0,1) else if f=6 then (0,3) else if f=15 then (0,1) else if f=16 then (0,3) else if f=23 then (3,3) else (0,0)),()):=by show aiL f=_;unfold aiL;simp only[bu,gdV];grind
def rdW(x:fo):Bool:=x.2.2.1
def wrW(p m:Int)(x:fo):Bool:=x.2.2.2.1 && (!x.2.2.2.2 || (decide (x.1=p) && decide (x.2.1=m)))
theorem zwb(p m:Int)(x:fo):FN (x,p,m,())=some (wrW p m x,p,m,()):=by
 obtain⟨a,b,c,d,e⟩:=x;show aiO (a,b,c,d,e) p m=_;unfold aiO wrW;dsimp only;cases d<;>cases e<;>try rfl
 rw[if_pos rfl,if_neg (by decide)];by_cases h:a=p
 ·rw[if_pos (bu.2 h),decide_eq_true h];rfl
 simp_all[if_neg,bu,decide_eq_false]
theorem zwu(p m:Int)(x:fo):FO (x,p,m,())=some (wrW p m x,p,m,()):=by
 obtain⟨a,b,c,d,e⟩:=x;show aiW (a,b,c,d,e) p m=_;unfold aiW wrW;dsimp only;cases d<;>cases e<;>try rfl
 rw[if_pos rfl,if_neg (by decide)];by_cases h:a=p
 ·rw[if_pos (bu.2 h),decide_eq_true h];rfl
 simp_all[if_neg,bu,decide_eq_false]
section
variable {l:List fo}{p:Int}{m:Nat}(hp:0≤p)(hpm:p≤1000000)(hm:m≤1000000)(hl:l.length≤1000000)(ho:∀x∈l,tC x)
include hp hpm hm hl ho
theorem acC(c:List Bool):EH ((l,c),p,(m:Int),())=some (iV rdW l p m,()):=by show zC (Yb (l,p,(m:Int),())) _=_;rw[aan hp hm hpm hl ho (w:=rdW) (fun _=>rfl)];rfl
theorem Qd(c:List Int):BD ((l,c),p,(m:Int),())=some (iV rdW l p m,()):=by show zC (Yh (l,p,(m:Int),())) _=_;rw[aap hp hm hpm hl ho (w:=rdW) (fun _=>rfl)];rfl
theorem acD(c:List Bool):EI ((l,c),p,(m:Int),())=some (iV (wrW p m) l p m,()):=by show zC (Ye (l,p,(m:Int),p,(m:Int),())) _=_;grind[aar,wrW,zwb]
theorem Qe(c:List Int):FP ((l,c),p,(m:Int),())=some (iV (wrW p m) l p m,()):=by show zC (Yk (l,p,(m:Int),p,(m:Int),())) _=_;grind[aat,wrW,zwu]
end
theorem J5{a:TA}(h:OkA a):EB (a,())=some ((if a.1=23 then a.2.2.2.1 else a.2.1),((a.2.2.2.2.2.length+a.2.2.2.2.1.length:Nat):Int),()):=by have:=h.lw;have:=h.lb;have h0:=h.at0;have h1:=h.at1;have h2:=h.t0;have h3:=h.t1;show aiN a=_;grind[aiN,bn,qP,iU,bu]
theorem sK{k:Int}{w h:Bool}{p:Int}{m:Nat}(hk:1≤k)(hp:0≤p)(hm:1≤m)(f:fo->Bool)(hf:f (0,k,true,w,h)=true):iV f [(0,k,true,w,h)] p m=decide (p+m≤k):=by
 have hw:∀i:Int,0≤i->lZ f [(0,k,true,w,h)] i=decide (i<k):=fun i hi=>by
  unfold lZ iA;rw[List.find?_cons,List.find?_nil];have:kN (0,k,true,w,h) i=decide (i<k):=by simp_all[kN,decide_eq_decide]
  grind
 unfold iV;rw[Bool.eq_iff_iff,List.all_eq_true,decide_eq_true_eq];constructor
 ·intro hall
  have:=hall (m - 1) (List.mem_range.2 (by omega));grind
 grind
def SPH:List fo:=[(0,64,true,false,false),(256,8,true,false,false),(272,8,false,true,true),(288,20,false,true,true),(512,20,true,false,false),(544,20,true,false,false),(576,20,true,false,false),(608,20,true,false,false),(640,20,true,false,false),(672,20,true,false,false),(704,20,true,false,false),(736,20,true,false,false)]
def SP:atC:=([(0,16,true,true,false)],[(0,8,true,false,false)],SPH,[(0,8,true,false,false)])
theorem Qf:vB ()=some (SP,()):=by rfl
theorem J6{f:fo->Bool}{l:List fo}{i:Int}(h:lZ f l i=true):∃x∈l,kN x i=true∧f x=true:=by grind[lZ,iA,kN,List.mem_of_find?_eq_some]
theorem Qg{p:Int}{m:Nat}(hm:1≤m):iV (wrW p m) SPH p m=decide (p=272∧m=8∨p=288∧m=20):=by
 rw[Bool.eq_iff_iff,decide_eq_true_eq];constructor
 ·intro h
  unfold iV at h;rw[List.all_eq_true]at h;have h0:=h 0 (List.mem_range.2 (by omega));obtain⟨x,hx,_,hw⟩:=J6 h0;have e:wrW p (m:Int) x=true↔x.2.2.2.1=true∧(x.2.2.2.2=false∨(x.1=p∧x.2.1=(m:Int))):=by simp_all[wrW,zO,Bool.or_eq_true,decide_eq_true_eq,Bool.not_eq_true']
  rw[e]at hw;simp only[SPH,List.mem_cons,List.not_mem_nil,or_false]at hx;rcases hx with rfl | rfl | rfl | rfl | rfl | rfl | rfl | rfl | rfl | rfl | rfl | rfl<;>simp at hw<;>omega
 ·rintro (⟨rfl,rfl⟩ | ⟨rfl,rfl⟩)<;>decide
def rdH(p:Int)(m:Nat):Bool:=iV rdW SPH p m
theorem Qh{p:Int}{m:Nat}(hm:1≤m)(h:rdH p m=true):p+m≤756:=by unfold rdH iV at h;rw[List.all_eq_true]at h;obtain⟨x,hx,hc,_⟩:=J6 (h (m - 1) (List.mem_range.2 (by omega)));unfold kN at hc;rw[decide_eq_true_eq]at hc;simp only[SPH,List.mem_cons,List.not_mem_nil,or_false]at hx;rcases hx with rfl | rfl | rfl | rfl | rfl | rfl | rfl | rfl | rfl | rfl | rfl | rfl<;>dsimp only at hc<;>omega
theorem Dk:∀x∈SPH,tC x:=fun x hx=>by simp only[SPH,List.mem_cons,List.not_mem_nil,or_false]at hx;rcases hx with rfl | rfl | rfl | rfl | rfl | rfl | rfl | rfl | rfl | rfl | rfl | rfl<;>exact⟨by decide,by decide,by decide,by decide⟩
theorem wN{k:Int}(h0:0≤k)(h1:k≤100){r w h:Bool}:∀x ∈ [((0:Int),k,r,w,h)],tC x:=fun x hx=>by rw[List.mem_singleton]at hx;subst hx;exact⟨by omega,by omega,by grind,by grind⟩
def jU(a:TA):Bool :=
 if a.1=1 then decide (a.2.1+a.2.2.1≤16) else if a.1=2∨a.1=4 then decide (a.2.1+a.2.2.1≤8)
 else if a.1=3 then rdH a.2.1 a.2.2.1.toNat
 else if a.1=5∨a.1=15 then decide (a.2.1+(a.2.2.2.2.2.length:Int)≤16)
 else if a.1=23 then rdH a.2.1 a.2.2.1.toNat && decide (a.2.2.2.1=272∧a.2.2.2.2.1.length=8∨a.2.2.2.1=288∧a.2.2.2.2.1.length=20)
 else decide (a.2.1=272∧a.2.2.2.2.1.length=8∨a.2.1=288∧a.2.2.2.2.1.length=20)
abbrev XV:=(List fo×List Bool)×(List fo×List Bool)×(List fo×List Int)×List fo×List Int
def vS:XV:=(([(0,16,true,true,false)],[]),([(0,8,true,false,false)],[]),(SPH,[]),[(0,8,true,false,false)],[])
theorem Qi{a:TA}(h:OkA a)(hr:iY a=true):EJ (SP,a,())=some (if jU a=true then 0 else 2,()):=by
 have hra:=mD hr;have ht:=J5 h;have p0:=h.at0;have p1:=h.at1;have t0:=h.t0;have t1:=h.t1;have m0:=h.m0;have m1:=h.m1;show Ym nX SP a=_;unfold Ym;have ho:Iy (SP,([],[],[],[]),())=some (vS,()):=rfl;rw[right_eq h,hr,zD,if_neg (by decide),ho,zD,R8,zD];have K1t:∀u,nX true a vS u=some (2,()):=fun u=>rfl;have K1:∀u,nX false a vS u=zC (EB (a,())) fun y=>if eqi u.2 1=true then zC (EI (vS.1,y.1,y.2.1,())) fun y=>BF !y.1 else if eqi u.2 2=true then zC (EI (vS.2.1,y.1,y.2.1,())) fun y=>BF !y.1 else if eqi u.2 3=true then zC (FP (vS.2.2.1,y.1,y.2.1,())) fun y=>BF !y.1 else if eqi u.2 4=true then zC (FP (vS.2.2.2,y.1,y.2.1,())) fun y=>BF !y.1 else BF false:=fun u=>rfl;rw[ht]at K1;simp only[zD]at K1;have K2:∀b:Bool,BF (!b)=some (if b=true then 0 else 2,()):=fun b=>by cases b<;>rfl
 have K1b:∀(b:Bool) (u:Int×Int),u.2=0->nX (!b) a vS u=some (if b=true then 0 else 2,()):=fun b u hu=>by
  cases b with
  | true =>
   show nX false a vS u=_;rw[K1,hu];rfl
  | false=>rfl
 cases hra with
 | bits f p n hf h1 h2 =>
  obtain⟨n,rfl⟩:=zN (show 0≤n by omega);have p0:0≤p:=p0;have p1:p≤65535:=p1;have hc:cvt .i64 p=p:=iU (by omega) (by omega);have hc2:cvt .i64 (n:Int)=n:=iU (by omega) (by omega);rcases hf with rfl | rfl
  ·have hb:=acC (l:=[(0,16,true,true,false)]) (p:=p) (m:=n) p0 (by omega) (by omega) (by decide) (wN (by decide) (by decide)) []
   rw[sK (by decide) p0 (by omega) rdW rfl]at hb;rw[<- hc,<- hc2]at hb;show zC (EH (vS.1,cvt .i64 p,cvt .i64 (n:Int),())) (fun y=>nX (!y.1) (1,p,(n:Int),0,[],[]) vS (1,0))=_;refine (congrArg (fun z=>zC z _) hb).trans ?_;rw[zD,K1b _ _ rfl,hc,hc2];rfl
  ·have hb:=acC (l:=[(0,8,true,false,false)]) (p:=p) (m:=n) p0 (by omega) (by omega) (by decide) (wN (by decide) (by decide)) []
   rw[sK (by decide) p0 (by omega) rdW rfl]at hb;rw[<- hc,<- hc2]at hb;show zC (EH (vS.2.1,cvt .i64 p,cvt .i64 (n:Int),())) (fun y=>nX (!y.1) (2,p,(n:Int),0,[],[]) vS (2,0))=_;refine (congrArg (fun z=>zC z _) hb).trans ?_;rw[zD,K1b _ _ rfl,hc,hc2];rfl
 | words f p n hf h1 h2 =>
  obtain⟨n,rfl⟩:=zN (show 0≤n by omega);have p0:0≤p:=p0;have p1:p≤65535:=p1;have hc:cvt .i64 p=p:=iU (by omega) (by omega);have hc2:cvt .i64 (n:Int)=n:=iU (by omega) (by omega);rcases hf with rfl | rfl
  ·have hu:=Qd (l:=SPH) (p:=p) (m:=n) p0 (by omega) (by omega) (by decide) Dk []
   rw[<- hc,<- hc2]at hu;show zC (BD (vS.2.2.1,cvt .i64 p,cvt .i64 (n:Int),())) (fun y=>nX (!y.1) (3,p,(n:Int),0,[],[]) vS (3,0))=_;refine (congrArg (fun z=>zC z _) hu).trans ?_;rw[zD,K1b _ _ rfl,hc];rfl
  ·have hu:=Qd (l:=[(0,8,true,false,false)]) (p:=p) (m:=n) p0 (by omega) (by omega) (by decide) (wN (by decide) (by decide)) []
   rw[sK (by decide) p0 (by omega) rdW rfl]at hu;rw[<- hc,<- hc2]at hu;show zC (BD (vS.2.2.2,cvt .i64 p,cvt .i64 (n:Int),())) (fun y=>nX (!y.1) (4,p,(n:Int),0,[],[]) vS (4,0))=_;refine (congrArg (fun z=>zC z _) hu).trans ?_;rw[zD,K1b _ _ rfl,hc,hc2];rfl
 | coil p b =>
  have p0:0≤p:=p0;have p1:p≤65535:=p1;have hw:=acD (l:=[(0,16,true,true,false)]) (p:=p) (m:=1) p0 (by omega) (by omega) (by decide) (wN (by decide) (by decide)) [];rw[sK (by decide) p0 (by omega) _ rfl]at hw;show nX false (5,p,0,0,[],[b]) vS (0,1)=_;rw[K1,if_pos (by decide)];refine (congrArg (fun z=>zC z _) hw).trans ?_;rw[zD,K2];rfl
 | word p x =>
  have p0:0≤p:=p0;have p1:p≤65535:=p1;have hw:=Qe (l:=SPH) (p:=p) (m:=1) p0 (by omega) (by omega) (by decide) Dk [];rw[Qg (by omega)]at hw;show nX false (6,p,0,0,[x],[]) vS (0,3)=_;rw[K1,if_neg (by decide),if_neg (by decide),if_pos (by decide)];refine (congrArg (fun z=>zC z _) hw).trans ?_;rw[zD,K2];rfl
 | coils p l h1 h2 =>
  have p0:0≤p:=p0;have p1:p≤65535:=p1;have hw:=acD (l:=[(0,16,true,true,false)]) (p:=p) (m:=l.length) p0 (by omega) (by omega) (by decide) (wN (by decide) (by decide)) [];rw[sK (by decide) p0 (by omega) _ rfl]at hw;show nX false (15,p,(l.length:Int),0,[],l) vS (0,1)=_;rw[K1,if_pos (by decide)];refine (congrArg (fun z=>zC z _) hw).trans ?_;rw[zD,K2];rfl
 | regs p l h1 h2 =>
  have p0:0≤p:=p0;have p1:p≤65535:=p1;have hw:=Qe (l:=SPH) (p:=p) (m:=l.length) p0 (by omega) (by omega) (by decide) Dk [];rw[Qg (by omega)]at hw;show nX false (16,p,(l.length:Int),0,l,[]) vS (0,3)=_;rw[K1,if_neg (by decide),if_neg (by decide),if_pos (by decide)];have e:((([]:List Bool).length+l.length:Nat):Int)=(l.length:Int):=by simp
  show zC (FP (vS.2.2.1,p,((([]:List Bool).length+l.length:Nat):Int),())) _=_;rw[e];refine (congrArg (fun z=>zC z _) hw).trans ?_;rw[zD,K2];rfl
 | swap p n t l h1 h2 h3 h4 =>
  obtain⟨n,rfl⟩:=zN (show 0≤n by omega);have p0:0≤p:=p0;have p1:p≤65535:=p1;have t0:0≤t:=t0;have t1:t≤65535:=t1;have hc:cvt .i64 p=p:=iU (by omega) (by omega);have hc2:cvt .i64 (n:Int)=n:=iU (by omega) (by omega);have hu:=Qd (l:=SPH) (p:=p) (m:=n) p0 (by omega) (by omega) (by decide) Dk [];rw[<- hc,<- hc2]at hu;have hw:=Qe (l:=SPH) (p:=t) (m:=l.length) t0 (by omega) (by omega) (by decide) Dk [];rw[Qg (by omega)]at hw;show zC (BD (vS.2.2.1,cvt .i64 p,cvt .i64 (n:Int),())) (fun y=>nX (!y.1) (23,p,(n:Int),t,l,[]) vS (3,3))=_;refine (congrArg (fun z=>zC z _) hu).trans ?_;rw[zD,hc];show nX (!rdH p n) (23,p,(n:Int),t,l,[]) vS (3,3)=some (if (rdH p n && decide (t=272∧l.length=8∨t=288∧l.length=20))=true then 0 else 2,())
  cases rdH p n with
  | false=>rfl
  | true =>
   rw[Bool.true_and];show nX false _ vS (3,3)=_;rw[K1,if_neg (by decide),if_neg (by decide),if_pos (by decide)];have e:((([]:List Bool).length+l.length:Nat):Int)=(l.length:Int):=by simp
   show zC (FP (vS.2.2.1,t,((([]:List Bool).length+l.length:Nat):Int),())) _=_;rw[e];refine (congrArg (fun z=>zC z _) hw).trans ?_;grind
theorem Qj{h:List Int}{p n:Int}(hp:0≤p)(hn:0≤n)(hh:h.length≤100000)(hle:p+n≤h.length)(l:List fo):YA ((l,h),p,n,1,())=some ((h.drop p.toNat).take n.toNat,()):=by
 obtain⟨p,rfl⟩:=zN hp;obtain⟨n,rfl⟩:=zN hn;have e1:mul .i64 (quo .i64 (sub .i64 (add .i64 (n:Int) 1) 1) 1) 1=(n:Int):=by rw[iT (by omega),kV (by omega) (by omega),show (((n+1:Nat):Int) - 1)=(n:Int) by omega];have:=pz (i:=n) (d:=1) (by omega);rw[Nat.div_one]at this;rw[show (1:Int)=((1:Nat):Int) from rfl,this,nE (by omega) (by omega)];omega
 show ajJ (l,h) (p:Int) (n:Int) 1=_;unfold ajJ;rw[e1,eu (by decide),eu (gZ.2 (by omega)),eu (rR _),zQ,jw (by omega),qP (by omega)];dsimp only;rw[xW (by omega) (by omega),zD,kD,eu (iw.2 (by simp))];grind[List.length_drop,kB,List.drop_take,List.drop,zE,Int,List.drop_of_length_le,kD,bn,zQ]
theorem Ac(f e:Int):kI (f,e,())=some ((rem f 128,e,[],[],0,0),()):=rfl
theorem Dl{a:TA}(hr:iY a=true):1≤a.1∧a.1<128:=by
 cases mD hr with
 | bits f p n hf=>omega
 | words f p n hf=>omega
 | coil p b=>omega
 | word p x=>omega
 | coils p l=>omega
 | regs p l=>omega
 | swap p n t l=>omega
structure Rep(r:TR):Prop where
 ok:OkR r
 rr:RR r
 rt:oO r=true
theorem wO{f e:Int}(h0:0≤f)(h1:f<128)(h2:1≤e)(h3:e≤4):Rep (f,e,[],[],0,0):=by refine⟨⟨h0,by show f≤255;omega,by show 0≤e;omega,by show e≤255;omega,(fun x hx=>by cases hx),(by decide:(0:Int)≤0),(by decide:(0:Int)≤65535),(by decide:(0:Int)≤0),(by decide:(0:Int)≤65535),Nat.zero_le _,Nat.zero_le _⟩,.ex f e h0 h1 h2 h3,?_⟩;unfold oO;rw[if_pos (by rw[fQ];show e≠0;omega)];unfold exR;dsimp only;rw[FU h0 h1,decide_eq_true h1,decide_eq_true h2,decide_eq_true h3,decide_eq_true rfl];rfl
theorem atD{r:TR}(h:Rep r):SmR r:=by cases h.rr<;>exact⟨by simp<;>omega,by simp<;>omega⟩
theorem acE{r:TR}(h:Rep r):PD (r,())=some (kG r,0,()):=by rw[acr (atD h),if_pos h.rt]
abbrev tF:=List Bool×List Bool×List Int×List Int
structure OkS(s:TSl):Prop where
 u:1≤s.1∧s.1≤247
 l:s.2.1=1∨s.2.1=2
 a:OkG s.2.2.1
 c:s.2.2.2.length=16
def cpy{α:Type}(b:List α)(p:Nat)(w:List α):List α:=b.take p++w++b.drop (p+w.length)
theorem rV{α:Type}{b w:List α}{p:Nat}(h:p+w.length≤b.length):(cpy b p w).length=b.length:=by grind[cpy,zZ,kB,List.length_drop]
theorem acF{α:Type}{b w:List α}{p:Nat}(h:p+w.length≤b.length):((cpy b p w).drop p).take w.length=w:=by
 have lp:(b.take p).length=p:=by rw[kB];omega
 unfold cpy;rw[List.append_assoc,List.drop_left' lp,List.take_left' rfl]
theorem arf{α:Type}{b w:List α}{p i:Nat}(h:p+w.length≤b.length):(cpy b p w)[i]? = if p≤i∧i<p+w.length then w[i - p]? else b[i]?:=by
 have lp:(b.take p).length=p:=by grind
 unfold cpy;grind
theorem R9{α:Type}{b w:List α}{p q n:Nat}(h:p+w.length≤b.length)(hd:p+w.length≤q∨q+n≤p):((cpy b p w).drop q).take n=(b.drop q).take n:=by
 apply List.ext_getElem?;intro i;by_cases hi:i<n
 ·rw[List.getElem?_take_of_lt hi,List.getElem?_take_of_lt hi,List.getElem?_drop,List.getElem?_drop,arf h,if_neg (by omega)]
 grind
theorem Jq{α:Type}{b w:List α}{p:Nat}{P:α->Prop}(hb:∀y∈b,P y)(hx:∀y∈w,P y):∀y∈cpy b p w,P y:=by grind[cpy,List.mem_of_mem_take,List.mem_of_mem_drop]
theorem oV{α:Type}{b w:List α}{p m:Nat}(hm:w.length≤m):b.take p++w.take m++b.drop (p+(w.take m).length)=cpy b p w:=by rw[List.take_of_length_le hm];rfl
def lJ(a:TAg):List Int:=(List.range 8).foldl (fun h b=>cpy h (512+b*32) (jX a.2.2.2.2.2.1 a.2.1.1 (b:Int))) (cpy (cpy (zE 756 0) 0 a.1) 256 (gM a))
def tH(a:TAg):List Bool:=((((zE 8 false).set a.2.2.1.toNat true).set 4 (decide (a.2.1.1≠0))).set 5 (decide (true∈a.2.2.2.2.2.1.2.1)))
def vL(s:TSl):tF:=(s.2.2.2,tH s.2.2.1,lJ s.2.2.1,gM s.2.2.1)
theorem qB{s:nA}{o n:Int}:(jX s o n).length=20:=by grind[jX,mI]
theorem sM{a:TAg}(h:OkG a):∀k:Nat,k≤8->((List.range k).foldl (fun h b=>cpy h (512+b*32) (jX a.2.2.2.2.2.1 a.2.1.1 (b:Int))) (cpy (cpy (zE 756 0) 0 a.1) 256 (gM a))).length=756
 | 0,_=>by
  have h64:=h.bl;rw[List.range_zero,List.foldl_nil];have e1:(cpy (zE 756 (0:Int)) 0 a.1).length=756:=by rw[rV (by rw[kD];omega),kD]
  rw[rV (by rw[e1];show 256+8≤756;omega),e1]
 | k+1,hk=>by have ih:=sM h k (by omega);rw[List.range_succ,List.foldl_append,List.foldl_cons,List.foldl_nil,rV (by rw[ih,qB];omega),ih]
theorem J7{a:TAg}(h:OkG a):(lJ a).length=756:=sM h 8 (by omega)
theorem Qk(a:TAg):(tH a).length=8:=by simp_all[tH,List.length_set,kD]
set_option maxHeartbeats 1000000 in
theorem atE{s:TSl}(h:OkS s):qO (s,())=some (vL s,()):=by
 have ha:=h.a;have hst:=aav ha;have hfr:=rT ha.lr;have hco:=contains_eq (s:=s.2.2.1.2.2.2.2.2.1.2.1) true (by have:=ha.hl;omega);have pr:=ha.pr;have h64:=ha.bl;have hh8:=ha.hl;have h16:=h.c;show YU aj7 s=_;unfold YU;simp only[hst,zD,qR (eqAs_refl d9.rs),atg (eqAs_refl d9.rs)];show YR aj6 s (gM s.2.2.1) (zE 16 false) (zE 8 false) (zE 756 0)=_;unfold YR;obtain⟨ph,hph⟩:=zN pr.1;have hin:(zE 8 false)[ph]? = some false:=by grind
 have hcoil:List.take (zI (zF (zE 16 false).length)) s.2.2.2++List.drop (0+(List.take (zI (zF (zE 16 false).length)) s.2.2.2).length) (zE 16 false)=s.2.2.2:=by grind
 rw[eu (iw.2 (by simp)),if_pos (iw.2 pr.2),hph,gu hin,zD,zD,hcoil,zQ];show YS IX s (gM s.2.2.1) s.2.2.2 ((zE 8 false).set ph true) (zE 756 0)=_;unfold YS;have h4:∃x,((zE 8 false).set ph true)[4]? = some x:=jg (by simp);obtain⟨x4,h4⟩:=h4;have t8:List.take 8 (List.drop 0 s.2.2.1.2.2.2.2.2.1.2.1)=s.2.2.1.2.2.2.2.2.1.2.1:=by grind
 rw[hfr,zD,show at? ((zE 8 false).set ph true) 4=some x4 from gu h4,zD,zD,t8,hco,zD];dsimp only;generalize hy:(!decide (s.2.2.1.2.1.1=0))=y4;have h5:∃x,(((zE 8 false).set ph true).set 4 y4)[5]? = some x:=jg (by simp);obtain⟨x5,h5⟩:=h5;rw[show at? (((zE 8 false).set ph true).set 4 y4) 5=some x5 from gu h5,zD,zD];have c64:List.take 64 s.2.2.1.1++List.drop (0+(List.take 64 s.2.2.1.1).length) (zE 756 (0:Int))=cpy (zE 756 0) 0 s.2.2.1.1:=oV (p:=0) (b:=zE 756 (0:Int)) (by omega);have l64:(cpy (zE 756 (0:Int)) 0 s.2.2.1.1).length=756:=by grind
 rw[c64,l64];have l8:(gM s.2.2.1).length=8:=rfl;have cst:List.take 256 (cpy (zE 756 0) 0 s.2.2.1.1)++List.take (zI (zF 756 - 256)) (gM s.2.2.1)++List.drop (256+(List.take (zI (zF 756 - 256)) (gM s.2.2.1)).length) (cpy (zE 756 0) 0 s.2.2.1.1)=cpy (cpy (zE 756 0) 0 s.2.2.1.1) 256 (gM s.2.2.1):=oV (by simp_all);rw[cst];rw[eu (by decide),eu (by decide),eu (by decide),eu (by decide),eu (by decide),eu (by decide)];show IX s 0 (gM s.2.2.1) s.2.2.2 _ _=_;have hinp:((((zE 8 false).set ph true).set 4 y4).set 5 (decide (true∈s.2.2.1.2.2.2.2.2.1.2.1)))=tH s.2.2.1:=by simp_all[tH,zQ,decide_eq_true,decide_eq_false]
 rw[hinp];unfold vL lJ;unfold IX;refine lU (N:=8) (mk:=fun i=>(s,(i:Int),gM s.2.2.1,s.2.2.2,tH s.2.2.1,(List.range i).foldl (fun h b=>cpy h (512+b*32) (jX s.2.2.1.2.2.2.2.2.1 s.2.2.1.2.1.1 (b:Int))) (cpy (cpy (zE 756 0) 0 s.2.2.1.1) 256 (gM s.2.2.1)))) ?_ ?_ 8 0 _ (by omega) (by omega)
 ·intro self i hi
  have hlen:=sM ha i (by omega);have hsucc:(List.range (i+1)).foldl (fun h b=>cpy h (512+b*32) (jX s.2.2.1.2.2.2.2.2.1 s.2.2.1.2.1.1 (b:Int))) (cpy (cpy (zE 756 0) 0 s.2.2.1.1) 256 (gM s.2.2.1))=cpy ((List.range i).foldl (fun h b=>cpy h (512+b*32) (jX s.2.2.1.2.2.2.2.2.1 s.2.2.1.2.1.1 (b:Int))) (cpy (cpy (zE 756 0) 0 s.2.2.1.1) 256 (gM s.2.2.1))) (512+i*32) (jX s.2.2.1.2.2.2.2.2.1 s.2.2.1.2.1.1 (i:Int)):=by simp_all[List.range_succ,List.foldl_append]
  rw[hsucc];generalize (List.range i).foldl (fun h b=>cpy h (512+b*32) (jX s.2.2.1.2.2.2.2.2.1 s.2.2.1.2.1.1 (b:Int))) (cpy (cpy (zE 756 0) 0 s.2.2.1.1) 256 (gM s.2.2.1))=hd at hlen;show YT _ s (i:Int) (gM s.2.2.1) s.2.2.2 (tH s.2.2.1) hd=_;unfold YT;have e1:mul .i64 (i:Int) 32=((i*32:Nat):Int):=by grind[nE]
  have e2:add .i64 512 ((i*32:Nat):Int)=((512+i*32:Nat):Int):=qP (n:=512) (by omega);have hbk:=back_eq (s:=s.2.2.1.2.2.2.2.2.1) (o:=s.2.2.1.2.1.1) (n:=(i:Int))
  have hstx:0≤s.2.2.1.2.2.2.2.2.1.1∧s.2.2.1.2.2.2.2.2.1.1≤4294967295:=by
   by_cases e:s.2.2.1.2.2.1=0
   ·have:=(ha.p0 e).2.2.1;omega
   ·have:=(ha.pn e).2.2;have:=ha.tr;omega
  have hbk:=hbk hstx.1 hstx.2 ⟨by omega,by omega⟩ ha.hl ha.sl ha.bb;rw[if_pos (dw.2 (by omega)),e1,e2,eu (gZ.2 (by omega)),eu (iw.2 (by grind)),eu (iw.2 (Int.le_refl _)),show at? (gM s.2.2.1) 0=some s.2.2.1.2.1.1 from rfl,zD,hbk,zD,eu (iw.2 (by omega)),iT (by omega),zQ];dsimp only;rw[oV (by rw[qB,bn,hlen];omega)]
 ·intro self
  rfl
def Ql(n:Int)(fixed:Bool):Int->List fo->Bool
 | _,[]=>true
 | e,x::r=>if x.1<e∨n<x.1∨x.2.1<1∨n - x.1<x.2.1∨(fixed=true∧x.2.2.2.1=true) then false else Ql n fixed (x.1+x.2.1) r
theorem Jr(n:Int)(fixed:Bool):∀(l:List fo) (e:Int),goL (R:=Bool×Unit) (fun (e:Int) (x:fo) k=>if x.1<e∨n<x.1∨x.2.1<1∨n - x.1<x.2.1∨(fixed=true∧x.2.2.2.1=true) then some (false,()) else k (x.1+x.2.1)) (fun _=>some (true,())) l e=some (Ql n fixed e l,())
 | [],_=>rfl
 | x::r,e=>by show (if _ then _ else goL _ _ r _)=_;rw[Jr n fixed r,Ql];split<;>rfl
theorem Qm{l:List fo}{h:List Int}{fixed:Bool}(ho:∀x∈l,tC x)(hp:∀x∈l,0≤x.1)(hh:h.length≤65536)(hl:l.length≤1000):Yx ((l,h),fixed,())=some (Ql h.length fixed 0 l,()):=by
 show Yt IQ (l,h) fixed=_;unfold Yt;rw[if_neg (fun e=>by grind[jD,bn])];show IQ fixed 0 l (zF l.length) 0 (l,h)=_;rw[<- Jr];unfold IQ;refine qy (xs:=l) (mk:=fun i e=>(fixed,e,l,zF l.length,(i:Int),(l,h))) ?_ ?_ l.length 0 0 _ (by omega) (by omega)
 ·intro self i e x hx
  have hi:=(List.getElem?_eq_some_iff.1 hx).1;have hm:=zY hx;have o:=ho x hm;have p:=hp x hm;unfold tC at o;show Pj _ _ fixed e l (zF l.length) (i:Int) (l,h)=_;unfold Pj;rw[if_pos (by grind[dw,bn]),gu hx,zD];dsimp only;have K3:∀t,Yu (fun fixed endV t13 t14 t15 t=>self (fixed,endV,t13,t14,t15,t)) fixed l (zF l.length) (i:Int) t (l,h) x=if t=true then some (false,()) else self (fixed,add .i64 x.1 x.2.1,l,zF l.length,((i+1:Nat):Int),(l,h)):=fun t=>by unfold Yu ajG;rw[iT (by omega)]
  have K2:∀t,Yw (fun fixed endV t13 t14 t15 t=>self (fixed,endV,t13,t14,t15,t)) fixed l (zF l.length) (i:Int) t (l,h) x=if t=true∨(fixed=true∧x.2.2.2.1=true) then some (false,()) else self (fixed,add .i64 x.1 x.2.1,l,zF l.length,((i+1:Nat):Int),(l,h)):=fun t=>by unfold Yw ajF;rw[K3,K3];cases t<;>cases fixed<;>simp
  rw[K2,K2];simp only[true_or,if_true];rw[qQ,BS,qQ,BS,bn];by_cases q1:x.1<e
  ·simp_all
  ·rw[if_neg (by simp_all)]
   by_cases q2:(h.length:Int)<x.1
   ·simp_all
   ·rw[if_neg (by simp_all)]
    by_cases q3:x.2.1<1
    ·simp_all
    ·rw[if_neg (by simp_all),kV (by omega) (by omega)]
     by_cases q4:(h.length:Int) - x.1<x.2.1
     ·simp_all
     ·rw[jO (by omega) (by omega)]
      grind
 simp_all[Pj,zF,Int,if_neg,dw,bn]
theorem Qn{l:List fo}{h:List Bool}{fixed:Bool}(ho:∀x∈l,tC x)(hp:∀x∈l,0≤x.1)(hh:h.length≤65536)(hl:l.length≤1000):Yr ((l,h),fixed,())=some (Ql h.length fixed 0 l,()):=by
 show Yo IP (l,h) fixed=_;unfold Yo;rw[if_neg (fun e=>by grind[jD,bn])];show IP fixed 0 l (zF l.length) 0 (l,h)=_;rw[<- Jr];unfold IP;refine qy (xs:=l) (mk:=fun i e=>(fixed,e,l,zF l.length,(i:Int),(l,h))) ?_ ?_ l.length 0 0 _ (by omega) (by omega)
 ·intro self i e x hx
  have hi:=(List.getElem?_eq_some_iff.1 hx).1;have hm:=zY hx;have o:=ho x hm;have p:=hp x hm;unfold tC at o;show Ph _ _ fixed e l (zF l.length) (i:Int) (l,h)=_;unfold Ph;rw[if_pos (by grind[dw,bn]),gu hx,zD];dsimp only;have K3:∀t,Yp (fun fixed endV t13 t14 t15 t=>self (fixed,endV,t13,t14,t15,t)) fixed l (zF l.length) (i:Int) t (l,h) x=if t=true then some (false,()) else self (fixed,add .i64 x.1 x.2.1,l,zF l.length,((i+1:Nat):Int),(l,h)):=fun t=>by unfold Yp ajz;rw[iT (by omega)]
  have K2:∀t,Yq (fun fixed endV t13 t14 t15 t=>self (fixed,endV,t13,t14,t15,t)) fixed l (zF l.length) (i:Int) t (l,h) x=if t=true∨(fixed=true∧x.2.2.2.1=true) then some (false,()) else self (fixed,add .i64 x.1 x.2.1,l,zF l.length,((i+1:Nat):Int),(l,h)):=fun t=>by unfold Yq ajy;rw[K3,K3];cases t<;>cases fixed<;>simp
  rw[K2,K2];simp only[true_or,if_true];rw[qQ,BS,qQ,BS,bn];by_cases q1:x.1<e
  ·simp_all
  ·rw[if_neg (by simp_all)]
   by_cases q2:(h.length:Int)<x.1
   ·simp_all
   ·rw[if_neg (by simp_all)]
    by_cases q3:x.2.1<1
    ·simp_all
    ·rw[if_neg (by simp_all),kV (by omega) (by omega)]
     by_cases q4:(h.length:Int) - x.1<x.2.1
     ·simp_all
     ·rw[jO (by omega) (by omega)]
      grind
 simp_all[Ph,zF,Int,if_neg,dw,bn]
structure SzM(m:tF):Prop where
 c:m.1.length=16
 i:m.2.1.length=8
 h:m.2.2.1.length=756
 w:m.2.2.2.length=8
theorem Sc{s:TSl}(h:OkS s):SzM (vL s):=⟨h.c,Qk _,J7 h.a,rfl⟩
theorem Qo{k:Int}{r w h:Bool}:∀x ∈ [((0:Int),k,r,w,h)],0≤x.1:=fun x hx=>by simp_all
theorem atF:∀x∈SPH,0≤x.1:=by decide
theorem acG{m:tF}(h:SzM m):Yy (SP,m,())=some (true,()):=by obtain⟨c,i,hd,w⟩:=m;have hc:c.length=16:=h.c;have hi:i.length=8:=h.i;have hh:hd.length=756:=h.h;have hw:w.length=8:=h.w;show ajH SP (c,i,hd,w)=_;unfold ajH;have ho:Iy (SP,(c,i,hd,w),())=some ((([(0,16,true,true,false)],c),([(0,8,true,false,false)],i),(SPH,hd),[(0,8,true,false,false)],w),()):=rfl;rw[ho,zD];dsimp only;rw[Qn (wN (by decide) (by decide)) Qo (by omega) (by decide),zD,hc,if_pos (by decide),Qn (wN (by decide) (by decide)) Qo (by omega) (by decide),zD,hi,if_pos (by decide),Qm Dk atF (by omega) (by decide),zD,hh,if_pos (by decide),Qm (wN (by decide) (by decide)) Qo (by omega) (by decide),hw];rfl
def l7(c:List Bool)(p n:Nat):List Bool:=(c.drop p).take n++zE ((n+7) / 8*8 - n) false
theorem Qp{c:List Bool}{p n:Int}(hp:0≤p)(hn:0≤n)(hh:c.length≤100000)(hle:p+n≤c.length)(l:List fo):Yz ((l,c),p,n,8,())=some (l7 c p.toNat n.toNat,()):=by
 obtain⟨p,rfl⟩:=zN hp;obtain⟨n,rfl⟩:=zN hn;have e1:mul .i64 (quo .i64 (sub .i64 (add .i64 (n:Int) 8) 1) 8) 8=(((n+7) / 8*8:Nat):Int):=by have e0:add .i64 (n:Int) 8=((n+8:Nat):Int):=qP (m:=8) (by omega);rw[e0,kV (by omega) (by omega),show (((n+8:Nat):Int) - 1)=((n+7:Nat):Int) by omega];have:=pz (i:=n+7) (d:=8) (by omega);rw[show (8:Int)=((8:Nat):Int) from rfl,this,nE (by omega) (by omega)];omega
 show ajI (l,c) (p:Int) (n:Int) 8=_;unfold ajI;rw[e1,eu (by decide),eu (gZ.2 (by omega)),eu (rR _),zQ,jw (by omega),qP (by omega)];dsimp only;rw[xW (by omega) (by omega),zD,kD,eu (iw.2 (by simp))];have hlen:((c.take (p+n)).drop p).length=n:=by grind
 have ht:((c.take (p+n)).drop p)=(c.drop p).take n:=by grind
 rw[bn,zQ,List.take_of_length_le (show ((c.take (p+n)).drop p).length≤(n+7) / 8*8 by omega),hlen,List.drop_replicate,ht];simp_all[l7,zQ,Nat.zero_add]
def isE(f:Int):Bool:=decide (f=5∨f=6∨f=15∨f=16)
def K6(a:TA):TR:=if a.1=5 then (5,0,[a.2.2.2.2.2.headD false],[],a.2.1,0) else if a.1=6 then (6,0,[],[a.2.2.2.2.1.headD 0],a.2.1,0) else (a.1,0,[],[],a.2.1,a.2.2.1)
theorem Qq{a:TA}(h:OkA a)(hr:iY a=true):vw (a,())=some (if isE a.1=true then K6 a else zR,isE a.1,()):=by
 show Ib Oe WO a=_;unfold Ib;rw[right_eq h,hr,zD,if_neg (by decide)]
 cases mD hr with
 | bits f p n hf h1 h2=>rcases hf with rfl | rfl<;>rfl
 | words f p n hf h1 h2=>rcases hf with rfl | rfl<;>rfl
 | coil p b=>rfl
 | word p x=>rfl
 | coils p l h1 h2=>rfl
 | regs p l h1 h2=>rfl
 | swap p n t l h1 h2 h3 h4=>rfl
def ET(m:tF)(a:TA):TR :=
 if a.1=1 then (a.1,0,l7 m.1 a.2.1.toNat a.2.2.1.toNat,[],0,0)
 else if a.1=2 then (a.1,0,l7 m.2.1 a.2.1.toNat a.2.2.1.toNat,[],0,0)
 else if a.1=4 then (a.1,0,[],(m.2.2.2.drop a.2.1.toNat).take a.2.2.1.toNat,0,0)
 else (a.1,0,[],(m.2.2.1.drop a.2.1.toNat).take a.2.2.1.toNat,0,0)
def wrM(m:tF)(a:TA):tF :=
 if a.1=5∨a.1=15 then (cpy m.1 a.2.1.toNat a.2.2.2.2.2,m.2)
 else if a.1=16 then (m.1,m.2.1,cpy m.2.2.1 a.2.1.toNat a.2.2.2.2.1,m.2.2.2)
 else if a.1=23 then (m.1,m.2.1,cpy m.2.2.1 a.2.2.2.1.toNat a.2.2.2.2.1,m.2.2.2)
 else m
def doM(m:tF)(a:TA):tF×TR:=if jU a=true then (wrM m a,if isE a.1=true then K6 a else ET (wrM m a) a) else (m,(a.1,2,[],[],0,0))
theorem Ad{s:List Bool}(h:s.length≤1000000):Ec (s,())=some (s,()):=by
 show aeI s=_;unfold aeI;by_cases h0:s.length=0
 ·have:s=[]:=List.eq_nil_of_length_eq_zero h0
  subst this;rfl
 ·rw[if_neg (by grind[bu,bn]),jw (by omega)]
theorem atG(a:TA)(m:tF)(u:Int×Int):Pm a 0 0 0 0 m.1 m.2.1 m.2.2.1 m.2.2.2 SP.1 SP.2.1 SP.2.2.1 SP.2.2.2 u=zC (vw (a,())) fun y=>if y.2.1=true then some (m,y.1,()) else zC (Pk (((SP.1,m.1),(SP.2.1,m.2.1),(SP.2.2.1,m.2.2.1),SP.2.2.2,m.2.2.2),u.1,a,())) fun y=>some (m,y.1,()):=rfl
theorem acH{m:tF}(h:SzM m){a:TA}(ha:OkA a)(hr:iY a=true)(hc:jU a=true):SzM (wrM m a):=by
 have p0:=ha.at0;have t0:=ha.t0;unfold wrM;unfold jU at hc;split
 ·rename_i q
  rw[if_neg (by omega),if_neg (by omega),if_neg (by omega),if_pos q,decide_eq_true_eq]at hc;exact⟨by rw[rV (by have:=h.c;omega)];exact h.c,h.i,h.h,h.w⟩
 ·rename_i q
  split
  ·rename_i q2
   rw[if_neg (by omega),if_neg (by omega),if_neg (by omega),if_neg q,if_neg (by omega),decide_eq_true_eq]at hc;exact⟨h.c,h.i,by show (cpy _ _ _).length=756;rw[rV (by have:=h.h;omega)];exact h.h,h.w⟩
  ·rename_i q2
   split
   ·rename_i q3
    rw[if_neg (by omega),if_neg (by omega),if_neg (by omega),if_neg q,if_pos q3,zO,decide_eq_true_eq]at hc;exact⟨h.c,h.i,by show (cpy _ _ _).length=756;rw[rV (by have:=h.h;omega)];exact h.h,h.w⟩
   omega
theorem acI{m:tF}(h:SzM m){a:TA}(ha:OkA a)(hr:iY a=true)(hc:jU a=true)(he:isE a.1=false)(k:Int)(hk:k=(if a.1=1 then 1 else if a.1=2 then 2 else if a.1=4 then 4 else 3)) :
  Pk (((SP.1,m.1),(SP.2.1,m.2.1),(SP.2.2.1,m.2.2.1),SP.2.2.2,m.2.2.2),k,a,())=some (ET m a,()):=by
 have p0:=ha.at0;have p1:=ha.at1;have m0:=ha.m0;have m1:=ha.m1;have hcp:cvt .i64 a.2.1=a.2.1:=iU (by omega) (by omega);have hcn:cvt .i64 a.2.2.1=a.2.2.1:=iU (by omega) (by omega);have h1:=h.c;have h2:=h.i;have h3:=h.h;have h4:=h.w
 have hn:1≤a.2.2.1∨isE a.1=true:=by
  cases mD hr with
  | bits f p n hf h1 h2=>simp_all
  | words f p n hf h1 h2=>simp_all
  | coil p b=>exact Or.inr rfl
  | word p x=>exact Or.inr rfl
  | coils p l h1 h2=>grind
  | regs p l h1 h2=>grind
  | swap p n t l g1 g2 g3 g4=>simp_all
 have hn1:1≤a.2.2.1:=by simp_all
 show ajK _ k a=_;unfold ajK;unfold jU at hc;unfold ET;rw[hcp,hcn];by_cases q1:a.1=1
 ·rw[if_pos q1]at hk hc
  rw[decide_eq_true_eq]at hc;subst hk;rw[if_pos (by rfl),if_pos q1];grind[Qp]
 ·rw[if_neg q1]at hk hc
  by_cases q2:a.1=2
  ·rw[if_pos q2]at hk
   rw[if_pos (Or.inl q2),decide_eq_true_eq]at hc;subst hk;rw[if_neg (by decide),if_pos (by rfl),if_neg q1,if_pos q2];grind[Qp]
  ·rw[if_neg q2]at hk
   by_cases q4:a.1=4
   ·rw[if_pos q4]at hk
    rw[if_pos (Or.inr q4),decide_eq_true_eq]at hc;subst hk;rw[if_neg (by decide),if_neg (by decide),if_neg (by decide),if_pos (by rfl),if_neg q1,if_neg q2,if_pos q4];grind[Qj]
   ·rw[if_neg q4]at hk
    rw[if_neg (by omega)]at hc;subst hk;rw[if_neg (by decide),if_neg (by decide),if_pos (by rfl),if_neg q1,if_neg q2,if_neg q4]
    have hle:rdH a.2.1 a.2.2.1.toNat=true:=by
     by_cases q3:a.1=3
     ·simp_all
     ·rw[if_neg q3]at hc
      by_cases q5:a.1=5∨a.1=15
      ·simp_all[absurd,decide_eq_true,isE]
      ·rw[if_neg q5]at hc
       by_cases q6:a.1=23
       ·simp_all
       ·exfalso
        have:a.1=6∨a.1=16:=by
         cases mD hr with
         | bits f p n hf=>omega
         | words f p n hf=>omega
         | coil p b=>omega
         | word p x=>omega
         | coils p l=>omega
         | regs p l=>omega
         | swap p n t l=>omega
        simp_all[absurd,decide_eq_true,isE]
    have:=Qh (by omega) hle;grind[Qj]
theorem atH{m:tF}(h:SzM m){a:TA}(ha:OkA a)(hr:iY a=true):lD (SP,m,a,())=some ((doM m a).1,(doM m a).2,()):=by
 have hf:=Dl hr;have h1:=h.c;have h2:=h.i;have h3:=h.h;have h4:=h.w;have p0:=ha.at0;have t0:=ha.t0;have lw:=ha.lw;have lb:=ha.lb;show YD Pm SP m a=_;unfold YD;rw[Ad (by omega),zD,Ad (by omega),zD,Ab (by omega),zD,Ab (by omega),zD,Qi ha hr,zD];dsimp only;unfold doM
 cases hc:jU a with
 | false =>
  simp only[Bool.false_eq_true,if_false];rw[if_pos (show nei 2 0=true by decide),Ac,zD,FU (by omega) hf.2]
 | true =>
  rw[if_pos rfl,if_neg (by decide),acG h,zD,if_neg (by decide),R8,zD,J5 ha,zD,if_pos rfl];have hsz:=acH h ha hr hc
  have fin:∀k:Int×Int,(isE a.1=false->k.1=(if a.1=1 then 1 else if a.1=2 then 2 else if a.1=4 then 4 else 3))->Pm a 0 0 0 0 (wrM m a).1 (wrM m a).2.1 (wrM m a).2.2.1 (wrM m a).2.2.2 SP.1 SP.2.1 SP.2.2.1 SP.2.2.2 k=some (wrM m a,if isE a.1=true then K6 a else ET (wrM m a) a,()):=fun k hk=>by
   rw[atG,Qq ha hr,zD]
   cases he:isE a.1 with
   | true=>rfl
   | false =>
    rw[if_neg (fun e=>Bool.false_ne_true e),if_neg (fun e=>Bool.false_ne_true e),acI hsz ha hr hc he _ (hk he)];rfl
  have hcc:=hc;unfold jU at hc
  cases hra:mD hr with
  | bits f p n hf' g1 g2 =>
   rcases hf' with rfl | rfl
   ·exact fin (1,0) (fun _=>rfl)
   ·exact fin (2,0) (fun _=>rfl)
  | words f p n hf' g1 g2 =>
   rcases hf' with rfl | rfl
   ·exact fin (3,0) (fun _=>rfl)
   ·exact fin (4,0) (fun _=>rfl)
  | coil p b =>
   have hle:p+((1:Nat):Int)≤16:=of_decide_eq_true hc;have p0:0≤p:=p0;refine Eq.trans ?_ (fin (0,1) (fun e=>by cases e));dsimp only;rw[if_neg (show ¬ (5:Int)=23 by decide)];show need (ge p 0) (need (le p (zF m.1.length)) (need (le (zF m.1.length) (zF m.1.length)) (need (le (p+(zF m.1.length - p)) (zF m.1.length)) _)))=_;rw[eu (gZ.2 p0),eu (iw.2 (by grind)),eu (iw.2 (Int.le_refl _)),eu (iw.2 (by omega))];rw[oV (w:=[b]) (by grind)];rfl
  | word p x =>
   simp_all
  | coils p l g1 g2 =>
   have hle:p+(l.length:Int)≤16:=of_decide_eq_true hc;have p0:0≤p:=p0;refine Eq.trans ?_ (fin (0,1) (fun e=>by cases e));dsimp only;rw[if_neg (show ¬ (15:Int)=23 by decide)];show need (ge p 0) (need (le p (zF m.1.length)) (need (le (zF m.1.length) (zF m.1.length)) (need (le (p+(zF m.1.length - p)) (zF m.1.length)) _)))=_;rw[eu (gZ.2 p0),eu (iw.2 (by grind)),eu (iw.2 (Int.le_refl _)),eu (iw.2 (by omega))];rw[oV (w:=l) (by grind)];rfl
  | regs p l g1 g2 =>
   have hle:p=272∧l.length=8∨p=288∧l.length=20:=of_decide_eq_true hc;have p0:0≤p:=p0;refine Eq.trans ?_ (fin (0,3) (fun e=>by cases e));dsimp only;rw[if_neg (show ¬ (16:Int)=23 by decide)];show need (ge p 0) (need (le p (zF m.2.2.1.length)) (need (le (zF m.2.2.1.length) (zF m.2.2.1.length)) (need (le (p+(zF m.2.2.1.length - p)) (zF m.2.2.1.length)) _)))=_;rw[eu (gZ.2 p0),eu (iw.2 (by grind)),eu (iw.2 (Int.le_refl _)),eu (iw.2 (by omega))];rw[oV (w:=l) (by grind)];rfl
  | swap p n t l g1 g2 g3 g4 =>
   have hle:t=272∧l.length=8∨t=288∧l.length=20:=of_decide_eq_true (zO _ _ ▸ hc:_∧_).2;have t0:0≤t:=t0;refine Eq.trans ?_ (fin (3,3) (fun _=>rfl));dsimp only;rw[if_pos (show (23:Int)=23 by decide)];show need (ge t 0) (need (le t (zF m.2.2.1.length)) (need (le (zF m.2.2.1.length) (zF m.2.2.1.length)) (need (le (t+(zF m.2.2.1.length - t)) (zF m.2.2.1.length)) _)))=_;rw[eu (gZ.2 t0),eu (iw.2 (by grind)),eu (iw.2 (Int.le_refl _)),eu (iw.2 (by omega))];rw[oV (w:=l) (by grind)];rfl
end Go.Proofs.Lx
end
