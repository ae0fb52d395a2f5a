/- Proved in the last of these 15 parts (this is part 12): TalkEnds. Conditions: those of the given statement, and no others. -/
import Derived.Test.YtljkanofaahagaaGreatCPartj
import Derived.Test.YtljkanofaahagaaGreatCPartk
set_option linter.unusedVariables false
set_option linter.unusedSimpArgs false
set_option linter.unusedSectionVars false
open Option renaming bind → zC, bind_some → zD
open List renaming replicate → zE, mem_cons_of_mem → zT, getElem?_eq_getElem → zV, mem_of_getElem? → zY, length_append → zZ, length_take → kB, length_replicate → kD
open Int renaming ofNat → zF, toNat → zI, eq_ofNat_of_zero_le → zN, toNat_natCast → zQ
open Bool renaming and_eq_true → zO
noncomputable section
namespace Go.Proofs.Lx
open Go Ev Sx Pl
set_option maxRecDepth 100000
abbrev d9:=Int×Int×Bool×Bool×Bool
def jO(x:d9)(i:Int):Bool:=decide (1≤x.2.1∧x.1≤i∧i<x.1+x.2.1)
def gB(l:List d9)(i:Int):Option d9:=l.find? fun x=>jO x i
def kW(w:d9->Bool)(l:List d9)(i:Int):Bool:=match gB l i with
 | some x=>w x
 | none=>false
def iw(w:d9->Bool)(l:List d9)(p:Int)(m:Nat):Bool:=(List.range m).all fun k=>kW w l (p+(k:Int))
def rR(x:d9):Prop:=-9223372036854775808≤x.1∧x.1≤9223372036854775807∧-9223372036854775808≤x.2.1∧x.2.1≤9223372036854775807
theorem qH(n:Int):iX n n=true:=by unfold iX;rw[if_pos rfl]
theorem yA{x:d9}{p e:Int}(h0:0≤p)(hpe:p≤e)(he:e≤1000000000000)(hx:rR x) :
  ∃f t,vT (x,p,e,())=some (f,t,())∧p≤f∧f≤e∧t≤e∧∀i,p≤i->i<e->(jO x i=true↔f≤i∧i<t):=by
 obtain⟨x1,x2,x3,x4⟩:=hx;show ∃f t,Wd Nq x p e=_∧_;unfold Wd;have none:∃f t,Nq p e true x=some (f,t,())∧f=p∧t=p:=⟨p,p,rfl,rfl,rfl⟩;by_cases hm:x.2.1<1
 ·rw[if_pos (cu.2 hm)]
  obtain⟨f,t,h1,rfl,rfl⟩:=none;refine⟨_,_,h1,Int.le_refl _,hpe,hpe,fun i hi hie=>?_⟩;unfold jO;rw[decide_eq_true_eq];omega
 ·rw[if_neg (fun h=>hm (cu.1 h))]
  by_cases ha:e≤x.1
  ·rw[gY.2 ha]
   obtain⟨f,t,h1,rfl,rfl⟩:=none;refine⟨_,_,h1,Int.le_refl _,hpe,hpe,fun i hi hie=>?_⟩;unfold jO;rw[decide_eq_true_eq];omega
  ·rw[show ge x.1 e=false from decide_eq_false ha]
   have K3:∀t,Wh p t x=some (if p<x.1 then x.1 else p,t,()):=fun t=>by unfold Wh ahq;simp only[gq]
   have K2t:Np p e e true x=some (if p<x.1 then x.1 else p,(if x.1+x.2.1<e then x.1+x.2.1 else e),())∨¬ (x.1<0∨x.2.1<e - x.1):=by
    by_cases hc:x.1<0∨x.2.1<e - x.1
    ·left
     unfold Np V9;have hadd:add .i64 x.1 x.2.1=x.1+x.2.1:=jg (by omega) (by omega);rw[if_pos rfl,K3,hadd];simp only[cu]
    ·exact .inr hc
   have fin:∀t,(t=(if x.1+x.2.1<e then x.1+x.2.1 else e))->p≤(if p<x.1 then x.1 else p)∧(if p<x.1 then x.1 else p)≤e∧t≤e∧∀i,p≤i->i<e->(jO x i=true↔(if p<x.1 then x.1 else p)≤i∧i<t):=fun t ht=>by subst ht;refine⟨by split<;>omega,by split<;>omega,by split<;>omega,fun i hi hie=>?_⟩;unfold jO;rw[decide_eq_true_eq];split<;>split<;>omega
   unfold Nq ahp;rw[if_neg (by decide)];by_cases hn:x.1<0
   ·rw[if_pos (cu.2 hn)]
    rcases K2t with h | h
    ·obtain⟨g1,g2,g3,g4⟩:=fin _ rfl
     exact⟨_,_,h,g1,g2,g3,g4⟩
    ·exact absurd (.inl hn) h
   ·rw[if_neg (fun h=>hn (cu.1 h)),lH (by omega) (by omega)]
    by_cases hc:x.2.1<e - x.1
    ·rw[cu.2 hc]
     rcases K2t with h | h
     ·obtain⟨g1,g2,g3,g4⟩:=fin _ rfl
      exact⟨_,_,h,g1,g2,g3,g4⟩
     ·exact absurd (.inr hc) h
    ·rw[show lt x.2.1 (e - x.1)=false from decide_eq_false hc]
     unfold Np V9;rw[if_neg (by decide),K3];obtain⟨g1,g2,g3,g4⟩:=fin e (by rw[if_neg (by omega)]);exact⟨_,_,rfl,g1,g2,g3,g4⟩
theorem sM{l:List d9}{t:Nat}{i:Int}{y:d9}(h:gB (l.take t) i=some y):gB l i=some y:=by
 have:gB l i=(gB (l.take t) i).or (gB (l.drop t) i):=by unfold gB;rw[<- List.find?_append,List.take_append_drop]
 rw[this,h];rfl
theorem kX{l:List d9}{t:Nat}(ht:t<l.length)(i:Int):gB (l.take (t+1)) i=(gB (l.take t) i).or (if jO l[t] i=true then some l[t] else none):=by
 unfold gB;rw[List.take_succ_eq_append_getElem ht,List.find?_append]
 congr 1
 simp only[List.find?_cons,List.find?_nil];cases jO l[t] i<;>rfl
def kI(w:d9->Bool)(l:List d9)(p:Int)(m:Nat)(c:Int->Bool)(met:List Bool)(left:Int):Prop :=
 met.length=m∧left=((met.countP fun b=>!b:Nat):Int)∧∀k:Nat,k<m->met[k]? = some (c (p+(k:Int)))∧(c (p+(k:Int))=true->kW w l (p+(k:Int))=true)
theorem JI(w:d9->Bool)(l:List d9)(p:Int)(m:Nat):kI w l p m (fun i=>(gB (l.take 0) i).isSome) (zE m false) (m:Int):=by
 refine⟨kD ..,?_,fun k hk=>⟨?_,fun e=>by cases e⟩⟩
 ·rw[List.countP_replicate]
  rfl
 ·rw[List.getElem?_replicate,if_pos hk]
  rfl
theorem nO{w:d9->Bool}{l:List d9}{p:Int}{m:Nat}{c:Int->Bool}{met:List Bool}{left:Int}(h:kI w l p m c met left)(h0:left=0):iw w l p m=true:=by
 obtain⟨h1,h2,h3⟩:=h;unfold iw;rw[List.all_eq_true];intro k hk;rw[List.mem_range]at hk;obtain⟨e1,e2⟩:=h3 k hk;refine e2 ?_;have hz:met.countP (fun b=>!b)=0:=by omega
 have:=List.countP_eq_zero.1 hz _ (zY e1);simpa using this
theorem yB{w:d9->Bool}{l:List d9}{p:Int}{m:Nat}{met:List Bool}{left:Int}(h:kI w l p m (fun i=>(gB l i).isSome) met left)(h0:left≠0):iw w l p m=false:=by
 obtain⟨h1,h2,h3⟩:=h;rw[<- Bool.not_eq_true];intro hall;unfold iw at hall;rw[List.all_eq_true]at hall;apply h0;rw[h2]
 have:met.countP (fun b=>!b)=0:=by
  rw[List.countP_eq_zero];intro b hb;obtain⟨k,hk,rfl⟩:=List.getElem_of_mem hb;have e1:=(h3 k (by omega)).1;have hw:=hall k (List.mem_range.2 (by omega));unfold kW at hw;rw[zV hk]at e1;dsimp only at e1
  cases hf:gB l (p+(k:Int)) with
  | none=>rw[hf]at hw;cases hw
  | some y =>
   rw[hf]at e1;have e1:met[k]=true:=by simpa using e1
   rw[e1];decide
 rw[this];rfl
theorem uZ{w:d9->Bool}{l:List d9}{p:Int}{m k:Nat}(hk:k<m)(h:kW w l (p+(k:Int))=false):iw w l p m=false:=by rw[<- Bool.not_eq_true];intro hall;unfold iw at hall;rw[List.all_eq_true]at hall;have:=hall k (List.mem_range.2 hk);rw[h]at this;cases this
theorem oq{w:d9->Bool}{l:List d9}{p:Int}{m:Nat}{c c':Int->Bool}{met:List Bool}{left:Int}(h:kI w l p m c met left)(hc:∀k:Nat,k<m->c' (p+(k:Int))=c (p+(k:Int))):kI w l p m c' met left :=
 ⟨h.1,h.2.1,fun k hk=>by rw[hc k hk];exact h.2.2 k hk⟩
theorem B5{w:d9->Bool}{l:List d9}{p:Int}{m k:Nat}{c:Int->Bool}{met:List Bool}{left:Int}(h:kI w l p m c met left)(hk:k<m)(hf:c (p+(k:Int))=false)(hw:kW w l (p+(k:Int))=true) :
  kI w l p m (fun i=>c i || decide (i=p+(k:Int))) (met.set k true) (left - 1):=by
 obtain⟨h1,h2,h3⟩:=h;have hg:=(h3 k hk).1;have hkl:k<met.length:=by omega
 rw[zV hkl,hf]at hg;have hg:met[k]=false:=by simpa using hg
 refine⟨by simp[h1],?_,fun j hj=>?_⟩
 ·have hpos:0<met.countP (fun b=>!b):=by rw[List.countP_pos_iff];exact⟨met[k],List.getElem_mem hkl,by rw[hg];rfl⟩
  rw[List.countP_set hkl,hg,h2];simp only[Bool.not_false,if_true,Bool.not_true,Bool.false_eq_true,if_false];omega
 ·obtain⟨e1,e2⟩:=h3 j hj
  dsimp only;by_cases hjk:k=j
  ·subst hjk
   refine⟨?_,fun _=>hw⟩;rw[List.getElem?_set_self hkl,decide_eq_true rfl,Bool.or_true]
  ·have:¬ (p+(j:Int)=p+(k:Int)):=by omega
   refine⟨?_,fun e=>?_⟩
   ·rw[List.getElem?_set_ne hjk,e1,decide_eq_false this,Bool.or_false]
   ·rw[decide_eq_false this,Bool.or_false]at e
    exact e2 e
@[reducible] def zL0:Type:=Int->Int->Int->List (Int×Int×Bool×Bool×Bool)->Int->Int->List Bool->Option (As [.bool])
@[reducible] def zL1:Type:=(Int)×(Int)×(Int)×(Int)×(Int)×(List (Int×Int×Bool×Bool×Bool))×(Int)×(Int)×(List Bool)×(Int×Int×Bool×Bool×Bool)->Option (As [.bool])
@[reducible] def zL2:Type:=(Int)×(Int)×(Int)×(Int)×(Int)×(List (Int×Int×Bool×Bool×Bool))×(Int)×(Int)×(List Bool)×(Int×Int×Bool×Bool×Bool)
def aqZ(u1:zL0):=(fun (self:zL1) (s:zL2)=>Nw (GQ u1 (fun at' many left to' i t19 t20 t21 met x=>self (at',many,left,to',i,t19,t20,t21,met,x))) u1 (fun at' many left to' i t19 t20 t21 met x=>self (at',many,left,to',i,t19,t20,t21,met,x)) s.1 s.2.1 s.2.2.1 s.2.2.2.1 s.2.2.2.2.1 s.2.2.2.2.2.1 s.2.2.2.2.2.2.1 s.2.2.2.2.2.2.2.1 s.2.2.2.2.2.2.2.2.1 s.2.2.2.2.2.2.2.2.2)
@[reducible] def zL3:Type:=List (Int×Int×Bool×Bool×Bool)
@[reducible] def zL4:Type:=Int×Int×Bool×Bool×Bool
theorem azt(u1:zL0)(self:zL1)(at' many left to' i:Int)(t19:zL3)(t20 t21:Int)(met:List Bool)(x:zL4):aqZ u1 self (at',many,left,to',i,t19,t20,t21,met,x)=Nw (GQ u1 (fun at' many left to' i t19 t20 t21 met x=>self (at',many,left,to',i,t19,t20,t21,met,x))) u1 (fun at' many left to' i t19 t20 t21 met x=>self (at',many,left,to',i,t19,t20,t21,met,x)) at' many left to' i t19 t20 t21 met x:=rfl
theorem azu(u1:zL0)(at' many left to' i:Int)(t19:zL3)(t20 t21:Int)(met:List Bool)(x:zL4):Dq u1 at' many left to' i t19 t20 t21 met x=bu (aqZ u1) 18446744073709551616 (at',many,left,to',i,t19,t20,t21,met,x):=rfl
@[reducible] def zL5:Type:=(Int)×(Int)×(Int)×(List (Int×Int×Bool×Bool×Bool))×(Int)×(Int)×(List Bool)->Option (As [.bool])
@[reducible] def zL6:Type:=(Int)×(Int)×(Int)×(List (Int×Int×Bool×Bool×Bool))×(Int)×(Int)×(List Bool)
def aq0 :=(fun (self:zL5) (s:zL6)=>Nv (Ny) (Dq (fun at' many left t19 t20 t21 met=>self (at',many,left,t19,t20,t21,met))) (fun at' many left t19 t20 t21 met=>self (at',many,left,t19,t20,t21,met)) s.1 s.2.1 s.2.2.1 s.2.2.2.1 s.2.2.2.2.1 s.2.2.2.2.2.1 s.2.2.2.2.2.2)
theorem azv  (self:zL5)(at':Int)(many:Int)(left:Int)(t19:zL3)(t20:Int)(t21:Int)(met:List Bool):aq0 self (at',many,left,t19,t20,t21,met)=Nv (Ny) (Dq (fun at' many left t19 t20 t21 met=>self (at',many,left,t19,t20,t21,met))) (fun at' many left t19 t20 t21 met=>self (at',many,left,t19,t20,t21,met)) at' many left t19 t20 t21 met:=rfl
theorem azw  (at':Int)(many:Int)(left:Int)(t19:zL3)(t20:Int)(t21:Int)(met:List Bool):Nz at' many left t19 t20 t21 met=bu (aq0) 18446744073709551616 (at',many,left,t19,t20,t21,met):=rfl
def aq1(u1:zL0):=(fun (self:zL1) (s:zL2)=>NG (GX u1 (fun at' many left to' i t19 t20 t21 met x=>self (at',many,left,to',i,t19,t20,t21,met,x))) u1 (fun at' many left to' i t19 t20 t21 met x=>self (at',many,left,to',i,t19,t20,t21,met,x)) s.1 s.2.1 s.2.2.1 s.2.2.2.1 s.2.2.2.2.1 s.2.2.2.2.2.1 s.2.2.2.2.2.2.1 s.2.2.2.2.2.2.2.1 s.2.2.2.2.2.2.2.2.1 s.2.2.2.2.2.2.2.2.2)
theorem azx(u1:zL0)(self:zL1)(at' many left to' i:Int)(t19:zL3)(t20 t21:Int)(met:List Bool)(x:zL4):aq1 u1 self (at',many,left,to',i,t19,t20,t21,met,x)=NG (GX u1 (fun at' many left to' i t19 t20 t21 met x=>self (at',many,left,to',i,t19,t20,t21,met,x))) u1 (fun at' many left to' i t19 t20 t21 met x=>self (at',many,left,to',i,t19,t20,t21,met,x)) at' many left to' i t19 t20 t21 met x:=rfl
theorem azy(u1:zL0)(at' many left to' i:Int)(t19:zL3)(t20 t21:Int)(met:List Bool)(x:zL4):Dt u1 at' many left to' i t19 t20 t21 met x=bu (aq1 u1) 18446744073709551616 (at',many,left,to',i,t19,t20,t21,met,x):=rfl
def aq2 :=(fun (self:zL5) (s:zL6)=>NF (NH) (Dt (fun at' many left t19 t20 t21 met=>self (at',many,left,t19,t20,t21,met))) (fun at' many left t19 t20 t21 met=>self (at',many,left,t19,t20,t21,met)) s.1 s.2.1 s.2.2.1 s.2.2.2.1 s.2.2.2.2.1 s.2.2.2.2.2.1 s.2.2.2.2.2.2)
theorem azz  (self:zL5)(at':Int)(many:Int)(left:Int)(t19:zL3)(t20:Int)(t21:Int)(met:List Bool):aq2 self (at',many,left,t19,t20,t21,met)=NF (NH) (Dt (fun at' many left t19 t20 t21 met=>self (at',many,left,t19,t20,t21,met))) (fun at' many left t19 t20 t21 met=>self (at',many,left,t19,t20,t21,met)) at' many left t19 t20 t21 met:=rfl
theorem azA  (at':Int)(many:Int)(left:Int)(t19:zL3)(t20:Int)(t21:Int)(met:List Bool):NI at' many left t19 t20 t21 met=bu (aq2) 18446744073709551616 (at',many,left,t19,t20,t21,met):=rfl
@[reducible] def zL7:Type:=Int->Int->Int->List (Int×Int×Bool×Bool×Bool)->Int->Int->Int->Int->List Bool->Option (As [.bool,.int .i64,.int .i64])
@[reducible] def zL8:Type:=(Int)×(Int)×(Int)×(Int)×(Int)×(List (Int×Int×Bool×Bool×Bool))×(Int)×(Int)×(Int)×(Int)×(List Bool)×(Int×Int×Bool×Bool×Bool)->Option (As [.bool,.int .i64,.int .i64])
@[reducible] def zL9:Type:=(Int)×(Int)×(Int)×(Int)×(Int)×(List (Int×Int×Bool×Bool×Bool))×(Int)×(Int)×(Int)×(Int)×(List Bool)×(Int×Int×Bool×Bool×Bool)
def aq3(u1:zL7):=(fun (self:zL8) (s:zL9)=>NB (GU u1 (fun at' many left to' i t19 t20 t21 o o_2 met x=>self (at',many,left,to',i,t19,t20,t21,o,o_2,met,x))) u1 (fun at' many left to' i t19 t20 t21 o o_2 met x=>self (at',many,left,to',i,t19,t20,t21,o,o_2,met,x)) s.1 s.2.1 s.2.2.1 s.2.2.2.1 s.2.2.2.2.1 s.2.2.2.2.2.1 s.2.2.2.2.2.2.1 s.2.2.2.2.2.2.2.1 s.2.2.2.2.2.2.2.2.1 s.2.2.2.2.2.2.2.2.2.1 s.2.2.2.2.2.2.2.2.2.2.1 s.2.2.2.2.2.2.2.2.2.2.2)
theorem azB(u1:zL7)(self:zL8)(at' many left to' i:Int)(t19:zL3)(t20 t21 o o_2:Int)(met:List Bool)(x:zL4):aq3 u1 self (at',many,left,to',i,t19,t20,t21,o,o_2,met,x)=NB (GU u1 (fun at' many left to' i t19 t20 t21 o o_2 met x=>self (at',many,left,to',i,t19,t20,t21,o,o_2,met,x))) u1 (fun at' many left to' i t19 t20 t21 o o_2 met x=>self (at',many,left,to',i,t19,t20,t21,o,o_2,met,x)) at' many left to' i t19 t20 t21 o o_2 met x:=rfl
theorem azC(u1:zL7)(at' many left to' i:Int)(t19:zL3)(t20 t21 o o_2:Int)(met:List Bool)(x:zL4):Dr u1 at' many left to' i t19 t20 t21 o o_2 met x=bu (aq3 u1) 18446744073709551616 (at',many,left,to',i,t19,t20,t21,o,o_2,met,x):=rfl
@[reducible] def YH:Type:=(Int)×(Int)×(Int)×(List (Int×Int×Bool×Bool×Bool))×(Int)×(Int)×(Int)×(Int)×(List Bool)->Option (As [.bool,.int .i64,.int .i64])
@[reducible] def aq4:Type:=(Int)×(Int)×(Int)×(List (Int×Int×Bool×Bool×Bool))×(Int)×(Int)×(Int)×(Int)×(List Bool)
def aq5 :=(fun (self:YH) (s:aq4)=>NA (NC) (Dr (fun at' many left t19 t20 t21 o o_2 met=>self (at',many,left,t19,t20,t21,o,o_2,met))) (fun at' many left t19 t20 t21 o o_2 met=>self (at',many,left,t19,t20,t21,o,o_2,met)) s.1 s.2.1 s.2.2.1 s.2.2.2.1 s.2.2.2.2.1 s.2.2.2.2.2.1 s.2.2.2.2.2.2.1 s.2.2.2.2.2.2.2.1 s.2.2.2.2.2.2.2.2)
theorem azD  (self:YH)(at':Int)(many:Int)(left:Int)(t19:zL3)(t20:Int)(t21:Int)(o:Int)(o_2:Int)(met:List Bool):aq5 self (at',many,left,t19,t20,t21,o,o_2,met)=NA (NC) (Dr (fun at' many left t19 t20 t21 o o_2 met=>self (at',many,left,t19,t20,t21,o,o_2,met))) (fun at' many left t19 t20 t21 o o_2 met=>self (at',many,left,t19,t20,t21,o,o_2,met)) at' many left t19 t20 t21 o o_2 met:=rfl
theorem azE  (at':Int)(many:Int)(left:Int)(t19:zL3)(t20:Int)(t21:Int)(o:Int)(o_2:Int)(met:List Bool):ND at' many left t19 t20 t21 o o_2 met=bu (aq5) 18446744073709551616 (at',many,left,t19,t20,t21,o,o_2,met):=rfl
def aq6(u1:zL7):=(fun (self:zL8) (s:zL9)=>NK (GZ u1 (fun at' many left to' i t19 t20 t21 o o_2 met x=>self (at',many,left,to',i,t19,t20,t21,o,o_2,met,x))) u1 (fun at' many left to' i t19 t20 t21 o o_2 met x=>self (at',many,left,to',i,t19,t20,t21,o,o_2,met,x)) s.1 s.2.1 s.2.2.1 s.2.2.2.1 s.2.2.2.2.1 s.2.2.2.2.2.1 s.2.2.2.2.2.2.1 s.2.2.2.2.2.2.2.1 s.2.2.2.2.2.2.2.2.1 s.2.2.2.2.2.2.2.2.2.1 s.2.2.2.2.2.2.2.2.2.2.1 s.2.2.2.2.2.2.2.2.2.2.2)
theorem azF(u1:zL7)(self:zL8)(at' many left to' i:Int)(t19:zL3)(t20 t21 o o_2:Int)(met:List Bool)(x:zL4):aq6 u1 self (at',many,left,to',i,t19,t20,t21,o,o_2,met,x)=NK (GZ u1 (fun at' many left to' i t19 t20 t21 o o_2 met x=>self (at',many,left,to',i,t19,t20,t21,o,o_2,met,x))) u1 (fun at' many left to' i t19 t20 t21 o o_2 met x=>self (at',many,left,to',i,t19,t20,t21,o,o_2,met,x)) at' many left to' i t19 t20 t21 o o_2 met x:=rfl
theorem azG(u1:zL7)(at' many left to' i:Int)(t19:zL3)(t20 t21 o o_2:Int)(met:List Bool)(x:zL4):Du u1 at' many left to' i t19 t20 t21 o o_2 met x=bu (aq6 u1) 18446744073709551616 (at',many,left,to',i,t19,t20,t21,o,o_2,met,x):=rfl
def aq7 :=(fun (self:YH) (s:aq4)=>NJ (NL) (Du (fun at' many left t19 t20 t21 o o_2 met=>self (at',many,left,t19,t20,t21,o,o_2,met))) (fun at' many left t19 t20 t21 o o_2 met=>self (at',many,left,t19,t20,t21,o,o_2,met)) s.1 s.2.1 s.2.2.1 s.2.2.2.1 s.2.2.2.2.1 s.2.2.2.2.2.1 s.2.2.2.2.2.2.1 s.2.2.2.2.2.2.2.1 s.2.2.2.2.2.2.2.2)
theorem azH  (self:YH)(at':Int)(many:Int)(left:Int)(t19:zL3)(t20:Int)(t21:Int)(o:Int)(o_2:Int)(met:List Bool):aq7 self (at',many,left,t19,t20,t21,o,o_2,met)=NJ (NL) (Du (fun at' many left t19 t20 t21 o o_2 met=>self (at',many,left,t19,t20,t21,o,o_2,met))) (fun at' many left t19 t20 t21 o o_2 met=>self (at',many,left,t19,t20,t21,o,o_2,met)) at' many left t19 t20 t21 o o_2 met:=rfl
theorem azI  (at':Int)(many:Int)(left:Int)(t19:zL3)(t20:Int)(t21:Int)(o:Int)(o_2:Int)(met:List Bool):NM at' many left t19 t20 t21 o o_2 met=bu (aq7) 18446744073709551616 (at',many,left,t19,t20,t21,o,o_2,met):=rfl
theorem YI(u1:Int->Int->Int->List d9->Int->Int->List Bool->Option (As [.bool])){w:d9->Bool}{l:List d9}{p:Int}{m t:Nat}{r:As [.bool]}(hp:0≤p)(hpm:p+(m:Int)≤1000000000000)(ht:t<l.length)(hw:∀x,Ap (x,())=some (w x,())){f to':Int}(hf:p≤f)(hfe:f≤p+(m:Int))(hte:to'≤p+(m:Int))
  (hcov:∀i,p≤i->i<p+(m:Int)->(jO l[t] i=true↔f≤i∧i<to')) (hR:∀met left,kI w l p m (fun i=>(gB (l.take (t+1)) i).isSome) met left->u1 p (m:Int) left l (l.length:Int) (add .i64 (t:Int) 1) met=some r) (hr:iw w l p m=false->r=(false,()))
  (met:List Bool) (left:Int) (h:kI w l p m (fun i=>(gB (l.take t) i).isSome) met left) :
  Dq u1 p (m:Int) left to' f l (l.length:Int) (t:Int) met l[t]=some r:=by
 rw[azu]
 refine mh (Inv:=fun s=>∃(i:Int) (met:List Bool) (left:Int),s=(p,(m:Int),left,to',i,l,(l.length:Int),(t:Int),met,l[t])∧f≤i∧(i≤to'∨i=f)∧kI w l p m (fun j=>(gB (l.take t) j).isSome || (decide (f≤j) && decide (j<i))) met left)
  (μ:=fun s=>(to' - s.2.2.2.2.1).toNat) (G:=fun _=>some r) ?_ _ _ ⟨f,met,left,rfl,Int.le_refl _,.inr rfl,oq h fun k hk=>by
   have:(decide (f≤p+(k:Int)) && decide (p+(k:Int)<f))=false:=by
    by_cases hh:f≤p+(k:Int)
    ·rw[decide_eq_false (show ¬ (p+(k:Int)<f) by omega),Bool.and_false]
    ·rw[decide_eq_false hh,Bool.false_and]
   rw[this,Bool.or_false]⟩ (by dsimp only;omega)
 rintro self s ⟨i,met,left,rfl,hi1,hi2,hI⟩ ih;rw[azt];unfold Nw;by_cases hlt:i<to'
 ·rw[if_pos (cu.2 hlt)]
  have hk:(i - p).toNat<m:=by omega
  have hki:p+(((i - p).toNat:Nat):Int)=i:=by omega
  have hs:sub .i64 i p=(((i - p).toNat:Nat):Int):=by rw[lH (by omega) (by omega)];omega
  obtain⟨g1,g2⟩:=hI.2.2 _ hk;dsimp only at g1 g2;rw[hki]at g1 g2;have hdf:(decide (f≤i) && decide (i<i))=false:=by rw[decide_eq_false (show ¬ i<i by omega),Bool.and_false]
  rw[hdf,Bool.or_false]at g1 g2;have K4:∀left met,GQ u1 (fun at' many left to' i t19 t20 t21 met x=>self (at',many,left,to',i,t19,t20,t21,met,x)) p (m:Int) left to' i l (l.length:Int) (t:Int) met l[t]=self (p,(m:Int),left,to',i+1,l,(l.length:Int),(t:Int),met,l[t]):=fun left met=>by unfold GQ ahx;rw[jg (by omega) (by omega)]
  have hcong:∀(k:Nat),k<m->∀b:Bool,b=(((gB (l.take t) (p+(k:Int))).isSome || (decide (f≤p+(k:Int)) && decide (p+(k:Int)<i))) || decide (p+(k:Int)=i))->((gB (l.take t) (p+(k:Int))).isSome || (decide (f≤p+(k:Int)) && decide (p+(k:Int)<i+1)))=b:=fun k hk b hc=>by
   rw[hc,Bool.or_assoc]
   congr 1
   rw[Bool.eq_iff_iff];simp only[Bool.or_eq_true,zO,decide_eq_true_eq];omega
  rw[hs,fI g1];simp only[zD]
  cases hb:(gB (l.take t) i).isSome with
  | true =>
   rw[if_pos rfl,K4];refine ih _ ⟨i+1,met,left,rfl,by omega,.inl (by omega),oq hI (fun k hk=>hcong k hk _ ?_)⟩ (by dsimp only;omega);by_cases hki':p+(k:Int)=i
   ·rw[hki',hb,Bool.true_or,Bool.true_or]
   ·rw[decide_eq_false hki',Bool.or_false]
  | false =>
   rw[if_neg (by decide),hw,zD];dsimp only;have hnone:gB (l.take t) i=none:=by simpa using hb
   have hfirst:gB l i=some l[t]:=by have hc:=(hcov i (by omega) (by omega)).2 ⟨hi1,hlt⟩;have:=kX ht i;rw[hnone,hc]at this;exact sM this
   have hwf:kW w l i=w l[t]:=by unfold kW;rw[hfirst]
   cases hwx:w l[t]with
   | false =>
    rw[if_pos (by decide)];rw[hr (uZ hk (by rw[hki,hwf,hwx]))]
   | true =>
    rw[if_neg (by decide)];have hset:=B5 hI hk (by rw[hki,hdf,Bool.or_false];exact hb) (by rw[hki,hwf,hwx]);rw[zQ,K4];have hl1:sub .i64 left 1=left - 1:=by have:=hI.2.1;have h2:=List.countP_le_length (p:=fun b:Bool=>!b) (l:=met);have h3:=hI.1;rw[lH (by omega) (by omega)]
    rw[hl1];refine ih _ ⟨i+1,_,_,rfl,by omega,.inl (by omega),oq hset (fun k hk=>hcong k hk _ ?_)⟩ (by dsimp only;omega);rw[hki]
 ·rw[if_neg (fun e=>hlt (cu.1 e))]
  refine hR met left (oq hI fun k hk=>?_);have hc:=hcov (p+(k:Int)) (by omega) (by omega);rw[kX ht];have hcb:jO l[t] (p+(k:Int))=(decide (f≤p+(k:Int)) && decide (p+(k:Int)<i)):=by rw[Bool.eq_iff_iff,hc];simp only[zO,decide_eq_true_eq];omega
  rw[<- hcb]
  cases hx:gB (l.take t) (p+(k:Int)) with
  | some y=>rfl
  | none =>
   cases jO l[t] (p+(k:Int))<;>rfl
theorem YJ{w:d9->Bool}{l:List d9}{p:Int}{m:Nat}(hp:0≤p)(hm:m≤1000000)(hpm:p≤1000000)(hl:l.length≤1000000)(ho:∀x∈l,rR x)(hw:∀x,Ap (x,())=some (w x,())):Wk (l,p,(m:Int),())=some (iw w l p m,()):=by
 show Wj Nz l p (m:Int)=_;unfold Wj;rw[eu (gY.2 (by omega)),eu (qH _),zQ,iT (by omega)];rw[azw]
 refine mh (Inv:=fun s=>∃(t:Nat) (met:List Bool) (left:Int),s=(p,(m:Int),left,l,(l.length:Int),(t:Int),met)∧t≤l.length∧kI w l p m (fun i=>(gB (l.take t) i).isSome) met left)
  (μ:=fun s=>(zF l.length - s.2.2.2.2.2.1).toNat) (G:=fun _=>some (iw w l p m,())) ?_ _ _ ⟨0,_,_,rfl,Nat.zero_le _,JI w l p m⟩ (by dsimp only;rw[ay];omega)
 rintro self s ⟨t,met,left,rfl,ht,hI⟩ ih;rw[azv];unfold Nv;have k2:Ny left=some (eqi left 0,()):=rfl;by_cases hlt:t<l.length
 ·have hg:=zV hlt
  rw[if_pos (by rw[cu];omega),fI hg,zD];by_cases h0:left=0
  ·rw[if_pos (dw.2 h0),k2,dw.2 h0,nO hI h0]
  ·rw[if_neg (fun e=>h0 (dw.1 e)),jg (by omega) (by omega)]
   obtain⟨f,t',e1,e2,e3,e4,e5⟩:=yA (x:=l[t]) (p:=p) (e:=p+(m:Int)) hp (by omega) (by omega) (ho _ (List.getElem_mem hlt));rw[e1,zD];refine YI _ hp (by omega) hlt hw e2 e3 e4 e5 (fun met left hI'=>?_) (fun e=>by rw[e]) met left hI;rw[iD (by omega)];exact ih _ ⟨t+1,met,left,rfl,by omega,hI'⟩ (by dsimp only;rw[ay];omega)
 ·have htl:t=l.length:=by omega
  subst htl;rw[if_neg (by rw[cu];omega),k2];by_cases h0:left=0
  ·rw[dw.2 h0,nO hI h0]
  ·rw[List.take_length]at hI
   rw[yB hI h0,show eqi left 0=false from decide_eq_false h0]
theorem YK(u1:Int->Int->Int->List d9->Int->Int->List Bool->Option (As [.bool])){w:d9->Bool}{l:List d9}{p:Int}{m t:Nat}{r:As [.bool]}(hp:0≤p)(hpm:p+(m:Int)≤1000000000000)(ht:t<l.length)(hw:∀x,IQ (x,())=some (w x,())){f to':Int}(hf:p≤f)(hfe:f≤p+(m:Int))(hte:to'≤p+(m:Int))
  (hcov:∀i,p≤i->i<p+(m:Int)->(jO l[t] i=true↔f≤i∧i<to')) (hR:∀met left,kI w l p m (fun i=>(gB (l.take (t+1)) i).isSome) met left->u1 p (m:Int) left l (l.length:Int) (add .i64 (t:Int) 1) met=some r) (hr:iw w l p m=false->r=(false,()))
  (met:List Bool) (left:Int) (h:kI w l p m (fun i=>(gB (l.take t) i).isSome) met left) :
  Dt u1 p (m:Int) left to' f l (l.length:Int) (t:Int) met l[t]=some r:=by
 rw[azy]
 refine mh (Inv:=fun s=>∃(i:Int) (met:List Bool) (left:Int),s=(p,(m:Int),left,to',i,l,(l.length:Int),(t:Int),met,l[t])∧f≤i∧(i≤to'∨i=f)∧kI w l p m (fun j=>(gB (l.take t) j).isSome || (decide (f≤j) && decide (j<i))) met left)
  (μ:=fun s=>(to' - s.2.2.2.2.1).toNat) (G:=fun _=>some r) ?_ _ _ ⟨f,met,left,rfl,Int.le_refl _,.inr rfl,oq h fun k hk=>by
   have:(decide (f≤p+(k:Int)) && decide (p+(k:Int)<f))=false:=by
    by_cases hh:f≤p+(k:Int)
    ·rw[decide_eq_false (show ¬ (p+(k:Int)<f) by omega),Bool.and_false]
    ·rw[decide_eq_false hh,Bool.false_and]
   rw[this,Bool.or_false]⟩ (by dsimp only;omega)
 rintro self s ⟨i,met,left,rfl,hi1,hi2,hI⟩ ih;rw[azx];unfold NG;by_cases hlt:i<to'
 ·rw[if_pos (cu.2 hlt)]
  have hk:(i - p).toNat<m:=by omega
  have hki:p+(((i - p).toNat:Nat):Int)=i:=by omega
  have hs:sub .i64 i p=(((i - p).toNat:Nat):Int):=by rw[lH (by omega) (by omega)];omega
  obtain⟨g1,g2⟩:=hI.2.2 _ hk;dsimp only at g1 g2;rw[hki]at g1 g2;have hdf:(decide (f≤i) && decide (i<i))=false:=by rw[decide_eq_false (show ¬ i<i by omega),Bool.and_false]
  rw[hdf,Bool.or_false]at g1 g2;have K4:∀left met,GX u1 (fun at' many left to' i t19 t20 t21 met x=>self (at',many,left,to',i,t19,t20,t21,met,x)) p (m:Int) left to' i l (l.length:Int) (t:Int) met l[t]=self (p,(m:Int),left,to',i+1,l,(l.length:Int),(t:Int),met,l[t]):=fun left met=>by unfold GX ahJ;rw[jg (by omega) (by omega)]
  have hcong:∀(k:Nat),k<m->∀b:Bool,b=(((gB (l.take t) (p+(k:Int))).isSome || (decide (f≤p+(k:Int)) && decide (p+(k:Int)<i))) || decide (p+(k:Int)=i))->((gB (l.take t) (p+(k:Int))).isSome || (decide (f≤p+(k:Int)) && decide (p+(k:Int)<i+1)))=b:=fun k hk b hc=>by
   rw[hc,Bool.or_assoc]
   congr 1
   rw[Bool.eq_iff_iff];simp only[Bool.or_eq_true,zO,decide_eq_true_eq];omega
  rw[hs,fI g1];simp only[zD]
  cases hb:(gB (l.take t) i).isSome with
  | true =>
   rw[if_pos rfl,K4];refine ih _ ⟨i+1,met,left,rfl,by omega,.inl (by omega),oq hI (fun k hk=>hcong k hk _ ?_)⟩ (by dsimp only;omega);by_cases hki':p+(k:Int)=i
   ·rw[hki',hb,Bool.true_or,Bool.true_or]
   ·rw[decide_eq_false hki',Bool.or_false]
  | false =>
   rw[if_neg (by decide),hw,zD];dsimp only;have hnone:gB (l.take t) i=none:=by simpa using hb
   have hfirst:gB l i=some l[t]:=by have hc:=(hcov i (by omega) (by omega)).2 ⟨hi1,hlt⟩;have:=kX ht i;rw[hnone,hc]at this;exact sM this
   have hwf:kW w l i=w l[t]:=by unfold kW;rw[hfirst]
   cases hwx:w l[t]with
   | false =>
    rw[if_pos (by decide)];rw[hr (uZ hk (by rw[hki,hwf,hwx]))]
   | true =>
    rw[if_neg (by decide)];have hset:=B5 hI hk (by rw[hki,hdf,Bool.or_false];exact hb) (by rw[hki,hwf,hwx]);rw[zQ,K4];have hl1:sub .i64 left 1=left - 1:=by have:=hI.2.1;have h2:=List.countP_le_length (p:=fun b:Bool=>!b) (l:=met);have h3:=hI.1;rw[lH (by omega) (by omega)]
    rw[hl1];refine ih _ ⟨i+1,_,_,rfl,by omega,.inl (by omega),oq hset (fun k hk=>hcong k hk _ ?_)⟩ (by dsimp only;omega);rw[hki]
 ·rw[if_neg (fun e=>hlt (cu.1 e))]
  refine hR met left (oq hI fun k hk=>?_);have hc:=hcov (p+(k:Int)) (by omega) (by omega);rw[kX ht];have hcb:jO l[t] (p+(k:Int))=(decide (f≤p+(k:Int)) && decide (p+(k:Int)<i)):=by rw[Bool.eq_iff_iff,hc];simp only[zO,decide_eq_true_eq];omega
  rw[<- hcb]
  cases hx:gB (l.take t) (p+(k:Int)) with
  | some y=>rfl
  | none =>
   cases jO l[t] (p+(k:Int))<;>rfl
theorem YL{w:d9->Bool}{l:List d9}{p:Int}{m:Nat}(hp:0≤p)(hm:m≤1000000)(hpm:p≤1000000)(hl:l.length≤1000000)(ho:∀x∈l,rR x)(hw:∀x,IQ (x,())=some (w x,())):Ws (l,p,(m:Int),())=some (iw w l p m,()):=by
 show Wq NI l p (m:Int)=_;unfold Wq;rw[eu (gY.2 (by omega)),eu (qH _),zQ,iT (by omega)];rw[azA]
 refine mh (Inv:=fun s=>∃(t:Nat) (met:List Bool) (left:Int),s=(p,(m:Int),left,l,(l.length:Int),(t:Int),met)∧t≤l.length∧kI w l p m (fun i=>(gB (l.take t) i).isSome) met left)
  (μ:=fun s=>(zF l.length - s.2.2.2.2.2.1).toNat) (G:=fun _=>some (iw w l p m,())) ?_ _ _ ⟨0,_,_,rfl,Nat.zero_le _,JI w l p m⟩ (by dsimp only;rw[ay];omega)
 rintro self s ⟨t,met,left,rfl,ht,hI⟩ ih;rw[azz];unfold NF;have k2:NH left=some (eqi left 0,()):=rfl;by_cases hlt:t<l.length
 ·have hg:=zV hlt
  rw[if_pos (by rw[cu];omega),fI hg,zD];by_cases h0:left=0
  ·rw[if_pos (dw.2 h0),k2,dw.2 h0,nO hI h0]
  ·rw[if_neg (fun e=>h0 (dw.1 e)),jg (by omega) (by omega)]
   obtain⟨f,t',e1,e2,e3,e4,e5⟩:=yA (x:=l[t]) (p:=p) (e:=p+(m:Int)) hp (by omega) (by omega) (ho _ (List.getElem_mem hlt));rw[e1,zD];refine YK _ hp (by omega) hlt hw e2 e3 e4 e5 (fun met left hI'=>?_) (fun e=>by rw[e]) met left hI;rw[iD (by omega)];exact ih _ ⟨t+1,met,left,rfl,by omega,hI'⟩ (by dsimp only;rw[ay];omega)
 ·have htl:t=l.length:=by omega
  subst htl;rw[if_neg (by rw[cu];omega),k2];by_cases h0:left=0
  ·rw[dw.2 h0,nO hI h0]
  ·rw[List.take_length]at hI
   rw[yB hI h0,show eqi left 0=false from decide_eq_false h0]
theorem YM(u1:Int->Int->Int->List d9->Int->Int->Int->Int->List Bool->Option (As [.bool,.int .i64,.int .i64])){w:d9->Bool}{l:List d9}{p:Int}{m t:Nat}{r:As [.bool,.int .i64,.int .i64]}{o o2:Int}(hp:0≤p)(hpm:p+(m:Int)≤1000000000000)(ht:t<l.length)(hw:∀x,EE (x,o,o2,())=some (w x,o,o2,())){f to':Int}(hf:p≤f)(hfe:f≤p+(m:Int))(hte:to'≤p+(m:Int))
  (hcov:∀i,p≤i->i<p+(m:Int)->(jO l[t] i=true↔f≤i∧i<to')) (hR:∀met left,kI w l p m (fun i=>(gB (l.take (t+1)) i).isSome) met left->u1 p (m:Int) left l (l.length:Int) (add .i64 (t:Int) 1) o o2 met=some r) (hr:iw w l p m=false->r=(false,o,o2,()))
  (met:List Bool) (left:Int) (h:kI w l p m (fun i=>(gB (l.take t) i).isSome) met left) :
  Dr u1 p (m:Int) left to' f l (l.length:Int) (t:Int) o o2 met l[t]=some r:=by
 rw[azC]
 refine mh (Inv:=fun s=>∃(i:Int) (met:List Bool) (left:Int),s=(p,(m:Int),left,to',i,l,(l.length:Int),(t:Int),o,o2,met,l[t])∧f≤i∧(i≤to'∨i=f)∧kI w l p m (fun j=>(gB (l.take t) j).isSome || (decide (f≤j) && decide (j<i))) met left)
  (μ:=fun s=>(to' - s.2.2.2.2.1).toNat) (G:=fun _=>some r) ?_ _ _ ⟨f,met,left,rfl,Int.le_refl _,.inr rfl,oq h fun k hk=>by
   have:(decide (f≤p+(k:Int)) && decide (p+(k:Int)<f))=false:=by
    by_cases hh:f≤p+(k:Int)
    ·rw[decide_eq_false (show ¬ (p+(k:Int)<f) by omega),Bool.and_false]
    ·rw[decide_eq_false hh,Bool.false_and]
   rw[this,Bool.or_false]⟩ (by dsimp only;omega)
 rintro self s ⟨i,met,left,rfl,hi1,hi2,hI⟩ ih;rw[azB];unfold NB;by_cases hlt:i<to'
 ·rw[if_pos (cu.2 hlt)]
  have hk:(i - p).toNat<m:=by omega
  have hki:p+(((i - p).toNat:Nat):Int)=i:=by omega
  have hs:sub .i64 i p=(((i - p).toNat:Nat):Int):=by rw[lH (by omega) (by omega)];omega
  obtain⟨g1,g2⟩:=hI.2.2 _ hk;dsimp only at g1 g2;rw[hki]at g1 g2;have hdf:(decide (f≤i) && decide (i<i))=false:=by rw[decide_eq_false (show ¬ i<i by omega),Bool.and_false]
  rw[hdf,Bool.or_false]at g1 g2;have K4:∀left met,GU u1 (fun at' many left to' i t19 t20 t21 o o2 met x=>self (at',many,left,to',i,t19,t20,t21,o,o2,met,x)) p (m:Int) left to' i l (l.length:Int) (t:Int) o o2 met l[t]=self (p,(m:Int),left,to',i+1,l,(l.length:Int),(t:Int),o,o2,met,l[t]):=fun left met=>by unfold GU ahD;rw[jg (by omega) (by omega)]
  have hcong:∀(k:Nat),k<m->∀b:Bool,b=(((gB (l.take t) (p+(k:Int))).isSome || (decide (f≤p+(k:Int)) && decide (p+(k:Int)<i))) || decide (p+(k:Int)=i))->((gB (l.take t) (p+(k:Int))).isSome || (decide (f≤p+(k:Int)) && decide (p+(k:Int)<i+1)))=b:=fun k hk b hc=>by
   rw[hc,Bool.or_assoc]
   congr 1
   rw[Bool.eq_iff_iff];simp only[Bool.or_eq_true,zO,decide_eq_true_eq];omega
  rw[hs,fI g1];simp only[zD]
  cases hb:(gB (l.take t) i).isSome with
  | true =>
   rw[if_pos rfl,K4];refine ih _ ⟨i+1,met,left,rfl,by omega,.inl (by omega),oq hI (fun k hk=>hcong k hk _ ?_)⟩ (by dsimp only;omega);by_cases hki':p+(k:Int)=i
   ·rw[hki',hb,Bool.true_or,Bool.true_or]
   ·rw[decide_eq_false hki',Bool.or_false]
  | false =>
   rw[if_neg (by decide),hw,zD];dsimp only;have hnone:gB (l.take t) i=none:=by simpa using hb
   have hfirst:gB l i=some l[t]:=by have hc:=(hcov i (by omega) (by omega)).2 ⟨hi1,hlt⟩;have:=kX ht i;rw[hnone,hc]at this;exact sM this
   have hwf:kW w l i=w l[t]:=by unfold kW;rw[hfirst]
   cases hwx:w l[t]with
   | false =>
    rw[if_pos (by decide)];rw[hr (uZ hk (by rw[hki,hwf,hwx]))]
   | true =>
    rw[if_neg (by decide)];have hset:=B5 hI hk (by rw[hki,hdf,Bool.or_false];exact hb) (by rw[hki,hwf,hwx]);rw[zQ,K4];have hl1:sub .i64 left 1=left - 1:=by have:=hI.2.1;have h2:=List.countP_le_length (p:=fun b:Bool=>!b) (l:=met);have h3:=hI.1;rw[lH (by omega) (by omega)]
    rw[hl1];refine ih _ ⟨i+1,_,_,rfl,by omega,.inl (by omega),oq hset (fun k hk=>hcong k hk _ ?_)⟩ (by dsimp only;omega);rw[hki]
 ·rw[if_neg (fun e=>hlt (cu.1 e))]
  refine hR met left (oq hI fun k hk=>?_);have hc:=hcov (p+(k:Int)) (by omega) (by omega);rw[kX ht];have hcb:jO l[t] (p+(k:Int))=(decide (f≤p+(k:Int)) && decide (p+(k:Int)<i)):=by rw[Bool.eq_iff_iff,hc];simp only[zO,decide_eq_true_eq];omega
  rw[<- hcb]
  cases hx:gB (l.take t) (p+(k:Int)) with
  | some y=>rfl
  | none =>
   cases jO l[t] (p+(k:Int))<;>rfl
theorem YN{w:d9->Bool}{l:List d9}{p:Int}{m:Nat}(hp:0≤p)(hm:m≤1000000)(hpm:p≤1000000)(hl:l.length≤1000000)(ho:∀x∈l,rR x){o o2:Int}(hw:∀x,EE (x,o,o2,())=some (w x,o,o2,())):Wo (l,p,(m:Int),o,o2,())=some (iw w l p m,o,o2,()):=by
 show Wm ND l p (m:Int) o o2=_;unfold Wm;rw[eu (gY.2 (by omega)),eu (qH _),zQ,iT (by omega)];rw[azE]
 refine mh (Inv:=fun s=>∃(t:Nat) (met:List Bool) (left:Int),s=(p,(m:Int),left,l,(l.length:Int),(t:Int),o,o2,met)∧t≤l.length∧kI w l p m (fun i=>(gB (l.take t) i).isSome) met left)
  (μ:=fun s=>(zF l.length - s.2.2.2.2.2.1).toNat) (G:=fun _=>some (iw w l p m,o,o2,())) ?_ _ _ ⟨0,_,_,rfl,Nat.zero_le _,JI w l p m⟩ (by dsimp only;rw[ay];omega)
 rintro self s ⟨t,met,left,rfl,ht,hI⟩ ih;rw[azD];unfold NA;have k2:NC left o o2=some (eqi left 0,o,o2,()):=rfl;by_cases hlt:t<l.length
 ·have hg:=zV hlt
  rw[if_pos (by rw[cu];omega),fI hg,zD];by_cases h0:left=0
  ·rw[if_pos (dw.2 h0),k2,dw.2 h0,nO hI h0]
  ·rw[if_neg (fun e=>h0 (dw.1 e)),jg (by omega) (by omega)]
   obtain⟨f,t',e1,e2,e3,e4,e5⟩:=yA (x:=l[t]) (p:=p) (e:=p+(m:Int)) hp (by omega) (by omega) (ho _ (List.getElem_mem hlt));rw[e1,zD];refine YM _ hp (by omega) hlt hw e2 e3 e4 e5 (fun met left hI'=>?_) (fun e=>by rw[e]) met left hI;rw[iD (by omega)];exact ih _ ⟨t+1,met,left,rfl,by omega,hI'⟩ (by dsimp only;rw[ay];omega)
 ·have htl:t=l.length:=by omega
  subst htl;rw[if_neg (by rw[cu];omega),k2];by_cases h0:left=0
  ·rw[dw.2 h0,nO hI h0]
  ·rw[List.take_length]at hI
   rw[yB hI h0,show eqi left 0=false from decide_eq_false h0]
theorem YO(u1:Int->Int->Int->List d9->Int->Int->Int->Int->List Bool->Option (As [.bool,.int .i64,.int .i64])){w:d9->Bool}{l:List d9}{p:Int}{m t:Nat}{r:As [.bool,.int .i64,.int .i64]}{o o2:Int}(hp:0≤p)(hpm:p+(m:Int)≤1000000000000)(ht:t<l.length)(hw:∀x,EF (x,o,o2,())=some (w x,o,o2,())){f to':Int}(hf:p≤f)(hfe:f≤p+(m:Int))(hte:to'≤p+(m:Int))
  (hcov:∀i,p≤i->i<p+(m:Int)->(jO l[t] i=true↔f≤i∧i<to')) (hR:∀met left,kI w l p m (fun i=>(gB (l.take (t+1)) i).isSome) met left->u1 p (m:Int) left l (l.length:Int) (add .i64 (t:Int) 1) o o2 met=some r) (hr:iw w l p m=false->r=(false,o,o2,()))
  (met:List Bool) (left:Int) (h:kI w l p m (fun i=>(gB (l.take t) i).isSome) met left) :
  Du u1 p (m:Int) left to' f l (l.length:Int) (t:Int) o o2 met l[t]=some r:=by
 rw[azG]
 refine mh (Inv:=fun s=>∃(i:Int) (met:List Bool) (left:Int),s=(p,(m:Int),left,to',i,l,(l.length:Int),(t:Int),o,o2,met,l[t])∧f≤i∧(i≤to'∨i=f)∧kI w l p m (fun j=>(gB (l.take t) j).isSome || (decide (f≤j) && decide (j<i))) met left)
  (μ:=fun s=>(to' - s.2.2.2.2.1).toNat) (G:=fun _=>some r) ?_ _ _ ⟨f,met,left,rfl,Int.le_refl _,.inr rfl,oq h fun k hk=>by
   have:(decide (f≤p+(k:Int)) && decide (p+(k:Int)<f))=false:=by
    by_cases hh:f≤p+(k:Int)
    ·rw[decide_eq_false (show ¬ (p+(k:Int)<f) by omega),Bool.and_false]
    ·rw[decide_eq_false hh,Bool.false_and]
   rw[this,Bool.or_false]⟩ (by dsimp only;omega)
 rintro self s ⟨i,met,left,rfl,hi1,hi2,hI⟩ ih;rw[azF];unfold NK;by_cases hlt:i<to'
 ·rw[if_pos (cu.2 hlt)]
  have hk:(i - p).toNat<m:=by omega
  have hki:p+(((i - p).toNat:Nat):Int)=i:=by omega
  have hs:sub .i64 i p=(((i - p).toNat:Nat):Int):=by rw[lH (by omega) (by omega)];omega
  obtain⟨g1,g2⟩:=hI.2.2 _ hk;dsimp only at g1 g2;rw[hki]at g1 g2;have hdf:(decide (f≤i) && decide (i<i))=false:=by rw[decide_eq_false (show ¬ i<i by omega),Bool.and_false]
  rw[hdf,Bool.or_false]at g1 g2;have K4:∀left met,GZ u1 (fun at' many left to' i t19 t20 t21 o o2 met x=>self (at',many,left,to',i,t19,t20,t21,o,o2,met,x)) p (m:Int) left to' i l (l.length:Int) (t:Int) o o2 met l[t]=self (p,(m:Int),left,to',i+1,l,(l.length:Int),(t:Int),o,o2,met,l[t]):=fun left met=>by unfold GZ ahP;rw[jg (by omega) (by omega)]
  have hcong:∀(k:Nat),k<m->∀b:Bool,b=(((gB (l.take t) (p+(k:Int))).isSome || (decide (f≤p+(k:Int)) && decide (p+(k:Int)<i))) || decide (p+(k:Int)=i))->((gB (l.take t) (p+(k:Int))).isSome || (decide (f≤p+(k:Int)) && decide (p+(k:Int)<i+1)))=b:=fun k hk b hc=>by
   rw[hc,Bool.or_assoc]
   congr 1
   rw[Bool.eq_iff_iff];simp only[Bool.or_eq_true,zO,decide_eq_true_eq];omega
  rw[hs,fI g1];simp only[zD]
  cases hb:(gB (l.take t) i).isSome with
  | true =>
   rw[if_pos rfl,K4];refine ih _ ⟨i+1,met,left,rfl,by omega,.inl (by omega),oq hI (fun k hk=>hcong k hk _ ?_)⟩ (by dsimp only;omega);by_cases hki':p+(k:Int)=i
   ·rw[hki',hb,Bool.true_or,Bool.true_or]
   ·rw[decide_eq_false hki',Bool.or_false]
  | false =>
   rw[if_neg (by decide),hw,zD];dsimp only;have hnone:gB (l.take t) i=none:=by simpa using hb
   have hfirst:gB l i=some l[t]:=by have hc:=(hcov i (by omega) (by omega)).2 ⟨hi1,hlt⟩;have:=kX ht i;rw[hnone,hc]at this;exact sM this
   have hwf:kW w l i=w l[t]:=by unfold kW;rw[hfirst]
   cases hwx:w l[t]with
   | false =>
    rw[if_pos (by decide)];rw[hr (uZ hk (by rw[hki,hwf,hwx]))]
   | true =>
    rw[if_neg (by decide)];have hset:=B5 hI hk (by rw[hki,hdf,Bool.or_false];exact hb) (by rw[hki,hwf,hwx]);rw[zQ,K4];have hl1:sub .i64 left 1=left - 1:=by have:=hI.2.1;have h2:=List.countP_le_length (p:=fun b:Bool=>!b) (l:=met);have h3:=hI.1;rw[lH (by omega) (by omega)]
    rw[hl1];refine ih _ ⟨i+1,_,_,rfl,by omega,.inl (by omega),oq hset (fun k hk=>hcong k hk _ ?_)⟩ (by dsimp only;omega);rw[hki]
 ·rw[if_neg (fun e=>hlt (cu.1 e))]
  refine hR met left (oq hI fun k hk=>?_);have hc:=hcov (p+(k:Int)) (by omega) (by omega);rw[kX ht];have hcb:jO l[t] (p+(k:Int))=(decide (f≤p+(k:Int)) && decide (p+(k:Int)<i)):=by rw[Bool.eq_iff_iff,hc];simp only[zO,decide_eq_true_eq];omega
  rw[<- hcb]
  cases hx:gB (l.take t) (p+(k:Int)) with
  | some y=>rfl
  | none =>
   cases jO l[t] (p+(k:Int))<;>rfl
theorem YP{w:d9->Bool}{l:List d9}{p:Int}{m:Nat}(hp:0≤p)(hm:m≤1000000)(hpm:p≤1000000)(hl:l.length≤1000000)(ho:∀x∈l,rR x){o o2:Int}(hw:∀x,EF (x,o,o2,())=some (w x,o,o2,())):Wv (l,p,(m:Int),o,o2,())=some (iw w l p m,o,o2,()):=by
 show Wu NM l p (m:Int) o o2=_;unfold Wu;rw[eu (gY.2 (by omega)),eu (qH _),zQ,iT (by omega)];rw[azI]
 refine mh (Inv:=fun s=>∃(t:Nat) (met:List Bool) (left:Int),s=(p,(m:Int),left,l,(l.length:Int),(t:Int),o,o2,met)∧t≤l.length∧kI w l p m (fun i=>(gB (l.take t) i).isSome) met left)
  (μ:=fun s=>(zF l.length - s.2.2.2.2.2.1).toNat) (G:=fun _=>some (iw w l p m,o,o2,())) ?_ _ _ ⟨0,_,_,rfl,Nat.zero_le _,JI w l p m⟩ (by dsimp only;rw[ay];omega)
 rintro self s ⟨t,met,left,rfl,ht,hI⟩ ih;rw[azH];unfold NJ;have k2:NL left o o2=some (eqi left 0,o,o2,()):=rfl;by_cases hlt:t<l.length
 ·have hg:=zV hlt
  rw[if_pos (by rw[cu];omega),fI hg,zD];by_cases h0:left=0
  ·rw[if_pos (dw.2 h0),k2,dw.2 h0,nO hI h0]
  ·rw[if_neg (fun e=>h0 (dw.1 e)),jg (by omega) (by omega)]
   obtain⟨f,t',e1,e2,e3,e4,e5⟩:=yA (x:=l[t]) (p:=p) (e:=p+(m:Int)) hp (by omega) (by omega) (ho _ (List.getElem_mem hlt));rw[e1,zD];refine YO _ hp (by omega) hlt hw e2 e3 e4 e5 (fun met left hI'=>?_) (fun e=>by rw[e]) met left hI;rw[iD (by omega)];exact ih _ ⟨t+1,met,left,rfl,by omega,hI'⟩ (by dsimp only;rw[ay];omega)
 ·have htl:t=l.length:=by omega
  subst htl;rw[if_neg (by rw[cu];omega),k2];by_cases h0:left=0
  ·rw[dw.2 h0,nO hI h0]
  ·rw[List.take_length]at hI
   rw[yB hI h0,show eqi left 0=false from decide_eq_false h0]
abbrev TCm:=Int×Int×Int×Int×Int
def lU(l:TLs):Prop:=(l.1=0∧l.2=0)∨(l.1≠0∧(1≤l.2∨l.2=-1))
instance (l:TLs):Decidable (lU l):=inferInstanceAs (Decidable (_∨_))
theorem DU(o:Int):Dy (o,())=some ((o,-1),()):=rfl
theorem YQ(l:TLs):ain (l,())=some (decide (lU l),()):=by
 obtain⟨o,n⟩:=l;show aim (o,n)=_;unfold aim;simp only[DU,zD,dw,gY,Bool.and_true];by_cases h0:o=0
 ·rw[if_pos h0]
  congr 2
  rw[Bool.eq_iff_iff];simp[dw,lU,h0]
 ·rw[if_neg h0]
  by_cases h1:1≤n
  ·rw[if_pos h1]
   congr 2
   symm;rw[decide_eq_true_eq];exact Or.inr ⟨h0,Or.inl h1⟩
  ·rw[if_neg h1]
   have e:(zC (Dy (o,())) fun y=>some (eqi o y.1.1 && eqi n y.1.2,()):Option (As [.bool]))=some (eqi o o && eqi n (-1),()):=rfl;refine Eq.trans e (congrArg (fun b=>some (b,())) ?_);rw[Bool.eq_iff_iff,zO,dw,dw,decide_eq_true_eq];constructor
   ·rintro⟨_,e⟩
    exact Or.inr ⟨h0,Or.inr e⟩
   ·rintro (⟨e,_⟩ | ⟨_,e | e⟩)
    ·omega
    ·omega
    omega
def akr(l:TLs):TLs:=if lU l then l else (0,0)
theorem Ie(l:TLs):G6 (l,())=some (akr l,()):=by show aio l=_;grind[aio,akr,YQ,lU]
theorem A9{l:TLs}(h:lU l):akr l=l:=if_pos h
theorem yC{l:TLs}(h:lU l):vU (l,())=some (decide (l.1=0),()):=by
 show aiq l=_;unfold aiq;rw[Ie,zD,A9 h,Bool.and_true]
 congr 2
 rw[Bool.eq_iff_iff];simp only[zO,dw,decide_eq_true_eq];grind[lU]
def kJ(l:TLs)(o t:Int):TLs:=if l=(o,-1) then l else (o,t)
theorem aks{l:TLs}{o t:Int}(h:lU l)(ho:o≠0)(ht:1≤t)(hf:l.1=0∨l.1=o):ai0 (l,o,t,())=some (kJ l o t,0,()):=by
 obtain⟨l1,l2⟩:=l;show Xw aiZ (l1,l2) o t=_;unfold Xw;rw[Ie,zD,A9 h];dsimp only;rw[if_neg (fun e=>ho (dw.1 e)),pR,decide_eq_false (by omega)];show Xu Xx o t false (l1,l2) (0,0)=_;unfold Xu;rw[if_neg (by decide),yC h,zD];have K2:∀b z,b=false->Xx o t b (l1,l2) z=some (kJ (l1,l2) o t,0,()):=fun b z hb=>by subst hb;show Xv o t false (l1,l2) z=_;unfold Xv kJ;rw[if_neg (by decide),DU,zD];simp only[Bool.and_true,zO,dw,Prod.mk.injEq];grind
 by_cases h0:l1=0
 ·simp_all
 ·rw[if_pos (by grind)]
  refine K2 _ _ ?_;rw[Bool.eq_false_iff];simp_all[fo,absurd]
theorem akt{l:TLs}{o:Int}(h:lU l)(ho:o≠0)(hf:l.1=o):XK (l,o,())=some ((o,-1),0,()):=by show aje l o=_;unfold aje;rw[Ie,zD,A9 h];dsimp only;rw[if_neg (fun e=>ho (dw.1 e)),if_neg (fun e=>fo.1 e hf),DU,zD]
def fD(x:bn):Bool:=decide (x.2.length≤14∧0≤x.1∧x.1≤63∧x.1+(x.2.length:Int)≤64)
theorem qI{x:bn}(h:x.2.length≤1000000):rH (x,())=some (fD x,()):=by
 obtain⟨p,w⟩:=x;show adC (p,w)=_;unfold adC fD;simp only[gM,gY,cu,ay]at h ⊢;by_cases h1:(w.length:Int)≤14
 ·rw[if_pos h1]
  by_cases h2:0≤p
  ·rw[if_pos h2]
   by_cases h3:p<64
   ·rw[if_pos h3,jg (by omega) (by omega),le_dec]
    grind
   grind
  grind
 grind
def zB:bn:=(0,[])
def nzB(hv:List Bool)(bs:List bn):List bn:=List.zipWith (fun h b=>if h=true then b else zB) hv bs
theorem B6{hv:List Bool}{bs:List bn}(h1:hv.length=8)(h2:bs.length=8):(nzB hv bs).length=8:=by simp_all[nzB,List.length_zipWith]
theorem aag{hv:List Bool}{bs:List bn}{i:Nat}{h:Bool}{b:bn}(h1:hv[i]? = some h)(h2:bs[i]? = some b):(nzB hv bs)[i]? = some (if h=true then b else zB):=by simp_all[nzB,List.getElem?_zipWith]
theorem Qy{α:Type}{xs ys:List α}(hl:xs.length=ys.length){i:Nat}{y:α}(h:ys[i]? = some y):(ys.take i++xs.drop i).set i y=ys.take (i+1)++xs.drop (i+1):=by grind[List.getElem?_eq_some_iff,List.take_add_one,List.drop_eq_getElem_cons,kB,List.append_assoc,List.singleton_append,ZU]
def jh(a:TAg):TAg:=(a.1,a.2.1,a.2.2.1,a.2.2.2.1,a.2.2.2.2.1,(a.2.2.2.2.2.1.1,a.2.2.2.2.2.1.2.1,nzB a.2.2.2.2.2.1.2.1 a.2.2.2.2.2.1.2.2),a.2.2.2.2.2.2)
structure SzA(a:TAg):Prop where
 bk:a.1.length≤1000
 hv:a.2.2.2.2.2.1.2.1.length=8
 bs:a.2.2.2.2.2.1.2.2.length=8
 bw:∀b∈a.2.2.2.2.2.1.2.2,b.2.length≤1000
theorem fU{α:Type}{xs:List α}{i:Nat}(h:i<xs.length):∃x,xs[i]? = some x:=⟨xs[i],zV h⟩
theorem Qz{a:TAg}(h:SzA a):NY (a,())=some (jh a,()):=by
 obtain⟨bk,ls,ph,tx,la,⟨st,hv,bs⟩,tk⟩:=a;obtain⟨hk,h1,h2,h3⟩:=h;dsimp only at hk h1 h2 h3;show Xr Hg (bk,ls,ph,tx,la,(st,hv,bs),tk)=_;unfold Xr;rw[mX (show bk.length≤1000000 by omega)];have hl:=B6 h1 h2;show Hg 0 0 hv 0 [(bk,ls,ph,tx,la,(st,hv,bs),tk)] _=some ((bk,ls,ph,tx,la,(st,hv,nzB hv bs),tk),());unfold Hg;refine lN (N:=8) (mk:=fun i=>(0,0,hv,(i:Int),[(bk,ls,ph,tx,la,(st,hv,(nzB hv bs).take i++bs.drop i),tk)],_)) ?_ ?_ 8 0 _ (by omega) (by omega)
 ·intro self i hi
  show Hf (NW _) _ 0 0 hv (i:Int) [(bk,ls,ph,tx,la,(st,hv,(nzB hv bs).take i++bs.drop i),tk)] _=self (0,0,hv,((i+1:Nat):Int),[(bk,ls,ph,tx,la,(st,hv,(nzB hv bs).take (i+1)++bs.drop (i+1)),tk)],_);obtain⟨x,hx⟩:=fU (xs:=hv) (i:=i) (by omega);obtain⟨b,hb⟩:=fU (xs:=bs) (i:=i) (by omega);have hm:at? ((nzB hv bs).take i++bs.drop i) (i:Int)=some b:=fI (by grind);have hs:=Qy (xs:=bs) (ys:=nzB hv bs) (by omega) (aag hx hb);unfold Hf;have l8:lt (i:Int) 8=true:=cu.2 (by omega);have g0:ge (i:Int) 0=true:=gY.2 (by omega);have K2:∀y z,NW (fun a t2 t12 t13 a_2 t2_2=>self (a,t2,t12,t13,a_2,t2_2)) 0 0 (i:Int) hv (i:Int) [(bk,ls,ph,tx,la,(st,hv,(nzB hv bs).take i++bs.drop i),tk)] z y=self (0,0,hv,((i+1:Nat):Int),[(bk,ls,ph,tx,la,(st,hv,((nzB hv bs).take i++bs.drop i).set i y),tk)],z):=fun y z=>by show Xq _ _ _ _ _ _ _ _ _=_;grind[Xq,eu,iG,iD]
  rw[if_pos l8,eu l8,fI hx,zD]
  cases x with
  | true =>
   rw[if_pos rfl,eu g0,eu l8,iG,zD];grind[eu,mX,zY]
  | false =>
   rw[if_neg (by decide),K2,<- hs];rfl
 ·intro self
  show Hf (NW _) _ 0 0 hv (8:Int) [(bk,ls,ph,tx,la,(st,hv,(nzB hv bs).take 8++bs.drop 8),tk)] _=_;unfold Hf;rw[if_neg (by decide)];have e1:(nzB hv bs).take 8++bs.drop 8=nzB hv bs:=by grind
  rw[e1];rfl
theorem YR(x:Int):IntKind.u32.wrap x=x%4294967296:=by rfl
theorem azJ{x:Int}:shr .u32 x 16=x / 65536:=by
 unfold shr;have:min (16:Int).toNat IntKind.u32.bits=16:=by decide
 grind
theorem parts_eq{x:Int}(h0:0≤x)(h1:x≤4294967295):Ac (x,())=some (x / 65536,x%65536,()):=by show ad1 x=_;grind[ad1,azJ,BV]
theorem azK{y:Int}(h0:0≤y)(h1:y≤65535):shl .u32 (cvt .u32 y) 16=65536*y:=by
 unfold cvt;rw[YR];unfold shl;have:min (16:Int).toNat IntKind.u32.bits=16:=by decide
 grind[YR]
theorem aq8{a b:Int}(ha:0≤a)(ha2:a≤65535)(hb:0≤b)(hb':b≤65535):bor .u32 (65536*a) b=65536*a+b:=by
 obtain⟨n,rfl⟩:=zN ha;obtain⟨m,rfl⟩:=zN hb;unfold bor;rw[YR]
 have e1:(BitVec.ofInt IntKind.u32.bits (65536*(n:Int))).toNat=65536*n:=by
  rw[BitVec.toNat_ofInt];have:((2 ^ IntKind.u32.bits:Nat):Int)=4294967296:=by decide
  grind
 have e2:(BitVec.ofInt IntKind.u32.bits (m:Int)).toNat=m:=by
  rw[BitVec.toNat_ofInt];have:((2 ^ IntKind.u32.bits:Nat):Int)=4294967296:=by decide
  grind
 rw[BitVec.toNat_or,e1,e2];have e3:65536*n ||| m=65536*n+m:=by have:=Nat.two_pow_add_eq_or_of_lt (i:=16) (b:=m) (by omega) n;simp_all
 omega
theorem wR{a b:Int}(ha:0≤a)(ha2:a≤65535)(hb:0≤b)(hb':b≤65535):pO (a,b,())=some (65536*a+b,()):=by show ad8 a b=_;unfold ad8;rw[azK ha ha2,show cvt .u32 b=b from aqP hb (by omega),aq8 ha ha2 hb hb']
theorem aku{st:Int}{hv:List Bool}{bs:List bn}(h:hv.length=8):WT ((st,hv,bs),())=some (((hv.count true:Nat):Int),()):=by
 show NV 0 hv 0=_;unfold NV;refine (lN (N:=8) (mk:=fun i=>((((hv.take i).count true:Nat):Int),hv,(i:Int))) (r:=some (((hv.count true:Nat):Int),())) ?_ ?_ 8 0 _ (by omega) (by omega))
 ·intro self i hi
  show G7 _ (((hv.take i).count true:Nat):Int) hv (i:Int)=_;obtain⟨x,hx⟩:=fU (xs:=hv) (i:=i) (by omega);have l8:lt (i:Int) 8=true:=cu.2 (by omega);have hle:(hv.take i).count true≤8:=by grind[List.count_le_length,kB]
  have e:(hv.take (i+1)).count true=(hv.take i).count true+(if x=true then 1 else 0):=by grind[List.take_add_one]
  unfold G7;rw[if_pos l8,eu l8,fI hx,zD,iD (by omega),iD (by omega),e];grind
 ·intro self
  show G7 _ (((hv.take 8).count true:Nat):Int) hv (8:Int)=_;unfold G7;rw[if_neg (by decide),List.take_of_length_le (by omega)]
theorem Ig{x:bn}(h:x.2.length≤1000):AB (x,())=some (x,()):=by show ai5 x=_;grind[ai5,mX]
theorem number_eq(n:Int):Dc (n,())=some (decide (0≤n∧n≤7),()):=by
 show aeo n=_;unfold aeo;by_cases h:0≤n
 ·rw[if_pos (gY.2 h),pR]
  grind
 simp_all[if_neg,gY,decide_eq_false]
def itB(x:bn):List Int:=if fD x=true then x.1::(x.2.length:Int)::x.2++zE (14 - x.2.length) 0 else zE 16 0
theorem am7(s:List Int->Option (As [.sl (.int .u16)]))(l:List Int):TY s l=if lt (zF l.length) 16=true then need (small (l.length+1)) (s (l++[0])) else some (l,()):=rfl
theorem am8:∀(k:Nat) (l:List Int) (n:Nat),l.length+k=16->k<n->bu (fun (self:List Int->Option (As [.sl (.int .u16)])) (s:List Int)=>TY (fun l=>self l) s) n l=some (l++zE k 0,())
 | _,_,0,_,h=>by omega
 | 0,l,n+1,h,_=>by simp_all[jM,am7,if_neg,cu,ay]
 | k+1,l,n+1,h,hn=>by rw[jM,am7,if_pos (by grind[cu,ay]),iT (by omega),am8 k (l++[0]) n (by grind) (by omega),List.append_assoc];rfl
theorem Ba{x:bn}(h:x.2.length≤1000):Da (x,())=some (itB x,()):=by
 show T6 T7 x=_;unfold T6 itB;rw[qI (by omega),zD];have K:∀(l:List Int) k,l.length+k=16->T7 l=some (l++zE k 0,()):=fun l k hk=>by show LY l=_;grind[LY,am8]
 by_cases hf:fD x=true
 ·rw[if_pos hf,if_pos hf]
  have hf2:=of_decide_eq_true hf;grind[iT,BV,ay,Int.emod_eq_of_lt]
 simp_all
theorem wT{x:bn}:(itB x).length=16:=by
 unfold itB;split
 ·rename_i h
  have:=of_decide_eq_true h;simp_all
 ·simp
def iA(o tx n:Int)(x:bn):List Int:=o::tx / 65536::tx%65536::n::itB x
theorem oO{o tx n:Int}{x:bn}:(iA o tx n x).length=20:=by simp_all[iA,wT]
theorem IY{o tx n:Int}{x:bn}(h0:0≤tx)(h1:tx≤4294967295)(hn:0≤n∧n≤7)(h:x.2.length≤1000):Mj (o,tx,n,x,())=some (iA o tx n x,()):=by show aer o tx n x=_;unfold aer;rw[parts_eq h0 h1,zD,iT (by omega),Ba h,zD,iT (by grind[wT]),show cvt .u16 n=n from Yz hn.1 (by omega)];rfl
theorem aah{o tx n:Int}{x:bn}(h0:0≤tx)(h1:tx≤4294967295)(h:x.2.length≤1000) :
  Uv (o,tx,n,x,())=some (if 0≤n∧n≤7 then if fD x=true then (iA o tx n x,0,()) else ([],20,()) else ([],2,())):=by
 show aes o tx n x=_;unfold aes;rw[number_eq,zD];by_cases hn:0≤n∧n≤7
 ·rw[if_neg (by grind),if_pos hn,qI (by omega),zD]
  cases hf:fD x with
  | true=>rw[if_neg (by decide),IY h0 h1 hn h];rfl
  | false=>rfl
 grind
def jE(s:l9)(o n:Int):List Int:=match s.2.1[n.toNat]?,s.2.2[n.toNat]? with
 | some true,some x=>iA o s.1 n x
 | _,_=>zE 20 0
theorem back_eq{s:l9}{o n:Int}(h0:0≤s.1)(h1:s.1≤4294967295)(hn:0≤n∧n≤7)(hh:s.2.1.length=8)(hb:s.2.2.length=8)(hw:∀b∈s.2.2,b.2.length≤1000):Xb (s,o,n,())=some (jE s o n,()):=by
 obtain⟨st,hv,bs⟩:=s;obtain⟨k,rfl⟩:=zN hn.1;show Xa aiz (st,hv,bs) o (k:Int)=_;unfold Xa jE;rw[number_eq,zD,if_neg (by grind)];dsimp only at hh hb ⊢;obtain⟨x,hx⟩:=fU (xs:=hv) (i:=k) (by omega);obtain⟨b,hb'⟩:=fU (xs:=bs) (i:=k) (by omega);rw[fI hx,zD,zQ,hx,hb'];show W9 o (k:Int) (st,hv,bs) (!x)=_;unfold W9
 cases x with
 | true =>
  rw[if_neg (by decide)];grind[fI,IY,zY]
 | false=>rfl
def rdB(w:List Int):Int×Int×Int×bn×Int :=
 if w.length≠20∨8≤w.getD 3 0 then (0,0,0,zB,2)
 else if 14<w.getD 5 0 then (0,0,0,zB,20)
 else if fD (w.getD 4 0,(w.drop 6).take (w.getD 5 0).toNat)=true∧itB (w.getD 4 0,(w.drop 6).take (w.getD 5 0).toNat)=w.drop 4 then (w.getD 0 0,65536*w.getD 1 0+w.getD 2 0,w.getD 3 0,(w.getD 4 0,(w.drop 6).take (w.getD 5 0).toNat),0)
 else (0,0,0,zB,20)
theorem akv{w:List Int}(hr:∀x∈w,0≤x∧x≤65535):Ht (w,())=some ((rdB w).1,(rdB w).2.1,(rdB w).2.2.1,(rdB w).2.2.2.1,(rdB w).2.2.2.2,()):=by
 show X6 ajD w=_;unfold X6;by_cases hl:w.length=20
 ·rw[if_neg (fun e=>fo.1 e (by simp_all))]
  have g:∀k:Nat,k<20->at? w (k:Int)=some (w.getD k 0):=fun k hk=>by simp_all[fU,fI,List.getD_eq_getElem?_getD]
  have rg:∀k:Nat,k<20->0≤w.getD k 0∧w.getD k 0≤65535:=fun k hk=>by simp_all
  have c64:∀k:Nat,k<20->cvt .i64 (w.getD k 0)=w.getD k 0:=fun k hk=>iI (by grind) (by grind);have g3:at? w 3=some (w.getD 3 0):=g 3 (by omega);have g4:at? w 4=some (w.getD 4 0):=g 4 (by omega);have g5:at? w 5=some (w.getD 5 0):=g 5 (by omega);have g0:at? w 0=some (w.getD 0 0):=g 0 (by omega);have g1:at? w 1=some (w.getD 1 0):=g 1 (by omega);have g2:at? w 2=some (w.getD 2 0):=g 2 (by omega);rw[g3,zD];show X4 X7 w (ge (w.getD 3 0) 8) 0=_;unfold X4;by_cases h8:8≤w.getD 3 0
  ·rw[if_pos (gY.2 h8)]
   unfold rdB;rw[if_pos (Or.inr h8)];rfl
  ·rw[if_neg (fun e=>h8 (gY.1 e)),g4,zD,g5,zD]
   have c6:cut w 6 (zF w.length)=some (w.drop 6):=kG (i:=6) (by omega);have c4:cut w 4 (zF w.length)=some (w.drop 4):=kG (i:=4) (by omega);have l6:(w.drop 6).length=14:=by simp_all
   rw[c6,zD,c64 5 (by omega),c64 4 (by omega)];have r5:=rg 5 (by omega);have r4:=rg 4 (by omega);by_cases h14:14<w.getD 5 0
   ·rw[if_pos (gq.2 (by simp_all))]
    unfold rdB;rw[if_neg (by omega),if_pos h14];rfl
   ·rw[if_neg (fun e=>h14 (by simp_all[gq,ay]))]
    obtain⟨m,hm⟩:=zN r5.1;have cm:cut (w.drop 6) 0 (w.getD 5 0)=some ((w.drop 6).take m):=by grind[pU]
    rw[cm,zD,eu (gM.2 (Int.le_refl _)),eu (gM.2 (by simp_all))];have lm:((w.drop 6).take m).length=m:=by grind
    rw[Ig (by grind),zD];dsimp only;rw[qI (by grind),zD];unfold rdB;rw[if_neg (show ¬ (w.length≠20∨8≤w.getD 3 0) by omega),if_neg h14,hm,zQ]
    have K2:∀b,X7 w b 0 (w.getD 4 0,(w.drop 6).take m)=some (if b=true then (0,0,0,zB,20,()) else (w.getD 0 0,65536*w.getD 1 0+w.getD 2 0,w.getD 3 0,(w.getD 4 0,(w.drop 6).take m),0,())):=fun b=>by
     show X5 w b 0 _=_;unfold X5
     cases b with
     | true=>rfl
     | false =>
      have r1:=rg 1 (by omega);have r2:=rg 2 (by omega);rw[if_neg (by decide),if_neg (by decide),g0,zD,g1,zD,g2,zD,g3,zD,wR r1.1 r1.2 r2.1 r2.2,zD,c64 3 (by omega)]
    cases hf:fD (w.getD 4 0,(w.drop 6).take m) with
    | false =>
     rfl
    | true =>
     rw[if_neg (by decide),c4,zD,Ba (by grind),zD];dsimp only;rw[AX (by grind[wT]),zD,K2];grind
 ·rw[if_pos (fo.2 (by grind))]
  unfold rdB;rw[if_pos (Or.inl hl)];rfl
theorem DW{o tx n:Int}{x:bn}(hf:fD x=true):iA o tx n x=o::tx / 65536::tx%65536::n::x.1::(x.2.length:Int)::(x.2++zE (14 - x.2.length) 0):=by simp_all[iA,itB,if_pos]
theorem aoe{o tx n:Int}{x:bn}(hf:fD x=true)(hn:n≤7):rdB (iA o tx n x)=(o,tx,n,x,0):=by
 obtain⟨p,w⟩:=x;have h2:=of_decide_eq_true hf;dsimp only at h2;have hl:=oO (o:=o) (tx:=tx) (n:=n) (x:=(p,w));have hd:(iA o tx n (p,w)).drop 4=itB (p,w):=rfl;have e:(w++zE (14 - w.length) (0:Int)).take w.length=w:=List.take_left' rfl;have k0:(iA o tx n (p,w)).getD 0 0=o:=rfl;have k1:(iA o tx n (p,w)).getD 1 0=tx / 65536:=rfl;have k2:(iA o tx n (p,w)).getD 2 0=tx%65536:=rfl;have k3:(iA o tx n (p,w)).getD 3 0=n:=rfl;have k4:(iA o tx n (p,w)).getD 4 0=p:=by grind[DW]
 have k5:(iA o tx n (p,w)).getD 5 0=(w.length:Int):=by grind[DW]
 have k6:(iA o tx n (p,w)).drop 6=w++zE (14 - w.length) 0:=by rw[DW hf];rfl
 unfold rdB;grind
def DX(s:l9)(k:Nat)(x:bn):l9:=(s.1,s.2.1.set k true,nzB (s.2.1.set k true) (s.2.2.set k x))
theorem aof{s:l9}{n:Int}{x:bn}(hh:s.2.1.length=8)(hb:s.2.2.length=8)(hw:∀b∈s.2.2,b.2.length≤1000)(hx:x.2.length≤1000) :
  Yb (s,n,x,())=some (if 0≤n∧n≤7 then if fD x=true then (DX s n.toNat x,0,()) else (zSt,20,()) else (zSt,2,())):=by
 obtain⟨st,hv,bs⟩:=s;dsimp only at hh hb hw;show Ya N9 (st,hv,bs) n x=_;unfold Ya;rw[number_eq,zD];by_cases hn:0≤n∧n≤7
 ·obtain⟨k,rfl⟩:=zN hn.1
  rw[decide_eq_true hn,if_neg (by decide),if_pos hn,qI (by omega),zD]
  cases hf:fD x with
  | false =>
   rfl
  | true =>
   have g0:ge (k:Int) 0=true:=gY.2 (by omega);have l8:lt (k:Int) 8=true:=cu.2 (by omega);obtain⟨y,hy⟩:=fU (xs:=hv) (i:=k) (by omega);obtain⟨b,hb'⟩:=fU (xs:=bs) (i:=k) (by omega);rw[if_neg (by decide),if_pos rfl,eu g0,eu l8];dsimp only;rw[fI hy,zD,eu g0,eu l8,fI hb',zD,zQ];have hh2:(hv.set k true).length=8:=by simp_all
   have hb2:(bs.set k x).length=8:=by simp_all
   have hw2:∀c∈bs.set k x,c.2.length≤1000:=fun c hc=>by grind
   unfold DX;dsimp only;generalize hv.set k true=hv' at *;generalize bs.set k x=bs' at *;have hl:=B6 hh2 hb2;unfold N9;refine lN (N:=8) (mk:=fun i=>(0,0,hv',(i:Int),[(st,hv',(nzB hv' bs').take i++bs'.drop i)],_)) ?_ ?_ 8 0 _ (by omega) (by omega)
   ·intro self i hi
    show N8 _ _ 0 0 hv' (i:Int) [(st,hv',(nzB hv' bs').take i++bs'.drop i)] _=self (0,0,hv',((i+1:Nat):Int),[(st,hv',(nzB hv' bs').take (i+1)++bs'.drop (i+1))],_);obtain⟨z,hz⟩:=fU (xs:=hv') (i:=i) (by omega);obtain⟨c,hc⟩:=fU (xs:=bs') (i:=i) (by omega);have hm:at? ((nzB hv' bs').take i++bs'.drop i) (i:Int)=some c:=fI (by grind);have hs:=Qy (xs:=bs') (ys:=nzB hv' bs') (by omega) (aag hz hc);have l8:lt (i:Int) 8=true:=cu.2 (by omega);have g0:ge (i:Int) 0=true:=gY.2 (by omega);unfold N8;rw[if_pos l8,eu l8,fI hz,zD]
    cases z with
    | true =>
     rw[if_pos rfl,eu g0,eu l8,iG,zD];grind[Ig,zY,eu,iD]
    | false =>
     rw[if_neg (by decide),eu g0,eu l8,iG,zD];dsimp only;rw[hm,zD,iD (by omega),<- hs];rfl
   ·intro self
    show N8 _ _ 0 0 hv' (8:Int) [(st,hv',(nzB hv' bs').take 8++bs'.drop 8)] _=_;have e1:(nzB hv' bs').take 8++bs'.drop 8=nzB hv' bs':=by grind
    rw[e1];rfl
 grind
def fO(hv:List Bool)(bs:List bn):List bn:=((hv.zip bs).filter (fun p=>p.1)).map (fun p=>p.2)
theorem aai{hv:List Bool}{bs:List bn}{i:Nat}{x:Bool}{b:bn}(h1:hv[i]? = some x)(h2:bs[i]? = some b) :
  fO (hv.take (i+1)) (bs.take (i+1))=fO (hv.take i) (bs.take i)++(if x=true then [b] else []):=by
 have i1:=(List.getElem?_eq_some_iff.1 h1).1;have i2:=(List.getElem?_eq_some_iff.1 h2).1;unfold fO;rw[List.take_add_one,List.take_add_one,h1,h2];show (List.map _ (List.filter _ ((hv.take i++[x]).zip (bs.take i++[b]))))=_;rw[List.zip_append (by grind),List.filter_append,List.map_append];cases x<;>rfl
theorem Oy{hv:List Bool}{bs:List bn}{b:bn}(h:b∈fO hv bs):b∈bs:=by obtain⟨p,hp,rfl⟩:=List.mem_map.1 h;exact (List.of_mem_zip (List.mem_filter.1 hp).1).2
theorem Ih{hv:List Bool}{bs:List bn}:(fO hv bs).length≤hv.length:=by grind[fO,List.length_map,Nat.le_trans,List.length_filter_le,List.length_zip]
theorem EL{s:l9}(hh:s.2.1.length=8)(hb:s.2.2.length=8)(hw:∀b∈s.2.2,b.2.length≤1000):DC (s,())=some (fO s.2.1 s.2.2,()):=by
 obtain⟨st,hv,bs⟩:=s;dsimp only at hh hb hw ⊢;show NZ (st,hv,bs) hv 0 []=_;unfold NZ;refine lN (N:=8) (mk:=fun i=>((st,hv,bs),hv,(i:Int),fO (hv.take i) (bs.take i))) ?_ ?_ 8 0 _ (by omega) (by omega)
 ·intro self i hi
  show Ho _ (st,hv,bs) hv (i:Int) (fO (hv.take i) (bs.take i))=self ((st,hv,bs),hv,((i+1:Nat):Int),fO (hv.take (i+1)) (bs.take (i+1)));obtain⟨z,hz⟩:=fU (xs:=hv) (i:=i) (by omega);obtain⟨c,hc⟩:=fU (xs:=bs) (i:=i) (by omega);have l8:lt (i:Int) 8=true:=cu.2 (by omega);have hle:(fO (hv.take i) (bs.take i)).length≤8:=by grind[Ih,kB]
  rw[aai hz hc];unfold Ho;rw[if_pos l8,eu l8,fI hz,zD]
  cases z with
  | true =>
   rw[if_pos rfl];grind[fI,Ig,zY,iT,iD]
  | false =>
   rw[if_neg (by decide),iD (by omega)];simp
 ·intro self
  show Ho _ (st,hv,bs) hv (8:Int) (fO (hv.take 8) (bs.take 8))=_;unfold Ho;rw[if_neg (by decide),List.take_of_length_le (by omega),List.take_of_length_le (by omega)]
def shV(s:Int):Int:=if eqi (lJ .u32 s 1) 1=true then iE .u32 (shr .u32 s 1) 3988292384 else shr .u32 s 1
theorem akw(s:Int):LZ (s,())=some (shV s,()):=by show adI s=_;grind[adI,shV]
def Oz(s b:Int):Int:=shV (shV (shV (shV (shV (shV (shV (shV (iE .u32 s (cvt .u32 b)))))))))
theorem aog(f:Int->Int->Option (As [.int .u32]))(s i:Int):L5 f s i=if lt i 8=true then zC (LZ (s,())) fun y=>f y.1 (add .i64 i 1) else some (s,()):=rfl
theorem aoh(s b:Int):Ua (s,b,())=some (Oz s b,()):=by
 show L6 (iE .u32 s (cvt .u32 b)) 0=_;unfold Oz;generalize iE .u32 s (cvt .u32 b)=x;have st:∀n x (i:Int),lt i 8=true->bu (fun (self:Int×Int->Option (As [.int .u32])) (s:Int×Int)=>L5 (fun a b=>self (a,b)) s.1 s.2) (n+1) (x,i)=bu (fun (self:Int×Int->Option (As [.int .u32])) (s:Int×Int)=>L5 (fun a b=>self (a,b)) s.1 s.2) n (shV x,add .i64 i 1):=fun n x i h=>by rw[jM,aog,if_pos h,akw,zD]
 unfold L6;rw[st _ _ _ (by rfl),st _ _ _ (by rfl),st _ _ _ (by rfl),st _ _ _ (by rfl),st _ _ _ (by rfl),st _ _ _ (by rfl),st _ _ _ (by rfl),st _ _ _ (by rfl)];rfl
def Ii(s:Int):Int:=((Uc s).getD (0,())).1
theorem akx(s:Int):0≤Ii s∧Ii s≤4294967295:=by grind[Ii,Uc,Int.natCast_nonneg,Int.ofNat_le,Nat.le_of_lt_succ,Nat.mod_lt]
theorem aaj{b:List Int}(h:b.length≤1000000):adP (b,())=some (Ii (b.foldl Oz 4294967295),()):=by
 show L8 b 4294967295 (zF b.length) 0=_;unfold L8;refine (nK (xs:=b) (mk:=fun i acc=>(b,acc,zF b.length,(i:Int))) (stp:=Oz) (fin:=fun acc=>some (Ii acc,())) (fun _ _=>True) ?_ (fun _ _ _ _ _=>trivial) ?_ b.length 0 4294967295 _ (by omega) (by omega) trivial)
 ·intro self i acc x hx _
  have hi:=(List.getElem?_eq_some_iff.1 hx).1;show Gb _ _ b acc (zF b.length) (i:Int)=_;unfold Gb;rw[if_pos (by grind[cu,ay]),fI hx,zD,aoh,zD,iD (by omega)]
 ·intro self acc _
  show Gb _ _ b acc (zF b.length) (b.length:Int)=_;unfold Gb;rw[if_neg (by grind[cu,ay])];rfl
theorem aak(l:List Int)(x:Int):(l++[x]).flatMap two=l.flatMap two++two x:=by simp
theorem Px{l:List Int}(h:l.length≤100000):adU (l,())=some (l.flatMap two,()):=by
 show Ue Ma l=_;unfold Ue;have e2:mul .i64 2 (zF l.length)=((2*l.length:Nat):Int):=by grind[ay,nX]
 rw[e2,eu (gY.2 (by omega)),eu (mq _),zQ,iT (by omega)];unfold Ma;have hz:zE (2*l.length) (0:Int)=(l.take 0).flatMap two++(zE (2*l.length) 0).drop 0:=by simp
 rw[hz];refine lN (N:=l.length) (mk:=fun i=>(l,zF l.length,(i:Int),(l.take i).flatMap two++(zE (2*l.length) 0).drop (2*i))) ?_ ?_ l.length 0 _ (by omega) (by omega)
 ·intro self i hi
  show L9 _ l (zF l.length) (i:Int) ((l.take i).flatMap two++(zE (2*l.length) 0).drop (2*i))=self (l,zF l.length,((i+1:Nat):Int),(l.take (i+1)).flatMap two++(zE (2*l.length) 0).drop (2*(i+1)));obtain⟨x,hx⟩:=fU (xs:=l) (i:=i) (by omega);have lp:((l.take i).flatMap two).length=2*i:=by grind[vW,kB]
  have ed:(zE (2*l.length) (0:Int)).drop (2*i)=0::0::(zE (2*l.length) 0).drop (2*(i+1)):=by rw[List.drop_replicate,List.drop_replicate,show 2*l.length - 2*i=(2*l.length - 2*(i+1))+1+1 by omega];rfl
  have ei:(l.take (i+1)).flatMap two=(l.take i).flatMap two++two x:=by simp_all[List.take_add_one,aak]
  rw[ed,ei];unfold L9;have m2:mul .i64 2 (i:Int)=((2*i:Nat):Int):=by grind[nX]
  have m3:add .i64 ((2*i:Nat):Int) 1=((2*i+1:Nat):Int):=iD (by omega);generalize (l.take i).flatMap two=p at *;generalize (zE (2*l.length) (0:Int)).drop (2*(i+1))=q at *;have g1:at? (p++0::0::q) ((2*i:Nat):Int)=some 0:=fI (by simp_all);have s1:∀y:Int,(p++0::0::q).set (2*i) y=p++y::0::q:=fun y=>by simp_all
  have g2:∀y:Int,at? (p++y::0::q) ((2*i+1:Nat):Int)=some 0:=fun y=>fI (by simp_all);have s2:∀y z:Int,(p++y::0::q).set (2*i+1) z=p++y::z::q:=fun y z=>by simp_all
  rw[if_pos (by grind[cu,ay]),fI hx,zD,zD,m2,g1,zD,zD,m3,zQ,zQ,s1,g2,zD,zD,s2,iD (by omega),rO,rO,YA _ _ (by decide),List.append_assoc];rfl
 simp_all[L9,zF,Int,two,zE,if_neg,cu,ay,List.take_length,List.drop_eq_nil_of_le]
def Ij(l:List Int):Int:=Ii ((l.flatMap two).foldl Oz 4294967295)
theorem aky(l:List Int):0≤Ij l∧Ij l≤4294967295:=akx _
theorem Py{l:List Int}(h:l.length≤100000):Uf (l,())=some (Ij l,()):=by show adV l=_;unfold adV;rw[Px h,zD];dsimp only;rw[aaj (by grind[vW])];rfl
def ou(l:List bn):Int:=Ij (l.flatMap itB)
theorem QA{l:List bn}(h:l.length≤1000)(hw:∀b∈l,b.2.length≤1000):Gd (l,())=some (ou l,()):=by
 show Mc l (zF l.length) 0 []=_;unfold Mc;have K2:∀all:List Int,all.length≤100000->adZ all=some (Ij all,()):=fun all ha=>by show Uh all=_;grind[Uh,Py]
 have hn:l.flatMap itB=[]++l.flatMap itB:=rfl;unfold ou;rw[hn,<- uT];refine (nK (xs:=l) (mk:=fun i acc=>(l,zF l.length,(i:Int),acc)) (stp:=fun o x=>o++itB x) (fin:=fun acc=>some (Ij acc,())) (fun i acc=>acc.length=16*i) ?_ ?_ ?_ l.length 0 [] _ (by omega) (by omega) rfl)
 ·intro self i acc x hx ha
  have hi:=(List.getElem?_eq_some_iff.1 hx).1;show Gc _ _ l (zF l.length) (i:Int) acc=_;unfold Gc;rw[if_pos (by grind[cu,ay]),fI hx,zD,Ba (hw x (zY hx)),zD,iT (by grind[wT]),iD (by omega)]
 ·grind[zZ,wT]
 ·intro self acc ha
  show Gc _ _ l (zF l.length) (l.length:Int) acc=_;unfold Gc;rw[if_neg (by grind[cu,ay]),K2 _ (by omega)]
def uD(hv:List Bool)(n:Int):Bool:=decide (∀i:Nat,i<8->hv.getD i false=decide ((i:Int)<n))
theorem aal{s:l9}{n c:Int}(hh:s.2.1.length=8)(hb:s.2.2.length=8)(hw:∀b∈s.2.2,b.2.length≤1000) :
  XI (s,n,c,())=some (decide (0≤n∧n≤8) && (uD s.2.1 n && decide (ou (fO s.2.1 s.2.2)=c)),()):=by
 have hblk:=EL hh hb hw;obtain⟨st,hv,bs⟩:=s;dsimp only at hh hb hw hblk ⊢;show XG XH (st,hv,bs) n c=_;unfold XG;have K1t:XH n c (st,hv,bs) true=some (false,()):=rfl;by_cases h0:n<0
 ·simp_all[if_pos,cu,decide_eq_false]
 ·rw[if_neg (fun e=>h0 (cu.1 e))]
  by_cases h8:8<n
  ·grind[gq,decide_eq_false]
  ·rw[AP,decide_eq_false h8,decide_eq_true (show 0≤n∧n≤8 by omega),Bool.true_and]
   show N5 n c (st,hv,bs) hv 0=_;have K3:AF c (st,hv,bs)=some (decide (ou (fO hv bs)=c),()):=by show XF c (st,hv,bs)=_;unfold XF;rw[hblk,zD];dsimp only;rw[QA (by grind[Ih]) (fun b hb=>hw b (Oy hb)),zD];rfl
   unfold N5
   have hg:∀k i m:Nat,i+k=8->k<m->bu (fun (self:Int×Int×l9×List Bool×Int->Option (As [.bool])) (s:Int×Int×l9×List Bool×Int)=>DF AF (fun count check s t16 t17=>self (count,check,s,t16,t17)) s.1 s.2.1 s.2.2.1 s.2.2.2.1 s.2.2.2.2) m (n,c,(st,hv,bs),hv,(i:Int))=some (decide (∀j:Nat,j<8->i≤j->hv.getD j false=decide ((j:Int)<n)) && decide (ou (fO hv bs)=c),()):=by
    intro k
    induction k with
    | zero =>
     intro i m hi hm;obtain⟨m,rfl⟩:∃q,m=q+1:=⟨m - 1,by omega⟩;have:i=8:=by omega
     subst this;rw[jM];show DF AF _ n c (st,hv,bs) hv (8:Int)=_;unfold DF;rw[if_neg (by decide),K3,decide_eq_true (p:=∀j:Nat,j<8->8≤j->hv.getD j false=decide ((j:Int)<n)) (fun j h1 h2=>by omega),Bool.true_and]
    | succ k ih =>
     intro i m hi hm;obtain⟨m,rfl⟩:∃q,m=q+1:=⟨m - 1,by omega⟩;have l8:lt (i:Int) 8=true:=cu.2 (by omega);obtain⟨x,hx⟩:=fU (xs:=hv) (i:=i) (by omega);have gx:hv.getD i false=x:=by simp_all
     rw[jM];show DF AF _ n c (st,hv,bs) hv (i:Int)=_;have u:∀f,DF AF f n c (st,hv,bs) hv (i:Int)=if lt (i:Int) 8=true then need (lt (i:Int) 8) (zC (at? hv (i:Int)) fun y=>if neb y (lt (i:Int) n)=true then some (false,()) else f n c (st,hv,bs) hv (add .i64 (i:Int) 1)) else AF c (st,hv,bs):=fun f=>rfl;rw[u,if_pos l8,eu l8,fI hx,zD,pR];by_cases he:x=decide ((i:Int)<n)
     ·rw[if_neg (by rw[<- he];cases x<;>decide),iD (by omega),ih (i+1) m (by omega) (by omega)]
      refine congrArg (fun b=>some (b && _,())) ?_;grind
     ·rw[if_pos (by revert he;cases x<;>cases decide ((i:Int)<n)<;>decide),decide_eq_false (fun h=>he (by rw[<- gx];grind))]
      rfl
   have:=hg 8 0 18446744073709551616 rfl (by omega);refine this.trans ?_;refine congrArg (fun b=>some (b && _,())) ?_;unfold uD;simp
def Ca(b:List Int)(x:bn):List Int:=b.take x.1.toNat++x.2++b.drop (x.1.toNat+x.2.length)
theorem IZ{b:List Int}{x:bn}(h:b.length=64)(hf:fD x=true):(Ca b x).length=64:=by have:=of_decide_eq_true hf;grind[Ca,zZ,kB,List.length_drop]
def u6(b:List Int)(l:List bn):List Int:=l.foldl Ca b
theorem Bb:∀{l:List bn} {b:List Int},b.length=64->(∀x∈l,fD x=true)->(u6 b l).length=64
 | [],_,h,_=>h
 | x::r,b,h,hf=>Bb (l:=r) (IZ h (hf x (List.mem_cons_self ..))) (fun y hy=>hf y (zT _ hy))
theorem aam{b:List Int}{x:bn}{P:Int->Prop}(hb:∀y∈b,P y)(hx:∀y∈x.2,P y):∀y∈Ca b x,P y:=by grind[Ca,List.mem_of_mem_take,List.mem_of_mem_drop]
theorem Bc{P:Int->Prop}:∀{l:List bn} {b:List Int},(∀y∈b,P y)->(∀x∈l,∀y∈x.2,P y)->∀y∈u6 b l,P y
 | [],_,h,_=>h
 | x::r,b,h,hf=>Bc (l:=r) (aam h (hf x (List.mem_cons_self ..))) (fun y hy=>hf y (zT _ hy))
theorem aoi{l:List bn}(hl:l.length≤1000000)(hf:∀x∈l,fD x=true):JF (l,())=some (true,()):=by
 have hi:ajm (l,())=some (-1,()):=by
  show N7 l (zF l.length) 0=_;unfold N7;refine lN (N:=l.length) (mk:=fun i=>(l,zF l.length,(i:Int))) ?_ ?_ l.length 0 _ (by omega) (by omega)
  ·intro self i hi
   obtain⟨x,hx⟩:=fU (xs:=l) (i:=i) hi;have hfx:=hf x (zY hx);have h2:=of_decide_eq_true hfx;have hz:XN (x,())=some (false,()):=by show ajh x=_;grind[ajh,qI]
   show N6 _ l (zF l.length) (i:Int)=_;unfold N6;rw[if_pos (by grind[cu,ay]),fI hx,zD,hz,zD,if_neg (by decide),iD (by omega)]
  simp_all[N6,zF,Int,if_neg,cu,ay]
 have hc:ajo (l,())=some (false,()):=by show ajn l=_;unfold ajn;rw[hi];rfl
 show ajp l=_;simp_all[ajp]
theorem yD{s:List Int}(h:s.length≤1000000):CZ (s,())=some (s,()):=by
 show acr s=_;unfold acr;by_cases h0:s.length=0
 ·have:s=[]:=List.eq_nil_of_length_eq_zero h0
  subst this;rfl
 ·rw[if_neg (by grind[dw,ay]),iT (by omega)]
theorem OA{b:List Int}{l:List bn}(hb:b.length=64)(hl:l.length≤1000000)(hf:∀x∈l,fD x=true):DI (b,l,())=some (u6 b l,0,()):=by
 show XR Hr b l=_;unfold XR;rw[if_neg (fun e=>fo.1 e (by simp_all)),aoi hl hf,zD,if_neg (by decide),yD (by omega),zD];show Hr l (zF l.length) 0 b=_;unfold Hr;refine (nK (xs:=l) (mk:=fun i acc=>(l,zF l.length,(i:Int),acc)) (stp:=Ca) (fin:=fun acc=>some (acc,0,())) (fun i acc=>acc.length=64) ?_ ?_ ?_ l.length 0 b _ (by omega) (by omega) hb)
 ·intro self i acc x hx ha
  have hi:=(List.getElem?_eq_some_iff.1 hx).1;have h2:=of_decide_eq_true (hf x (zY hx));show Hq _ _ l (zF l.length) (i:Int) acc=_;unfold Hq;rw[if_pos (by grind[cu,ay]),fI hx,zD,eu (gY.2 (by omega)),eu (gM.2 (by grind)),eu (gM.2 (Int.le_refl _)),eu (gM.2 (by omega)),iD (by omega)];have e:x.2.take (zI (zF acc.length - x.1))=x.2:=List.take_of_length_le (by grind);rw[e];rfl
 ·grind[IZ,zY]
 ·intro self acc ha
  show Hq _ _ l (zF l.length) (l.length:Int) acc=_;unfold Hq;rw[if_neg (by grind[cu,ay])];rfl
structure OkG(a:TAg):Prop where
 bl:a.1.length=64
 bw:∀x∈a.1,0≤x∧x≤65535
 lr:lU a.2.1
 l1:0≤a.2.1.1∧a.2.1.1≤65535
 l2:a.2.1.2≤9223372036854775807
 pr:0≤a.2.2.1∧a.2.2.1≤2
 tr:0≤a.2.2.2.1∧a.2.2.2.1≤4294967295
 ar:0≤a.2.2.2.2.1∧a.2.2.2.2.1≤4294967295
 kr:1≤a.2.2.2.2.2.2∧a.2.2.2.2.2.2≤9223372036854775807
 hl:a.2.2.2.2.2.1.2.1.length=8
 sl:a.2.2.2.2.2.1.2.2.length=8
 bb:∀b∈a.2.2.2.2.2.1.2.2,b.2.length≤1000
 wb:∀b∈a.2.2.2.2.2.1.2.2,∀w∈b.2,0≤w∧w≤65535
 fb:∀b∈fO a.2.2.2.2.2.1.2.1 a.2.2.2.2.2.1.2.2,fD b=true
 p0:a.2.2.1=0->a.2.1.1=0∧a.2.2.2.1=0∧a.2.2.2.2.2.1.1=0∧a.2.2.2.2.2.1.2.1.count true=0
 pn:a.2.2.1≠0->a.2.1.1≠0∧a.2.2.2.2.1<a.2.2.2.1∧a.2.2.2.2.2.1.1=a.2.2.2.1
 p1:a.2.2.1=1->1≤a.2.1.2
 p2:a.2.2.1=2->a.2.1.2=-1∧uD a.2.2.2.2.2.1.2.1 ((a.2.2.2.2.2.1.2.1.count true:Nat):Int)=true
theorem OkG.sz{a:TAg}(h:OkG a):SzA a:=⟨by have:=h.bl;omega,h.hl,h.sl,h.bb⟩
theorem Ik:∀(hv:List Bool) (bs:List bn),fO hv (nzB hv bs)=fO hv bs
 | [],_=>by rfl
 | _::_,[]=>by rfl
 | h::r,b::q=>by have ih:=Ik r q;unfold fO nzB at ih ⊢;rw[List.zipWith_cons_cons,List.zip_cons_cons,List.zip_cons_cons];grind
theorem Cb{hv:List Bool}{bs:List bn}{P:bn->Prop}(hz:P zB)(hp:∀b∈bs,P b):∀b∈nzB hv bs,P b:=by grind[nzB,List.getElem?_of_mem,zY]
theorem OkG.own{a:TAg}(h:OkG a):OkG (jh a):=by
 obtain⟨bk,ls,ph,tx,la,⟨st,hv,bs⟩,tk⟩:=a
 exact { h with
  sl:=B6 h.hl h.sl
  bb:=Cb (P:=fun b=>b.2.length≤1000) (by show (0:Nat)≤1000;omega) h.bb
  wb:=Cb (P:=fun b=>∀w∈b.2,0≤w∧w≤65535) (by intro w hw;cases hw) h.wb
  fb:=by have:=h.fb;show ∀b∈fO hv (nzB hv bs),_;simp_all[Ik] }
def pY(a:TAg):TAg:=(a.1,(0,0),0,0,a.2.2.2.2.1,zSt,a.2.2.2.2.2.2)
def uE(a:TAg)(n c:Int):Bool:=decide (0≤n∧n≤8) && (uD a.2.2.2.2.2.1.2.1 n && decide (ou (fO a.2.2.2.2.2.1.2.1 a.2.2.2.2.2.1.2.2)=c))
def doS(a:TAg)(c:TCm):TAg×Int :=
 if c.1=0∨c.2.2.1=0∨¬ (1≤c.2.1∧c.2.1≤4) then (a,2)
 else if a.2.1.1≠0∧a.2.1.1≠c.1 then (a,22)
 else if c.2.1=1 then
  if c.2.2.1≤a.2.2.2.2.1∨a.2.2.1≠0∧c.2.2.1<a.2.2.2.1 then (a,23)
  else if c.2.2.1=a.2.2.2.1 then ((a.1,kJ a.2.1 c.1 a.2.2.2.2.2.2,a.2.2),0)
  else ((a.1,(c.1,a.2.2.2.2.2.2),1,c.2.2.1,a.2.2.2.2.1,(c.2.2.1,zSt.2),a.2.2.2.2.2.2),0)
 else if c.2.1=2 then
  if a.2.2.1=2∧a.2.2.2.1=c.2.2.1∨a.2.2.1=1∧a.2.2.2.1=c.2.2.1∧uE a c.2.2.2.1 c.2.2.2.2=true then ((a.1,(c.1,-1),2,a.2.2.2),0)
  else (a,23)
 else if c.2.1=3 then
  if a.2.2.2.2.1=c.2.2.1 then (a,0)
  else if a.2.2.1=2∧a.2.2.2.1=c.2.2.1 then (pY (u6 a.1 (fO a.2.2.2.2.2.1.2.1 a.2.2.2.2.2.1.2.2),a.2.1,a.2.2.1,a.2.2.2.1,c.2.2.1,a.2.2.2.2.2),0)
  else (a,23)
 else
  if c.2.2.1≤a.2.2.2.2.1 then (a,23) else if a.2.1.1=c.1∧a.2.2.2.1=c.2.2.1 then (pY a,0) else (a,0)
theorem I1(a:TAg):Hl (a,())=some (pY a,()):=rfl
theorem EM(a:TAg)(p t:Int):xW (a,p,t,())=some (decide (a.2.2.1=p∧a.2.2.2.1=t),()):=by
 show ai3 a p t=_;unfold ai3;by_cases h:a.2.2.1=p
 ·rw[if_pos (dw.2 h)]
  refine congrArg (fun b=>some (b,())) ?_;rw[Bool.eq_iff_iff,dw,decide_eq_true_eq];omega
 simp_all[if_neg,dw,decide_eq_false]
theorem EN{a:TAg}(h:lU a.2.1)(o:Int):rM (a,o,())=some (decide (a.2.1.1≠0∧a.2.1.1≠o),()):=by
 show aiR a o=_;unfold aiR;rw[yC h,zD];by_cases h0:a.2.1.1=0
 ·simp_all
 ·rw[decide_eq_false h0,if_pos (by rfl)]
  refine congrArg (fun b=>some (b,())) ?_;rw[Bool.eq_iff_iff,fo,decide_eq_true_eq];omega
theorem Bd{a:TAg}{o:Int}(h:lU a.2.1)(ho:o≠0)(ht:1≤a.2.2.2.2.2.2)(hf:a.2.1.1=0∨a.2.1.1=o):Dz (a,o,())=some ((a.1,kJ a.2.1 o a.2.2.2.2.2.2,a.2.2),()):=by show ai1 a o=_;grind[ai1,aks]
set_option maxHeartbeats 1000000 in
theorem aq9{a:TAg}(h:OkG a){c:TCm}(hc:0≤c.2.2.2.1∧c.2.2.2.1≤65535):xX (a,c,())=some ((doS (jh a) c).1,(doS (jh a) c).2,()):=by
 show ajy a c=_;unfold ajy;have h':=h.own;rw[Qz h.sz,zD,qB (eqAs_refl _)];dsimp only;generalize jh a=g at h';obtain⟨co,cv,ct,cc,ck⟩:=c;dsimp only at hc ⊢;have lr:=h'.lr;have kr:=h'.kr;rw[EN lr,zD];unfold doS;dsimp only;by_cases hq:co=0∨ct=0∨¬ (1≤cv∧cv≤4)
 ·rw[if_pos hq]
  simp only[dw];by_cases h1:co=0
  ·simp[h1]
  ·by_cases h2:ct=0
   ·simp[h1,h2]
   ·have hv:¬ (1≤cv∧cv≤4):=by omega
    rw[if_neg (by omega),if_neg (by omega),if_neg (by omega),if_neg (by omega),if_neg h1,if_neg h2]
 ·rw[if_neg hq]
  have h1:co≠0:=by omega
  have h2:ct≠0:=by omega
  have hv:1≤cv∧cv≤4:=by omega
  simp only[dw,if_neg h1,if_neg h2];by_cases ho:g.2.1.1≠0∧g.2.1.1≠co
  ·rw[if_pos ho,decide_eq_true ho]
   simp only[if_true];split<;>first | rfl | skip
   split<;>first | rfl | skip
   split<;>first | rfl | skip
   split<;>first | rfl | skip
   omega
  ·rw[if_neg ho,decide_eq_false ho]
   simp only[Bool.false_eq_true,if_false];have hf:g.2.1.1=0∨g.2.1.1=co:=by omega
   by_cases v1:cv=1
   ·subst v1
    rw[if_pos rfl,if_pos rfl]
    have hn:Xt (g,(co,1,ct,cc,ck),())=some (decide (ct≤g.2.2.2.2.1∨g.2.2.1≠0∧ct<g.2.2.2.1),()):=by
     show aiS g (co,1,ct,cc,ck)=_;unfold aiS;dsimp only;by_cases q1:ct≤g.2.2.2.2.1
     ·rw[if_pos (gM.2 q1),decide_eq_true (Or.inl q1)]
     ·rw[if_neg (fun e=>q1 (gM.1 e))]
      by_cases q2:g.2.2.1=0
      ·rw[if_neg (fun e=>fo.1 e q2),decide_eq_false (by omega)]
      ·rw[if_pos (fo.2 q2),pR]
       refine congrArg (fun b=>some (b,())) ?_;rw[Bool.eq_iff_iff,decide_eq_true_eq,decide_eq_true_eq];omega
    rw[hn,zD];by_cases q:ct≤g.2.2.2.2.1∨g.2.2.1≠0∧ct<g.2.2.2.1
    ·rw[if_pos q,decide_eq_true q]
     rfl
    ·rw[if_neg q,decide_eq_false q,if_neg (by decide)]
     have hcl:Xy (g,(co,1,ct,cc,ck),())=some (if ct=g.2.2.2.1 then (g.1,kJ g.2.1 co g.2.2.2.2.2.2,g.2.2) else (g.1,(co,g.2.2.2.2.2.2),1,ct,g.2.2.2.2.1,(ct,zSt.2),g.2.2.2.2.2.2),()):=by
      show ai2 g (co,1,ct,cc,ck)=_;unfold ai2;dsimp only;by_cases e:ct=g.2.2.2.1
      ·rw[if_pos (dw.2 e),if_pos e,Bd lr h1 kr.1 hf]
       rfl
      ·rw[if_neg (fun x=>e (dw.1 x)),if_neg e,I1,zD]
       have:=Bd (a:=pY g) (o:=co) (Or.inl ⟨rfl,rfl⟩) h1 kr.1 (Or.inl rfl);dsimp only;rw[this];have et:kJ (0,0) co (pY g).2.2.2.2.2.2=(co,g.2.2.2.2.2.2):=by unfold kJ;rw[if_neg (fun x=>h1 (by cases x))];rfl
       show some ((g.1,kJ (0,0) co (pY g).2.2.2.2.2.2,1,ct,g.2.2.2.2.1,(ct,zSt.2),g.2.2.2.2.2.2),())=_;rw[et]
     rw[hcl,zD];split<;>rfl
   ·rw[if_neg (Ne.symm v1),if_neg v1]
    by_cases v2:cv=2
    ·subst v2
     rw[if_pos rfl,if_pos rfl]
     have hn:XJ (g,(co,2,ct,cc,ck),())=some (decide (¬ (g.2.2.1=2∧g.2.2.2.1=ct∨g.2.2.1=1∧g.2.2.2.1=ct∧uE g cc ck=true)),()):=by
      show ajd g (co,2,ct,cc,ck)=_;unfold ajd;dsimp only;rw[EM,zD];by_cases q1:g.2.2.1=2∧g.2.2.2.1=ct
      ·rw[decide_eq_true q1,if_pos rfl,decide_eq_false (fun e=>e (Or.inl q1))]
      ·rw[decide_eq_false q1,if_neg (by decide),EM,zD]
       by_cases q2:g.2.2.1=1∧g.2.2.2.1=ct
       ·rw[decide_eq_true q2,if_neg (by decide),iI (by omega) (by omega),aal h'.hl h'.sl h'.bb,zD]
        refine congrArg (fun b=>some (b,())) ?_;show (!uE g cc ck)=_
        cases hw:uE g cc ck with
        | true=>rw[decide_eq_false (fun e=>e (Or.inr ⟨q2.1,q2.2,rfl⟩))];rfl
        | false=>rw[decide_eq_true (by rintro (e | e);exact q1 e;exact Bool.false_ne_true e.2.2)];rfl
       ·rw[decide_eq_false q2,if_pos (by rfl),decide_eq_true (by rintro (e | e);exact q1 e;exact q2 ⟨e.1,e.2.1⟩)]
     rw[hn,zD];by_cases q:g.2.2.1=2∧g.2.2.2.1=ct∨g.2.2.1=1∧g.2.2.2.1=ct∧uE g cc ck=true
     ·rw[if_pos q,decide_eq_false (fun e=>e q),if_neg (by decide)]
      have hph:g.2.2.1≠0:=by rcases q with q | q<;>omega
      have hown:g.2.1.1=co:=by have:=(h'.pn hph).1;omega
      have hp:XL (g,(co,2,ct,cc,ck),())=some ((g.1,(co,-1),2,g.2.2.2),()):=by show ajf g (co,2,ct,cc,ck)=_;unfold ajf;dsimp only;rw[akt lr h1 hown];rfl
      rw[hp];rfl
     ·rw[if_neg q,decide_eq_true q]
      rfl
    ·rw[if_neg (Ne.symm v2),if_neg v2]
     by_cases v3:cv=3
     ·subst v3
      rw[if_pos rfl,if_pos rfl]
      have hn:XM (g,(co,3,ct,cc,ck),())=some (decide (g.2.2.2.2.1≠ct∧¬ (g.2.2.1=2∧g.2.2.2.1=ct)),()):=by
       show ajg g (co,3,ct,cc,ck)=_;unfold ajg;dsimp only;by_cases q1:g.2.2.2.2.1=ct
       ·rw[if_neg (fun e=>fo.1 e q1),decide_eq_false (fun e=>e.1 q1)]
       ·rw[if_pos (fo.2 q1),EM,zD]
        refine congrArg (fun b=>some (b,())) ?_;by_cases q2:g.2.2.1=2∧g.2.2.2.1=ct
        ·rw[decide_eq_true q2,decide_eq_false (fun e=>e.2 q2)];rfl
        ·rw[decide_eq_false q2,decide_eq_true ⟨q1,q2⟩];rfl
      rw[hn,zD]
      have hcm:g.2.2.2.2.1=ct∨(g.2.2.1=2∧g.2.2.2.1=ct)->XT (g,(co,3,ct,cc,ck),())=some (if g.2.2.2.2.1=ct then g else pY (u6 g.1 (fO g.2.2.2.2.2.1.2.1 g.2.2.2.2.2.1.2.2),g.2.1,g.2.2.1,g.2.2.2.1,ct,g.2.2.2.2.2),()):=fun _=>by
       show ajt g (co,3,ct,cc,ck)=_;unfold ajt;dsimp only;by_cases q1:g.2.2.2.2.1=ct
       ·rw[if_pos (dw.2 q1),if_pos q1]
       ·rw[if_neg (fun e=>q1 (dw.1 e)),if_neg q1,EL h'.hl h'.sl h'.bb,zD]
        dsimp only;rw[OA h'.bl (by have:=Ih (hv:=g.2.2.2.2.2.1.2.1) (bs:=g.2.2.2.2.2.1.2.2);have:=h'.hl;omega) h'.fb,zD];dsimp only;rw[if_neg (by decide),I1];rfl
      by_cases q1:g.2.2.2.2.1=ct
      ·rw[decide_eq_false (fun e=>e.1 q1),if_neg (by decide),hcm (Or.inl q1),if_pos q1,if_pos q1]
       rfl
      ·by_cases q2:g.2.2.1=2∧g.2.2.2.1=ct
       ·rw[decide_eq_false (fun e=>e.2 q2),if_neg (by decide),hcm (Or.inr q2),if_neg q1,if_neg q1,if_pos q2]
        rfl
       ·rw[decide_eq_true ⟨q1,q2⟩,if_neg q1,if_neg q2]
        rfl
     ·have v4:cv=4:=by omega
      subst v4;rw[if_neg (by decide),if_pos rfl,if_neg v3];have hn:XU (g,(co,4,ct,cc,ck),())=some (decide (ct≤g.2.2.2.2.1),()):=rfl;rw[hn,zD];by_cases q1:ct≤g.2.2.2.2.1
      ·rw[decide_eq_true q1,if_pos q1]
       rfl
      ·rw[decide_eq_false q1,if_neg (by decide),if_neg q1]
       have ha:XZ (g,(co,4,ct,cc,ck),())=some (if g.2.1.1=co∧g.2.2.2.1=ct then pY g else g,()):=by
        show XX XY g (co,4,ct,cc,ck)=_;unfold XX;dsimp only;have K:∀b z,XY g 0 b [z]=some (if b=true then g else pY g,()):=fun b z=>by show XW g 0 b [z]=_;unfold XW;cases b<;>rfl
        by_cases e1:g.2.1.1=co
        ·rw[if_neg (fun e=>fo.1 e e1),K]
         by_cases e2:g.2.2.2.1=ct
         ·rw[if_neg (fun e=>fo.1 e e2),if_pos ⟨e1,e2⟩]
         ·rw[if_pos (fo.2 e2),if_neg (fun e=>e2 e.2)]
        ·rw[if_pos (fo.2 e1),K,if_pos rfl,if_neg (fun e=>e1 e.1)]
       rw[ha,zD];by_cases e:g.2.1.1=co∧g.2.2.2.1=ct
       ·rw[if_pos e,if_pos e]
        rfl
       ·rw[if_neg e,if_neg e]
        rfl
def putA(a:TAg)(o t n:Int)(x:bn):TAg×Int :=
 if o=0∨t=0 then (a,2) else if a.2.1.1≠0∧a.2.1.1≠o then (a,22) else if ¬ (a.2.2.1=1∧a.2.2.2.1=t) then (a,23)
 else ((a.1,kJ a.2.1 o a.2.2.2.2.2.2,a.2.2.1,a.2.2.2.1,a.2.2.2.2.1,DX a.2.2.2.2.2.1 n.toNat x,a.2.2.2.2.2.2),0)
theorem aoj{a:TAg}(h:OkG a){o t n:Int}{x:bn}(hn:0≤n∧n≤7)(hf:fD x=true):xY (a,o,t,n,x,())=some ((putA (jh a) o t n x).1,(putA (jh a) o t n x).2,()):=by
 show Ye Yf a o t n x=_;unfold Ye;have h':=h.own;rw[Qz h.sz,zD];dsimp only;generalize jh a=g at h';have lr:=h'.lr;have kr:=h'.kr;have hx:x.2.length≤1000:=by have:=of_decide_eq_true hf;omega
 have K:∀b z,Yf o t n 0 0 b [g] x [z]=some (if b=true then (g,2,()) else ((putA g o t n x).1,(putA g o t n x).2,()))∨¬ (b=true↔(o=0∨t=0)):=fun b z=>by
  by_cases hb:b=true↔(o=0∨t=0)
  ·left
   show Yd o t n 0 0 b [g] x [z]=_;unfold Yd
   cases b with
   | true=>rfl
   | false =>
    rw[if_neg (by decide),if_neg (by decide)];have h0:¬ (o=0∨t=0):=fun e=>Bool.false_ne_true (hb.2 e);unfold putA;rw[if_neg h0];rw[iG,zD,EN lr,zD];by_cases q1:g.2.1.1≠0∧g.2.1.1≠o
    ·rw[decide_eq_true q1,if_pos q1]
     rfl
    ·rw[decide_eq_false q1,if_neg (by decide),if_neg q1,zD,EM,zD]
     by_cases q2:g.2.2.1=1∧g.2.2.2.1=t
     ·rw[decide_eq_true q2,if_neg (by decide),if_neg (fun e=>e q2),zD,aof h'.hl h'.sl h'.bb hx,if_pos hn,if_pos hf,zD]
      dsimp only;rw[if_neg (by decide),zD];have:=Bd (a:=(g.1,g.2.1,g.2.2.1,g.2.2.2.1,g.2.2.2.2.1,DX g.2.2.2.2.2.1 n.toNat x,g.2.2.2.2.2.2)) (o:=o) lr (by omega) kr.1 (by dsimp only;omega);show zC (Dz ((g.1,g.2.1,g.2.2.1,g.2.2.2.1,g.2.2.2.2.1,DX g.2.2.2.2.2.1 n.toNat x,g.2.2.2.2.2.2),o,())) _=_;rw[this];rfl
     ·rw[decide_eq_false q2,if_pos (by rfl),if_pos q2]
      rfl
  ·exact Or.inr hb
 have p2:o=0∨t=0->putA g o t n x=(g,2):=fun e=>if_pos e;by_cases ho:o=0
 ·rw[if_pos (dw.2 ho)]
  rcases K true _ with e | e
  ·rw[e,if_pos rfl,p2 (Or.inl ho)]
  ·exact absurd ⟨fun _=>Or.inl ho,fun _=>rfl⟩ e
 ·rw[if_neg (fun e=>ho (dw.1 e))]
  rcases K (eqi t 0) ([],(0,0),0,0,0,zSt,0) with e | e
  ·refine e.trans ?_
   by_cases ht:t=0
   ·rw[if_pos (dw.2 ht),p2 (Or.inr ht)]
   ·rw[if_neg (fun e=>ht (dw.1 e))]
  ·exact absurd ⟨fun x=>Or.inr (dw.1 x),fun x=>dw.2 (x.resolve_left ho)⟩ e
def fQ(a:TAg):List Int:=[a.2.1.1,a.2.2.1,a.2.2.2.1 / 65536,a.2.2.2.1%65536,a.2.2.2.2.1 / 65536,a.2.2.2.2.1%65536,((a.2.2.2.2.2.1.2.1.count true:Nat):Int),0]
theorem YS{a:TAg}(h:OkG a):fH (a,())=some (fQ a,()):=by
 obtain⟨bk,ls,ph,tx,la,⟨st,hv,bs⟩,tk⟩:=a;have lr:=h.lr;have pr:=h.pr;have tr:=h.tr;have ar:=h.ar;have hl:=h.hl;dsimp only at lr pr tr ar hl;show WW WX (bk,ls,ph,tx,la,(st,hv,bs),tk)=_;unfold WW;have hc:hv.count true≤8:=by have:=List.count_le_length (a:=true) (l:=hv);omega
 have K:∀o,WX (bk,ls,ph,tx,la,(st,hv,bs),tk) o=some ([o,ph,tx / 65536,tx%65536,la / 65536,la%65536,((hv.count true:Nat):Int),0],()):=fun o=>by show WV _ o=_;unfold WV;dsimp only;rw[parts_eq tr.1 tr.2,zD,parts_eq ar.1 ar.2,zD,aku hl,zD,show cvt .u16 ph=ph from Yz pr.1 (by omega),show cvt .u16 ((hv.count true:Nat):Int)=_ from Yz (by omega) (by omega)]
 rw[yC lr,zD];dsimp only;by_cases e:ls.1=0
 ·rw[decide_eq_true e,if_pos rfl,K]
  unfold fQ;dsimp only;rw[e]
 ·rw[decide_eq_false e,if_neg (by decide),K]
  rfl
def zAg(b:List Int)(t:Int):TAg:=(b,(0,0),0,0,0,zSt,t)
theorem aok{b:List Int}{t:Int}(hb:b.length≤1000000):SH (b,t,())=some (if b.length=64 then if 1≤t then (zAg b t,0,()) else (zAg [] 0,2,()) else (zAg [] 0,21,())):=by
 show acs b t=_;unfold acs;by_cases h:b.length=64
 ·rw[if_neg (fun e=>fo.1 e (by simp_all)),if_pos h]
  by_cases h1:1≤t
  ·rw[if_neg (fun e=>by grind[cu]),if_pos h1,mX hb]
   rfl
  ·rw[if_pos (cu.2 (by omega)),if_neg h1]
   rfl
 ·rw[if_pos (fo.2 (by grind)),if_neg h]
  rfl
theorem aan:fO zSt.2.1 zSt.2.2=[]:=rfl
theorem wU{bk:List Int}{la tk:Int}(bl:bk.length=64)(bw:∀x∈bk,0≤x∧x≤65535)(ar:0≤la∧la≤4294967295)(kr:1≤tk∧tk≤9223372036854775807):OkG (bk,(0,0),0,0,la,zSt,tk) where
 bl:=bl
 bw:=bw
 lr:=Or.inl ⟨rfl,rfl⟩
 l1:=⟨by simp,by simp⟩
 l2:=by simp
 pr:=⟨by simp,by simp⟩
 tr:=⟨by simp,by simp⟩
 ar:=ar
 kr:=kr
 hl:=rfl
 sl:=rfl
 bb:=by simp
 wb:=by simp
 fb:=fun b hb=>by simp_all[fO,aan]
 p0:=fun _=>⟨rfl,rfl,rfl,rfl⟩
 pn:=fun e=>absurd rfl e
 p1:=fun e=>absurd e (by simp)
 p2:=fun e=>absurd e (by simp)
theorem OkG.free{a:TAg}(h:OkG a):OkG (pY a):=wU h.bl h.bw h.ar h.kr
theorem OkG.doS{a:TAg}(h:OkG a){c:TCm}(h1:0≤c.1∧c.1≤65535)(h3:0≤c.2.2.1∧c.2.2.1≤4294967295)(hc:0≤c.2.2.2.1∧c.2.2.2.1≤65535):OkG (doS a c).1:=by
 unfold Lx.doS;split
 ·exact h
 ·rename_i q0
  split
  ·exact h
  ·rename_i q1
   split
   ·split
    ·exact h
    ·rename_i q2
     split
     ·rename_i q3
      have hp:a.2.2.1≠0:=fun e=>by have:=(h.p0 e).2.1;omega
      have hn:=h.pn hp;have hown:a.2.1.1=c.1:=by omega
      have hph:a.2.2.1=1∨a.2.2.1=2:=by have:=h.pr;omega
      have hkr:=h.kr;rcases hph with e | e
      ·have ht:kJ a.2.1 c.1 a.2.2.2.2.2.2=(c.1,a.2.2.2.2.2.2):=by unfold kJ;rw[if_neg];intro x;have:=h.p1 e;simp_all
       rw[ht];exact { h with lr:=Or.inr ⟨by simp_all,Or.inl hkr.1⟩,l1:=h1,l2:=hkr.2,p0:=fun x=>absurd x hp,pn:=fun _=>⟨by simp_all,hn.2⟩,p1:=fun _=>hkr.1,p2:=fun x=>absurd (e.symm.trans x) (by decide) }
      ·have ht:kJ a.2.1 c.1 a.2.2.2.2.2.2=a.2.1:=by unfold kJ;rw[if_pos];exact Prod.ext hown (h.p2 e).1
       simp_all
     ·rename_i q3
      have hkr:=h.kr;have har:=h.ar;exact { wU h.bl h.bw h.ar h.kr with lr:=Or.inr ⟨by simp_all,Or.inl hkr.1⟩,l1:=h1,l2:=hkr.2,pr:=⟨by simp,by simp⟩,tr:=h3,p0:=fun x=>absurd x (show (1:Int)≠0 by decide),pn:=fun _=>⟨by simp_all,by simp_all,rfl⟩,p1:=fun _=>hkr.1,p2:=fun x=>absurd x (show (1:Int)≠2 by decide) }
   ·split
    ·split
     ·rename_i q2
      have hp:a.2.2.1≠0:=fun e=>by omega
      have hn:=h.pn hp;refine { h with lr:=Or.inr ⟨by simp_all,Or.inr rfl⟩,l1:=h1,l2:=by simp,pr:=⟨by simp,by simp⟩,p0:=fun x=>absurd x (show (2:Int)≠0 by decide),pn:=fun _=>⟨by simp_all,hn.2⟩,p1:=fun x=>absurd x (show (2:Int)≠1 by decide),p2:=fun _=>⟨rfl,?_⟩ };rcases q2 with q2 | q2
      ·exact (h.p2 q2.1).2
      ·have hw:=q2.2.2
       unfold uE at hw;rw[zO,zO,decide_eq_true_eq]at hw;have hf:=of_decide_eq_true hw.2.1;have hl:=h.hl
       have hcnt:((a.2.2.2.2.2.1.2.1.count true:Nat):Int)=c.2.2.2.1:=by
        obtain⟨n,hn'⟩:=zN hw.1.1;rw[hn']at hf ⊢;have hv8:a.2.2.2.2.2.1.2.1=(List.range 8).map (fun (i:Nat)=>decide ((i:Int)<(n:Int))):=by apply List.ext_getElem?;grind
        have hn8:n≤8:=by omega
        rw[hv8];have:n=0∨n=1∨n=2∨n=3∨n=4∨n=5∨n=6∨n=7∨n=8:=by omega
        rcases this with rfl | rfl | rfl | rfl | rfl | rfl | rfl | rfl | rfl<;>rfl
       simp_all
     omega
    ·split
     ·split
      ·exact h
      ·split
       ·exact wU (Bb h.bl h.fb) (Bc (P:=fun y=>0≤y∧y≤65535) h.bw (fun x hx=>h.wb x (Oy hx))) h3 h.kr
       omega
     ·split
      ·exact h
      ·split
       ·exact h.free
       omega
theorem OB{α:Type}{P:α->Prop}{xs:List α}{k:Nat}{x:α}(h:∀y∈xs,P y)(hx:P x):∀y∈xs.set k x,P y:=fun y hy=>by grind
theorem OC{P:bn->Prop}{x:bn}(hx:P x):∀{hv:List Bool} {bs:List bn} (k:Nat),(∀b∈fO hv bs,P b)->∀b∈fO (hv.set k true) (bs.set k x),P b
 | [],bs,k,_=>by simp_all[fO]
 | h::r,[],k,_=>by simp_all[fO]
 | h::r,c::q,0,hp=>by intro b hb;rw[List.set_cons_zero,List.set_cons_zero]at hb;unfold fO at hb hp;rw[List.zip_cons_cons,List.filter_cons,if_pos rfl,List.map_cons]at hb;grind[List.zip_cons_cons,zT]
 | h::r,c::q,k+1,hp=>by
  intro b hb;rw[List.set_cons_succ,List.set_cons_succ]at hb;have hr:∀b∈fO r q,P b:=fun b hb=>hp b (by grind[fO,List.zip_cons_cons,zT]);have ih:=OC hx k hr;unfold fO at hb hp ih;rw[List.zip_cons_cons,List.filter_cons]at hb
  cases h with
  | true =>
   rw[if_pos rfl,List.map_cons]at hb;rcases List.mem_cons.1 hb with e | e
   ·simp_all
   simp_all
  | false=>simp_all
theorem OkG.putA{a:TAg}(h:OkG a){o t n:Int}{x:bn}(ho:0≤o∧o≤65535)(hf:fD x=true)(hw:∀w∈x.2,0≤w∧w≤65535):OkG (putA a o t n x).1:=by
 have hx:x.2.length≤1000:=by have:=of_decide_eq_true hf;omega
 unfold Lx.putA;split
 ·exact h
 ·rename_i q0
  split
  ·exact h
  ·rename_i q1
   split
   ·exact h
   ·rename_i q2
    have q2:=Classical.not_not.1 q2;have hkr:=h.kr;have hp:a.2.2.1≠0:=by omega
    have hn:=h.pn hp;have ht:kJ a.2.1 o a.2.2.2.2.2.2=(o,a.2.2.2.2.2.2):=by unfold kJ;rw[if_neg];intro e;have:=h.p1 q2.1;simp_all
    rw[ht];have hbs:∀b∈a.2.2.2.2.2.1.2.2.set n.toNat x,b.2.length≤1000:=OB (P:=fun (b:bn)=>b.2.length≤1000) h.bb hx;have hws:∀b∈a.2.2.2.2.2.1.2.2.set n.toNat x,∀w∈b.2,0≤w∧w≤65535:=OB (P:=fun (b:bn)=>∀w∈b.2,0≤w∧w≤65535) h.wb hw;have hhl:=h.hl;have hsl:=h.sl
    exact { h with
     lr:=Or.inr ⟨by simp_all,Or.inl hkr.1⟩
     l1:=ho
     l2:=hkr.2
     hl:=by show (a.2.2.2.2.2.1.2.1.set n.toNat true).length=8;simp_all
     sl:=B6 (by simp_all) (by simp_all)
     bb:=Cb (P:=fun b=>b.2.length≤1000) (by show (0:Nat)≤1000;omega) hbs
     wb:=Cb (P:=fun b=>∀w∈b.2,0≤w∧w≤65535) (by intro w hw;cases hw) hws
     fb:=by show ∀b∈fO (a.2.2.2.2.2.1.2.1.set n.toNat true) (nzB (a.2.2.2.2.2.1.2.1.set n.toNat true) (a.2.2.2.2.2.1.2.2.set n.toNat x)),fD b=true;rw[Ik];exact OC hf _ h.fb
     p0:=fun e=>absurd e hp
     pn:=fun _=>⟨by simp_all,hn.2⟩
     p1:=fun _=>hkr.1
     p2:=fun e=>absurd (q2.1.symm.trans e) (by decide) }
abbrev ara:=List d9×List d9×List d9×List d9
theorem QB(f:Int):GM (f,())=some ((if f=1 then (1,0) else if f=2 then (2,0) else if f=3 then (3,0) else if f=4 then (4,0) else if f=5 then (0,1) else if f=6 then (0,3) else if f=15 then (0,1) else if f=16 then (0,3) else if f=23 then (3,3) else (0,0)),()):=by show ahg f=_;unfold ahg;simp only[dw,gdV];grind
def rdW(x:d9):Bool:=x.2.2.1
def wrW(p m:Int)(x:d9):Bool:=x.2.2.2.1 && (!x.2.2.2.2 || (decide (x.1=p) && decide (x.2.1=m)))
theorem zwb(p m:Int)(x:d9):EE (x,p,m,())=some (wrW p m x,p,m,()):=by
 obtain⟨a,b,c,d,e⟩:=x;show ahj (a,b,c,d,e) p m=_;unfold ahj wrW;dsimp only;cases d<;>cases e<;>try rfl
 rw[if_pos rfl,if_neg (by decide)];by_cases h:a=p
 ·rw[if_pos (dw.2 h),decide_eq_true h];rfl
 simp_all[if_neg,dw,decide_eq_false]
theorem zwu(p m:Int)(x:d9):EF (x,p,m,())=some (wrW p m x,p,m,()):=by
 obtain⟨a,b,c,d,e⟩:=x;show ahr (a,b,c,d,e) p m=_;unfold ahr wrW;dsimp only;cases d<;>cases e<;>try rfl
 rw[if_pos rfl,if_neg (by decide)];by_cases h:a=p
 ·rw[if_pos (dw.2 h),decide_eq_true h];rfl
 simp_all[if_neg,dw,decide_eq_false]
section
variable {l:List d9}{p:Int}{m:Nat}(hp:0≤p)(hpm:p≤1000000)(hm:m≤1000000)(hl:l.length≤1000000)(ho:∀x∈l,rR x)
include hp hpm hm hl ho
theorem aao(c:List Bool):Dv ((l,c),p,(m:Int),())=some (iw rdW l p m,()):=by show zC (Wk (l,p,(m:Int),())) _=_;rw[YJ hp hm hpm hl ho (w:=rdW) (fun _=>rfl)];rfl
theorem OD(c:List Int):Aw ((l,c),p,(m:Int),())=some (iw rdW l p m,()):=by show zC (Ws (l,p,(m:Int),())) _=_;rw[YL hp hm hpm hl ho (w:=rdW) (fun _=>rfl)];rfl
theorem aap(c:List Bool):Dw ((l,c),p,(m:Int),())=some (iw (wrW p m) l p m,()):=by show zC (Wo (l,p,(m:Int),p,(m:Int),())) _=_;grind[YN,wrW,zwb]
theorem OE(c:List Int):EG ((l,c),p,(m:Int),())=some (iw (wrW p m) l p m,()):=by show zC (Wv (l,p,(m:Int),p,(m:Int),())) _=_;grind[YP,wrW,zwu]
end
theorem I4{a:TA}(h:OkA a):Dn (a,())=some ((if a.1=23 then a.2.2.2.1 else a.2.1),((a.2.2.2.2.2.length+a.2.2.2.2.1.length:Nat):Int),()):=by have:=h.lw;have:=h.lb;have h0:=h.at0;have h1:=h.at1;have h2:=h.t0;have h3:=h.t1;show ahi a=_;grind[ahi,ay,qX,iI,dw]
theorem q8{k:Int}{w h:Bool}{p:Int}{m:Nat}(hk:1≤k)(hp:0≤p)(hm:1≤m)(f:d9->Bool)(hf:f (0,k,true,w,h)=true):iw f [(0,k,true,w,h)] p m=decide (p+m≤k):=by
 have hw:∀i:Int,0≤i->kW f [(0,k,true,w,h)] i=decide (i<k):=fun i hi=>by
  unfold kW gB;rw[List.find?_cons,List.find?_nil];have:jO (0,k,true,w,h) i=decide (i<k):=by simp_all[jO,decide_eq_decide]
  grind
 unfold iw;rw[Bool.eq_iff_iff,List.all_eq_true,decide_eq_true_eq];constructor
 ·intro hall
  have:=hall (m - 1) (List.mem_range.2 (by omega));grind
 grind
def SPH:List d9:=[(0,64,true,false,false),(256,8,true,false,false),(272,8,false,true,true),(288,20,false,true,true),(512,20,true,false,false),(544,20,true,false,false),(576,20,true,false,false),(608,20,true,false,false),(640,20,true,false,false),(672,20,true,false,false),(704,20,true,false,false),(736,20,true,false,false)]
def SP:ara:=([(0,16,true,true,false)],[(0,8,true,false,false)],SPH,[(0,8,true,false,false)])
theorem OG:ug ()=some (SP,()):=by rfl
theorem I5{f:d9->Bool}{l:List d9}{i:Int}(h:kW f l i=true):∃x∈l,jO x i=true∧f x=true:=by grind[kW,gB,jO,List.mem_of_find?_eq_some]
theorem OH{p:Int}{m:Nat}(hm:1≤m):iw (wrW p m) SPH p m=decide (p=272∧m=8∨p=288∧m=20):=by
 rw[Bool.eq_iff_iff,decide_eq_true_eq];constructor
 ·intro h
  unfold iw at h;rw[List.all_eq_true]at h;have h0:=h 0 (List.mem_range.2 (by omega));obtain⟨x,hx,_,hw⟩:=I5 h0;have e:wrW p (m:Int) x=true↔x.2.2.2.1=true∧(x.2.2.2.2=false∨(x.1=p∧x.2.1=(m:Int))):=by simp_all[wrW,zO,Bool.or_eq_true,decide_eq_true_eq,Bool.not_eq_true']
  rw[e]at hw;simp only[SPH,List.mem_cons,List.not_mem_nil,or_false]at hx;rcases hx with rfl | rfl | rfl | rfl | rfl | rfl | rfl | rfl | rfl | rfl | rfl | rfl<;>simp at hw<;>omega
 ·rintro (⟨rfl,rfl⟩ | ⟨rfl,rfl⟩)<;>decide
def rdH(p:Int)(m:Nat):Bool:=iw rdW SPH p m
theorem Be{p:Int}{m:Nat}(hm:1≤m)(h:rdH p m=true):p+m≤756:=by unfold rdH iw at h;rw[List.all_eq_true]at h;obtain⟨x,hx,hc,_⟩:=I5 (h (m - 1) (List.mem_range.2 (by omega)));unfold jO at hc;rw[decide_eq_true_eq]at hc;simp only[SPH,List.mem_cons,List.not_mem_nil,or_false]at hx;rcases hx with rfl | rfl | rfl | rfl | rfl | rfl | rfl | rfl | rfl | rfl | rfl | rfl<;>dsimp only at hc<;>omega
theorem Cc:∀x∈SPH,rR x:=fun x hx=>by simp only[SPH,List.mem_cons,List.not_mem_nil,or_false]at hx;rcases hx with rfl | rfl | rfl | rfl | rfl | rfl | rfl | rfl | rfl | rfl | rfl | rfl<;>exact⟨by decide,by decide,by decide,by decide⟩
theorem vg{k:Int}(h0:0≤k)(h1:k≤100){r w h:Bool}:∀x ∈ [((0:Int),k,r,w,h)],rR x:=fun x hx=>by rw[List.mem_singleton]at hx;subst hx;exact⟨by omega,by omega,by grind,by grind⟩
def ji(a:TA):Bool :=
 if a.1=1 then decide (a.2.1+a.2.2.1≤16) else if a.1=2∨a.1=4 then decide (a.2.1+a.2.2.1≤8)
 else if a.1=3 then rdH a.2.1 a.2.2.1.toNat
 else if a.1=5∨a.1=15 then decide (a.2.1+(a.2.2.2.2.2.length:Int)≤16)
 else if a.1=23 then rdH a.2.1 a.2.2.1.toNat && decide (a.2.2.2.1=272∧a.2.2.2.2.1.length=8∨a.2.2.2.1=288∧a.2.2.2.2.1.length=20)
 else decide (a.2.1=272∧a.2.2.2.2.1.length=8∨a.2.1=288∧a.2.2.2.2.1.length=20)
abbrev XV:=(List d9×List Bool)×(List d9×List Bool)×(List d9×List Int)×List d9×List Int
def vS:XV:=(([(0,16,true,true,false)],[]),([(0,8,true,false,false)],[]),(SPH,[]),[(0,8,true,false,false)],[])
theorem OI{a:TA}(h:OkA a)(hr:iq a=true):Dx (SP,a,())=some (if ji a=true then 0 else 2,()):=by
 have hra:=lS hr;have ht:=I4 h;have p0:=h.at0;have p1:=h.at1;have t0:=h.t0;have t1:=h.t1;have m0:=h.m0;have m1:=h.m1;show Wx qd SP a=_;unfold Wx;have ho:GL (SP,([],[],[],[]),())=some (vS,()):=rfl;rw[right_eq h,hr,zD,if_neg (by decide),ho,zD,QB,zD];have K1t:∀u,qd true a vS u=some (2,()):=fun u=>rfl;have K1:∀u,qd false a vS u=zC (Dn (a,())) fun y=>if eqi u.2 1=true then zC (Dw (vS.1,y.1,y.2.1,())) fun y=>Ay !y.1 else if eqi u.2 2=true then zC (Dw (vS.2.1,y.1,y.2.1,())) fun y=>Ay !y.1 else if eqi u.2 3=true then zC (EG (vS.2.2.1,y.1,y.2.1,())) fun y=>Ay !y.1 else if eqi u.2 4=true then zC (EG (vS.2.2.2,y.1,y.2.1,())) fun y=>Ay !y.1 else Ay false:=fun u=>rfl;rw[ht]at K1;simp only[zD]at K1;have K2:∀b:Bool,Ay (!b)=some (if b=true then 0 else 2,()):=fun b=>by cases b<;>rfl
 have K1b:∀(b:Bool) (u:Int×Int),u.2=0->qd (!b) a vS u=some (if b=true then 0 else 2,()):=fun b u hu=>by
  cases b with
  | true =>
   show qd false a vS u=_;rw[K1,hu];rfl
  | false=>rfl
 cases hra with
 | bits f p n hf h1 h2 =>
  obtain⟨n,rfl⟩:=zN (show 0≤n by omega);have p0:0≤p:=p0;have p1:p≤65535:=p1;have hc:cvt .i64 p=p:=iI (by omega) (by omega);have hc2:cvt .i64 (n:Int)=n:=iI (by omega) (by omega);rcases hf with rfl | rfl
  ·have hb:=aao (l:=[(0,16,true,true,false)]) (p:=p) (m:=n) p0 (by omega) (by omega) (by decide) (vg (by decide) (by decide)) []
   rw[q8 (by decide) p0 (by omega) rdW rfl]at hb;rw[<- hc,<- hc2]at hb;show zC (Dv (vS.1,cvt .i64 p,cvt .i64 (n:Int),())) (fun y=>qd (!y.1) (1,p,(n:Int),0,[],[]) vS (1,0))=_;refine (congrArg (fun z=>zC z _) hb).trans ?_;rw[zD,K1b _ _ rfl,hc,hc2];rfl
  ·have hb:=aao (l:=[(0,8,true,false,false)]) (p:=p) (m:=n) p0 (by omega) (by omega) (by decide) (vg (by decide) (by decide)) []
   rw[q8 (by decide) p0 (by omega) rdW rfl]at hb;rw[<- hc,<- hc2]at hb;show zC (Dv (vS.2.1,cvt .i64 p,cvt .i64 (n:Int),())) (fun y=>qd (!y.1) (2,p,(n:Int),0,[],[]) vS (2,0))=_;refine (congrArg (fun z=>zC z _) hb).trans ?_;rw[zD,K1b _ _ rfl,hc,hc2];rfl
 | words f p n hf h1 h2 =>
  obtain⟨n,rfl⟩:=zN (show 0≤n by omega);have p0:0≤p:=p0;have p1:p≤65535:=p1;have hc:cvt .i64 p=p:=iI (by omega) (by omega);have hc2:cvt .i64 (n:Int)=n:=iI (by omega) (by omega);rcases hf with rfl | rfl
  ·have hu:=OD (l:=SPH) (p:=p) (m:=n) p0 (by omega) (by omega) (by decide) Cc []
   rw[<- hc,<- hc2]at hu;show zC (Aw (vS.2.2.1,cvt .i64 p,cvt .i64 (n:Int),())) (fun y=>qd (!y.1) (3,p,(n:Int),0,[],[]) vS (3,0))=_;refine (congrArg (fun z=>zC z _) hu).trans ?_;rw[zD,K1b _ _ rfl,hc];rfl
  ·have hu:=OD (l:=[(0,8,true,false,false)]) (p:=p) (m:=n) p0 (by omega) (by omega) (by decide) (vg (by decide) (by decide)) []
   rw[q8 (by decide) p0 (by omega) rdW rfl]at hu;rw[<- hc,<- hc2]at hu;show zC (Aw (vS.2.2.2,cvt .i64 p,cvt .i64 (n:Int),())) (fun y=>qd (!y.1) (4,p,(n:Int),0,[],[]) vS (4,0))=_;refine (congrArg (fun z=>zC z _) hu).trans ?_;rw[zD,K1b _ _ rfl,hc,hc2];rfl
 | coil p b =>
  have p0:0≤p:=p0;have p1:p≤65535:=p1;have hw:=aap (l:=[(0,16,true,true,false)]) (p:=p) (m:=1) p0 (by omega) (by omega) (by decide) (vg (by decide) (by decide)) [];rw[q8 (by decide) p0 (by omega) _ rfl]at hw;show qd false (5,p,0,0,[],[b]) vS (0,1)=_;rw[K1,if_pos (by decide)];refine (congrArg (fun z=>zC z _) hw).trans ?_;rw[zD,K2];rfl
 | word p x =>
  have p0:0≤p:=p0;have p1:p≤65535:=p1;have hw:=OE (l:=SPH) (p:=p) (m:=1) p0 (by omega) (by omega) (by decide) Cc [];rw[OH (by omega)]at hw;show qd false (6,p,0,0,[x],[]) vS (0,3)=_;rw[K1,if_neg (by decide),if_neg (by decide),if_pos (by decide)];refine (congrArg (fun z=>zC z _) hw).trans ?_;rw[zD,K2];rfl
 | coils p l h1 h2 =>
  have p0:0≤p:=p0;have p1:p≤65535:=p1;have hw:=aap (l:=[(0,16,true,true,false)]) (p:=p) (m:=l.length) p0 (by omega) (by omega) (by decide) (vg (by decide) (by decide)) [];rw[q8 (by decide) p0 (by omega) _ rfl]at hw;show qd false (15,p,(l.length:Int),0,[],l) vS (0,1)=_;rw[K1,if_pos (by decide)];refine (congrArg (fun z=>zC z _) hw).trans ?_;rw[zD,K2];rfl
 | regs p l h1 h2 =>
  have p0:0≤p:=p0;have p1:p≤65535:=p1;have hw:=OE (l:=SPH) (p:=p) (m:=l.length) p0 (by omega) (by omega) (by decide) Cc [];rw[OH (by omega)]at hw;show qd false (16,p,(l.length:Int),0,l,[]) vS (0,3)=_;rw[K1,if_neg (by decide),if_neg (by decide),if_pos (by decide)];have e:((([]:List Bool).length+l.length:Nat):Int)=(l.length:Int):=by simp
  show zC (EG (vS.2.2.1,p,((([]:List Bool).length+l.length:Nat):Int),())) _=_;rw[e];refine (congrArg (fun z=>zC z _) hw).trans ?_;rw[zD,K2];rfl
 | swap p n t l h1 h2 h3 h4 =>
  obtain⟨n,rfl⟩:=zN (show 0≤n by omega);have p0:0≤p:=p0;have p1:p≤65535:=p1;have t0:0≤t:=t0;have t1:t≤65535:=t1;have hc:cvt .i64 p=p:=iI (by omega) (by omega);have hc2:cvt .i64 (n:Int)=n:=iI (by omega) (by omega);have hu:=OD (l:=SPH) (p:=p) (m:=n) p0 (by omega) (by omega) (by decide) Cc [];rw[<- hc,<- hc2]at hu;have hw:=OE (l:=SPH) (p:=t) (m:=l.length) t0 (by omega) (by omega) (by decide) Cc [];rw[OH (by omega)]at hw;show zC (Aw (vS.2.2.1,cvt .i64 p,cvt .i64 (n:Int),())) (fun y=>qd (!y.1) (23,p,(n:Int),t,l,[]) vS (3,3))=_;refine (congrArg (fun z=>zC z _) hu).trans ?_;rw[zD,hc];show qd (!rdH p n) (23,p,(n:Int),t,l,[]) vS (3,3)=some (if (rdH p n && decide (t=272∧l.length=8∨t=288∧l.length=20))=true then 0 else 2,())
  cases rdH p n with
  | false=>rfl
  | true =>
   rw[Bool.true_and];show qd false _ vS (3,3)=_;rw[K1,if_neg (by decide),if_neg (by decide),if_pos (by decide)];have e:((([]:List Bool).length+l.length:Nat):Int)=(l.length:Int):=by simp
   show zC (EG (vS.2.2.1,t,((([]:List Bool).length+l.length:Nat):Int),())) _=_;rw[e];refine (congrArg (fun z=>zC z _) hw).trans ?_;grind
theorem OJ{h:List Int}{p n:Int}(hp:0≤p)(hn:0≤n)(hh:h.length≤100000)(hle:p+n≤h.length)(l:List d9):WM ((l,h),p,n,1,())=some ((h.drop p.toNat).take n.toNat,()):=by
 obtain⟨p,rfl⟩:=zN hp;obtain⟨n,rfl⟩:=zN hn;have e1:mul .i64 (quo .i64 (sub .i64 (add .i64 (n:Int) 1) 1) 1) 1=(n:Int):=by rw[iD (by omega),lH (by omega) (by omega),show (((n+1:Nat):Int) - 1)=(n:Int) by omega];have:=o9 (i:=n) (d:=1) (by omega);rw[Nat.div_one]at this;rw[show (1:Int)=((1:Nat):Int) from rfl,this,nX (by omega) (by omega)];omega
 show aie (l,h) (p:Int) (n:Int) 1=_;unfold aie;rw[e1,eu (by decide),eu (gY.2 (by omega)),eu (qH _),zQ,iT (by omega),qX (by omega)];dsimp only;rw[wN (by omega) (by omega),zD,kD,eu (gM.2 (by simp))];grind[List.length_drop,kB,List.drop_take,List.drop,zE,Int,List.drop_of_length_le,kD,ay,zQ]
theorem yE(f e:Int):jI (f,e,())=some ((rem f 128,e,[],[],0,0),()):=rfl
theorem Ce{a:TA}(hr:iq a=true):1≤a.1∧a.1<128:=by
 cases lS hr with
 | bits f p n hf=>omega
 | words f p n hf=>omega
 | coil p b=>omega
 | word p x=>omega
 | coils p l=>omega
 | regs p l=>omega
 | swap p n t l=>omega
structure Rep(r:TR):Prop where
 ok:OkR r
 rr:RR r
 rt:nL r=true
theorem vk{f e:Int}(h0:0≤f)(h1:f<128)(h2:1≤e)(h3:e≤4):Rep (f,e,[],[],0,0):=by refine⟨⟨h0,by show f≤255;omega,by show 0≤e;omega,by show e≤255;omega,(fun x hx=>by cases hx),(by decide:(0:Int)≤0),(by decide:(0:Int)≤65535),(by decide:(0:Int)≤0),(by decide:(0:Int)≤65535),Nat.zero_le _,Nat.zero_le _⟩,.ex f e h0 h1 h2 h3,?_⟩;unfold nL;rw[if_pos (by rw[fo];show e≠0;omega)];unfold exR;dsimp only;rw[EK h0 h1,decide_eq_true h1,decide_eq_true h2,decide_eq_true h3,decide_eq_true rfl];rfl
theorem arb{r:TR}(h:Rep r):SmR r:=by cases h.rr<;>exact⟨by simp<;>omega,by simp<;>omega⟩
theorem aaq{r:TR}(h:Rep r):Oa (r,())=some (jN r,0,()):=by rw[aae (arb h),if_pos h.rt]
abbrev rT:=List Bool×List Bool×List Int×List Int
structure OkS(s:TSl):Prop where
 u:1≤s.1∧s.1≤247
 l:s.2.1=1∨s.2.1=2
 a:OkG s.2.2.1
 c:s.2.2.2.length=16
def cpy{α:Type}(b:List α)(p:Nat)(w:List α):List α:=b.take p++w++b.drop (p+w.length)
theorem qJ{α:Type}{b w:List α}{p:Nat}(h:p+w.length≤b.length):(cpy b p w).length=b.length:=by grind[cpy,zZ,kB,List.length_drop]
theorem aar{α:Type}{b w:List α}{p:Nat}(h:p+w.length≤b.length):((cpy b p w).drop p).take w.length=w:=by
 have lp:(b.take p).length=p:=by rw[kB];omega
 unfold cpy;rw[List.append_assoc,List.drop_left' lp,List.take_left' rfl]
theorem aol{α:Type}{b w:List α}{p i:Nat}(h:p+w.length≤b.length):(cpy b p w)[i]? = if p≤i∧i<p+w.length then w[i - p]? else b[i]?:=by
 have lp:(b.take p).length=p:=by grind
 unfold cpy;grind
theorem QC{α:Type}{b w:List α}{p q n:Nat}(h:p+w.length≤b.length)(hd:p+w.length≤q∨q+n≤p):((cpy b p w).drop q).take n=(b.drop q).take n:=by
 apply List.ext_getElem?;intro i;by_cases hi:i<n
 ·rw[List.getElem?_take_of_lt hi,List.getElem?_take_of_lt hi,List.getElem?_drop,List.getElem?_drop,aol h,if_neg (by omega)]
 grind
theorem Il{α:Type}{b w:List α}{p:Nat}{P:α->Prop}(hb:∀y∈b,P y)(hx:∀y∈w,P y):∀y∈cpy b p w,P y:=by grind[cpy,List.mem_of_mem_take,List.mem_of_mem_drop]
theorem nP{α:Type}{b w:List α}{p m:Nat}(hm:w.length≤m):b.take p++w.take m++b.drop (p+(w.take m).length)=cpy b p w:=by rw[List.take_of_length_le hm];rfl
def jU(a:TAg):List Int:=(List.range 8).foldl (fun h b=>cpy h (512+b*32) (jE a.2.2.2.2.2.1 a.2.1.1 (b:Int))) (cpy (cpy (zE 756 0) 0 a.1) 256 (fQ a))
def qK(a:TAg):List Bool:=((((zE 8 false).set a.2.2.1.toNat true).set 4 (decide (a.2.1.1≠0))).set 5 (decide (true∈a.2.2.2.2.2.1.2.1)))
def uF(s:TSl):rT:=(s.2.2.2,qK s.2.2.1,jU s.2.2.1,fQ s.2.2.1)
theorem q9{s:l9}{o n:Int}:(jE s o n).length=20:=by grind[jE,oO]
theorem ru{a:TAg}(h:OkG a):∀k:Nat,k≤8->((List.range k).foldl (fun h b=>cpy h (512+b*32) (jE a.2.2.2.2.2.1 a.2.1.1 (b:Int))) (cpy (cpy (zE 756 0) 0 a.1) 256 (fQ a))).length=756
 | 0,_=>by
  have h64:=h.bl;rw[List.range_zero,List.foldl_nil];have e1:(cpy (zE 756 (0:Int)) 0 a.1).length=756:=by rw[qJ (by rw[kD];omega),kD]
  rw[qJ (by rw[e1];show 256+8≤756;omega),e1]
 | k+1,hk=>by have ih:=ru h k (by omega);rw[List.range_succ,List.foldl_append,List.foldl_cons,List.foldl_nil,qJ (by rw[ih,q9];omega),ih]
theorem Bf{a:TAg}(h:OkG a):(jU a).length=756:=ru h 8 (by omega)
theorem DY(a:TAg):(qK a).length=8:=by simp_all[qK,List.length_set,kD]
set_option maxHeartbeats 1000000 in
theorem arc{s:TSl}(h:OkS s):pQ (s,())=some (uF s,()):=by
 have ha:=h.a;have hst:=YS ha;have hfr:=yC ha.lr;have hco:=contains_eq (s:=s.2.2.1.2.2.2.2.2.1.2.1) true (by have:=ha.hl;omega);have pr:=ha.pr;have h64:=ha.bl;have hh8:=ha.hl;have h16:=h.c;show Xg aiF s=_;unfold Xg;simp only[hst,zD,qB (eqAs_refl dz.rs),aqR (eqAs_refl dz.rs)];show Xd aiE s (fQ s.2.2.1) (zE 16 false) (zE 8 false) (zE 756 0)=_;unfold Xd;obtain⟨ph,hph⟩:=zN pr.1;have hin:(zE 8 false)[ph]? = some false:=by grind
 have hcoil:List.take (zI (zF (zE 16 false).length)) s.2.2.2++List.drop (0+(List.take (zI (zF (zE 16 false).length)) s.2.2.2).length) (zE 16 false)=s.2.2.2:=by grind
 rw[eu (gM.2 (by simp)),if_pos (gM.2 pr.2),hph,fI hin,zD,zD,hcoil,zQ];show Xe G8 s (fQ s.2.2.1) s.2.2.2 ((zE 8 false).set ph true) (zE 756 0)=_;unfold Xe;have h4:∃x,((zE 8 false).set ph true)[4]? = some x:=fU (by simp);obtain⟨x4,h4⟩:=h4;have t8:List.take 8 (List.drop 0 s.2.2.1.2.2.2.2.2.1.2.1)=s.2.2.1.2.2.2.2.2.1.2.1:=by grind
 rw[hfr,zD,show at? ((zE 8 false).set ph true) 4=some x4 from fI h4,zD,zD,t8,hco,zD];dsimp only;generalize hy:(!decide (s.2.2.1.2.1.1=0))=y4;have h5:∃x,(((zE 8 false).set ph true).set 4 y4)[5]? = some x:=fU (by simp);obtain⟨x5,h5⟩:=h5;rw[show at? (((zE 8 false).set ph true).set 4 y4) 5=some x5 from fI h5,zD,zD];have c64:List.take 64 s.2.2.1.1++List.drop (0+(List.take 64 s.2.2.1.1).length) (zE 756 (0:Int))=cpy (zE 756 0) 0 s.2.2.1.1:=nP (p:=0) (b:=zE 756 (0:Int)) (by omega);have l64:(cpy (zE 756 (0:Int)) 0 s.2.2.1.1).length=756:=by grind
 rw[c64,l64];have l8:(fQ s.2.2.1).length=8:=rfl;have cst:List.take 256 (cpy (zE 756 0) 0 s.2.2.1.1)++List.take (zI (zF 756 - 256)) (fQ s.2.2.1)++List.drop (256+(List.take (zI (zF 756 - 256)) (fQ s.2.2.1)).length) (cpy (zE 756 0) 0 s.2.2.1.1)=cpy (cpy (zE 756 0) 0 s.2.2.1.1) 256 (fQ s.2.2.1):=nP (by simp_all);rw[cst];rw[eu (by decide),eu (by decide),eu (by decide),eu (by decide),eu (by decide),eu (by decide)];show G8 s 0 (fQ s.2.2.1) s.2.2.2 _ _=_;have hinp:((((zE 8 false).set ph true).set 4 y4).set 5 (decide (true∈s.2.2.1.2.2.2.2.2.1.2.1)))=qK s.2.2.1:=by simp_all[qK,zQ,decide_eq_true,decide_eq_false]
 rw[hinp];unfold uF jU;unfold G8;refine lN (N:=8) (mk:=fun i=>(s,(i:Int),fQ s.2.2.1,s.2.2.2,qK s.2.2.1,(List.range i).foldl (fun h b=>cpy h (512+b*32) (jE s.2.2.1.2.2.2.2.2.1 s.2.2.1.2.1.1 (b:Int))) (cpy (cpy (zE 756 0) 0 s.2.2.1.1) 256 (fQ s.2.2.1)))) ?_ ?_ 8 0 _ (by omega) (by omega)
 ·intro self i hi
  have hlen:=ru ha i (by omega);have hsucc:(List.range (i+1)).foldl (fun h b=>cpy h (512+b*32) (jE s.2.2.1.2.2.2.2.2.1 s.2.2.1.2.1.1 (b:Int))) (cpy (cpy (zE 756 0) 0 s.2.2.1.1) 256 (fQ s.2.2.1))=cpy ((List.range i).foldl (fun h b=>cpy h (512+b*32) (jE s.2.2.1.2.2.2.2.2.1 s.2.2.1.2.1.1 (b:Int))) (cpy (cpy (zE 756 0) 0 s.2.2.1.1) 256 (fQ s.2.2.1))) (512+i*32) (jE s.2.2.1.2.2.2.2.2.1 s.2.2.1.2.1.1 (i:Int)):=by simp_all[List.range_succ,List.foldl_append]
  rw[hsucc];generalize (List.range i).foldl (fun h b=>cpy h (512+b*32) (jE s.2.2.1.2.2.2.2.2.1 s.2.2.1.2.1.1 (b:Int))) (cpy (cpy (zE 756 0) 0 s.2.2.1.1) 256 (fQ s.2.2.1))=hd at hlen;show Xf _ s (i:Int) (fQ s.2.2.1) s.2.2.2 (qK s.2.2.1) hd=_;unfold Xf;have e1:mul .i64 (i:Int) 32=((i*32:Nat):Int):=by grind[nX]
  have e2:add .i64 512 ((i*32:Nat):Int)=((512+i*32:Nat):Int):=qX (n:=512) (by omega);have hbk:=back_eq (s:=s.2.2.1.2.2.2.2.2.1) (o:=s.2.2.1.2.1.1) (n:=(i:Int))
  have hstx:0≤s.2.2.1.2.2.2.2.2.1.1∧s.2.2.1.2.2.2.2.2.1.1≤4294967295:=by
   by_cases e:s.2.2.1.2.2.1=0
   ·have:=(ha.p0 e).2.2.1;omega
   ·have:=(ha.pn e).2.2;have:=ha.tr;omega
  have hbk:=hbk hstx.1 hstx.2 ⟨by omega,by omega⟩ ha.hl ha.sl ha.bb;rw[if_pos (cu.2 (by omega)),e1,e2,eu (gY.2 (by omega)),eu (gM.2 (by grind)),eu (gM.2 (Int.le_refl _)),show at? (fQ s.2.2.1) 0=some s.2.2.1.2.1.1 from rfl,zD,hbk,zD,eu (gM.2 (by omega)),iD (by omega),zQ];dsimp only;rw[nP (by rw[q9,ay,hlen];omega)]
 ·intro self
  rfl
def OL(n:Int)(fixed:Bool):Int->List d9->Bool
 | _,[]=>true
 | e,x::r=>if x.1<e∨n<x.1∨x.2.1<1∨n - x.1<x.2.1∨(fixed=true∧x.2.2.2.1=true) then false else OL n fixed (x.1+x.2.1) r
theorem Im(n:Int)(fixed:Bool):∀(l:List d9) (e:Int),goL (R:=Bool×Unit) (fun (e:Int) (x:d9) k=>if x.1<e∨n<x.1∨x.2.1<1∨n - x.1<x.2.1∨(fixed=true∧x.2.2.2.1=true) then some (false,()) else k (x.1+x.2.1)) (fun _=>some (true,())) l e=some (OL n fixed e l,())
 | [],_=>rfl
 | x::r,e=>by show (if _ then _ else goL _ _ r _)=_;rw[Im n fixed r,OL];split<;>rfl
theorem OM{l:List d9}{h:List Int}{fixed:Bool}(ho:∀x∈l,rR x)(hp:∀x∈l,0≤x.1)(hh:h.length≤65536)(hl:l.length≤1000):WI ((l,h),fixed,())=some (OL h.length fixed 0 l,()):=by
 show WE G5 (l,h) fixed=_;unfold WE;rw[if_neg (fun e=>by grind[gq,ay])];show G5 fixed 0 l (zF l.length) 0 (l,h)=_;rw[<- Im];unfold G5;refine qC (xs:=l) (mk:=fun i e=>(fixed,e,l,zF l.length,(i:Int),(l,h))) ?_ ?_ l.length 0 0 _ (by omega) (by omega)
 ·intro self i e x hx
  have hi:=(List.getElem?_eq_some_iff.1 hx).1;have hm:=zY hx;have o:=ho x hm;have p:=hp x hm;unfold rR at o;show NR _ _ fixed e l (zF l.length) (i:Int) (l,h)=_;unfold NR;rw[if_pos (by grind[cu,ay]),fI hx,zD];dsimp only;have K3:∀t,WG (fun fixed endV t13 t14 t15 t=>self (fixed,endV,t13,t14,t15,t)) fixed l (zF l.length) (i:Int) t (l,h) x=if t=true then some (false,()) else self (fixed,add .i64 x.1 x.2.1,l,zF l.length,((i+1:Nat):Int),(l,h)):=fun t=>by unfold WG aib;rw[iD (by omega)]
  have K2:∀t,WH (fun fixed endV t13 t14 t15 t=>self (fixed,endV,t13,t14,t15,t)) fixed l (zF l.length) (i:Int) t (l,h) x=if t=true∨(fixed=true∧x.2.2.2.1=true) then some (false,()) else self (fixed,add .i64 x.1 x.2.1,l,zF l.length,((i+1:Nat):Int),(l,h)):=fun t=>by unfold WH aia;rw[K3,K3];cases t<;>cases fixed<;>simp
  rw[K2,K2];simp only[true_or,if_true];rw[pR,AP,pR,AP,ay];by_cases q1:x.1<e
  ·simp_all
  ·rw[if_neg (by simp_all)]
   by_cases q2:(h.length:Int)<x.1
   ·simp_all
   ·rw[if_neg (by simp_all)]
    by_cases q3:x.2.1<1
    ·simp_all
    ·rw[if_neg (by simp_all),lH (by omega) (by omega)]
     by_cases q4:(h.length:Int) - x.1<x.2.1
     ·simp_all
     ·rw[jg (by omega) (by omega)]
      grind
 simp_all[NR,zF,Int,if_neg,cu,ay]
theorem OO{l:List d9}{h:List Bool}{fixed:Bool}(ho:∀x∈l,rR x)(hp:∀x∈l,0≤x.1)(hh:h.length≤65536)(hl:l.length≤1000):WC ((l,h),fixed,())=some (OL h.length fixed 0 l,()):=by
 show Wz G4 (l,h) fixed=_;unfold Wz;rw[if_neg (fun e=>by grind[gq,ay])];show G4 fixed 0 l (zF l.length) 0 (l,h)=_;rw[<- Im];unfold G4;refine qC (xs:=l) (mk:=fun i e=>(fixed,e,l,zF l.length,(i:Int),(l,h))) ?_ ?_ l.length 0 0 _ (by omega) (by omega)
 ·intro self i e x hx
  have hi:=(List.getElem?_eq_some_iff.1 hx).1;have hm:=zY hx;have o:=ho x hm;have p:=hp x hm;unfold rR at o;show NQ _ _ fixed e l (zF l.length) (i:Int) (l,h)=_;unfold NQ;rw[if_pos (by grind[cu,ay]),fI hx,zD];dsimp only;have K3:∀t,WA (fun fixed endV t13 t14 t15 t=>self (fixed,endV,t13,t14,t15,t)) fixed l (zF l.length) (i:Int) t (l,h) x=if t=true then some (false,()) else self (fixed,add .i64 x.1 x.2.1,l,zF l.length,((i+1:Nat):Int),(l,h)):=fun t=>by unfold WA ah4;rw[iD (by omega)]
  have K2:∀t,WB (fun fixed endV t13 t14 t15 t=>self (fixed,endV,t13,t14,t15,t)) fixed l (zF l.length) (i:Int) t (l,h) x=if t=true∨(fixed=true∧x.2.2.2.1=true) then some (false,()) else self (fixed,add .i64 x.1 x.2.1,l,zF l.length,((i+1:Nat):Int),(l,h)):=fun t=>by unfold WB ah3;rw[K3,K3];cases t<;>cases fixed<;>simp
  rw[K2,K2];simp only[true_or,if_true];rw[pR,AP,pR,AP,ay];by_cases q1:x.1<e
  ·simp_all
  ·rw[if_neg (by simp_all)]
   by_cases q2:(h.length:Int)<x.1
   ·simp_all
   ·rw[if_neg (by simp_all)]
    by_cases q3:x.2.1<1
    ·simp_all
    ·rw[if_neg (by simp_all),lH (by omega) (by omega)]
     by_cases q4:(h.length:Int) - x.1<x.2.1
     ·simp_all
     ·rw[jg (by omega) (by omega)]
      grind
 simp_all[NQ,zF,Int,if_neg,cu,ay]
structure SzM(m:rT):Prop where
 c:m.1.length=16
 i:m.2.1.length=8
 h:m.2.2.1.length=756
 w:m.2.2.2.length=8
theorem QD{s:TSl}(h:OkS s):SzM (uF s):=⟨h.c,DY _,Bf h.a,rfl⟩
theorem OP{k:Int}{r w h:Bool}:∀x ∈ [((0:Int),k,r,w,h)],0≤x.1:=fun x hx=>by simp_all
theorem ard:∀x∈SPH,0≤x.1:=by decide
theorem aas{m:rT}(h:SzM m):WJ (SP,m,())=some (true,()):=by obtain⟨c,i,hd,w⟩:=m;have hc:c.length=16:=h.c;have hi:i.length=8:=h.i;have hh:hd.length=756:=h.h;have hw:w.length=8:=h.w;show aic SP (c,i,hd,w)=_;unfold aic;have ho:GL (SP,(c,i,hd,w),())=some ((([(0,16,true,true,false)],c),([(0,8,true,false,false)],i),(SPH,hd),[(0,8,true,false,false)],w),()):=rfl;rw[ho,zD];dsimp only;rw[OO (vg (by decide) (by decide)) OP (by omega) (by decide),zD,hc,if_pos (by decide),OO (vg (by decide) (by decide)) OP (by omega) (by decide),zD,hi,if_pos (by decide),OM Cc ard (by omega) (by decide),zD,hh,if_pos (by decide),OM (vg (by decide) (by decide)) OP (by omega) (by decide),hw];rfl
def jk(c:List Bool)(p n:Nat):List Bool:=(c.drop p).take n++zE ((n+7) / 8*8 - n) false
theorem OQ{c:List Bool}{p n:Int}(hp:0≤p)(hn:0≤n)(hh:c.length≤100000)(hle:p+n≤c.length)(l:List d9):WK ((l,c),p,n,8,())=some (jk c p.toNat n.toNat,()):=by
 obtain⟨p,rfl⟩:=zN hp;obtain⟨n,rfl⟩:=zN hn;have e1:mul .i64 (quo .i64 (sub .i64 (add .i64 (n:Int) 8) 1) 8) 8=(((n+7) / 8*8:Nat):Int):=by have e0:add .i64 (n:Int) 8=((n+8:Nat):Int):=qX (m:=8) (by omega);rw[e0,lH (by omega) (by omega),show (((n+8:Nat):Int) - 1)=((n+7:Nat):Int) by omega];have:=o9 (i:=n+7) (d:=8) (by omega);rw[show (8:Int)=((8:Nat):Int) from rfl,this,nX (by omega) (by omega)];omega
 show aid (l,c) (p:Int) (n:Int) 8=_;unfold aid;rw[e1,eu (by decide),eu (gY.2 (by omega)),eu (qH _),zQ,iT (by omega),qX (by omega)];dsimp only;rw[wN (by omega) (by omega),zD,kD,eu (gM.2 (by simp))];have hlen:((c.take (p+n)).drop p).length=n:=by grind
 have ht:((c.take (p+n)).drop p)=(c.drop p).take n:=by grind
 rw[ay,zQ,List.take_of_length_le (show ((c.take (p+n)).drop p).length≤(n+7) / 8*8 by omega),hlen,List.drop_replicate,ht];simp_all[jk,zQ,Nat.zero_add]
def isE(f:Int):Bool:=decide (f=5∨f=6∨f=15∨f=16)
def JJ(a:TA):TR:=if a.1=5 then (5,0,[a.2.2.2.2.2.headD false],[],a.2.1,0) else if a.1=6 then (6,0,[],[a.2.2.2.2.1.headD 0],a.2.1,0) else (a.1,0,[],[],a.2.1,a.2.2.1)
theorem OT{a:TA}(h:OkA a)(hr:iq a=true):uf (a,())=some (if isE a.1=true then JJ a else zR,isE a.1,()):=by
 show Gq MU Va a=_;unfold Gq;rw[right_eq h,hr,zD,if_neg (by decide)]
 cases lS hr with
 | bits f p n hf h1 h2=>rcases hf with rfl | rfl<;>rfl
 | words f p n hf h1 h2=>rcases hf with rfl | rfl<;>rfl
 | coil p b=>rfl
 | word p x=>rfl
 | coils p l h1 h2=>rfl
 | regs p l h1 h2=>rfl
 | swap p n t l h1 h2 h3 h4=>rfl
def DZ(m:rT)(a:TA):TR :=
 if a.1=1 then (a.1,0,jk m.1 a.2.1.toNat a.2.2.1.toNat,[],0,0)
 else if a.1=2 then (a.1,0,jk m.2.1 a.2.1.toNat a.2.2.1.toNat,[],0,0)
 else if a.1=4 then (a.1,0,[],(m.2.2.2.drop a.2.1.toNat).take a.2.2.1.toNat,0,0)
 else (a.1,0,[],(m.2.2.1.drop a.2.1.toNat).take a.2.2.1.toNat,0,0)
def wrM(m:rT)(a:TA):rT :=
 if a.1=5∨a.1=15 then (cpy m.1 a.2.1.toNat a.2.2.2.2.2,m.2)
 else if a.1=16 then (m.1,m.2.1,cpy m.2.2.1 a.2.1.toNat a.2.2.2.2.1,m.2.2.2)
 else if a.1=23 then (m.1,m.2.1,cpy m.2.2.1 a.2.2.2.1.toNat a.2.2.2.2.1,m.2.2.2)
 else m
def doM(m:rT)(a:TA):rT×TR:=if ji a=true then (wrM m a,if isE a.1=true then JJ a else DZ (wrM m a) a) else (m,(a.1,2,[],[],0,0))
theorem yF{s:List Bool}(h:s.length≤1000000):C4 (s,())=some (s,()):=by
 show acJ s=_;unfold acJ;by_cases h0:s.length=0
 ·have:s=[]:=List.eq_nil_of_length_eq_zero h0
  subst this;rfl
 ·rw[if_neg (by grind[dw,ay]),iT (by omega)]
theorem arf(a:TA)(m:rT)(u:Int×Int):NT a 0 0 0 0 m.1 m.2.1 m.2.2.1 m.2.2.2 SP.1 SP.2.1 SP.2.2.1 SP.2.2.2 u=zC (uf (a,())) fun y=>if y.2.1=true then some (m,y.1,()) else zC (NS (((SP.1,m.1),(SP.2.1,m.2.1),(SP.2.2.1,m.2.2.1),SP.2.2.2,m.2.2.2),u.1,a,())) fun y=>some (m,y.1,()):=rfl
theorem aat{m:rT}(h:SzM m){a:TA}(ha:OkA a)(hr:iq a=true)(hc:ji a=true):SzM (wrM m a):=by
 have p0:=ha.at0;have t0:=ha.t0;unfold wrM;unfold ji at hc;split
 ·rename_i q
  rw[if_neg (by omega),if_neg (by omega),if_neg (by omega),if_pos q,decide_eq_true_eq]at hc;exact⟨by rw[qJ (by have:=h.c;omega)];exact h.c,h.i,h.h,h.w⟩
 ·rename_i q
  split
  ·rename_i q2
   rw[if_neg (by omega),if_neg (by omega),if_neg (by omega),if_neg q,if_neg (by omega),decide_eq_true_eq]at hc;exact⟨h.c,h.i,by show (cpy _ _ _).length=756;rw[qJ (by have:=h.h;omega)];exact h.h,h.w⟩
  ·rename_i q2
   split
   ·rename_i q3
    rw[if_neg (by omega),if_neg (by omega),if_neg (by omega),if_neg q,if_pos q3,zO,decide_eq_true_eq]at hc;exact⟨h.c,h.i,by show (cpy _ _ _).length=756;rw[qJ (by have:=h.h;omega)];exact h.h,h.w⟩
   omega
theorem aau{m:rT}(h:SzM m){a:TA}(ha:OkA a)(hr:iq a=true)(hc:ji a=true)(he:isE a.1=false)(k:Int)(hk:k=(if a.1=1 then 1 else if a.1=2 then 2 else if a.1=4 then 4 else 3)) :
  NS (((SP.1,m.1),(SP.2.1,m.2.1),(SP.2.2.1,m.2.2.1),SP.2.2.2,m.2.2.2),k,a,())=some (DZ m a,()):=by
 have p0:=ha.at0;have p1:=ha.at1;have m0:=ha.m0;have m1:=ha.m1;have hcp:cvt .i64 a.2.1=a.2.1:=iI (by omega) (by omega);have hcn:cvt .i64 a.2.2.1=a.2.2.1:=iI (by omega) (by omega);have h1:=h.c;have h2:=h.i;have h3:=h.h;have h4:=h.w
 have hn:1≤a.2.2.1∨isE a.1=true:=by
  cases lS hr with
  | bits f p n hf h1 h2=>simp_all
  | words f p n hf h1 h2=>simp_all
  | coil p b=>exact Or.inr rfl
  | word p x=>exact Or.inr rfl
  | coils p l h1 h2=>grind
  | regs p l h1 h2=>grind
  | swap p n t l g1 g2 g3 g4=>simp_all
 have hn1:1≤a.2.2.1:=by simp_all
 show aif _ k a=_;unfold aif;unfold ji at hc;unfold DZ;rw[hcp,hcn];by_cases q1:a.1=1
 ·rw[if_pos q1]at hk hc
  rw[decide_eq_true_eq]at hc;subst hk;rw[if_pos (by rfl),if_pos q1];grind[OQ]
 ·rw[if_neg q1]at hk hc
  by_cases q2:a.1=2
  ·rw[if_pos q2]at hk
   rw[if_pos (Or.inl q2),decide_eq_true_eq]at hc;subst hk;rw[if_neg (by decide),if_pos (by rfl),if_neg q1,if_pos q2];grind[OQ]
  ·rw[if_neg q2]at hk
   by_cases q4:a.1=4
   ·rw[if_pos q4]at hk
    rw[if_pos (Or.inr q4),decide_eq_true_eq]at hc;subst hk;rw[if_neg (by decide),if_neg (by decide),if_neg (by decide),if_pos (by rfl),if_neg q1,if_neg q2,if_pos q4];grind[OJ]
   ·rw[if_neg q4]at hk
    rw[if_neg (by omega)]at hc;subst hk;rw[if_neg (by decide),if_neg (by decide),if_pos (by rfl),if_neg q1,if_neg q2,if_neg q4]
    have hle:rdH a.2.1 a.2.2.1.toNat=true:=by
     by_cases q3:a.1=3
     ·simp_all
     ·rw[if_neg q3]at hc
      by_cases q5:a.1=5∨a.1=15
      ·simp_all[absurd,decide_eq_true,isE]
      ·rw[if_neg q5]at hc
       by_cases q6:a.1=23
       ·simp_all
       ·exfalso
        have:a.1=6∨a.1=16:=by
         cases lS hr with
         | bits f p n hf=>omega
         | words f p n hf=>omega
         | coil p b=>omega
         | word p x=>omega
         | coils p l=>omega
         | regs p l=>omega
         | swap p n t l=>omega
        simp_all[absurd,decide_eq_true,isE]
    have:=Be (by omega) hle;grind[OJ]
theorem arh{m:rT}(h:SzM m){a:TA}(ha:OkA a)(hr:iq a=true):kF (SP,m,a,())=some ((doM m a).1,(doM m a).2,()):=by
 have hf:=Ce hr;have h1:=h.c;have h2:=h.i;have h3:=h.h;have h4:=h.w;have p0:=ha.at0;have t0:=ha.t0;have lw:=ha.lw;have lb:=ha.lb;show WO NT SP m a=_;unfold WO;rw[yF (by omega),zD,yF (by omega),zD,yD (by omega),zD,yD (by omega),zD,OI ha hr,zD];dsimp only;unfold doM
 cases hc:ji a with
 | false =>
  simp only[Bool.false_eq_true,if_false];rw[if_pos (show nei 2 0=true by decide),yE,zD,EK (by omega) hf.2]
 | true =>
  rw[if_pos rfl,if_neg (by decide),aas h,zD,if_neg (by decide),QB,zD,I4 ha,zD,if_pos rfl];have hsz:=aat h ha hr hc
  have fin:∀k:Int×Int,(isE a.1=false->k.1=(if a.1=1 then 1 else if a.1=2 then 2 else if a.1=4 then 4 else 3))->NT a 0 0 0 0 (wrM m a).1 (wrM m a).2.1 (wrM m a).2.2.1 (wrM m a).2.2.2 SP.1 SP.2.1 SP.2.2.1 SP.2.2.2 k=some (wrM m a,if isE a.1=true then JJ a else DZ (wrM m a) a,()):=fun k hk=>by
   rw[arf,OT ha hr,zD]
   cases he:isE a.1 with
   | true=>rfl
   | false =>
    rw[if_neg (fun e=>Bool.false_ne_true e),if_neg (fun e=>Bool.false_ne_true e),aau hsz ha hr hc he _ (hk he)];rfl
  have hcc:=hc;unfold ji at hc
  cases hra:lS hr with
  | bits f p n hf' g1 g2 =>
   rcases hf' with rfl | rfl
   ·exact fin (1,0) (fun _=>rfl)
   ·exact fin (2,0) (fun _=>rfl)
  | words f p n hf' g1 g2 =>
   rcases hf' with rfl | rfl
   ·exact fin (3,0) (fun _=>rfl)
   ·exact fin (4,0) (fun _=>rfl)
  | coil p b =>
   have hle:p+((1:Nat):Int)≤16:=of_decide_eq_true hc;have p0:0≤p:=p0;refine Eq.trans ?_ (fin (0,1) (fun e=>by cases e));dsimp only;rw[if_neg (show ¬ (5:Int)=23 by decide)];show need (ge p 0) (need (le p (zF m.1.length)) (need (le (zF m.1.length) (zF m.1.length)) (need (le (p+(zF m.1.length - p)) (zF m.1.length)) _)))=_;rw[eu (gY.2 p0),eu (gM.2 (by grind)),eu (gM.2 (Int.le_refl _)),eu (gM.2 (by omega))];rw[nP (w:=[b]) (by grind)];rfl
  | word p x =>
   simp_all
  | coils p l g1 g2 =>
   have hle:p+(l.length:Int)≤16:=of_decide_eq_true hc;have p0:0≤p:=p0;refine Eq.trans ?_ (fin (0,1) (fun e=>by cases e));dsimp only;rw[if_neg (show ¬ (15:Int)=23 by decide)];show need (ge p 0) (need (le p (zF m.1.length)) (need (le (zF m.1.length) (zF m.1.length)) (need (le (p+(zF m.1.length - p)) (zF m.1.length)) _)))=_;rw[eu (gY.2 p0),eu (gM.2 (by grind)),eu (gM.2 (Int.le_refl _)),eu (gM.2 (by omega))];rw[nP (w:=l) (by grind)];rfl
  | regs p l g1 g2 =>
   have hle:p=272∧l.length=8∨p=288∧l.length=20:=of_decide_eq_true hc;have p0:0≤p:=p0;refine Eq.trans ?_ (fin (0,3) (fun e=>by cases e));dsimp only;rw[if_neg (show ¬ (16:Int)=23 by decide)];show need (ge p 0) (need (le p (zF m.2.2.1.length)) (need (le (zF m.2.2.1.length) (zF m.2.2.1.length)) (need (le (p+(zF m.2.2.1.length - p)) (zF m.2.2.1.length)) _)))=_;rw[eu (gY.2 p0),eu (gM.2 (by grind)),eu (gM.2 (Int.le_refl _)),eu (gM.2 (by omega))];rw[nP (w:=l) (by grind)];rfl
  | swap p n t l g1 g2 g3 g4 =>
   have hle:t=272∧l.length=8∨t=288∧l.length=20:=of_decide_eq_true (zO _ _ ▸ hc:_∧_).2;have t0:0≤t:=t0;refine Eq.trans ?_ (fin (3,3) (fun _=>rfl));dsimp only;rw[if_pos (show (23:Int)=23 by decide)];show need (ge t 0) (need (le t (zF m.2.2.1.length)) (need (le (zF m.2.2.1.length) (zF m.2.2.1.length)) (need (le (t+(zF m.2.2.1.length - t)) (zF m.2.2.1.length)) _)))=_;rw[eu (gY.2 t0),eu (gM.2 (by grind)),eu (gM.2 (Int.le_refl _)),eu (gM.2 (by omega))];rw[nP (w:=l) (by grind)];rfl
end Go.Proofs.Lx
end
