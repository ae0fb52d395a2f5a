/- Proved in the last of these 16 parts (this is part 12): TalkCalm. Conditions: those of the given statement, and no others. -/
import Derived.Test.YtljkanofaahagaaGreatPartj
import Derived.Test.YtljkanofaahagaaGreatPartk
set_option linter.unusedVariables false
set_option linter.unusedSimpArgs false
set_option linter.unusedSectionVars false
open Option renaming bind → zC, bind_some → zD
open List renaming replicate → zE, mem_cons_of_mem → zT, getElem?_eq_getElem → zV, mem_of_getElem? → zY, length_append → zZ, length_take → kB, length_replicate → kD
open Int renaming ofNat → zF, toNat → zI, eq_ofNat_of_zero_le → zN, toNat_natCast → zQ
open Bool renaming and_eq_true → zO
noncomputable section
namespace Go.Proofs.Lx
open Go Ev Sx Pl
set_option maxRecDepth 100000
abbrev fV:=Int×Int×Bool×Bool×Bool
def lJ(x:fV)(i:Int):Bool:=decide (1≤x.2.1∧x.1≤i∧i<x.1+x.2.1)
def iL(l:List fV)(i:Int):Option fV:=l.find? fun x=>lJ x i
def mW(w:fV->Bool)(l:List fV)(i:Int):Bool:=match iL l i with
 | some x=>w x
 | none=>false
def jl(w:fV->Bool)(l:List fV)(p:Int)(m:Nat):Bool:=(List.range m).all fun k=>mW w l (p+(k:Int))
def uU(x:fV):Prop:=-9223372036854775808≤x.1∧x.1≤9223372036854775807∧-9223372036854775808≤x.2.1∧x.2.1≤9223372036854775807
theorem tO(n:Int):jR n n=true:=by unfold jR;rw[if_pos rfl]
theorem AU{x:fV}{p e:Int}(h0:0≤p)(hpe:p≤e)(he:e≤1000000000000)(hx:uU x) :
  ∃f t,yE (x,p,e,())=some (f,t,())∧p≤f∧f≤e∧t≤e∧∀i,p≤i->i<e->(lJ x i=true↔f≤i∧i<t):=by
 obtain⟨x1,x2,x3,x4⟩:=hx;show ∃f t,Zs Qc x p e=_∧_;unfold Zs;have none:∃f t,Qc p e true x=some (f,t,())∧f=p∧t=p:=⟨p,p,rfl,rfl,rfl⟩;by_cases hm:x.2.1<1
 ·rw[if_pos (fq.2 hm)]
  obtain⟨f,t,h1,rfl,rfl⟩:=none;refine⟨_,_,h1,Int.le_refl _,hpe,hpe,fun i hi hie=>?_⟩;unfold lJ;rw[decide_eq_true_eq];omega
 ·rw[if_neg (fun h=>hm (fq.1 h))]
  by_cases ha:e≤x.1
  ·rw[iK.2 ha]
   obtain⟨f,t,h1,rfl,rfl⟩:=none;refine⟨_,_,h1,Int.le_refl _,hpe,hpe,fun i hi hie=>?_⟩;unfold lJ;rw[decide_eq_true_eq];omega
  ·rw[show ge x.1 e=false from decide_eq_false ha]
   have K3:∀t,Zt p t x=some (if p<x.1 then x.1 else p,t,()):=fun t=>by unfold Zt akv;simp only[jU]
   have K2t:Qb p e e true x=some (if p<x.1 then x.1 else p,(if x.1+x.2.1<e then x.1+x.2.1 else e),())∨¬ (x.1<0∨x.2.1<e - x.1):=by
    by_cases hc:x.1<0∨x.2.1<e - x.1
    ·left
     unfold Qb Zr;have hadd:add .i64 x.1 x.2.1=x.1+x.2.1:=jS (by omega) (by omega);rw[if_pos rfl,K3,hadd];simp only[fq]
    ·exact .inr hc
   have fin:∀t,(t=(if x.1+x.2.1<e then x.1+x.2.1 else e))->p≤(if p<x.1 then x.1 else p)∧(if p<x.1 then x.1 else p)≤e∧t≤e∧∀i,p≤i->i<e->(lJ x i=true↔(if p<x.1 then x.1 else p)≤i∧i<t):=fun t ht=>by subst ht;refine⟨by split<;>omega,by split<;>omega,by split<;>omega,fun i hi hie=>?_⟩;unfold lJ;rw[decide_eq_true_eq];split<;>split<;>omega
   unfold Qc aku;rw[if_neg (by decide)];by_cases hn:x.1<0
   ·rw[if_pos (fq.2 hn)]
    rcases K2t with h | h
    ·obtain⟨g1,g2,g3,g4⟩:=fin _ rfl
     exact⟨_,_,h,g1,g2,g3,g4⟩
    ·exact absurd (.inl hn) h
   ·rw[if_neg (fun h=>hn (fq.1 h)),lQ (by omega) (by omega)]
    by_cases hc:x.2.1<e - x.1
    ·rw[fq.2 hc]
     rcases K2t with h | h
     ·obtain⟨g1,g2,g3,g4⟩:=fin _ rfl
      exact⟨_,_,h,g1,g2,g3,g4⟩
     ·exact absurd (.inr hc) h
    ·rw[show lt x.2.1 (e - x.1)=false from decide_eq_false hc]
     unfold Qb Zr;rw[if_neg (by decide),K3];obtain⟨g1,g2,g3,g4⟩:=fin e (by rw[if_neg (by omega)]);exact⟨_,_,rfl,g1,g2,g3,g4⟩
theorem vF{l:List fV}{t:Nat}{i:Int}{y:fV}(h:iL (l.take t) i=some y):iL l i=some y:=by
 have:iL l i=(iL (l.take t) i).or (iL (l.drop t) i):=by unfold iL;rw[<- List.find?_append,List.take_append_drop]
 rw[this,h];rfl
theorem mX{l:List fV}{t:Nat}(ht:t<l.length)(i:Int):iL (l.take (t+1)) i=(iL (l.take t) i).or (if lJ l[t] i=true then some l[t] else none):=by
 unfold iL;rw[List.take_succ_eq_append_getElem ht,List.find?_append]
 congr 1
 simp only[List.find?_cons,List.find?_nil];cases lJ l[t] i<;>rfl
def mq(w:fV->Bool)(l:List fV)(p:Int)(m:Nat)(c:Int->Bool)(met:List Bool)(left:Int):Prop :=
 met.length=m∧left=((met.countP fun b=>!b:Nat):Int)∧∀k:Nat,k<m->met[k]? = some (c (p+(k:Int)))∧(c (p+(k:Int))=true->mW w l (p+(k:Int))=true)
theorem Ms(w:fV->Bool)(l:List fV)(p:Int)(m:Nat):mq w l p m (fun i=>(iL (l.take 0) i).isSome) (zE m false) (m:Int):=by
 refine⟨kD ..,?_,fun k hk=>⟨?_,fun e=>by cases e⟩⟩
 ·rw[List.countP_replicate]
  rfl
 ·rw[List.getElem?_replicate,if_pos hk]
  rfl
theorem qb{w:fV->Bool}{l:List fV}{p:Int}{m:Nat}{c:Int->Bool}{met:List Bool}{left:Int}(h:mq w l p m c met left)(h0:left=0):jl w l p m=true:=by
 obtain⟨h1,h2,h3⟩:=h;unfold jl;rw[List.all_eq_true];intro k hk;rw[List.mem_range]at hk;obtain⟨e1,e2⟩:=h3 k hk;refine e2 ?_;have hz:met.countP (fun b=>!b)=0:=by omega
 have:=List.countP_eq_zero.1 hz _ (zY e1);simpa using this
theorem AV{w:fV->Bool}{l:List fV}{p:Int}{m:Nat}{met:List Bool}{left:Int}(h:mq w l p m (fun i=>(iL l i).isSome) met left)(h0:left≠0):jl w l p m=false:=by
 obtain⟨h1,h2,h3⟩:=h;rw[<- Bool.not_eq_true];intro hall;unfold jl at hall;rw[List.all_eq_true]at hall;apply h0;rw[h2]
 have:met.countP (fun b=>!b)=0:=by
  rw[List.countP_eq_zero];intro b hb;obtain⟨k,hk,rfl⟩:=List.getElem_of_mem hb;have e1:=(h3 k (by omega)).1;have hw:=hall k (List.mem_range.2 (by omega));unfold mW at hw;rw[zV hk]at e1;dsimp only at e1
  cases hf:iL l (p+(k:Int)) with
  | none=>rw[hf]at hw;cases hw
  | some y =>
   rw[hf]at e1;have e1:met[k]=true:=by simpa using e1
   rw[e1];decide
 rw[this];rfl
theorem xL{w:fV->Bool}{l:List fV}{p:Int}{m k:Nat}(hk:k<m)(h:mW w l (p+(k:Int))=false):jl w l p m=false:=by rw[<- Bool.not_eq_true];intro hall;unfold jl at hall;rw[List.all_eq_true]at hall;have:=hall k (List.mem_range.2 hk);rw[h]at this;cases this
theorem qF{w:fV->Bool}{l:List fV}{p:Int}{m:Nat}{c c':Int->Bool}{met:List Bool}{left:Int}(h:mq w l p m c met left)(hc:∀k:Nat,k<m->c' (p+(k:Int))=c (p+(k:Int))):mq w l p m c' met left :=
 ⟨h.1,h.2.1,fun k hk=>by rw[hc k hk];exact h.2.2 k hk⟩
theorem Ec{w:fV->Bool}{l:List fV}{p:Int}{m k:Nat}{c:Int->Bool}{met:List Bool}{left:Int}(h:mq w l p m c met left)(hk:k<m)(hf:c (p+(k:Int))=false)(hw:mW w l (p+(k:Int))=true) :
  mq w l p m (fun i=>c i || decide (i=p+(k:Int))) (met.set k true) (left - 1):=by
 obtain⟨h1,h2,h3⟩:=h;have hg:=(h3 k hk).1;have hkl:k<met.length:=by omega
 rw[zV hkl,hf]at hg;have hg:met[k]=false:=by simpa using hg
 refine⟨by simp[h1],?_,fun j hj=>?_⟩
 ·have hpos:0<met.countP (fun b=>!b):=by rw[List.countP_pos_iff];exact⟨met[k],List.getElem_mem hkl,by rw[hg];rfl⟩
  rw[List.countP_set hkl,hg,h2];simp only[Bool.not_false,if_true,Bool.not_true,Bool.false_eq_true,if_false];omega
 ·obtain⟨e1,e2⟩:=h3 j hj
  dsimp only;by_cases hjk:k=j
  ·subst hjk
   refine⟨?_,fun _=>hw⟩;rw[List.getElem?_set_self hkl,decide_eq_true rfl,Bool.or_true]
  ·have:¬ (p+(j:Int)=p+(k:Int)):=by omega
   refine⟨?_,fun e=>?_⟩
   ·rw[List.getElem?_set_ne hjk,e1,decide_eq_false this,Bool.or_false]
   ·rw[decide_eq_false this,Bool.or_false]at e
    exact e2 e
@[reducible] def zL0:Type:=Int->Int->Int->List (Int×Int×Bool×Bool×Bool)->Int->Int->List Bool->Option (As [.bool])
@[reducible] def zL1:Type:=(Int)×(Int)×(Int)×(Int)×(Int)×(List (Int×Int×Bool×Bool×Bool))×(Int)×(Int)×(List Bool)×(Int×Int×Bool×Bool×Bool)->Option (As [.bool])
@[reducible] def zL2:Type:=(Int)×(Int)×(Int)×(Int)×(Int)×(List (Int×Int×Bool×Bool×Bool))×(Int)×(Int)×(List Bool)×(Int×Int×Bool×Bool×Bool)
def au2(u1:zL0):=(fun (self:zL1) (s:zL2)=>Qi (JM u1 (fun at' many left to' i t19 t20 t21 met x=>self (at',many,left,to',i,t19,t20,t21,met,x))) u1 (fun at' many left to' i t19 t20 t21 met x=>self (at',many,left,to',i,t19,t20,t21,met,x)) s.1 s.2.1 s.2.2.1 s.2.2.2.1 s.2.2.2.2.1 s.2.2.2.2.2.1 s.2.2.2.2.2.2.1 s.2.2.2.2.2.2.2.1 s.2.2.2.2.2.2.2.2.1 s.2.2.2.2.2.2.2.2.2)
@[reducible] def zL3:Type:=List (Int×Int×Bool×Bool×Bool)
@[reducible] def zL4:Type:=Int×Int×Bool×Bool×Bool
theorem aDt(u1:zL0)(self:zL1)(at' many left to' i:Int)(t19:zL3)(t20 t21:Int)(met:List Bool)(x:zL4):au2 u1 self (at',many,left,to',i,t19,t20,t21,met,x)=Qi (JM u1 (fun at' many left to' i t19 t20 t21 met x=>self (at',many,left,to',i,t19,t20,t21,met,x))) u1 (fun at' many left to' i t19 t20 t21 met x=>self (at',many,left,to',i,t19,t20,t21,met,x)) at' many left to' i t19 t20 t21 met x:=rfl
theorem aDu(u1:zL0)(at' many left to' i:Int)(t19:zL3)(t20 t21:Int)(met:List Bool)(x:zL4):FM u1 at' many left to' i t19 t20 t21 met x=cu (au2 u1) 18446744073709551616 (at',many,left,to',i,t19,t20,t21,met,x):=rfl
@[reducible] def zL5:Type:=(Int)×(Int)×(Int)×(List (Int×Int×Bool×Bool×Bool))×(Int)×(Int)×(List Bool)->Option (As [.bool])
@[reducible] def zL6:Type:=(Int)×(Int)×(Int)×(List (Int×Int×Bool×Bool×Bool))×(Int)×(Int)×(List Bool)
def au3 :=(fun (self:zL5) (s:zL6)=>Qh (Qj) (FM (fun at' many left t19 t20 t21 met=>self (at',many,left,t19,t20,t21,met))) (fun at' many left t19 t20 t21 met=>self (at',many,left,t19,t20,t21,met)) s.1 s.2.1 s.2.2.1 s.2.2.2.1 s.2.2.2.2.1 s.2.2.2.2.2.1 s.2.2.2.2.2.2)
theorem aDv  (self:zL5)(at':Int)(many:Int)(left:Int)(t19:zL3)(t20:Int)(t21:Int)(met:List Bool):au3 self (at',many,left,t19,t20,t21,met)=Qh (Qj) (FM (fun at' many left t19 t20 t21 met=>self (at',many,left,t19,t20,t21,met))) (fun at' many left t19 t20 t21 met=>self (at',many,left,t19,t20,t21,met)) at' many left t19 t20 t21 met:=rfl
theorem aDw  (at':Int)(many:Int)(left:Int)(t19:zL3)(t20:Int)(t21:Int)(met:List Bool):Qk at' many left t19 t20 t21 met=cu (au3) 18446744073709551616 (at',many,left,t19,t20,t21,met):=rfl
def au4(u1:zL0):=(fun (self:zL1) (s:zL2)=>Qq (JR u1 (fun at' many left to' i t19 t20 t21 met x=>self (at',many,left,to',i,t19,t20,t21,met,x))) u1 (fun at' many left to' i t19 t20 t21 met x=>self (at',many,left,to',i,t19,t20,t21,met,x)) s.1 s.2.1 s.2.2.1 s.2.2.2.1 s.2.2.2.2.1 s.2.2.2.2.2.1 s.2.2.2.2.2.2.1 s.2.2.2.2.2.2.2.1 s.2.2.2.2.2.2.2.2.1 s.2.2.2.2.2.2.2.2.2)
theorem aDx(u1:zL0)(self:zL1)(at' many left to' i:Int)(t19:zL3)(t20 t21:Int)(met:List Bool)(x:zL4):au4 u1 self (at',many,left,to',i,t19,t20,t21,met,x)=Qq (JR u1 (fun at' many left to' i t19 t20 t21 met x=>self (at',many,left,to',i,t19,t20,t21,met,x))) u1 (fun at' many left to' i t19 t20 t21 met x=>self (at',many,left,to',i,t19,t20,t21,met,x)) at' many left to' i t19 t20 t21 met x:=rfl
theorem aDy(u1:zL0)(at' many left to' i:Int)(t19:zL3)(t20 t21:Int)(met:List Bool)(x:zL4):FO u1 at' many left to' i t19 t20 t21 met x=cu (au4 u1) 18446744073709551616 (at',many,left,to',i,t19,t20,t21,met,x):=rfl
def au5 :=(fun (self:zL5) (s:zL6)=>Qp (Qr) (FO (fun at' many left t19 t20 t21 met=>self (at',many,left,t19,t20,t21,met))) (fun at' many left t19 t20 t21 met=>self (at',many,left,t19,t20,t21,met)) s.1 s.2.1 s.2.2.1 s.2.2.2.1 s.2.2.2.2.1 s.2.2.2.2.2.1 s.2.2.2.2.2.2)
theorem aDz  (self:zL5)(at':Int)(many:Int)(left:Int)(t19:zL3)(t20:Int)(t21:Int)(met:List Bool):au5 self (at',many,left,t19,t20,t21,met)=Qp (Qr) (FO (fun at' many left t19 t20 t21 met=>self (at',many,left,t19,t20,t21,met))) (fun at' many left t19 t20 t21 met=>self (at',many,left,t19,t20,t21,met)) at' many left t19 t20 t21 met:=rfl
theorem aDA  (at':Int)(many:Int)(left:Int)(t19:zL3)(t20:Int)(t21:Int)(met:List Bool):Qs at' many left t19 t20 t21 met=cu (au5) 18446744073709551616 (at',many,left,t19,t20,t21,met):=rfl
@[reducible] def zL7:Type:=Int->Int->Int->List (Int×Int×Bool×Bool×Bool)->Int->Int->Int->Int->List Bool->Option (As [.bool,.int .i64,.int .i64])
@[reducible] def zL8:Type:=(Int)×(Int)×(Int)×(Int)×(Int)×(List (Int×Int×Bool×Bool×Bool))×(Int)×(Int)×(Int)×(Int)×(List Bool)×(Int×Int×Bool×Bool×Bool)->Option (As [.bool,.int .i64,.int .i64])
@[reducible] def zL9:Type:=(Int)×(Int)×(Int)×(Int)×(Int)×(List (Int×Int×Bool×Bool×Bool))×(Int)×(Int)×(Int)×(Int)×(List Bool)×(Int×Int×Bool×Bool×Bool)
def au6(u1:zL7):=(fun (self:zL8) (s:zL9)=>Qm (JO u1 (fun at' many left to' i t19 t20 t21 o o_2 met x=>self (at',many,left,to',i,t19,t20,t21,o,o_2,met,x))) u1 (fun at' many left to' i t19 t20 t21 o o_2 met x=>self (at',many,left,to',i,t19,t20,t21,o,o_2,met,x)) s.1 s.2.1 s.2.2.1 s.2.2.2.1 s.2.2.2.2.1 s.2.2.2.2.2.1 s.2.2.2.2.2.2.1 s.2.2.2.2.2.2.2.1 s.2.2.2.2.2.2.2.2.1 s.2.2.2.2.2.2.2.2.2.1 s.2.2.2.2.2.2.2.2.2.2.1 s.2.2.2.2.2.2.2.2.2.2.2)
theorem aDB(u1:zL7)(self:zL8)(at' many left to' i:Int)(t19:zL3)(t20 t21 o o_2:Int)(met:List Bool)(x:zL4):au6 u1 self (at',many,left,to',i,t19,t20,t21,o,o_2,met,x)=Qm (JO u1 (fun at' many left to' i t19 t20 t21 o o_2 met x=>self (at',many,left,to',i,t19,t20,t21,o,o_2,met,x))) u1 (fun at' many left to' i t19 t20 t21 o o_2 met x=>self (at',many,left,to',i,t19,t20,t21,o,o_2,met,x)) at' many left to' i t19 t20 t21 o o_2 met x:=rfl
theorem aDC(u1:zL7)(at' many left to' i:Int)(t19:zL3)(t20 t21 o o_2:Int)(met:List Bool)(x:zL4):FN u1 at' many left to' i t19 t20 t21 o o_2 met x=cu (au6 u1) 18446744073709551616 (at',many,left,to',i,t19,t20,t21,o,o_2,met,x):=rfl
@[reducible] def abE:Type:=(Int)×(Int)×(Int)×(List (Int×Int×Bool×Bool×Bool))×(Int)×(Int)×(Int)×(Int)×(List Bool)->Option (As [.bool,.int .i64,.int .i64])
@[reducible] def au7:Type:=(Int)×(Int)×(Int)×(List (Int×Int×Bool×Bool×Bool))×(Int)×(Int)×(Int)×(Int)×(List Bool)
def au8 :=(fun (self:abE) (s:au7)=>Ql (Qn) (FN (fun at' many left t19 t20 t21 o o_2 met=>self (at',many,left,t19,t20,t21,o,o_2,met))) (fun at' many left t19 t20 t21 o o_2 met=>self (at',many,left,t19,t20,t21,o,o_2,met)) s.1 s.2.1 s.2.2.1 s.2.2.2.1 s.2.2.2.2.1 s.2.2.2.2.2.1 s.2.2.2.2.2.2.1 s.2.2.2.2.2.2.2.1 s.2.2.2.2.2.2.2.2)
theorem aDD  (self:abE)(at':Int)(many:Int)(left:Int)(t19:zL3)(t20:Int)(t21:Int)(o:Int)(o_2:Int)(met:List Bool):au8 self (at',many,left,t19,t20,t21,o,o_2,met)=Ql (Qn) (FN (fun at' many left t19 t20 t21 o o_2 met=>self (at',many,left,t19,t20,t21,o,o_2,met))) (fun at' many left t19 t20 t21 o o_2 met=>self (at',many,left,t19,t20,t21,o,o_2,met)) at' many left t19 t20 t21 o o_2 met:=rfl
theorem aDE  (at':Int)(many:Int)(left:Int)(t19:zL3)(t20:Int)(t21:Int)(o:Int)(o_2:Int)(met:List Bool):Qo at' many left t19 t20 t21 o o_2 met=cu (au8) 18446744073709551616 (at',many,left,t19,t20,t21,o,o_2,met):=rfl
def au9(u1:zL7):=(fun (self:zL8) (s:zL9)=>Qu (JV u1 (fun at' many left to' i t19 t20 t21 o o_2 met x=>self (at',many,left,to',i,t19,t20,t21,o,o_2,met,x))) u1 (fun at' many left to' i t19 t20 t21 o o_2 met x=>self (at',many,left,to',i,t19,t20,t21,o,o_2,met,x)) s.1 s.2.1 s.2.2.1 s.2.2.2.1 s.2.2.2.2.1 s.2.2.2.2.2.1 s.2.2.2.2.2.2.1 s.2.2.2.2.2.2.2.1 s.2.2.2.2.2.2.2.2.1 s.2.2.2.2.2.2.2.2.2.1 s.2.2.2.2.2.2.2.2.2.2.1 s.2.2.2.2.2.2.2.2.2.2.2)
theorem aDF(u1:zL7)(self:zL8)(at' many left to' i:Int)(t19:zL3)(t20 t21 o o_2:Int)(met:List Bool)(x:zL4):au9 u1 self (at',many,left,to',i,t19,t20,t21,o,o_2,met,x)=Qu (JV u1 (fun at' many left to' i t19 t20 t21 o o_2 met x=>self (at',many,left,to',i,t19,t20,t21,o,o_2,met,x))) u1 (fun at' many left to' i t19 t20 t21 o o_2 met x=>self (at',many,left,to',i,t19,t20,t21,o,o_2,met,x)) at' many left to' i t19 t20 t21 o o_2 met x:=rfl
theorem aDG(u1:zL7)(at' many left to' i:Int)(t19:zL3)(t20 t21 o o_2:Int)(met:List Bool)(x:zL4):FP u1 at' many left to' i t19 t20 t21 o o_2 met x=cu (au9 u1) 18446744073709551616 (at',many,left,to',i,t19,t20,t21,o,o_2,met,x):=rfl
def ava :=(fun (self:abE) (s:au7)=>Qt (Qv) (FP (fun at' many left t19 t20 t21 o o_2 met=>self (at',many,left,t19,t20,t21,o,o_2,met))) (fun at' many left t19 t20 t21 o o_2 met=>self (at',many,left,t19,t20,t21,o,o_2,met)) s.1 s.2.1 s.2.2.1 s.2.2.2.1 s.2.2.2.2.1 s.2.2.2.2.2.1 s.2.2.2.2.2.2.1 s.2.2.2.2.2.2.2.1 s.2.2.2.2.2.2.2.2)
theorem aDH  (self:abE)(at':Int)(many:Int)(left:Int)(t19:zL3)(t20:Int)(t21:Int)(o:Int)(o_2:Int)(met:List Bool):ava self (at',many,left,t19,t20,t21,o,o_2,met)=Qt (Qv) (FP (fun at' many left t19 t20 t21 o o_2 met=>self (at',many,left,t19,t20,t21,o,o_2,met))) (fun at' many left t19 t20 t21 o o_2 met=>self (at',many,left,t19,t20,t21,o,o_2,met)) at' many left t19 t20 t21 o o_2 met:=rfl
theorem aDI  (at':Int)(many:Int)(left:Int)(t19:zL3)(t20:Int)(t21:Int)(o:Int)(o_2:Int)(met:List Bool):Qw at' many left t19 t20 t21 o o_2 met=cu (ava) 18446744073709551616 (at',many,left,t19,t20,t21,o,o_2,met):=rfl
theorem abF(u1:Int->Int->Int->List fV->Int->Int->List Bool->Option (As [.bool])){w:fV->Bool}{l:List fV}{p:Int}{m t:Nat}{r:As [.bool]}(hp:0≤p)(hpm:p+(m:Int)≤1000000000000)(ht:t<l.length)(hw:∀x,Ck (x,())=some (w x,())){f to':Int}(hf:p≤f)(hfe:f≤p+(m:Int))(hte:to'≤p+(m:Int))
  (hcov:∀i,p≤i->i<p+(m:Int)->(lJ l[t] i=true↔f≤i∧i<to')) (hR:∀met left,mq w l p m (fun i=>(iL (l.take (t+1)) i).isSome) met left->u1 p (m:Int) left l (l.length:Int) (add .i64 (t:Int) 1) met=some r) (hr:jl w l p m=false->r=(false,()))
  (met:List Bool) (left:Int) (h:mq w l p m (fun i=>(iL (l.take t) i).isSome) met left) :
  FM u1 p (m:Int) left to' f l (l.length:Int) (t:Int) met l[t]=some r:=by
 rw[aDu]
 refine om (Inv:=fun s=>∃(i:Int) (met:List Bool) (left:Int),s=(p,(m:Int),left,to',i,l,(l.length:Int),(t:Int),met,l[t])∧f≤i∧(i≤to'∨i=f)∧mq w l p m (fun j=>(iL (l.take t) j).isSome || (decide (f≤j) && decide (j<i))) met left)
  (μ:=fun s=>(to' - s.2.2.2.2.1).toNat) (G:=fun _=>some r) ?_ _ _ ⟨f,met,left,rfl,Int.le_refl _,.inr rfl,qF h fun k hk=>by
   have:(decide (f≤p+(k:Int)) && decide (p+(k:Int)<f))=false:=by
    by_cases hh:f≤p+(k:Int)
    ·rw[decide_eq_false (show ¬ (p+(k:Int)<f) by omega),Bool.and_false]
    ·rw[decide_eq_false hh,Bool.false_and]
   rw[this,Bool.or_false]⟩ (by dsimp only;omega)
 rintro self s ⟨i,met,left,rfl,hi1,hi2,hI⟩ ih;rw[aDt];unfold Qi;by_cases hlt:i<to'
 ·rw[if_pos (fq.2 hlt)]
  have hk:(i - p).toNat<m:=by omega
  have hki:p+(((i - p).toNat:Nat):Int)=i:=by omega
  have hs:sub .i64 i p=(((i - p).toNat:Nat):Int):=by rw[lQ (by omega) (by omega)];omega
  obtain⟨g1,g2⟩:=hI.2.2 _ hk;dsimp only at g1 g2;rw[hki]at g1 g2;have hdf:(decide (f≤i) && decide (i<i))=false:=by rw[decide_eq_false (show ¬ i<i by omega),Bool.and_false]
  rw[hdf,Bool.or_false]at g1 g2;have K4:∀left met,JM u1 (fun at' many left to' i t19 t20 t21 met x=>self (at',many,left,to',i,t19,t20,t21,met,x)) p (m:Int) left to' i l (l.length:Int) (t:Int) met l[t]=self (p,(m:Int),left,to',i+1,l,(l.length:Int),(t:Int),met,l[t]):=fun left met=>by unfold JM akC;rw[jS (by omega) (by omega)]
  have hcong:∀(k:Nat),k<m->∀b:Bool,b=(((iL (l.take t) (p+(k:Int))).isSome || (decide (f≤p+(k:Int)) && decide (p+(k:Int)<i))) || decide (p+(k:Int)=i))->((iL (l.take t) (p+(k:Int))).isSome || (decide (f≤p+(k:Int)) && decide (p+(k:Int)<i+1)))=b:=fun k hk b hc=>by
   rw[hc,Bool.or_assoc]
   congr 1
   rw[Bool.eq_iff_iff];simp only[Bool.or_eq_true,zO,decide_eq_true_eq];omega
  rw[hs,gZ g1];simp only[zD]
  cases hb:(iL (l.take t) i).isSome with
  | true =>
   rw[if_pos rfl,K4];refine ih _ ⟨i+1,met,left,rfl,by omega,.inl (by omega),qF hI (fun k hk=>hcong k hk _ ?_)⟩ (by dsimp only;omega);by_cases hki':p+(k:Int)=i
   ·rw[hki',hb,Bool.true_or,Bool.true_or]
   ·rw[decide_eq_false hki',Bool.or_false]
  | false =>
   rw[if_neg (by decide),hw,zD];dsimp only;have hnone:iL (l.take t) i=none:=by simpa using hb
   have hfirst:iL l i=some l[t]:=by have hc:=(hcov i (by omega) (by omega)).2 ⟨hi1,hlt⟩;have:=mX ht i;rw[hnone,hc]at this;exact vF this
   have hwf:mW w l i=w l[t]:=by unfold mW;rw[hfirst]
   cases hwx:w l[t]with
   | false =>
    rw[if_pos (by decide)];rw[hr (xL hk (by rw[hki,hwf,hwx]))]
   | true =>
    rw[if_neg (by decide)];have hset:=Ec hI hk (by rw[hki,hdf,Bool.or_false];exact hb) (by rw[hki,hwf,hwx]);rw[zQ,K4];have hl1:sub .i64 left 1=left - 1:=by have:=hI.2.1;have h2:=List.countP_le_length (p:=fun b:Bool=>!b) (l:=met);have h3:=hI.1;rw[lQ (by omega) (by omega)]
    rw[hl1];refine ih _ ⟨i+1,_,_,rfl,by omega,.inl (by omega),qF hset (fun k hk=>hcong k hk _ ?_)⟩ (by dsimp only;omega);rw[hki]
 ·rw[if_neg (fun e=>hlt (fq.1 e))]
  refine hR met left (qF hI fun k hk=>?_);have hc:=hcov (p+(k:Int)) (by omega) (by omega);rw[mX ht];have hcb:lJ l[t] (p+(k:Int))=(decide (f≤p+(k:Int)) && decide (p+(k:Int)<i)):=by rw[Bool.eq_iff_iff,hc];simp only[zO,decide_eq_true_eq];omega
  rw[<- hcb]
  cases hx:iL (l.take t) (p+(k:Int)) with
  | some y=>rfl
  | none =>
   cases lJ l[t] (p+(k:Int))<;>rfl
theorem abG{w:fV->Bool}{l:List fV}{p:Int}{m:Nat}(hp:0≤p)(hm:m≤1000000)(hpm:p≤1000000)(hl:l.length≤1000000)(ho:∀x∈l,uU x)(hw:∀x,Ck (x,())=some (w x,())):Zw (l,p,(m:Int),())=some (jl w l p m,()):=by
 show Zv Qk l p (m:Int)=_;unfold Zv;rw[fT (iK.2 (by omega)),fT (tO _),zQ,jJ (by omega)];rw[aDw]
 refine om (Inv:=fun s=>∃(t:Nat) (met:List Bool) (left:Int),s=(p,(m:Int),left,l,(l.length:Int),(t:Int),met)∧t≤l.length∧mq w l p m (fun i=>(iL (l.take t) i).isSome) met left)
  (μ:=fun s=>(zF l.length - s.2.2.2.2.2.1).toNat) (G:=fun _=>some (jl w l p m,())) ?_ _ _ ⟨0,_,_,rfl,Nat.zero_le _,Ms w l p m⟩ (by dsimp only;rw[bu];omega)
 rintro self s ⟨t,met,left,rfl,ht,hI⟩ ih;rw[aDv];unfold Qh;have k2:Qj left=some (eqi left 0,()):=rfl;by_cases hlt:t<l.length
 ·have hg:=zV hlt
  rw[if_pos (by rw[fq];omega),gZ hg,zD];by_cases h0:left=0
  ·rw[if_pos (fo.2 h0),k2,fo.2 h0,qb hI h0]
  ·rw[if_neg (fun e=>h0 (fo.1 e)),jS (by omega) (by omega)]
   obtain⟨f,t',e1,e2,e3,e4,e5⟩:=AU (x:=l[t]) (p:=p) (e:=p+(m:Int)) hp (by omega) (by omega) (ho _ (List.getElem_mem hlt));rw[e1,zD];refine abF _ hp (by omega) hlt hw e2 e3 e4 e5 (fun met left hI'=>?_) (fun e=>by rw[e]) met left hI;rw[jm (by omega)];exact ih _ ⟨t+1,met,left,rfl,by omega,hI'⟩ (by dsimp only;rw[bu];omega)
 ·have htl:t=l.length:=by omega
  subst htl;rw[if_neg (by rw[fq];omega),k2];by_cases h0:left=0
  ·rw[fo.2 h0,qb hI h0]
  ·rw[List.take_length]at hI
   rw[AV hI h0,show eqi left 0=false from decide_eq_false h0]
theorem abH(u1:Int->Int->Int->List fV->Int->Int->List Bool->Option (As [.bool])){w:fV->Bool}{l:List fV}{p:Int}{m t:Nat}{r:As [.bool]}(hp:0≤p)(hpm:p+(m:Int)≤1000000000000)(ht:t<l.length)(hw:∀x,K9 (x,())=some (w x,())){f to':Int}(hf:p≤f)(hfe:f≤p+(m:Int))(hte:to'≤p+(m:Int))
  (hcov:∀i,p≤i->i<p+(m:Int)->(lJ l[t] i=true↔f≤i∧i<to')) (hR:∀met left,mq w l p m (fun i=>(iL (l.take (t+1)) i).isSome) met left->u1 p (m:Int) left l (l.length:Int) (add .i64 (t:Int) 1) met=some r) (hr:jl w l p m=false->r=(false,()))
  (met:List Bool) (left:Int) (h:mq w l p m (fun i=>(iL (l.take t) i).isSome) met left) :
  FO u1 p (m:Int) left to' f l (l.length:Int) (t:Int) met l[t]=some r:=by
 rw[aDy]
 refine om (Inv:=fun s=>∃(i:Int) (met:List Bool) (left:Int),s=(p,(m:Int),left,to',i,l,(l.length:Int),(t:Int),met,l[t])∧f≤i∧(i≤to'∨i=f)∧mq w l p m (fun j=>(iL (l.take t) j).isSome || (decide (f≤j) && decide (j<i))) met left)
  (μ:=fun s=>(to' - s.2.2.2.2.1).toNat) (G:=fun _=>some r) ?_ _ _ ⟨f,met,left,rfl,Int.le_refl _,.inr rfl,qF h fun k hk=>by
   have:(decide (f≤p+(k:Int)) && decide (p+(k:Int)<f))=false:=by
    by_cases hh:f≤p+(k:Int)
    ·rw[decide_eq_false (show ¬ (p+(k:Int)<f) by omega),Bool.and_false]
    ·rw[decide_eq_false hh,Bool.false_and]
   rw[this,Bool.or_false]⟩ (by dsimp only;omega)
 rintro self s ⟨i,met,left,rfl,hi1,hi2,hI⟩ ih;rw[aDx];unfold Qq;by_cases hlt:i<to'
 ·rw[if_pos (fq.2 hlt)]
  have hk:(i - p).toNat<m:=by omega
  have hki:p+(((i - p).toNat:Nat):Int)=i:=by omega
  have hs:sub .i64 i p=(((i - p).toNat:Nat):Int):=by rw[lQ (by omega) (by omega)];omega
  obtain⟨g1,g2⟩:=hI.2.2 _ hk;dsimp only at g1 g2;rw[hki]at g1 g2;have hdf:(decide (f≤i) && decide (i<i))=false:=by rw[decide_eq_false (show ¬ i<i by omega),Bool.and_false]
  rw[hdf,Bool.or_false]at g1 g2;have K4:∀left met,JR u1 (fun at' many left to' i t19 t20 t21 met x=>self (at',many,left,to',i,t19,t20,t21,met,x)) p (m:Int) left to' i l (l.length:Int) (t:Int) met l[t]=self (p,(m:Int),left,to',i+1,l,(l.length:Int),(t:Int),met,l[t]):=fun left met=>by unfold JR akO;rw[jS (by omega) (by omega)]
  have hcong:∀(k:Nat),k<m->∀b:Bool,b=(((iL (l.take t) (p+(k:Int))).isSome || (decide (f≤p+(k:Int)) && decide (p+(k:Int)<i))) || decide (p+(k:Int)=i))->((iL (l.take t) (p+(k:Int))).isSome || (decide (f≤p+(k:Int)) && decide (p+(k:Int)<i+1)))=b:=fun k hk b hc=>by
   rw[hc,Bool.or_assoc]
   congr 1
   rw[Bool.eq_iff_iff];simp only[Bool.or_eq_true,zO,decide_eq_true_eq];omega
  rw[hs,gZ g1];simp only[zD]
  cases hb:(iL (l.take t) i).isSome with
  | true =>
   rw[if_pos rfl,K4];refine ih _ ⟨i+1,met,left,rfl,by omega,.inl (by omega),qF hI (fun k hk=>hcong k hk _ ?_)⟩ (by dsimp only;omega);by_cases hki':p+(k:Int)=i
   ·rw[hki',hb,Bool.true_or,Bool.true_or]
   ·rw[decide_eq_false hki',Bool.or_false]
  | false =>
   rw[if_neg (by decide),hw,zD];dsimp only;have hnone:iL (l.take t) i=none:=by simpa using hb
   have hfirst:iL l i=some l[t]:=by have hc:=(hcov i (by omega) (by omega)).2 ⟨hi1,hlt⟩;have:=mX ht i;rw[hnone,hc]at this;exact vF this
   have hwf:mW w l i=w l[t]:=by unfold mW;rw[hfirst]
   cases hwx:w l[t]with
   | false =>
    rw[if_pos (by decide)];rw[hr (xL hk (by rw[hki,hwf,hwx]))]
   | true =>
    rw[if_neg (by decide)];have hset:=Ec hI hk (by rw[hki,hdf,Bool.or_false];exact hb) (by rw[hki,hwf,hwx]);rw[zQ,K4];have hl1:sub .i64 left 1=left - 1:=by have:=hI.2.1;have h2:=List.countP_le_length (p:=fun b:Bool=>!b) (l:=met);have h3:=hI.1;rw[lQ (by omega) (by omega)]
    rw[hl1];refine ih _ ⟨i+1,_,_,rfl,by omega,.inl (by omega),qF hset (fun k hk=>hcong k hk _ ?_)⟩ (by dsimp only;omega);rw[hki]
 ·rw[if_neg (fun e=>hlt (fq.1 e))]
  refine hR met left (qF hI fun k hk=>?_);have hc:=hcov (p+(k:Int)) (by omega) (by omega);rw[mX ht];have hcb:lJ l[t] (p+(k:Int))=(decide (f≤p+(k:Int)) && decide (p+(k:Int)<i)):=by rw[Bool.eq_iff_iff,hc];simp only[zO,decide_eq_true_eq];omega
  rw[<- hcb]
  cases hx:iL (l.take t) (p+(k:Int)) with
  | some y=>rfl
  | none =>
   cases lJ l[t] (p+(k:Int))<;>rfl
theorem abI{w:fV->Bool}{l:List fV}{p:Int}{m:Nat}(hp:0≤p)(hm:m≤1000000)(hpm:p≤1000000)(hl:l.length≤1000000)(ho:∀x∈l,uU x)(hw:∀x,K9 (x,())=some (w x,())):ZC (l,p,(m:Int),())=some (jl w l p m,()):=by
 show ZB Qs l p (m:Int)=_;unfold ZB;rw[fT (iK.2 (by omega)),fT (tO _),zQ,jJ (by omega)];rw[aDA]
 refine om (Inv:=fun s=>∃(t:Nat) (met:List Bool) (left:Int),s=(p,(m:Int),left,l,(l.length:Int),(t:Int),met)∧t≤l.length∧mq w l p m (fun i=>(iL (l.take t) i).isSome) met left)
  (μ:=fun s=>(zF l.length - s.2.2.2.2.2.1).toNat) (G:=fun _=>some (jl w l p m,())) ?_ _ _ ⟨0,_,_,rfl,Nat.zero_le _,Ms w l p m⟩ (by dsimp only;rw[bu];omega)
 rintro self s ⟨t,met,left,rfl,ht,hI⟩ ih;rw[aDz];unfold Qp;have k2:Qr left=some (eqi left 0,()):=rfl;by_cases hlt:t<l.length
 ·have hg:=zV hlt
  rw[if_pos (by rw[fq];omega),gZ hg,zD];by_cases h0:left=0
  ·rw[if_pos (fo.2 h0),k2,fo.2 h0,qb hI h0]
  ·rw[if_neg (fun e=>h0 (fo.1 e)),jS (by omega) (by omega)]
   obtain⟨f,t',e1,e2,e3,e4,e5⟩:=AU (x:=l[t]) (p:=p) (e:=p+(m:Int)) hp (by omega) (by omega) (ho _ (List.getElem_mem hlt));rw[e1,zD];refine abH _ hp (by omega) hlt hw e2 e3 e4 e5 (fun met left hI'=>?_) (fun e=>by rw[e]) met left hI;rw[jm (by omega)];exact ih _ ⟨t+1,met,left,rfl,by omega,hI'⟩ (by dsimp only;rw[bu];omega)
 ·have htl:t=l.length:=by omega
  subst htl;rw[if_neg (by rw[fq];omega),k2];by_cases h0:left=0
  ·rw[fo.2 h0,qb hI h0]
  ·rw[List.take_length]at hI
   rw[AV hI h0,show eqi left 0=false from decide_eq_false h0]
theorem abJ(u1:Int->Int->Int->List fV->Int->Int->Int->Int->List Bool->Option (As [.bool,.int .i64,.int .i64])){w:fV->Bool}{l:List fV}{p:Int}{m t:Nat}{r:As [.bool,.int .i64,.int .i64]}{o o2:Int}(hp:0≤p)(hpm:p+(m:Int)≤1000000000000)(ht:t<l.length)(hw:∀x,GZ (x,o,o2,())=some (w x,o,o2,())){f to':Int}(hf:p≤f)(hfe:f≤p+(m:Int))(hte:to'≤p+(m:Int))
  (hcov:∀i,p≤i->i<p+(m:Int)->(lJ l[t] i=true↔f≤i∧i<to')) (hR:∀met left,mq w l p m (fun i=>(iL (l.take (t+1)) i).isSome) met left->u1 p (m:Int) left l (l.length:Int) (add .i64 (t:Int) 1) o o2 met=some r) (hr:jl w l p m=false->r=(false,o,o2,()))
  (met:List Bool) (left:Int) (h:mq w l p m (fun i=>(iL (l.take t) i).isSome) met left) :
  FN u1 p (m:Int) left to' f l (l.length:Int) (t:Int) o o2 met l[t]=some r:=by
 rw[aDC]
 refine om (Inv:=fun s=>∃(i:Int) (met:List Bool) (left:Int),s=(p,(m:Int),left,to',i,l,(l.length:Int),(t:Int),o,o2,met,l[t])∧f≤i∧(i≤to'∨i=f)∧mq w l p m (fun j=>(iL (l.take t) j).isSome || (decide (f≤j) && decide (j<i))) met left)
  (μ:=fun s=>(to' - s.2.2.2.2.1).toNat) (G:=fun _=>some r) ?_ _ _ ⟨f,met,left,rfl,Int.le_refl _,.inr rfl,qF h fun k hk=>by
   have:(decide (f≤p+(k:Int)) && decide (p+(k:Int)<f))=false:=by
    by_cases hh:f≤p+(k:Int)
    ·rw[decide_eq_false (show ¬ (p+(k:Int)<f) by omega),Bool.and_false]
    ·rw[decide_eq_false hh,Bool.false_and]
   rw[this,Bool.or_false]⟩ (by dsimp only;omega)
 rintro self s ⟨i,met,left,rfl,hi1,hi2,hI⟩ ih;rw[aDB];unfold Qm;by_cases hlt:i<to'
 ·rw[if_pos (fq.2 hlt)]
  have hk:(i - p).toNat<m:=by omega
  have hki:p+(((i - p).toNat:Nat):Int)=i:=by omega
  have hs:sub .i64 i p=(((i - p).toNat:Nat):Int):=by rw[lQ (by omega) (by omega)];omega
  obtain⟨g1,g2⟩:=hI.2.2 _ hk;dsimp only at g1 g2;rw[hki]at g1 g2;have hdf:(decide (f≤i) && decide (i<i))=false:=by rw[decide_eq_false (show ¬ i<i by omega),Bool.and_false]
  rw[hdf,Bool.or_false]at g1 g2;have K4:∀left met,JO u1 (fun at' many left to' i t19 t20 t21 o o2 met x=>self (at',many,left,to',i,t19,t20,t21,o,o2,met,x)) p (m:Int) left to' i l (l.length:Int) (t:Int) o o2 met l[t]=self (p,(m:Int),left,to',i+1,l,(l.length:Int),(t:Int),o,o2,met,l[t]):=fun left met=>by unfold JO akI;rw[jS (by omega) (by omega)]
  have hcong:∀(k:Nat),k<m->∀b:Bool,b=(((iL (l.take t) (p+(k:Int))).isSome || (decide (f≤p+(k:Int)) && decide (p+(k:Int)<i))) || decide (p+(k:Int)=i))->((iL (l.take t) (p+(k:Int))).isSome || (decide (f≤p+(k:Int)) && decide (p+(k:Int)<i+1)))=b:=fun k hk b hc=>by
   rw[hc,Bool.or_assoc]
   congr 1
   rw[Bool.eq_iff_iff];simp only[Bool.or_eq_true,zO,decide_eq_true_eq];omega
  rw[hs,gZ g1];simp only[zD]
  cases hb:(iL (l.take t) i).isSome with
  | true =>
   rw[if_pos rfl,K4];refine ih _ ⟨i+1,met,left,rfl,by omega,.inl (by omega),qF hI (fun k hk=>hcong k hk _ ?_)⟩ (by dsimp only;omega);by_cases hki':p+(k:Int)=i
   ·rw[hki',hb,Bool.true_or,Bool.true_or]
   ·rw[decide_eq_false hki',Bool.or_false]
  | false =>
   rw[if_neg (by decide),hw,zD];dsimp only;have hnone:iL (l.take t) i=none:=by simpa using hb
   have hfirst:iL l i=some l[t]:=by have hc:=(hcov i (by omega) (by omega)).2 ⟨hi1,hlt⟩;have:=mX ht i;rw[hnone,hc]at this;exact vF this
   have hwf:mW w l i=w l[t]:=by unfold mW;rw[hfirst]
   cases hwx:w l[t]with
   | false =>
    rw[if_pos (by decide)];rw[hr (xL hk (by rw[hki,hwf,hwx]))]
   | true =>
    rw[if_neg (by decide)];have hset:=Ec hI hk (by rw[hki,hdf,Bool.or_false];exact hb) (by rw[hki,hwf,hwx]);rw[zQ,K4];have hl1:sub .i64 left 1=left - 1:=by have:=hI.2.1;have h2:=List.countP_le_length (p:=fun b:Bool=>!b) (l:=met);have h3:=hI.1;rw[lQ (by omega) (by omega)]
    rw[hl1];refine ih _ ⟨i+1,_,_,rfl,by omega,.inl (by omega),qF hset (fun k hk=>hcong k hk _ ?_)⟩ (by dsimp only;omega);rw[hki]
 ·rw[if_neg (fun e=>hlt (fq.1 e))]
  refine hR met left (qF hI fun k hk=>?_);have hc:=hcov (p+(k:Int)) (by omega) (by omega);rw[mX ht];have hcb:lJ l[t] (p+(k:Int))=(decide (f≤p+(k:Int)) && decide (p+(k:Int)<i)):=by rw[Bool.eq_iff_iff,hc];simp only[zO,decide_eq_true_eq];omega
  rw[<- hcb]
  cases hx:iL (l.take t) (p+(k:Int)) with
  | some y=>rfl
  | none =>
   cases lJ l[t] (p+(k:Int))<;>rfl
theorem abK{w:fV->Bool}{l:List fV}{p:Int}{m:Nat}(hp:0≤p)(hm:m≤1000000)(hpm:p≤1000000)(hl:l.length≤1000000)(ho:∀x∈l,uU x){o o2:Int}(hw:∀x,GZ (x,o,o2,())=some (w x,o,o2,())):Zz (l,p,(m:Int),o,o2,())=some (jl w l p m,o,o2,()):=by
 show Zy Qo l p (m:Int) o o2=_;unfold Zy;rw[fT (iK.2 (by omega)),fT (tO _),zQ,jJ (by omega)];rw[aDE]
 refine om (Inv:=fun s=>∃(t:Nat) (met:List Bool) (left:Int),s=(p,(m:Int),left,l,(l.length:Int),(t:Int),o,o2,met)∧t≤l.length∧mq w l p m (fun i=>(iL (l.take t) i).isSome) met left)
  (μ:=fun s=>(zF l.length - s.2.2.2.2.2.1).toNat) (G:=fun _=>some (jl w l p m,o,o2,())) ?_ _ _ ⟨0,_,_,rfl,Nat.zero_le _,Ms w l p m⟩ (by dsimp only;rw[bu];omega)
 rintro self s ⟨t,met,left,rfl,ht,hI⟩ ih;rw[aDD];unfold Ql;have k2:Qn left o o2=some (eqi left 0,o,o2,()):=rfl;by_cases hlt:t<l.length
 ·have hg:=zV hlt
  rw[if_pos (by rw[fq];omega),gZ hg,zD];by_cases h0:left=0
  ·rw[if_pos (fo.2 h0),k2,fo.2 h0,qb hI h0]
  ·rw[if_neg (fun e=>h0 (fo.1 e)),jS (by omega) (by omega)]
   obtain⟨f,t',e1,e2,e3,e4,e5⟩:=AU (x:=l[t]) (p:=p) (e:=p+(m:Int)) hp (by omega) (by omega) (ho _ (List.getElem_mem hlt));rw[e1,zD];refine abJ _ hp (by omega) hlt hw e2 e3 e4 e5 (fun met left hI'=>?_) (fun e=>by rw[e]) met left hI;rw[jm (by omega)];exact ih _ ⟨t+1,met,left,rfl,by omega,hI'⟩ (by dsimp only;rw[bu];omega)
 ·have htl:t=l.length:=by omega
  subst htl;rw[if_neg (by rw[fq];omega),k2];by_cases h0:left=0
  ·rw[fo.2 h0,qb hI h0]
  ·rw[List.take_length]at hI
   rw[AV hI h0,show eqi left 0=false from decide_eq_false h0]
theorem abL(u1:Int->Int->Int->List fV->Int->Int->Int->Int->List Bool->Option (As [.bool,.int .i64,.int .i64])){w:fV->Bool}{l:List fV}{p:Int}{m t:Nat}{r:As [.bool,.int .i64,.int .i64]}{o o2:Int}(hp:0≤p)(hpm:p+(m:Int)≤1000000000000)(ht:t<l.length)(hw:∀x,G4 (x,o,o2,())=some (w x,o,o2,())){f to':Int}(hf:p≤f)(hfe:f≤p+(m:Int))(hte:to'≤p+(m:Int))
  (hcov:∀i,p≤i->i<p+(m:Int)->(lJ l[t] i=true↔f≤i∧i<to')) (hR:∀met left,mq w l p m (fun i=>(iL (l.take (t+1)) i).isSome) met left->u1 p (m:Int) left l (l.length:Int) (add .i64 (t:Int) 1) o o2 met=some r) (hr:jl w l p m=false->r=(false,o,o2,()))
  (met:List Bool) (left:Int) (h:mq w l p m (fun i=>(iL (l.take t) i).isSome) met left) :
  FP u1 p (m:Int) left to' f l (l.length:Int) (t:Int) o o2 met l[t]=some r:=by
 rw[aDG]
 refine om (Inv:=fun s=>∃(i:Int) (met:List Bool) (left:Int),s=(p,(m:Int),left,to',i,l,(l.length:Int),(t:Int),o,o2,met,l[t])∧f≤i∧(i≤to'∨i=f)∧mq w l p m (fun j=>(iL (l.take t) j).isSome || (decide (f≤j) && decide (j<i))) met left)
  (μ:=fun s=>(to' - s.2.2.2.2.1).toNat) (G:=fun _=>some r) ?_ _ _ ⟨f,met,left,rfl,Int.le_refl _,.inr rfl,qF h fun k hk=>by
   have:(decide (f≤p+(k:Int)) && decide (p+(k:Int)<f))=false:=by
    by_cases hh:f≤p+(k:Int)
    ·rw[decide_eq_false (show ¬ (p+(k:Int)<f) by omega),Bool.and_false]
    ·rw[decide_eq_false hh,Bool.false_and]
   rw[this,Bool.or_false]⟩ (by dsimp only;omega)
 rintro self s ⟨i,met,left,rfl,hi1,hi2,hI⟩ ih;rw[aDF];unfold Qu;by_cases hlt:i<to'
 ·rw[if_pos (fq.2 hlt)]
  have hk:(i - p).toNat<m:=by omega
  have hki:p+(((i - p).toNat:Nat):Int)=i:=by omega
  have hs:sub .i64 i p=(((i - p).toNat:Nat):Int):=by rw[lQ (by omega) (by omega)];omega
  obtain⟨g1,g2⟩:=hI.2.2 _ hk;dsimp only at g1 g2;rw[hki]at g1 g2;have hdf:(decide (f≤i) && decide (i<i))=false:=by rw[decide_eq_false (show ¬ i<i by omega),Bool.and_false]
  rw[hdf,Bool.or_false]at g1 g2;have K4:∀left met,JV u1 (fun at' many left to' i t19 t20 t21 o o2 met x=>self (at',many,left,to',i,t19,t20,t21,o,o2,met,x)) p (m:Int) left to' i l (l.length:Int) (t:Int) o o2 met l[t]=self (p,(m:Int),left,to',i+1,l,(l.length:Int),(t:Int),o,o2,met,l[t]):=fun left met=>by unfold JV akU;rw[jS (by omega) (by omega)]
  have hcong:∀(k:Nat),k<m->∀b:Bool,b=(((iL (l.take t) (p+(k:Int))).isSome || (decide (f≤p+(k:Int)) && decide (p+(k:Int)<i))) || decide (p+(k:Int)=i))->((iL (l.take t) (p+(k:Int))).isSome || (decide (f≤p+(k:Int)) && decide (p+(k:Int)<i+1)))=b:=fun k hk b hc=>by
   rw[hc,Bool.or_assoc]
   congr 1
   rw[Bool.eq_iff_iff];simp only[Bool.or_eq_true,zO,decide_eq_true_eq];omega
  rw[hs,gZ g1];simp only[zD]
  cases hb:(iL (l.take t) i).isSome with
  | true =>
   rw[if_pos rfl,K4];refine ih _ ⟨i+1,met,left,rfl,by omega,.inl (by omega),qF hI (fun k hk=>hcong k hk _ ?_)⟩ (by dsimp only;omega);by_cases hki':p+(k:Int)=i
   ·rw[hki',hb,Bool.true_or,Bool.true_or]
   ·rw[decide_eq_false hki',Bool.or_false]
  | false =>
   rw[if_neg (by decide),hw,zD];dsimp only;have hnone:iL (l.take t) i=none:=by simpa using hb
   have hfirst:iL l i=some l[t]:=by have hc:=(hcov i (by omega) (by omega)).2 ⟨hi1,hlt⟩;have:=mX ht i;rw[hnone,hc]at this;exact vF this
   have hwf:mW w l i=w l[t]:=by unfold mW;rw[hfirst]
   cases hwx:w l[t]with
   | false =>
    rw[if_pos (by decide)];rw[hr (xL hk (by rw[hki,hwf,hwx]))]
   | true =>
    rw[if_neg (by decide)];have hset:=Ec hI hk (by rw[hki,hdf,Bool.or_false];exact hb) (by rw[hki,hwf,hwx]);rw[zQ,K4];have hl1:sub .i64 left 1=left - 1:=by have:=hI.2.1;have h2:=List.countP_le_length (p:=fun b:Bool=>!b) (l:=met);have h3:=hI.1;rw[lQ (by omega) (by omega)]
    rw[hl1];refine ih _ ⟨i+1,_,_,rfl,by omega,.inl (by omega),qF hset (fun k hk=>hcong k hk _ ?_)⟩ (by dsimp only;omega);rw[hki]
 ·rw[if_neg (fun e=>hlt (fq.1 e))]
  refine hR met left (qF hI fun k hk=>?_);have hc:=hcov (p+(k:Int)) (by omega) (by omega);rw[mX ht];have hcb:lJ l[t] (p+(k:Int))=(decide (f≤p+(k:Int)) && decide (p+(k:Int)<i)):=by rw[Bool.eq_iff_iff,hc];simp only[zO,decide_eq_true_eq];omega
  rw[<- hcb]
  cases hx:iL (l.take t) (p+(k:Int)) with
  | some y=>rfl
  | none =>
   cases lJ l[t] (p+(k:Int))<;>rfl
theorem abM{w:fV->Bool}{l:List fV}{p:Int}{m:Nat}(hp:0≤p)(hm:m≤1000000)(hpm:p≤1000000)(hl:l.length≤1000000)(ho:∀x∈l,uU x){o o2:Int}(hw:∀x,G4 (x,o,o2,())=some (w x,o,o2,())):ZF (l,p,(m:Int),o,o2,())=some (jl w l p m,o,o2,()):=by
 show ZE Qw l p (m:Int) o o2=_;unfold ZE;rw[fT (iK.2 (by omega)),fT (tO _),zQ,jJ (by omega)];rw[aDI]
 refine om (Inv:=fun s=>∃(t:Nat) (met:List Bool) (left:Int),s=(p,(m:Int),left,l,(l.length:Int),(t:Int),o,o2,met)∧t≤l.length∧mq w l p m (fun i=>(iL (l.take t) i).isSome) met left)
  (μ:=fun s=>(zF l.length - s.2.2.2.2.2.1).toNat) (G:=fun _=>some (jl w l p m,o,o2,())) ?_ _ _ ⟨0,_,_,rfl,Nat.zero_le _,Ms w l p m⟩ (by dsimp only;rw[bu];omega)
 rintro self s ⟨t,met,left,rfl,ht,hI⟩ ih;rw[aDH];unfold Qt;have k2:Qv left o o2=some (eqi left 0,o,o2,()):=rfl;by_cases hlt:t<l.length
 ·have hg:=zV hlt
  rw[if_pos (by rw[fq];omega),gZ hg,zD];by_cases h0:left=0
  ·rw[if_pos (fo.2 h0),k2,fo.2 h0,qb hI h0]
  ·rw[if_neg (fun e=>h0 (fo.1 e)),jS (by omega) (by omega)]
   obtain⟨f,t',e1,e2,e3,e4,e5⟩:=AU (x:=l[t]) (p:=p) (e:=p+(m:Int)) hp (by omega) (by omega) (ho _ (List.getElem_mem hlt));rw[e1,zD];refine abL _ hp (by omega) hlt hw e2 e3 e4 e5 (fun met left hI'=>?_) (fun e=>by rw[e]) met left hI;rw[jm (by omega)];exact ih _ ⟨t+1,met,left,rfl,by omega,hI'⟩ (by dsimp only;rw[bu];omega)
 ·have htl:t=l.length:=by omega
  subst htl;rw[if_neg (by rw[fq];omega),k2];by_cases h0:left=0
  ·rw[fo.2 h0,qb hI h0]
  ·rw[List.take_length]at hI
   rw[AV hI h0,show eqi left 0=false from decide_eq_false h0]
abbrev TCm:=Int×Int×Int×Int×Int
def mD(l:TLs):Prop:=(l.1=0∧l.2=0)∨(l.1≠0∧(1≤l.2∨l.2=-1))
instance (l:TLs):Decidable (mD l):=inferInstanceAs (Decidable (_∨_))
theorem AX(o:Int):Av (o,())=some ((o,-1),()):=rfl
theorem abN(l:TLs):ZY (l,())=some (decide (mD l),()):=by
 obtain⟨o,n⟩:=l;show alp (o,n)=_;unfold alp;simp only[AX,zD,fo,iK,Bool.and_true];by_cases h0:o=0
 ·rw[if_pos h0]
  congr 2
  rw[Bool.eq_iff_iff];simp[fo,mD,h0]
 ·rw[if_neg h0]
  by_cases h1:1≤n
  ·rw[if_pos h1]
   congr 2
   symm;rw[decide_eq_true_eq];exact Or.inr ⟨h0,Or.inl h1⟩
  ·rw[if_neg h1]
   have e:(zC (Av (o,())) fun y=>some (eqi o y.1.1 && eqi n y.1.2,()):Option (As [.bool]))=some (eqi o o && eqi n (-1),()):=rfl;refine Eq.trans e (congrArg (fun b=>some (b,())) ?_);rw[Bool.eq_iff_iff,zO,fo,fo,decide_eq_true_eq];constructor
   ·rintro⟨_,e⟩
    exact Or.inr ⟨h0,Or.inr e⟩
   ·rintro (⟨e,_⟩ | ⟨_,e | e⟩)
    ·omega
    ·omega
    omega
def anz(l:TLs):TLs:=if mD l then l else (0,0)
theorem Ed(l:TLs):Cy (l,())=some (anz l,()):=by show alr l=_;grind[alr,anz,abN,mD]
theorem xM{l:TLs}(h:mD l):anz l=l:=if_pos h
theorem wW{l:TLs}(h:mD l):tC (l,())=some (decide (l.1=0),()):=by
 show als l=_;unfold als;rw[Ed,zD,xM h,Bool.and_true]
 congr 2
 rw[Bool.eq_iff_iff];simp only[zO,fo,decide_eq_true_eq];grind[mD]
def lG(l:TLs)(o t:Int):TLs:=if l=(o,-1) then l else (o,t)
theorem anA{l:TLs}{o t:Int}(h:mD l)(ho:o≠0)(ht:1≤t)(hf:l.1=0∨l.1=o):al3 (l,o,t,())=some (lG l o t,0,()):=by
 obtain⟨l1,l2⟩:=l;show aaw al2 (l1,l2) o t=_;unfold aaw;rw[Ed,zD,xM h];dsimp only;rw[if_neg (fun e=>ho (fo.1 e)),rX,decide_eq_false (by omega)];show aau aax o t false (l1,l2) (0,0)=_;unfold aau;rw[if_neg (by decide),wW h,zD];have K2:∀b z,b=false->aax o t b (l1,l2) z=some (lG (l1,l2) o t,0,()):=fun b z hb=>by subst hb;show aav o t false (l1,l2) z=_;unfold aav lG;rw[if_neg (by decide),AX,zD];simp only[Bool.and_true,zO,fo,Prod.mk.injEq];grind
 by_cases h0:l1=0
 ·simp_all
 ·rw[if_pos (by grind)]
  refine K2 _ _ ?_;rw[Bool.eq_false_iff];simp_all[gP,absurd]
theorem anB{l:TLs}{o:Int}(h:mD l)(ho:o≠0)(hf:l.1=o):aaM (l,o,())=some ((o,-1),0,()):=by show amg l o=_;unfold amg;rw[Ed,zD,xM h];dsimp only;rw[if_neg (fun e=>ho (fo.1 e)),if_neg (fun e=>gP.1 e hf),AX,zD]
def sD(l:TLs):TLs×Bool:=if l.1=0∨l.2=-1 then (l,false) else if l.2=1 then ((0,0),true) else ((l.1,l.2 - 1),false)
def gV(x:bn):Bool:=decide (x.2.length≤14∧0≤x.1∧x.1≤63∧x.1+(x.2.length:Int)≤64)
theorem tQ{x:bn}(h:x.2.length≤1000000):sZ (x,())=some (gV x,()):=by
 obtain⟨p,w⟩:=x;show agV (p,w)=_;unfold agV gV;simp only[iO,iK,fq,bu]at h ⊢;by_cases h1:(w.length:Int)≤14
 ·rw[if_pos h1]
  by_cases h2:0≤p
  ·rw[if_pos h2]
   by_cases h3:p<64
   ·rw[if_pos h3,jS (by omega) (by omega),le_dec]
    grind
   grind
  grind
 grind
def zB:bn:=(0,[])
def nzB(hv:List Bool)(bs:List bn):List bn:=List.zipWith (fun h b=>if h=true then b else zB) hv bs
theorem y5{hv:List Bool}{bs:List bn}(h1:hv.length=8)(h2:bs.length=8):(nzB hv bs).length=8:=by simp_all[nzB,List.length_zipWith]
theorem He{hv:List Bool}{bs:List bn}{i:Nat}{h:Bool}{b:bn}(h1:hv[i]? = some h)(h2:bs[i]? = some b):(nzB hv bs)[i]? = some (if h=true then b else zB):=by simp_all[nzB,List.getElem?_zipWith]
theorem T7{α:Type}{xs ys:List α}(hl:xs.length=ys.length){i:Nat}{y:α}(h:ys[i]? = some y):(ys.take i++xs.drop i).set i y=ys.take (i+1)++xs.drop (i+1):=by grind[List.getElem?_eq_some_iff,List.take_add_one,List.drop_eq_getElem_cons,kB,List.append_assoc,List.singleton_append,adp]
def fQ(a:TAg):TAg:=(a.1,a.2.1,a.2.2.1,a.2.2.2.1,a.2.2.2.2.1,(a.2.2.2.2.2.1.1,a.2.2.2.2.2.1.2.1,nzB a.2.2.2.2.2.1.2.1 a.2.2.2.2.2.1.2.2),a.2.2.2.2.2.2)
structure SzA(a:TAg):Prop where
 bk:a.1.length≤1000
 hv:a.2.2.2.2.2.1.2.1.length=8
 bs:a.2.2.2.2.2.1.2.2.length=8
 bw:∀b∈a.2.2.2.2.2.1.2.2,b.2.length≤1000
theorem jM{α:Type}{xs:List α}{i:Nat}(h:i<xs.length):∃x,xs[i]? = some x:=⟨xs[i],zV h⟩
theorem Ee{a:TAg}(h:SzA a):FU (a,())=some (fQ a,()):=by
 obtain⟨bk,ls,ph,tx,la,⟨st,hv,bs⟩,tk⟩:=a;obtain⟨hk,h1,h2,h3⟩:=h;dsimp only at hk h1 h2 h3;show aar J7 (bk,ls,ph,tx,la,(st,hv,bs),tk)=_;unfold aar;rw[oZ (show bk.length≤1000000 by omega)];have hl:=y5 h1 h2;show J7 0 0 hv 0 [(bk,ls,ph,tx,la,(st,hv,bs),tk)] _=some ((bk,ls,ph,tx,la,(st,hv,nzB hv bs),tk),());unfold J7;refine nI (N:=8) (mk:=fun i=>(0,0,hv,(i:Int),[(bk,ls,ph,tx,la,(st,hv,(nzB hv bs).take i++bs.drop i),tk)],_)) ?_ ?_ 8 0 _ (by omega) (by omega)
 ·intro self i hi
  show J6 (QF _) _ 0 0 hv (i:Int) [(bk,ls,ph,tx,la,(st,hv,(nzB hv bs).take i++bs.drop i),tk)] _=self (0,0,hv,((i+1:Nat):Int),[(bk,ls,ph,tx,la,(st,hv,(nzB hv bs).take (i+1)++bs.drop (i+1)),tk)],_);obtain⟨x,hx⟩:=jM (xs:=hv) (i:=i) (by omega);obtain⟨b,hb⟩:=jM (xs:=bs) (i:=i) (by omega);have hm:at? ((nzB hv bs).take i++bs.drop i) (i:Int)=some b:=gZ (by grind);have hs:=T7 (xs:=bs) (ys:=nzB hv bs) (by omega) (He hx hb);unfold J6;have l8:lt (i:Int) 8=true:=fq.2 (by omega);have g0:ge (i:Int) 0=true:=iK.2 (by omega);have K2:∀y z,QF (fun a t2 t12 t13 a_2 t2_2=>self (a,t2,t12,t13,a_2,t2_2)) 0 0 (i:Int) hv (i:Int) [(bk,ls,ph,tx,la,(st,hv,(nzB hv bs).take i++bs.drop i),tk)] z y=self (0,0,hv,((i+1:Nat):Int),[(bk,ls,ph,tx,la,(st,hv,((nzB hv bs).take i++bs.drop i).set i y),tk)],z):=fun y z=>by show aaq _ _ _ _ _ _ _ _ _=_;grind[aaq,fT,jy,jm]
  rw[if_pos l8,fT l8,gZ hx,zD]
  cases x with
  | true =>
   rw[if_pos rfl,fT g0,fT l8,jy,zD];grind[fT,oZ,zY]
  | false =>
   rw[if_neg (by decide),K2,<- hs];rfl
 ·intro self
  show J6 (QF _) _ 0 0 hv (8:Int) [(bk,ls,ph,tx,la,(st,hv,(nzB hv bs).take 8++bs.drop 8),tk)] _=_;unfold J6;rw[if_neg (by decide)];have e1:(nzB hv bs).take 8++bs.drop 8=nzB hv bs:=by grind
  rw[e1];rfl
theorem anC(x:Int):IntKind.u32.wrap x=x%4294967296:=by rfl
theorem aDJ{x:Int}:shr .u32 x 16=x / 65536:=by
 unfold shr;have:min (16:Int).toNat IntKind.u32.bits=16:=by decide
 grind
theorem parts_eq{x:Int}(h0:0≤x)(h1:x≤4294967295):B5 (x,())=some (x / 65536,x%65536,()):=by show ahi x=_;grind[ahi,aDJ,AF]
theorem aDK{y:Int}(h0:0≤y)(h1:y≤65535):shl .u32 (cvt .u32 y) 16=65536*y:=by
 unfold cvt;rw[anC];unfold shl;have:min (16:Int).toNat IntKind.u32.bits=16:=by decide
 grind[anC]
theorem avb{a b:Int}(ha:0≤a)(ha2:a≤65535)(hb:0≤b)(hb':b≤65535):bor .u32 (65536*a) b=65536*a+b:=by
 obtain⟨n,rfl⟩:=zN ha;obtain⟨m,rfl⟩:=zN hb;unfold bor;rw[anC]
 have e1:(BitVec.ofInt IntKind.u32.bits (65536*(n:Int))).toNat=65536*n:=by
  rw[BitVec.toNat_ofInt];have:((2 ^ IntKind.u32.bits:Nat):Int)=4294967296:=by decide
  grind
 have e2:(BitVec.ofInt IntKind.u32.bits (m:Int)).toNat=m:=by
  rw[BitVec.toNat_ofInt];have:((2 ^ IntKind.u32.bits:Nat):Int)=4294967296:=by decide
  grind
 rw[BitVec.toNat_or,e1,e2];have e3:65536*n ||| m=65536*n+m:=by have:=Nat.two_pow_add_eq_or_of_lt (i:=16) (b:=m) (by omega) n;simp_all
 omega
theorem y7{a b:Int}(ha:0≤a)(ha2:a≤65535)(hb:0≤b)(hb':b≤65535):rT (a,b,())=some (65536*a+b,()):=by show aho a b=_;unfold aho;rw[aDK ha ha2,show cvt .u32 b=b from auS hb (by omega),avb ha ha2 hb hb']
theorem anD{st:Int}{hv:List Bool}{bs:List bn}(h:hv.length=8):J2 ((st,hv,bs),())=some (((hv.count true:Nat):Int),()):=by
 show QE 0 hv 0=_;unfold QE;refine (nI (N:=8) (mk:=fun i=>((((hv.take i).count true:Nat):Int),hv,(i:Int))) (r:=some (((hv.count true:Nat):Int),())) ?_ ?_ 8 0 _ (by omega) (by omega))
 ·intro self i hi
  show JZ _ (((hv.take i).count true:Nat):Int) hv (i:Int)=_;obtain⟨x,hx⟩:=jM (xs:=hv) (i:=i) (by omega);have l8:lt (i:Int) 8=true:=fq.2 (by omega);have hle:(hv.take i).count true≤8:=by grind[List.count_le_length,kB]
  have e:(hv.take (i+1)).count true=(hv.take i).count true+(if x=true then 1 else 0):=by grind[List.take_add_one]
  unfold JZ;rw[if_pos l8,fT l8,gZ hx,zD,jm (by omega),jm (by omega),e];grind
 ·intro self
  show JZ _ (((hv.take 8).count true:Nat):Int) hv (8:Int)=_;unfold JZ;rw[if_neg (by decide),List.take_of_length_le (by omega)]
theorem Ks{x:bn}(h:x.2.length≤1000):CB (x,())=some (x,()):=by show al6 x=_;grind[al6,oZ]
theorem number_eq(n:Int):Fv (n,())=some (decide (0≤n∧n≤7),()):=by
 show ahE n=_;unfold ahE;by_cases h:0≤n
 ·rw[if_pos (iK.2 h),rX]
  grind
 simp_all[if_neg,iK,decide_eq_false]
def itB(x:bn):List Int:=if gV x=true then x.1::(x.2.length:Int)::x.2++zE (14 - x.2.length) 0 else zE 16 0
theorem aq8(s:List Int->Option (As [.sl (.int .u16)]))(l:List Int):Xg s l=if lt (zF l.length) 16=true then need (small (l.length+1)) (s (l++[0])) else some (l,()):=rfl
theorem aq9:∀(k:Nat) (l:List Int) (n:Nat),l.length+k=16->k<n->cu (fun (self:List Int->Option (As [.sl (.int .u16)])) (s:List Int)=>Xg (fun l=>self l) s) n l=some (l++zE k 0,())
 | _,_,0,_,h=>by omega
 | 0,l,n+1,h,_=>by simp_all[nH,aq8,if_neg,fq,bu]
 | k+1,l,n+1,h,hn=>by rw[nH,aq8,if_pos (by grind[fq,bu]),jJ (by omega),aq9 k (l++[0]) n (by grind) (by omega),List.append_assoc];rfl
theorem C8{x:bn}(h:x.2.length≤1000):Fq (x,())=some (itB x,()):=by
 show Xh Xi x=_;unfold Xh itB;rw[tQ (by omega),zD];have K:∀(l:List Int) k,l.length+k=16->Xi l=some (l++zE k 0,()):=fun l k hk=>by show OG l=_;grind[OG,aq9]
 by_cases hf:gV x=true
 ·rw[if_pos hf,if_pos hf]
  have hf2:=of_decide_eq_true hf;grind[jJ,AF,bu,Int.emod_eq_of_lt]
 simp_all
theorem y8{x:bn}:(itB x).length=16:=by
 unfold itB;split
 ·rename_i h
  have:=of_decide_eq_true h;simp_all
 ·simp
def iB(o tx n:Int)(x:bn):List Int:=o::tx / 65536::tx%65536::n::itB x
theorem nk{o tx n:Int}{x:bn}:(iB o tx n x).length=20:=by simp_all[iB,y8]
theorem Le{o tx n:Int}{x:bn}(h0:0≤tx)(h1:tx≤4294967295)(hn:0≤n∧n≤7)(h:x.2.length≤1000):O0 (o,tx,n,x,())=some (iB o tx n x,()):=by show ahG o tx n x=_;unfold ahG;rw[parts_eq h0 h1,zD,jJ (by omega),C8 h,zD,jJ (by grind[y8]),show cvt .u16 n=n from abw hn.1 (by omega)];rfl
theorem adI{o tx n:Int}{x:bn}(h0:0≤tx)(h1:tx≤4294967295)(h:x.2.length≤1000) :
  XH (o,tx,n,x,())=some (if 0≤n∧n≤7 then if gV x=true then (iB o tx n x,0,()) else ([],20,()) else ([],2,())):=by
 show ahH o tx n x=_;unfold ahH;rw[number_eq,zD];by_cases hn:0≤n∧n≤7
 ·rw[if_neg (by grind),if_pos hn,tQ (by omega),zD]
  cases hf:gV x with
  | true=>rw[if_neg (by decide),Le h0 h1 hn h];rfl
  | false=>rfl
 grind
def kE(s:nZ)(o n:Int):List Int:=match s.2.1[n.toNat]?,s.2.2[n.toNat]? with
 | some true,some x=>iB o s.1 n x
 | _,_=>zE 20 0
theorem back_eq{s:nZ}{o n:Int}(h0:0≤s.1)(h1:s.1≤4294967295)(hn:0≤n∧n≤7)(hh:s.2.1.length=8)(hb:s.2.2.length=8)(hw:∀b∈s.2.2,b.2.length≤1000):aac (s,o,n,())=some (kE s o n,()):=by
 obtain⟨st,hv,bs⟩:=s;obtain⟨k,rfl⟩:=zN hn.1;show aab alD (st,hv,bs) o (k:Int)=_;unfold aab kE;rw[number_eq,zD,if_neg (by grind)];dsimp only at hh hb ⊢;obtain⟨x,hx⟩:=jM (xs:=hv) (i:=k) (by omega);obtain⟨b,hb'⟩:=jM (xs:=bs) (i:=k) (by omega);rw[gZ hx,zD,zQ,hx,hb'];show aaa o (k:Int) (st,hv,bs) (!x)=_;unfold aaa
 cases x with
 | true =>
  rw[if_neg (by decide)];grind[gZ,Le,zY]
 | false=>rfl
def rdB(w:List Int):Int×Int×Int×bn×Int :=
 if w.length≠20∨8≤w.getD 3 0 then (0,0,0,zB,2)
 else if 14<w.getD 5 0 then (0,0,0,zB,20)
 else if gV (w.getD 4 0,(w.drop 6).take (w.getD 5 0).toNat)=true∧itB (w.getD 4 0,(w.drop 6).take (w.getD 5 0).toNat)=w.drop 4 then (w.getD 0 0,65536*w.getD 1 0+w.getD 2 0,w.getD 3 0,(w.getD 4 0,(w.drop 6).take (w.getD 5 0).toNat),0)
 else (0,0,0,zB,20)
theorem anE{w:List Int}(hr:∀x∈w,0≤x∧x≤65535):Kb (w,())=some ((rdB w).1,(rdB w).2.1,(rdB w).2.2.1,(rdB w).2.2.2.1,(rdB w).2.2.2.2,()):=by
 show aa5 amG w=_;unfold aa5;by_cases hl:w.length=20
 ·rw[if_neg (fun e=>gP.1 e (by simp_all))]
  have g:∀k:Nat,k<20->at? w (k:Int)=some (w.getD k 0):=fun k hk=>by simp_all[jM,gZ,List.getD_eq_getElem?_getD]
  have rg:∀k:Nat,k<20->0≤w.getD k 0∧w.getD k 0≤65535:=fun k hk=>by simp_all
  have c64:∀k:Nat,k<20->cvt .i64 (w.getD k 0)=w.getD k 0:=fun k hk=>jr (by grind) (by grind);have g3:at? w 3=some (w.getD 3 0):=g 3 (by omega);have g4:at? w 4=some (w.getD 4 0):=g 4 (by omega);have g5:at? w 5=some (w.getD 5 0):=g 5 (by omega);have g0:at? w 0=some (w.getD 0 0):=g 0 (by omega);have g1:at? w 1=some (w.getD 1 0):=g 1 (by omega);have g2:at? w 2=some (w.getD 2 0):=g 2 (by omega);rw[g3,zD];show aa3 aa6 w (ge (w.getD 3 0) 8) 0=_;unfold aa3;by_cases h8:8≤w.getD 3 0
  ·rw[if_pos (iK.2 h8)]
   unfold rdB;rw[if_pos (Or.inr h8)];rfl
  ·rw[if_neg (fun e=>h8 (iK.1 e)),g4,zD,g5,zD]
   have c6:cut w 6 (zF w.length)=some (w.drop 6):=l7 (i:=6) (by omega);have c4:cut w 4 (zF w.length)=some (w.drop 4):=l7 (i:=4) (by omega);have l6:(w.drop 6).length=14:=by simp_all
   rw[c6,zD,c64 5 (by omega),c64 4 (by omega)];have r5:=rg 5 (by omega);have r4:=rg 4 (by omega);by_cases h14:14<w.getD 5 0
   ·rw[if_pos (jU.2 (by simp_all))]
    unfold rdB;rw[if_neg (by omega),if_pos h14];rfl
   ·rw[if_neg (fun e=>h14 (by simp_all[jU,bu]))]
    obtain⟨m,hm⟩:=zN r5.1;have cm:cut (w.drop 6) 0 (w.getD 5 0)=some ((w.drop 6).take m):=by grind[pW]
    rw[cm,zD,fT (iO.2 (Int.le_refl _)),fT (iO.2 (by simp_all))];have lm:((w.drop 6).take m).length=m:=by grind
    rw[Ks (by grind),zD];dsimp only;rw[tQ (by grind),zD];unfold rdB;rw[if_neg (show ¬ (w.length≠20∨8≤w.getD 3 0) by omega),if_neg h14,hm,zQ]
    have K2:∀b,aa6 w b 0 (w.getD 4 0,(w.drop 6).take m)=some (if b=true then (0,0,0,zB,20,()) else (w.getD 0 0,65536*w.getD 1 0+w.getD 2 0,w.getD 3 0,(w.getD 4 0,(w.drop 6).take m),0,())):=fun b=>by
     show aa4 w b 0 _=_;unfold aa4
     cases b with
     | true=>rfl
     | false =>
      have r1:=rg 1 (by omega);have r2:=rg 2 (by omega);rw[if_neg (by decide),if_neg (by decide),g0,zD,g1,zD,g2,zD,g3,zD,y7 r1.1 r1.2 r2.1 r2.2,zD,c64 3 (by omega)]
    cases hf:gV (w.getD 4 0,(w.drop 6).take m) with
    | false =>
     rfl
    | true =>
     rw[if_neg (by decide),c4,zD,C8 (by grind),zD];dsimp only;rw[C4 (by grind[y8]),zD,K2];grind
 ·rw[if_pos (gP.2 (by grind))]
  unfold rdB;rw[if_pos (Or.inl hl)];rfl
theorem F3{o tx n:Int}{x:bn}(hf:gV x=true):iB o tx n x=o::tx / 65536::tx%65536::n::x.1::(x.2.length:Int)::(x.2++zE (14 - x.2.length) 0):=by simp_all[iB,itB,if_pos]
theorem T8{o tx n:Int}{x:bn}(hf:gV x=true)(hn:n≤7):rdB (iB o tx n x)=(o,tx,n,x,0):=by
 obtain⟨p,w⟩:=x;have h2:=of_decide_eq_true hf;dsimp only at h2;have hl:=nk (o:=o) (tx:=tx) (n:=n) (x:=(p,w));have hd:(iB o tx n (p,w)).drop 4=itB (p,w):=rfl;have e:(w++zE (14 - w.length) (0:Int)).take w.length=w:=List.take_left' rfl;have k0:(iB o tx n (p,w)).getD 0 0=o:=rfl;have k1:(iB o tx n (p,w)).getD 1 0=tx / 65536:=rfl;have k2:(iB o tx n (p,w)).getD 2 0=tx%65536:=rfl;have k3:(iB o tx n (p,w)).getD 3 0=n:=rfl;have k4:(iB o tx n (p,w)).getD 4 0=p:=by grind[F3]
 have k5:(iB o tx n (p,w)).getD 5 0=(w.length:Int):=by grind[F3]
 have k6:(iB o tx n (p,w)).drop 6=w++zE (14 - w.length) 0:=by rw[F3 hf];rfl
 unfold rdB;grind
def F4(s:nZ)(k:Nat)(x:bn):nZ:=(s.1,s.2.1.set k true,nzB (s.2.1.set k true) (s.2.2.set k x))
theorem asy{s:nZ}{n:Int}{x:bn}(hh:s.2.1.length=8)(hb:s.2.2.length=8)(hw:∀b∈s.2.2,b.2.length≤1000)(hx:x.2.length≤1000) :
  aba (s,n,x,())=some (if 0≤n∧n≤7 then if gV x=true then (F4 s n.toNat x,0,()) else (zSt,20,()) else (zSt,2,())):=by
 obtain⟨st,hv,bs⟩:=s;dsimp only at hh hb hw;show aa9 QN (st,hv,bs) n x=_;unfold aa9;rw[number_eq,zD];by_cases hn:0≤n∧n≤7
 ·obtain⟨k,rfl⟩:=zN hn.1
  rw[decide_eq_true hn,if_neg (by decide),if_pos hn,tQ (by omega),zD]
  cases hf:gV x with
  | false =>
   rfl
  | true =>
   have g0:ge (k:Int) 0=true:=iK.2 (by omega);have l8:lt (k:Int) 8=true:=fq.2 (by omega);obtain⟨y,hy⟩:=jM (xs:=hv) (i:=k) (by omega);obtain⟨b,hb'⟩:=jM (xs:=bs) (i:=k) (by omega);rw[if_neg (by decide),if_pos rfl,fT g0,fT l8];dsimp only;rw[gZ hy,zD,fT g0,fT l8,gZ hb',zD,zQ];have hh2:(hv.set k true).length=8:=by simp_all
   have hb2:(bs.set k x).length=8:=by simp_all
   have hw2:∀c∈bs.set k x,c.2.length≤1000:=fun c hc=>by grind
   unfold F4;dsimp only;generalize hv.set k true=hv' at *;generalize bs.set k x=bs' at *;have hl:=y5 hh2 hb2;unfold QN;refine nI (N:=8) (mk:=fun i=>(0,0,hv',(i:Int),[(st,hv',(nzB hv' bs').take i++bs'.drop i)],_)) ?_ ?_ 8 0 _ (by omega) (by omega)
   ·intro self i hi
    show QM _ _ 0 0 hv' (i:Int) [(st,hv',(nzB hv' bs').take i++bs'.drop i)] _=self (0,0,hv',((i+1:Nat):Int),[(st,hv',(nzB hv' bs').take (i+1)++bs'.drop (i+1))],_);obtain⟨z,hz⟩:=jM (xs:=hv') (i:=i) (by omega);obtain⟨c,hc⟩:=jM (xs:=bs') (i:=i) (by omega);have hm:at? ((nzB hv' bs').take i++bs'.drop i) (i:Int)=some c:=gZ (by grind);have hs:=T7 (xs:=bs') (ys:=nzB hv' bs') (by omega) (He hz hc);have l8:lt (i:Int) 8=true:=fq.2 (by omega);have g0:ge (i:Int) 0=true:=iK.2 (by omega);unfold QM;rw[if_pos l8,fT l8,gZ hz,zD]
    cases z with
    | true =>
     rw[if_pos rfl,fT g0,fT l8,jy,zD];grind[Ks,zY,fT,jm]
    | false =>
     rw[if_neg (by decide),fT g0,fT l8,jy,zD];dsimp only;rw[hm,zD,jm (by omega),<- hs];rfl
   ·intro self
    show QM _ _ 0 0 hv' (8:Int) [(st,hv',(nzB hv' bs').take 8++bs'.drop 8)] _=_;have e1:(nzB hv' bs').take 8++bs'.drop 8=nzB hv' bs':=by grind
    rw[e1];rfl
 grind
def gY(hv:List Bool)(bs:List bn):List bn:=((hv.zip bs).filter (fun p=>p.1)).map (fun p=>p.2)
theorem adJ{hv:List Bool}{bs:List bn}{i:Nat}{x:Bool}{b:bn}(h1:hv[i]? = some x)(h2:bs[i]? = some b) :
  gY (hv.take (i+1)) (bs.take (i+1))=gY (hv.take i) (bs.take i)++(if x=true then [b] else []):=by
 have i1:=(List.getElem?_eq_some_iff.1 h1).1;have i2:=(List.getElem?_eq_some_iff.1 h2).1;unfold gY;rw[List.take_add_one,List.take_add_one,h1,h2];show (List.map _ (List.filter _ ((hv.take i++[x]).zip (bs.take i++[b]))))=_;rw[List.zip_append (by grind),List.filter_append,List.map_append];cases x<;>rfl
theorem Q9{hv:List Bool}{bs:List bn}{b:bn}(h:b∈gY hv bs):b∈bs:=by obtain⟨p,hp,rfl⟩:=List.mem_map.1 h;exact (List.of_mem_zip (List.mem_filter.1 hp).1).2
theorem Ku{hv:List Bool}{bs:List bn}:(gY hv bs).length≤hv.length:=by grind[gY,List.length_map,Nat.le_trans,List.length_filter_le,List.length_zip]
theorem Hf{s:nZ}(hh:s.2.1.length=8)(hb:s.2.2.length=8)(hw:∀b∈s.2.2,b.2.length≤1000):FW (s,())=some (gY s.2.1 s.2.2,()):=by
 obtain⟨st,hv,bs⟩:=s;dsimp only at hh hb hw ⊢;show QI (st,hv,bs) hv 0 []=_;unfold QI;refine nI (N:=8) (mk:=fun i=>((st,hv,bs),hv,(i:Int),gY (hv.take i) (bs.take i))) ?_ ?_ 8 0 _ (by omega) (by omega)
 ·intro self i hi
  show J8 _ (st,hv,bs) hv (i:Int) (gY (hv.take i) (bs.take i))=self ((st,hv,bs),hv,((i+1:Nat):Int),gY (hv.take (i+1)) (bs.take (i+1)));obtain⟨z,hz⟩:=jM (xs:=hv) (i:=i) (by omega);obtain⟨c,hc⟩:=jM (xs:=bs) (i:=i) (by omega);have l8:lt (i:Int) 8=true:=fq.2 (by omega);have hle:(gY (hv.take i) (bs.take i)).length≤8:=by grind[Ku,kB]
  rw[adJ hz hc];unfold J8;rw[if_pos l8,fT l8,gZ hz,zD]
  cases z with
  | true =>
   rw[if_pos rfl];grind[gZ,Ks,zY,jJ,jm]
  | false =>
   rw[if_neg (by decide),jm (by omega)];simp
 ·intro self
  show J8 _ (st,hv,bs) hv (8:Int) (gY (hv.take 8) (bs.take 8))=_;unfold J8;rw[if_neg (by decide),List.take_of_length_le (by omega),List.take_of_length_le (by omega)]
def shV(s:Int):Int:=if eqi (lW .u32 s 1) 1=true then iU .u32 (shr .u32 s 1) 3988292384 else shr .u32 s 1
theorem anF(s:Int):OH (s,())=some (shV s,()):=by show ag1 s=_;grind[ag1,shV]
def Ra(s b:Int):Int:=shV (shV (shV (shV (shV (shV (shV (shV (iU .u32 s (cvt .u32 b)))))))))
theorem asz(f:Int->Int->Option (As [.int .u32]))(s i:Int):OI f s i=if lt i 8=true then zC (OH (s,())) fun y=>f y.1 (add .i64 i 1) else some (s,()):=rfl
theorem asA(s b:Int):Mk (s,b,())=some (Ra s b,()):=by
 show OJ (iU .u32 s (cvt .u32 b)) 0=_;unfold Ra;generalize iU .u32 s (cvt .u32 b)=x;have st:∀n x (i:Int),lt i 8=true->cu (fun (self:Int×Int->Option (As [.int .u32])) (s:Int×Int)=>OI (fun a b=>self (a,b)) s.1 s.2) (n+1) (x,i)=cu (fun (self:Int×Int->Option (As [.int .u32])) (s:Int×Int)=>OI (fun a b=>self (a,b)) s.1 s.2) n (shV x,add .i64 i 1):=fun n x i h=>by rw[nH,asz,if_pos h,anF,zD]
 unfold OJ;rw[st _ _ _ (by rfl),st _ _ _ (by rfl),st _ _ _ (by rfl),st _ _ _ (by rfl),st _ _ _ (by rfl),st _ _ _ (by rfl),st _ _ _ (by rfl),st _ _ _ (by rfl)];rfl
def Kv(s:Int):Int:=((Xn s).getD (0,())).1
theorem anG(s:Int):0≤Kv s∧Kv s≤4294967295:=by grind[Kv,Xn,Int.natCast_nonneg,Int.ofNat_le,Nat.le_of_lt_succ,Nat.mod_lt]
theorem adK{b:List Int}(h:b.length≤1000000):ag8 (b,())=some (Kv (b.foldl Ra 4294967295),()):=by
 show OL b 4294967295 (zF b.length) 0=_;unfold OL;refine (pX (xs:=b) (mk:=fun i acc=>(b,acc,zF b.length,(i:Int))) (stp:=Ra) (fin:=fun acc=>some (Kv acc,())) (fun _ _=>True) ?_ (fun _ _ _ _ _=>trivial) ?_ b.length 0 4294967295 _ (by omega) (by omega) trivial)
 ·intro self i acc x hx _
  have hi:=(List.getElem?_eq_some_iff.1 hx).1;show Jg _ _ b acc (zF b.length) (i:Int)=_;unfold Jg;rw[if_pos (by grind[fq,bu]),gZ hx,zD,asA,zD,jm (by omega)]
 ·intro self acc _
  show Jg _ _ b acc (zF b.length) (b.length:Int)=_;unfold Jg;rw[if_neg (by grind[fq,bu])];rfl
theorem adL(l:List Int)(x:Int):(l++[x]).flatMap two=l.flatMap two++two x:=by simp
theorem SK{l:List Int}(h:l.length≤100000):ahc (l,())=some (l.flatMap two,()):=by
 show Xp OO l=_;unfold Xp;have e2:mul .i64 2 (zF l.length)=((2*l.length:Nat):Int):=by grind[bu,ou]
 rw[e2,fT (iK.2 (by omega)),fT (oz _),zQ,jJ (by omega)];unfold OO;have hz:zE (2*l.length) (0:Int)=(l.take 0).flatMap two++(zE (2*l.length) 0).drop 0:=by simp
 rw[hz];refine nI (N:=l.length) (mk:=fun i=>(l,zF l.length,(i:Int),(l.take i).flatMap two++(zE (2*l.length) 0).drop (2*i))) ?_ ?_ l.length 0 _ (by omega) (by omega)
 ·intro self i hi
  show OM _ l (zF l.length) (i:Int) ((l.take i).flatMap two++(zE (2*l.length) 0).drop (2*i))=self (l,zF l.length,((i+1:Nat):Int),(l.take (i+1)).flatMap two++(zE (2*l.length) 0).drop (2*(i+1)));obtain⟨x,hx⟩:=jM (xs:=l) (i:=i) (by omega);have lp:((l.take i).flatMap two).length=2*i:=by grind[yG,kB]
  have ed:(zE (2*l.length) (0:Int)).drop (2*i)=0::0::(zE (2*l.length) 0).drop (2*(i+1)):=by rw[List.drop_replicate,List.drop_replicate,show 2*l.length - 2*i=(2*l.length - 2*(i+1))+1+1 by omega];rfl
  have ei:(l.take (i+1)).flatMap two=(l.take i).flatMap two++two x:=by simp_all[List.take_add_one,adL]
  rw[ed,ei];unfold OM;have m2:mul .i64 2 (i:Int)=((2*i:Nat):Int):=by grind[ou]
  have m3:add .i64 ((2*i:Nat):Int) 1=((2*i+1:Nat):Int):=jm (by omega);generalize (l.take i).flatMap two=p at *;generalize (zE (2*l.length) (0:Int)).drop (2*(i+1))=q at *;have g1:at? (p++0::0::q) ((2*i:Nat):Int)=some 0:=gZ (by simp_all);have s1:∀y:Int,(p++0::0::q).set (2*i) y=p++y::0::q:=fun y=>by simp_all
  have g2:∀y:Int,at? (p++y::0::q) ((2*i+1:Nat):Int)=some 0:=fun y=>gZ (by simp_all);have s2:∀y z:Int,(p++y::0::q).set (2*i+1) z=p++y::z::q:=fun y z=>by simp_all
  rw[if_pos (by grind[fq,bu]),gZ hx,zD,zD,m2,g1,zD,zD,m3,zQ,zQ,s1,g2,zD,zD,s2,jm (by omega),uS,uS,abx _ _ (by decide),List.append_assoc];rfl
 simp_all[OM,zF,Int,two,zE,if_neg,fq,bu,List.take_length,List.drop_eq_nil_of_le]
def Kw(l:List Int):Int:=Kv ((l.flatMap two).foldl Ra 4294967295)
theorem Rb(l:List Int):0≤Kw l∧Kw l≤4294967295:=anG _
theorem SL{l:List Int}(h:l.length≤100000):Xq (l,())=some (Kw l,()):=by show ahd l=_;unfold ahd;rw[SK h,zD];dsimp only;rw[adK (by grind[yG])];rfl
def nM(l:List bn):Int:=Kw (l.flatMap itB)
theorem T9{l:List bn}(h:l.length≤1000)(hw:∀b∈l,b.2.length≤1000):Ji (l,())=some (nM l,()):=by
 show OQ l (zF l.length) 0 []=_;unfold OQ;have K2:∀all:List Int,all.length≤100000->ahh all=some (Kw all,()):=fun all ha=>by show Xt all=_;grind[Xt,SL]
 have hn:l.flatMap itB=[]++l.flatMap itB:=rfl;unfold nM;rw[hn,<- xD];refine (pX (xs:=l) (mk:=fun i acc=>(l,zF l.length,(i:Int),acc)) (stp:=fun o x=>o++itB x) (fin:=fun acc=>some (Kw acc,())) (fun i acc=>acc.length=16*i) ?_ ?_ ?_ l.length 0 [] _ (by omega) (by omega) rfl)
 ·intro self i acc x hx ha
  have hi:=(List.getElem?_eq_some_iff.1 hx).1;show Jh _ _ l (zF l.length) (i:Int) acc=_;unfold Jh;rw[if_pos (by grind[fq,bu]),gZ hx,zD,C8 (hw x (zY hx)),zD,jJ (by grind[y8]),jm (by omega)]
 ·grind[zZ,y8]
 ·intro self acc ha
  show Jh _ _ l (zF l.length) (l.length:Int) acc=_;unfold Jh;rw[if_neg (by grind[fq,bu]),K2 _ (by omega)]
def qJ(hv:List Bool)(n:Int):Bool:=decide (∀i:Nat,i<8->hv.getD i false=decide ((i:Int)<n))
theorem adM{s:nZ}{n c:Int}(hh:s.2.1.length=8)(hb:s.2.2.length=8)(hw:∀b∈s.2.2,b.2.length≤1000) :
  aaK (s,n,c,())=some (decide (0≤n∧n≤8) && (qJ s.2.1 n && decide (nM (gY s.2.1 s.2.2)=c)),()):=by
 have hblk:=Hf hh hb hw;obtain⟨st,hv,bs⟩:=s;dsimp only at hh hb hw hblk ⊢;show aaI aaJ (st,hv,bs) n c=_;unfold aaI;have K1t:aaJ n c (st,hv,bs) true=some (false,()):=rfl;by_cases h0:n<0
 ·simp_all[if_pos,fq,decide_eq_false]
 ·rw[if_neg (fun e=>h0 (fq.1 e))]
  by_cases h8:8<n
  ·grind[jU,decide_eq_false]
  ·rw[CR,decide_eq_false h8,decide_eq_true (show 0≤n∧n≤8 by omega),Bool.true_and]
   show QJ n c (st,hv,bs) hv 0=_;have K3:CF c (st,hv,bs)=some (decide (nM (gY hv bs)=c),()):=by show aaH c (st,hv,bs)=_;unfold aaH;rw[hblk,zD];dsimp only;rw[T9 (by grind[Ku]) (fun b hb=>hw b (Q9 hb)),zD];rfl
   unfold QJ
   have hg:∀k i m:Nat,i+k=8->k<m->cu (fun (self:Int×Int×nZ×List Bool×Int->Option (As [.bool])) (s:Int×Int×nZ×List Bool×Int)=>FX CF (fun count check s t16 t17=>self (count,check,s,t16,t17)) s.1 s.2.1 s.2.2.1 s.2.2.2.1 s.2.2.2.2) m (n,c,(st,hv,bs),hv,(i:Int))=some (decide (∀j:Nat,j<8->i≤j->hv.getD j false=decide ((j:Int)<n)) && decide (nM (gY hv bs)=c),()):=by
    intro k
    induction k with
    | zero =>
     intro i m hi hm;obtain⟨m,rfl⟩:∃q,m=q+1:=⟨m - 1,by omega⟩;have:i=8:=by omega
     subst this;rw[nH];show FX CF _ n c (st,hv,bs) hv (8:Int)=_;unfold FX;rw[if_neg (by decide),K3,decide_eq_true (p:=∀j:Nat,j<8->8≤j->hv.getD j false=decide ((j:Int)<n)) (fun j h1 h2=>by omega),Bool.true_and]
    | succ k ih =>
     intro i m hi hm;obtain⟨m,rfl⟩:∃q,m=q+1:=⟨m - 1,by omega⟩;have l8:lt (i:Int) 8=true:=fq.2 (by omega);obtain⟨x,hx⟩:=jM (xs:=hv) (i:=i) (by omega);have gx:hv.getD i false=x:=by simp_all
     rw[nH];show FX CF _ n c (st,hv,bs) hv (i:Int)=_;have u:∀f,FX CF f n c (st,hv,bs) hv (i:Int)=if lt (i:Int) 8=true then need (lt (i:Int) 8) (zC (at? hv (i:Int)) fun y=>if neb y (lt (i:Int) n)=true then some (false,()) else f n c (st,hv,bs) hv (add .i64 (i:Int) 1)) else CF c (st,hv,bs):=fun f=>rfl;rw[u,if_pos l8,fT l8,gZ hx,zD,rX];by_cases he:x=decide ((i:Int)<n)
     ·rw[if_neg (by rw[<- he];cases x<;>decide),jm (by omega),ih (i+1) m (by omega) (by omega)]
      refine congrArg (fun b=>some (b && _,())) ?_;grind
     ·rw[if_pos (by revert he;cases x<;>cases decide ((i:Int)<n)<;>decide),decide_eq_false (fun h=>he (by rw[<- gx];grind))]
      rfl
   have:=hg 8 0 18446744073709551616 rfl (by omega);refine this.trans ?_;refine congrArg (fun b=>some (b && _,())) ?_;unfold qJ;simp
def Eg(b:List Int)(x:bn):List Int:=b.take x.1.toNat++x.2++b.drop (x.1.toNat+x.2.length)
theorem Lf{b:List Int}{x:bn}(h:b.length=64)(hf:gV x=true):(Eg b x).length=64:=by have:=of_decide_eq_true hf;grind[Eg,zZ,kB,List.length_drop]
def uo(b:List Int)(l:List bn):List Int:=l.foldl Eg b
theorem Lg:∀{l:List bn} {b:List Int},b.length=64->(∀x∈l,gV x=true)->(uo b l).length=64
 | [],_,h,_=>h
 | x::r,b,h,hf=>Lg (l:=r) (Lf h (hf x (List.mem_cons_self ..))) (fun y hy=>hf y (zT _ hy))
theorem adN{b:List Int}{x:bn}{P:Int->Prop}(hb:∀y∈b,P y)(hx:∀y∈x.2,P y):∀y∈Eg b x,P y:=by grind[Eg,List.mem_of_mem_take,List.mem_of_mem_drop]
theorem Lh{P:Int->Prop}:∀{l:List bn} {b:List Int},(∀y∈b,P y)->(∀x∈l,∀y∈x.2,P y)->∀y∈uo b l,P y
 | [],_,h,_=>h
 | x::r,b,h,hf=>Lh (l:=r) (adN h (hf x (List.mem_cons_self ..))) (fun y hy=>hf y (zT _ hy))
theorem asB{l:List bn}(hl:l.length≤1000000)(hf:∀x∈l,gV x=true):Mm (l,())=some (true,()):=by
 have hi:amo (l,())=some (-1,()):=by
  show QL l (zF l.length) 0=_;unfold QL;refine nI (N:=l.length) (mk:=fun i=>(l,zF l.length,(i:Int))) ?_ ?_ l.length 0 _ (by omega) (by omega)
  ·intro self i hi
   obtain⟨x,hx⟩:=jM (xs:=l) (i:=i) hi;have hfx:=hf x (zY hx);have h2:=of_decide_eq_true hfx;have hz:aaP (x,())=some (false,()):=by show amj x=_;grind[amj,tQ]
   show QK _ l (zF l.length) (i:Int)=_;unfold QK;rw[if_pos (by grind[fq,bu]),gZ hx,zD,hz,zD,if_neg (by decide),jm (by omega)]
  simp_all[QK,zF,Int,if_neg,fq,bu]
 have hc:amr (l,())=some (false,()):=by show amq l=_;unfold amq;rw[hi];rfl
 show aaR l=_;simp_all[aaR]
theorem AY{s:List Int}(h:s.length≤1000000):Fa (s,())=some (s,()):=by
 show afP s=_;unfold afP;by_cases h0:s.length=0
 ·have:s=[]:=List.eq_nil_of_length_eq_zero h0
  subst this;rfl
 ·rw[if_neg (by grind[fo,bu]),jJ (by omega)]
theorem anH{b:List Int}{l:List bn}(hb:b.length=64)(hl:l.length≤1000000)(hf:∀x∈l,gV x=true):amw (b,l,())=some (uo b l,0,()):=by
 show aaT Ka b l=_;unfold aaT;rw[if_neg (fun e=>gP.1 e (by simp_all)),asB hl hf,zD,if_neg (by decide),AY (by omega),zD];show Ka l (zF l.length) 0 b=_;unfold Ka;refine (pX (xs:=l) (mk:=fun i acc=>(l,zF l.length,(i:Int),acc)) (stp:=Eg) (fin:=fun acc=>some (acc,0,())) (fun i acc=>acc.length=64) ?_ ?_ ?_ l.length 0 b _ (by omega) (by omega) hb)
 ·intro self i acc x hx ha
  have hi:=(List.getElem?_eq_some_iff.1 hx).1;have h2:=of_decide_eq_true (hf x (zY hx));show J9 _ _ l (zF l.length) (i:Int) acc=_;unfold J9;rw[if_pos (by grind[fq,bu]),gZ hx,zD,fT (iK.2 (by omega)),fT (iO.2 (by grind)),fT (iO.2 (Int.le_refl _)),fT (iO.2 (by omega)),jm (by omega)];have e:x.2.take (zI (zF acc.length - x.1))=x.2:=List.take_of_length_le (by grind);rw[e];rfl
 ·grind[Lf,zY]
 ·intro self acc ha
  show J9 _ _ l (zF l.length) (l.length:Int) acc=_;unfold J9;rw[if_neg (by grind[fq,bu])];rfl
structure OkG(a:TAg):Prop where
 bl:a.1.length=64
 bw:∀x∈a.1,0≤x∧x≤65535
 lr:mD a.2.1
 l1:0≤a.2.1.1∧a.2.1.1≤65535
 l2:a.2.1.2≤9223372036854775807
 pr:0≤a.2.2.1∧a.2.2.1≤2
 tr:0≤a.2.2.2.1∧a.2.2.2.1≤4294967295
 ar:0≤a.2.2.2.2.1∧a.2.2.2.2.1≤4294967295
 kr:1≤a.2.2.2.2.2.2∧a.2.2.2.2.2.2≤9223372036854775807
 hl:a.2.2.2.2.2.1.2.1.length=8
 sl:a.2.2.2.2.2.1.2.2.length=8
 bb:∀b∈a.2.2.2.2.2.1.2.2,b.2.length≤1000
 wb:∀b∈a.2.2.2.2.2.1.2.2,∀w∈b.2,0≤w∧w≤65535
 fb:∀b∈gY a.2.2.2.2.2.1.2.1 a.2.2.2.2.2.1.2.2,gV b=true
 p0:a.2.2.1=0->a.2.1.1=0∧a.2.2.2.1=0∧a.2.2.2.2.2.1.1=0∧a.2.2.2.2.2.1.2.1.count true=0
 pn:a.2.2.1≠0->a.2.1.1≠0∧a.2.2.2.2.1<a.2.2.2.1∧a.2.2.2.2.2.1.1=a.2.2.2.1
 p1:a.2.2.1=1->1≤a.2.1.2
 p2:a.2.2.1=2->a.2.1.2=-1∧qJ a.2.2.2.2.2.1.2.1 ((a.2.2.2.2.2.1.2.1.count true:Nat):Int)=true
theorem OkG.sz{a:TAg}(h:OkG a):SzA a:=⟨by have:=h.bl;omega,h.hl,h.sl,h.bb⟩
theorem Eh:∀(hv:List Bool) (bs:List bn),gY hv (nzB hv bs)=gY hv bs
 | [],_=>by rfl
 | _::_,[]=>by rfl
 | h::r,b::q=>by have ih:=Eh r q;unfold gY nzB at ih ⊢;rw[List.zipWith_cons_cons,List.zip_cons_cons,List.zip_cons_cons];grind
theorem Ei{hv:List Bool}{bs:List bn}{P:bn->Prop}(hz:P zB)(hp:∀b∈bs,P b):∀b∈nzB hv bs,P b:=by grind[nzB,List.getElem?_of_mem,zY]
theorem OkG.own{a:TAg}(h:OkG a):OkG (fQ a):=by
 obtain⟨bk,ls,ph,tx,la,⟨st,hv,bs⟩,tk⟩:=a
 exact { h with
  sl:=y5 h.hl h.sl
  bb:=Ei (P:=fun b=>b.2.length≤1000) (by show (0:Nat)≤1000;omega) h.bb
  wb:=Ei (P:=fun b=>∀w∈b.2,0≤w∧w≤65535) (by intro w hw;cases hw) h.wb
  fb:=by have:=h.fb;show ∀b∈gY hv (nzB hv bs),_;simp_all[Eh] }
def pG(a:TAg):TAg:=(a.1,(0,0),0,0,a.2.2.2.2.1,zSt,a.2.2.2.2.2.2)
def uG(a:TAg)(n c:Int):Bool:=decide (0≤n∧n≤8) && (qJ a.2.2.2.2.2.1.2.1 n && decide (nM (gY a.2.2.2.2.2.1.2.1 a.2.2.2.2.2.1.2.2)=c))
def doS(a:TAg)(c:TCm):TAg×Int :=
 if c.1=0∨c.2.2.1=0∨¬ (1≤c.2.1∧c.2.1≤4) then (a,2)
 else if a.2.1.1≠0∧a.2.1.1≠c.1 then (a,22)
 else if c.2.1=1 then
  if c.2.2.1≤a.2.2.2.2.1∨a.2.2.1≠0∧c.2.2.1<a.2.2.2.1 then (a,23)
  else if c.2.2.1=a.2.2.2.1 then ((a.1,lG a.2.1 c.1 a.2.2.2.2.2.2,a.2.2),0)
  else ((a.1,(c.1,a.2.2.2.2.2.2),1,c.2.2.1,a.2.2.2.2.1,(c.2.2.1,zSt.2),a.2.2.2.2.2.2),0)
 else if c.2.1=2 then
  if a.2.2.1=2∧a.2.2.2.1=c.2.2.1∨a.2.2.1=1∧a.2.2.2.1=c.2.2.1∧uG a c.2.2.2.1 c.2.2.2.2=true then ((a.1,(c.1,-1),2,a.2.2.2),0)
  else (a,23)
 else if c.2.1=3 then
  if a.2.2.2.2.1=c.2.2.1 then (a,0)
  else if a.2.2.1=2∧a.2.2.2.1=c.2.2.1 then (pG (uo a.1 (gY a.2.2.2.2.2.1.2.1 a.2.2.2.2.2.1.2.2),a.2.1,a.2.2.1,a.2.2.2.1,c.2.2.1,a.2.2.2.2.2),0)
  else (a,23)
 else
  if c.2.2.1≤a.2.2.2.2.1 then (a,23) else if a.2.1.1=c.1∧a.2.2.2.1=c.2.2.1 then (pG a,0) else (a,0)
theorem xN(a:TAg):Cz (a,())=some (pG a,()):=rfl
theorem Hg(a:TAg)(p t:Int):Aw (a,p,t,())=some (decide (a.2.2.1=p∧a.2.2.2.1=t),()):=by
 show aaA a p t=_;unfold aaA;by_cases h:a.2.2.1=p
 ·rw[if_pos (fo.2 h)]
  refine congrArg (fun b=>some (b,())) ?_;rw[Bool.eq_iff_iff,fo,decide_eq_true_eq];omega
 simp_all[if_neg,fo,decide_eq_false]
theorem Hl{a:TAg}(h:mD a.2.1)(o:Int):uR (a,o,())=some (decide (a.2.1.1≠0∧a.2.1.1≠o),()):=by
 show alV a o=_;unfold alV;rw[wW h,zD];by_cases h0:a.2.1.1=0
 ·simp_all
 ·rw[decide_eq_false h0,if_pos (by rfl)]
  refine congrArg (fun b=>some (b,())) ?_;rw[Bool.eq_iff_iff,gP,decide_eq_true_eq];omega
theorem C9{a:TAg}{o:Int}(h:mD a.2.1)(ho:o≠0)(ht:1≤a.2.2.2.2.2.2)(hf:a.2.1.1=0∨a.2.1.1=o):FV (a,o,())=some ((a.1,lG a.2.1 o a.2.2.2.2.2.2,a.2.2),()):=by show al4 a o=_;grind[al4,anA]
set_option maxHeartbeats 1000000 in
theorem avc{a:TAg}(h:OkG a){c:TCm}(hc:0≤c.2.2.2.1∧c.2.2.2.1≤65535):Ay (a,c,())=some ((doS (fQ a) c).1,(doS (fQ a) c).2,()):=by
 show aa1 a c=_;unfold aa1;have h':=h.own;rw[Ee h.sz,zD,tF (eqAs_refl _)];dsimp only;generalize fQ a=g at h';obtain⟨co,cv,ct,cc,ck⟩:=c;dsimp only at hc ⊢;have lr:=h'.lr;have kr:=h'.kr;rw[Hl lr,zD];unfold doS;dsimp only;by_cases hq:co=0∨ct=0∨¬ (1≤cv∧cv≤4)
 ·rw[if_pos hq]
  simp only[fo];by_cases h1:co=0
  ·simp[h1]
  ·by_cases h2:ct=0
   ·simp[h1,h2]
   ·have hv:¬ (1≤cv∧cv≤4):=by omega
    rw[if_neg (by omega),if_neg (by omega),if_neg (by omega),if_neg (by omega),if_neg h1,if_neg h2]
 ·rw[if_neg hq]
  have h1:co≠0:=by omega
  have h2:ct≠0:=by omega
  have hv:1≤cv∧cv≤4:=by omega
  simp only[fo,if_neg h1,if_neg h2];by_cases ho:g.2.1.1≠0∧g.2.1.1≠co
  ·rw[if_pos ho,decide_eq_true ho]
   simp only[if_true];split<;>first | rfl | skip
   split<;>first | rfl | skip
   split<;>first | rfl | skip
   split<;>first | rfl | skip
   omega
  ·rw[if_neg ho,decide_eq_false ho]
   simp only[Bool.false_eq_true,if_false];have hf:g.2.1.1=0∨g.2.1.1=co:=by omega
   by_cases v1:cv=1
   ·subst v1
    rw[if_pos rfl,if_pos rfl]
    have hn:aat (g,(co,1,ct,cc,ck),())=some (decide (ct≤g.2.2.2.2.1∨g.2.2.1≠0∧ct<g.2.2.2.1),()):=by
     show alW g (co,1,ct,cc,ck)=_;unfold alW;dsimp only;by_cases q1:ct≤g.2.2.2.2.1
     ·rw[if_pos (iO.2 q1),decide_eq_true (Or.inl q1)]
     ·rw[if_neg (fun e=>q1 (iO.1 e))]
      by_cases q2:g.2.2.1=0
      ·rw[if_neg (fun e=>gP.1 e q2),decide_eq_false (by omega)]
      ·rw[if_pos (gP.2 q2),rX]
       refine congrArg (fun b=>some (b,())) ?_;rw[Bool.eq_iff_iff,decide_eq_true_eq,decide_eq_true_eq];omega
    rw[hn,zD];by_cases q:ct≤g.2.2.2.2.1∨g.2.2.1≠0∧ct<g.2.2.2.1
    ·rw[if_pos q,decide_eq_true q]
     rfl
    ·rw[if_neg q,decide_eq_false q,if_neg (by decide)]
     have hcl:aay (g,(co,1,ct,cc,ck),())=some (if ct=g.2.2.2.1 then (g.1,lG g.2.1 co g.2.2.2.2.2.2,g.2.2) else (g.1,(co,g.2.2.2.2.2.2),1,ct,g.2.2.2.2.1,(ct,zSt.2),g.2.2.2.2.2.2),()):=by
      show al5 g (co,1,ct,cc,ck)=_;unfold al5;dsimp only;by_cases e:ct=g.2.2.2.1
      ·rw[if_pos (fo.2 e),if_pos e,C9 lr h1 kr.1 hf]
       rfl
      ·rw[if_neg (fun x=>e (fo.1 x)),if_neg e,xN,zD]
       have:=C9 (a:=pG g) (o:=co) (Or.inl ⟨rfl,rfl⟩) h1 kr.1 (Or.inl rfl);dsimp only;rw[this];have et:lG (0,0) co (pG g).2.2.2.2.2.2=(co,g.2.2.2.2.2.2):=by unfold lG;rw[if_neg (fun x=>h1 (by cases x))];rfl
       show some ((g.1,lG (0,0) co (pG g).2.2.2.2.2.2,1,ct,g.2.2.2.2.1,(ct,zSt.2),g.2.2.2.2.2.2),())=_;rw[et]
     rw[hcl,zD];split<;>rfl
   ·rw[if_neg (Ne.symm v1),if_neg v1]
    by_cases v2:cv=2
    ·subst v2
     rw[if_pos rfl,if_pos rfl]
     have hn:aaL (g,(co,2,ct,cc,ck),())=some (decide (¬ (g.2.2.1=2∧g.2.2.2.1=ct∨g.2.2.1=1∧g.2.2.2.1=ct∧uG g cc ck=true)),()):=by
      show amf g (co,2,ct,cc,ck)=_;unfold amf;dsimp only;rw[Hg,zD];by_cases q1:g.2.2.1=2∧g.2.2.2.1=ct
      ·rw[decide_eq_true q1,if_pos rfl,decide_eq_false (fun e=>e (Or.inl q1))]
      ·rw[decide_eq_false q1,if_neg (by decide),Hg,zD]
       by_cases q2:g.2.2.1=1∧g.2.2.2.1=ct
       ·rw[decide_eq_true q2,if_neg (by decide),jr (by omega) (by omega),adM h'.hl h'.sl h'.bb,zD]
        refine congrArg (fun b=>some (b,())) ?_;show (!uG g cc ck)=_
        cases hw:uG g cc ck with
        | true=>rw[decide_eq_false (fun e=>e (Or.inr ⟨q2.1,q2.2,rfl⟩))];rfl
        | false=>rw[decide_eq_true (by rintro (e | e);exact q1 e;exact Bool.false_ne_true e.2.2)];rfl
       ·rw[decide_eq_false q2,if_pos (by rfl),decide_eq_true (by rintro (e | e);exact q1 e;exact q2 ⟨e.1,e.2.1⟩)]
     rw[hn,zD];by_cases q:g.2.2.1=2∧g.2.2.2.1=ct∨g.2.2.1=1∧g.2.2.2.1=ct∧uG g cc ck=true
     ·rw[if_pos q,decide_eq_false (fun e=>e q),if_neg (by decide)]
      have hph:g.2.2.1≠0:=by rcases q with q | q<;>omega
      have hown:g.2.1.1=co:=by have:=(h'.pn hph).1;omega
      have hp:aaN (g,(co,2,ct,cc,ck),())=some ((g.1,(co,-1),2,g.2.2.2),()):=by show amh g (co,2,ct,cc,ck)=_;unfold amh;dsimp only;rw[anB lr h1 hown];rfl
      rw[hp];rfl
     ·rw[if_neg q,decide_eq_true q]
      rfl
    ·rw[if_neg (Ne.symm v2),if_neg v2]
     by_cases v3:cv=3
     ·subst v3
      rw[if_pos rfl,if_pos rfl]
      have hn:aaO (g,(co,3,ct,cc,ck),())=some (decide (g.2.2.2.2.1≠ct∧¬ (g.2.2.1=2∧g.2.2.2.1=ct)),()):=by
       show ami g (co,3,ct,cc,ck)=_;unfold ami;dsimp only;by_cases q1:g.2.2.2.2.1=ct
       ·rw[if_neg (fun e=>gP.1 e q1),decide_eq_false (fun e=>e.1 q1)]
       ·rw[if_pos (gP.2 q1),Hg,zD]
        refine congrArg (fun b=>some (b,())) ?_;by_cases q2:g.2.2.1=2∧g.2.2.2.1=ct
        ·rw[decide_eq_true q2,decide_eq_false (fun e=>e.2 q2)];rfl
        ·rw[decide_eq_false q2,decide_eq_true ⟨q1,q2⟩];rfl
      rw[hn,zD]
      have hcm:g.2.2.2.2.1=ct∨(g.2.2.1=2∧g.2.2.2.1=ct)->aaU (g,(co,3,ct,cc,ck),())=some (if g.2.2.2.2.1=ct then g else pG (uo g.1 (gY g.2.2.2.2.2.1.2.1 g.2.2.2.2.2.1.2.2),g.2.1,g.2.2.1,g.2.2.2.1,ct,g.2.2.2.2.2),()):=fun _=>by
       show amx g (co,3,ct,cc,ck)=_;unfold amx;dsimp only;by_cases q1:g.2.2.2.2.1=ct
       ·rw[if_pos (fo.2 q1),if_pos q1]
       ·rw[if_neg (fun e=>q1 (fo.1 e)),if_neg q1,Hf h'.hl h'.sl h'.bb,zD]
        dsimp only;rw[anH h'.bl (by have:=Ku (hv:=g.2.2.2.2.2.1.2.1) (bs:=g.2.2.2.2.2.1.2.2);have:=h'.hl;omega) h'.fb,zD];dsimp only;rw[if_neg (by decide),xN];rfl
      by_cases q1:g.2.2.2.2.1=ct
      ·rw[decide_eq_false (fun e=>e.1 q1),if_neg (by decide),hcm (Or.inl q1),if_pos q1,if_pos q1]
       rfl
      ·by_cases q2:g.2.2.1=2∧g.2.2.2.1=ct
       ·rw[decide_eq_false (fun e=>e.2 q2),if_neg (by decide),hcm (Or.inr q2),if_neg q1,if_neg q1,if_pos q2]
        rfl
       ·rw[decide_eq_true ⟨q1,q2⟩,if_neg q1,if_neg q2]
        rfl
     ·have v4:cv=4:=by omega
      subst v4;rw[if_neg (by decide),if_pos rfl,if_neg v3];have hn:aaV (g,(co,4,ct,cc,ck),())=some (decide (ct≤g.2.2.2.2.1),()):=rfl;rw[hn,zD];by_cases q1:ct≤g.2.2.2.2.1
      ·rw[decide_eq_true q1,if_pos q1]
       rfl
      ·rw[decide_eq_false q1,if_neg (by decide),if_neg q1]
       have ha:aaZ (g,(co,4,ct,cc,ck),())=some (if g.2.1.1=co∧g.2.2.2.1=ct then pG g else g,()):=by
        show aaX aaY g (co,4,ct,cc,ck)=_;unfold aaX;dsimp only;have K:∀b z,aaY g 0 b [z]=some (if b=true then g else pG g,()):=fun b z=>by show aaW g 0 b [z]=_;unfold aaW;cases b<;>rfl
        by_cases e1:g.2.1.1=co
        ·rw[if_neg (fun e=>gP.1 e e1),K]
         by_cases e2:g.2.2.2.1=ct
         ·rw[if_neg (fun e=>gP.1 e e2),if_pos ⟨e1,e2⟩]
         ·rw[if_pos (gP.2 e2),if_neg (fun e=>e2 e.2)]
        ·rw[if_pos (gP.2 e1),K,if_pos rfl,if_neg (fun e=>e1 e.1)]
       rw[ha,zD];by_cases e:g.2.1.1=co∧g.2.2.2.1=ct
       ·rw[if_pos e,if_pos e]
        rfl
       ·rw[if_neg e,if_neg e]
        rfl
def putA(a:TAg)(o t n:Int)(x:bn):TAg×Int :=
 if o=0∨t=0 then (a,2) else if a.2.1.1≠0∧a.2.1.1≠o then (a,22) else if ¬ (a.2.2.1=1∧a.2.2.2.1=t) then (a,23)
 else ((a.1,lG a.2.1 o a.2.2.2.2.2.2,a.2.2.1,a.2.2.2.1,a.2.2.2.2.1,F4 a.2.2.2.2.2.1 n.toNat x,a.2.2.2.2.2.2),0)
theorem asC{a:TAg}(h:OkG a){o t n:Int}{x:bn}(hn:0≤n∧n≤7)(hf:gV x=true):Az (a,o,t,n,x,())=some ((putA (fQ a) o t n x).1,(putA (fQ a) o t n x).2,()):=by
 show abe abf a o t n x=_;unfold abe;have h':=h.own;rw[Ee h.sz,zD];dsimp only;generalize fQ a=g at h';have lr:=h'.lr;have kr:=h'.kr;have hx:x.2.length≤1000:=by have:=of_decide_eq_true hf;omega
 have K:∀b z,abf o t n 0 0 b [g] x [z]=some (if b=true then (g,2,()) else ((putA g o t n x).1,(putA g o t n x).2,()))∨¬ (b=true↔(o=0∨t=0)):=fun b z=>by
  by_cases hb:b=true↔(o=0∨t=0)
  ·left
   show abd o t n 0 0 b [g] x [z]=_;unfold abd
   cases b with
   | true=>rfl
   | false =>
    rw[if_neg (by decide),if_neg (by decide)];have h0:¬ (o=0∨t=0):=fun e=>Bool.false_ne_true (hb.2 e);unfold putA;rw[if_neg h0];rw[jy,zD,Hl lr,zD];by_cases q1:g.2.1.1≠0∧g.2.1.1≠o
    ·rw[decide_eq_true q1,if_pos q1]
     rfl
    ·rw[decide_eq_false q1,if_neg (by decide),if_neg q1,zD,Hg,zD]
     by_cases q2:g.2.2.1=1∧g.2.2.2.1=t
     ·rw[decide_eq_true q2,if_neg (by decide),if_neg (fun e=>e q2),zD,asy h'.hl h'.sl h'.bb hx,if_pos hn,if_pos hf,zD]
      dsimp only;rw[if_neg (by decide),zD];have:=C9 (a:=(g.1,g.2.1,g.2.2.1,g.2.2.2.1,g.2.2.2.2.1,F4 g.2.2.2.2.2.1 n.toNat x,g.2.2.2.2.2.2)) (o:=o) lr (by omega) kr.1 (by dsimp only;omega);show zC (FV ((g.1,g.2.1,g.2.2.1,g.2.2.2.1,g.2.2.2.2.1,F4 g.2.2.2.2.2.1 n.toNat x,g.2.2.2.2.2.2),o,())) _=_;rw[this];rfl
     ·rw[decide_eq_false q2,if_pos (by rfl),if_pos q2]
      rfl
  ·exact Or.inr hb
 have p2:o=0∨t=0->putA g o t n x=(g,2):=fun e=>if_pos e;by_cases ho:o=0
 ·rw[if_pos (fo.2 ho)]
  rcases K true _ with e | e
  ·rw[e,if_pos rfl,p2 (Or.inl ho)]
  ·exact absurd ⟨fun _=>Or.inl ho,fun _=>rfl⟩ e
 ·rw[if_neg (fun e=>ho (fo.1 e))]
  rcases K (eqi t 0) ([],(0,0),0,0,0,zSt,0) with e | e
  ·refine e.trans ?_
   by_cases ht:t=0
   ·rw[if_pos (fo.2 ht),p2 (Or.inr ht)]
   ·rw[if_neg (fun e=>ht (fo.1 e))]
  ·exact absurd ⟨fun x=>Or.inr (fo.1 x),fun x=>fo.2 (x.resolve_left ho)⟩ e
def tickA(a:TAg):TAg:=if (sD a.2.1).2=true then pG a else (a.1,(sD a.2.1).1,a.2.2)
def bootA(a:TAg):TAg:=if a.2.2.1=1 then pG a else a
def iq(a:TAg):List Int:=[a.2.1.1,a.2.2.1,a.2.2.2.1 / 65536,a.2.2.2.1%65536,a.2.2.2.2.1 / 65536,a.2.2.2.2.1%65536,((a.2.2.2.2.2.1.2.1.count true:Nat):Int),0]
theorem abO{a:TAg}(h:OkG a):gX (a,())=some (iq a,()):=by
 obtain⟨bk,ls,ph,tx,la,⟨st,hv,bs⟩,tk⟩:=a;have lr:=h.lr;have pr:=h.pr;have tr:=h.tr;have ar:=h.ar;have hl:=h.hl;dsimp only at lr pr tr ar hl;show Z7 Z8 (bk,ls,ph,tx,la,(st,hv,bs),tk)=_;unfold Z7;have hc:hv.count true≤8:=by have:=List.count_le_length (a:=true) (l:=hv);omega
 have K:∀o,Z8 (bk,ls,ph,tx,la,(st,hv,bs),tk) o=some ([o,ph,tx / 65536,tx%65536,la / 65536,la%65536,((hv.count true:Nat):Int),0],()):=fun o=>by show Z6 _ o=_;unfold Z6;dsimp only;rw[parts_eq tr.1 tr.2,zD,parts_eq ar.1 ar.2,zD,anD hl,zD,show cvt .u16 ph=ph from abw pr.1 (by omega),show cvt .u16 ((hv.count true:Nat):Int)=_ from abw (by omega) (by omega)]
 rw[wW lr,zD];dsimp only;by_cases e:ls.1=0
 ·rw[decide_eq_true e,if_pos rfl,K]
  unfold iq;dsimp only;rw[e]
 ·rw[decide_eq_false e,if_neg (by decide),K]
  rfl
def zAg(b:List Int)(t:Int):TAg:=(b,(0,0),0,0,0,zSt,t)
theorem asD{b:List Int}{t:Int}(hb:b.length≤1000000):V3 (b,t,())=some (if b.length=64 then if 1≤t then (zAg b t,0,()) else (zAg [] 0,2,()) else (zAg [] 0,21,())):=by
 show afQ b t=_;unfold afQ;by_cases h:b.length=64
 ·rw[if_neg (fun e=>gP.1 e (by simp_all)),if_pos h]
  by_cases h1:1≤t
  ·rw[if_neg (fun e=>by grind[fq]),if_pos h1,oZ hb]
   rfl
  ·rw[if_pos (fq.2 (by omega)),if_neg h1]
   rfl
 ·rw[if_pos (gP.2 (by grind)),if_neg h]
  rfl
theorem adO:gY zSt.2.1 zSt.2.2=[]:=rfl
theorem Ej{bk:List Int}{la tk:Int}(bl:bk.length=64)(bw:∀x∈bk,0≤x∧x≤65535)(ar:0≤la∧la≤4294967295)(kr:1≤tk∧tk≤9223372036854775807):OkG (bk,(0,0),0,0,la,zSt,tk) where
 bl:=bl
 bw:=bw
 lr:=Or.inl ⟨rfl,rfl⟩
 l1:=⟨by simp,by simp⟩
 l2:=by simp
 pr:=⟨by simp,by simp⟩
 tr:=⟨by simp,by simp⟩
 ar:=ar
 kr:=kr
 hl:=rfl
 sl:=rfl
 bb:=by simp
 wb:=by simp
 fb:=fun b hb=>by simp_all[gY,adO]
 p0:=fun _=>⟨rfl,rfl,rfl,rfl⟩
 pn:=fun e=>absurd rfl e
 p1:=fun e=>absurd e (by simp)
 p2:=fun e=>absurd e (by simp)
theorem OkG.free{a:TAg}(h:OkG a):OkG (pG a):=Ej h.bl h.bw h.ar h.kr
theorem OkG.doS{a:TAg}(h:OkG a){c:TCm}(h1:0≤c.1∧c.1≤65535)(h3:0≤c.2.2.1∧c.2.2.1≤4294967295)(hc:0≤c.2.2.2.1∧c.2.2.2.1≤65535):OkG (doS a c).1:=by
 unfold Lx.doS;split
 ·exact h
 ·rename_i q0
  split
  ·exact h
  ·rename_i q1
   split
   ·split
    ·exact h
    ·rename_i q2
     split
     ·rename_i q3
      have hp:a.2.2.1≠0:=fun e=>by have:=(h.p0 e).2.1;omega
      have hn:=h.pn hp;have hown:a.2.1.1=c.1:=by omega
      have hph:a.2.2.1=1∨a.2.2.1=2:=by have:=h.pr;omega
      have hkr:=h.kr;rcases hph with e | e
      ·have ht:lG a.2.1 c.1 a.2.2.2.2.2.2=(c.1,a.2.2.2.2.2.2):=by unfold lG;rw[if_neg];intro x;have:=h.p1 e;simp_all
       rw[ht];exact { h with lr:=Or.inr ⟨by simp_all,Or.inl hkr.1⟩,l1:=h1,l2:=hkr.2,p0:=fun x=>absurd x hp,pn:=fun _=>⟨by simp_all,hn.2⟩,p1:=fun _=>hkr.1,p2:=fun x=>absurd (e.symm.trans x) (by decide) }
      ·have ht:lG a.2.1 c.1 a.2.2.2.2.2.2=a.2.1:=by unfold lG;rw[if_pos];exact Prod.ext hown (h.p2 e).1
       simp_all
     ·rename_i q3
      have hkr:=h.kr;have har:=h.ar;exact { Ej h.bl h.bw h.ar h.kr with lr:=Or.inr ⟨by simp_all,Or.inl hkr.1⟩,l1:=h1,l2:=hkr.2,pr:=⟨by simp,by simp⟩,tr:=h3,p0:=fun x=>absurd x (show (1:Int)≠0 by decide),pn:=fun _=>⟨by simp_all,by simp_all,rfl⟩,p1:=fun _=>hkr.1,p2:=fun x=>absurd x (show (1:Int)≠2 by decide) }
   ·split
    ·split
     ·rename_i q2
      have hp:a.2.2.1≠0:=fun e=>by omega
      have hn:=h.pn hp;refine { h with lr:=Or.inr ⟨by simp_all,Or.inr rfl⟩,l1:=h1,l2:=by simp,pr:=⟨by simp,by simp⟩,p0:=fun x=>absurd x (show (2:Int)≠0 by decide),pn:=fun _=>⟨by simp_all,hn.2⟩,p1:=fun x=>absurd x (show (2:Int)≠1 by decide),p2:=fun _=>⟨rfl,?_⟩ };rcases q2 with q2 | q2
      ·exact (h.p2 q2.1).2
      ·have hw:=q2.2.2
       unfold uG at hw;rw[zO,zO,decide_eq_true_eq]at hw;have hf:=of_decide_eq_true hw.2.1;have hl:=h.hl
       have hcnt:((a.2.2.2.2.2.1.2.1.count true:Nat):Int)=c.2.2.2.1:=by
        obtain⟨n,hn'⟩:=zN hw.1.1;rw[hn']at hf ⊢;have hv8:a.2.2.2.2.2.1.2.1=(List.range 8).map (fun (i:Nat)=>decide ((i:Int)<(n:Int))):=by apply List.ext_getElem?;grind
        have hn8:n≤8:=by omega
        rw[hv8];have:n=0∨n=1∨n=2∨n=3∨n=4∨n=5∨n=6∨n=7∨n=8:=by omega
        rcases this with rfl | rfl | rfl | rfl | rfl | rfl | rfl | rfl | rfl<;>rfl
       simp_all
     omega
    ·split
     ·split
      ·exact h
      ·split
       ·exact Ej (Lg h.bl h.fb) (Lh (P:=fun y=>0≤y∧y≤65535) h.bw (fun x hx=>h.wb x (Q9 hx))) h3 h.kr
       omega
     ·split
      ·exact h
      ·split
       ·exact h.free
       omega
theorem Rc{α:Type}{P:α->Prop}{xs:List α}{k:Nat}{x:α}(h:∀y∈xs,P y)(hx:P x):∀y∈xs.set k x,P y:=fun y hy=>by grind
theorem Rf{P:bn->Prop}{x:bn}(hx:P x):∀{hv:List Bool} {bs:List bn} (k:Nat),(∀b∈gY hv bs,P b)->∀b∈gY (hv.set k true) (bs.set k x),P b
 | [],bs,k,_=>by simp_all[gY]
 | h::r,[],k,_=>by simp_all[gY]
 | h::r,c::q,0,hp=>by intro b hb;rw[List.set_cons_zero,List.set_cons_zero]at hb;unfold gY at hb hp;rw[List.zip_cons_cons,List.filter_cons,if_pos rfl,List.map_cons]at hb;grind[List.zip_cons_cons,zT]
 | h::r,c::q,k+1,hp=>by
  intro b hb;rw[List.set_cons_succ,List.set_cons_succ]at hb;have hr:∀b∈gY r q,P b:=fun b hb=>hp b (by grind[gY,List.zip_cons_cons,zT]);have ih:=Rf hx k hr;unfold gY at hb hp ih;rw[List.zip_cons_cons,List.filter_cons]at hb
  cases h with
  | true =>
   rw[if_pos rfl,List.map_cons]at hb;rcases List.mem_cons.1 hb with e | e
   ·simp_all
   simp_all
  | false=>simp_all
theorem OkG.putA{a:TAg}(h:OkG a){o t n:Int}{x:bn}(ho:0≤o∧o≤65535)(hf:gV x=true)(hw:∀w∈x.2,0≤w∧w≤65535):OkG (putA a o t n x).1:=by
 have hx:x.2.length≤1000:=by have:=of_decide_eq_true hf;omega
 unfold Lx.putA;split
 ·exact h
 ·rename_i q0
  split
  ·exact h
  ·rename_i q1
   split
   ·exact h
   ·rename_i q2
    have q2:=Classical.not_not.1 q2;have hkr:=h.kr;have hp:a.2.2.1≠0:=by omega
    have hn:=h.pn hp;have ht:lG a.2.1 o a.2.2.2.2.2.2=(o,a.2.2.2.2.2.2):=by unfold lG;rw[if_neg];intro e;have:=h.p1 q2.1;simp_all
    rw[ht];have hbs:∀b∈a.2.2.2.2.2.1.2.2.set n.toNat x,b.2.length≤1000:=Rc (P:=fun (b:bn)=>b.2.length≤1000) h.bb hx;have hws:∀b∈a.2.2.2.2.2.1.2.2.set n.toNat x,∀w∈b.2,0≤w∧w≤65535:=Rc (P:=fun (b:bn)=>∀w∈b.2,0≤w∧w≤65535) h.wb hw;have hhl:=h.hl;have hsl:=h.sl
    exact { h with
     lr:=Or.inr ⟨by simp_all,Or.inl hkr.1⟩
     l1:=ho
     l2:=hkr.2
     hl:=by show (a.2.2.2.2.2.1.2.1.set n.toNat true).length=8;simp_all
     sl:=y5 (by simp_all) (by simp_all)
     bb:=Ei (P:=fun b=>b.2.length≤1000) (by show (0:Nat)≤1000;omega) hbs
     wb:=Ei (P:=fun b=>∀w∈b.2,0≤w∧w≤65535) (by intro w hw;cases hw) hws
     fb:=by show ∀b∈gY (a.2.2.2.2.2.1.2.1.set n.toNat true) (nzB (a.2.2.2.2.2.1.2.1.set n.toNat true) (a.2.2.2.2.2.1.2.2.set n.toNat x)),gV b=true;rw[Eh];exact Rf hf _ h.fb
     p0:=fun e=>absurd e hp
     pn:=fun _=>⟨by simp_all,hn.2⟩
     p1:=fun _=>hkr.1
     p2:=fun e=>absurd (q2.1.symm.trans e) (by decide) }
theorem OkG.tickA{a:TAg}(h:OkG a):OkG (tickA a):=by
 unfold Lx.tickA sD;by_cases q0:a.2.1.1=0∨a.2.1.2=-1
 ·simp_all
 ·rw[if_neg q0]
  by_cases q1:a.2.1.2=1
  ·rw[if_pos q1,if_pos rfl]
   exact h.free
  ·rw[if_neg q1,if_neg (show ¬ ((a.2.1.1,a.2.1.2 - 1),false).2=true from Bool.false_ne_true)]
   have hl2:=h.l2;have lr:1≤a.2.1.2:=by have:=h.lr;simp_all[mD]
   have hp:a.2.2.1≠0:=fun e=>by have:=(h.p0 e).1;omega
   have hn:=h.pn hp
   exact { h with
    lr:=Or.inr ⟨hn.1,Or.inl (by grind)⟩
    l2:=by grind
    p0:=fun e=>absurd e hp
    pn:=fun _=>⟨hn.1,hn.2⟩
    p1:=fun _=>by grind
    p2:=fun e=>by have:=(h.p2 e).1;omega }
theorem OkG.bootA{a:TAg}(h:OkG a):OkG (bootA a):=by
 unfold Lx.bootA;split
 ·exact h.free
 omega
abbrev avd:=List fV×List fV×List fV×List fV
theorem Ua(f:Int):JK (f,())=some ((if f=1 then (1,0) else if f=2 then (2,0) else if f=3 then (3,0) else if f=4 then (4,0) else if f=5 then (0,1) else if f=6 then (0,3) else if f=15 then (0,1) else if f=16 then (0,3) else if f=23 then (3,3) else (0,0)),()):=by show akl f=_;unfold akl;simp only[fo,gdV];grind
def rdW(x:fV):Bool:=x.2.2.1
def wrW(p m:Int)(x:fV):Bool:=x.2.2.2.1 && (!x.2.2.2.2 || (decide (x.1=p) && decide (x.2.1=m)))
theorem zwb(p m:Int)(x:fV):GZ (x,p,m,())=some (wrW p m x,p,m,()):=by
 obtain⟨a,b,c,d,e⟩:=x;show ako (a,b,c,d,e) p m=_;unfold ako wrW;dsimp only;cases d<;>cases e<;>try rfl
 rw[if_pos rfl,if_neg (by decide)];by_cases h:a=p
 ·rw[if_pos (fo.2 h),decide_eq_true h];rfl
 simp_all[if_neg,fo,decide_eq_false]
theorem zwu(p m:Int)(x:fV):G4 (x,p,m,())=some (wrW p m x,p,m,()):=by
 obtain⟨a,b,c,d,e⟩:=x;show akw (a,b,c,d,e) p m=_;unfold akw wrW;dsimp only;cases d<;>cases e<;>try rfl
 rw[if_pos rfl,if_neg (by decide)];by_cases h:a=p
 ·rw[if_pos (fo.2 h),decide_eq_true h];rfl
 simp_all[if_neg,fo,decide_eq_false]
section
variable {l:List fV}{p:Int}{m:Nat}(hp:0≤p)(hpm:p≤1000000)(hm:m≤1000000)(hl:l.length≤1000000)(ho:∀x∈l,uU x)
include hp hpm hm hl ho
theorem adP(c:List Bool):FQ ((l,c),p,(m:Int),())=some (jl rdW l p m,()):=by show zC (Zw (l,p,(m:Int),())) _=_;rw[abG hp hm hpm hl ho (w:=rdW) (fun _=>rfl)];rfl
theorem Rh(c:List Int):Cu ((l,c),p,(m:Int),())=some (jl rdW l p m,()):=by show zC (ZC (l,p,(m:Int),())) _=_;rw[abI hp hm hpm hl ho (w:=rdW) (fun _=>rfl)];rfl
theorem adR(c:List Bool):FR ((l,c),p,(m:Int),())=some (jl (wrW p m) l p m,()):=by show zC (Zz (l,p,(m:Int),p,(m:Int),())) _=_;grind[abK,wrW,zwb]
theorem Ri(c:List Int):G5 ((l,c),p,(m:Int),())=some (jl (wrW p m) l p m,()):=by show zC (ZF (l,p,(m:Int),p,(m:Int),())) _=_;grind[abM,wrW,zwu]
end
theorem Li{a:TA}(h:OkA a):FK (a,())=some ((if a.1=23 then a.2.2.2.1 else a.2.1),((a.2.2.2.2.2.length+a.2.2.2.2.1.length:Nat):Int),()):=by have:=h.lw;have:=h.lb;have h0:=h.at0;have h1:=h.at1;have h2:=h.t0;have h3:=h.t1;show akn a=_;grind[akn,bu,rW,jr,fo]
theorem uH{k:Int}{w h:Bool}{p:Int}{m:Nat}(hk:1≤k)(hp:0≤p)(hm:1≤m)(f:fV->Bool)(hf:f (0,k,true,w,h)=true):jl f [(0,k,true,w,h)] p m=decide (p+m≤k):=by
 have hw:∀i:Int,0≤i->mW f [(0,k,true,w,h)] i=decide (i<k):=fun i hi=>by
  unfold mW iL;rw[List.find?_cons,List.find?_nil];have:lJ (0,k,true,w,h) i=decide (i<k):=by simp_all[lJ,decide_eq_decide]
  grind
 unfold jl;rw[Bool.eq_iff_iff,List.all_eq_true,decide_eq_true_eq];constructor
 ·intro hall
  have:=hall (m - 1) (List.mem_range.2 (by omega));grind
 grind
def SPH:List fV:=[(0,64,true,false,false),(256,8,true,false,false),(272,8,false,true,true),(288,20,false,true,true),(512,20,true,false,false),(544,20,true,false,false),(576,20,true,false,false),(608,20,true,false,false),(640,20,true,false,false),(672,20,true,false,false),(704,20,true,false,false),(736,20,true,false,false)]
def SP:avd:=([(0,16,true,true,false)],[(0,8,true,false,false)],SPH,[(0,8,true,false,false)])
theorem Rj:wJ ()=some (SP,()):=by rfl
theorem Lj{f:fV->Bool}{l:List fV}{i:Int}(h:mW f l i=true):∃x∈l,lJ x i=true∧f x=true:=by grind[mW,iL,lJ,List.mem_of_find?_eq_some]
theorem Rk{p:Int}{m:Nat}(hm:1≤m):jl (wrW p m) SPH p m=decide (p=272∧m=8∨p=288∧m=20):=by
 rw[Bool.eq_iff_iff,decide_eq_true_eq];constructor
 ·intro h
  unfold jl at h;rw[List.all_eq_true]at h;have h0:=h 0 (List.mem_range.2 (by omega));obtain⟨x,hx,_,hw⟩:=Lj h0;have e:wrW p (m:Int) x=true↔x.2.2.2.1=true∧(x.2.2.2.2=false∨(x.1=p∧x.2.1=(m:Int))):=by simp_all[wrW,zO,Bool.or_eq_true,decide_eq_true_eq,Bool.not_eq_true']
  rw[e]at hw;simp only[SPH,List.mem_cons,List.not_mem_nil,or_false]at hx;rcases hx with rfl | rfl | rfl | rfl | rfl | rfl | rfl | rfl | rfl | rfl | rfl | rfl<;>simp at hw<;>omega
 ·rintro (⟨rfl,rfl⟩ | ⟨rfl,rfl⟩)<;>decide
def rdH(p:Int)(m:Nat):Bool:=jl rdW SPH p m
theorem Da{p:Int}{m:Nat}(hm:1≤m)(h:rdH p m=true):p+m≤756:=by unfold rdH jl at h;rw[List.all_eq_true]at h;obtain⟨x,hx,hc,_⟩:=Lj (h (m - 1) (List.mem_range.2 (by omega)));unfold lJ at hc;rw[decide_eq_true_eq]at hc;simp only[SPH,List.mem_cons,List.not_mem_nil,or_false]at hx;rcases hx with rfl | rfl | rfl | rfl | rfl | rfl | rfl | rfl | rfl | rfl | rfl | rfl<;>dsimp only at hc<;>omega
theorem Em:∀x∈SPH,uU x:=fun x hx=>by simp only[SPH,List.mem_cons,List.not_mem_nil,or_false]at hx;rcases hx with rfl | rfl | rfl | rfl | rfl | rfl | rfl | rfl | rfl | rfl | rfl | rfl<;>exact⟨by decide,by decide,by decide,by decide⟩
theorem xO{k:Int}(h0:0≤k)(h1:k≤100){r w h:Bool}:∀x ∈ [((0:Int),k,r,w,h)],uU x:=fun x hx=>by rw[List.mem_singleton]at hx;subst hx;exact⟨by omega,by omega,by grind,by grind⟩
def kF(a:TA):Bool :=
 if a.1=1 then decide (a.2.1+a.2.2.1≤16) else if a.1=2∨a.1=4 then decide (a.2.1+a.2.2.1≤8)
 else if a.1=3 then rdH a.2.1 a.2.2.1.toNat
 else if a.1=5∨a.1=15 then decide (a.2.1+(a.2.2.2.2.2.length:Int)≤16)
 else if a.1=23 then rdH a.2.1 a.2.2.1.toNat && decide (a.2.2.2.1=272∧a.2.2.2.2.1.length=8∨a.2.2.2.1=288∧a.2.2.2.2.1.length=20)
 else decide (a.2.1=272∧a.2.2.2.2.1.length=8∨a.2.1=288∧a.2.2.2.2.1.length=20)
abbrev XV:=(List fV×List Bool)×(List fV×List Bool)×(List fV×List Int)×List fV×List Int
def vS:XV:=(([(0,16,true,true,false)],[]),([(0,8,true,false,false)],[]),(SPH,[]),[(0,8,true,false,false)],[])
theorem Rl{a:TA}(h:OkA a)(hr:iR a=true):FT (SP,a,())=some (if kF a=true then 0 else 2,()):=by
 have hra:=lD hr;have ht:=Li h;have p0:=h.at0;have p1:=h.at1;have t0:=h.t0;have t1:=h.t1;have m0:=h.m0;have m1:=h.m1;show ZH oW SP a=_;unfold ZH;have ho:JJ (SP,([],[],[],[]),())=some (vS,()):=rfl;rw[right_eq h,hr,zD,if_neg (by decide),ho,zD,Ua,zD];have K1t:∀u,oW true a vS u=some (2,()):=fun u=>rfl;have K1:∀u,oW false a vS u=zC (FK (a,())) fun y=>if eqi u.2 1=true then zC (FR (vS.1,y.1,y.2.1,())) fun y=>Cv !y.1 else if eqi u.2 2=true then zC (FR (vS.2.1,y.1,y.2.1,())) fun y=>Cv !y.1 else if eqi u.2 3=true then zC (G5 (vS.2.2.1,y.1,y.2.1,())) fun y=>Cv !y.1 else if eqi u.2 4=true then zC (G5 (vS.2.2.2,y.1,y.2.1,())) fun y=>Cv !y.1 else Cv false:=fun u=>rfl;rw[ht]at K1;simp only[zD]at K1;have K2:∀b:Bool,Cv (!b)=some (if b=true then 0 else 2,()):=fun b=>by cases b<;>rfl
 have K1b:∀(b:Bool) (u:Int×Int),u.2=0->oW (!b) a vS u=some (if b=true then 0 else 2,()):=fun b u hu=>by
  cases b with
  | true =>
   show oW false a vS u=_;rw[K1,hu];rfl
  | false=>rfl
 cases hra with
 | bits f p n hf h1 h2 =>
  obtain⟨n,rfl⟩:=zN (show 0≤n by omega);have p0:0≤p:=p0;have p1:p≤65535:=p1;have hc:cvt .i64 p=p:=jr (by omega) (by omega);have hc2:cvt .i64 (n:Int)=n:=jr (by omega) (by omega);rcases hf with rfl | rfl
  ·have hb:=adP (l:=[(0,16,true,true,false)]) (p:=p) (m:=n) p0 (by omega) (by omega) (by decide) (xO (by decide) (by decide)) []
   rw[uH (by decide) p0 (by omega) rdW rfl]at hb;rw[<- hc,<- hc2]at hb;show zC (FQ (vS.1,cvt .i64 p,cvt .i64 (n:Int),())) (fun y=>oW (!y.1) (1,p,(n:Int),0,[],[]) vS (1,0))=_;refine (congrArg (fun z=>zC z _) hb).trans ?_;rw[zD,K1b _ _ rfl,hc,hc2];rfl
  ·have hb:=adP (l:=[(0,8,true,false,false)]) (p:=p) (m:=n) p0 (by omega) (by omega) (by decide) (xO (by decide) (by decide)) []
   rw[uH (by decide) p0 (by omega) rdW rfl]at hb;rw[<- hc,<- hc2]at hb;show zC (FQ (vS.2.1,cvt .i64 p,cvt .i64 (n:Int),())) (fun y=>oW (!y.1) (2,p,(n:Int),0,[],[]) vS (2,0))=_;refine (congrArg (fun z=>zC z _) hb).trans ?_;rw[zD,K1b _ _ rfl,hc,hc2];rfl
 | words f p n hf h1 h2 =>
  obtain⟨n,rfl⟩:=zN (show 0≤n by omega);have p0:0≤p:=p0;have p1:p≤65535:=p1;have hc:cvt .i64 p=p:=jr (by omega) (by omega);have hc2:cvt .i64 (n:Int)=n:=jr (by omega) (by omega);rcases hf with rfl | rfl
  ·have hu:=Rh (l:=SPH) (p:=p) (m:=n) p0 (by omega) (by omega) (by decide) Em []
   rw[<- hc,<- hc2]at hu;show zC (Cu (vS.2.2.1,cvt .i64 p,cvt .i64 (n:Int),())) (fun y=>oW (!y.1) (3,p,(n:Int),0,[],[]) vS (3,0))=_;refine (congrArg (fun z=>zC z _) hu).trans ?_;rw[zD,K1b _ _ rfl,hc];rfl
  ·have hu:=Rh (l:=[(0,8,true,false,false)]) (p:=p) (m:=n) p0 (by omega) (by omega) (by decide) (xO (by decide) (by decide)) []
   rw[uH (by decide) p0 (by omega) rdW rfl]at hu;rw[<- hc,<- hc2]at hu;show zC (Cu (vS.2.2.2,cvt .i64 p,cvt .i64 (n:Int),())) (fun y=>oW (!y.1) (4,p,(n:Int),0,[],[]) vS (4,0))=_;refine (congrArg (fun z=>zC z _) hu).trans ?_;rw[zD,K1b _ _ rfl,hc,hc2];rfl
 | coil p b =>
  have p0:0≤p:=p0;have p1:p≤65535:=p1;have hw:=adR (l:=[(0,16,true,true,false)]) (p:=p) (m:=1) p0 (by omega) (by omega) (by decide) (xO (by decide) (by decide)) [];rw[uH (by decide) p0 (by omega) _ rfl]at hw;show oW false (5,p,0,0,[],[b]) vS (0,1)=_;rw[K1,if_pos (by decide)];refine (congrArg (fun z=>zC z _) hw).trans ?_;rw[zD,K2];rfl
 | word p x =>
  have p0:0≤p:=p0;have p1:p≤65535:=p1;have hw:=Ri (l:=SPH) (p:=p) (m:=1) p0 (by omega) (by omega) (by decide) Em [];rw[Rk (by omega)]at hw;show oW false (6,p,0,0,[x],[]) vS (0,3)=_;rw[K1,if_neg (by decide),if_neg (by decide),if_pos (by decide)];refine (congrArg (fun z=>zC z _) hw).trans ?_;rw[zD,K2];rfl
 | coils p l h1 h2 =>
  have p0:0≤p:=p0;have p1:p≤65535:=p1;have hw:=adR (l:=[(0,16,true,true,false)]) (p:=p) (m:=l.length) p0 (by omega) (by omega) (by decide) (xO (by decide) (by decide)) [];rw[uH (by decide) p0 (by omega) _ rfl]at hw;show oW false (15,p,(l.length:Int),0,[],l) vS (0,1)=_;rw[K1,if_pos (by decide)];refine (congrArg (fun z=>zC z _) hw).trans ?_;rw[zD,K2];rfl
 | regs p l h1 h2 =>
  have p0:0≤p:=p0;have p1:p≤65535:=p1;have hw:=Ri (l:=SPH) (p:=p) (m:=l.length) p0 (by omega) (by omega) (by decide) Em [];rw[Rk (by omega)]at hw;show oW false (16,p,(l.length:Int),0,l,[]) vS (0,3)=_;rw[K1,if_neg (by decide),if_neg (by decide),if_pos (by decide)];have e:((([]:List Bool).length+l.length:Nat):Int)=(l.length:Int):=by simp
  show zC (G5 (vS.2.2.1,p,((([]:List Bool).length+l.length:Nat):Int),())) _=_;rw[e];refine (congrArg (fun z=>zC z _) hw).trans ?_;rw[zD,K2];rfl
 | swap p n t l h1 h2 h3 h4 =>
  obtain⟨n,rfl⟩:=zN (show 0≤n by omega);have p0:0≤p:=p0;have p1:p≤65535:=p1;have t0:0≤t:=t0;have t1:t≤65535:=t1;have hc:cvt .i64 p=p:=jr (by omega) (by omega);have hc2:cvt .i64 (n:Int)=n:=jr (by omega) (by omega);have hu:=Rh (l:=SPH) (p:=p) (m:=n) p0 (by omega) (by omega) (by decide) Em [];rw[<- hc,<- hc2]at hu;have hw:=Ri (l:=SPH) (p:=t) (m:=l.length) t0 (by omega) (by omega) (by decide) Em [];rw[Rk (by omega)]at hw;show zC (Cu (vS.2.2.1,cvt .i64 p,cvt .i64 (n:Int),())) (fun y=>oW (!y.1) (23,p,(n:Int),t,l,[]) vS (3,3))=_;refine (congrArg (fun z=>zC z _) hu).trans ?_;rw[zD,hc];show oW (!rdH p n) (23,p,(n:Int),t,l,[]) vS (3,3)=some (if (rdH p n && decide (t=272∧l.length=8∨t=288∧l.length=20))=true then 0 else 2,())
  cases rdH p n with
  | false=>rfl
  | true =>
   rw[Bool.true_and];show oW false _ vS (3,3)=_;rw[K1,if_neg (by decide),if_neg (by decide),if_pos (by decide)];have e:((([]:List Bool).length+l.length:Nat):Int)=(l.length:Int):=by simp
   show zC (G5 (vS.2.2.1,t,((([]:List Bool).length+l.length:Nat):Int),())) _=_;rw[e];refine (congrArg (fun z=>zC z _) hw).trans ?_;grind
theorem Rm{h:List Int}{p n:Int}(hp:0≤p)(hn:0≤n)(hh:h.length≤100000)(hle:p+n≤h.length)(l:List fV):ZT ((l,h),p,n,1,())=some ((h.drop p.toNat).take n.toNat,()):=by
 obtain⟨p,rfl⟩:=zN hp;obtain⟨n,rfl⟩:=zN hn;have e1:mul .i64 (quo .i64 (sub .i64 (add .i64 (n:Int) 1) 1) 1) 1=(n:Int):=by rw[jm (by omega),lQ (by omega) (by omega),show (((n+1:Nat):Int) - 1)=(n:Int) by omega];have:=qw (i:=n) (d:=1) (by omega);rw[Nat.div_one]at this;rw[show (1:Int)=((1:Nat):Int) from rfl,this,ou (by omega) (by omega)];omega
 show alj (l,h) (p:Int) (n:Int) 1=_;unfold alj;rw[e1,fT (by decide),fT (iK.2 (by omega)),fT (tO _),zQ,jJ (by omega),rW (by omega)];dsimp only;rw[yY (by omega) (by omega),zD,kD,fT (iO.2 (by simp))];grind[List.length_drop,kB,List.drop_take,List.drop,zE,Int,List.drop_of_length_le,kD,bu,zQ]
theorem AZ(f e:Int):lF (f,e,())=some ((rem f 128,e,[],[],0,0),()):=rfl
theorem En{a:TA}(hr:iR a=true):1≤a.1∧a.1<128:=by
 cases lD hr with
 | bits f p n hf=>omega
 | words f p n hf=>omega
 | coil p b=>omega
 | word p x=>omega
 | coils p l=>omega
 | regs p l=>omega
 | swap p n t l=>omega
structure Rep(r:TR):Prop where
 ok:OkR r
 rr:RR r
 rt:pZ r=true
theorem xP{f e:Int}(h0:0≤f)(h1:f<128)(h2:1≤e)(h3:e≤4):Rep (f,e,[],[],0,0):=by refine⟨⟨h0,by show f≤255;omega,by show 0≤e;omega,by show e≤255;omega,(fun x hx=>by cases hx),(by decide:(0:Int)≤0),(by decide:(0:Int)≤65535),(by decide:(0:Int)≤0),(by decide:(0:Int)≤65535),Nat.zero_le _,Nat.zero_le _⟩,.ex f e h0 h1 h2 h3,?_⟩;unfold pZ;rw[if_pos (by rw[gP];show e≠0;omega)];unfold exR;dsimp only;rw[G9 h0 h1,decide_eq_true h1,decide_eq_true h2,decide_eq_true h3,decide_eq_true rfl];rfl
theorem ave{r:TR}(h:Rep r):SmR r:=by cases h.rr<;>exact⟨by simp<;>omega,by simp<;>omega⟩
theorem adS{r:TR}(h:Rep r):QO (r,())=some (kU r,0,()):=by rw[adG (ave h),if_pos h.rt]
abbrev uV:=List Bool×List Bool×List Int×List Int
structure OkS(s:TSl):Prop where
 u:1≤s.1∧s.1≤247
 l:s.2.1=1∨s.2.1=2
 a:OkG s.2.2.1
 c:s.2.2.2.length=16
def cpy{α:Type}(b:List α)(p:Nat)(w:List α):List α:=b.take p++w++b.drop (p+w.length)
theorem tT{α:Type}{b w:List α}{p:Nat}(h:p+w.length≤b.length):(cpy b p w).length=b.length:=by grind[cpy,zZ,kB,List.length_drop]
theorem adT{α:Type}{b w:List α}{p:Nat}(h:p+w.length≤b.length):((cpy b p w).drop p).take w.length=w:=by
 have lp:(b.take p).length=p:=by rw[kB];omega
 unfold cpy;rw[List.append_assoc,List.drop_left' lp,List.take_left' rfl]
theorem asE{α:Type}{b w:List α}{p i:Nat}(h:p+w.length≤b.length):(cpy b p w)[i]? = if p≤i∧i<p+w.length then w[i - p]? else b[i]?:=by
 have lp:(b.take p).length=p:=by grind
 unfold cpy;grind
theorem Ub{α:Type}{b w:List α}{p q n:Nat}(h:p+w.length≤b.length)(hd:p+w.length≤q∨q+n≤p):((cpy b p w).drop q).take n=(b.drop q).take n:=by
 apply List.ext_getElem?;intro i;by_cases hi:i<n
 ·rw[List.getElem?_take_of_lt hi,List.getElem?_take_of_lt hi,List.getElem?_drop,List.getElem?_drop,asE h,if_neg (by omega)]
 grind
theorem Ky{α:Type}{b w:List α}{p:Nat}{P:α->Prop}(hb:∀y∈b,P y)(hx:∀y∈w,P y):∀y∈cpy b p w,P y:=by grind[cpy,List.mem_of_mem_take,List.mem_of_mem_drop]
theorem qd{α:Type}{b w:List α}{p m:Nat}(hm:w.length≤m):b.take p++w.take m++b.drop (p+(w.take m).length)=cpy b p w:=by rw[List.take_of_length_le hm];rfl
def kW(a:TAg):List Int:=(List.range 8).foldl (fun h b=>cpy h (512+b*32) (kE a.2.2.2.2.2.1 a.2.1.1 (b:Int))) (cpy (cpy (zE 756 0) 0 a.1) 256 (iq a))
def tV(a:TAg):List Bool:=((((zE 8 false).set a.2.2.1.toNat true).set 4 (decide (a.2.1.1≠0))).set 5 (decide (true∈a.2.2.2.2.2.1.2.1)))
def wX(s:TSl):uV:=(s.2.2.2,tV s.2.2.1,kW s.2.2.1,iq s.2.2.1)
theorem rF{s:nZ}{o n:Int}:(kE s o n).length=20:=by grind[kE,nk]
theorem uI{a:TAg}(h:OkG a):∀k:Nat,k≤8->((List.range k).foldl (fun h b=>cpy h (512+b*32) (kE a.2.2.2.2.2.1 a.2.1.1 (b:Int))) (cpy (cpy (zE 756 0) 0 a.1) 256 (iq a))).length=756
 | 0,_=>by
  have h64:=h.bl;rw[List.range_zero,List.foldl_nil];have e1:(cpy (zE 756 (0:Int)) 0 a.1).length=756:=by rw[tT (by rw[kD];omega),kD]
  rw[tT (by rw[e1];show 256+8≤756;omega),e1]
 | k+1,hk=>by have ih:=uI h k (by omega);rw[List.range_succ,List.foldl_append,List.foldl_cons,List.foldl_nil,tT (by rw[ih,rF];omega),ih]
theorem Db{a:TAg}(h:OkG a):(kW a).length=756:=uI h 8 (by omega)
theorem F5(a:TAg):(tV a).length=8:=by simp_all[tV,List.length_set,kD]
set_option maxHeartbeats 1000000 in
theorem avf{s:TSl}(h:OkS s):rV (s,())=some (wX s,()):=by
 have ha:=h.a;have hst:=abO ha;have hfr:=wW ha.lr;have hco:=contains_eq (s:=s.2.2.1.2.2.2.2.2.1.2.1) true (by have:=ha.hl;omega);have pr:=ha.pr;have h64:=ha.bl;have hh8:=ha.hl;have h16:=h.c;show aah alJ s=_;unfold aah;simp only[hst,zD,tF (eqAs_refl fu.rs),auU (eqAs_refl fu.rs)];show aae alI s (iq s.2.2.1) (zE 16 false) (zE 8 false) (zE 756 0)=_;unfold aae;obtain⟨ph,hph⟩:=zN pr.1;have hin:(zE 8 false)[ph]? = some false:=by grind
 have hcoil:List.take (zI (zF (zE 16 false).length)) s.2.2.2++List.drop (0+(List.take (zI (zF (zE 16 false).length)) s.2.2.2).length) (zE 16 false)=s.2.2.2:=by grind
 rw[fT (iO.2 (by simp)),if_pos (iO.2 pr.2),hph,gZ hin,zD,zD,hcoil,zQ];show aaf J3 s (iq s.2.2.1) s.2.2.2 ((zE 8 false).set ph true) (zE 756 0)=_;unfold aaf;have h4:∃x,((zE 8 false).set ph true)[4]? = some x:=jM (by simp);obtain⟨x4,h4⟩:=h4;have t8:List.take 8 (List.drop 0 s.2.2.1.2.2.2.2.2.1.2.1)=s.2.2.1.2.2.2.2.2.1.2.1:=by grind
 rw[hfr,zD,show at? ((zE 8 false).set ph true) 4=some x4 from gZ h4,zD,zD,t8,hco,zD];dsimp only;generalize hy:(!decide (s.2.2.1.2.1.1=0))=y4;have h5:∃x,(((zE 8 false).set ph true).set 4 y4)[5]? = some x:=jM (by simp);obtain⟨x5,h5⟩:=h5;rw[show at? (((zE 8 false).set ph true).set 4 y4) 5=some x5 from gZ h5,zD,zD];have c64:List.take 64 s.2.2.1.1++List.drop (0+(List.take 64 s.2.2.1.1).length) (zE 756 (0:Int))=cpy (zE 756 0) 0 s.2.2.1.1:=qd (p:=0) (b:=zE 756 (0:Int)) (by omega);have l64:(cpy (zE 756 (0:Int)) 0 s.2.2.1.1).length=756:=by grind
 rw[c64,l64];have l8:(iq s.2.2.1).length=8:=rfl;have cst:List.take 256 (cpy (zE 756 0) 0 s.2.2.1.1)++List.take (zI (zF 756 - 256)) (iq s.2.2.1)++List.drop (256+(List.take (zI (zF 756 - 256)) (iq s.2.2.1)).length) (cpy (zE 756 0) 0 s.2.2.1.1)=cpy (cpy (zE 756 0) 0 s.2.2.1.1) 256 (iq s.2.2.1):=qd (by simp_all);rw[cst];rw[fT (by decide),fT (by decide),fT (by decide),fT (by decide),fT (by decide),fT (by decide)];show J3 s 0 (iq s.2.2.1) s.2.2.2 _ _=_;have hinp:((((zE 8 false).set ph true).set 4 y4).set 5 (decide (true∈s.2.2.1.2.2.2.2.2.1.2.1)))=tV s.2.2.1:=by simp_all[tV,zQ,decide_eq_true,decide_eq_false]
 rw[hinp];unfold wX kW;unfold J3;refine nI (N:=8) (mk:=fun i=>(s,(i:Int),iq s.2.2.1,s.2.2.2,tV s.2.2.1,(List.range i).foldl (fun h b=>cpy h (512+b*32) (kE s.2.2.1.2.2.2.2.2.1 s.2.2.1.2.1.1 (b:Int))) (cpy (cpy (zE 756 0) 0 s.2.2.1.1) 256 (iq s.2.2.1)))) ?_ ?_ 8 0 _ (by omega) (by omega)
 ·intro self i hi
  have hlen:=uI ha i (by omega);have hsucc:(List.range (i+1)).foldl (fun h b=>cpy h (512+b*32) (kE s.2.2.1.2.2.2.2.2.1 s.2.2.1.2.1.1 (b:Int))) (cpy (cpy (zE 756 0) 0 s.2.2.1.1) 256 (iq s.2.2.1))=cpy ((List.range i).foldl (fun h b=>cpy h (512+b*32) (kE s.2.2.1.2.2.2.2.2.1 s.2.2.1.2.1.1 (b:Int))) (cpy (cpy (zE 756 0) 0 s.2.2.1.1) 256 (iq s.2.2.1))) (512+i*32) (kE s.2.2.1.2.2.2.2.2.1 s.2.2.1.2.1.1 (i:Int)):=by simp_all[List.range_succ,List.foldl_append]
  rw[hsucc];generalize (List.range i).foldl (fun h b=>cpy h (512+b*32) (kE s.2.2.1.2.2.2.2.2.1 s.2.2.1.2.1.1 (b:Int))) (cpy (cpy (zE 756 0) 0 s.2.2.1.1) 256 (iq s.2.2.1))=hd at hlen;show aag _ s (i:Int) (iq s.2.2.1) s.2.2.2 (tV s.2.2.1) hd=_;unfold aag;have e1:mul .i64 (i:Int) 32=((i*32:Nat):Int):=by grind[ou]
  have e2:add .i64 512 ((i*32:Nat):Int)=((512+i*32:Nat):Int):=rW (n:=512) (by omega);have hbk:=back_eq (s:=s.2.2.1.2.2.2.2.2.1) (o:=s.2.2.1.2.1.1) (n:=(i:Int))
  have hstx:0≤s.2.2.1.2.2.2.2.2.1.1∧s.2.2.1.2.2.2.2.2.1.1≤4294967295:=by
   by_cases e:s.2.2.1.2.2.1=0
   ·have:=(ha.p0 e).2.2.1;omega
   ·have:=(ha.pn e).2.2;have:=ha.tr;omega
  have hbk:=hbk hstx.1 hstx.2 ⟨by omega,by omega⟩ ha.hl ha.sl ha.bb;rw[if_pos (fq.2 (by omega)),e1,e2,fT (iK.2 (by omega)),fT (iO.2 (by grind)),fT (iO.2 (Int.le_refl _)),show at? (iq s.2.2.1) 0=some s.2.2.1.2.1.1 from rfl,zD,hbk,zD,fT (iO.2 (by omega)),jm (by omega),zQ];dsimp only;rw[qd (by rw[rF,bu,hlen];omega)]
 ·intro self
  rfl
def Rn(n:Int)(fixed:Bool):Int->List fV->Bool
 | _,[]=>true
 | e,x::r=>if x.1<e∨n<x.1∨x.2.1<1∨n - x.1<x.2.1∨(fixed=true∧x.2.2.2.1=true) then false else Rn n fixed (x.1+x.2.1) r
theorem Kz(n:Int)(fixed:Bool):∀(l:List fV) (e:Int),goL (R:=Bool×Unit) (fun (e:Int) (x:fV) k=>if x.1<e∨n<x.1∨x.2.1<1∨n - x.1<x.2.1∨(fixed=true∧x.2.2.2.1=true) then some (false,()) else k (x.1+x.2.1)) (fun _=>some (true,())) l e=some (Rn n fixed e l,())
 | [],_=>rfl
 | x::r,e=>by show (if _ then _ else goL _ _ r _)=_;rw[Kz n fixed r,Rn];split<;>rfl
theorem Ro{l:List fV}{h:List Int}{fixed:Bool}(ho:∀x∈l,uU x)(hp:∀x∈l,0≤x.1)(hh:h.length≤65536)(hl:l.length≤1000):ZQ ((l,h),fixed,())=some (Rn h.length fixed 0 l,()):=by
 show ZN JX (l,h) fixed=_;unfold ZN;rw[if_neg (fun e=>by grind[jU,bu])];show JX fixed 0 l (zF l.length) 0 (l,h)=_;rw[<- Kz];unfold JX;refine vO (xs:=l) (mk:=fun i e=>(fixed,e,l,zF l.length,(i:Int),(l,h))) ?_ ?_ l.length 0 0 _ (by omega) (by omega)
 ·intro self i e x hx
  have hi:=(List.getElem?_eq_some_iff.1 hx).1;have hm:=zY hx;have o:=ho x hm;have p:=hp x hm;unfold uU at o;show QA _ _ fixed e l (zF l.length) (i:Int) (l,h)=_;unfold QA;rw[if_pos (by grind[fq,bu]),gZ hx,zD];dsimp only;have K3:∀t,ZO (fun fixed endV t13 t14 t15 t=>self (fixed,endV,t13,t14,t15,t)) fixed l (zF l.length) (i:Int) t (l,h) x=if t=true then some (false,()) else self (fixed,add .i64 x.1 x.2.1,l,zF l.length,((i+1:Nat):Int),(l,h)):=fun t=>by unfold ZO alg;rw[jm (by omega)]
  have K2:∀t,ZP (fun fixed endV t13 t14 t15 t=>self (fixed,endV,t13,t14,t15,t)) fixed l (zF l.length) (i:Int) t (l,h) x=if t=true∨(fixed=true∧x.2.2.2.1=true) then some (false,()) else self (fixed,add .i64 x.1 x.2.1,l,zF l.length,((i+1:Nat):Int),(l,h)):=fun t=>by unfold ZP alf;rw[K3,K3];cases t<;>cases fixed<;>simp
  rw[K2,K2];simp only[true_or,if_true];rw[rX,CR,rX,CR,bu];by_cases q1:x.1<e
  ·simp_all
  ·rw[if_neg (by simp_all)]
   by_cases q2:(h.length:Int)<x.1
   ·simp_all
   ·rw[if_neg (by simp_all)]
    by_cases q3:x.2.1<1
    ·simp_all
    ·rw[if_neg (by simp_all),lQ (by omega) (by omega)]
     by_cases q4:(h.length:Int) - x.1<x.2.1
     ·simp_all
     ·rw[jS (by omega) (by omega)]
      grind
 simp_all[QA,zF,Int,if_neg,fq,bu]
theorem Rq{l:List fV}{h:List Bool}{fixed:Bool}(ho:∀x∈l,uU x)(hp:∀x∈l,0≤x.1)(hh:h.length≤65536)(hl:l.length≤1000):ZM ((l,h),fixed,())=some (Rn h.length fixed 0 l,()):=by
 show ZJ JW (l,h) fixed=_;unfold ZJ;rw[if_neg (fun e=>by grind[jU,bu])];show JW fixed 0 l (zF l.length) 0 (l,h)=_;rw[<- Kz];unfold JW;refine vO (xs:=l) (mk:=fun i e=>(fixed,e,l,zF l.length,(i:Int),(l,h))) ?_ ?_ l.length 0 0 _ (by omega) (by omega)
 ·intro self i e x hx
  have hi:=(List.getElem?_eq_some_iff.1 hx).1;have hm:=zY hx;have o:=ho x hm;have p:=hp x hm;unfold uU at o;show Qz _ _ fixed e l (zF l.length) (i:Int) (l,h)=_;unfold Qz;rw[if_pos (by grind[fq,bu]),gZ hx,zD];dsimp only;have K3:∀t,ZK (fun fixed endV t13 t14 t15 t=>self (fixed,endV,t13,t14,t15,t)) fixed l (zF l.length) (i:Int) t (l,h) x=if t=true then some (false,()) else self (fixed,add .i64 x.1 x.2.1,l,zF l.length,((i+1:Nat):Int),(l,h)):=fun t=>by unfold ZK ak9;rw[jm (by omega)]
  have K2:∀t,ZL (fun fixed endV t13 t14 t15 t=>self (fixed,endV,t13,t14,t15,t)) fixed l (zF l.length) (i:Int) t (l,h) x=if t=true∨(fixed=true∧x.2.2.2.1=true) then some (false,()) else self (fixed,add .i64 x.1 x.2.1,l,zF l.length,((i+1:Nat):Int),(l,h)):=fun t=>by unfold ZL ak8;rw[K3,K3];cases t<;>cases fixed<;>simp
  rw[K2,K2];simp only[true_or,if_true];rw[rX,CR,rX,CR,bu];by_cases q1:x.1<e
  ·simp_all
  ·rw[if_neg (by simp_all)]
   by_cases q2:(h.length:Int)<x.1
   ·simp_all
   ·rw[if_neg (by simp_all)]
    by_cases q3:x.2.1<1
    ·simp_all
    ·rw[if_neg (by simp_all),lQ (by omega) (by omega)]
     by_cases q4:(h.length:Int) - x.1<x.2.1
     ·simp_all
     ·rw[jS (by omega) (by omega)]
      grind
 simp_all[Qz,zF,Int,if_neg,fq,bu]
structure SzM(m:uV):Prop where
 c:m.1.length=16
 i:m.2.1.length=8
 h:m.2.2.1.length=756
 w:m.2.2.2.length=8
theorem Uc{s:TSl}(h:OkS s):SzM (wX s):=⟨h.c,F5 _,Db h.a,rfl⟩
theorem Rs{k:Int}{r w h:Bool}:∀x ∈ [((0:Int),k,r,w,h)],0≤x.1:=fun x hx=>by simp_all
theorem avg:∀x∈SPH,0≤x.1:=by decide
theorem adU{m:uV}(h:SzM m):ZR (SP,m,())=some (true,()):=by obtain⟨c,i,hd,w⟩:=m;have hc:c.length=16:=h.c;have hi:i.length=8:=h.i;have hh:hd.length=756:=h.h;have hw:w.length=8:=h.w;show alh SP (c,i,hd,w)=_;unfold alh;have ho:JJ (SP,(c,i,hd,w),())=some ((([(0,16,true,true,false)],c),([(0,8,true,false,false)],i),(SPH,hd),[(0,8,true,false,false)],w),()):=rfl;rw[ho,zD];dsimp only;rw[Rq (xO (by decide) (by decide)) Rs (by omega) (by decide),zD,hc,if_pos (by decide),Rq (xO (by decide) (by decide)) Rs (by omega) (by decide),zD,hi,if_pos (by decide),Ro Em avg (by omega) (by decide),zD,hh,if_pos (by decide),Ro (xO (by decide) (by decide)) Rs (by omega) (by decide),hw];rfl
def kG(c:List Bool)(p n:Nat):List Bool:=(c.drop p).take n++zE ((n+7) / 8*8 - n) false
theorem Rt{c:List Bool}{p n:Int}(hp:0≤p)(hn:0≤n)(hh:c.length≤100000)(hle:p+n≤c.length)(l:List fV):ZS ((l,c),p,n,8,())=some (kG c p.toNat n.toNat,()):=by
 obtain⟨p,rfl⟩:=zN hp;obtain⟨n,rfl⟩:=zN hn;have e1:mul .i64 (quo .i64 (sub .i64 (add .i64 (n:Int) 8) 1) 8) 8=(((n+7) / 8*8:Nat):Int):=by have e0:add .i64 (n:Int) 8=((n+8:Nat):Int):=rW (m:=8) (by omega);rw[e0,lQ (by omega) (by omega),show (((n+8:Nat):Int) - 1)=((n+7:Nat):Int) by omega];have:=qw (i:=n+7) (d:=8) (by omega);rw[show (8:Int)=((8:Nat):Int) from rfl,this,ou (by omega) (by omega)];omega
 show ali (l,c) (p:Int) (n:Int) 8=_;unfold ali;rw[e1,fT (by decide),fT (iK.2 (by omega)),fT (tO _),zQ,jJ (by omega),rW (by omega)];dsimp only;rw[yY (by omega) (by omega),zD,kD,fT (iO.2 (by simp))];have hlen:((c.take (p+n)).drop p).length=n:=by grind
 have ht:((c.take (p+n)).drop p)=(c.drop p).take n:=by grind
 rw[bu,zQ,List.take_of_length_le (show ((c.take (p+n)).drop p).length≤(n+7) / 8*8 by omega),hlen,List.drop_replicate,ht];simp_all[kG,zQ,Nat.zero_add]
def isE(f:Int):Bool:=decide (f=5∨f=6∨f=15∨f=16)
def Mv(a:TA):TR:=if a.1=5 then (5,0,[a.2.2.2.2.2.headD false],[],a.2.1,0) else if a.1=6 then (6,0,[],[a.2.2.2.2.1.headD 0],a.2.1,0) else (a.1,0,[],[],a.2.1,a.2.2.1)
theorem Ru{a:TA}(h:OkA a)(hr:iR a=true):wI (a,())=some (if isE a.1=true then Mv a else zR,isE a.1,()):=by
 show Jr Pz Yq a=_;unfold Jr;rw[right_eq h,hr,zD,if_neg (by decide)]
 cases lD hr with
 | bits f p n hf h1 h2=>rcases hf with rfl | rfl<;>rfl
 | words f p n hf h1 h2=>rcases hf with rfl | rfl<;>rfl
 | coil p b=>rfl
 | word p x=>rfl
 | coils p l h1 h2=>rfl
 | regs p l h1 h2=>rfl
 | swap p n t l h1 h2 h3 h4=>rfl
def F6(m:uV)(a:TA):TR :=
 if a.1=1 then (a.1,0,kG m.1 a.2.1.toNat a.2.2.1.toNat,[],0,0)
 else if a.1=2 then (a.1,0,kG m.2.1 a.2.1.toNat a.2.2.1.toNat,[],0,0)
 else if a.1=4 then (a.1,0,[],(m.2.2.2.drop a.2.1.toNat).take a.2.2.1.toNat,0,0)
 else (a.1,0,[],(m.2.2.1.drop a.2.1.toNat).take a.2.2.1.toNat,0,0)
def wrM(m:uV)(a:TA):uV :=
 if a.1=5∨a.1=15 then (cpy m.1 a.2.1.toNat a.2.2.2.2.2,m.2)
 else if a.1=16 then (m.1,m.2.1,cpy m.2.2.1 a.2.1.toNat a.2.2.2.2.1,m.2.2.2)
 else if a.1=23 then (m.1,m.2.1,cpy m.2.2.1 a.2.2.2.1.toNat a.2.2.2.2.1,m.2.2.2)
 else m
def doM(m:uV)(a:TA):uV×TR:=if kF a=true then (wrM m a,if isE a.1=true then Mv a else F6 (wrM m a) a) else (m,(a.1,2,[],[],0,0))
theorem A7{s:List Bool}(h:s.length≤1000000):Fe (s,())=some (s,()):=by
 show af6 s=_;unfold af6;by_cases h0:s.length=0
 ·have:s=[]:=List.eq_nil_of_length_eq_zero h0
  subst this;rfl
 ·rw[if_neg (by grind[fo,bu]),jJ (by omega)]
theorem avh(a:TA)(m:uV)(u:Int×Int):QC a 0 0 0 0 m.1 m.2.1 m.2.2.1 m.2.2.2 SP.1 SP.2.1 SP.2.2.1 SP.2.2.2 u=zC (wI (a,())) fun y=>if y.2.1=true then some (m,y.1,()) else zC (QB (((SP.1,m.1),(SP.2.1,m.2.1),(SP.2.2.1,m.2.2.1),SP.2.2.2,m.2.2.2),u.1,a,())) fun y=>some (m,y.1,()):=rfl
theorem adV{m:uV}(h:SzM m){a:TA}(ha:OkA a)(hr:iR a=true)(hc:kF a=true):SzM (wrM m a):=by
 have p0:=ha.at0;have t0:=ha.t0;unfold wrM;unfold kF at hc;split
 ·rename_i q
  rw[if_neg (by omega),if_neg (by omega),if_neg (by omega),if_pos q,decide_eq_true_eq]at hc;exact⟨by rw[tT (by have:=h.c;omega)];exact h.c,h.i,h.h,h.w⟩
 ·rename_i q
  split
  ·rename_i q2
   rw[if_neg (by omega),if_neg (by omega),if_neg (by omega),if_neg q,if_neg (by omega),decide_eq_true_eq]at hc;exact⟨h.c,h.i,by show (cpy _ _ _).length=756;rw[tT (by have:=h.h;omega)];exact h.h,h.w⟩
  ·rename_i q2
   split
   ·rename_i q3
    rw[if_neg (by omega),if_neg (by omega),if_neg (by omega),if_neg q,if_pos q3,zO,decide_eq_true_eq]at hc;exact⟨h.c,h.i,by show (cpy _ _ _).length=756;rw[tT (by have:=h.h;omega)];exact h.h,h.w⟩
   omega
theorem adW{m:uV}(h:SzM m){a:TA}(ha:OkA a)(hr:iR a=true)(hc:kF a=true)(he:isE a.1=false)(k:Int)(hk:k=(if a.1=1 then 1 else if a.1=2 then 2 else if a.1=4 then 4 else 3)) :
  QB (((SP.1,m.1),(SP.2.1,m.2.1),(SP.2.2.1,m.2.2.1),SP.2.2.2,m.2.2.2),k,a,())=some (F6 m a,()):=by
 have p0:=ha.at0;have p1:=ha.at1;have m0:=ha.m0;have m1:=ha.m1;have hcp:cvt .i64 a.2.1=a.2.1:=jr (by omega) (by omega);have hcn:cvt .i64 a.2.2.1=a.2.2.1:=jr (by omega) (by omega);have h1:=h.c;have h2:=h.i;have h3:=h.h;have h4:=h.w
 have hn:1≤a.2.2.1∨isE a.1=true:=by
  cases lD hr with
  | bits f p n hf h1 h2=>simp_all
  | words f p n hf h1 h2=>simp_all
  | coil p b=>exact Or.inr rfl
  | word p x=>exact Or.inr rfl
  | coils p l h1 h2=>grind
  | regs p l h1 h2=>grind
  | swap p n t l g1 g2 g3 g4=>simp_all
 have hn1:1≤a.2.2.1:=by simp_all
 show alk _ k a=_;unfold alk;unfold kF at hc;unfold F6;rw[hcp,hcn];by_cases q1:a.1=1
 ·rw[if_pos q1]at hk hc
  rw[decide_eq_true_eq]at hc;subst hk;rw[if_pos (by rfl),if_pos q1];grind[Rt]
 ·rw[if_neg q1]at hk hc
  by_cases q2:a.1=2
  ·rw[if_pos q2]at hk
   rw[if_pos (Or.inl q2),decide_eq_true_eq]at hc;subst hk;rw[if_neg (by decide),if_pos (by rfl),if_neg q1,if_pos q2];grind[Rt]
  ·rw[if_neg q2]at hk
   by_cases q4:a.1=4
   ·rw[if_pos q4]at hk
    rw[if_pos (Or.inr q4),decide_eq_true_eq]at hc;subst hk;rw[if_neg (by decide),if_neg (by decide),if_neg (by decide),if_pos (by rfl),if_neg q1,if_neg q2,if_pos q4];grind[Rm]
   ·rw[if_neg q4]at hk
    rw[if_neg (by omega)]at hc;subst hk;rw[if_neg (by decide),if_neg (by decide),if_pos (by rfl),if_neg q1,if_neg q2,if_neg q4]
    have hle:rdH a.2.1 a.2.2.1.toNat=true:=by
     by_cases q3:a.1=3
     ·simp_all
     ·rw[if_neg q3]at hc
      by_cases q5:a.1=5∨a.1=15
      ·simp_all[absurd,decide_eq_true,isE]
      ·rw[if_neg q5]at hc
       by_cases q6:a.1=23
       ·simp_all
       ·exfalso
        have:a.1=6∨a.1=16:=by
         cases lD hr with
         | bits f p n hf=>omega
         | words f p n hf=>omega
         | coil p b=>omega
         | word p x=>omega
         | coils p l=>omega
         | regs p l=>omega
         | swap p n t l=>omega
        simp_all[absurd,decide_eq_true,isE]
    have:=Da (by omega) hle;grind[Rm]
theorem avi{m:uV}(h:SzM m){a:TA}(ha:OkA a)(hr:iR a=true):l5 (SP,m,a,())=some ((doM m a).1,(doM m a).2,()):=by
 have hf:=En hr;have h1:=h.c;have h2:=h.i;have h3:=h.h;have h4:=h.w;have p0:=ha.at0;have t0:=ha.t0;have lw:=ha.lw;have lb:=ha.lb;show ZW QC SP m a=_;unfold ZW;rw[A7 (by omega),zD,A7 (by omega),zD,AY (by omega),zD,AY (by omega),zD,Rl ha hr,zD];dsimp only;unfold doM
 cases hc:kF a with
 | false =>
  simp only[Bool.false_eq_true,if_false];rw[if_pos (show nei 2 0=true by decide),AZ,zD,G9 (by omega) hf.2]
 | true =>
  rw[if_pos rfl,if_neg (by decide),adU h,zD,if_neg (by decide),Ua,zD,Li ha,zD,if_pos rfl];have hsz:=adV h ha hr hc
  have fin:∀k:Int×Int,(isE a.1=false->k.1=(if a.1=1 then 1 else if a.1=2 then 2 else if a.1=4 then 4 else 3))->QC a 0 0 0 0 (wrM m a).1 (wrM m a).2.1 (wrM m a).2.2.1 (wrM m a).2.2.2 SP.1 SP.2.1 SP.2.2.1 SP.2.2.2 k=some (wrM m a,if isE a.1=true then Mv a else F6 (wrM m a) a,()):=fun k hk=>by
   rw[avh,Ru ha hr,zD]
   cases he:isE a.1 with
   | true=>rfl
   | false =>
    rw[if_neg (fun e=>Bool.false_ne_true e),if_neg (fun e=>Bool.false_ne_true e),adW hsz ha hr hc he _ (hk he)];rfl
  have hcc:=hc;unfold kF at hc
  cases hra:lD hr with
  | bits f p n hf' g1 g2 =>
   rcases hf' with rfl | rfl
   ·exact fin (1,0) (fun _=>rfl)
   ·exact fin (2,0) (fun _=>rfl)
  | words f p n hf' g1 g2 =>
   rcases hf' with rfl | rfl
   ·exact fin (3,0) (fun _=>rfl)
   ·exact fin (4,0) (fun _=>rfl)
  | coil p b =>
   have hle:p+((1:Nat):Int)≤16:=of_decide_eq_true hc;have p0:0≤p:=p0;refine Eq.trans ?_ (fin (0,1) (fun e=>by cases e));dsimp only;rw[if_neg (show ¬ (5:Int)=23 by decide)];show need (ge p 0) (need (le p (zF m.1.length)) (need (le (zF m.1.length) (zF m.1.length)) (need (le (p+(zF m.1.length - p)) (zF m.1.length)) _)))=_;rw[fT (iK.2 p0),fT (iO.2 (by grind)),fT (iO.2 (Int.le_refl _)),fT (iO.2 (by omega))];rw[qd (w:=[b]) (by grind)];rfl
  | word p x =>
   simp_all
  | coils p l g1 g2 =>
   have hle:p+(l.length:Int)≤16:=of_decide_eq_true hc;have p0:0≤p:=p0;refine Eq.trans ?_ (fin (0,1) (fun e=>by cases e));dsimp only;rw[if_neg (show ¬ (15:Int)=23 by decide)];show need (ge p 0) (need (le p (zF m.1.length)) (need (le (zF m.1.length) (zF m.1.length)) (need (le (p+(zF m.1.length - p)) (zF m.1.length)) _)))=_;rw[fT (iK.2 p0),fT (iO.2 (by grind)),fT (iO.2 (Int.le_refl _)),fT (iO.2 (by omega))];rw[qd (w:=l) (by grind)];rfl
  | regs p l g1 g2 =>
   have hle:p=272∧l.length=8∨p=288∧l.length=20:=of_decide_eq_true hc;have p0:0≤p:=p0;refine Eq.trans ?_ (fin (0,3) (fun e=>by cases e));dsimp only;rw[if_neg (show ¬ (16:Int)=23 by decide)];show need (ge p 0) (need (le p (zF m.2.2.1.length)) (need (le (zF m.2.2.1.length) (zF m.2.2.1.length)) (need (le (p+(zF m.2.2.1.length - p)) (zF m.2.2.1.length)) _)))=_;rw[fT (iK.2 p0),fT (iO.2 (by grind)),fT (iO.2 (Int.le_refl _)),fT (iO.2 (by omega))];rw[qd (w:=l) (by grind)];rfl
  | swap p n t l g1 g2 g3 g4 =>
   have hle:t=272∧l.length=8∨t=288∧l.length=20:=of_decide_eq_true (zO _ _ ▸ hc:_∧_).2;have t0:0≤t:=t0;refine Eq.trans ?_ (fin (3,3) (fun _=>rfl));dsimp only;rw[if_pos (show (23:Int)=23 by decide)];show need (ge t 0) (need (le t (zF m.2.2.1.length)) (need (le (zF m.2.2.1.length) (zF m.2.2.1.length)) (need (le (t+(zF m.2.2.1.length - t)) (zF m.2.2.1.length)) _)))=_;rw[fT (iK.2 t0),fT (iO.2 (by grind)),fT (iO.2 (Int.le_refl _)),fT (iO.2 (by omega))];rw[qd (w:=l) (by grind)];rfl
end Go.Proofs.Lx
end
