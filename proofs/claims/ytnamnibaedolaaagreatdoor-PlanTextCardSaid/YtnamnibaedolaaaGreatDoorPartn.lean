/- Proved in the last of these 15 parts (this is part 14): PlanText. Conditions: those of the given statement, and no others. -/
import Derived.Test.YtnamnibaedolaaaGreatDoorPartm
import Derived.Test.YtnamnibaedolaaaGreatDoorPartj
import Derived.Stop.LaidErr
import Derived.Lib.LaidTab
set_option linter.unusedVariables false
set_option linter.unusedSimpArgs false
set_option linter.unusedSectionVars false
open Option renaming bind_some → zB
open Int renaming ofNat → zD, toNat_natCast → zM
open Bool renaming and_eq_true → zL
open List renaming mem_cons_of_mem → zO, getElem?_eq_getElem → zQ, length_map → zV
noncomputable section
set_option maxRecDepth 100000
namespace Go.Proofs.Lx
open Go Ev Sx
@[reducible] def zN0:Type:=(List (List UInt8×List (List UInt8×Int×Int×Bool×(Int×Int)×(Int×Int)×List UInt8)))×(List (List (Int×Int)))×(Int)×(Int)×(List (List UInt8×Int×List (List UInt8×(Int×Int)×List UInt8×Int)))×(Int×Int)->Option (As [.sl (.pr (.int .i64) (.sl (.pr (.int .i64) (.sl (.int .u16))))),.pr (.int .i64) (.int .i64),.sl (.pr .str (.pr (.int .i64) (.sl (.pr .str (.pr (.pr (.int .i64) (.int .u8)) (.pr .str (.int .i64)))))))])
def agj :=(fun (self:zN0) (s:(List (List UInt8×List (List UInt8×Int×Int×Bool×(Int×Int)×(Int×Int)×List UInt8)))×(List (List (Int×Int)))×(Int)×(Int)×(List (List UInt8×Int×List (List UInt8×(Int×Int)×List UInt8×Int)))×(Int×Int))=>QJ (Yy) (fun t words t31 t32 t30 t5=>self (t,words,t31,t32,t30,t5)) s.1 s.2.1 s.2.2.1 s.2.2.2.1 s.2.2.2.2.1 s.2.2.2.2.2)
@[reducible] def zN1:Type:=List (List UInt8×List (List UInt8×Int×Int×Bool×(Int×Int)×(Int×Int)×List UInt8))
@[reducible] def zN2:Type:=List (List (Int×Int))
@[reducible] def zN3:Type:=List (List UInt8×Int×List (List UInt8×(Int×Int)×List UInt8×Int))
theorem auJ  (self:zN0)(t:zN1)(words:zN2)(t31:Int)(t32:Int)(t30:zN3)(t5:Int×Int):agj self (t,words,t31,t32,t30,t5)=QJ (Yy) (fun t words t31 t32 t30 t5=>self (t,words,t31,t32,t30,t5)) t words t31 t32 t30 t5:=rfl
theorem auK  (t:zN1)(words:zN2)(t31:Int)(t32:Int)(t30:zN3)(t5:Int×Int):QM t words t31 t32 t30 t5=aj (agj) 18446744073709551616 (t,words,t31,t32,t30,t5):=rfl
@[reducible] def zN4:Type:=(List (List (Int×Int)))×(Int)×(Int)×(List (List UInt8×Int×List (List UInt8×(Int×Int)×List UInt8×Int)))×(Int×Int)×(List (Int×List (Int×List Int)))->Option (As [.sl (.pr (.int .i64) (.sl (.pr (.int .i64) (.sl (.int .u16))))),.pr (.int .i64) (.int .i64),.sl (.pr .str (.pr (.int .i64) (.sl (.pr .str (.pr (.pr (.int .i64) (.int .u8)) (.pr .str (.int .i64)))))))])
def agk :=(fun (self:zN4) (s:(List (List (Int×Int)))×(Int)×(Int)×(List (List UInt8×Int×List (List UInt8×(Int×Int)×List UInt8×Int)))×(Int×Int)×(List (Int×List (Int×List Int))))=>QK (Yx) (fun t58 t59 t60 o t5 l=>self (t58,t59,t60,o,t5,l)) s.1 s.2.1 s.2.2.1 s.2.2.2.1 s.2.2.2.2.1 s.2.2.2.2.2)
@[reducible] def zN5:Type:=List (Int×List (Int×List Int))
theorem auL  (self:zN4)(t58:zN2)(t59:Int)(t60:Int)(o:zN3)(t5:Int×Int)(l:zN5):agk self (t58,t59,t60,o,t5,l)=QK (Yx) (fun t58 t59 t60 o t5 l=>self (t58,t59,t60,o,t5,l)) t58 t59 t60 o t5 l:=rfl
theorem auM  (t58:zN2)(t59:Int)(t60:Int)(o:zN3)(t5:Int×Int)(l:zN5):QL t58 t59 t60 o t5 l=aj (agk) 18446744073709551616 (t58,t59,t60,o,t5,l):=rfl
@[reducible] def zN6:Type:=(List (List UInt8×List (List UInt8×Int×Int×Bool×(Int×Int)×(Int×Int)×List UInt8)))×(Int)×(List (Int×List (Int×List Int)))×(Int)×(List UInt8×List (List UInt8×Int×List (List UInt8×(Int×Int)×List UInt8×Int)))×(List UInt8)×(List (List UInt8×Int×List (List UInt8×(Int×Int)×List UInt8×Int)))->Option (As [.bool])
def Ra :=(fun (self:zN6) (s:(List (List UInt8×List (List UInt8×Int×Int×Bool×(Int×Int)×(Int×Int)×List UInt8)))×(Int)×(List (Int×List (Int×List Int)))×(Int)×(List UInt8×List (List UInt8×Int×List (List UInt8×(Int×Int)×List UInt8×Int)))×(List UInt8)×(List (List UInt8×Int×List (List UInt8×(Int×Int)×List UInt8×Int))))=>KI (KM (fun t at' l i r back o=>self (t,at',l,i,r,back,o))) (QT) (fun t at' l i r back o=>self (t,at',l,i,r,back,o)) s.1 s.2.1 s.2.2.1 s.2.2.2.1 s.2.2.2.2.1 s.2.2.2.2.2.1 s.2.2.2.2.2.2)
@[reducible] def zN7:Type:=List UInt8×List (List UInt8×Int×List (List UInt8×(Int×Int)×List UInt8×Int))
theorem alD  (self:zN6)(t:zN1)(at':Int)(l:zN5)(i:Int)(r:zN7)(back:List UInt8)(o:zN3):Ra self (t,at',l,i,r,back,o)=KI (KM (fun t at' l i r back o=>self (t,at',l,i,r,back,o))) (QT) (fun t at' l i r back o=>self (t,at',l,i,r,back,o)) t at' l i r back o:=rfl
theorem auN  (t:zN1)(at':Int)(l:zN5)(i:Int)(r:zN7)(back:List UInt8)(o:zN3):QU t at' l i r back o=aj (Ra) 18446744073709551616 (t,at',l,i,r,back,o):=rfl
@[reducible] def zN8:Type:=List (List UInt8×List (List UInt8×Int×Int×Bool×(Int×Int)×(Int×Int)×List UInt8))->Int->List (Int×List (Int×List Int))->Int->List UInt8×List (List UInt8×Int×List (List UInt8×(Int×Int)×List UInt8×Int))->List UInt8->List (List UInt8×Int×List (List UInt8×(Int×Int)×List UInt8×Int))->Option (As [.bool])
@[reducible] def zN9:Type:=(List (List UInt8×List (List UInt8×Int×Int×Bool×(Int×Int)×(Int×Int)×List UInt8)))×(Int)×(List (Int×List (Int×List Int)))×(Int)×(Int)×(List UInt8×List (List UInt8×Int×List (List UInt8×(Int×Int)×List UInt8×Int)))×(List UInt8)×(List (List UInt8×Int×List (List UInt8×(Int×Int)×List UInt8×Int)))×(List UInt8)×(Int)×(List (List UInt8×(Int×Int)×List UInt8×Int))->Option (As [.bool])
def agl(u4:zN8):=(fun (self:zN9) (s:(List (List UInt8×List (List UInt8×Int×Int×Bool×(Int×Int)×(Int×Int)×List UInt8)))×(Int)×(List (Int×List (Int×List Int)))×(Int)×(Int)×(List UInt8×List (List UInt8×Int×List (List UInt8×(Int×Int)×List UInt8×Int)))×(List UInt8)×(List (List UInt8×Int×List (List UInt8×(Int×Int)×List UInt8×Int)))×(List UInt8)×(Int)×(List (List UInt8×(Int×Int)×List UInt8×Int)))=>KJ (QS u4) u4 (fun t at' l i k r back o p p_2 o_2=>self (t,at',l,i,k,r,back,o,p,p_2,o_2)) s.1 s.2.1 s.2.2.1 s.2.2.2.1 s.2.2.2.2.1 s.2.2.2.2.2.1 s.2.2.2.2.2.2.1 s.2.2.2.2.2.2.2.1 s.2.2.2.2.2.2.2.2.1 s.2.2.2.2.2.2.2.2.2.1 s.2.2.2.2.2.2.2.2.2.2)
theorem alE(u4:zN8)(self:zN9)(t:zN1)(at':Int)(l:zN5)(i k:Int)(r:zN7)(back:List UInt8)(o:zN3)(p:List UInt8)(p_2:Int)(o_2:List (List UInt8×(Int×Int)×List UInt8×Int)):agl u4 self (t,at',l,i,k,r,back,o,p,p_2,o_2)=KJ (QS u4) u4 (fun t at' l i k r back o p p_2 o_2=>self (t,at',l,i,k,r,back,o,p,p_2,o_2)) t at' l i k r back o p p_2 o_2:=rfl
theorem auO(u4:zN8)(t:zN1)(at':Int)(l:zN5)(i k:Int)(r:zN7)(back:List UInt8)(o:zN3)(p:List UInt8)(p_2:Int)(o_2:List (List UInt8×(Int×Int)×List UInt8×Int)):KM u4 t at' l i k r back o p p_2 o_2=aj (agl u4) 18446744073709551616 (t,at',l,i,k,r,back,o,p,p_2,o_2):=rfl
@[reducible] def alF:Type:=(List (List UInt8×List (List UInt8×Int×Int×Bool×(Int×Int)×(Int×Int)×List UInt8)))×(Int)×(List (Int×List (Int×List Int)))×(Int)×(Int)×(List UInt8)×(List (List UInt8×Int×List (List UInt8×(Int×Int)×List UInt8×Int)))×(List (Int×List (Int×List Int)))->Option (As [.bool])
def alG :=(fun (self:alF) (s:(List (List UInt8×List (List UInt8×Int×Int×Bool×(Int×Int)×(Int×Int)×List UInt8)))×(Int)×(List (Int×List (Int×List Int)))×(Int)×(Int)×(List UInt8)×(List (List UInt8×Int×List (List UInt8×(Int×Int)×List UInt8×Int)))×(List (Int×List (Int×List Int))))=>KL (KN) (fun t who t182 t183 t184 back o left=>self (t,who,t182,t183,t184,back,o,left)) s.1 s.2.1 s.2.2.1 s.2.2.2.1 s.2.2.2.2.1 s.2.2.2.2.2.1 s.2.2.2.2.2.2.1 s.2.2.2.2.2.2.2)
theorem alH  (self:alF)(t:zN1)(who:Int)(t182:zN5)(t183:Int)(t184:Int)(back:List UInt8)(o:zN3)(left:zN5):alG self (t,who,t182,t183,t184,back,o,left)=KL (KN) (fun t who t182 t183 t184 back o left=>self (t,who,t182,t183,t184,back,o,left)) t who t182 t183 t184 back o left:=rfl
theorem auP  (t:zN1)(who:Int)(t182:zN5)(t183:Int)(t184:Int)(back:List UInt8)(o:zN3)(left:zN5):KO t who t182 t183 t184 back o left=aj (alG) 18446744073709551616 (t,who,t182,t183,t184,back,o,left):=rfl
@[reducible] def alI:Type:=(List (List UInt8×List (List UInt8×Int×Int×Bool×(Int×Int)×(Int×Int)×List UInt8)))×(Int)×(Int)->Option (As [.bool])
def agm :=(fun (self:alI) (s:(List (List UInt8×List (List UInt8×Int×Int×Bool×(Int×Int)×(Int×Int)×List UInt8)))×(Int)×(Int))=>Js (O7 (fun t10 t11 t12=>self (t10,t11,t12))) (fun t10 t11 t12=>self (t10,t11,t12)) s.1 s.2.1 s.2.2)
theorem alJ  (self:alI)(t10:zN1)(t11:Int)(t12:Int):agm self (t10,t11,t12)=Js (O7 (fun t10 t11 t12=>self (t10,t11,t12))) (fun t10 t11 t12=>self (t10,t11,t12)) t10 t11 t12:=rfl
theorem auQ  (t10:zN1)(t11:Int)(t12:Int):O8 t10 t11 t12=aj (agm) 18446744073709551616 (t10,t11,t12):=rfl
@[reducible] def agn:Type:=List (List UInt8×List (List UInt8×Int×Int×Bool×(Int×Int)×(Int×Int)×List UInt8))->Int->Int->Option (As [.bool])
@[reducible] def alK:Type:=(List (List UInt8×List (List UInt8×Int×Int×Bool×(Int×Int)×(Int×Int)×List UInt8)))×(Int)×(Int)×(List (List UInt8×Int×Int×Bool×(Int×Int)×(Int×Int)×List UInt8))×(Int)×(Int)->Option (As [.bool])
def alL(u1:agn):=(fun (self:alK) (s:(List (List UInt8×List (List UInt8×Int×Int×Bool×(Int×Int)×(Int×Int)×List UInt8)))×(Int)×(Int)×(List (List UInt8×Int×Int×Bool×(Int×Int)×(Int×Int)×List UInt8))×(Int)×(Int))=>Jt (O6 u1 (fun t10 t11 t12 t27 t28 t29=>self (t10,t11,t12,t27,t28,t29))) u1 (fun t10 t11 t12 t27 t28 t29=>self (t10,t11,t12,t27,t28,t29)) s.1 s.2.1 s.2.2.1 s.2.2.2.1 s.2.2.2.2.1 s.2.2.2.2.2)
@[reducible] def alM:Type:=List (List UInt8×Int×Int×Bool×(Int×Int)×(Int×Int)×List UInt8)
theorem alN(u1:agn)(self:alK)(t10:zN1)(t11 t12:Int)(t27:alM)(t28 t29:Int):alL u1 self (t10,t11,t12,t27,t28,t29)=Jt (O6 u1 (fun t10 t11 t12 t27 t28 t29=>self (t10,t11,t12,t27,t28,t29))) u1 (fun t10 t11 t12 t27 t28 t29=>self (t10,t11,t12,t27,t28,t29)) t10 t11 t12 t27 t28 t29:=rfl
theorem auR(u1:agn)(t10:zN1)(t11 t12:Int)(t27:alM)(t28 t29:Int):Ju u1 t10 t11 t12 t27 t28 t29=aj (alL u1) 18446744073709551616 (t10,t11,t12,t27,t28,t29):=rfl
end Go.Proofs.Lx
end
noncomputable section
set_option maxRecDepth 100000
namespace Go.Proofs.Lx
open Go Ev Sx Pl
abbrev KR:=Int×List Bk
theorem alO{n:Nat}:gt (zD n) 40=!decide (n≤40):=gtn (k:=40)
def Rb(p:TPt):Bool:=decide (p.1.length≤40) && decide (p.2.2.2.2.2.2.length≤40)
def KS(d:fZ):Bool:=decide (d.2.length≤40) && (decide (d.1.length≤40) && d.2.all Rb)
def Dk(t:bU):Bool:=decide (t.length≤10) && t.all KS
theorem YW(t:bU):Wl (t,())=some (Dk t,()):=by
 show Wk O8 t=_;unfold Wk Dk;have e10:gt (zD t.length) 10=!decide (t.length≤10):=gtn (k:=10);rw[e10];by_cases h:t.length≤10
 ·rw[decide_eq_true h,if_neg (by decide),Bool.true_and,auQ]
  have:aj agm 18446744073709551616 (t,zD t.length,0)=if t.all KS=true then some (true,()) else some (false,()):=by
   refine qP (xs:=t) (mk:=fun i=>(t,zD t.length,(i:Int))) (p:=KS) ?_ ?_ (by omega)
   ·intro self i d hd
    have hi:=(List.getElem?_eq_some_iff.1 hd).1;rw[alJ];unfold Js;rw[if_pos (by rw[bg,ay];omega),gK hd,zB]
    have K3:d.2.length≤40->Ju (fun t10 t11 t12=>self (t10,t11,t12)) t (zD t.length) (i:Int) d.2 (zD d.2.length) 0=if d.2.all Rb=true then self (t,zD t.length,((i+1:Nat):Int)) else some (false,()):=fun hd40=>by
     rw[auR];refine qP (xs:=d.2) (mk:=fun j=>(t,zD t.length,(i:Int),d.2,zD d.2.length,(j:Int))) (p:=Rb) ?_ ?_ (by omega)
     ·intro self4 j p hp
      have hj:=(List.getElem?_eq_some_iff.1 hp).1;rw[alN];unfold Jt;rw[if_pos (by rw[bg,ay];omega),gK hp,zB];have K4:∀b,O6 (fun t10 t11 t12=>self (t10,t11,t12)) (fun t10 t11 t12 t27 t28 t29=>self4 (t10,t11,t12,t27,t28,t29)) t (zD t.length) (i:Int) d.2 (zD d.2.length) (j:Int) b=if b=true then some (false,()) else self4 (t,zD t.length,(i:Int),d.2,zD d.2.length,((j+1:Nat):Int)):=fun b=>by show Wj _ _ t _ (i:Int) d.2 _ (j:Int) b=_;unfold Wj;rw[iO (by omega)]
      simp only[K4,alO];unfold Rb;cases decide (p.1.length≤40)<;>cases decide (p.2.2.2.2.2.2.length≤40)<;>rfl
     ·intro self4
      rw[alN];unfold Jt;rw[if_neg (by rw[bg,ay];omega),iO (by omega)]
    have K2:∀b,O7 (fun t10 t11 t12=>self (t10,t11,t12)) t (zD t.length) (i:Int) b d=if b=true then some (false,()) else Ju (fun t10 t11 t12=>self (t10,t11,t12)) t (zD t.length) (i:Int) d.2 (zD d.2.length) 0:=fun b=>rfl;simp only[K2,alO];unfold KS;by_cases h40:d.2.length≤40
    ·rw[K3 h40,decide_eq_true h40]
     cases decide (d.1.length≤40)<;>cases d.2.all Rb<;>rfl
    ·rw[decide_eq_false h40]
     rfl
   ·intro self
    rw[alJ];unfold Js;rw[if_neg (by rw[bg,ay];omega)]
  refine Eq.trans this ?_;cases t.all KS<;>rfl
 ·rw[decide_eq_false h]
  rfl
theorem aaB{t:bU}(h:Dk t=true):t.length≤10∧∀d∈t,d.2.length≤40:=by unfold Dk at h;simp only[zL,decide_eq_true_eq,List.all_eq_true]at h;refine⟨h.1,fun d hd=>?_⟩;have:=h.2 d hd;unfold KS at this;simp only[zL,decide_eq_true_eq]at this;exact this.1
theorem aaC{l:List Bk}(h:SmB l):F4 (l,l,())=some (true,()):=by rw[QX l l h h,decide_eq_true rfl]
theorem EA{a:List KR}(hl:a.length≤1000000)(h:∀s∈a,SmB s.2):F8 (a,a,())=some (true,()):=by
 show YC QO a a=_;unfold YC;rw[if_neg (fun e=>dK.1 e rfl)];unfold QO;refine Sw (mk:=fun i=>(a,a,zD a.length,(i:Int))) (N:=a.length) ?_ ?_ a.length 0 _ (by omega) (by omega)
 ·intro self i hi
  have hg:a[i]? = some a[i]:=zQ hi;have hs:=h a[i] (List.getElem_mem hi);generalize a[i]=s at hg hs;dsimp only;unfold YB;rw[if_pos (by rw[bg,ay];omega),gK hg,zB,zB,if_neg (fun e=>dK.1 e rfl),zB,zB,aaC hs,zB,<- iO (by omega)];rfl
 ·intro self
  dsimp only;unfold YB;rw[if_neg (by rw[bg,ay];omega)]
theorem alP(m:EnL):SmB ((dY m).getD []):=by
 cases e:dY m with
 | none=>exact⟨Nat.zero_le _,fun b hb=>by cases hb⟩
 | some l =>
  obtain⟨h1,h2,_⟩:=ah7 e;exact⟨by show l.length≤_;omega,fun b hb=>by have:=h1.len b hb;omega⟩
theorem H8:∀{ms:List EnL} {i:Nat},∀s∈eF i ms,SmB s.2
 | [],_,s,h=>by cases h
 | m::q,i,s,h=>by
  unfold eF at h;split at h
  ·exact H8 s h
  ·rcases List.mem_cons.1 h with rfl | h
   ·exact alP m
   ·exact H8 s h
theorem alQ(t:bU)(ps:List ak):(fU t ps).length=t.length:=by unfold fU;rw[zV]
def hLr(o:List ak)(y:As QF.rs):As QI.rs:=(y.1,y.2.1,o,())
theorem YX(o:List ak):∀(n:Nat) (ms:List EnL) (L i:Int) (f:Int×Int) (l:List (Int×List Bk)),aj agk n (ms,L,i,o,f,l)=(aj Q0 n (ms,L,i,f,l)).map (hLr o)
 | 0,_,_,_,_,_=>rfl
 | n+1,ms,L,i,f,l=>by
  rw[gB,gB,auL,age];unfold QK F6;split
  ·cases at? ms i with
   | none=>rfl
   | some m =>
    rw[zB,zB]
    cases yE (m,()) with
    | none=>rfl
    | some y =>
     rw[zB,zB];split
     ·unfold need
      split
      ·exact YX o n _ _ _ _ _
      ·rfl
     ·exact YX o n _ _ _ _ _
  ·rfl
theorem YY(t:bU)(ms:List EnL)(o:List ak):∀(n:Nat) (L i:Int) (f:Int×Int),aj agj n (t,ms,L,i,o,f)=(aj agb n (t,ms,o,L,i,f)).map (hLr o)
 | 0,_,_,_=>rfl
 | n+1,L,i,f=>by
  rw[gB,gB,auJ,agc];unfold QJ F5;split
  ·cases at? o i with
   | none=>rfl
   | some p =>
    rw[zB,zB,zB]
    cases lq (t,p.1,()) with
    | none=>rfl
    | some y =>
     rw[zB,zB];split
     ·cases at? ms y.1 with
      | none=>rfl
      | some m =>
       rw[zB,zB]
       cases yE (m,()) with
       | none=>rfl
       | some z =>
        rw[zB,zB];split
        ·rfl
        ·exact YY t ms o n _ _ _
     ·exact YY t ms o n _ _ _
  ·show QL ms (zD ms.length) 0 o f []=(KD ms (zD ms.length) 0 f []).map (hLr o)
   rw[auM,alB];exact YX o _ _ _ _ _ _
theorem aaD{t:bU}{nm':List UInt8}{ps:List ak}:QN (t,nm',ps,())=(F7 (t,(nm',ps),())).map (hLr ps):=by
 have ew:X9 (t,nm',ps,())=(Kn (t,(nm',ps),())).map fun y=>(y.1,y.2.1,ps,()):=rfl;show Yw QM t nm' ps=(KC KE t (nm',ps)).map (hLr ps);unfold Yw KC;rw[ew]
 cases Kn (t,(nm',ps),()) with
 | none=>rfl
 | some y =>
  rw[Option.map_some,zB,zB];dsimp only;split
  ·rfl
  ·rw[auK,alz]
   exact YY t y.1 ps _ _ _ _
theorem agq{ps:List ak}{n:Int}(h:∀p∈ps,p.2.2.length≤1000∧∀s∈p.2.2,0≤s.2.1.2):∀p∈rel n ps,p.2.2.length≤1000∧∀s∈p.2.2,0≤s.2.1.2:=by
 have hs:∀(ss:List bG) (n:Int),(∀s∈ss,0≤s.2.1.2)->∀s∈nH n ss,0≤s.2.1.2:=by
  intro ss
  induction ss with
  | nil=>intro n _ s h;cases h
  | cons a q ih =>
   intro n h s hm;unfold nH at hm;rcases List.mem_cons.1 hm with rfl | hm
   ·exact h a (by simp)
   ·exact ih (n+1) (fun x hx=>h x (zO _ hx)) s hm
 induction ps generalizing n with
 | nil=>intro p hp;cases hp
 | cons a q ih =>
  intro p hp;unfold rel at hp;rcases List.mem_cons.1 hp with rfl | hp
  ·have:=h a (by simp)
   exact⟨by dsimp only;rw[FQ];exact this.1,hs _ _ this.2⟩
  ·exact ih (fun x hx=>h x (zO _ hx)) p hp
theorem alR{t:bU}{nm':List UInt8}{o:List ak}{who:Int}{l:List KR}(hl:l.length≤1000):KO t who l (zD l.length) 0 nm' o []=KN t nm' o (l.filter fun s=>nei s.1 who):=by
 rw[auP]
 have e:∀(x acc:List KR),x.foldl (fun a s=>if nei s.1 who=true then a++[s] else a) acc=acc++x.filter fun s=>nei s.1 who:=by
  intro x
  induction x with
  | nil=>simp
  | cons a q ih =>
   intro acc;rw[List.foldl_cons,ih,List.filter_cons];split<;>simp
 refine (AY (mk:=fun i (a:List KR)=>(t,who,l,zD l.length,(i:Int),nm',o,a)) (xs:=l) (stp:=fun a s=>if nei s.1 who=true then a++[s] else a) (fin:=fun a=>KN t nm' o a) (fun i a=>a.length≤i) ?_ ?_ ?_ l.length 0 [] 18446744073709551616 (by omega) (by omega) (Nat.le_refl _)).trans (by rw[List.drop_zero,e];rfl)
 ·intro self i acc x hx hI
  have hi:=(List.getElem?_eq_some_iff.1 hx).1;rw[alH];unfold KL;rw[if_pos (bg.2 (by rw[ay];omega)),gK hx,zB,iO (by omega)];split
  ·rw[jU (by show acc.length+1≤_;omega)]
  ·rfl
 ·intro i acc x hx hI
  split
  ·rw[List.length_append,List.length_singleton];omega
  ·omega
 ·intro self acc _
  rw[alH];unfold KL;rw[if_neg (fun h=>by have:=bg.1 h;rw[ay]at this;omega)]
section
variable {t:bU}{at':Int}{l:List KR}{r:eT}
theorem agJ{self:bU->Int->List KR->Int->eT->List UInt8->List ak->Option (As [.bool])}{i:Nat}{p:ak}{o:List ak}(hp:r.2[i]? = some p)(hl:p.2.2.length≤1000):∀(m n:Nat),m≤p.2.2.length->m<n ->
  aj (agl self) n (t,at',l,(i:Int),(m:Int) - 1,r,[98],o,p.1,0,(p.2.2.drop m).reverse)=QS self t at' l (i:Int) r [98] o p.1 0 p.2.2.reverse
 | _,0,_,h=>by omega
 | 0,n+1,_,_=>by rw[gB,alE];unfold KJ;rw[if_neg (by rw[dN];omega),List.drop_zero]
 | m+1,n+1,hm,hn=>by
  have hlt:m<p.2.2.length:=by omega
  rw[gB,alE];unfold KJ;have e0:((m+1:Nat):Int) - 1=(m:Int):=by omega
  have e1:Sx.sub .i64 (m:Int) 1=(m:Int) - 1:=iR (by omega) (by omega);have e2:(p.2.2.drop (m+1)).reverse++[p.2.2[m]]=(p.2.2.drop m).reverse:=by rw[List.drop_eq_getElem_cons hlt,List.reverse_cons]
  rw[e0,if_pos (by rw[dN];omega),gK hp,zB,gK (zQ hlt),zB,jU (by rw[List.length_reverse,List.length_drop];show p.2.2.length - (m+1)+1≤_;omega),e1,e2];exact agJ hp hl m n (by omega) (by omega)
theorem agK(hr:r.2.length≤1000)(hs:∀p∈r.2,p.2.2.length≤1000):∀(k n:Nat),k≤r.2.length->k<n ->
  aj Ra n (t,at',l,(k:Int) - 1,r,[98],((r.2.drop k).map Dj).reverse)=QT t at' l [98] (iC r.2)
 | _,0,_,h=>by omega
 | 0,n+1,_,_=>by rw[gB,alD];unfold KI;rw[if_neg (by rw[dN];omega),List.drop_zero];rfl
 | k+1,n+1,hk,hn=>by
  have hlt:k<r.2.length:=by omega
  have hp:=zQ hlt;have hl:=hs _ (List.getElem_mem hlt);rw[gB,alD];unfold KI;have e0:((k+1:Nat):Int) - 1=(k:Int):=by omega
  rw[e0,if_pos (by rw[dN];omega),gK hp,zB,zB,auO];have e1:Sx.sub .i64 (zD (r.2[k]).2.2.length) 1=(((r.2[k]).2.2.length:Nat):Int) - 1:=iR (by rw[ay];omega) (by rw[ay];omega);have h5:=agJ (t:=t) (at':=at') (l:=l) (self:=fun t at' l i r back o=>aj Ra n (t,at',l,i,r,back,o)) (o:=((r.2.drop (k+1)).map Dj).reverse) hp hl (r.2[k]).2.2.length 18446744073709551616 (Nat.le_refl _) (by omega);rw[List.drop_of_length_le (Nat.le_refl _)]at h5;rw[e1];refine h5.trans ?_;show YH (af7 _) _ t at' l (k:Int) r [98] _ _ 0 _=_;unfold YH;have e2:Sx.sub .i64 (k:Int) 1=(k:Int) - 1:=iR (by omega) (by omega);have e3:((r.2.drop (k+1)).map Dj).reverse++[((r.2[k]).1,0,(r.2[k]).2.2.reverse)]=((r.2.drop k).map Dj).reverse:=by rw[List.drop_eq_getElem_cons hlt,List.map_cons,List.reverse_cons];rfl
  rw[jU (by rw[List.length_reverse,zV,List.length_drop];show r.2.length - (k+1)+1≤_;omega),e3];show aj Ra n (t,at',l,Sx.sub .i64 (k:Int) 1,r,[98],_)=_;rw[e2];exact agK hr hs k n (by omega) (by omega)
end
theorem agr{t:bU}{r:eT}{at':Int}(hd:∀d∈t,∀p∈d.2,PtR p)(he:∀p∈r.2,∀s∈p.2.2,0≤s.2.1.2)(ha:0≤at'∧at'≤255):af8 (t,r,at',())=some (true,()):=by
 have aw:∀{f:Bool×Unit->Option (As [.bool])},(Bh ()).bind f=f (true,()):=fun {f}=>by rw[awake];rfl
 have K1t:YO t at' true r=some (true,()):=by show KG _ t at' true r=_;unfold KG;rw[if_pos rfl,aw]
 have K2t:∀l s,YN t at' l s true r=some (true,()):=fun l s=>by show KH _ t at' l s true r=_;unfold KH;rw[if_pos rfl,aw]
 show YK YO t r at'=_;unfold YK;rw[YW,zB];dsimp only
 cases hsm:Dk t with
 | false=>exact K1t
 | true =>
 rw[if_neg (by decide),akg,zB];dsimp only
 cases hfw:Qe r with
 | false=>exact K1t
 | true =>
 obtain⟨ht1,ht2⟩:=aaB hsm;obtain⟨hr1,_,hr2⟩:=ahH hfw;have ht:Kj t:=⟨by omega,fun d h=>⟨by have:=ht2 d h;omega,hd d h⟩⟩;have hr:FR r:=⟨by omega,fun p hp=>⟨by have:=(hr2 p hp).1;omega,he p hp⟩⟩;show KG YN t at' false r=_;unfold KG;rw[if_neg (by decide),DY ht hr,zB]
 cases hB:eX r with
 | false =>
  have h0:(qm t r).2.1≠0:=fun e=>by have:=(Tm e).r;rw[hB]at this;cases this
  rw[ae3 hB (by omega) (fun p hp=>by have:=(hr2 p hp).1;omega),zB];dsimp only;rw[if_pos (dK.2 h0)];exact K2t _ _
 | true =>
 rw[Z7 hB he (by omega) (fun p hp=>by have:=(hr2 p hp).1;omega),zB];dsimp only;by_cases hn0:(qm t r).2.1≠0
 ·rw[if_pos (dK.2 hn0)]
  exact K2t _ _
 have h0:(qm t r).2.1=0:=Decidable.byContradiction hn0;have ok:=Tm h0;rw[if_neg (fun e=>dK.1 e h0),if_neg (by decide),DZ ok];dsimp only;by_cases hlen:8192<(lK r).length
 ·rw[show gt (zD (lK r).length) 8192=true from fC.2 (by rw[ay];omega)]
  exact K2t _ _
 rw[show gt (zD (lK r).length) 8192=false from Bool.eq_false_iff.2 (fun e=>by have:=fC.1 e;rw[ay]at this;omega)];obtain⟨okl,ewl⟩:=aia ok 2;obtain⟨okv,ewv⟩:=aid ok;have hrl:FR (r.1,rel 2 r.2):=⟨by show (rel 2 r.2).length≤_;rw[Kg];exact hr.1,agq hr.2⟩
 have hrv:FR ([98],iC r.2):=⟨by show (iC r.2).length≤_;rw[Bq];exact hr.1,fun x hx=>by
  obtain⟨p,hp,rfl⟩:=wD.1 hx;have:=hr.2 p hp
  exact⟨by show p.2.2.reverse.length≤_;rw[List.length_reverse];exact this.1,fun s hs=>this.2 s (List.mem_reverse.1 hs)⟩⟩
 have hsl:(eF 0 (fU t r.2)).length≤1000:=by have:=Tj 0 (fU t r.2);rw[alQ]at this;omega
 have self:F8 (eF 0 (fU t r.2),eF 0 (fU t r.2),())=some (true,()):=EA (by omega) H8
 have K3:YM t at' (eF 0 (fU t r.2)) false r=some (true,()):=by
  have K8:YL t at' (eF 0 (fU t r.2)) false [98] (iC r.2)=some (true,()):=by
   show YI KO t at' _ false [98] (iC r.2)=_;unfold YI;rw[if_neg (by decide)];by_cases hz:r.2.length=0
   ·have e0:r.2=[]:=List.length_eq_zero_iff.1 hz
    rw[if_pos (fQ.2 (by rw[ay,Bq];omega)),if_pos (fQ.2 (by rw[e0,Q9];rfl)),aw]
   ·have hlv:(iC r.2).length=r.2.length:=Bq _
    have ek:rem (cvt .i64 at') (zD (iC r.2).length)=((at'.toNat%(iC r.2).length:Nat):Int):=by rw[lY (by omega) (by omega),ay];unfold rem;obtain⟨n,hn⟩:=Int.eq_ofNat_of_zero_le ha.1;rw[hn,Int.tmod_eq_emod_of_nonneg (by omega),zM];rfl
    have hk:at'.toNat%(iC r.2).length<(iC r.2).length:=Nat.mod_lt _ (by omega);generalize at'.toNat%(iC r.2).length=k at ek hk;have hp:=zQ hk;have hpm:=List.getElem_mem hk;generalize (iC r.2)[k]=p at hp hpm;obtain⟨⟨w,d⟩,hz2,_⟩:=(o9 okv.p).2 p hpm;obtain⟨okc,ewc⟩:=aie okv hp hz2
    have hrc:FR ([98],nJ (iC r.2) k p):=⟨by show (nJ _ k p).length≤_;unfold nJ;rw[List.length_set];exact hrv.1,fun x hx=>by
     rcases zx hp (o9 okv.p).1.1 hx with rfl | ⟨h3,_⟩
     ·exact⟨Nat.zero_le _,fun s hs=>by cases hs⟩
     ·exact hrv.2 x h3⟩
    have hwl:(fU t (nJ (iC r.2) k p)).length=t.length:=alQ _ _;rw[if_neg (fun e=>by have:=fQ.1 e;rw[ay]at this;omega),gW (dK.2 (by rw[ay];omega)),ek,gK hp,zB,zB,find_eq (by omega),hz2,zB,zB,zB,zM];dsimp only;rw[alR hsl];show YJ t [98] (nJ (iC r.2) k p) _=_;unfold YJ;rw[aaD,DY ht hrc,DZ okc,Option.map_some,zB];unfold hLr;dsimp only;rw[if_pos (by decide),ewc,ewv,EA (Nat.le_trans (List.length_filter_le _ _) (by omega)) (fun s hs=>H8 s (List.mem_filter.1 hs).1),zB,if_pos rfl,aw]
  show YF QU t at' _ false r=_;unfold YF;have e1:Sx.sub .i64 (zD r.2.length) 1=((r.2.length:Nat):Int) - 1:=iR (by rw[ay];omega) (by rw[ay];omega);rw[if_neg (by decide),e1,auN];have h4:=agK (t:=t) (at':=at') (l:=eF 0 (fU t r.2)) hr.1 (fun p hp=>(hr.2 p hp).1) r.2.length 18446744073709551616 (Nat.le_refl _) (by have:=hr.1;omega);rw[List.drop_of_length_le (Nat.le_refl _)]at h4;refine h4.trans ?_;show YG YL t at' _ [98] (iC r.2)=_;unfold YG;rw[aaD,DY ht hrv,DZ okv,Option.map_some,zB];unfold hLr;dsimp only;rw[if_neg (by decide),ewv,self,zB];exact K8
 show KH YM t at' _ (lK r) false r=_;unfold KH;rw[if_neg (by decide),Rs (al3 hB he),if_neg hlen];show Option.bind (F7 (t,(r.1,rel 2 r.2),())) _=_;rw[DY ht hrl,DZ okl,zB];dsimp only;rw[ewl,if_neg (by decide),if_neg (by decide),self,zB];exact K3
end Go.Proofs.Lx
end
noncomputable section
namespace Go.Proofs.Lx
open Go Go.RowKit Go.ChangeShapes Go.Proofs Go.Proofs.YtnamnibaedolaaaGreatDoor
theorem gP:Tryz.prog.globalNamed p10=some 1:=by kernel_rfl
theorem ags{W W':World}{n:String}{g:Nat}{cs:Array Value}(hg:Tryz.prog.globalNamed n=some g)(h:W.var? Tryz.prog n=some cs)(hB:Below W.heap.size W W'):W'.var? Tryz.prog n=some cs:=by
 unfold World.var? at h ⊢;rw[hg]at h ⊢;simp only[zB]at h ⊢
 have hlt:g<W.heap.size:=by
  rcases Nat.lt_or_ge g W.heap.size with h' | h'
  ·exact h'
  ·simp[Array.getElem?_eq_none h']at h
 rw[hB.block g hlt];exact h
theorem aif{W:World}(hL:laidMet Tryz.prog Rows.planTextRow.laid W):∀W',Below W.heap.size W W'->I0 W':=by intro W' hB;have t2:laidMet Tryz.prog ((p10,Lib.tabData .u64 Lib.pow10Tab)::(Rows.planTextRow.laid.drop 3)) W:=hL.tail.tail;exact ags gP (Lib.tabIs_of_head gP (t:=210) (by kernel_rfl) Tryz.underlying210 Tryz.underlying150 (by kernel_rfl) (by kernel_rfl) t2) hB
open Ev Sx Pl
theorem alS(x:As [.sl ji,.pr .str (.sl dH),.int .u8])(h:Rw.okA [.sl ji,.pr .str (.sl dH),.int .u8] x):af8 x=some (true,()):=by
 obtain⟨t,r,at',u⟩:=x;refine agr (fun d hd p hp=>?_) (fun p hp s hs=>?_) (XZ h.2.2.1)
 ·have h1:=(h.1.2 d hd).2.2 p hp
  exact⟨(XZ h1.2.2.2.2.1.2).1,(XZ h1.2.2.2.2.2.1.2).1⟩
 ·have h1:=(h.2.1.2.2 p hp).2.2.2 s hs
  exact (XZ h1.2.1.2).1
end Go.Proofs.Lx
end
