/- Part 13 of 14: PlanTells returns true, whatever it is given. Conditions: those of the given statement, no others. -/
import Derived.Test.YtnamnibaedolaaaParti
import Derived.Test.YtnamnibaedolaaaPartj
import Derived.Test.YtnamnibaedolaaaPartl
import Derived.Test.YtnamnibaedolaaaParte
set_option linter.unusedVariables false
set_option linter.unusedSimpArgs false
section
set_option maxRecDepth 100000
namespace Go.Proofs.Lx
open Go Ev Sx
@[reducible] def zM0:Type:=(List (List UInt8×List (List UInt8×Int×Int×Bool×(Int×Int)×(Int×Int)×List UInt8)))×(Int)×(Int)->Option (As [.bool])
def qf8_ :=(fun (self:zM0) (s:(List (List UInt8×List (List UInt8×Int×Int×Bool×(Int×Int)×(Int×Int)×List UInt8)))×(Int)×(Int))=>q4d_ (q88_ (fun t10 t11 t12=>self (t10,t11,t12))) (fun t10 t11 t12=>self (t10,t11,t12)) s.1 s.2.1 s.2.2)
@[reducible] def zM1:Type:=List (List UInt8×List (List UInt8×Int×Int×Bool×(Int×Int)×(Int×Int)×List UInt8))
theorem ql2_  (self:zM0) (t10:zM1) (t11:Int) (t12:Int):qf8_ self (t10,t11,t12)=q4d_ (q88_ (fun t10 t11 t12=>self (t10,t11,t12))) (fun t10 t11 t12=>self (t10,t11,t12)) t10 t11 t12:=rfl
theorem qsm_  (t10:zM1) (t11:Int) (t12:Int):qbt_ t10 t11 t12=loopF (qf8_) 18446744073709551616 (t10,t11,t12):=rfl
@[reducible] def zM2:Type:=List (List UInt8×List (List UInt8×Int×Int×Bool×(Int×Int)×(Int×Int)×List UInt8))->Int->Int->Option (As [.bool])
@[reducible] def zM3:Type:=(List (List UInt8×List (List UInt8×Int×Int×Bool×(Int×Int)×(Int×Int)×List UInt8)))×(Int)×(Int)×(List (List UInt8×Int×Int×Bool×(Int×Int)×(Int×Int)×List UInt8))×(Int)×(Int)->Option (As [.bool])
def qls_ (u1:zM2):=(fun (self:zM3) (s:(List (List UInt8×List (List UInt8×Int×Int×Bool×(Int×Int)×(Int×Int)×List UInt8)))×(Int)×(Int)×(List (List UInt8×Int×Int×Bool×(Int×Int)×(Int×Int)×List UInt8))×(Int)×(Int))=>q4j_ (q7q_ u1 (fun t10 t11 t12 t27 t28 t29=>self (t10,t11,t12,t27,t28,t29))) u1 (fun t10 t11 t12 t27 t28 t29=>self (t10,t11,t12,t27,t28,t29)) s.1 s.2.1 s.2.2.1 s.2.2.2.1 s.2.2.2.2.1 s.2.2.2.2.2)
@[reducible] def zM4:Type:=List (List UInt8×Int×Int×Bool×(Int×Int)×(Int×Int)×List UInt8)
theorem ql6_ (u1:zM2) (self:zM3) (t10:zM1) (t11 t12:Int) (t27:zM4) (t28 t29:Int):qls_ u1 self (t10,t11,t12,t27,t28,t29)=q4j_ (q7q_ u1 (fun t10 t11 t12 t27 t28 t29=>self (t10,t11,t12,t27,t28,t29))) u1 (fun t10 t11 t12 t27 t28 t29=>self (t10,t11,t12,t27,t28,t29)) t10 t11 t12 t27 t28 t29:=rfl
theorem qsn_ (u1:zM2) (t10:zM1) (t11 t12:Int) (t27:zM4) (t28 t29:Int):q7x_ u1 t10 t11 t12 t27 t28 t29=loopF (qls_ u1) 18446744073709551616 (t10,t11,t12,t27,t28,t29):=rfl
@[reducible] def zM5:Type:=(List (List UInt8×Int×List (List UInt8×(Int×Int)×List UInt8×Int)))×(Int)×(Int)->Option (As [.bool])
def qnu_ :=(fun (self:zM5) (s:(List (List UInt8×Int×List (List UInt8×(Int×Int)×List UInt8×Int)))×(Int)×(Int))=>q7m_ (qa4_ (fun t18 t19 t20=>self (t18,t19,t20))) (fun t18 t19 t20=>self (t18,t19,t20)) s.1 s.2.1 s.2.2)
@[reducible] def zM6:Type:=List (List UInt8×Int×List (List UInt8×(Int×Int)×List UInt8×Int))
theorem qmv_  (self:zM5) (t18:zM6) (t19:Int) (t20:Int):qnu_ self (t18,t19,t20)=q7m_ (qa4_ (fun t18 t19 t20=>self (t18,t19,t20))) (fun t18 t19 t20=>self (t18,t19,t20)) t18 t19 t20:=rfl
theorem qt5_  (t18:zM6) (t19:Int) (t20:Int):qa3_ t18 t19 t20=loopF (qnu_) 18446744073709551616 (t18,t19,t20):=rfl
@[reducible] def zM7:Type:=List (List UInt8×Int×List (List UInt8×(Int×Int)×List UInt8×Int))->Int->Int->Option (As [.bool])
@[reducible] def zM8:Type:=(List (List UInt8×Int×List (List UInt8×(Int×Int)×List UInt8×Int)))×(Int)×(Int)×(List (List UInt8×(Int×Int)×List UInt8×Int))×(Int)×(Int)->Option (As [.bool])
def qo6_ (u2:zM7):=(fun (self:zM8) (s:(List (List UInt8×Int×List (List UInt8×(Int×Int)×List UInt8×Int)))×(Int)×(Int)×(List (List UInt8×(Int×Int)×List UInt8×Int))×(Int)×(Int))=>q80_ (q9v_ u2 (fun t18 t19 t20 t35 t36 t37=>self (t18,t19,t20,t35,t36,t37))) u2 (fun t18 t19 t20 t35 t36 t37=>self (t18,t19,t20,t35,t36,t37)) s.1 s.2.1 s.2.2.1 s.2.2.2.1 s.2.2.2.2.1 s.2.2.2.2.2)
theorem qmn_ (u2:zM7) (self:zM8) (t18:zM6) (t19 t20:Int) (t35:List (List UInt8×(Int×Int)×List UInt8×Int)) (t36 t37:Int):qo6_ u2 self (t18,t19,t20,t35,t36,t37)=q80_ (q9v_ u2 (fun t18 t19 t20 t35 t36 t37=>self (t18,t19,t20,t35,t36,t37))) u2 (fun t18 t19 t20 t35 t36 t37=>self (t18,t19,t20,t35,t36,t37)) t18 t19 t20 t35 t36 t37:=rfl
theorem qt1_ (u2:zM7) (t18:zM6) (t19 t20:Int) (t35:List (List UInt8×(Int×Int)×List UInt8×Int)) (t36 t37:Int):qa8_ u2 t18 t19 t20 t35 t36 t37=loopF (qo6_ u2) 18446744073709551616 (t18,t19,t20,t35,t36,t37):=rfl
end Go.Proofs.Lx
end
section
set_option maxRecDepth 100000
namespace Go.Proofs.Lx
open Go Ev Sx Pl
theorem gt40 {n:Nat}:gt (Int.ofNat n) 40=!decide (n≤40):=gtn (k:=40)
def smPt (p:TPt):Bool:=decide (p.1.length≤40) && decide (p.2.2.2.2.2.2.length≤40)
def smDv (d:TDev):Bool:=decide (d.2.length≤40) && (decide (d.1.length≤40) && d.2.all smPt)
def smallB (t:TTab):Bool:=decide (t.length≤10) && t.all smDv
theorem small15_eq (t:TTab):q9b_ (t,())=some (smallB t,()):=by
 show qcp_ qbt_ t=_
 unfold qcp_ smallB
 have e10:gt (Int.ofNat t.length) 10=!decide (t.length≤10):=gtn (k:=10)
 rw [e10]
 by_cases h:t.length≤10
 ·rw [decide_eq_true h,if_neg (by decide),Bool.true_and,qsm_]
  have:loopF qf8_ 18446744073709551616 (t,Int.ofNat t.length,0)=if t.all smDv=true then some (true,()) else some (false,()):=by
   refine loop_all (xs:=t) (mk:=fun i=>(t,Int.ofNat t.length,(i:Int))) (p:=smDv) ?_ ?_ (by omega)
   ·intro self i d hd
    have hi:=(List.getElem?_eq_some_iff.1 hd).1
    rw [ql2_]
    unfold q4d_
    rw [if_pos (by rw [q1_,q0_]; omega),q4_ hd,Option.bind_some]
    have K3:d.2.length≤40->q7x_ (fun t10 t11 t12=>self (t10,t11,t12)) t (Int.ofNat t.length) (i:Int) d.2 (Int.ofNat d.2.length) 0=if d.2.all smPt=true then self (t,Int.ofNat t.length,((i + 1:Nat):Int)) else some (false,()):=fun hd40=>by
     rw [qsn_]
     refine loop_all (xs:=d.2) (mk:=fun j=>(t,Int.ofNat t.length,(i:Int),d.2,Int.ofNat d.2.length,(j:Int))) (p:=smPt) ?_ ?_ (by omega)
     ·intro self4 j p hp
      have hj:=(List.getElem?_eq_some_iff.1 hp).1
      rw [ql6_]
      unfold q4j_
      rw [if_pos (by rw [q1_,q0_]; omega),q4_ hp,Option.bind_some]
      have K4:∀ b,q7q_ (fun t10 t11 t12=>self (t10,t11,t12)) (fun t10 t11 t12 t27 t28 t29=>self4 (t10,t11,t12,t27,t28,t29)) t (Int.ofNat t.length) (i:Int) d.2 (Int.ofNat d.2.length) (j:Int) b=if b=true then some (false,()) else self4 (t,Int.ofNat t.length,(i:Int),d.2,Int.ofNat d.2.length,((j + 1:Nat):Int)):=fun b=>by
       show qas_ _ _ t _ (i:Int) d.2 _ (j:Int) b=_
       unfold qas_
       rw [q9_ (by omega)]
      simp only [K4,gt40]
      unfold smPt
      cases decide (p.1.length≤40) <;> cases decide (p.2.2.2.2.2.2.length≤40) <;> rfl
     ·intro self4
      rw [ql6_]
      unfold q4j_
      rw [if_neg (by rw [q1_,q0_]; omega),q9_ (by omega)]
    have K2:∀ b,q88_ (fun t10 t11 t12=>self (t10,t11,t12)) t (Int.ofNat t.length) (i:Int) b d=if b=true then some (false,()) else q7x_ (fun t10 t11 t12=>self (t10,t11,t12)) t (Int.ofNat t.length) (i:Int) d.2 (Int.ofNat d.2.length) 0:=fun b=>rfl
    simp only [K2,gt40]
    unfold smDv
    by_cases h40:d.2.length≤40
    ·rw [K3 h40,decide_eq_true h40]
     cases decide (d.1.length≤40) <;> cases d.2.all smPt <;> rfl
    ·rw [decide_eq_false h40]
     rfl
   ·intro self
    rw [ql2_]
    unfold q4d_
    rw [if_neg (by rw [q1_,q0_]; omega)]
  refine Eq.trans this ?_
  cases t.all smDv <;> rfl
 ·rw [decide_eq_false h]
  rfl
def fwSet (s:TSet):Bool:=decide (s.1.length≤40) && decide (s.2.2.1.length≤40)
def fwPart (p:TPart):Bool:=decide (p.2.2.length≤70) && (decide (p.1.length≤40) && p.2.2.all fwSet)
def fewB (r:TRec):Bool:=decide (r.2.length≤12) && (decide (r.1.length≤40) && r.2.all fwPart)
theorem few_eq (r:TRec):qfb_ (r,())=some (fewB r,()):=by
 show qg8_ qgn_ r=_
 unfold qg8_ fewB
 have e12:gt (Int.ofNat r.2.length) 12=!decide (r.2.length≤12):=gtn (k:=12)
 have K1:∀ b,qgn_ b r=if b=true then some (false,()) else qa3_ r.2 (Int.ofNat r.2.length) 0:=fun b=>rfl
 simp only [K1,e12,gt40]
 by_cases h:r.2.length≤12
 ·have e64:∀ n:Nat,gt (Int.ofNat n) 70=!decide (n≤70):=fun n=>gtn (k:=70)
  have:qa3_ r.2 (Int.ofNat r.2.length) 0=if r.2.all fwPart=true then some (true,()) else some (false,()):=by
   rw [qt5_]
   refine loop_all (xs:=r.2) (mk:=fun i=>(r.2,Int.ofNat r.2.length,(i:Int))) (p:=fwPart) ?_ ?_ (by omega)
   ·intro self i d hd
    have hi:=(List.getElem?_eq_some_iff.1 hd).1
    rw [qmv_]
    unfold q7m_
    rw [if_pos (by rw [q1_,q0_]; omega),q4_ hd,Option.bind_some]
    have K4:d.2.2.length≤70->qa8_ (fun t18 t19 t20=>self (t18,t19,t20)) r.2 (Int.ofNat r.2.length) (i:Int) d.2.2 (Int.ofNat d.2.2.length) 0=if d.2.2.all fwSet=true then self (r.2,Int.ofNat r.2.length,((i + 1:Nat):Int)) else some (false,()):=fun hd40=>by
     rw [qt1_]
     refine loop_all (xs:=d.2.2) (mk:=fun j=>(r.2,Int.ofNat r.2.length,(i:Int),d.2.2,Int.ofNat d.2.2.length,(j:Int))) (p:=fwSet) ?_ ?_ (by omega)
     ·intro self4 j p hp
      have hj:=(List.getElem?_eq_some_iff.1 hp).1
      rw [qmn_]
      unfold q80_
      rw [if_pos (by rw [q1_,q0_]; omega),q4_ hp,Option.bind_some]
      have K5:∀ b,q9v_ (fun t18 t19 t20=>self (t18,t19,t20)) (fun t18 t19 t20 t35 t36 t37=>self4 (t18,t19,t20,t35,t36,t37)) r.2 (Int.ofNat r.2.length) (i:Int) d.2.2 (Int.ofNat d.2.2.length) (j:Int) b=if b=true then some (false,()) else self4 (r.2,Int.ofNat r.2.length,(i:Int),d.2.2,Int.ofNat d.2.2.length,((j + 1:Nat):Int)):=fun b=>by
       show qfy_ _ _ r.2 _ (i:Int) d.2.2 _ (j:Int) b=_
       unfold qfy_
       rw [q9_ (by omega)]
      simp only [K5,gt40]
      unfold fwSet
      cases decide (p.1.length≤40) <;> cases decide (p.2.2.1.length≤40) <;> rfl
     ·intro self4
      rw [qmn_]
      unfold q80_
      rw [if_neg (by rw [q1_,q0_]; omega),q9_ (by omega)]
    have K3:∀ b,qa4_ (fun t18 t19 t20=>self (t18,t19,t20)) r.2 (Int.ofNat r.2.length) (i:Int) b d=if b=true then some (false,()) else qa8_ (fun t18 t19 t20=>self (t18,t19,t20)) r.2 (Int.ofNat r.2.length) (i:Int) d.2.2 (Int.ofNat d.2.2.length) 0:=fun b=>rfl
    simp only [K3,gt40,e64]
    unfold fwPart
    by_cases h40:d.2.2.length≤70
    ·rw [K4 h40,decide_eq_true h40]
     cases decide (d.1.length≤40) <;> cases d.2.2.all fwSet <;> rfl
    ·rw [decide_eq_false h40]
     rfl
   ·intro self
    rw [qmv_]
    unfold q7m_
    rw [if_neg (by rw [q1_,q0_]; omega)]
  rw [this,decide_eq_true h]
  cases decide (r.1.length≤40) <;> cases r.2.all fwPart <;> rfl
 ·rw [decide_eq_false h]
  rfl
theorem small_len {t:TTab} (h:smallB t=true):t.length≤10∧∀ d ∈ t,d.2.length≤40:=by
 unfold smallB at h
 simp only [Bool.and_eq_true,decide_eq_true_eq,List.all_eq_true] at h
 refine ⟨h.1,fun d hd=>?_⟩
 have:=h.2 d hd
 unfold smDv at this
 simp only [Bool.and_eq_true,decide_eq_true_eq] at this
 exact this.1
theorem few_len {r:TRec} (h:fewB r=true):r.2.length≤12∧∀ p ∈ r.2,p.2.2.length≤70:=by
 unfold fewB at h
 simp only [Bool.and_eq_true,decide_eq_true_eq,List.all_eq_true] at h
 refine ⟨h.1,fun d hd=>?_⟩
 have:=h.2.2 d hd
 unfold fwPart at this
 simp only [Bool.and_eq_true,decide_eq_true_eq] at this
 exact this.1
def setL (bank:List Int) (L:EnL):List Int:=L.foldl (fun b e=>setW b e.1 e.2) bank
theorem setL_len:∀ (L:EnL) (bank:List Int),(setL bank L).length=bank.length
 | [],_=>rfl
 | e::q,bank=>by
  show (setL (setW bank e.1 e.2) q).length=_
  rw [setL_len q,setW_len]
theorem overW_set:∀ (ws:List Int) (a:Int) (bank:List Int),overW bank a ws=setL bank (fl a ws)
 | [],_,_=>rfl
 | w::r,a,bank=>by
  show overW (setW bank a w) (a + 1) r=setL (setW bank a w) (fl (a + 1) r)
  exact overW_set r (a + 1) _
theorem setL_app (bank:List Int) (L K:EnL):setL bank (L++K)=setL (setL bank L) K:=by unfold setL; rw [List.foldl_append]
theorem over_set:∀ (l:List Bk) (bank:List Int),over bank l=setL bank (flat l)
 | [],_=>rfl
 | b::r,bank=>by
  show over (overW bank b.1 b.2) r=setL bank (fl b.1 b.2++flat r)
  rw [over_set r,overW_set,setL_app]
end Go.Proofs.Lx
end
section
set_option maxRecDepth 100000
namespace Go.Proofs.Lx
open Go Ev Sx Pl
abbrev TShr:=Int×List Bk
theorem shr_in:∀ {ms:List EnL} {i:Nat} {s:TShr},s ∈ shrS i ms->∃ j:Nat,s.1=((i + j:Nat):Int)∧∃ m,ms[j]? = some m∧s.2=(blkM m).getD []∧s.2.length ≠ 0
 | [],_,_,h=>by simp [shrS] at h
 | m::q,i,s,h=>by
  have tl:s ∈ shrS (i + 1) q->∃ j:Nat,s.1=((i + j:Nat):Int)∧∃ n,(m::q)[j]? = some n∧s.2=(blkM n).getD []∧s.2.length ≠ 0:=fun h=>by
   obtain ⟨j,h1,n,h2,h3⟩:=shr_in h
   exact ⟨j + 1,by rw [h1]; congr 1; omega,n,by simpa using h2,h3⟩
  unfold shrS at h
  split at h
  ·exact tl h
  ·rename_i h0
   rcases List.mem_cons.1 h with h | h
   ·subst h
    exact ⟨0,by simp,m,by simp,rfl,h0⟩
   ·exact tl h
theorem okU8 {x:Int} (h:(Lit.int .u8 x).wf=true):0≤x:=by
 simp [Lit.wf] at h
 have e1:IntKind.u8.min=0:=rfl
 omega
end Go.Proofs.Lx
end
section
set_option maxRecDepth 100000
namespace Go.Proofs.Lx
open Go Ev Sx Pl
theorem wrP_one {s:TSet}:∀ {qs:List TPt} (_:(qs.map (·.1)).Nodup) {x:TPt} (_:x ∈ qs) (_:x.1=s.1),wrP s qs=[(x.2.1,(wrdS x s).1)]
 | [],_,x,hx,_=>by cases hx
 | y::q,hn,x,hx,he=>by
  rw [List.map_cons,List.nodup_cons] at hn
  unfold wrP
  rw [List.filter_cons]
  rcases List.mem_cons.1 hx with rfl | hx
  ·rw [if_pos (q1h_.2 he)]
   have:q.filter (fun p=>eqs p.1 s.1)=[]:=by
    rw [List.filter_eq_nil_iff]
    intro p hp e
    exact hn.1 (List.mem_map.2 ⟨p,hp,(q1h_.1 e).trans he.symm⟩)
   rw [this]
   rfl
  ·have:¬ eqs y.1 s.1=true:=fun e=>hn.1 (List.mem_map.2 ⟨x,hx,he.trans (q1h_.1 e).symm⟩)
   rw [if_neg this]
   exact wrP_one hn.2 hx he
theorem vals_set {m:EnL} {a v:Int} (h:0≤a∧a < 64):(valsM m).set a.toNat v=valsM (dput kT m a v):=by
 obtain ⟨n,rfl⟩:=Int.eq_ofNat_of_zero_le h.1
 rw [Int.toNat_natCast]
 apply List.ext_getElem?
 intro i
 unfold valsM
 rw [List.getElem?_set,List.getElem?_map,List.getElem?_map]
 simp only [List.length_map,List.length_range]
 by_cases hi:i < 64
 ·rw [List.getElem?_range hi]
  simp only [Option.map_some,bkV,dget_put]
  by_cases e:n=i
  ·subst e
   rw [if_pos rfl,if_pos hi,if_pos rfl]
   rfl
  ·rw [if_neg e,if_neg (by omega)]
 ·rw [List.getElem?_eq_none (by simp; omega),if_neg (by omega)]
  rfl
theorem bits_set {m:EnL} {a v:Int} (h:0≤a∧a < 64):(bitsM m).set a.toNat true=bitsM (dput kT m a v):=by
 obtain ⟨n,rfl⟩:=Int.eq_ofNat_of_zero_le h.1
 rw [Int.toNat_natCast]
 apply List.ext_getElem?
 intro i
 unfold bitsM
 rw [List.getElem?_set,List.getElem?_map,List.getElem?_map]
 simp only [List.length_map,List.length_range]
 by_cases hi:i < 64
 ·rw [List.getElem?_range hi]
  simp only [Option.map_some,dget_put]
  by_cases e:n=i
  ·subst e
   rw [if_pos rfl,if_pos hi,if_pos rfl]
   rfl
  ·rw [if_neg e,if_neg (by omega)]
 ·rw [List.getElem?_eq_none (by simp; omega),if_neg (by omega)]
  rfl
abbrev RWd:=Option (As [.sl (.sl (.int .u16)),.sl (.sl .bool)])
theorem vals_at {m:EnL} {a:Int} (h:0≤a∧a < 64):(∃ c,at? (valsM m) a=some c)∧∃ c,at? (bitsM m) a=some c:=by
 obtain ⟨n,rfl⟩:=Int.eq_ofNat_of_zero_le h.1
 exact ⟨⟨_,q4_ (List.getElem?_eq_getElem (by rw [vals_len]; omega))⟩,⟨_,q4_ (List.getElem?_eq_getElem (by rw [bits_len]; omega))⟩⟩
def OkSets (d:TDev) (ss:List TSet):Prop:=∀ s ∈ ss,0≤s.2.1.2∧∃ z,srch (fun p=>eqs p.1 s.1) d.2 0=some z
theorem rwords_K6 (u1:TTab->Int->TRec->List (List Int)->List (List Bool)->RWd) (u4:TTab->Int->Int->TRec->List (List Int)->List (List Bool)->List Int->List Bool->RWd)
  {t:TTab} {i:Nat} {d:TDev} (hd:t[i]? = some d) (hdB:devB d=true) (hdl:d.2.length≤1000) (hdR:∀ p ∈ d.2,PtR p) {r:TRec} {k:Nat} {p:TPart} (hp:r.2[k]? = some p) (hk:k < 1000000) (hpl:p.2.2.length≤1000) (hok:OkSets d p.2.2) (out:List (List Int)) (is':List (List Bool)) (m:EnL) :
  qb7_ u1 u4 t (i:Int) (k:Int) 0 r out is' (valsM m) (bitsM m)=u4 t (i:Int) ((k + 1:Nat):Int) r out is' (valsM (fillM m (wrS d.2 p.2.2))) (bitsM (fillM m (wrS d.2 p.2.2))):=by
 have hf:fillM m (wrS d.2 p.2.2)=p.2.2.foldl (fun m s=>fillM m (wrP s d.2)) m:=by
  unfold wrS
  generalize p.2.2=ss
  induction ss generalizing m with
  | nil=>rfl
  | cons s q ih=>rw [List.flatMap_cons,fill_app,ih]; rfl
 rw [hf]
 unfold qb7_
 refine (loop_idx (xs:=p.2.2) (mk:=fun j m=>(t,(i:Int),(k:Int),(j:Int),r,out,is',valsM m,bitsM m)) (stp:=fun m s=>fillM m (wrP s d.2)) (fin:=fun m=>u4 t (i:Int) ((k + 1:Nat):Int) r out is' (valsM m) (bitsM m)) (fun _ _=>True) ?_ (fun _ _ _ _ _=>trivial) ?_ p.2.2.length 0 m _ (by omega) (by omega) trivial).trans (by rw [List.drop_zero])
 ·intro self j m s hs _
  have hj:=(List.getElem?_eq_some_iff.1 hs).1
  obtain ⟨hs0,⟨z1,x⟩,hz⟩:=hok s (List.mem_of_getElem? hs)
  obtain ⟨hm,hg,he⟩:=srch_mem hz
  have hpt:=(devB_dis hdB).2.2 x hm
  have hr:=ptB_rgt hpt
  have ha:=(ptB_at hpt).1
  rw [wrP_one (devB_dis hdB).1 hm (q1h_.1 he)]
  dsimp only
  unfold qci_
  rw [q4_ hp,Option.bind_some,if_pos (by rw [q1_,q0_]; omega),Option.bind_some,q4_ hs,Option.bind_some,q4_ hd,Option.bind_some,Option.bind_some,amb2 (eqAs_refl _),rpt_eq (by omega),hz,Option.bind_some,q4_ hg,Option.bind_some]
  show (q3y_ (x,s,())).bind _=_
  rw [rword_eq (hdR x hm) hr.1 hr.2 hs0,Option.bind_some]
  obtain ⟨⟨c1,h1⟩,c2,h2⟩:=vals_at (m:=m) ha
  rw [h1,Option.bind_some,Option.bind_some,h2,Option.bind_some,Option.bind_some,q9_ (by omega),vals_set ha,bits_set (v:=(wrdS x s).1) ha]
  rfl
 ·intro self m _
  dsimp only
  unfold qci_
  rw [q4_ hp,Option.bind_some,if_neg (by rw [q1_,q0_]; omega),<- q9_ (by omega)]
  rfl
theorem rwords_K4 (u1:TTab->Int->TRec->List (List Int)->List (List Bool)->RWd)
  {t:TTab} {i:Nat} {d:TDev} (hd:t[i]? = some d) (hdB:devB d=true) (hdl:d.2.length≤1000) (hdR:∀ p ∈ d.2,PtR p) {r:TRec} (hr:RecR r) (hok:∀ p ∈ r.2,d.1=p.1->OkSets d p.2.2) (out:List (List Int)) (is':List (List Bool)) :
  q81_ u1 t (i:Int) 0 r out is' (valsM []) (bitsM [])=qbi_ u1 t (i:Int) r out is' (valsM (mapD r.2 d)) (bitsM (mapD r.2 d)):=by
 have hrl:=hr.1
 have hf:mapD r.2 d=r.2.foldl (fun m p=>fillM m (if eqs d.1 p.1=true then wrS d.2 p.2.2 else [])) []:=by
  have h:∀ (ps:List TPart) (m:EnL),fillM m (wrD d ps)=ps.foldl (fun m p=>fillM m (if eqs d.1 p.1=true then wrS d.2 p.2.2 else [])) m:=by
   intro ps
   induction ps with
   | nil=>intro m; rfl
   | cons s q ih =>
    intro m
    rw [show wrD d (s::q)=(if eqs d.1 s.1=true then wrS d.2 s.2.2 else [])++wrD d q from List.flatMap_cons,fill_app,ih]
    rfl
  exact h r.2 []
 rw [hf]
 unfold q81_
 refine (loop_idx (xs:=r.2) (mk:=fun k m=>(t,(i:Int),(k:Int),r,out,is',valsM m,bitsM m)) (stp:=fun m p=>fillM m (if eqs d.1 p.1=true then wrS d.2 p.2.2 else [])) (fin:=fun m=>qbi_ u1 t (i:Int) r out is' (valsM m) (bitsM m)) (fun _ _=>True) ?_ (fun _ _ _ _ _=>trivial) ?_ r.2.length 0 [] _ (by omega) (by omega) trivial).trans (by rw [List.drop_zero])
 ·intro self k m p hp _
  have hk:=(List.getElem?_eq_some_iff.1 hp).1
  have hpm:=List.mem_of_getElem? hp
  dsimp only
  unfold qaq_
  rw [if_pos (by rw [q1_,q0_]; omega),q4_ hp,Option.bind_some,q4_ hd,Option.bind_some]
  by_cases he:d.1=p.1
  ·rw [if_neg (fun e=>nes_iff.1 e he.symm),if_pos (q1h_.2 he),rwords_K6 u1 _ hd hdB hdl hdR hp (by omega) (hr.2 p hpm).1 (hok p hpm he)]
  ·rw [if_pos (nes_iff.2 fun e=>he e.symm),if_neg (fun e=>he (q1h_.1 e)),<- q9_ (by omega)]
   rfl
 ·intro self m _
  dsimp only
  unfold qaq_
  rw [if_neg (by rw [q1_,q0_]; omega)]
theorem okSets_of {t:TTab} {r:TRec} (hr:RecR r) (hB:tabB t=true) (hN:partsS t r.2 []=none) {d:TDev} (hd:d ∈ t):∀ p ∈ r.2,d.1=p.1->OkSets d p.2.2:=by
 intro p hp he s hs
 obtain ⟨⟨z1,e⟩,hz,hS⟩:=(partsS_ok hN).2 p hp
 obtain ⟨hm,_,h2⟩:=srch_mem hz
 have:e=d:=nodup_mem (f:=fun d:TDev=>d.1) (tabB_dis hB).1 hm hd ((q1h_.1 h2).trans he.symm)
 subst this
 obtain ⟨z,h3,_⟩:=(setsS_ok hS).2 s hs
 exact ⟨(hr.2 p hp).2 s hs,z,h3⟩
@[reducible] def zM9:Type:=List (List Int)×List (List Bool)
theorem rwords_eq {t:TTab} {r:TRec} (ht:TabR t) (hr:RecR r) (hB:tabB t=true) (hN:partsS t r.2 []=none):q6w_ (t,r,())=some ((qj_ t r.2).map valsM,(qj_ t r.2).map bitsM,()):=by
 have htl:=ht.1
 show qb4_ t 0 r [] []=_
 have hw:qj_ t r.2=t.map (mapD r.2):=rfl
 have hf:∀ (q:TTab) (o:zM9),q.foldl (fun (o:zM9) d=>(o.1++[valsM (mapD r.2 d)],o.2++[bitsM (mapD r.2 d)])) o=(o.1++(q.map (mapD r.2)).map valsM,o.2++(q.map (mapD r.2)).map bitsM):=by
  intro q
  induction q with
  | nil=>intro o; simp
  | cons d q ih=>intro o; rw [List.foldl_cons,ih]; simp
 unfold qb4_
 refine (loop_idx (xs:=t) (mk:=fun i (o:zM9)=>(t,(i:Int),r,o.1,o.2)) (stp:=fun o d=>(o.1++[valsM (mapD r.2 d)],o.2++[bitsM (mapD r.2 d)])) (fin:=fun o=>some (o.1,o.2,())) (fun i o=>o.1.length≤i∧o.2.length≤i) ?_ ?_ ?_ t.length 0 ([],[]) _ (by omega) (by omega) ⟨by simp,by simp⟩).trans (by rw [List.drop_zero,hf,hw]; rfl)
 ·intro self i o d hd ho
  have hi:=(List.getElem?_eq_some_iff.1 hd).1
  have hdm:=List.mem_of_getElem? hd
  obtain ⟨h1,h2⟩:=ht.2 d hdm
  dsimp only
  unfold qc7_
  rw [if_pos (by rw [q1_,q0_]; omega),amb2 (eqAs_refl _)]
  show q81_ _ t (i:Int) 0 r o.1 o.2 (valsM []) (bitsM [])=_
  rw [rwords_K4 _ hd ((tabB_dis hB).2.2 d hdm) h1 h2 hr (okSets_of hr hB hN hdm)]
  show need (small (o.1.length + 1)) (need (small (o.2.length + 1)) (self (t,add .i64 (i:Int) 1,r,_,_)))=_
  rw [q1v_ (by omega),q1v_ (by omega),q9_ (by omega)]
 ·intro i o d _ h
  simp only [List.length_append,List.length_singleton]
  omega
 ·intro self o _
  dsimp only
  unfold qc7_
  rw [if_neg (by rw [q1_,q0_]; omega)]
  rfl
def blkU (m:EnL):List Bk:=foldU (esM m) []
theorem esM_keys {m:EnL}:∀ e ∈ esM m,0≤e.1∧e.1 < 64:=fun e he=>(esM_mem.1 (show (e.1,e.2) ∈ esM m from he)).1
theorem blkM_U (m:EnL):blkM m=if (blkU m).length≤8 then some (blkU m) else none:=foldE_U _ _ esM_keys (by simp)
theorem rblk_eq (m:EnL):q2a_ (valsM m,bitsM m,())=some (blkU m,()):=rblocks_eq (vals_len m) (bits_len m)
theorem rmake_eq {t:TTab} {r:TRec} (ht:TabR t) (hr:RecR r):qfi_ (t,r,())=some ((makeS t r).1,(makeS t r).2,()):=by
 have htl:=ht.1
 have hrl:=hr.1
 show qdg_ q8x_ t r=_
 unfold qdg_ makeS
 rw [rcheck_eq ht hr,Option.bind_some]
 rcases check_cases t r with ⟨h1,hB,h3,h4⟩ | ⟨h1,_⟩
 ·rw [if_pos h1,h1,if_neg (by decide),rwords_eq ht hr hB h4,Option.bind_some]
  dsimp only
  have hwl:(qj_ t r.2).length=t.length:=by unfold qj_; rw [List.length_map]
  have K2:(∀ m ∈ qj_ t r.2,(blkU m).length≤8)->q8o_ t ((qj_ t r.2).map valsM) ((qj_ t r.2).map bitsM) (0,0)=some (shrS 0 (qj_ t r.2),(0,0),()):=by
   intro h8
   show qju_ t _ _ 0 (0,0) []=_
   generalize qj_ t r.2=ms at hwl h8 ⊢
   have key:∀ (k i n:Nat) (l:List (Int×List Bk)),i + k=ms.length->k < n->l.length≤i->loopF (fun (self:TTab×List (List Int)×List (List Bool)×Int×(Int×Int)×List (Int×List Bk)->Option (As q3b_.rs)) s=>q8v_ (qdv_ fun t w is' i t5 out=>self (t,w,is',i,t5,out)) qjz_ (fun t w is' i t5 out=>self (t,w,is',i,t5,out)) s.1 s.2.1 s.2.2.1 s.2.2.2.1 s.2.2.2.2.1 s.2.2.2.2.2) n (t,ms.map valsM,ms.map bitsM,(i:Int),(0,0),l)=some (l++shrS i (ms.drop i),(0,0),()):=by
    intro k
    induction k with
    | zero =>
     intro i n l hi hn hl
     obtain ⟨n,rfl⟩:∃ n',n=n' + 1:=⟨n - 1,by omega⟩
     rw [q5_]
     dsimp only
     unfold q8v_
     rw [if_neg (by rw [q1_,q0_]; omega),List.drop_of_length_le (by omega)]
     show some (l,(0,0),())=_
     rw [shrS,List.append_nil]
    | succ k ih =>
     intro i n l hi hn hl
     obtain ⟨n,rfl⟩:∃ n',n=n' + 1:=⟨n - 1,by omega⟩
     have hlt:i < ms.length:=by omega
     have hg:ms[i]? = some ms[i]:=List.getElem?_eq_getElem hlt
     have g1:(ms.map valsM)[i]? = some (valsM ms[i]):=by rw [List.getElem?_map,hg]; rfl
     have g2:(ms.map bitsM)[i]? = some (bitsM ms[i]):=by rw [List.getElem?_map,hg]; rfl
     have hb:(blkM ms[i]).getD []=blkU ms[i]:=by rw [blkM_U,if_pos (h8 _ (List.getElem_mem hlt))]; rfl
     have K4:∀ (sf:TTab->List (List Int)->List (List Bool)->Int->Int×Int->List (Int×List Bk)->Option (As q3b_.rs)) a b c o,qdv_ sf a b c (i:Int) (0,0) o=sf a b c ((i + 1:Nat):Int) (0,0) o:=fun sf a b c o=>by rw [<- q9_ (by omega)]; rfl
     rw [q5_]
     dsimp only
     have ih':=ih (i + 1) n
     generalize loopF _ n=lp at ih' ⊢
     unfold q8v_
     rw [if_pos (by rw [q1_,q0_]; omega),q4_ g1,Option.bind_some,q4_ g2,Option.bind_some,rblk_eq,Option.bind_some,K4,K4,List.drop_eq_getElem_cons hlt,shrS,hb]
     dsimp only
     by_cases h0:(blkU ms[i]).length=0
     ·rw [if_pos h0,if_neg (by rw [q7_,q0_]; omega)]
      exact ih' l (by omega) (by omega) (by omega)
     ·rw [if_neg h0,if_pos (by rw [q7_,q0_]; omega),q1v_ (by omega),ih' _ (by omega) (by omega) (by rw [List.length_append,List.length_singleton]; omega),List.append_assoc]
      rfl
   exact (key ms.length 0 18446744073709551616 [] (by omega) (by omega) (by simp)).trans (by rw [List.drop_zero,List.nil_append])
  have hbad:∀ p ∈ r.2,∃ z:Nat×TDev,srch (fun d=>eqs d.1 p.1) t 0=some z∧badP t r.2 p=!decide ((blkU (mapD r.2 z.2)).length≤8):=fun p hp=>by
   obtain ⟨z,hz,_⟩:=(partsS_ok h4).2 p hp
   refine ⟨z,hz,?_⟩
   unfold badP
   rw [hz]
   dsimp only
   rw [blkM_U]
   by_cases h:(blkU (mapD r.2 z.2)).length≤8 <;> simp [h]
  have h8:r.2.find? (badP t r.2)=none->∀ m ∈ qj_ t r.2,(blkU m).length≤8:=by
   intro hf m hm
   obtain ⟨d,hd,rfl⟩:=List.mem_map.1 hm
   by_cases hx:∃ p ∈ r.2,d.1=p.1
   ·obtain ⟨p,hp,he⟩:=hx
    obtain ⟨z,hz,hb⟩:=hbad p hp
    obtain ⟨hm,_,h2⟩:=srch_mem hz
    have:z.2=d:=nodup_mem (f:=fun d:TDev=>d.1) (tabB_dis hB).1 hm hd ((q1h_.1 h2).trans he.symm)
    have:=List.find?_eq_none.1 hf p hp
    rw [hb,‹z.2=d›] at this
    show (blkU (mapD r.2 d)).length≤8
    simpa using this
   ·have:wrD d r.2=[]:=by
     unfold wrD
     rw [List.flatMap_eq_nil_iff]
     intro p hp
     rw [if_neg]
     intro e
     exact hx ⟨p,hp,q1h_.1 e⟩
    rw [this]
    decide
  have main:q8x_ t ((qj_ t r.2).map valsM) ((qj_ t r.2).map bitsM) 0 r (0,0)=match srch (badP t r.2) r.2 0 with
    | some z=>some ([],(160,z.2.2.1),())
    | none=>q8o_ t ((qj_ t r.2).map valsM) ((qj_ t r.2).map bitsM) (0,0):=by
   unfold q8x_
   refine (srch_loop (xs:=r.2) (no:=q8o_ t ((qj_ t r.2).map valsM) ((qj_ t r.2).map bitsM) (0,0)) (mk:=fun i=>(t,(qj_ t r.2).map valsM,(qj_ t r.2).map bitsM,(i:Int),r,((0,0):Int×Int))) (p:=badP t r.2) (yes:=fun _ p=>some ([],(160,p.2.1),())) ?_ ?_ (by omega)).trans ?_
   ·intro self i p hp
    have hi:=(List.getElem?_eq_some_iff.1 hp).1
    obtain ⟨⟨z1,d⟩,hz,hb⟩:=hbad p (List.mem_of_getElem? hp)
    obtain ⟨_,hg,_⟩:=srch_mem hz
    have g0:(qj_ t r.2)[z1]? = some (mapD r.2 d):=by unfold qj_; rw [List.getElem?_map,hg]; rfl
    have g1:((qj_ t r.2).map valsM)[z1]? = some (valsM (mapD r.2 d)):=by rw [List.getElem?_map,g0]; rfl
    have g2:((qj_ t r.2).map bitsM)[z1]? = some (bitsM (mapD r.2 d)):=by rw [List.getElem?_map,g0]; rfl
    dsimp only
    unfold qdi_
    rw [if_pos (by rw [q1_,q0_]; omega),q4_ hp,Option.bind_some,rfind_eq (by omega),hz,Option.bind_some,q4_ g1,Option.bind_some,q4_ g2,Option.bind_some,rblk_eq,Option.bind_some,Option.bind_some,gtS (k:=8) (z:=8) rfl,hb,q9_ (by omega)]
   ·intro self
    dsimp only
    unfold qdi_
    rw [if_neg (by rw [q1_,q0_]; omega)]
   ·cases srch (badP t r.2) r.2 0 <;> rfl
  rw [main]
  cases hs:srch (badP t r.2) r.2 0 with
  | none =>
   have hf:r.2.find? (badP t r.2)=none:=List.find?_eq_none.2 fun p hp=>by rw [srch_none hs p hp]; decide
   rw [hf]
   exact K2 (h8 hf)
  | some z =>
   have hf:∀ (q:List TPart) (k:Nat) (z:Nat×TPart),srch (badP t r.2) q k=some z->q.find? (badP t r.2)=some z.2:=by
    intro q
    induction q with
    | nil=>intro k z h; cases h
    | cons p q ih =>
     intro k z h
     unfold srch at h
     rw [List.find?_cons]
     cases hb:badP t r.2 p with
     | true=>rw [hb,if_pos rfl] at h; cases h; rfl
     | false=>rw [hb,if_neg (by decide)] at h; exact ih _ _ h
   rw [hf _ _ _ hs]
 ·have:¬ checkS t r=(0,0):=fun e=>h1 (by rw [e])
  rw [if_neg this,if_pos (qh_.2 h1)]
end Go.Proofs.Lx
end
section
set_option maxRecDepth 100000
namespace Go.Proofs.Lx
open Go Ev Sx Pl
theorem foldU_14:∀ (es:List (Int×Int)) (l:List Bk),(∀ e ∈ es,0≤e.1∧e.1 < 64)->Low14 l->Low14 (foldU es l)
 | [],_,_,h=>h
 | e::q,l,hk,h=>foldU_14 q _ (fun x hx=>hk x (List.mem_cons_of_mem _ hx)) (stepU_14 h (hk e (by simp)))
theorem sm_U {es:List (Int×Int)} (hk:∀ e ∈ es,0≤e.1∧e.1 < 64) (hl:es.length≤64):SmB (foldU es []):=by
 have h1:=foldU_len es []
 have h2:=foldU_14 es [] hk (fun _ h=>by cases h)
 refine ⟨by rw [List.length_nil] at h1; omega,fun b hb=>?_⟩
 have:=(h2 b hb).1
 omega
theorem esM_len (m:EnL):(esM m).length≤64:=by
 have:=@ents_len 0 (valsM m) (bitsM m)
 rw [bits_len] at this
 exact this
theorem same_self {l:List Bk} (h:SmB l):q2g_ (l,l,())=some (true,()):=by
 rw [same_eq l l h h,decide_eq_true rfl]
theorem shares_self {a:List TShr} (hl:a.length≤1000000) (h:∀ s ∈ a,SmB s.2):qaa_ (a,a,())=some (true,()):=by
 show q9i_ q9q_ a a=_
 unfold q9i_
 rw [if_neg (fun e=>qh_.1 e rfl)]
 unfold q9q_
 refine loop_dt (mk:=fun i=>(a,a,Int.ofNat a.length,(i:Int))) (N:=a.length) ?_ ?_ a.length 0 _ (by omega) (by omega)
 ·intro self i hi
  have hg:a[i]? = some a[i]:=List.getElem?_eq_getElem hi
  have hs:=h a[i] (List.getElem_mem hi)
  generalize a[i]=s at hg hs
  dsimp only
  unfold q9g_
  rw [if_pos (by rw [q1_,q0_]; omega),q4_ hg,Option.bind_some,Option.bind_some,if_neg (fun e=>qh_.1 e rfl),Option.bind_some,Option.bind_some,same_self hs,Option.bind_some,<- q9_ (by omega)]
  rfl
 ·intro self
  dsimp only
  unfold q9g_
  rw [if_neg (by rw [q1_,q0_]; omega)]
theorem mapN_eq {α β:Type} (f:α->β):∀ xs:List α,mapN f xs=xs.map f
 | []=>rfl
 | x::q=>by rw [mapN,mapN_eq f q]; rfl
theorem picks_mem {α:Type}:∀ {xs:List α} {p:α×List α},p ∈ picks xs->p.1 ∈ xs∧p.2.length + 1=xs.length∧∀ x ∈ p.2,x ∈ xs
 | [],p,h=>by cases h
 | a::q,p,h=>by
  rw [picks,mapN_eq] at h
  rcases List.mem_cons.1 h with rfl | h
  ·exact ⟨by simp,rfl,fun x hx=>List.mem_cons_of_mem _ hx⟩
  ·obtain ⟨p',hp,rfl⟩:=List.mem_map.1 h
   obtain ⟨h1,h2,h3⟩:=picks_mem hp
   refine ⟨List.mem_cons_of_mem _ h1,by simp; omega,fun x hx=>?_⟩
   rcases List.mem_cons.1 hx with rfl | hx
   ·simp
   ·exact List.mem_cons_of_mem _ (h3 x hx)
theorem amb_all {R:Type} {eq:R->R->Bool} (h:∀ x,eq x x=true) {X:Option R}:∀ {l:List (Option R)},l ≠ []->(∀ a ∈ l,a=X)->amb eq l=X
 | [],h0,_=>absurd rfl h0
 | a::q,_,ha=>by
  have key:∀ (q:List (Option R)) (a:Option R),(∀ b ∈ a::q,b=X)->ambC eq a q=X:=by
   intro q
   induction q with
   | nil=>intro a ha; exact ha a (by simp)
   | cons b q ih =>
    intro a ha
    have e1:=ha a (by simp)
    have e2:=ih b fun c hc=>ha c (List.mem_cons_of_mem _ hc)
    subst e1
    cases a with
    | none=>simp [ambC]
    | some x=>simp [ambC,e2,h]
  exact key q a ha
theorem nextL_all {R α:Type} {eq:R->R->Bool} (h:∀ x,eq x x=true) {X kn:Option R} {rest:List α} {ks:α->List α->Option R} (h0:rest=[]->kn=X)
  (h1:∀ x r',x ∈ rest->r'.length + 1=rest.length->(∀ y ∈ r',y ∈ rest)->ks x r'=X):nextL eq rest kn ks=X:=by
 unfold nextL
 cases rest with
 | nil=>exact h0 rfl
 | cons a q =>
  dsimp only
  rw [mapN_eq]
  refine amb_all h (by simp [picks]) fun b hb=>?_
  obtain ⟨p,hp,rfl⟩:=List.mem_map.1 hb
  obtain ⟨e1,e2,e3⟩:=picks_mem hp
  exact h1 _ _ e1 e2 e3
theorem tells_K10 (u9:List EnL->List (List Int)->List (List Bool)->Int->Int->Option (As [.bool])) {ms:List EnL} {i:Nat} {m:EnL} (hm:ms[i]? = some m) (hi:i < 1000000) (x:List (List Int)) (y:List (List Bool)) (n:Int) {es:EnL} (he:∀ e ∈ es,dget kT m e.1=some e.2) (hl:es.length≤1000) :
  q5b_ u9 ms x y (i:Int) n (i:Int) [] es=u9 ms x y n ((i + 1:Nat):Int):=by
 unfold q5b_
 refine loop_rel (Inv:=fun s=>∃ c r,s=(ms,x,y,(i:Int),n,(i:Int),c,r)∧(∀ e ∈ r,e ∈ es)∧r.length≤1000) (μ:=fun s=>s.2.2.2.2.2.2.2.length) (Q:=fun r=>r=u9 ms x y n ((i + 1:Nat):Int)) ?_ _ _ ⟨[],es,rfl,fun _ h=>h,hl⟩ (by dsimp only; omega)
 rintro self s ⟨c,r,rfl,h1,h2⟩ ih
 dsimp only at ih ⊢
 unfold q9d_
 refine nextL_all (eqAs_refl _) (fun h0=>by rw [q9_ (by omega)]) fun e r' e1 e2 e3=>?_
 rw [q4_ hm,Option.bind_some]
 have hd:=he e (h1 e e1)
 rw [hd]
 rw [if_neg (by simp [isV])]
 have:nei (gdV (.int .u16) (some e.2) 0) e.2=false:=by
  rw [Bool.eq_false_iff]
  exact fun h=>qh_.1 h rfl
 rw [this]
 exact ih _ ⟨[e],r',rfl,fun y hy=>h1 y (e3 y hy),by omega⟩ (by dsimp only; omega)
theorem map_len {m:EnL} (hn:(m.map (·.1)).Nodup) (hk:KeysIn m):m.length=(esM m).length:=by
 have:=(keys_perm hn hk).length_eq
 simpa using this
theorem aw:(Option.bind (q1b_ ()) fun y=>(some (y.fst,()):Option (As [.bool])))=some (true,()):=by rw [awake]; rfl
theorem tells_K9 {ms:List EnL} (hl:ms.length≤1000) (h:∀ m ∈ ms,(m.map (·.1)).Nodup∧KeysIn m):q5z_ ms (ms.map valsM) (ms.map bitsM) (Int.ofNat ms.length) 0=some (true,()):=by
 unfold q5z_
 refine loop_dt (mk:=fun i=>(ms,ms.map valsM,ms.map bitsM,Int.ofNat ms.length,(i:Int))) (N:=ms.length) ?_ ?_ ms.length 0 _ (by omega) (by omega)
 ·intro self i hi
  have hg:ms[i]? = some ms[i]:=List.getElem?_eq_getElem hi
  obtain ⟨h1,h2⟩:=h ms[i] (List.getElem_mem hi)
  generalize ms[i]=m at hg h1 h2
  have g1:(ms.map valsM)[i]? = some (valsM m):=by rw [List.getElem?_map,hg]; rfl
  have g2:(ms.map bitsM)[i]? = some (bitsM m):=by rw [List.getElem?_map,hg]; rfl
  have hrow:q6b_ (valsM m,bitsM m,())=some (esM m,()):=row_eq _ _ (by rw [vals_len,bits_len]) (by rw [vals_len]; omega)
  dsimp only
  unfold q6g_
  rw [if_pos (by rw [q1_,q0_]; omega),q4_ hg,Option.bind_some,q4_ g1,Option.bind_some,q4_ g2,Option.bind_some,hrow,Option.bind_some,if_neg (fun e=>qh_.1 e (by rw [map_len h1 h2])),Option.bind_some,Option.bind_some,hrow,Option.bind_some]
  exact tells_K10 _ hg (by omega) _ _ _ (fun e he=>(esM_mem.1 (show (e.1,e.2) ∈ esM m from he)).2) (show (esM m).length≤1000 by have:=esM_len m; omega)
 ·intro self
  dsimp only
  unfold q6g_
  rw [if_neg (by rw [q1_,q0_]; omega),aw]
theorem tells_K7 {t:TTab} {r:TRec} (ht:TabR t) (hr:RecR r):q6p_ t false r=some (true,()):=by
 show q6i_ qad_ t false r=_
 unfold q6i_
 have htl:=ht.1
 rw [if_neg (by decide),q152_ ht hr,rcheck_eq ht hr]
 rcases check_cases t r with ⟨h1,hB,h3,h4⟩ | ⟨h1,_⟩
 ·rw [if_pos h1,Option.bind_some,Option.bind_some,h1,if_neg (by decide),rwords_eq ht hr hB h4,Option.bind_some]
  dsimp only
  rw [if_neg (by decide)]
  have:nei (Int.ofNat (qj_ t r.2).length) (Int.ofNat ((qj_ t r.2).map valsM).length)=false:=by
   rw [Bool.eq_false_iff]
   exact fun e=>qh_.1 e (by rw [List.length_map])
  rw [this]
  refine tells_K9 (by unfold qj_; rw [List.length_map]; omega) fun m hm=>?_
  obtain ⟨d,hd,rfl⟩:=List.mem_map.1 hm
  exact mapD_ok hB hd r.2
 ·have hc:¬ checkS t r=(0,0):=fun e=>h1 (by rw [e])
  rw [if_neg hc,Option.bind_some,Option.bind_some]
  dsimp only
  rw [if_pos (qh_.2 h1),if_pos (by rw [qb_.2 rfl,qb_.2 rfl]; rfl),if_pos (by rfl),aw]
theorem tells_K6 {t:TTab} {r:TRec} (ht:TabR t) (hr:RecR r):q67_ t false r=some (true,()):=by
 show q6q_ q6p_ t false r=_
 unfold q6q_
 have htl:=ht.1
 rw [if_neg (by decide),make_eq ht hr,rmake_eq ht hr,Option.bind_some,Option.bind_some]
 dsimp only
 rw [if_neg (by rw [qb_.2 rfl,qb_.2 rfl]; decide)]
 have hs:(makeS t r).1.length≤1000000∧∀ s ∈ (makeS t r).1,SmB s.2:=by
  unfold makeS
  split
  ·split
   ·exact ⟨by simp,fun s hs=>by cases hs⟩
   ·have h1:=shr_len 0 (qj_ t r.2)
    have h2:(qj_ t r.2).length=t.length:=by unfold qj_; rw [List.length_map]
    refine ⟨by dsimp only; omega,fun s hs=>?_⟩
    obtain ⟨j,_,m,_,h3,_⟩:=shr_in hs
    rw [h3,blkM_U]
    split
    ·exact sm_U esM_keys (esM_len m)
    ·exact ⟨by simp,fun b hb=>by cases hb⟩
  ·exact ⟨by simp,fun s hs=>by cases hs⟩
 rw [shares_self hs.1 hs.2,Option.bind_some]
 exact tells_K7 ht hr
theorem tells_K5 {t:TTab} {r:TRec} (ht:TabR t) (hr:RecR r) (w:List Int) (is':List Bool):q63_ t w is' r (List.replicate 64 0) (List.replicate 64 false)=some (true,()):=by
 show q60_ q67_ t w is' r (List.replicate 64 0) (List.replicate 64 false)=_
 unfold q60_
 rw [qp_ (by decide),qp_ (by decide)]
 obtain ⟨W,hW⟩:∃ W,W=List.take (Int.toNat (Int.ofNat (List.replicate 64 (0:Int)).length)) w++List.drop (0 + List.length (List.take (Int.toNat (Int.ofNat (List.replicate 64 (0:Int)).length)) w)) (List.replicate 64 0):=⟨_,rfl⟩
 obtain ⟨V,hV⟩:∃ V,V=List.take (Int.toNat (Int.ofNat (List.replicate 64 false).length)) is'++List.drop (0 + List.length (List.take (Int.toNat (Int.ofNat (List.replicate 64 false).length)) is')) (List.replicate 64 false):=⟨_,rfl⟩
 have hWl:W.length=64:=by rw [hW]; simp; omega
 have hVl:V.length=64:=by rw [hV]; simp; omega
 rw [<- hW,<- hV,row_eq W V (by omega) (by omega),Option.bind_some]
 have hk:∀ e ∈ ents 0 W V,0≤e.1∧e.1 < 64:=fun e he=>by have:=ents_lo he; omega
 have hl:(ents 0 W V).length≤64:=by have:=@ents_len 0 W V; omega
 show (q1q_ (ents 0 W V,())).bind _=_
 rw [blocks_eq (List.all_eq_true.2 fun e he=>by have:=hk e he; rw [keyOk_iff]; exact ⟨by omega,by omega⟩),Option.bind_some,bkRes_rise ents_rise hl,rblocks_eq hWl hVl,Option.bind_some,foldE_U _ _ hk (by simp)]
 dsimp only
 have hs:=sm_U hk hl
 generalize foldU (ents 0 W V) []=l at hs ⊢
 have hle:le (Int.ofNat l.length) 8=decide (l.length≤8):=by
  apply Bool.eq_iff_iff.2
  rw [le_iff,q0_]
  simp
  omega
 rw [hle]
 by_cases h8:l.length≤8
 ·rw [if_pos h8,decide_eq_true h8]
  show (if Sx.neb true true=true then _ else if true=true then (q2g_ (l,l,())).bind _ else _)=_
  rw [if_neg (by decide),if_pos rfl,same_self hs,Option.bind_some]
  exact tells_K6 ht hr
 ·rw [if_neg h8,decide_eq_false h8]
  exact tells_K6 ht hr
theorem tells_K2 {t:TTab} {r:TRec} (ht:TabR t) (hr:RecR r) (w:List Int) (is':List Bool) {bank:List Int} (hb:bank.length≤100) {l:List Bk} (hl:l.length≤10):q6m_ t w is' bank l l (Int.ofNat l.length) 0 r=some (true,()):=by
 have K4:(∀ b ∈ l,b.2.length≤20∧-50≤b.1∧b.1≤200)->q64_ t w is' bank l r=some (true,()):=fun hf=>by
  show q6a_ q63_ t w is' bank l r=_
  unfold q6a_
  have hf':∀ b ∈ l,b.2.length≤100000∧-100000≤b.1∧b.1≤100000:=fun b hx=>by have:=hf b hx; omega
  have hol:(over bank l).length≤1000:=by rw [over_set,setL_len]; omega
  rw [over_eq bank l (by omega) ⟨by omega,fun b hx=>by have:=hf b hx; omega⟩,Option.bind_some,rover_eq (by omega) (by omega) hf',Option.bind_some,regs_eq _ _ (show (over bank l).length≤1000000 by omega) (show (over bank l).length≤1000000 by omega),Option.bind_some,decide_eq_true rfl,if_neg (by decide),amb2 (eqAs_refl _)]
  exact tells_K5 ht hr w is'
 have key:∀ (k i n:Nat),i + k=l.length->k < n->(∀ b ∈ l.take i,b.2.length≤20∧-50≤b.1∧b.1≤200)->loopF (fun (self:TTab×List Int×List Bool×List Int×List Bk×List Bk×Int×Int×TRec->Option (As [.bool])) s=>q37_ (q6n_ fun t w is' bank l t53 t54 t55 r=>self (t,w,is',bank,l,t53,t54,t55,r)) q64_ (fun t w is' bank l t53 t54 t55 r=>self (t,w,is',bank,l,t53,t54,t55,r)) s.1 s.2.1 s.2.2.1 s.2.2.2.1 s.2.2.2.2.1 s.2.2.2.2.2.1 s.2.2.2.2.2.2.1 s.2.2.2.2.2.2.2.1 s.2.2.2.2.2.2.2.2) n (t,w,is',bank,l,l,Int.ofNat l.length,(i:Int),r)=some (true,()):=by
  intro k
  induction k with
  | zero =>
   intro i n hi hn ha
   obtain ⟨n,rfl⟩:∃ n',n=n' + 1:=⟨n - 1,by omega⟩
   rw [q5_]
   dsimp only
   unfold q37_
   rw [if_neg (by rw [q1_,q0_]; omega)]
   rw [List.take_of_length_le (by omega)] at ha
   exact K4 ha
  | succ k ih =>
   intro i n hi hn ha
   obtain ⟨n,rfl⟩:∃ n',n=n' + 1:=⟨n - 1,by omega⟩
   have hg:l[i]? = some l[i]:=List.getElem?_eq_getElem (by omega)
   have ih':=ih (i + 1) n (by omega) (by omega)
   generalize l[i]=b at hg
   rw [q5_]
   dsimp only
   generalize loopF _ n=lp at ih' ⊢
   have K3:∀ c,q6n_ (fun t w is' bank l t53 t54 t55 r=>lp (t,w,is',bank,l,t53,t54,t55,r)) t w is' bank l l (Int.ofNat l.length) (i:Int) c r=if c=true then some (true,()) else lp (t,w,is',bank,l,l,Int.ofNat l.length,((i + 1:Nat):Int),r):=fun c=>by
    rw [<- q9_ (by omega),<- aw]
    rfl
   unfold q37_
   rw [if_pos (by rw [q1_,q0_]; omega),q4_ hg,Option.bind_some]
   simp only [K3]
   rw [gtS (k:=20) (z:=20) rfl]
   by_cases c1:b.2.length≤20
   ·rw [decide_eq_true c1,if_neg (by decide)]
    by_cases c2:b.1 < -50
    ·rw [if_pos (q1_.2 c2),if_pos trivial]
    ·rw [if_neg (fun e=>c2 (q1_.1 e))]
     by_cases c3:200 < b.1
     ·rw [if_pos (q7_.2 c3)]
     ·rw [if_neg (fun e=>c3 (q7_.1 e))]
      refine ih' fun x hx=>?_
      rw [List.take_add_one,hg] at hx
      rcases List.mem_append.1 hx with hx | hx
      ·exact ha x hx
      ·simp at hx
       subst hx
       omega
   ·rw [decide_eq_false c1,if_pos (by rfl),if_pos trivial]
 exact key l.length 0 _ (by omega) (by omega) (fun b hb=>by simp at hb)
theorem tells_law {t:TTab} {r:TRec} (hpt:∀ d ∈ t,∀ p ∈ d.2,PtR p) (hps:∀ p ∈ r.2,∀ s ∈ p.2.2,0≤s.2.1.2) (w:List Int) (is':List Bool) (bank:List Int) (l:List Bk):q9j_ (t,r,w,is',bank,l,())=some (true,()):=by
 show q6s_ q6o_ t r w is' bank l=_
 unfold q6s_
 have K1t:q6o_ t w is' bank l true r=some (true,()):=by
  show q6j_ _ t w is' bank l true r=_
  unfold q6j_
  rw [if_pos rfl,aw]
 rw [small15_eq,Option.bind_some]
 dsimp only
 cases hsm:smallB t with
 | false=>rw [if_pos (by rfl),K1t]
 | true =>
  rw [if_neg (by decide),few_eq,Option.bind_some]
  dsimp only
  cases hfw:fewB r with
  | false=>exact K1t
  | true =>
   obtain ⟨s1,s2⟩:=small_len hsm
   obtain ⟨f1,f2⟩:=few_len hfw
   have ht:TabR t:=⟨by omega,fun d hd=>⟨by have:=s2 d hd; omega,hpt d hd⟩⟩
   have hr:RecR r:=⟨by omega,fun p hp=>⟨by have:=f2 p hp; omega,hps p hp⟩⟩
   rw [if_neg (by decide),gtS (k:=100) (z:=100) rfl]
   by_cases hb:bank.length≤100
   ·rw [decide_eq_true hb,if_neg (by decide),gtS (k:=10) (z:=10) rfl]
    by_cases hl:l.length≤10
    ·rw [decide_eq_true hl]
     show q6m_ t w is' bank l l (Int.ofNat l.length) 0 r=_
     exact tells_K2 ht hr w is' hb hl
    ·rw [decide_eq_false hl]
     exact K1t
   ·rw [decide_eq_false hb]
    exact K1t
theorem planTells_row (x:As [.sl (.pr .str QMT2),.pr .str QMT4,.sl (.int .u16),.sl .bool,.sl (.int .u16),.sl (.pr (.int .i64) (.sl (.int .u16)))]) (h:Rw.okA [.sl (.pr .str QMT2),.pr .str QMT4,.sl (.int .u16),.sl .bool,.sl (.int .u16),.sl (.pr (.int .i64) (.sl (.int .u16)))] x):q9j_ x=some (true,()):=by
 obtain ⟨t,r,w,is',bank,l,u⟩:=x
 refine tells_law (fun d hd p hp=>?_) (fun p hp s hs=>?_) w is' bank l
 ·have h1:=(h.1.2 d hd).2.2 p hp
  exact ⟨okU8 h1.2.2.2.2.1.2,okU8 h1.2.2.2.2.2.1.2⟩
 ·have h1:=(h.2.1.2.2 p hp).2.2.2 s hs
  exact okU8 h1.2.1.2
end Go.Proofs.Lx
end
