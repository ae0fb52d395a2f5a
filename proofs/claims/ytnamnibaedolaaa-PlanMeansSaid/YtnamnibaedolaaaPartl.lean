/- Proved in the last of these 13 parts (this is part 12): PlanMeans: whatever the table, the recipe and the bank, the law returns true.. Conditions: those of the given statement, and no others. -/
import Derived.Test.YtnamnibaedolaaaParti
import Derived.Test.YtnamnibaedolaaaPartk
import Derived.Test.YtnamnibaedolaaaParte
set_option linter.unusedVariables false
set_option linter.unusedSimpArgs false
set_option linter.unusedSectionVars false
section
set_option maxRecDepth 100000
namespace Go.Proofs.Lx
open Go Ev Sx
@[reducible] def zL0:Type:=(List (List UInt8×List (List UInt8×Int×Int×Bool×(Int×Int)×(Int×Int)×List UInt8)))×(Int)×(Int)->Option (As [.bool])
def q9o_ :=(fun (self:zL0) (s:(List (List UInt8×List (List UInt8×Int×Int×Bool×(Int×Int)×(Int×Int)×List UInt8)))×(Int)×(Int))=>q3l_ (q5u_ (fun t10 t11 t12=>self (t10,t11,t12))) (fun t10 t11 t12=>self (t10,t11,t12)) s.1 s.2.1 s.2.2)
@[reducible] def zL1:Type:=List (List UInt8×List (List UInt8×Int×Int×Bool×(Int×Int)×(Int×Int)×List UInt8))
theorem qd5_  (self:zL0) (t10:zL1) (t11:Int) (t12:Int):q9o_ self (t10,t11,t12)=q3l_ (q5u_ (fun t10 t11 t12=>self (t10,t11,t12))) (fun t10 t11 t12=>self (t10,t11,t12)) t10 t11 t12:=rfl
theorem qi5_  (t10:zL1) (t11:Int) (t12:Int):q7o_ t10 t11 t12=loopF (q9o_) 18446744073709551616 (t10,t11,t12):=rfl
@[reducible] def zL2:Type:=List (List UInt8×List (List UInt8×Int×Int×Bool×(Int×Int)×(Int×Int)×List UInt8))->Int->Int->Option (As [.bool])
@[reducible] def zL3:Type:=(List (List UInt8×List (List UInt8×Int×Int×Bool×(Int×Int)×(Int×Int)×List UInt8)))×(Int)×(Int)×(List (List UInt8×Int×Int×Bool×(Int×Int)×(Int×Int)×List UInt8))×(Int)×(Int)->Option (As [.bool])
def qdw_ (u1:zL2):=(fun (self:zL3) (s:(List (List UInt8×List (List UInt8×Int×Int×Bool×(Int×Int)×(Int×Int)×List UInt8)))×(Int)×(Int)×(List (List UInt8×Int×Int×Bool×(Int×Int)×(Int×Int)×List UInt8))×(Int)×(Int))=>q3g_ (q5y_ u1 (fun t10 t11 t12 t27 t28 t29=>self (t10,t11,t12,t27,t28,t29))) u1 (fun t10 t11 t12 t27 t28 t29=>self (t10,t11,t12,t27,t28,t29)) s.1 s.2.1 s.2.2.1 s.2.2.2.1 s.2.2.2.2.1 s.2.2.2.2.2)
@[reducible] def zL4:Type:=List (List UInt8×Int×Int×Bool×(Int×Int)×(Int×Int)×List UInt8)
theorem qd2_ (u1:zL2) (self:zL3) (t10:zL1) (t11 t12:Int) (t27:zL4) (t28 t29:Int):qdw_ u1 self (t10,t11,t12,t27,t28,t29)=q3g_ (q5y_ u1 (fun t10 t11 t12 t27 t28 t29=>self (t10,t11,t12,t27,t28,t29))) u1 (fun t10 t11 t12 t27 t28 t29=>self (t10,t11,t12,t27,t28,t29)) t10 t11 t12 t27 t28 t29:=rfl
theorem qhz_ (u1:zL2) (t10:zL1) (t11 t12:Int) (t27:zL4) (t28 t29:Int):q5a_ u1 t10 t11 t12 t27 t28 t29=loopF (qdw_ u1) 18446744073709551616 (t10,t11,t12,t27,t28,t29):=rfl
@[reducible] def zL5:Type:=(List (List UInt8×Int×List (List UInt8×(Int×Int)×List UInt8×Int)))×(Int)×(Int)->Option (As [.bool])
def qf1_ :=(fun (self:zL5) (s:(List (List UInt8×Int×List (List UInt8×(Int×Int)×List UInt8×Int)))×(Int)×(Int))=>q62_ (q6w_ (fun t18 t19 t20=>self (t18,t19,t20))) (fun t18 t19 t20=>self (t18,t19,t20)) s.1 s.2.1 s.2.2)
@[reducible] def zL6:Type:=List (List UInt8×Int×List (List UInt8×(Int×Int)×List UInt8×Int))
theorem qec_  (self:zL5) (t18:zL6) (t19:Int) (t20:Int):qf1_ self (t18,t19,t20)=q62_ (q6w_ (fun t18 t19 t20=>self (t18,t19,t20))) (fun t18 t19 t20=>self (t18,t19,t20)) t18 t19 t20:=rfl
theorem qjg_  (t18:zL6) (t19:Int) (t20:Int):q78_ t18 t19 t20=loopF (qf1_) 18446744073709551616 (t18,t19,t20):=rfl
@[reducible] def zL7:Type:=List (List UInt8×Int×List (List UInt8×(Int×Int)×List UInt8×Int))->Int->Int->Option (As [.bool])
@[reducible] def zL8:Type:=(List (List UInt8×Int×List (List UInt8×(Int×Int)×List UInt8×Int)))×(Int)×(Int)×(List (List UInt8×(Int×Int)×List UInt8×Int))×(Int)×(Int)->Option (As [.bool])
def qew_ (u2:zL7):=(fun (self:zL8) (s:(List (List UInt8×Int×List (List UInt8×(Int×Int)×List UInt8×Int)))×(Int)×(Int)×(List (List UInt8×(Int×Int)×List UInt8×Int))×(Int)×(Int))=>q5l_ (q6x_ u2 (fun t18 t19 t20 t35 t36 t37=>self (t18,t19,t20,t35,t36,t37))) u2 (fun t18 t19 t20 t35 t36 t37=>self (t18,t19,t20,t35,t36,t37)) s.1 s.2.1 s.2.2.1 s.2.2.2.1 s.2.2.2.2.1 s.2.2.2.2.2)
theorem qeg_ (u2:zL7) (self:zL8) (t18:zL6) (t19 t20:Int) (t35:List (List UInt8×(Int×Int)×List UInt8×Int)) (t36 t37:Int):qew_ u2 self (t18,t19,t20,t35,t36,t37)=q5l_ (q6x_ u2 (fun t18 t19 t20 t35 t36 t37=>self (t18,t19,t20,t35,t36,t37))) u2 (fun t18 t19 t20 t35 t36 t37=>self (t18,t19,t20,t35,t36,t37)) t18 t19 t20 t35 t36 t37:=rfl
theorem qjd_ (u2:zL7) (t18:zL6) (t19 t20:Int) (t35:List (List UInt8×(Int×Int)×List UInt8×Int)) (t36 t37:Int):q6y_ u2 t18 t19 t20 t35 t36 t37=loopF (qew_ u2) 18446744073709551616 (t18,t19,t20,t35,t36,t37):=rfl
end Go.Proofs.Lx
end
section
set_option maxRecDepth 100000
namespace Go.Proofs.Lx
open Go Ev Sx Pl
theorem gt40 {n:Nat}:gt (Int.ofNat n) 40=!decide (n≤40):=gtn (k:=40)
def smPt (p:TPt):Bool:=decide (p.1.length≤40) && decide (p.2.2.2.2.2.2.length≤40)
def smDv (d:TDev):Bool:=decide (d.2.length≤40) && (decide (d.1.length≤40) && d.2.all smPt)
def smallB (t:TTab):Bool:=decide (t.length≤10) && t.all smDv
theorem small15_eq (t:TTab):q8m_ (t,())=some (smallB t,()):=by
 show q8e_ q7o_ t=_
 unfold q8e_ smallB
 have e10:gt (Int.ofNat t.length) 10=!decide (t.length≤10):=gtn (k:=10)
 rw [e10]
 by_cases h:t.length≤10
 ·rw [decide_eq_true h,if_neg (by decide),Bool.true_and,qi5_]
  have:loopF q9o_ 18446744073709551616 (t,Int.ofNat t.length,0)=if t.all smDv=true then some (true,()) else some (false,()):=by
   refine loop_all (xs:=t) (mk:=fun i=>(t,Int.ofNat t.length,(i:Int))) (p:=smDv) ?_ ?_ (by omega)
   ·intro self i d hd
    have hi:=(List.getElem?_eq_some_iff.1 hd).1
    rw [qd5_]
    unfold q3l_
    rw [if_pos (by rw [q0_,q1_]; omega),qg_ hd,Option.bind_some]
    have K3:d.2.length≤40->q5a_ (fun t10 t11 t12=>self (t10,t11,t12)) t (Int.ofNat t.length) (i:Int) d.2 (Int.ofNat d.2.length) 0=if d.2.all smPt=true then self (t,Int.ofNat t.length,((i + 1:Nat):Int)) else some (false,()):=fun hd40=>by
     rw [qhz_]
     refine loop_all (xs:=d.2) (mk:=fun j=>(t,Int.ofNat t.length,(i:Int),d.2,Int.ofNat d.2.length,(j:Int))) (p:=smPt) ?_ ?_ (by omega)
     ·intro self4 j p hp
      have hj:=(List.getElem?_eq_some_iff.1 hp).1
      rw [qd2_]
      unfold q3g_
      rw [if_pos (by rw [q0_,q1_]; omega),qg_ hp,Option.bind_some]
      have K4:∀ b,q5y_ (fun t10 t11 t12=>self (t10,t11,t12)) (fun t10 t11 t12 t27 t28 t29=>self4 (t10,t11,t12,t27,t28,t29)) t (Int.ofNat t.length) (i:Int) d.2 (Int.ofNat d.2.length) (j:Int) b=if b=true then some (false,()) else self4 (t,Int.ofNat t.length,(i:Int),d.2,Int.ofNat d.2.length,((j + 1:Nat):Int)):=fun b=>by
       show q81_ _ _ t _ (i:Int) d.2 _ (j:Int) b=_
       unfold q81_
       rw [ql_ (by omega)]
      simp only [K4,gt40]
      unfold smPt
      cases decide (p.1.length≤40) <;> cases decide (p.2.2.2.2.2.2.length≤40) <;> rfl
     ·intro self4
      rw [qd2_]
      unfold q3g_
      rw [if_neg (by rw [q0_,q1_]; omega),ql_ (by omega)]
    have K2:∀ b,q5u_ (fun t10 t11 t12=>self (t10,t11,t12)) t (Int.ofNat t.length) (i:Int) b d=if b=true then some (false,()) else q5a_ (fun t10 t11 t12=>self (t10,t11,t12)) t (Int.ofNat t.length) (i:Int) d.2 (Int.ofNat d.2.length) 0:=fun b=>rfl
    simp only [K2,gt40]
    unfold smDv
    by_cases h40:d.2.length≤40
    ·rw [K3 h40,decide_eq_true h40]
     cases decide (d.1.length≤40) <;> cases d.2.all smPt <;> rfl
    ·rw [decide_eq_false h40]
     rfl
   ·intro self
    rw [qd5_]
    unfold q3l_
    rw [if_neg (by rw [q0_,q1_]; omega)]
  refine Eq.trans this ?_
  cases t.all smDv <;> rfl
 ·rw [decide_eq_false h]
  rfl
def fwSet (s:TSet):Bool:=decide (s.1.length≤40) && decide (s.2.2.1.length≤40)
def fwPart (p:TPart):Bool:=decide (p.2.2.length≤70) && (decide (p.1.length≤40) && p.2.2.all fwSet)
def fewB (r:TRec):Bool:=decide (r.2.length≤12) && (decide (r.1.length≤40) && r.2.all fwPart)
theorem few_eq (r:TRec):qck_ (r,())=some (fewB r,()):=by
 show qar_ qa1_ r=_
 unfold qar_ fewB
 have e12:gt (Int.ofNat r.2.length) 12=!decide (r.2.length≤12):=gtn (k:=12)
 have K1:∀ b,qa1_ b r=if b=true then some (false,()) else q78_ r.2 (Int.ofNat r.2.length) 0:=fun b=>rfl
 simp only [K1,e12,gt40]
 by_cases h:r.2.length≤12
 ·have e64:∀ n:Nat,gt (Int.ofNat n) 70=!decide (n≤70):=fun n=>gtn (k:=70)
  have:q78_ r.2 (Int.ofNat r.2.length) 0=if r.2.all fwPart=true then some (true,()) else some (false,()):=by
   rw [qjg_]
   refine loop_all (xs:=r.2) (mk:=fun i=>(r.2,Int.ofNat r.2.length,(i:Int))) (p:=fwPart) ?_ ?_ (by omega)
   ·intro self i d hd
    have hi:=(List.getElem?_eq_some_iff.1 hd).1
    rw [qec_]
    unfold q62_
    rw [if_pos (by rw [q0_,q1_]; omega),qg_ hd,Option.bind_some]
    have K4:d.2.2.length≤70->q6y_ (fun t18 t19 t20=>self (t18,t19,t20)) r.2 (Int.ofNat r.2.length) (i:Int) d.2.2 (Int.ofNat d.2.2.length) 0=if d.2.2.all fwSet=true then self (r.2,Int.ofNat r.2.length,((i + 1:Nat):Int)) else some (false,()):=fun hd40=>by
     rw [qjd_]
     refine loop_all (xs:=d.2.2) (mk:=fun j=>(r.2,Int.ofNat r.2.length,(i:Int),d.2.2,Int.ofNat d.2.2.length,(j:Int))) (p:=fwSet) ?_ ?_ (by omega)
     ·intro self4 j p hp
      have hj:=(List.getElem?_eq_some_iff.1 hp).1
      rw [qeg_]
      unfold q5l_
      rw [if_pos (by rw [q0_,q1_]; omega),qg_ hp,Option.bind_some]
      have K5:∀ b,q6x_ (fun t18 t19 t20=>self (t18,t19,t20)) (fun t18 t19 t20 t35 t36 t37=>self4 (t18,t19,t20,t35,t36,t37)) r.2 (Int.ofNat r.2.length) (i:Int) d.2.2 (Int.ofNat d.2.2.length) (j:Int) b=if b=true then some (false,()) else self4 (r.2,Int.ofNat r.2.length,(i:Int),d.2.2,Int.ofNat d.2.2.length,((j + 1:Nat):Int)):=fun b=>by
       show qae_ _ _ r.2 _ (i:Int) d.2.2 _ (j:Int) b=_
       unfold qae_
       rw [ql_ (by omega)]
      simp only [K5,gt40]
      unfold fwSet
      cases decide (p.1.length≤40) <;> cases decide (p.2.2.1.length≤40) <;> rfl
     ·intro self4
      rw [qeg_]
      unfold q5l_
      rw [if_neg (by rw [q0_,q1_]; omega),ql_ (by omega)]
    have K3:∀ b,q6w_ (fun t18 t19 t20=>self (t18,t19,t20)) r.2 (Int.ofNat r.2.length) (i:Int) b d=if b=true then some (false,()) else q6y_ (fun t18 t19 t20=>self (t18,t19,t20)) r.2 (Int.ofNat r.2.length) (i:Int) d.2.2 (Int.ofNat d.2.2.length) 0:=fun b=>rfl
    simp only [K3,gt40,e64]
    unfold fwPart
    by_cases h40:d.2.2.length≤70
    ·rw [K4 h40,decide_eq_true h40]
     cases decide (d.1.length≤40) <;> cases d.2.2.all fwSet <;> rfl
    ·rw [decide_eq_false h40]
     rfl
   ·intro self
    rw [qec_]
    unfold q62_
    rw [if_neg (by rw [q0_,q1_]; omega)]
  rw [this,decide_eq_true h]
  cases decide (r.1.length≤40) <;> cases r.2.all fwPart <;> rfl
 ·rw [decide_eq_false h]
  rfl
theorem small_len {t:TTab} (h:smallB t=true):t.length≤10∧∀ d ∈ t,d.2.length≤40:=by
 unfold smallB at h
 simp only [Bool.and_eq_true,decide_eq_true_eq,List.all_eq_true] at h
 refine ⟨h.1,fun d hd=>?_⟩
 have:=h.2 d hd
 unfold smDv at this
 simp only [Bool.and_eq_true,decide_eq_true_eq] at this
 exact this.1
theorem few_len {r:TRec} (h:fewB r=true):r.2.length≤12∧∀ p ∈ r.2,p.2.2.length≤70:=by
 unfold fewB at h
 simp only [Bool.and_eq_true,decide_eq_true_eq,List.all_eq_true] at h
 refine ⟨h.1,fun d hd=>?_⟩
 have:=h.2.2 d hd
 unfold fwPart at this
 simp only [Bool.and_eq_true,decide_eq_true_eq] at this
 exact this.1
def setL (bank:List Int) (L:EnL):List Int:=L.foldl (fun b e=>setW b e.1 e.2) bank
theorem setL_len:∀ (L:EnL) (bank:List Int),(setL bank L).length=bank.length
 | [],_=>rfl
 | e::q,bank=>by
  show (setL (setW bank e.1 e.2) q).length=_
  rw [setL_len q,setW_len]
theorem overW_set:∀ (ws:List Int) (a:Int) (bank:List Int),overW bank a ws=setL bank (fl a ws)
 | [],_,_=>rfl
 | w::r,a,bank=>by
  show overW (setW bank a w) (a + 1) r=setL (setW bank a w) (fl (a + 1) r)
  exact overW_set r (a + 1) _
theorem setL_app (bank:List Int) (L K:EnL):setL bank (L++K)=setL (setL bank L) K:=by unfold setL; rw [List.foldl_append]
theorem over_set:∀ (l:List Bk) (bank:List Int),over bank l=setL bank (flat l)
 | [],_=>rfl
 | b::r,bank=>by
  show over (overW bank b.1 b.2) r=setL bank (fl b.1 b.2++flat r)
  rw [over_set r,overW_set,setL_app]
theorem setW_at (bank:List Int) (a w:Int) (i:Nat):(setW bank a w)[i]? = (bank[i]?).map fun x=>if a=(i:Int) then w else x:=by
 unfold setW
 by_cases h:0≤a∧a < (bank.length:Int)
 ·rw [if_pos h]
  by_cases hi:a=(i:Int)
  ·subst hi
   rw [Int.toNat_natCast,List.getElem?_set_self (by omega),List.getElem?_eq_getElem (by omega)]
   simp
  ·rw [List.getElem?_set_ne (by omega)]
   simp [hi]
 ·rw [if_neg h]
  cases hb:bank[i]? with
  | none=>rfl
  | some x =>
   have:=(List.getElem?_eq_some_iff.1 hb).1
   rw [Option.map_some,if_neg (by omega)]
theorem setL_at:∀ (L:EnL) (bank:List Int) (i:Nat),i < bank.length->(∃ x,((i:Int),x) ∈ L∧(setL bank L)[i]? = some x)∨((∀ w,((i:Int),w) ∉ L)∧(setL bank L)[i]? = bank[i]?)
 | [],_,_,_=>.inr ⟨(fun w h=>by cases h),rfl⟩
 | e::q,bank,i,hi=>by
  obtain ⟨a,v⟩:=e
  have:=setL_at q (setW bank a v) i (by rw [setW_len]; exact hi)
  rcases this with ⟨x,h1,h2⟩ | ⟨h1,h2⟩
  ·exact .inl ⟨x,List.mem_cons_of_mem _ h1,h2⟩
  ·by_cases ha:a=(i:Int)
   ·subst ha
    left
    refine ⟨v,List.mem_cons_self ..,?_⟩
    show (setL (setW bank (i:Int) v) q)[i]? = _
    rw [h2,setW_at,List.getElem?_eq_getElem hi]
    simp
   ·right
    refine ⟨fun w hw=>?_,?_⟩
    ·rcases List.mem_cons.1 hw with h | h
     ·cases h; exact ha rfl
     ·exact h1 w h
    ·show (setL (setW bank a v) q)[i]? = _
     rw [h2,setW_at]
     cases bank[i]? with
     | none=>rfl
     | some x=>rw [Option.map_some,if_neg ha]
theorem setL_same {L K:EnL} (hf:Func L) (hm:∀ e,e ∈ L ↔ e ∈ K) (bank:List Int):setL bank L=setL bank K:=by
 refine List.ext_getElem? fun i=>?_
 by_cases hi:i < bank.length
 ·rcases setL_at L bank i hi with ⟨x,h1,h2⟩ | ⟨h1,h2⟩
  ·rcases setL_at K bank i hi with ⟨y,h3,h4⟩ | ⟨h3,h4⟩
   ·rw [h2,h4,hf _ _ _ h1 ((hm _).2 h3)]
   ·exact absurd ((hm _).1 h1) (h3 x)
  ·rcases setL_at K bank i hi with ⟨y,h3,h4⟩ | ⟨h3,h4⟩
   ·exact absurd ((hm _).2 h3) (h1 y)
   ·rw [h2,h4]
 ·rw [List.getElem?_eq_none (by rw [setL_len]; omega),List.getElem?_eq_none (by rw [setL_len]; omega)]
theorem esM_func (m:EnL):Func (esM m):=fun a w v h1 h2=>by
 have e1:=(esM_mem.1 h1).2
 have e2:=(esM_mem.1 h2).2
 rw [e1] at e2
 exact Option.some.inj e2
theorem flat_mem_rev (l:List Bk) (e:Int×Int):e ∈ flat l ↔ e ∈ flat l.reverse:=by
 unfold flat
 simp only [List.mem_flatMap,List.mem_reverse]
theorem blk_at {m:EnL} {l:List Bk} (h:blkM m=some l):∀ b ∈ l,0≤b.1∧b.1 < 64∧b.2.length≤14∧1≤b.2.length:=fun b hb=>by
 obtain ⟨h1,h2,h3⟩:=blkM_ok h
 have h4:=h1.len b hb
 have h5:(b.1 + ((0:Nat):Int),b.2[0]'(by omega)) ∈ fl b.1 b.2:=fl_at (List.getElem?_eq_getElem (by omega))
 have h6:(b.1 + ((0:Nat):Int),b.2[0]'(by omega)) ∈ esM m:=by
  rw [<- h3]
  exact List.mem_flatMap.2 ⟨b,hb,h5⟩
 have:=(esM_mem.1 h6).1
 omega
theorem blk_fit {m:EnL} {l:List Bk} (h:blkM m=some l):FitB l∧FitB l.reverse:=by
 have h8:=(blkM_ok h).2.1
 have hb:=blk_at h
 refine ⟨⟨by omega,fun b hm=>?_⟩,⟨by rw [List.length_reverse]; omega,fun b hm=>?_⟩⟩
 ·have:=hb b hm; omega
 ·have:=hb b (List.mem_reverse.1 hm); omega
theorem over_map {m:EnL} {l:List Bk} (h:blkM m=some l) (bank:List Int) (hn:bank.length=64):over bank l.reverse=over bank l∧(over bank l).length=64 ∧
  ∀ i:Nat,i < 64->(over bank l)[i]? = match dget kT m (i:Int) with
   | some w=>some w
   | none=>bank[i]?:=by
 have h3:=(blkM_ok h).2.2
 rw [over_set,over_set,h3]
 refine ⟨(setL_same (esM_func m) (fun e=>by rw [<- h3]; exact flat_mem_rev l e) bank).symm,by rw [setL_len,hn],fun i hi=>?_⟩
 rcases setL_at (esM m) bank i (by omega) with ⟨x,h1,h2⟩ | ⟨h1,h2⟩
 ·rw [h2,(esM_mem.1 h1).2]
 ·rw [h2]
  cases hd:dget kT m (i:Int) with
  | none=>rfl
  | some w=>exact absurd (esM_mem.2 ⟨⟨by omega,by omega⟩,hd⟩) (h1 w)
end Go.Proofs.Lx
end
section
set_option maxRecDepth 100000
namespace Go.Proofs.Lx
open Go Ev Sx Pl
abbrev TShr:=Int×List Bk
def shrW (was:List Int) (i:Int) (now:List Int) (s:TShr):List Int:=if s.1=i then over was s.2 else now
theorem shr_in:∀ {ms:List EnL} {i:Nat} {s:TShr},s ∈ shrS i ms->∃ j:Nat,s.1=((i + j:Nat):Int)∧∃ m,ms[j]? = some m∧s.2=(blkM m).getD []∧s.2.length ≠ 0
 | [],_,_,h=>by simp [shrS] at h
 | m::q,i,s,h=>by
  have tl:s ∈ shrS (i + 1) q->∃ j:Nat,s.1=((i + j:Nat):Int)∧∃ n,(m::q)[j]? = some n∧s.2=(blkM n).getD []∧s.2.length ≠ 0:=fun h=>by
   obtain ⟨j,h1,n,h2,h3⟩:=shr_in h
   exact ⟨j + 1,by rw [h1]; congr 1; omega,n,by simpa using h2,h3⟩
  unfold shrS at h
  split at h
  ·exact tl h
  ·rename_i h0
   rcases List.mem_cons.1 h with h | h
   ·subst h
    exact ⟨0,by simp,m,by simp,rfl,h0⟩
   ·exact tl h
theorem shr_pair:∀ (ms:List EnL) (i:Nat),(shrS i ms).Pairwise fun a b=>a.1 < b.1
 | [],_=>by simp [shrS]
 | m::q,i=>by
  unfold shrS
  split
  ·exact shr_pair q (i + 1)
  ·rw [List.pairwise_cons]
   refine ⟨fun s hs=>?_,shr_pair q (i + 1)⟩
   obtain ⟨j,h1,_⟩:=shr_in hs
   rw [h1]
   show (i:Int) < _
   omega
theorem shr_fold (was:List Int) (k:Nat):∀ (ms:List EnL) (i:Nat) (now:List Int),(shrS i ms).foldl (shrW was (k:Int)) now=if i≤k then match ms[k - i]? with
   | some m=>if ((blkM m).getD []).length=0 then now else over was ((blkM m).getD [])
   | none=>now
  else now
 | [],i,now=>by simp [shrS]
 | m::q,i,now=>by
  unfold shrS
  by_cases h0:((blkM m).getD []).length=0
  ·rw [if_pos h0,shr_fold was k q (i + 1) now]
   by_cases hi:i=k
   ·subst hi
    rw [if_neg (by omega),if_pos (Nat.le_refl _),Nat.sub_self,List.getElem?_cons_zero]
    dsimp only
    rw [if_pos h0]
   ·by_cases hk:i≤k
    ·rw [if_pos (by omega),if_pos hk,show k - i=(k - (i + 1)) + 1 by omega,List.getElem?_cons_succ]
    ·rw [if_neg (by omega),if_neg hk]
  ·rw [if_neg h0,List.foldl_cons,shr_fold was k q (i + 1) _]
   unfold shrW
   dsimp only
   by_cases hi:i=k
   ·subst hi
    rw [if_neg (by omega),if_pos (Nat.le_refl _),Nat.sub_self,List.getElem?_cons_zero,if_pos rfl]
    dsimp only
    rw [if_neg h0]
   ·rw [if_neg (show ¬ (i:Int)=(k:Int) by omega)]
    by_cases hk:i≤k
    ·rw [if_pos (by omega),if_pos hk,show k - i=(k - (i + 1)) + 1 by omega,List.getElem?_cons_succ]
    ·rw [if_neg (by omega),if_neg hk]
theorem pm_K7 (u5:List TShr->List Int->TTab->Int->Int->TRec->Option (As [.bool])) (u6:List TShr->List Int->Int->List Int->TTab->Int->Int->List TShr->Int->Int->TRec->TDev->Option (As [.bool]))
  (l:List TShr) (was:List Int) (i:Int) (t:TTab) (n j:Int) (l2:List TShr) (n2 j2:Int) (r:TRec) (d:TDev) (s:TShr) (hs:s.2.length≤1000):∀ (k m:Nat) (back:List Bk),k≤s.2.length->k < m->back.length + k≤1000 ->
  loopF (q6a_ u5 u6) m (l,was,i,((k:Int) - 1),t,n,j,l2,n2,j2,r,d,s,back)=q2m_ u5 u6 l was i t n j l2 n2 j2 r d s (back++(s.2.take k).reverse)
 | _,0,_,_,h,_=>by omega
 | 0,m + 1,back,_,_,_=>by
  rw [q6_,q9t_]
  unfold q1n_
  rw [if_neg (by rw [ge_iff]; omega)]
  simp
 | k + 1,m + 1,back,hk,hm,hb=>by
  have hlt:k < s.2.length:=by omega
  have e2:s.2.take (k + 1)=s.2.take k++[s.2[k]]:=by rw [List.take_add_one,List.getElem?_eq_getElem hlt]; rfl
  rw [q6_,q9t_]
  unfold q1n_
  have e1:(((k + 1:Nat):Int) - 1)=(k:Int):=by omega
  rw [e1,if_pos (by rw [ge_iff]; omega),qg_ (List.getElem?_eq_getElem hlt),Option.bind_some,need_small (by omega),sub64 (by omega) (by omega)]
  refine (pm_K7 u5 u6 l was i t n j l2 n2 j2 r d s hs k m (back++[s.2[k]]) (by omega) (by omega) (by rw [List.length_append,List.length_singleton]; omega)).trans ?_
  rw [e2,List.reverse_append,List.append_assoc]
  rfl
theorem pm_K6 (u5:List TShr->List Int->TTab->Int->Int->TRec->Option (As [.bool])) (l:List TShr) (was:List Int) (hw:was.length=64) (i:Int) (t:TTab) (n j:Int) (r:TRec) (d:TDev) (hl:l.length≤1000)
  (hb:∀ s ∈ l,∃ m,blkM m=some s.2) (now:List Int) :
  q1u_ u5 l was i now t n j l (Int.ofNat l.length) 0 r d=q1s_ u5 l was (l.foldl (shrW was i) now) t n j r d:=by
 rw [qf2_]
 refine (loop_idx (xs:=l) (mk:=fun k (a:List Int)=>(l,was,i,a,t,n,j,l,Int.ofNat l.length,(k:Int),r,d)) (stp:=shrW was i) (fin:=fun a=>q1s_ u5 l was a t n j r d) (fun _ _=>True) ?_ (fun _ _ _ _ _=>trivial) ?_ l.length 0 now _ (by omega) (by omega) trivial).trans (by rw [List.drop_zero])
 ·intro self k a s hg _
  have hi:=(List.getElem?_eq_some_iff.1 hg).1
  obtain ⟨m,hm⟩:=hb s (List.mem_of_getElem? hg)
  rw [q9v_]
  unfold q1r_
  rw [if_pos (by rw [q0_,q1_]; omega),qg_ hg,Option.bind_some,ql_ (by omega)]
  unfold shrW
  by_cases he:s.1=i
  ·have h8:=(blkM_ok hm).2.1
   obtain ⟨f1,f2⟩:=blk_fit hm
   obtain ⟨o1,o2,_⟩:=over_map hm was hw
   rw [if_pos (q9_.2 he),if_pos he,q1_,sub64 (by omega) (by omega),qez_]
   refine (pm_K7 u5 _ l was i t n j l _ (k:Int) r d s (by omega) s.2.length _ [] (Nat.le_refl _) (by omega) (by simp; omega)).trans ?_
   rw [List.nil_append,List.take_length]
   show q4w_ _ _ l was i t n j l _ (k:Int) r d s s.2.reverse=_
   unfold q4w_
   rw [over_eq was s.2 (by omega) f1,Option.bind_some,over_eq was s.2.reverse (by omega) f2,Option.bind_some,o1]
   dsimp only
   rw [regs_eq _ _ (by omega) (by omega),Option.bind_some,decide_eq_true rfl]
   dsimp only
   rw [if_neg (by decide),ql_ (by omega)]
  ·rw [if_neg (fun e=>he (q9_.1 e)),if_neg he]
 ·intro self a _
  rw [q9v_]
  unfold q1r_
  rw [if_neg (by rw [q0_,q1_]; omega)]
theorem wrD_len {d:TDev}:∀ {ps:List TPart},d.2.length≤1000->(∀ p ∈ ps,p.2.2.length≤70)->(wrD d ps).length≤ps.length * 70000
 | [],_,_=>by simp [wrD]
 | p::q,hd,hp=>by
  have ih:=@wrD_len d q hd fun x hx=>hp x (List.mem_cons_of_mem _ hx)
  have h1:∀ s,(wrP s d.2).length≤1000:=fun s=>by
   unfold wrP
   rw [List.length_map]
   exact Nat.le_trans (List.length_filter_le _ _) hd
  have h2:∀ ss:List TSet,(wrS d.2 ss).length≤ss.length * 1000:=fun ss=>by
   induction ss with
   | nil=>simp [wrS]
   | cons s r ihs =>
    show (wrP s d.2++wrS d.2 r).length≤_
    rw [List.length_append,List.length_cons]
    have:=h1 s
    omega
  show ((if eqs d.1 p.1=true then wrS d.2 p.2.2 else [])++wrD d q).length≤_
  rw [List.length_append,List.length_cons]
  have h3:=h2 p.2.2
  have h4:=hp p (by simp)
  split
  ·omega
  ·rw [List.length_nil]; omega
theorem blk_nil:blkM []=some []:=by
 have h:=blocksd_eq (m:=[]) (by simp) (fun k hk=>by cases hk)
 cases hb:blkM [] with
 | none =>
  have:esM ([]:EnL)=[]:=by
   have hh:∀ e,e ∉ esM ([]:EnL):=fun e he=>by have:=(esM_mem (a:=e.1) (w:=e.2)).1 he; cases this.2
   cases hq:esM ([]:EnL) with
   | nil=>rfl
   | cons e q=>exact absurd (by rw [hq]; exact List.mem_cons_self ..) (hh e)
  have:blkM ([]:EnL)=some []:=by unfold blkM; rw [this]; rfl
  rw [this] at hb
  cases hb
 | some l =>
  have h3:=(blkM_ok hb).2.2
  cases l with
  | nil=>rfl
  | cons b q =>
   have:=blk_at hb b (by simp)
   have h5:(b.1 + ((0:Nat):Int),b.2[0]'(by omega)) ∈ fl b.1 b.2:=fl_at (List.getElem?_eq_getElem (by omega))
   have h6:(b.1 + ((0:Nat):Int),b.2[0]'(by omega)) ∈ esM ([]:EnL):=by
    rw [<- h3]
    exact List.mem_flatMap.2 ⟨b,by simp,h5⟩
   cases (esM_mem.1 h6).2
theorem pm_plan {t:TTab} {r:TRec} (ht:TabR t) (hr:RecR r) (hp70:∀ p ∈ r.2,p.2.2.length≤70) (hp12:r.2.length≤12) (hc:checkS t r=(0,0)) (hf:r.2.find? (badP t r.2)=none) (was:List Int) (hw:was.length=64) :
  q2n_ t (shrS 0 (qm_ t r.2)) r was=some (true,()):=by
 have ht1:=ht.1
 obtain ⟨hB,hN⟩:tabB t=true∧partsS t r.2 []=none:=by
  rcases check_cases t r with ⟨_,h2,_,h4⟩ | ⟨h1,_⟩
  ·exact ⟨h2,h4⟩
  ·rw [hc] at h1; exact absurd rfl h1
 obtain ⟨hnd,hdis,hdv⟩:=tabB_dis hB
 have hwl:(qm_ t r.2).length=t.length:=by unfold qm_; rw [List.length_map]
 have hsome:∀ (i:Nat) (d:TDev),t[i]? = some d->∃ l,blkM (mapD r.2 d)=some l:=by
  intro i d hd
  by_cases he:∃ p ∈ r.2,d.1=p.1
  ·obtain ⟨p,hp,he⟩:=he
   obtain ⟨z,hz,_⟩:=(partsS_ok hN).2 p hp
   obtain ⟨z1,z2⟩:=z
   obtain ⟨hm,hg,hn⟩:=srch_mem hz
   have:i=z1:=hdis i z1 d z2 hd hg (by rw [he,eqs_i.1 hn])
   subst this
   rw [hd] at hg
   cases hg
   have hb:=List.find?_eq_none.1 hf p hp
   unfold badP at hb
   rw [hz] at hb
   dsimp only at hb
   cases hq:blkM (mapD r.2 d) with
   | none=>rw [hq] at hb; exact absurd rfl hb
   | some l=>exact ⟨l,rfl⟩
  ·have:mapD r.2 d=[]:=by
    have:wrD d r.2=[]:=by
     unfold wrD
     rw [List.flatMap_eq_nil_iff]
     intro p hp
     rw [if_neg (fun e=>he ⟨p,hp,eqs_i.1 e⟩)]
    unfold mapD
    rw [this]
    rfl
   rw [this]
   exact ⟨[],blk_nil⟩
 have hwat:∀ (i:Nat) (m:EnL),(qm_ t r.2)[i]? = some m->∃ d,t[i]? = some d∧m=mapD r.2 d:=fun i m h=>by
  unfold qm_ at h
  rw [List.getElem?_map] at h
  cases hd:t[i]? with
  | none=>rw [hd] at h; cases h
  | some d=>rw [hd] at h; cases h; exact ⟨d,rfl,rfl⟩
 have hblk:∀ s ∈ shrS 0 (qm_ t r.2),∃ m,blkM m=some s.2:=fun s hs=>by
  obtain ⟨j,_,m,h2,h3,_⟩:=shr_in hs
  obtain ⟨d,hd,rfl⟩:=hwat j m h2
  obtain ⟨l,hl⟩:=hsome j d hd
  exact ⟨_,by rw [h3,hl]; rfl⟩
 have hsl:=shr_len 0 (qm_ t r.2)
 show q4o_ (shrS 0 (qm_ t r.2)) was t (Int.ofNat t.length) 0 r=_
 rw [qf7_]
 refine (loop_idx (xs:=t) (mk:=fun i (_:Unit)=>(shrS 0 (qm_ t r.2),was,t,Int.ofNat t.length,(i:Int),r)) (stp:=fun _ _=>()) (fin:=fun _=>some (true,())) (fun _ _=>True) ?_ (fun _ _ _ _ _=>trivial) ?_ t.length 0 () _ (by omega) (by omega) trivial)
 ·intro self i a d hg _
  have hi:=(List.getElem?_eq_some_iff.1 hg).1
  have hdm:=List.mem_of_getElem? hg
  obtain ⟨l,hl⟩:=hsome i d hg
  obtain ⟨o1,o2,o3⟩:=over_map hl was hw
  have hdd:=ht.2 d hdm
  rw [q9w_]
  unfold q1t_
  rw [if_pos (by rw [q0_,q1_]; omega),qg_ hg,Option.bind_some,pm_K6 _ _ was hw (i:Int) t _ (i:Int) r d (by omega) hblk was,shr_fold,if_pos (Nat.zero_le _),Nat.sub_zero]
  have hwi:(qm_ t r.2)[i]? = some (mapD r.2 d):=by unfold qm_; rw [List.getElem?_map,hg]; rfl
  rw [hwi]
  dsimp only
  rw [hl]
  have hnow:(if ((some l).getD []).length=0 then was else over was ((some l).getD []))=over was l:=by
   show (if l.length=0 then was else over was l)=over was l
   split
   ·rename_i h0
    rw [List.length_eq_zero_iff.1 h0]
    rfl
   ·rfl
  rw [hnow]
  show q4n_ _ _ _ was (over was l) t _ (i:Int) r d=_
  unfold q4n_
  have hne:¬ nei (Int.ofNat (over was l).length) (Int.ofNat was.length)=true:=fun e=>qe_.1 e (by rw [o2,hw])
  have hfun:=wrD_func (r:=r) hB hN hdm
  have hfill:∀ a w,dget kT (mapD r.2 d) a=some w ↔ (a,w) ∈ wrD d r.2:=fun a w=>fill_iff hfun a w
  have hmeans:q6g_ (d,r,was,over was l,())=some (true,()):=by
   refine means_eq hr (by omega) ?_ (by omega) (by omega) ?_ ?_
   ·intro p hp he s hs q hq hqs
    obtain ⟨z,hz,hz2⟩:=(partsS_ok hN).2 p hp
    obtain ⟨z1,z2⟩:=z
    obtain ⟨hm,hg2,hn⟩:=srch_mem hz
    have:i=z1:=hdis i z1 d z2 hg hg2 (by rw [he,eqs_i.1 hn])
    subst this
    rw [hg] at hg2
    cases hg2
    obtain ⟨y,hy,hw0⟩:=(setsS_ok hz2).2 s hs
    obtain ⟨y1,y2⟩:=y
    obtain ⟨hym,_,hyn⟩:=srch_mem hy
    have hqy:q=y2:=nodup_mem (devB_dis (hdv d hdm)).1 hq hym (by rw [hqs,eqs_i.1 hyn])
    subst hqy
    obtain ⟨b1,b2,b3⟩:=wrd_back ((hr.2 p hp).2 s hs) hw0
    refine ⟨b1,(wrdS q s).1,?_,b3⟩
    have hat:=(ptB_at ((devB_dis (hdv d hdm)).2.2 q hq)).1
    obtain ⟨k,hk⟩:∃ k:Nat,q.2.1=(k:Int):=⟨q.2.1.toNat,by omega⟩
    rw [hk]
    have h1:dget kT (mapD r.2 d) (k:Int)=some (wrdS q s).1:=(hfill _ _).2 (wrD_mem.2 ⟨p,hp,he,s,hs,q,hq,hqs,hk,rfl⟩)
    have h2:=o3 k (by omega)
    rw [h1] at h2
    exact qg_ h2
   ·have:=wrD_len (d:=d) (ps:=r.2) (by omega) hp70
    omega
   ·intro k x hx hno
    have hk:=(List.getElem?_eq_some_iff.1 hx).1
    rw [o3 k (by omega)]
    cases hd:dget kT (mapD r.2 d) (k:Int) with
    | none=>exact hx
    | some w=>exact absurd ((hfill _ _).1 hd) (hno w)
  rw [if_neg hne,hmeans,Option.bind_some]
  show q46_ _ _ was t _ (i:Int) false r=_
  unfold q46_
  rw [if_neg (by decide),ql_ (by omega)]
 ·intro self a _
  rw [q9w_]
  unfold q1t_
  rw [if_neg (by rw [q0_,q1_]; omega),awake]
  rfl
theorem pm_law {t:TTab} {r:TRec} (hpt:∀ d ∈ t,∀ p ∈ d.2,PtR p) (hps:∀ p ∈ r.2,∀ s ∈ p.2.2,0≤s.2.1.2) (bank:List Int):q6r_ (t,r,bank,())=some (true,()):=by
 show q4q_ q4u_ t r bank=_
 unfold q4q_
 have aw:(Option.bind (q1v_ ()) fun y=>(some (y.fst,()):Option (As [.bool])))=some (true,()):=by rw [awake]; rfl
 have K1t:q4u_ t bank true r=some (true,()):=by
  show q1o_ _ t bank true r=_
  unfold q1o_
  rw [if_pos rfl,aw]
 rw [small15_eq,Option.bind_some]
 dsimp only
 cases hsm:smallB t with
 | false=>rw [if_pos (by rfl),K1t]
 | true =>
  rw [if_neg (by decide),few_eq,Option.bind_some]
  dsimp only
  cases hfw:fewB r with
  | false=>exact K1t
  | true =>
   obtain ⟨s1,s2⟩:=small_len hsm
   obtain ⟨f1,f2⟩:=few_len hfw
   have ht:TabR t:=⟨by omega,fun d hd=>⟨by have:=s2 d hd; omega,hpt d hd⟩⟩
   have hr:RecR r:=⟨by omega,fun p hp=>⟨by have:=f2 p hp; omega,hps p hp⟩⟩
   show q1o_ q4p_ t bank false r=_
   unfold q1o_
   rw [if_neg (by decide),make_eq ht hr,Option.bind_some]
   dsimp only
   unfold makeS
   by_cases hc:checkS t r=(0,0)
   ·rw [if_pos hc]
    cases hf:r.2.find? (badP t r.2) with
    | some p =>
     dsimp only
     rw [if_pos (by decide),if_pos (by decide),check_eq ht hr,Option.bind_some,hc]
     dsimp only
     rw [if_pos (by decide),aw]
    | none =>
     dsimp only
     rw [if_neg (by decide)]
     have hwl:(qm_ t r.2).length=t.length:=by unfold qm_; rw [List.length_map]
     have hsl:=shr_len 0 (qm_ t r.2)
     have hlen:(List.take 64 bank++List.drop (0 + (List.take 64 bank).length) (List.replicate 64 (0:Int))).length=64:=by
      rw [List.length_append,List.length_drop,List.length_replicate]
      have:(List.take 64 bank).length≤64:=by rw [List.length_take]; omega
      omega
     generalize List.take 64 bank++List.drop (0 + (List.take 64 bank).length) (List.replicate 64 (0:Int))=was at hlen ⊢
     have hp:=pm_plan ht hr f2 f1 hc hf was hlen
     have hbd:∀ s ∈ shrS 0 (qm_ t r.2),0≤s.1∧s.1 < (t.length:Int)∧1≤s.2.length∧s.2.length≤8:=fun s hs=>by
      obtain ⟨j,h1,m,h2,h3,h4⟩:=shr_in hs
      have hj:=(List.getElem?_eq_some_iff.1 h2).1
      refine ⟨by omega,by omega,by omega,?_⟩
      rw [h3] at h4 ⊢
      cases hb:blkM m with
      | none=>simp
      | some l=>exact (blkM_ok hb).2.1
     have hpw:=shr_pair (qm_ t r.2) 0
     generalize shrS 0 (qm_ t r.2)=E at hp hbd hpw hsl ⊢
     rw [qfb_]
     refine (loop_idx (xs:=E) (mk:=fun i (a:Int)=>(t,E,a,E,Int.ofNat E.length,(i:Int),r,was)) (stp:=fun _ s=>s.1) (fin:=fun _=>some (true,())) (fun i a=>∀ s ∈ E.drop i,a < s.1) ?_ ?_ ?_ E.length 0 (-1) _ (by omega) (by omega) (fun s hs=>by have:=hbd s (by simpa using hs); omega))
     ·intro self i a s hg hI
      have hi:=(List.getElem?_eq_some_iff.1 hg).1
      have hm:=List.mem_of_getElem? hg
      have hb:=hbd s hm
      have ha:a < s.1:=hI s (by rw [List.drop_eq_getElem_cons hi]; have:=(List.getElem?_eq_some_iff.1 hg).2; rw [this]; exact List.mem_cons_self ..)
      rw [q9u_]
      unfold q1p_
      have g8:gt (Int.ofNat s.2.length) 8=false:=by rw [gt_dec,decide_eq_false (by rw [q1_]; omega)]
      rw [if_pos (by rw [q0_,q1_]; omega),qg_ hg,Option.bind_some,if_neg (by rw [le_iff]; omega),if_neg (by rw [ge_iff,q1_]; omega),if_neg (by rw [q0_,q1_]; omega),g8]
      show q4v_ _ t E E _ (i:Int) false r was s=_
      unfold q4v_
      rw [if_neg (by decide),ql_ (by omega)]
     ·intro i a s hg hI s2 hs2
      have hi:=(List.getElem?_eq_some_iff.1 hg).1
      have he:=(List.getElem?_eq_some_iff.1 hg).2
      have hd:=hpw.sublist (List.drop_sublist i E)
      rw [List.drop_eq_getElem_cons hi,he,List.pairwise_cons] at hd
      exact hd.1 s2 hs2
     ·intro self a _
      rw [q9u_]
      unfold q1p_
      rw [if_neg (by rw [q0_,q1_]; omega)]
      exact hp
   ·have hz:(checkS t r).1 ≠ 0∧(checkS t r).1 ≠ 160:=by
     rcases check_cases t r with ⟨h1,_⟩ | h
     ·exact absurd h1 hc
     ·exact h
    rw [if_neg hc]
    dsimp only
    rw [if_pos (qe_.2 hz.1),if_pos (by decide),check_eq ht hr,Option.bind_some]
    dsimp only
    have e1:eqi (checkS t r).1 160=false:=by rw [Bool.eq_false_iff]; exact fun e=>hz.2 (q9_.1 e)
    have e2:eqi (checkS t r).1 0=false:=by rw [Bool.eq_false_iff]; exact fun e=>hz.1 (q9_.1 e)
    rw [e1,e2,if_pos (by decide),aw]
theorem okU8 {x:Int} (h:(Lit.int .u8 x).wf=true):0≤x:=by
 simp [Lit.wf] at h
 have e1:IntKind.u8.min=0:=rfl
 omega
theorem planMeans_row (x:As [.sl (.pr .str QMT2),.pr .str QMT4,.sl (.int .u16)]) (h:Rw.okA [.sl (.pr .str QMT2),.pr .str QMT4,.sl (.int .u16)] x):q6r_ x=some (true,()):=by
 obtain ⟨t,r,bank,u⟩:=x
 refine pm_law (fun d hd p hp=>?_) (fun p hp s hs=>?_) bank
 ·have h1:=(h.1.2 d hd).2.2 p hp
  exact ⟨okU8 h1.2.2.2.2.1.2,okU8 h1.2.2.2.2.2.1.2⟩
 ·have h1:=(h.2.1.2.2 p hp).2.2.2 s hs
  exact okU8 h1.2.1.2
end Go.Proofs.Lx
end
