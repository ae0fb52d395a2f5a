/- Proved in the last of these 15 parts (this is part 11): PlanText. Conditions: those of the given statement, and no others. -/
import Derived.Test.YtnamnibaedolaaaGreatDoorPartj
import Derived.Test.YtnamnibaedolaaaGreatDoorParte
import Derived.Test.YtnamnibaedolaaaGreatDoorProg
import Derived.Test.YtnamnibaedolaaaGreatDoorPartg
import Derived.Shelf.SlIterI.Nil
import Derived.Shelf.SlIterI.Sorted
import Derived.Shelf.SortM.Plain
import Derived.Shelf.SortM.SortNone
import Derived.Ground.GgzProg
import Derived.Ground.SlgmProg
import Derived.RangeFuncWrites
import Derived.RangeFuncBox
import Derived.RangeFuncLeaves
import Derived.Shelf.Abstract
import Derived.WalkKit
import Derived.OwnWalkIn
import Derived.TacticsInMore
import Derived.LoopNIn
import Derived.LoopIn
set_option linter.unusedVariables false
set_option linter.unusedSimpArgs false
set_option linter.unusedSectionVars false
open Option renaming bind_some → zB
open List renaming replicate → zC, length → zE, mem_cons_of_mem → zO, getD_eq_getElem?_getD → zS, mem_of_getElem? → zT, length_map → zV, length_take → zW
open Int renaming ofNat → zD
open Bool renaming and_eq_true → zL
noncomputable section
set_option maxRecDepth 100000
namespace Go.Proofs.Lx
open Go Ev Sx Pl
theorem aaf:∀(k v:Nat),(stN k v).1≠0->(stN k v).2%10≠0
 | 0,v,h=>absurd rfl h
 | k+1,v,h=>by
  rw[stN]at h ⊢;by_cases hv:v%10=0
  ·rw[if_pos hv]at h ⊢;exact aaf k _ h
  ·rw[if_neg hv]at h ⊢;exact hv
theorem ahO{sg:Bool}{w k:Nat}(h1:w≤1000000000000)(h2:k≤6)(h3:k≠0->w%10≠0):rgt (sgn sg w,(k:Int))=true:=by
 unfold rgt;refine decide_eq_true ⟨?_,?_,by show (k:Int)≤6;omega,?_⟩
 ·unfold sgn;cases sg<;>simp<;>omega
 ·unfold sgn;cases sg<;>simp<;>omega
 ·by_cases hk:k=0
  ·left;show (k:Int)=0;omega
  ·right
   have:=h3 hk;exact fun e=>this ((ahL sg w).1 e)
theorem Rt{d:Int×Int}(h0:0≤d.2){num den:Int}{r:Int×Int}(h:Fb (d,num,den,())=some (r,true,())):rgt r=true∧0≤r.2:=by
 have hr:=right_eq d
 cases hg:rgt d with
 | false =>
  rw[hg]at hr;rw[xM (.inl hr)]at h;cases h
 | true =>
  rw[hg]at hr;by_cases hb:1≤num∧num≤1000000000∧1≤den∧den≤1000000000
  ·obtain⟨sg,n,D,hd⟩:=wo hg h0
   have e1:num=(num.toNat:Int):=by omega
   have e2:den=(den.toNat:Int):=by omega
   rw[e1,e2,Ql hd (by omega) (by omega)]at h;unfold CQ at h;split at h
   ·unfold okN at h
    split at h
    ·rename_i hle
     generalize n*num.toNat*1000000 / (den.toNat*10 ^ D)=q at h hle;have hs:=wu 6 q;have hn:=aaf 6 q;cases h;exact⟨ahO hle hs.1 hn,by show (0:Int)≤((stN 6 q).1:Int);omega⟩
    ·cases h
   ·cases h
  ·rw[xM (.inr ⟨hr,hb⟩)]at h
   cases h
theorem afe{d:Int×Int}(h0:0≤d.2){f t:List UInt8}{r:Int×Int}(h:yg (d,f,t,())=some (r,true,())):rgt r=true∧0≤r.2:=by
 have key:∀(b:Bool) (x y:List UInt8×Int×Int),sJ b d.1 d.2 0 0 x.1 x.2.1 x.2.2 y.1 y.2.1 y.2.2=some (r,true,())->rgt r=true∧0≤r.2:=fun b x y h=>by
  unfold sJ Vu at h
  cases b with
  | true=>rw[if_pos rfl]at h;cases h
  | false =>
   rw[if_neg (by decide)]at h;obtain⟨z,h1,h2⟩:=Option.bind_eq_some_iff.1 h;obtain⟨z1,z2,z3⟩:=z;cases h2;exact Rt (d:=(d.1,d.2)) h0 h1
 have e1:yg (d,f,t,())=(if (!(knS f).isSome)=true then sJ true d.1 d.2 0 0 ((knS f).getD ([],0,0)).1 ((knS f).getD ([],0,0)).2.1 ((knS f).getD ([],0,0)).2.2 ((knS t).getD ([],0,0)).1 ((knS t).getD ([],0,0)).2.1 ((knS t).getD ([],0,0)).2.2 else if (!(knS t).isSome)=true then sJ true d.1 d.2 0 0 ((knS f).getD ([],0,0)).1 ((knS f).getD ([],0,0)).2.1 ((knS f).getD ([],0,0)).2.2 ((knS t).getD ([],0,0)).1 ((knS t).getD ([],0,0)).2.1 ((knS t).getD ([],0,0)).2.2 else sJ (nes ((knS f).getD ([],0,0)).1 ((knS t).getD ([],0,0)).1) d.1 d.2 0 0 ((knS f).getD ([],0,0)).1 ((knS f).getD ([],0,0)).2.1 ((knS f).getD ([],0,0)).2.2 ((knS t).getD ([],0,0)).1 ((knS t).getD ([],0,0)).2.1 ((knS t).getD ([],0,0)).2.2):=rfl;rw[e1]at h;split at h
 ·exact key _ _ _ h
 ·split at h
  ·exact key _ _ _ h
  ·exact key _ _ _ h
theorem akr{d:Int×Int}(h0:0≤d.2)(f t:List UInt8):∃r:(Int×Int)×Bool,yg (d,f,t,())=some (r.1,r.2,())∧(r.2=true->rgt r.1=true∧0≤r.1.2):=by obtain⟨r,h1,_⟩:=ahN h0 f t;refine⟨r,h1,fun e=>afe h0 (f:=f) (t:=t) (r:=r.1) ?_⟩;rw[h1,e]
theorem ahP{a b:Int×Int}(ha:rgt a=true)(ha0:0≤a.2)(hb:rgt b=true)(hb0:0≤b.2):∃c:Int,yh (a,b,())=some (c,()):=by obtain⟨s1,n1p,D1,h1⟩:=wo ha ha0;obtain⟨s2,n2,D2,h2⟩:=wo hb hb0;exact⟨_,ahM h1 h2⟩
end Go.Proofs.Lx
end
noncomputable section
set_option maxRecDepth 100000
namespace Go.Proofs.Lx
open Go Ev Sx Pl
@[reducible] def zK0:Type:=(List UInt8)×(List (List UInt8×List (List UInt8×Int×Int×Bool×(Int×Int)×(Int×Int)×List UInt8)))×(Int)×(Int)->Option (As aV)
def aks :=(fun (self:zK0) (s:(List UInt8)×(List (List UInt8×List (List UInt8×Int×Int×Bool×(Int×Int)×(Int×Int)×List UInt8)))×(Int)×(Int))=>IW (fun a c d b=>self (a,c,d,b)) s.1 s.2.1 s.2.2.1 s.2.2.2)
@[reducible] def zK1:Type:=List (List UInt8×List (List UInt8×Int×Int×Bool×(Int×Int)×(Int×Int)×List UInt8))
theorem akt  (self:zK0)(slave:List UInt8)(t8:zK1)(t9:Int)(t10:Int):aks self (slave,t8,t9,t10)=IW (fun slave t8 t9 t10=>self (slave,t8,t9,t10)) slave t8 t9 t10:=rfl
theorem atb  (slave:List UInt8)(t8:zK1)(t9:Int)(t10:Int):OD slave t8 t9 t10=aj (aks) 18446744073709551616 (slave,t8,t9,t10):=rfl
@[reducible] def zK2:Type:=(List UInt8)×(List (List UInt8×Int×Int×Bool×(Int×Int)×(Int×Int)×List UInt8))×(Int)×(Int)×(List UInt8×Int×Int×Bool×(Int×Int)×(Int×Int)×List UInt8)->Option (As [.pr .str (.pr (.int .i64) (.pr (.int .i64) (.pr .bool (.pr aF (.pr aF .str))))),.bool])
def aku :=(fun (self:zK2) (s:(List UInt8)×(List (List UInt8×Int×Int×Bool×(Int×Int)×(Int×Int)×List UInt8))×(Int)×(Int)×(List UInt8×Int×Int×Bool×(Int×Int)×(Int×Int)×List UInt8))=>Jn (V2) (fun a e b c d=>self (a,e,b,c,d)) s.1 s.2.1 s.2.2.1 s.2.2.2.1 s.2.2.2.2)
@[reducible] def zK3:Type:=List (List UInt8×Int×Int×Bool×(Int×Int)×(Int×Int)×List UInt8)
@[reducible] def zK4:Type:=List UInt8×Int×Int×Bool×(Int×Int)×(Int×Int)×List UInt8
theorem akv  (self:zK2)(name:List UInt8)(t9:zK3)(t10:Int)(t11:Int)(t4:zK4):aku self (name,t9,t10,t11,t4)=Jn (V2) (fun name t9 t10 t11 t4=>self (name,t9,t10,t11,t4)) name t9 t10 t11 t4:=rfl
theorem atc  (name:List UInt8)(t9:zK3)(t10:Int)(t11:Int)(t4:zK4):O1 name t9 t10 t11 t4=aj (aku) 18446744073709551616 (name,t9,t10,t11,t4):=rfl
@[reducible] def zK5:Type:=(List (List UInt8×Int×Int×Bool×(Int×Int)×(Int×Int)×List UInt8))×(Int)×(Int)×(List (List UInt8×Unit))×(List (Int×Unit))->Option aA
def akw :=(fun (self:zK5) (s:(List (List UInt8×Int×Int×Bool×(Int×Int)×(Int×Int)×List UInt8))×(Int)×(Int)×(List (List UInt8×Unit))×(List (Int×Unit)))=>Jk (OV (fun c d e a b=>self (c,d,e,a,b))) (fun c d e a b=>self (c,d,e,a,b)) s.1 s.2.1 s.2.2.1 s.2.2.2.1 s.2.2.2.2)
@[reducible] def zK6:Type:=List (List UInt8×Unit)
theorem akx  (self:zK5)(t20:zK3)(t21:Int)(t22:Int)(o:zK6)(o_2:List (Int×Unit)):akw self (t20,t21,t22,o,o_2)=Jk (OV (fun t20 t21 t22 o o_2=>self (t20,t21,t22,o,o_2))) (fun t20 t21 t22 o o_2=>self (t20,t21,t22,o,o_2)) t20 t21 t22 o o_2:=rfl
theorem atd  (t20:zK3)(t21:Int)(t22:Int)(o:zK6)(o_2:List (Int×Unit)):OX t20 t21 t22 o o_2=aj (akw) 18446744073709551616 (t20,t21,t22,o,o_2):=rfl
@[reducible] def zK7:Type:=(List (List UInt8×List (List UInt8×Int×Int×Bool×(Int×Int)×(Int×Int)×List UInt8)))×(Int)×(Int)×(List (List UInt8×Unit))->Option aA
def aky :=(fun (self:zK7) (s:(List (List UInt8×List (List UInt8×Int×Int×Bool×(Int×Int)×(Int×Int)×List UInt8)))×(Int)×(Int)×(List (List UInt8×Unit)))=>Jm (OY (fun b c d a=>self (b,c,d,a))) (fun b c d a=>self (b,c,d,a)) s.1 s.2.1 s.2.2.1 s.2.2.2)
theorem akz  (self:zK7)(t15:zK1)(t16:Int)(t17:Int)(o:zK6):aky self (t15,t16,t17,o)=Jm (OY (fun t15 t16 t17 o=>self (t15,t16,t17,o))) (fun t15 t16 t17 o=>self (t15,t16,t17,o)) t15 t16 t17 o:=rfl
theorem ate  (t15:zK1)(t16:Int)(t17:Int)(o:zK6):OZ t15 t16 t17 o=aj (aky) 18446744073709551616 (t15,t16,t17,o):=rfl
@[reducible] def zK8:Type:=(List (List UInt8×List (List UInt8×Int×Int×Bool×(Int×Int)×(Int×Int)×List UInt8)))×(List (List UInt8×Int×List (List UInt8×(Int×Int)×List UInt8×Int)))×(Int)×(Int)×(Int×Int)×(List (List UInt8×Unit))->Option aD
def akA :=(fun (self:zK8) (s:(List (List UInt8×List (List UInt8×Int×Int×Bool×(Int×Int)×(Int×Int)×List UInt8)))×(List (List UInt8×Int×List (List UInt8×(Int×Int)×List UInt8×Int)))×(Int)×(Int)×(Int×Int)×(List (List UInt8×Unit)))=>Jo (V9 (fun b c d e f a=>self (b,c,d,e,f,a))) (fun b c d e f a=>self (b,c,d,e,f,a)) s.1 s.2.1 s.2.2.1 s.2.2.2.1 s.2.2.2.2.1 s.2.2.2.2.2)
@[reducible] def zK9:Type:=List (List UInt8×Int×List (List UInt8×(Int×Int)×List UInt8×Int))
theorem akB  (self:zK8)(t:zK1)(t28:zK9)(t29:Int)(t30:Int)(t4:Int×Int)(o:zK6):akA self (t,t28,t29,t30,t4,o)=Jo (V9 (fun t t28 t29 t30 t4 o=>self (t,t28,t29,t30,t4,o))) (fun t t28 t29 t30 t4 o=>self (t,t28,t29,t30,t4,o)) t t28 t29 t30 t4 o:=rfl
theorem atf  (t:zK1)(t28:zK9)(t29:Int)(t30:Int)(t4:Int×Int)(o:zK6):O4 t t28 t29 t30 t4 o=aj (akA) 18446744073709551616 (t,t28,t29,t30,t4,o):=rfl
@[reducible] def aff:Type:=List (List UInt8×List (List UInt8×Int×Int×Bool×(Int×Int)×(Int×Int)×List UInt8))->List (List UInt8×Int×List (List UInt8×(Int×Int)×List UInt8×Int))->Int->Int->Int×Int->List (List UInt8×Unit)->Option aD
@[reducible] def akC:Type:=(List (List UInt8×List (List UInt8×Int×Int×Bool×(Int×Int)×(Int×Int)×List UInt8)))×(Int)×(List (List UInt8×Int×List (List UInt8×(Int×Int)×List UInt8×Int)))×(Int)×(Int)×(List (List UInt8×(Int×Int)×List UInt8×Int))×(Int)×(Int)×(Int×Int)×(List (List UInt8×Unit))×(List (List UInt8×Unit))->Option aD
def akD(l:aff):=(fun (self:akC) (s:(List (List UInt8×List (List UInt8×Int×Int×Bool×(Int×Int)×(Int×Int)×List UInt8)))×(Int)×(List (List UInt8×Int×List (List UInt8×(Int×Int)×List UInt8×Int)))×(Int)×(Int)×(List (List UInt8×(Int×Int)×List UInt8×Int))×(Int)×(Int)×(Int×Int)×(List (List UInt8×Unit))×(List (List UInt8×Unit)))=>Jp (O3 l (fun d a e f g i j k h b c=>self (d,a,e,f,g,i,j,k,h,b,c))) l (fun d a e f g i j k h b c=>self (d,a,e,f,g,i,j,k,h,b,c)) s.1 s.2.1 s.2.2.1 s.2.2.2.1 s.2.2.2.2.1 s.2.2.2.2.2.1 s.2.2.2.2.2.2.1 s.2.2.2.2.2.2.2.1 s.2.2.2.2.2.2.2.2.1 s.2.2.2.2.2.2.2.2.2.1 s.2.2.2.2.2.2.2.2.2.2)
theorem akE(u2:aff)(self:akC)(t:zK1)(i:Int)(t28:zK9)(t29 t30:Int)(t55:List (List UInt8×(Int×Int)×List UInt8×Int))(t56 t57:Int)(t4:Int×Int)(o o_2:zK6):akD u2 self (t,i,t28,t29,t30,t55,t56,t57,t4,o,o_2)=Jp (O3 u2 (fun t i t28 t29 t30 t55 t56 t57 t4 o o_2=>self (t,i,t28,t29,t30,t55,t56,t57,t4,o,o_2))) u2 (fun t i t28 t29 t30 t55 t56 t57 t4 o o_2=>self (t,i,t28,t29,t30,t55,t56,t57,t4,o,o_2)) t i t28 t29 t30 t55 t56 t57 t4 o o_2:=rfl
theorem atg(u2:aff)(t:zK1)(i:Int)(t28:zK9)(t29 t30:Int)(t55:List (List UInt8×(Int×Int)×List UInt8×Int))(t56 t57:Int)(t4:Int×Int)(o o_2:zK6):Jq u2 t i t28 t29 t30 t55 t56 t57 t4 o o_2=aj (akD u2) 18446744073709551616 (t,i,t28,t29,t30,t55,t56,t57,t4,o,o_2):=rfl
end Go.Proofs.Lx
end
noncomputable section
set_option maxRecDepth 100000
namespace Go.Proofs.Lx
open Go Ev Sx Pl
abbrev A7:=Int×Int
abbrev TPt:=List UInt8×Int×Int×Bool×A7×A7×List UInt8
abbrev fZ:=List UInt8×List TPt
abbrev bU:=List fZ
def eD{α:Type}(p:α->Bool):List α->Nat->Option (Nat×α)
 | [],_=>none
 | x::q,k=>if p x=true then some (k,x) else eD p q (k+1)
theorem CS{α:Type}{p:α->Bool}:∀{xs:List α} {k:Nat},eD p xs k=none->∀x∈xs,p x=false
 | [],_,_,_,hx=>by cases hx
 | y::q,k,h,x,hx=>by
  unfold eD at h;split at h
  ·cases h
  ·rename_i hy
   rcases List.mem_cons.1 hx with rfl | hx
   ·simpa using hy
   ·exact CS h x hx
theorem Lv{α:Type}{p:α->Bool}:∀{xs:List α} {k i:Nat} {x:α},eD p xs k=some (i,x)->k≤i∧xs[i - k]? = some x∧p x=true∧∀(j:Nat) (y:α),j<i - k->xs[j]? = some y->p y=false
 | [],_,_,_,h=>by cases h
 | y::q,k,i,x,h=>by
  unfold eD at h;split at h
  ·rename_i hy
   cases h
   exact⟨Nat.le_refl _,by rw[Nat.sub_self];rfl,hy,fun j y hj _=>by omega⟩
  ·rename_i hy
   obtain⟨h1,h2,h3,h4⟩:=Lv h;refine⟨by omega,?_,h3,fun j z hj hz=>?_⟩
   ·rw[show i - k=(i - (k+1))+1 by omega,List.getElem?_cons_succ]
    exact h2
   ·cases j with
    | zero =>
     rw[List.getElem?_cons_zero]at hz;cases hz;simpa using hy
    | succ j=>exact h4 j z (by omega) (by rw[List.getElem?_cons_succ]at hz;exact hz)
theorem find_eq{t:bU}{s:List UInt8}(ht:t.length≤1000000):lq (t,s,())=some (match eD (fun d=>eqs d.1 s) t 0 with
  | some z=>((z.1:Int),true,())
  | none=>(0,false,())):=by
 show OD s t (zD t.length) 0=_;rw[atb];refine (FP (xs:=t) (mk:=fun i (_:Unit)=>(s,t,zD t.length,(i:Int))) (body:=fun i _ d k=>if eqs d.1 s=true then some ((i:Int),true,()) else k ()) (fin:=fun _=>some (0,false,())) ?_ ?_ t.length 0 () _ (by omega) (by omega)).trans ?_
 ·intro self i acc d hd
  have hi:=(List.getElem?_eq_some_iff.1 hd).1;rw[akt];unfold IW;rw[if_pos (by rw[bg,ay];omega),gK hd,zB,iO (by omega)]
 ·intro self acc
  rw[akt];unfold IW;rw[if_neg (by rw[bg,ay];omega)]
 ·rw[List.drop_zero]
  have key:∀(q:bU) (k:Nat),goI (fun (i:Nat) (_:Unit) (d:fZ) (k:Unit->Option (As aV))=>if eqs d.1 s=true then some ((i:Int),true,()) else k ()) (fun _=>some (0,false,())) k q ()=some (match eD (fun d=>eqs d.1 s) q k with
    | some z=>((z.1:Int),true,())
    | none=>(0,false,())):=by
   intro q
   induction q with
   | nil=>intro k;rfl
   | cons d q ih =>
    intro k;show (if eqs d.1 s=true then some ((k:Int),true,()) else goI _ _ (k+1) q ())=_;unfold eD;by_cases h:eqs d.1 s=true
    ·rw[if_pos h,if_pos h]
    ·rw[if_neg h,if_neg h,ih]
  exact key t 0
def zPt:TPt:=([],0,0,false,(0,0),(0,0),[])
theorem afg{d:fZ}{s:List UInt8}(ht:d.2.length≤1000000):Cn (d,s,())=some (match eD (fun p=>eqs p.1 s) d.2 0 with
  | some z=>(z.2,true,())
  | none=>(zPt,false,())):=by
 show O1 s d.2 (zD d.2.length) 0 zPt=_;rw[atc];refine (FP (xs:=d.2) (mk:=fun i (_:Unit)=>(s,d.2,zD d.2.length,(i:Int),zPt)) (body:=fun _ _ p k=>if eqs p.1 s=true then some (p,true,()) else k ()) (fin:=fun _=>some (zPt,false,())) ?_ ?_ d.2.length 0 () _ (by omega) (by omega)).trans ?_
 ·intro self i acc p hp
  have hi:=(List.getElem?_eq_some_iff.1 hp).1;rw[akv];unfold Jn;rw[if_pos (by rw[bg,ay];omega),gK hp,zB,iO (by omega)]
 ·intro self acc
  rw[akv];unfold Jn;rw[if_neg (by rw[bg,ay];omega)];rfl
 ·rw[List.drop_zero]
  have key:∀(q:List TPt) (k:Nat),goI (fun (_:Nat) (_:Unit) (p:TPt) (k:Unit->Option (As O0.rs))=>if eqs p.1 s=true then some (p,true,()) else k ()) (fun _=>some (zPt,false,())) k q ()=some (match eD (fun p=>eqs p.1 s) q k with
    | some z=>(z.2,true,())
    | none=>(zPt,false,())):=by
   intro q
   induction q with
   | nil=>intro k;rfl
   | cons p q ih =>
    intro k;show (if eqs p.1 s=true then some (p,true,()) else goI _ _ (k+1) q ())=_;unfold eD;by_cases h:eqs p.1 s=true
    ·rw[if_pos h,if_pos h]
    ·rw[if_neg h,if_neg h,ih]
  exact key d.2 0
def Met{kt:Ty}(o:List (Vl kt×Unit))(N:Vl kt->Prop):Prop:=∀k,(bq kt o k).isSome=true↔N k
theorem CV{kt:Ty}(hk:∀a b:Vl kt,keq kt a b=true↔a=b){V:Type}(k:Vl kt)(v:V)(j:Vl kt):∀o:List (Vl kt×V),bq kt (dh kt o k v) j=if keq kt k j=true then some v else bq kt o j
 | []=>by show (if keq kt k j=true then some v else none)=_;rfl
 | (a,b)::r=>by
  unfold dh;by_cases h:keq kt a k=true
  ·rw[if_pos h]
   have e:=(hk _ _).1 h;subst e;unfold bq;by_cases h2:keq kt a j=true
   ·rw[if_pos h2,if_pos h2]
   ·rw[if_neg h2,if_neg h2,if_neg h2]
  ·rw[if_neg h]
   unfold bq;by_cases h2:keq kt a j=true
   ·rw[if_pos h2,if_pos h2]
    have:¬ keq kt k j=true:=fun e=>h (by rw[hk]at h2 e ⊢;rw[h2,e]);rw[if_neg this]
   ·rw[if_neg h2,if_neg h2,CV hk k v j r]
theorem X6(a b:List UInt8):keq .str a b=true↔a=b:=by simp[keq,eqs]
theorem CX(a b:Int):keq (.int .i64) a b=true↔a=b:=by simp[keq,eqi]
theorem Met.nil{kt:Ty}:Met (kt:=kt) [] (fun _=>False):=fun k=>by simp[bq]
theorem Met.put{kt:Ty}(hk:∀a b:Vl kt,keq kt a b=true↔a=b){o:List (Vl kt×Unit)}{N:Vl kt->Prop}(h:Met o N)(k:Vl kt):Met (dh kt o k ()) (fun j=>N j∨j=k):=fun j=>by
 rw[CV hk];by_cases e:keq kt k j=true
 ·rw[if_pos e]
  have:=(hk _ _).1 e;simp[this]
 ·rw[if_neg e,h j]
  exact⟨.inl,fun x=>x.elim id fun q=>absurd ((hk _ _).2 q.symm) e⟩
end Go.Proofs.Lx
end
noncomputable section
set_option maxRecDepth 100000
namespace Go.Proofs.Lx
open Go Ev Sx Pl
theorem Qn{s:List UInt8}:Ji (s,())=some (dz s,()):=by show Option.bind (AA ((s,[]),())) (fun y=>some (y.1,()))=_;rw[xG (r:=(s,[])) (by simp) (by simp),zB];show some (dz s && (decide (0≤8) && true),())=_;simp
def A8(a b:A7):Int:=((yh (a,b,())).map (·.1)).getD 0
theorem cmp_eq{a b:A7}(ha:rgt a=true)(ha0:0≤a.2)(hb:rgt b=true)(hb0:0≤b.2):yh (a,b,())=some (A8 a b,()):=by obtain⟨c,h⟩:=ahP ha ha0 hb hb0;unfold A8;rw[h];rfl
def knB(u:List UInt8):Bool:=(knS u).isSome
def ptB(p:TPt):Bool:=dz p.1 && (decide (0≤p.2.1∧p.2.1<64) && (decide (0≤p.2.2.1∧p.2.2.1≤6) && (rgt p.2.2.2.2.1 && (rgt p.2.2.2.2.2.1 && (!decide (0<A8 p.2.2.2.2.1 p.2.2.2.2.2.1) && knB p.2.2.2.2.2.2)))))
def PtR(p:TPt):Prop:=0≤p.2.2.2.2.1.2∧0≤p.2.2.2.2.2.1.2
theorem aag{p:TPt}(h:PtR p):Fg (p,())=some (ptB p,()):=by
 show VO OU p=_;unfold VO;have K2:∀b,VP b p=if b=true then some (false,()) else some (knB p.2.2.2.2.2.2,()):=fun b=>by show VN b p=_;unfold VN;rw[aac,zB];rfl
 have K1f:OU false p=some (rgt p.2.2.2.2.1 && (rgt p.2.2.2.2.2.1 && (!decide (0<A8 p.2.2.2.2.1 p.2.2.2.2.2.1) && knB p.2.2.2.2.2.2)),()):=by
  show VM VP false p=_;unfold VM;rw[if_neg (by decide),right_eq,zB];dsimp only
  cases h1:rgt p.2.2.2.2.1 with
  | false=>rw[if_pos (by rfl),K2,if_pos (by rfl)];rfl
  | true =>
   rw[if_neg (by decide),right_eq,zB];dsimp only
   cases h2:rgt p.2.2.2.2.2.1 with
   | false=>rw[if_pos (by rfl),K2,if_pos (by rfl)];rfl
   | true =>
    rw[if_neg (by decide),cmp_eq h1 h.1 h2 h.2,zB,K2];dsimp only;by_cases hc:0<A8 p.2.2.2.2.1 p.2.2.2.2.2.1
    ·rw[if_pos (fC.2 hc),decide_eq_true hc];rfl
    ·rw[if_neg (fun e=>hc (fC.1 e)),decide_eq_false hc];simp
 have K1t:OU true p=some (false,()):=rfl;rw[Qn,zB];dsimp only;unfold ptB
 cases hn:dz p.1 with
 | false=>rw[if_pos (by rfl),K1t];rfl
 | true =>
  rw[if_neg (by decide)];by_cases h1:p.2.1<0
  ·rw[if_pos (bg.2 h1),K1t,decide_eq_false (by omega)];rfl
  ·rw[if_neg (fun e=>h1 (bg.1 e))]
   by_cases h2:64≤p.2.1
   ·rw[if_pos (dN.2 h2),K1t,decide_eq_false (by omega)];rfl
   ·rw[if_neg (fun e=>h2 (dN.1 e)),decide_eq_true (show 0≤p.2.1∧p.2.1<64 by omega)]
    by_cases h3:p.2.2.1<0
    ·rw[if_pos (bg.2 h3),K1t,decide_eq_false (by omega)];rfl
    ·rw[if_neg (fun e=>h3 (bg.1 e))]
     by_cases h4:6<p.2.2.1
     ·rw[fC.2 h4,K1t,decide_eq_false (by omega)];rfl
     ·have:gt p.2.2.1 6=false:=by rw[O9,decide_eq_false h4]
      rw[this,K1f,decide_eq_true (show 0≤p.2.2.1∧p.2.2.1≤6 by omega)];rfl
def A9:List TPt->List (List UInt8)->List Int->Bool
 | [],_,_=>true
 | p::q,N,A=>ptB p && (!decide (p.1∈N) && (!decide (p.2.1∈A) && A9 q (p.1::N) (p.2.1::A)))
def sV(d:fZ):Bool:=dz d.1 && (decide (d.2.length≤64) && A9 d.2 [] [])
theorem Met.mem{kt:Ty}{o:List (Vl kt×Unit)}{N:Vl kt->Prop}(h:Met o N){k:Vl kt}[Decidable (N k)]:isV .un (bq kt o k)=decide (N k):=by
 show (bq kt o k).isSome=_;by_cases hn:N k
 ·rw[decide_eq_true hn,(h k).2 hn]
 ·rw[decide_eq_false hn]
  cases e:(bq kt o k).isSome with
  | false=>rfl
  | true=>exact absurd ((h k).1 e) hn
theorem Met.push{kt:Ty}(hk:∀a b:Vl kt,keq kt a b=true↔a=b){o:List (Vl kt×Unit)}{N:List (Vl kt)}(h:Met o (·∈ N))(k:Vl kt):Met (dh kt o k ()) (·∈ k::N):=fun j=>by
 rw[(h.put hk k) j];simp only[List.mem_cons];constructor
 ·rintro (h | h)
  ·exact .inr h
  ·exact .inl h
 ·rintro (h | h)
  ·exact .inr h
  ·exact .inl h
theorem ahQ{d:fZ}(hr:∀p∈d.2,PtR p)(hl:d.2.length≤1000000):Fj (d,())=some (sV d,()):=by
 have K1t:Fh true d=some (false,()):=rfl
 have K1f:Fh false d=some (A9 d.2 [] [],()):=by
  show OX d.2 (zD d.2.length) 0 [] []=_;rw[atd]
  refine (l8 (xs:=d.2) (mk:=fun i (a:List (List UInt8×Unit)×List (Int×Unit))=>(d.2,zD d.2.length,(i:Int),a.1,a.2))
   (body:=fun a p k=>(Fg (p,())).bind fun y=>if (!y.1)=true then some (false,()) else if isV .un (bq .str a.1 p.1)=true then some (false,()) else if isV .un (bq (.int .i64) a.2 p.2.1)=true then some (false,()) else k (dh .str a.1 p.1 (),dh (.int .i64) a.2 p.2.1 ()))
   (fin:=fun _=>some (true,())) ?_ ?_ d.2.length 0 ([],[]) _ (by omega) (by omega)).trans ?_
  ·intro self i a p hp
   have hi:=(List.getElem?_eq_some_iff.1 hp).1;have K3:∀(b:Bool) (o:zK6) (o2:List (Int×Unit)),OV (fun t20 t21 t22 o o_2=>self (t20,t21,t22,o,o_2)) d.2 (zD d.2.length) (i:Int) b o o2=if b=true then some (false,()) else self (d.2,zD d.2.length,((i+1:Nat):Int),o,o2):=fun b o o2=>by show VR _ d.2 (zD d.2.length) (i:Int) b o o2=_;unfold VR;rw[iO (by omega)]
   rw[akx];unfold Jk;rw[if_pos (by rw[bg,ay];omega),gK hp,zB];simp only[K3]
   congr 1
   funext y
   cases y.1 with
   | false=>rfl
   | true =>
    simp only[Bool.not_true,Bool.not_not];cases isV .un (bq .str a.1 p.1)<;>cases isV .un (bq (.int .i64) a.2 p.2.1)<;>rfl
  ·intro self a
   rw[akx];unfold Jk;rw[if_neg (by rw[bg,ay];omega)]
  ·rw[List.drop_zero]
   have key:∀(q:List TPt) (o:zK6) (o2:List (Int×Unit)) (N:List (List UInt8)) (A:List Int),(∀p∈q,PtR p)->Met (kt:=.str) o (·∈ N)->Met (kt:=.int .i64) o2 (·∈ A) ->
     goL (fun (a:List (List UInt8×Unit)×List (Int×Unit)) (p:TPt) (k:List (List UInt8×Unit)×List (Int×Unit)->Option aA)=>(Fg (p,())).bind fun y=>if (!y.1)=true then some (false,()) else if isV .un (bq .str a.1 p.1)=true then some (false,()) else if isV .un (bq (.int .i64) a.2 p.2.1)=true then some (false,()) else k (dh .str a.1 p.1 (),dh (.int .i64) a.2 p.2.1 ())) (fun _=>some (true,())) q (o,o2)=some (A9 q N A,()):=by
    intro q
    induction q with
    | nil=>intro o o2 N A _ _ _;rfl
    | cons p q ih =>
     intro o o2 N A hq hN hA;show ((Fg (p,())).bind fun y=>if (!y.1)=true then some (false,()) else if isV .un (bq .str o p.1)=true then some (false,()) else if isV .un (bq (.int .i64) o2 p.2.1)=true then some (false,()) else goL _ _ q (dh .str o p.1 (),dh (.int .i64) o2 p.2.1 ()))=_;rw[aag (hq p (by simp)),zB,hN.mem,hA.mem,ih _ _ _ _ (fun x hx=>hq x (zO _ hx)) (hN.push X6 p.1) (hA.push CX p.2.1)];rw[A9];dsimp only
     cases ptB p with
     | false=>rfl
     | true =>
      by_cases h1:p.1∈N
      ·rw[if_neg (by decide),if_pos (decide_eq_true h1),decide_eq_true h1];rfl
      ·rw[if_neg (by decide),if_neg (by simp[h1]),decide_eq_false h1]
       by_cases h2:p.2.1∈A
       ·rw[if_pos (decide_eq_true h2),decide_eq_true h2];rfl
       ·rw[if_neg (by simp[h2]),decide_eq_false h2];simp
   exact key d.2 [] [] [] [] hr (fun k=>by simp[bq]) (fun k=>by simp[bq])
 show VT Fh d=_;unfold VT;rw[Qn,zB];dsimp only;unfold sV
 cases dz d.1 with
 | false=>rw[if_pos (by rfl),K1t];rfl
 | true =>
  rw[if_neg (by decide)];have e:gt (zD d.2.length) 64=!decide (d.2.length≤64):=gtn (k:=64);rw[e];by_cases h:d.2.length≤64
  ·rw[decide_eq_true h]
   show Fh false d=_;rw[K1f];simp
  ·rw[decide_eq_false h]
   show Fh true d=_;rw[K1t];rfl
def Ba:bU->List (List UInt8)->Bool
 | [],_=>true
 | d::q,N=>sV d && (!decide (d.1∈N) && Ba q (d.1::N))
def oD(t:bU):Bool:=decide (1≤t.length) && (decide (t.length≤8) && Ba t [])
def Kj(t:bU):Prop:=t.length≤1000∧∀d∈t,d.2.length≤1000∧∀p∈d.2,PtR p
theorem X7{t:bU}(h:Kj t):VY (t,())=some (oD t,()):=by
 have hl:=h.1;have K1t:Fp t true=some (false,()):=rfl
 have K1f:Fp t false=some (Ba t [],()):=by
  show OZ t (zD t.length) 0 []=_;rw[ate]
  refine (l8 (xs:=t) (mk:=fun i (a:zK6)=>(t,zD t.length,(i:Int),a))
   (body:=fun a d k=>(Fj (d,())).bind fun y=>if (!y.1)=true then some (false,()) else if isV .un (bq .str a d.1)=true then some (false,()) else k (dh .str a d.1 ()))
   (fin:=fun _=>some (true,())) ?_ ?_ t.length 0 [] _ (by omega) (by omega)).trans ?_
  ·intro self i a d hd
   have hi:=(List.getElem?_eq_some_iff.1 hd).1;have K3:∀(b:Bool) (o:zK6),OY (fun t15 t16 t17 o=>self (t15,t16,t17,o)) t (zD t.length) (i:Int) b o=if b=true then some (false,()) else self (t,zD t.length,((i+1:Nat):Int),o):=fun b o=>by show VW _ t (zD t.length) (i:Int) b o=_;unfold VW;rw[iO (by omega)]
   rw[akz];unfold Jm;rw[if_pos (by rw[bg,ay];omega),gK hd,zB];simp only[K3]
   congr 1
   funext y
   cases y.1 with
   | false=>rfl
   | true =>
    simp only[Bool.not_true,Bool.not_not];cases isV .un (bq .str a d.1)<;>rfl
  ·intro self a
   rw[akz];unfold Jm;rw[if_neg (by rw[bg,ay];omega)]
  ·rw[List.drop_zero]
   have key:∀(q:bU) (o:zK6) (N:List (List UInt8)),(∀d∈q,d.2.length≤1000∧∀p∈d.2,PtR p)->Met (kt:=.str) o (·∈ N) ->
     goL (fun (a:zK6) (d:fZ) (k:List (List UInt8×Unit)->Option aA)=>(Fj (d,())).bind fun y=>if (!y.1)=true then some (false,()) else if isV .un (bq .str a d.1)=true then some (false,()) else k (dh .str a d.1 ())) (fun _=>some (true,())) q o=some (Ba q N,()):=by
    intro q
    induction q with
    | nil=>intro o N _ _;rfl
    | cons d q ih =>
     intro o N hq hN;show ((Fj (d,())).bind fun y=>if (!y.1)=true then some (false,()) else if isV .un (bq .str o d.1)=true then some (false,()) else goL _ _ q (dh .str o d.1 ()))=_;have hd:=hq d (by simp);rw[ahQ hd.2 (by omega),zB,hN.mem,ih _ _ (fun x hx=>hq x (zO _ hx)) (hN.push X6 d.1)];rw[Ba];dsimp only
     cases sV d with
     | false=>rfl
     | true =>
      by_cases h1:d.1∈N
      ·rw[if_neg (by decide),if_pos (decide_eq_true h1),decide_eq_true h1];rfl
      ·rw[if_neg (by decide),if_neg (by simp[h1]),decide_eq_false h1];simp
   exact key t [] [] h.2 (fun k=>by simp[bq])
 show VX Fp t=_;unfold VX oD;by_cases h1:1≤t.length
 ·rw[if_neg (by rw[bg,ay];omega),decide_eq_true h1]
  have e:gt (zD t.length) 8=!decide (t.length≤8):=gtn (k:=8);rw[e];by_cases h8:t.length≤8
  ·rw[decide_eq_true h8]
   show Fp t false=_;rw[K1f];simp
  ·rw[decide_eq_false h8]
   show Fp t true=_;rw[K1t];rfl
 ·rw[if_pos (by rw[bg,ay];omega),K1t,decide_eq_false h1];rfl
end Go.Proofs.Lx
end
noncomputable section
set_option maxRecDepth 100000
namespace Go.Proofs.Lx
open Go Ev Sx Pl
def toS(d:A7)(f t:List UInt8):A7×Bool:=((yg (d,f,t,())).map fun y=>(y.1,y.2.1)).getD ((0,0),false)
theorem to_eq{d:A7}(h0:0≤d.2)(f t:List UInt8):yg (d,f,t,())=some ((toS d f t).1,(toS d f t).2,())∧((toS d f t).2=true->rgt (toS d f t).1=true∧0≤(toS d f t).1.2):=by obtain⟨r,h1,h2⟩:=akr h0 f t;unfold toS;rw[h1];exact⟨rfl,h2⟩
def wdT(b:A7)(c:Int)(d:Bool):Int×Bool:=((Fe (b,c,d,())).map fun a=>(a.1,a.2.1)).getD (0,false)
theorem afh{d:A7}(h0:0≤d.2)(digits:Int)(signed:Bool):Fe (d,digits,signed,())=some ((wdT d digits signed).1,(wdT d digits signed).2,()):=by obtain⟨r,h1,_⟩:=aae h0 digits signed;unfold wdT;rw[h1];rfl
def kN(p:TPt)(s:bG):Int×Int :=
 if (toS s.2.1 s.2.2.1 p.2.2.2.2.2.2).2=true then
  if A8 (toS s.2.1 s.2.2.1 p.2.2.2.2.2.2).1 p.2.2.2.2.1<0∨0<A8 (toS s.2.1 s.2.2.1 p.2.2.2.2.2.2).1 p.2.2.2.2.2.1 then (0,153)
  else if (wdT (toS s.2.1 s.2.2.1 p.2.2.2.2.2.2).1 p.2.2.1 p.2.2.2.1).2=true then ((wdT (toS s.2.1 s.2.2.1 p.2.2.2.2.2.2).1 p.2.2.1 p.2.2.2.1).1,0) else (0,153)
 else (0,152)
theorem Qo{p:TPt}{s:bG}(hp:PtR p)(hl:rgt p.2.2.2.2.1=true)(hh:rgt p.2.2.2.2.2.1=true)(hs:0≤s.2.1.2):lu (p,s,())=some ((kN p s).1,(kN p s).2,()):=by
 show VI VJ p s=_;unfold VI kN;obtain⟨h1,h2⟩:=to_eq hs s.2.2.1 p.2.2.2.2.2.2;rw[h1,zB];dsimp only
 cases hb:(toS s.2.1 s.2.2.1 p.2.2.2.2.2.2).2 with
 | false=>rfl
 | true =>
  obtain⟨h3,h4⟩:=h2 hb;rw[if_neg (by decide),if_pos rfl,cmp_eq h3 h4 hl hp.1,zB];have K1:∀b,VJ b p (toS s.2.1 s.2.2.1 p.2.2.2.2.2.2).1=if b=true then some (0,153,()) else if (!(wdT (toS s.2.1 s.2.2.1 p.2.2.2.2.2.2).1 p.2.2.1 p.2.2.2.1).2)=true then some (0,153,()) else some ((wdT (toS s.2.1 s.2.2.1 p.2.2.2.2.2.2).1 p.2.2.1 p.2.2.2.1).1,0,()):=fun b=>by show VH b p _=_;unfold VH;rw[afh h4,zB]
  simp only[K1];by_cases c1:A8 (toS s.2.1 s.2.2.1 p.2.2.2.2.2.2).1 p.2.2.2.2.1<0
  ·rw[if_pos (bg.2 c1),if_pos trivial,if_pos (.inl c1)]
  ·rw[if_neg (fun e=>c1 (bg.1 e)),cmp_eq h3 h4 hh hp.2,zB]
   dsimp only;by_cases c2:0<A8 (toS s.2.1 s.2.2.1 p.2.2.2.2.2.2).1 p.2.2.2.2.2.1
   ·rw[if_pos (fC.2 c2),if_pos (.inr c2)]
   ·rw[if_neg (fun e=>c2 (fC.1 e)),if_neg (show ¬ (_∨_) from fun e=>e.elim c1 c2)]
    cases (wdT (toS s.2.1 s.2.2.1 p.2.2.2.2.2.2).1 p.2.2.1 p.2.2.2.1).2<;>rfl
theorem ahR(p:TPt)(s:bG):(kN p s).2=0∨(kN p s).2=152∨(kN p s).2=153:=by
 unfold kN;split
 ·split
  ·simp
  ·split<;>simp
 ·simp
def fI(d:fZ):List bG->List (List UInt8)->Option (Int×Int)
 | [],_=>none
 | s::q,N=>match eD (fun p=>eqs p.1 s.1) d.2 0 with
  | none=>some (151,s.2.2.2)
  | some z=>if s.1∈N then some (151,s.2.2.2) else if (kN z.2 s).2=0 then fI d q (s.1::N) else some ((kN z.2 s).2,s.2.2.2)
def gF(t:bU):List ak->List (List UInt8)->Option (Int×Int)
 | [],_=>none
 | p::q,N=>match eD (fun d=>eqs d.1 p.1) t 0 with
  | none=>some (150,p.2.1)
  | some z=>if p.1∈N then some (150,p.2.1) else match fI z.2 p.2.2 []with
   | some f=>some f
   | none=>gF t q (p.1::N)
def iP(t:bU)(r:eT):Int×Int:=if (oD t && eX r)=true then (gF t r.2 []).getD (0,0) else (2,0)
def FR(r:eT):Prop:=r.2.length≤1000∧∀p∈r.2,p.2.2.length≤1000∧∀s∈p.2.2,0≤s.2.1.2
theorem SA:∀{q:List TPt} {N:List (List UInt8)} {A:List Int},A9 q N A=true->∀p∈q,ptB p=true
 | [],_,_,_,_,hp=>by cases hp
 | x::q,N,A,h,p,hp=>by
  rw[A9]at h;simp only[zL]at h;rcases List.mem_cons.1 hp with rfl | hp
  ·exact h.1
  ·exact SA h.2.2.2 p hp
theorem FT:∀{q:bU} {N:List (List UInt8)},Ba q N=true->∀d∈q,sV d=true
 | [],_,_,_,hp=>by cases hp
 | x::q,N,h,p,hp=>by
  rw[Ba]at h;simp only[zL]at h;rcases List.mem_cons.1 hp with rfl | hp
  ·exact h.1
  ·exact FT h.2.2 p hp
theorem aah{d:fZ}(h:sV d=true):∀p∈d.2,ptB p=true:=by unfold sV at h;simp only[zL]at h;exact SA h.2.2
theorem SC{p:TPt}(h:ptB p=true):rgt p.2.2.2.2.1=true∧rgt p.2.2.2.2.2.1=true:=by unfold ptB at h;simp only[zL]at h;exact⟨h.2.2.2.1,h.2.2.2.2.1⟩
theorem oF{α:Type}{p:α->Bool}{xs:List α}{i:Nat}{x:α}(h:eD p xs 0=some (i,x)):x∈xs∧xs[i]? = some x∧p x=true:=by obtain⟨_,h2,h3,_⟩:=Lv h;rw[Nat.sub_zero]at h2;exact⟨zT h2,h2,h3⟩
@[reducible] def akF:Type:=List (List UInt8×Unit)->Option aD
theorem afi{t:bU}{d:fZ}{i:Nat}(hd:t[i]? = some d)(hdB:sV d=true)(hdl:d.2.length≤1000)(hdR:∀p∈d.2,PtR p)
  (u2:bU->List ak->Int->Int->Int×Int->List (List UInt8×Unit)->Option aD) (ps:List ak) (n:Int) (k:Nat) (hk:k<1000000) (ss:List bG) (hss:ss.length≤1000) (hsR:∀s∈ss,0≤s.2.1.2) (t4:Int×Int) (o:zK6) :
  Jq u2 t (i:Int) ps n (k:Int) ss (zD ss.length) 0 t4 o []=match fI d ss []with
   | some f=>some (f,())
   | none=>u2 t ps n ((k+1:Nat):Int) t4 o:=by
 rw[atg]
 refine (l8 (xs:=ss) (mk:=fun j (a:zK6)=>(t,(i:Int),ps,n,(k:Int),ss,zD ss.length,(j:Int),t4,o,a))
  (body:=fun a s kk=>(Cn (d,s.1,())).bind fun y=>if (!y.2.1)=true then some ((151,s.2.2.2),()) else if isV .un (bq .str a s.1)=true then some ((151,s.2.2.2),()) else (lu (y.1,s,())).bind fun z=>if nei z.2.1 0=true then some ((z.2.1,s.2.2.2),()) else kk (dh .str a s.1 ()))
  (fin:=fun _=>u2 t ps n ((k+1:Nat):Int) t4 o) ?_ ?_ ss.length 0 [] _ (by omega) (by omega)).trans ?_
 ·intro self j a s hs
  have hj:=(List.getElem?_eq_some_iff.1 hs).1
  have K6:∀(b:Bool) (o2:zK6) (p:TPt),V8 u2 (fun t i t28 t29 t30 t55 t56 t57 t4 o o_2=>self (t,i,t28,t29,t30,t55,t56,t57,t4,o,o_2)) t (i:Int) ps n (k:Int) ss (zD ss.length) (j:Int) b t4 o o2 s p =
    if b=true then some ((151,s.2.2.2),()) else (lu (p,s,())).bind fun z=>if nei z.2.1 0=true then some ((z.2.1,s.2.2.2),()) else self (t,(i:Int),ps,n,(k:Int),ss,zD ss.length,((j+1:Nat):Int),t4,o,o2):=fun b o2 p=>by
   show V6 _ _ t (i:Int) ps n (k:Int) ss (zD ss.length) (j:Int) b t4 o o2 s p=_;unfold V6;rw[iO (by omega)]
  have K5:∀(ok:Bool) (p:TPt),O3 u2 (fun t i t28 t29 t30 t55 t56 t57 t4 o o_2=>self (t,i,t28,t29,t30,t55,t56,t57,t4,o,o_2)) t (i:Int) ok ps n (k:Int) ss (zD ss.length) (j:Int) t4 o a s p =
    if (!ok)=true then some ((151,s.2.2.2),()) else if isV .un (bq .str a s.1)=true then some ((151,s.2.2.2),()) else (lu (p,s,())).bind fun z=>if nei z.2.1 0=true then some ((z.2.1,s.2.2.2),()) else self (t,(i:Int),ps,n,(k:Int),ss,zD ss.length,((j+1:Nat):Int),t4,o,dh .str a s.1 ()):=fun ok p=>by
   show V5 (V8 u2 _) _ _ t (i:Int) ok ps n (k:Int) ss (zD ss.length) (j:Int) t4 o a s p=_;unfold V5;simp only[K6]
   cases ok with
   | false=>rfl
   | true =>
    simp only[Bool.not_true,Bool.not_not];cases isV .un (bq .str a s.1)<;>rfl
  rw[akE];unfold Jp;rw[if_pos (by rw[bg,ay];omega),gK hs,zB,gK hd,zB,JD (xC _)];simp only[K5]
 ·intro self a
  rw[akE];unfold Jp;rw[if_neg (by rw[bg,ay];omega),iO (by omega)]
 ·rw[List.drop_zero]
  have key:∀(q:List bG) (a:zK6) (N:List (List UInt8)),(∀s∈q,0≤s.2.1.2)->Met (kt:=.str) a (·∈ N) ->
    goL (fun (a:zK6) (s:bG) (kk:akF)=>(Cn (d,s.1,())).bind fun y=>if (!y.2.1)=true then some ((151,s.2.2.2),()) else if isV .un (bq .str a s.1)=true then some ((151,s.2.2.2),()) else (lu (y.1,s,())).bind fun z=>if nei z.2.1 0=true then some ((z.2.1,s.2.2.2),()) else kk (dh .str a s.1 ()))
     (fun _=>u2 t ps n ((k+1:Nat):Int) t4 o) q a=match fI d q N with
     | some f=>some (f,())
     | none=>u2 t ps n ((k+1:Nat):Int) t4 o:=by
   intro q
   induction q with
   | nil=>intro a N _ _;rfl
   | cons s q ih =>
    intro a N hq hN;show ((Cn (d,s.1,())).bind fun y=>if (!y.2.1)=true then some ((151,s.2.2.2),()) else if isV .un (bq .str a s.1)=true then some ((151,s.2.2.2),()) else (lu (y.1,s,())).bind fun z=>if nei z.2.1 0=true then some ((z.2.1,s.2.2.2),()) else goL _ _ q (dh .str a s.1 ()))=_;rw[afg (by omega),zB,fI,hN.mem,ih _ _ (fun x hx=>hq x (zO _ hx)) (hN.push X6 s.1)]
    cases hz:eD (fun p=>eqs p.1 s.1) d.2 0 with
    | none=>rfl
    | some z =>
     obtain⟨z1,z2⟩:=z;have hm:=(oF hz).1;have hr:=SC (aah hdB z2 hm);dsimp only;rw[if_neg (by decide),Qo (hdR z2 hm) hr.1 hr.2 (hq s (by simp)),zB];dsimp only;by_cases h1:s.1∈N
     ·rw[if_pos (decide_eq_true h1),if_pos h1]
     ·rw[if_neg (by simp[h1]),if_neg h1]
      by_cases h2:(kN z2 s).2=0
      ·rw[if_pos h2,if_neg (fun e=>dK.1 e h2)]
      ·rw[if_neg h2,if_pos (dK.2 h2)]
  exact key ss [] [] hsR (fun k=>by simp[bq])
theorem afj{t:bU}{r:eT}(ht:Kj t)(hr:FR r):O5 (t,r,())=some (iP t r,()):=by
 have ht1:=ht.1;have hr1:=hr.1;have K1t:Fq t true r (0,0)=some ((2,0),()):=rfl
 have K1f:oD t=true->Fq t false r (0,0)=some ((gF t r.2 []).getD (0,0),()):=by
  intro hB;have hdv:∀d∈t,sV d=true:=by unfold oD at hB;simp only[zL]at hB;exact FT hB.2.2
  show O4 t r.2 (zD r.2.length) 0 (0,0) []=_;rw[atf]
  refine (l8 (xs:=r.2) (mk:=fun k (a:zK6)=>(t,r.2,zD r.2.length,(k:Int),((0,0):Int×Int),a))
   (body:=fun a p kk=>match eD (fun d=>eqs d.1 p.1) t 0 with
    | none=>some ((150,p.2.1),())
    | some z=>if isV .un (bq .str a p.1)=true then some ((150,p.2.1),()) else match fI z.2 p.2.2 []with
     | some f=>some (f,())
     | none=>kk (dh .str a p.1 ()))
   (fin:=fun _=>some ((0,0),())) ?_ ?_ r.2.length 0 [] _ (by omega) (by omega)).trans ?_
  ·intro self k a p hp
   have hk:=(List.getElem?_eq_some_iff.1 hp).1;have hpm:=hr.2 p (zT hp);rw[akB];unfold Jo;rw[if_pos (by rw[bg,ay];omega),gK hp,zB,find_eq (by omega),zB]
   cases hz:eD (fun d=>eqs d.1 p.1) t 0 with
   | none=>rfl
   | some z =>
    obtain⟨z1,z2⟩:=z;obtain⟨hm,hg,_⟩:=oF hz;have hd:=ht.2 z2 hm;dsimp only;rw[if_neg (by decide)];simp only[Bool.not_not];show V4 (Jq _) _ t (z1:Int) r.2 (zD r.2.length) (k:Int) _ (0,0) _ p=_;unfold V4;rw[afi hg (hdv z2 hm) hd.1 hd.2 _ r.2 _ k (by omega) p.2.2 hpm.1 hpm.2]
  ·intro self a
   rw[akB];unfold Jo;rw[if_neg (by rw[bg,ay];omega)]
  ·rw[List.drop_zero]
   have key:∀(q:List ak) (a:zK6) (N:List (List UInt8)),Met (kt:=.str) a (·∈ N) ->
     goL (fun (a:zK6) (p:ak) (kk:akF)=>match eD (fun d=>eqs d.1 p.1) t 0 with
      | none=>some ((150,p.2.1),())
      | some z=>if isV .un (bq .str a p.1)=true then some ((150,p.2.1),()) else match fI z.2 p.2.2 []with
       | some f=>some (f,())
       | none=>kk (dh .str a p.1 ())) (fun _=>some ((0,0),())) q a=some ((gF t q N).getD (0,0),()):=by
    intro q
    induction q with
    | nil=>intro a N _;rfl
    | cons p q ih =>
     intro a N hN
     show (match eD (fun d=>eqs d.1 p.1) t 0 with
      | none=>some ((150,p.2.1),())
      | some z=>if isV .un (bq .str a p.1)=true then some ((150,p.2.1),()) else match fI z.2 p.2.2 []with
       | some f=>some (f,())
       | none=>goL _ _ q (dh .str a p.1 ()))=_
     rw[hN.mem,ih _ _ (hN.push X6 p.1),gF]
     cases eD (fun d=>eqs d.1 p.1) t 0 with
     | none=>rfl
     | some z =>
      dsimp only;by_cases h1:p.1∈N
      ·rw[if_pos (decide_eq_true h1),if_pos h1];rfl
      ·rw[if_neg (by simp[h1]),if_neg h1]
       cases fI z.2 p.2.2 []<;>rfl
   exact key r.2 [] [] (fun k=>by simp[bq])
 show V7 Fq t r=_;unfold V7 iP;rw[X7 ht,zB];dsimp only
 cases hB:oD t with
 | false=>rw[if_pos (by rfl),K1t];rfl
 | true =>
  rw[if_neg (by decide),xG (by omega) (fun p hp=>by have:=(hr.2 p hp).1;omega),zB];dsimp only
  cases eX r with
  | false=>show Fq t true r (0,0)=_;rw[K1t];rfl
  | true=>show Fq t false r (0,0)=_;rw[K1f hB];rfl
end Go.Proofs.Lx
end
noncomputable section
open Go Go.Proofs Ev Sx
set_option maxRecDepth 100000
namespace Go.Proofs.Lx
def iI:Code->Code
 | .seq a _=>a
 | _=>.skip
def cZ:Code->Code
 | .seq _ b=>b
 | _=>.skip
def Kk:Code->Code
 | .block _ c=>c
 | _=>.skip
def rfA:Code->Code
 | .rangeFunc _ _ a _=>a
 | _=>.skip
def rfB:Code->Code
 | .rangeFunc _ _ _ b=>b
 | _=>.skip
def aai(P:Program)(f:Nat):Code:=match P.funcs[f]? with
 | some fn=>fn.body.getD .skip
 | none=>.skip
noncomputable def bkC:Code:=aai Tryz.prog 29
noncomputable def bk1:Code:=iI bkC
noncomputable def bk2:Code:=iI (cZ bkC)
noncomputable def bk3:Code:=iI (cZ (cZ bkC))
noncomputable def bk4:Code:=iI (iI (cZ (cZ (cZ bkC))))
noncomputable def akG:Code:=Kk (cZ (iI (cZ (cZ (cZ bkC)))))
noncomputable def bkA:Code:=rfA akG
noncomputable def bkB:Code:=rfB akG
noncomputable def bkT:Code:=cZ (cZ (cZ (cZ bkC)))
theorem agD:Tryz.f29.body=some (.seq bk1 (.seq bk2 (.seq bk3 (.seq (.seq bk4 (.block 0 (.rangeFunc (.tmp 11) #[12] bkA bkB))) bkT)))):=rfl
@[reducible] def aR:Ty:=.sl (.int .u16)
abbrev bT:Ty:=.pr (.int .i64) aR
abbrev Bk:=Int×List Int
def qb:Env:=cts [(3000050,UY)]
def gG:Nat->Option Hint:=fun _=>none
@[reducible] def dA:Type:=List (Int×Int)
def akH(m:dA):St:={ fr:=[(0,.mp 0)],nt:=74,up:=[],own:=[(0,.dm (.int .i64) (.int .u16) m)],nx:=1,log:=[],ln:=1 }
noncomputable def evN (env:Env) (hs:Nat->Option Hint) (h:Hint) (c:Code) (S:St):Option (Ex×St):=ev Tryz.prog env (evC (R:=Ex×St) Tryz.prog env 1000 (fun _ _=>false) 2) 1000 hs 1 c S (fun e S'=>(nrm Tryz.prog h S').bind fun S1=>some (e,S1))
end Go.Proofs.Lx
end
noncomputable section
set_option maxRecDepth 100000
namespace Go.Proofs.Lx
open Go Go.Proofs Ev Sx
abbrev kT:Ty:=.int .i64
abbrev uT:Ty:=.int .u16
def eZ:Fr:=[(1,.pb 1 0),(2,.pb 2 0),(3,.pb 3 0),(11,.fn (.func 89) [] [.pb 4 0]),(4,.pb 5 0)]
def eu(d:dA)(c:SV)(e b:Bool)(g:List Bk)(a:Int)(f:List Int):List (Nat×Ent) :=
 [(0,.dm kT uT d),(1,.box 74 [.mp 0]),(2,.box 50 [c]),(3,.box 4 [.d .bool e]),(4,.box 74 [.mp 0]),(5,.box 50 [.row 6]),(6,.rowo bT 78 b g [.d kT a,.row 7]),(7,.row uT 73 f)]
def bH:SV:=.k (.slice none 0 0)
def nI(a:Fr)(b:Nat)(f:dA)(e:SV)(g d:Bool)(i:List Bk)(c:Int)(h:List Int):St :=
 {fr:=a,nt:=74,up:=[],own:=eu f e g d i c h,nx:=8,log:=[],ln:=b }
def yD(m:dA):St :=
 {fr:=[(1,.pb 1 0),(2,.pb 2 0),(3,.pb 3 0)],nt:=74,up:=[],own:=[(0,.dm kT uT m),(1,.box 74 [.mp 0]),(2,.box 50 [bH]),(3,.box 4 [.d .bool false])],nx:=4,log:=[],ln:=1 }
def afk(m:dA):St :=
 {fr:=[(1,.pb 1 0),(2,.pb 2 0),(3,.pb 3 0),(4,.pb 4 0)],nt:=74,up:=[],own:=[(0,.dm kT uT m),(1,.box 74 [.mp 0]),(2,.box 50 [bH]),(3,.box 4 [.d .bool false]),(4,.box 50 [bH])],nx:=5,log:=[],ln:=1 }
def hA:Hint:=⟨[],[1,2,3]⟩
def hB:Hint:=⟨[],[1,2,3,4]⟩
def hR:Hint:=⟨[.rwb 4 0 78,.opc 4 0 [(1,73)]],[1,2,3,11,4]⟩
theorem al6(m:dA):evN qb gG hA bk1 (akH m)=some (.n,yD m):=by kernel_rfl
theorem agE(m:dA):evN qb gG hA bk2 (yD m)=if gt (zD m.length) 64=true then some (.r,yD m) else some (.n,yD m):=by kernel_rfl
theorem al7(m:dA):evN qb gG hB bk3 (yD m)=some (.n,afk m):=by kernel_rfl
theorem al8(m:dA):evN qb gG hR bk4 (afk m)=some (.n,nI eZ 1 m bH false false [] 0 []):=by kernel_rfl
def bkL(b:Bool)(a:List Bk):Int:=if b=true then zD (a.length+1) else zD a.length
def bkX(c:Bool)(a:List Bk)(b:Int)(d:List Int):List Bk:=if c=true then a++[(b,d)] else a
def bkV(m:dA)(z:Int):Int:=gdV uT (bq kT m z) 0
def Hu(c:dA)(b:Bool)(e:List Bk)(a:Int)(d:List Int):Option (Ex×St):=some (.r,nI eZ 6 c bH false b e a d)
def zu(e:dA)(a:Bool)(b:List Bk)(c:Int)(d:List Int)(f:Int):Option (Ex×St) :=
 if eqi (bkL a b) 8=true then Hu e a b c d else
  need (small ((bkX a b c d).length+1)) (need (eqi (add .i64 (sub .i64 (bkL a b) 1) 1) (zD (bkX a b c d).length)) (need (eqi (add .i64 (sub .i64 (bkL a b) 1) 1) (zD (bkX a b c d).length))
   (need (small (0+Nat.succ 0)) (need (eqi (add .i64 (sub .i64 (bkL a b) 1) 1) (zD (bkX a b c d).length)) (need (eqi (add .i64 (sub .i64 (bkL a b) 1) 1) (zD (bkX a b c d).length))
    (some (.n,nI eZ 6 e bH false true (bkX a b c d) f [bkV e f])))))))
def n1p(a:Bool)(b:List Bk)(c:Option (Ex×St)):Option (Ex×St):=need a (need (eqi (sub .i64 (bkL a b) 1) (zD b.length)) c)
def bkM(e:dA)(b:Bool)(a:List Bk)(d:Int)(c:List Int)(f:Int):Option (Ex×St) :=
 if lt f 0=true then Hu e b a d c else
 if ge f 64=true then Hu e b a d c else
 if lt (sub .i64 (bkL b a) 1) 0=true then zu e b a d c f else
 n1p b a (n1p b a (n1p b a (n1p b a (
 if nei f (add .i64 d (zD c.length))=true then zu e b a d c f else
 n1p b a (n1p b a (
 if eqi (zD c.length) 14=true then zu e b a d c f else
 n1p b a (n1p b a (need (small (c.length+Nat.succ 0)) (n1p b a (n1p b a (some (.n,nI eZ 6 e bH false true a d (c++[bkV e f])))))))))))))
theorem agF(m:dA)(b:Bool)(xs:List Bk)(a:Int)(ws:List Int)(z:Int) :
  evN qb gG hR bkB (nI ((5,.d kT z)::eZ) 6 m bH false b xs a ws)=bkM m b xs a ws z:=by kernel_rfl
end Go.Proofs.Lx
end
noncomputable section
set_option maxRecDepth 100000
namespace Go.Proofs.Lx
open Go Go.Proofs Ev Sx Pl
def dV(m:dA)(l:List Bk)(z:Int):Option (List Bk) :=
 if z<0∨64≤z then none else
 match l.getLast? with
 | none=>some [(z,[bkV m z])]
 | some (a,ws)=>if z≠a+(ws.length:Int)∨ws.length=14 then (if l.length=8 then none else some (l++[(z,[bkV m z])])) else some (l.dropLast++[(a,ws++[bkV m z])])
structure BkI(b:Bool) (xs:List Bk) (a:Int) (ws:List Int):Prop where
 emp:b=false->xs=[]
 len:(bkX b xs a ws).length≤8
 rng:b=true->0≤a∧a<64∧1≤ws.length∧ws.length≤14
theorem BkI.start:BkI false [] 0 []:=⟨fun _=>rfl,by decide,(fun h=>by cases h)⟩
theorem SE{m:List (Int×Int)}{b:Bool}{xs:List Bk}{a:Int}{ws:List Int}{z:Int}(hL:bkL b xs=((bkX b xs a ws).length:Int))(h8:(bkX b xs a ws).length≤8) :
  zu m b xs a ws z=if (bkX b xs a ws).length=8 then Hu m b xs a ws else some (.n,nI eZ 6 m bH false true (bkX b xs a ws) z [bkV m z]):=by
 have e1:eqi (add .i64 (sub .i64 (bkL b xs) 1) 1) (zD (bkX b xs a ws).length)=true:=by rw[hL,iR (by omega) (by omega),lX (by omega) (by omega),fQ];show _=((bkX b xs a ws).length:Int);omega
 unfold zu;by_cases h:(bkX b xs a ws).length=8
 ·rw[if_pos (by rw[fQ,hL];omega),if_pos h]
 ·rw[if_neg (by rw[fQ,hL];omega),if_neg h,gW (oU.2 (by omega)),gW e1,gW e1,gW (by decide),gW e1,gW e1]
theorem qT{xs:List Bk}{k:Option (Ex×St)}(h:xs.length≤8):n1p true xs k=k:=by unfold n1p;rw[gW rfl,gW];rw[fQ];show sub .i64 ((xs.length+1:Nat):Int) 1=(xs.length:Int);rw[iR (by omega) (by omega)];omega
theorem ahS{m:List (Int×Int)}{b:Bool}{xs:List Bk}{a:Int}{ws:List Int}(h:BkI b xs a ws)(z:Int) :
  (dV m (bkX b xs a ws) z=none∧bkM m b xs a ws z=Hu m b xs a ws) ∨
  ∃xs' a' ws',dV m (bkX b xs a ws) z=some (bkX true xs' a' ws')∧bkM m b xs a ws z=some (.n,nI eZ 6 m bH false true xs' a' ws')∧BkI true xs' a' ws':=by
 have h8:=h.len;by_cases h1:z<0
 ·exact .inl ⟨by unfold dV;rw[if_pos (.inl h1)],by unfold bkM;rw[if_pos (bg.2 h1)]⟩
 by_cases h2:64≤z
 ·exact .inl ⟨by unfold dV;rw[if_pos (.inr h2)],by unfold bkM;rw[if_neg (by rw[bg];exact h1),if_pos (dN.2 h2)]⟩
 have hm:∀k,bkM m b xs a ws z=k->bkM m b xs a ws z=k:=fun _ h=>h
 cases b with
 | false =>
  obtain rfl:=h.emp rfl;refine .inr ⟨[],z,[bkV m z],?_,?_,⟨(fun h=>by cases h),by show (1:Nat)≤8;decide,fun _=>⟨by omega,by omega,by simp,by simp⟩⟩⟩
  ·unfold dV
   rw[if_neg (by omega)];rfl
  ·unfold bkM
   rw[if_neg (by rw[bg];exact h1),if_neg (by rw[dN];omega),if_pos (by decide),SE rfl h8,if_neg (by show ¬ (0:Nat)=8;decide)];rfl
 | true =>
  obtain⟨r1,r2,r3,r4⟩:=h.rng rfl;have hl:(bkX true xs a ws).length=xs.length+1:=by simp[bkX]
  have hX:(bkX true xs a ws).getLast? = some (a,ws):=by simp[bkX]
  have hD:(bkX true xs a ws).dropLast=xs:=by simp[bkX]
  have hx8:xs.length≤7:=by omega
  have hpush:=SE (m:=m) (z:=z) (b:=true) (xs:=xs) (a:=a) (ws:=ws) (by rw[hl];rfl) h8;have hst:dV m (bkX true xs a ws) z=if z≠a+(ws.length:Int)∨ws.length=14 then (if (bkX true xs a ws).length=8 then none else some (bkX true xs a ws++[(z,[bkV m z])])) else some (xs++[(a,ws++[bkV m z])]):=by unfold dV;rw[if_neg (by omega),hX,hD]
  have hM:bkM m true xs a ws z=if z≠a+(ws.length:Int)∨ws.length=14 then zu m true xs a ws z else some (.n,nI eZ 6 m bH false true xs a (ws++[bkV m z])):=by
   unfold bkM
   rw[if_neg (by rw[bg];exact h1),if_neg (by rw[dN];omega),if_neg (by
    rw[bg];show ¬ sub .i64 ((xs.length+1:Nat):Int) 1<0;rw[iR (by omega) (by omega)]
    omega)]
   rw[qT (by omega),qT (by omega),qT (by omega),qT (by omega)];have ea:add .i64 a (zD ws.length)=a+(ws.length:Int):=lX (by show _≤a+(ws.length:Int);omega) (by show a+(ws.length:Int)≤_;omega);rw[ea];by_cases c1:z≠a+(ws.length:Int)
   ·rw[if_pos (dK.2 c1),if_pos (.inl c1)]
   ·rw[if_neg (by rw[dK];exact c1),qT (by omega),qT (by omega)]
    by_cases c2:ws.length=14
    ·rw[if_pos (by rw[fQ,c2];rfl),if_pos (.inr c2)]
    ·rw[if_neg (by rw[fQ];show ¬ (ws.length:Int)=14;omega),if_neg (by omega),qT (by omega),qT (by omega),gW (oU.2 (by show ws.length+1≤_;omega)),qT (by omega),qT (by omega)]
  rw[hst,hM];by_cases c:z≠a+(ws.length:Int)∨ws.length=14
  ·rw[if_pos c,if_pos c,hpush]
   by_cases c8:(bkX true xs a ws).length=8
   ·rw[if_pos c8,if_pos c8]
    exact .inl ⟨rfl,rfl⟩
   ·rw[if_neg c8,if_neg c8]
    exact .inr ⟨bkX true xs a ws,z,[bkV m z],rfl,rfl,⟨(fun h=>by cases h),by simp[bkX]at hl c8 ⊢;omega,fun _=>⟨by omega,by omega,by simp,by simp⟩⟩⟩
  ·rw[if_neg c,if_neg c]
   exact .inr ⟨xs,a,ws++[bkV m z],rfl,rfl,⟨(fun h=>by cases h),by simp[bkX];omega,fun _=>⟨r1,r2,by simp,by simp;omega⟩⟩⟩
end Go.Proofs.Lx
end
noncomputable section
set_option maxRecDepth 100000
namespace Go.Proofs.Lx
open Go Go.Proofs Go.RowKit Ev Sx Pl
def dS0(m:dA):St:={ fr:=[(0,.d (.mp kT uT) m)],nt:=74,up:=[],own:=[],nx:=1,log:=[],ln:=1 }
def iB(a:dA)(d:SV)(e c:Bool)(g:List Bk)(b:Int)(f:List Int):List (Nat×Ent) :=
 [(1,.box 74 [.d (.mp kT uT) a]),(2,.box 50 [d]),(3,.box 4 [.d .bool e]),(4,.box 74 [.d (.mp kT uT) a]),(5,.box 50 [.row 6]),(6,.rowo bT 78 c g [.d kT b,.row 7]),(7,.row uT 73 f)]
def iZ(a:Fr)(b:Nat)(f:dA)(e:SV)(g d:Bool)(i:List Bk)(c:Int)(h:List Int):St :=
 {fr:=a,nt:=74,up:=[],own:=iB f e g d i c h,nx:=8,log:=[],ln:=b }
def nP(m:dA):St :=
 {fr:=[(1,.pb 1 0),(2,.pb 2 0),(3,.pb 3 0)],nt:=74,up:=[],own:=[(1,.box 74 [.d (.mp kT uT) m]),(2,.box 50 [bH]),(3,.box 4 [.d .bool false])],nx:=4,log:=[],ln:=1 }
def Qp(m:dA):St :=
 {fr:=[(1,.pb 1 0),(2,.pb 2 0),(3,.pb 3 0),(4,.pb 4 0)],nt:=74,up:=[],own:=[(1,.box 74 [.d (.mp kT uT) m]),(2,.box 50 [bH]),(3,.box 4 [.d .bool false]),(4,.box 50 [bH])],nx:=5,log:=[],ln:=1 }
theorem ahT(m:dA):evN qb gG hA bk1 (dS0 m)=some (.n,nP m):=by kernel_rfl
theorem SF(m:dA):evN qb gG hA bk2 (nP m)=if gt (zD m.length) 64=true then some (.r,nP m) else some (.n,nP m):=by kernel_rfl
theorem ahU(m:dA):evN qb gG hB bk3 (nP m)=some (.n,Qp m):=by kernel_rfl
theorem ahV(m:dA):evN qb gG hR bk4 (Qp m)=some (.n,iZ eZ 1 m bH false false [] 0 []):=by kernel_rfl
def zw(c:dA)(b:Bool)(e:List Bk)(a:Int)(d:List Int):Option (Ex×St):=some (.r,iZ eZ 6 c bH false b e a d)
def qQ(e:dA)(a:Bool)(b:List Bk)(c:Int)(d:List Int)(f:Int):Option (Ex×St) :=
 if eqi (bkL a b) 8=true then zw e a b c d else
  need (small ((bkX a b c d).length+1)) (need (eqi (add .i64 (sub .i64 (bkL a b) 1) 1) (zD (bkX a b c d).length)) (need (eqi (add .i64 (sub .i64 (bkL a b) 1) 1) (zD (bkX a b c d).length))
   (need (small (0+Nat.succ 0)) (need (eqi (add .i64 (sub .i64 (bkL a b) 1) 1) (zD (bkX a b c d).length)) (need (eqi (add .i64 (sub .i64 (bkL a b) 1) 1) (zD (bkX a b c d).length))
    (some (.n,iZ eZ 6 e bH false true (bkX a b c d) f [bkV e f])))))))
def sW(a:Bool)(b:List Bk)(c:Option (Ex×St)):Option (Ex×St):=need a (need (eqi (sub .i64 (bkL a b) 1) (zD b.length)) c)
def qU(e:dA)(b:Bool)(a:List Bk)(d:Int)(c:List Int)(f:Int):Option (Ex×St) :=
 if lt f 0=true then zw e b a d c else
 if ge f 64=true then zw e b a d c else
 if lt (sub .i64 (bkL b a) 1) 0=true then qQ e b a d c f else
 sW b a (sW b a (sW b a (sW b a (
 if nei f (add .i64 d (zD c.length))=true then qQ e b a d c f else
 sW b a (sW b a (
 if eqi (zD c.length) 14=true then qQ e b a d c f else
 sW b a (sW b a (need (small (c.length+Nat.succ 0)) (sW b a (sW b a (some (.n,iZ eZ 6 e bH false true a d (c++[bkV e f])))))))))))))
theorem SH(m:dA)(b:Bool)(xs:List Bk)(a:Int)(ws:List Int)(z:Int) :
  evN qb gG hR bkB (iZ ((5,.d kT z)::eZ) 6 m bH false b xs a ws)=qU m b xs a ws z:=by kernel_rfl
theorem LA{m:List (Int×Int)}{b:Bool}{xs:List Bk}{a:Int}{ws:List Int}{z:Int}(hL:bkL b xs=((bkX b xs a ws).length:Int))(h8:(bkX b xs a ws).length≤8) :
  qQ m b xs a ws z=if (bkX b xs a ws).length=8 then zw m b xs a ws else some (.n,iZ eZ 6 m bH false true (bkX b xs a ws) z [bkV m z]):=by
 have e1:eqi (add .i64 (sub .i64 (bkL b xs) 1) 1) (zD (bkX b xs a ws).length)=true:=by rw[hL,iR (by omega) (by omega),lX (by omega) (by omega),fQ];show _=((bkX b xs a ws).length:Int);omega
 unfold qQ;by_cases h:(bkX b xs a ws).length=8
 ·rw[if_pos (by rw[fQ,hL];omega),if_pos h]
 ·rw[if_neg (by rw[fQ,hL];omega),if_neg h,gW (oU.2 (by omega)),gW e1,gW e1,gW (by decide),gW e1,gW e1]
theorem kH{xs:List Bk}{k:Option (Ex×St)}(h:xs.length≤8):sW true xs k=k:=by unfold sW;rw[gW rfl,gW];rw[fQ];show sub .i64 ((xs.length+1:Nat):Int) 1=(xs.length:Int);rw[iR (by omega) (by omega)];omega
theorem aaj{m:List (Int×Int)}{b:Bool}{xs:List Bk}{a:Int}{ws:List Int}(h:BkI b xs a ws)(z:Int) :
  (dV m (bkX b xs a ws) z=none∧qU m b xs a ws z=zw m b xs a ws) ∨
  ∃xs' a' ws',dV m (bkX b xs a ws) z=some (bkX true xs' a' ws')∧qU m b xs a ws z=some (.n,iZ eZ 6 m bH false true xs' a' ws')∧BkI true xs' a' ws':=by
 have h8:=h.len;by_cases h1:z<0
 ·exact .inl ⟨by unfold dV;rw[if_pos (.inl h1)],by unfold qU;rw[if_pos (bg.2 h1)]⟩
 by_cases h2:64≤z
 ·exact .inl ⟨by unfold dV;rw[if_pos (.inr h2)],by unfold qU;rw[if_neg (by rw[bg];exact h1),if_pos (dN.2 h2)]⟩
 have hm:∀k,qU m b xs a ws z=k->qU m b xs a ws z=k:=fun _ h=>h
 cases b with
 | false =>
  obtain rfl:=h.emp rfl;refine .inr ⟨[],z,[bkV m z],?_,?_,⟨(fun h=>by cases h),by show (1:Nat)≤8;decide,fun _=>⟨by omega,by omega,by simp,by simp⟩⟩⟩
  ·unfold dV
   rw[if_neg (by omega)];rfl
  ·unfold qU
   rw[if_neg (by rw[bg];exact h1),if_neg (by rw[dN];omega),if_pos (by decide),LA rfl h8,if_neg (by show ¬ (0:Nat)=8;decide)];rfl
 | true =>
  obtain⟨r1,r2,r3,r4⟩:=h.rng rfl;have hl:(bkX true xs a ws).length=xs.length+1:=by simp[bkX]
  have hX:(bkX true xs a ws).getLast? = some (a,ws):=by simp[bkX]
  have hD:(bkX true xs a ws).dropLast=xs:=by simp[bkX]
  have hx8:xs.length≤7:=by omega
  have hpush:=LA (m:=m) (z:=z) (b:=true) (xs:=xs) (a:=a) (ws:=ws) (by rw[hl];rfl) h8;have hst:dV m (bkX true xs a ws) z=if z≠a+(ws.length:Int)∨ws.length=14 then (if (bkX true xs a ws).length=8 then none else some (bkX true xs a ws++[(z,[bkV m z])])) else some (xs++[(a,ws++[bkV m z])]):=by unfold dV;rw[if_neg (by omega),hX,hD]
  have hM:qU m true xs a ws z=if z≠a+(ws.length:Int)∨ws.length=14 then qQ m true xs a ws z else some (.n,iZ eZ 6 m bH false true xs a (ws++[bkV m z])):=by
   unfold qU
   rw[if_neg (by rw[bg];exact h1),if_neg (by rw[dN];omega),if_neg (by
    rw[bg];show ¬ sub .i64 ((xs.length+1:Nat):Int) 1<0;rw[iR (by omega) (by omega)]
    omega)]
   rw[kH (by omega),kH (by omega),kH (by omega),kH (by omega)];have ea:add .i64 a (zD ws.length)=a+(ws.length:Int):=lX (by show _≤a+(ws.length:Int);omega) (by show a+(ws.length:Int)≤_;omega);rw[ea];by_cases c1:z≠a+(ws.length:Int)
   ·rw[if_pos (dK.2 c1),if_pos (.inl c1)]
   ·rw[if_neg (by rw[dK];exact c1),kH (by omega),kH (by omega)]
    by_cases c2:ws.length=14
    ·rw[if_pos (by rw[fQ,c2];rfl),if_pos (.inr c2)]
    ·rw[if_neg (by rw[fQ];show ¬ (ws.length:Int)=14;omega),if_neg (by omega),kH (by omega),kH (by omega),gW (oU.2 (by show ws.length+1≤_;omega)),kH (by omega),kH (by omega)]
  rw[hst,hM];by_cases c:z≠a+(ws.length:Int)∨ws.length=14
  ·rw[if_pos c,if_pos c,hpush]
   by_cases c8:(bkX true xs a ws).length=8
   ·rw[if_pos c8,if_pos c8]
    exact .inl ⟨rfl,rfl⟩
   ·rw[if_neg c8,if_neg c8]
    exact .inr ⟨bkX true xs a ws,z,[bkV m z],rfl,rfl,⟨(fun h=>by cases h),by simp[bkX]at hl c8 ⊢;omega,fun _=>⟨by omega,by omega,by simp,by simp⟩⟩⟩
  ·rw[if_neg c,if_neg c]
   exact .inr ⟨xs,a,ws++[bkV m z],rfl,rfl,⟨(fun h=>by cases h),by simp[bkX];omega,fun _=>⟨r1,r2,by simp,by simp;omega⟩⟩⟩
end Go.Proofs.Lx
end
noncomputable section
namespace Go.Proofs
open Go.Shelf
def Tryz.keysA_ren:Go.Shelf.Ren:=⟨fun | 7=>91 | 10=>122 | n=>n,fun | 23=>74 | 26=>3 | 3=>73 | 28=>124 | 0=>0 | 27=>123 | 33=>153 | 4=>4 | n=>n,fun | n=>n⟩
theorem Tryz.keysA:Go.Proofs.SlLaysZI.n7 Tryz.prog Tryz.keysA_ren:={
 mixed:=by kernel_rfl
 f7:=⟨Tryz.f91.name,by decide,Tryz.func91.trans (congrArg some (by kernel_rfl))⟩
 f10:=⟨Tryz.f122.name,by decide,Tryz.func122.trans (congrArg some (by kernel_rfl))⟩
 t0:=Tryz.underlying0
 a0:=Tryz.isAgg0
 z0:=Tryz.sizeOf0
 v0:=Tryz.zeroValue0
 t4:=Tryz.underlying4
 a4:=Tryz.isAgg4
 z4:=Tryz.sizeOf4
 v4:=Tryz.zeroValue4
 t23:=Tryz.underlying74
 a23:=Tryz.isAgg74
 z23:=Tryz.sizeOf74
 v23:=Tryz.zeroValue74
 t26:=Tryz.underlying3
 a26:=Tryz.isAgg3
 z26:=Tryz.sizeOf3
 v26:=Tryz.zeroValue3
 t27:=Tryz.underlying123
 a27:=Tryz.isAgg123
 z27:=Tryz.sizeOf123
 v27:=Tryz.zeroValue123
 t28:=Tryz.underlying124
 a28:=Tryz.isAgg124
 z28:=Tryz.sizeOf124
 v28:=Tryz.zeroValue124
 t33:=Tryz.underlying153
 a33:=Tryz.isAgg153
 z33:=Tryz.sizeOf153
 v33:=Tryz.zeroValue153 }
def Tryz.sortedA_ren:Go.Shelf.Ren:=⟨fun | 6=>90 | 8=>120 | 9=>121 | 11=>142 | 13=>144 | 12=>143 | 23=>170 | 24=>150 | 14=>161 | 15=>162 | 16=>163 | 17=>164 | 18=>165 | 19=>166 | 20=>167 | 21=>168 | 22=>169 | 25=>181 | 26=>182 | 27=>183 | 28=>184 | 29=>185 | 30=>186 | 31=>190 | n=>n,fun | 26=>3 | 28=>124 | 24=>154 | 0=>0 | 3=>3 | 37=>118 | 48=>147 | 50=>150 | 4=>4 | 40=>222 | 39=>221 | 45=>48 | 5=>5 | 9=>9 | 51=>232 | 55=>236 | 57=>241 | 58=>242 | 33=>153 | n=>n,fun | n=>n⟩
theorem Tryz.sortedA:Go.Proofs.SlLaysZI.n6 Tryz.prog Tryz.sortedA_ren:={
 mixed:=by kernel_rfl
 f6:=⟨Tryz.f90.name,by decide,Tryz.func90.trans (congrArg some (by kernel_rfl))⟩
 f8:=⟨Tryz.f120.name,by decide,Tryz.func120.trans (congrArg some (by kernel_rfl))⟩
 f11:=⟨Tryz.f142.name,by decide,Tryz.func142.trans (congrArg some (by kernel_rfl))⟩
 t0:=Tryz.underlying0
 a0:=Tryz.isAgg0
 z0:=Tryz.sizeOf0
 v0:=Tryz.zeroValue0
 t24:=Tryz.underlying154
 a24:=Tryz.isAgg154
 z24:=Tryz.sizeOf154
 v24:=Tryz.zeroValue154
 t26:=Tryz.underlying3
 a26:=Tryz.isAgg3
 z26:=Tryz.sizeOf3
 v26:=Tryz.zeroValue3
 t28:=Tryz.underlying124
 a28:=Tryz.isAgg124
 z28:=Tryz.sizeOf124
 v28:=Tryz.zeroValue124
 i26:=by kernel_rfl }
def Tryz.sortA_ren:Go.Shelf.Ren:=⟨fun | 5=>121 | 8=>144 | 7=>143 | 19=>170 | 20=>150 | 10=>161 | 11=>162 | 12=>163 | 13=>164 | 14=>165 | 15=>166 | 16=>167 | 17=>168 | 18=>169 | 30=>181 | 31=>182 | 32=>183 | 33=>184 | 34=>185 | 35=>186 | 40=>190 | n=>n,fun | 23=>154 | 25=>3 | 3=>3 | 32=>118 | 22=>154 | 0=>0 | 44=>147 | 46=>150 | 4=>4 | 36=>222 | 35=>221 | 41=>48 | 5=>5 | 9=>9 | 53=>232 | 57=>236 | 63=>241 | 64=>242 | n=>n,fun | n=>n⟩
theorem Tryz.sortA:Go.Proofs.SlLaysM.n5 Tryz.prog Tryz.sortA_ren:={
 mixed:=by kernel_rfl
 f5:=⟨Tryz.f121.name,by decide,Tryz.func121.trans (congrArg some (by kernel_rfl))⟩
 f7:=⟨Tryz.f143.name,by decide,Tryz.func143.trans (congrArg some (by kernel_rfl))⟩
 f8:=Tryz.func144.trans (congrArg some (by kernel_rfl))
 f10:=⟨Tryz.f161.name,by decide,Tryz.func161.trans (congrArg some (by kernel_rfl))⟩
 f11:=⟨Tryz.f162.name,by decide,Tryz.func162.trans (congrArg some (by kernel_rfl))⟩
 f12:=⟨Tryz.f163.name,by decide,Tryz.func163.trans (congrArg some (by kernel_rfl))⟩
 f13:=⟨Tryz.f164.name,by decide,Tryz.func164.trans (congrArg some (by kernel_rfl))⟩
 f14:=⟨Tryz.f165.name,by decide,Tryz.func165.trans (congrArg some (by kernel_rfl))⟩
 f15:=⟨Tryz.f166.name,by decide,Tryz.func166.trans (congrArg some (by kernel_rfl))⟩
 f16:=⟨Tryz.f167.name,by decide,Tryz.func167.trans (congrArg some (by kernel_rfl))⟩
 f17:=⟨Tryz.f168.name,by decide,Tryz.func168.trans (congrArg some (by kernel_rfl))⟩
 f18:=⟨Tryz.f169.name,by decide,Tryz.func169.trans (congrArg some (by kernel_rfl))⟩
 f19:=Tryz.func170.trans (congrArg some (by kernel_rfl))
 f20:=Tryz.func150.trans (congrArg some (by kernel_rfl))
 f30:=⟨Tryz.f181.name,by decide,Tryz.func181.trans (congrArg some (by kernel_rfl))⟩
 f31:=Tryz.func182.trans (congrArg some (by kernel_rfl))
 f32:=Tryz.func183.trans (congrArg some (by kernel_rfl))
 f33:=⟨Tryz.f184.name,by decide,Tryz.func184.trans (congrArg some (by kernel_rfl))⟩
 f34:=⟨Tryz.f185.name,by decide,Tryz.func185.trans (congrArg some (by kernel_rfl))⟩
 f35:=⟨Tryz.f186.name,by decide,Tryz.func186.trans (congrArg some (by kernel_rfl))⟩
 f40:=⟨Tryz.f190.name,by decide,Tryz.func190.trans (congrArg some (by kernel_rfl))⟩
 t0:=Tryz.underlying0
 a0:=Tryz.isAgg0
 z0:=Tryz.sizeOf0
 v0:=Tryz.zeroValue0
 t3:=Tryz.underlying3
 a3:=Tryz.isAgg3
 z3:=Tryz.sizeOf3
 v3:=Tryz.zeroValue3
 t4:=Tryz.underlying4
 a4:=Tryz.isAgg4
 z4:=Tryz.sizeOf4
 v4:=Tryz.zeroValue4
 t5:=Tryz.underlying5
 a5:=Tryz.isAgg5
 z5:=Tryz.sizeOf5
 v5:=Tryz.zeroValue5
 t9:=Tryz.underlying9
 a9:=Tryz.isAgg9
 z9:=Tryz.sizeOf9
 v9:=Tryz.zeroValue9
 t22:=Tryz.underlying154
 a22:=Tryz.isAgg154
 z22:=Tryz.sizeOf154
 v22:=Tryz.zeroValue154
 t23:=Tryz.underlying154
 a23:=Tryz.isAgg154
 z23:=Tryz.sizeOf154
 v23:=Tryz.zeroValue154
 t25:=Tryz.underlying3
 a25:=Tryz.isAgg3
 z25:=Tryz.sizeOf3
 v25:=Tryz.zeroValue3
 t32:=Tryz.underlying118
 a32:=Tryz.isAgg118
 z32:=Tryz.sizeOf118
 v32:=Tryz.zeroValue118
 t35:=Tryz.underlying221
 a35:=Tryz.isAgg221
 z35:=Tryz.sizeOf221
 v35:=Tryz.zeroValue221
 t36:=Tryz.underlying222
 a36:=Tryz.isAgg222
 z36:=Tryz.sizeOf222
 v36:=Tryz.zeroValue222
 t41:=Tryz.underlying48
 a41:=Tryz.isAgg48
 z41:=Tryz.sizeOf48
 v41:=Tryz.zeroValue48
 t44:=Tryz.underlying147
 a44:=Tryz.isAgg147
 z44:=Tryz.sizeOf147
 v44:=Tryz.zeroValue147
 t46:=Tryz.underlying150
 a46:=Tryz.isAgg150
 z46:=Tryz.sizeOf150
 v46:=Tryz.zeroValue150
 t53:=Tryz.underlying232
 a53:=Tryz.isAgg232
 z53:=Tryz.sizeOf232
 v53:=Tryz.zeroValue232
 t57:=Tryz.underlying236
 a57:=Tryz.isAgg236
 z57:=Tryz.sizeOf236
 v57:=Tryz.zeroValue236
 t63:=Tryz.underlying241
 a63:=Tryz.isAgg241
 z63:=Tryz.sizeOf241
 v63:=Tryz.zeroValue241
 t64:=Tryz.underlying242
 a64:=Tryz.isAgg242
 z64:=Tryz.sizeOf242
 v64:=Tryz.zeroValue242 }
end Go.Proofs
end
noncomputable section
set_option maxRecDepth 100000
namespace Go.Proofs.Lx
open Go Go.Proofs Go.RowKit Go.Maps Go.Sort Go.Shelf Ev Sx
attribute [local go_sem] Oper.semAt_some
def CY(_:Value):Option (DataW Unit×List MemPlace):=some (.lit (.bool true),[])
def inR(x:Int):Prop:=-9223372036854775808≤x∧x≤9223372036854775807
theorem wf_i64{x:Int}(h:inR x):(Lit.int .i64 x).wf=true:=by obtain⟨h1,h2⟩:=h;simp[Lit.wf,IntKind.min,IntKind.max,IntKind.signed,IntKind.bits];omega
theorem afl{w:World}{g:Nat}{vs:List (Int×Value)}(h:MapIs (bM (.int .i64)) (fun v:Value=>v) w g vs)(hw:∀e∈vs,inR e.1)(hl:vs.length≤1000) :
  ∃D0:DataW Unit,w.ownsMap Tryz.prog 3 CY g vs.length D0∧Maps.size D0=vs.length∧(intKeys D0).Perm (vs.map (·.1)):=by
 obtain⟨es,clock,hb,hkv,hst⟩:=h;have hlen:es.toList.length=vs.length:=by have:=congrArg zE hkv;simpa using this
 have hkeys:es.toList.map (·.key)=vs.map (fun e=>Value.int .i64 e.1):=by have:=congrArg (List.map (fun e:Value×Value=>e.1)) hkv;simpa [List.map_map,Function.comp_def,bM]using this
 have hk:∀x∈es.toList,∃a,x.key = .int .i64 a∧inR a:=fun x hx=>by have hm:x.key∈es.toList.map (·.key):=List.mem_map.2 ⟨x,hx,rfl⟩;rw[hkeys]at hm;obtain⟨e,he,h2⟩:=List.mem_map.1 hm;exact⟨e.1,h2.symm,hw e he⟩
 have hu:Tryz.prog.underlying 3=some (.int .i64):=by kernel_rfl
 have hrd:∀(x:MapEntry) (a:Int),x.key = .int .i64 a->inR a->Go.WideElems.rd Tryz.prog 3 CY x=some (.int .i64 a,.lit (.bool true)):=fun x a e ha=>by obtain⟨k,v,b⟩:=x;cases e;exact Go.WideElems.rd_mk (R:=CY) (keyOf_int_mk hu (wf_i64 ha)) rfl
 have hints:(es.toList.map (Go.WideElems.rg Tryz.prog 3 CY)).map (fun p=>Go.intOf p.1)=vs.map (·.1):=by
  have:∀(l:List MapEntry) (v:List (Int×Value)),(∀x∈l,∃a,x.key = .int .i64 a∧inR a)->l.map (·.key)=v.map (fun e=>Value.int .i64 e.1)->(l.map (Go.WideElems.rg Tryz.prog 3 CY)).map (fun p=>Go.intOf p.1)=v.map (·.1):=by
   intro l
   induction l with
   | nil=>intro v _ h;cases v<;>simp at h ⊢
   | cons x l ih =>
    intro v hl h
    cases v with
    | nil=>simp at h
    | cons e v =>
     simp only[List.map_cons,List.cons.injEq]at h ⊢;obtain⟨a,h1,h2⟩:=hl x (List.mem_cons_self ..);refine⟨?_,ih v (fun y hy=>hl y (zO _ hy)) h.2⟩;rw[Go.WideElems.rg_of (hrd x a h1 h2)];have:=h.1;rw[h1]at this;simpa [Go.intOf]using this
  exact this _ _ hk hkeys
 refine⟨.map ((es.toList.map (Go.WideElems.rg Tryz.prog 3 CY)).foldr DataW.insert []),⟨es,clock,hb,⟨?_,hst,fun x hx=>?_⟩,?_,rfl⟩,?_,?_⟩
 ·have:es.size=vs.length:=by simpa using hlen
  rw[this];exact Nat.le_trans hl (by decide)
 ·obtain⟨a,h1,h2⟩:=hk x hx
  exact⟨_,hrd x a h1 h2⟩
 ·have:es.size=vs.length:=by simpa using hlen
  omega
 ·show ((es.toList.map (Go.WideElems.rg Tryz.prog 3 CY)).foldr DataW.insert []).length=_
  rw[(WideShapes.sorted_perm _).length_eq];simpa using hlen
 ·show (((es.toList.map (Go.WideElems.rg Tryz.prog 3 CY)).foldr DataW.insert []).map fun p=>Go.intOf p.1).Perm _
  rw[<- hints];exact (WideShapes.sorted_perm _).map _
theorem afm(m:Nat):AnyZI.SortsIn Tryz.prog Tryz.sortedA_ren Fence.wide m :=
 ⟨fun blk off cap ss W hH hblk hsz=>callsIn_wide.2 (AnyM.slices_Sort_int Tryz.sortA blk off cap ss W hH hblk hsz),
  fun p cap W=>callsIn_wide.2 (AnyM.slices_Sort_int_none Tryz.sortA p cap W)⟩
def sorted(b:List Int):List Int:=b.mergeSort fun a c=>decide (a≤c)
theorem sorted_in{w:World}{g Bm:Nat}{vs:List (Int×Value)}(h:MapIs (bM (.int .i64)) (fun v:Value=>v) w g vs)(hw:∀e∈vs,inR e.1)(hl:vs.length≤1000)(hB:Bm<w.heap.size)(hm:w.cell? ⟨Bm,0,none⟩=some (.map (some g)))(n:Nat) :
  CallsIn Fence.wide n Tryz.prog 90 #[.func (.func 122) #[] #[.pointer (some ⟨Bm,0,none⟩)]] w fun e w'=>∃v,e = .returned v ∧
   w'.ownsRow w.heap.size 3 1 v vs.length ((sorted (vs.map (·.1))).map encZ)∧Below w.heap.size w w':=by
 obtain⟨D0,h1,h2,h3⟩:=afl h hw hl
 have hseq:SeqGives Fence.wide 2 Tryz.prog 122 #[.pointer (some ⟨Bm,0,none⟩)] encZ (fun ss=>ss.Perm (intKeys D0)) (Maps.size D0) w :=
  AnyZI.keys_gives (ρ:=Tryz.keysA_ren) { Tryz.keysA with } Fence.wide _ trivial rfl (by omega) Bm g vs.length D0 w hB hm h1
 have cS:=AnyZI.sorted_in Tryz.sortedA Fence.wide 5 trivial trivial trivial trivial rfl (by omega) (afm _) (enters_of Tryz.func121 (by kernel_rfl) rfl) 122 #[.pointer (some ⟨Bm,0,none⟩)] trivial (enters_of Tryz.func122 (by kernel_rfl) rfl) _ _ (by rw[h2];exact Nat.le_trans hl (by decide)) (by rw[h2];exact Nat.le_trans (Nat.mul_le_mul_right 8 hl) (by decide)) _ hseq;change CallsIn _ _ Tryz.prog 90 _ _ _ at cS;refine (callsIn_wide.2 (callsIn_wide.1 cS)).mono fun e w' ⟨v,ss,he,hS,hrow,hnil,hb⟩=>⟨v,he,?_,hb⟩;have hp:=hS.trans h3;have hlen:ss.length=vs.length:=by rw[hp.length_eq,zV]
 rw[hlen]at hrow;have e1:ss.mergeSort (fun x y=>decide (x≤y))=sorted (vs.map (·.1)):=mergeSort_of_perm_i hp;rw[e1]at hrow;exact hrow
end Go.Proofs.Lx
end
noncomputable section
set_option maxRecDepth 100000
namespace Go.Proofs.Lx
open Go Go.Proofs Go.RowKit Go.Maps Go.Sort Go.Shelf Ev Sx
attribute [local go_sem] Oper.semAt_some
theorem aak(mb:Option Nat)(W:World)(n:Nat):CallsIn Fence.wide n Tryz.prog 91 #[.map mb] W fun e w'=>e = .returned (.func (.func 122) #[] #[.pointer (some ⟨W.heap.size,0,none⟩)])∧w'=W.alloc (.cells #[.map mb] 74) :=
 AnyZI.keys_in Tryz.keysA Fence.wide n trivial rfl mb W
set_option maxHeartbeats 2000000 in
theorem SI(n l Bm g:Nat)(h1:1≤n)(W:World){vs:List (Int×Value)}(h:MapIs (bM (.int .i64)) (fun v:Value=>v) W g vs)(hw:∀e∈vs,inR e.1)(hl:vs.length≤1000)(hm:W.cell? ⟨Bm,0,none⟩=some (.map (some g)))
  (J Jx:World->List Int->World->Prop) (h0:∀Z,Below W.heap.size W Z->J Z [] Z)
  (hk:∀Z pre W',J Z pre W'->∀k,W.heap.size≤k->k<Z.heap.size->W'.heap[k]? = Z.heap[k]?)
  (hY:∀Z pre x W',J Z pre W'->YieldAt Fence.wide (n - 1) Tryz.prog l #[.int .i64 x] W' fun e W''=>(e = .returned (.bool true)∧J Z (pre++[x]) W'')∨(e = .returned (.bool false)∧Jx Z (pre++[x]) W'')) :
  CallsIn Fence.wide n Tryz.prog 89 #[.func (.yield l) #[] #[],.pointer (some ⟨Bm,0,none⟩)] W fun e W'=>(∃v,e = .returned v)∧∃Z,J Z (sorted (vs.map (·.1))) W'∨∃k,k≤vs.length∧Jx Z ((sorted (vs.map (·.1))).take k) W':=by
 have hlen:(sorted (vs.map (·.1))).length=vs.length:=by unfold sorted;rw[List.length_mergeSort,zV]
 have hgl:=h.lt;have cK:=aak (some g) W (n - 1);have hm1:MapIs (bM (.int .i64)) (fun v:Value=>v) (W.alloc (.cells #[.map (some g)] 74)) g vs:=by obtain⟨es,cl,a,b,c⟩:=h;exact⟨es,cl,(Below.heap_alloc _ _ g hgl).trans a,b,c⟩
 have cS:=sorted_in (Bm:=W.heap.size) hm1 hw hl (by simp) (by simp) (n - 1);generalize sorted (vs.map (·.1))=zs at hlen cS;have hb0:Below W.heap.size W (W.alloc (.cells #[.map (some g)] 74)):=(Below.refl _ W).alloc (Nat.le_refl _) _;have hfK:Fence.wide.fn 91:=trivial;have hfS:Fence.wide.fn 90:=trivial;refine callsIn_of_wp Tryz.func89 rfl trivial ?_ rfl;simp only[Tryz.ntmps89,List.size_toArray,List.length_cons,List.length_nil,Nat.reduceAdd,Nat.reduceSub,Array.replicate_succ,Array.replicate_zero,List.push_toArray,List.append_toArray,List.nil_append,List.cons_append]
 gi_wp2_with (first
  | (gi_at_call 91;refine cK.mono ?_;rintro e w' ⟨rfl,rfl⟩)
  | (gi_at_call 90;refine cS.mono ?_;rintro e Z ⟨v,rfl,hrow,hb⟩))
 have hbZ:Below W.heap.size W Z:=hb0.trans (hb.mono (by simp));have hJ0:=h0 Z hbZ;rcases hrow.2 with ⟨rfl,hz⟩ | ⟨gb,cap,cur,rfl,hbase,hgb,r1,r2,r3,r4⟩
 ·have hzs:zs=[]:=List.eq_nil_of_length_eq_zero (by omega)
  subst hzs;simp[go_sem]
  gi_wp2
  gi_loopw [9] (fun i wr=>i = .int .i64 0∧J Z [] wr) (fun _ _=>0)
  case atStart=>exact⟨rfl,hJ0⟩
  case round =>
   obtain⟨rfl,hJs⟩:=hrel
   gi_wp2
   go_end0
   exact⟨⟨_,rfl⟩,Z,.inl hJs⟩
 ·have hgZ:gb<Z.heap.size:=(Array.getElem?_eq_some_iff.1 hgb).1
  simp[go_sem]
  gi_wp2
  gi_loopw [9] (fun i wr=>∃k:Nat,k≤vs.length∧i = .int .i64 k∧J Z (zs.take k) wr) (fun i _=>vs.length - (Go.RowKit.intOf i).toNat)
  case atStart=>exact⟨0,Nat.zero_le _,rfl,by simpa using hJ0⟩
  case round =>
   obtain⟨k,hkl,rfl,hJs⟩:=hrel;have hgw:wr.heap[gb]? = some (.cells cur 3 (0,0)):=(hk Z _ wr hJs gb (by have:=hbase;simp at this;omega) hgZ).trans hgb;by_cases hlt:k<vs.length
   ·obtain⟨x,hx⟩:∃x,zs[k]? = some x:=⟨_,List.getElem?_eq_getElem (by omega)⟩
    have hcx:wr.cell? ⟨gb,k,none⟩=some (.int .i64 x):=by
     have e1:cur[k]? = some (.int .i64 x):=by
      have e2:(cur.toList.take (vs.length*1))[k]? = some (.int .i64 x):=by rw[r4,List.getElem?_map,hx];rfl
      rw[List.getElem?_take_of_lt (by omega)]at e2;simpa using e2
     simp[World.cell?,hgw,e1]
    have htk:zs.take (k+1)=zs.take k++[x]:=by rw[List.take_add_one,hx];rfl
    obtain⟨fn,tmps,assign,body,hy,hR⟩:=hY Z _ x wr hJs
    gi_wp2
    refine hR.mono ?_;rintro e W3 (⟨rfl,hJ3⟩ | ⟨rfl,hJx3⟩)
    ·gi_wp2
     go_roundw
     case rel=>exact⟨k+1,by omega,by simp,by rw[htk];exact hJ3⟩
     case measure=>simp[Go.RowKit.intOf];omega
    ·gi_wp2
     refine bodyPost_ret (results_none rfl _ _ _) rfl ?_;exact⟨⟨_,rfl⟩,Z,.inr ⟨k+1,by omega,by rw[htk];exact hJx3⟩⟩
   ·obtain rfl:k=vs.length:=by omega
    gi_wp2
    go_end0
    exact⟨⟨_,rfl⟩,Z,.inl (by rw[<- hlen,List.take_length]at hJs;exact hJs)⟩
end Go.Proofs.Lx
end
noncomputable section
set_option maxRecDepth 100000
namespace Go.Proofs.Lx
open Go Go.RowKit Ev Sx
structure Sto(B0:Nat->Prop) (p0:List Ev.Place) (F:Lx) (pl:List Ev.Place) (own:List (Nat×Ent)) (w:World):Prop where
 pair:(lx pl own).Pairwise (fun x y=>∀k,x=some k->y≠some k)
 lo:∀k,some k∈lx pl own->B0 k
 hi:∀k,some k∈lx pl own->k<w.heap.size
 far:∀k,some k∈F->some k ∉ lx pl own∧k<w.heap.size
 pre:∀(i:Nat) (p:Ev.Place),p0[i]? = some p->pl[i]? = some p
 ent:EntsD pl (lx pl own++F) w own
section
variable {B0:Nat->Prop}{p0:List Ev.Place}{F F':Lx}{pl:List Ev.Place}{own:List (Nat×Ent)}{w w':World}
theorem o8{e:Nat×Ent}(he:e∈own):plb pl e.1∈lx pl own:=List.mem_map_of_mem (f:=fun e:Nat×Ent=>plb pl e.1) he
theorem Sto.grow(h:Sto B0 p0 F pl own w)(hf:Fz [] w w')(hF:∀k,some k∈F'->(some k∈F∨w.heap.size≤k)∧k<w'.heap.size):Sto B0 p0 F' pl own w':=by
 have hs:Sub w (lx pl own++F') (lx pl own++F):=fun k hk=>by
  rcases List.mem_append.1 hk with hk | hk
  ·exact .inl (List.mem_append_left _ hk)
  ·rcases (hF k hk).1 with h1 | h1
   ·exact .inl (List.mem_append_right _ h1)
   ·exact .inr h1
 refine⟨h.pair,h.lo,fun k hk=>Nat.lt_of_lt_of_le (h.hi k hk) hf.size,fun k hk=>⟨?_,(hF k hk).2⟩,h.pre,fun e he=>?_⟩
 ·rcases (hF k hk).1 with h1 | h1
  ·exact (h.far k h1).1
  ·exact fun hm=>by have:=h.hi k hm;omega
 ·refine (h.ent e he).ext ⟨fun _ _ h=>h,fun R _ _ hr=>R.mono (R.grow hr hs) hf.nil,fun R _ _ _ hr=>(hr.grow hs).mono hf.nil⟩ (fun k hk=>?_) (fun R _ xs p hp ho=>⟨ho.1,ho.2.step (M:=[]) hf ED hs aaH⟩)
  have hm:=o8 (pl:=pl) he;rw[hk]at hm;exact hf.block k (h.hi k hm) H9
theorem Sto.turn(h:Sto B0 p0 F pl own w)(hf:Fz F w w'):Sto B0 p0 F pl own w':=by
 have hM:∀k,some k∈F->some k∈lx pl own++F:=fun k hk=>List.mem_append_right _ hk;refine⟨h.pair,h.lo,fun k hk=>Nat.lt_of_lt_of_le (h.hi k hk) hf.size,fun k hk=>⟨(h.far k hk).1,Nat.lt_of_lt_of_le (h.far k hk).2 hf.size⟩,h.pre,fun e he=>?_⟩;have hm:=o8 (pl:=pl) he;refine (h.ent e he).ext ⟨fun _ _ h=>h,fun R _ _ hr=>R.mono hr (hf.sub hM),fun R _ _ _ hr=>hr.mono (hf.sub hM)⟩ (fun k hk=>?_) (fun R _ xs p hp ho=>⟨ho.1,ho.2.step (M:=F) hf hM (Sub.refl _ _) fun k hk hF=>?_⟩)
 ·rw[hk]at hm
  exact hf.block k (h.hi k hm) (fun hF=>(h.far k hF).1 hm)
 ·have:plb pl e.1=some k:=by unfold plb;rw[hp];exact hk
  rw[this]at hm;exact (h.far k hF).1 hm
theorem Sto.less(h:Sto B0 p0 F pl own w)(hF:∀k,some k∈F'->some k∈F):Sto B0 p0 F' pl own w :=
 h.grow (Fz.refl _ _) fun k hk=>⟨.inl (hF k hk),(h.far k (hF k hk)).2⟩
theorem Sto.sub(h:Sto B0 p0 F pl own w){own':List (Nat×Ent)}{p1:List Ev.Place}(hs:List.Sublist own' own)(hp:∀(i:Nat) (p:Ev.Place),p1[i]? = some p->pl[i]? = some p):Sto B0 p1 F pl own' w:=by
 have hm:∀k,some k∈lx pl own'->some k∈lx pl own:=fun k hk=>(yS hs).subset hk;refine⟨h.pair.sublist (yS hs),fun k hk=>h.lo k (hm k hk),fun k hk=>h.hi k (hm k hk),fun k hk=>⟨fun hx=>(h.far k hk).1 (hm k hx),(h.far k hk).2⟩,hp,fun e he=>?_⟩;refine (EntsD.sub (fun k hk=>?_) h.ent) e (hs.subset he);rcases List.mem_append.1 hk with hk | hk
 ·exact List.mem_append_left _ (hm k hk)
 ·exact List.mem_append_right _ hk
theorem Sto.rel{S:St}{l:List Value}(h:Sto B0 p0 F pl S.own w)(hup:S.up=[])(hnx:S.nx=pl.length)(hln:S.ln=p0.length)(hnt:l.length=S.nt)(hfr:FrD pl (lx pl S.own++F) w S.fr l) :
  Rel (Bo pl S.own w) F ⟨w,p0,fun _=>True⟩ (here F pl S w) pl S l [] w :=
 {hL:=⟨h.pair,fun k hk=>.inl hk,h.hi,fun k hk=>.inr hk,fun k hk=>⟨fun hb=>by
   rcases hb with hb | hb
   ·exact (h.far k hk).1 hb
   ·have:=(h.far k hk).2;omega,(h.far k hk).2⟩⟩
  hB:=Blw.refl _ _,pre:=h.pre,hI:=fun _ _=>trivial,hln:=hln,nx:=hnx,nt:=hnt,ent:=h.ent,fr:=hfr,up:=by rw[hup];rfl
  tn:=⟨Fz.refl _ _,Sub.refl _ _,Nat.le_refl _,fun _ _ h=>h,fun e he _=>List.mem_map_of_mem (f:=fun e:Nat×Ent=>e.1) he,fun _ _ _ _ _ _=>rfl⟩ }
theorem uE{S S1:St}{wr:Wr}{pl':List Ev.Place}{l':List Value}(hb:∀k,Bo pl S.own w k->B0 k)(h:Rel (Bo pl S.own w) F ⟨w,p0,fun _=>True⟩ wr pl' S1 l' [] w') :
  Sto B0 p0 F pl' S1.own w'∧Blw (Bo pl S.own w) w w' :=
 ⟨⟨h.hL.pair,fun k hk=>hb k (h.hL.lo k hk),h.hL.hi,fun k hk=>⟨fun hx=>(h.hL.far k hk).1 (h.hL.lo k hx),(h.hL.far k hk).2⟩,h.pre,h.ent⟩,h.hB⟩
theorem Hw{e:Ex}:∀c,E4 e ≠ .panic c:=by cases e<;>intro c h<;>cases h
theorem qc{env:Env}{hs:Nat->Option Hint}{hint:Hint}(henv:iK Tryz.prog (fun _=>True) env){c:Code}{S S1:St}{e0:Ex}{l:List Value}
  (hb:∀k,Bo pl S.own w k->B0 k) (h:Sto B0 p0 F pl S.own w) (hup:S.up=[]) (hnx:S.nx=pl.length) (hln:S.ln=p0.length) (hnt:l.length=S.nt) (hfr:FrD pl (lx pl S.own++F) w S.fr l)
  (hev:evN env hs hint c S=some (e0,S1)) :
  CW Tryz.prog c (fun e a w'=>∃pl' l',e=E4 e0∧a=mk l'∧l'.length=S1.nt∧pl'.length=S1.nx∧Sto B0 p0 F pl' S1.own w'∧FrD pl' (lx pl' S1.own++F) w' S1.fr l'∧Blw (Bo pl S.own w) w w') l w:=by
 refine lW (R:=Ex×St) henv (GQ henv (fun _ _ h=>by cases h) 2) (Hn:=False) (fun h=>h.elim) c 1 _ pl S l w _ _ ?_ (h.rel hup hnx hln hnt hfr) hev (fun e wr' pl' S' l' w' h' _ hv=>?_)
 ·rintro c a a' w ⟨pl',l',he,_⟩
  exact absurd he.symm (Hw c)
 ·obtain⟨S2,h1,h2⟩:=bK hv
  cases h2
  obtain⟨wr2,pl2,h3⟩:=vH h' h1;obtain⟨a,b⟩:=uE hb h3;exact⟨pl2,l',rfl,rfl,h3.nt,h3.nx.symm,a,h3.fr,b⟩
end
end Go.Proofs.Lx
end
noncomputable section
set_option maxRecDepth 100000
namespace Go.Proofs.Lx
open Go Go.Proofs Go.RowKit Ev Sx
theorem kI{pl:List Ev.Place}{L:Lx}{w:World}{l:List Value}:FrD pl L w [] l:=fun t s h=>by cases h
theorem iJ{pl:List Ev.Place}{L:Lx}{w:World}{l:List Value}{t:Nat}{s:SV}{fr:Fr}(h:Den pl L w s (l.getD t undef))(hf:FrD pl L w fr l):FrD pl L w ((t,s)::fr) l:=fun t' s' hg=>by
 unfold Ev.get at hg;split at hg
 ·rename_i e;cases hg;subst e;exact h
 ·exact hf t' s' hg
structure Slots(p0:List Ev.Place) (l:List Value):Prop where
 len:l.length=74
 p:p0.length=6
 s1:Den p0 [] default (.pb 1 0) (l.getD 1 undef)
 s2:Den p0 [] default (.pb 2 0) (l.getD 2 undef)
 s3:Den p0 [] default (.pb 3 0) (l.getD 3 undef)
 s11:Den p0 [] default (.fn (.func 89) [] [.pb 4 0]) (l.getD 11 undef)
 s4:Den p0 [] default (.pb 5 0) (l.getD 4 undef)
theorem CZ{p0 pl:List Ev.Place}{L L':Lx}{w w':World}{i o:Nat}{u:Value}(hp:∀(i:Nat) (p:Ev.Place),p0[i]? = some p->pl[i]? = some p)(h:Den p0 L w (.pb i o) u):Den pl L' w' (.pb i o) u:=by obtain⟨g,n,c,h1,h2⟩:=h;exact⟨g,n,c,hp _ _ h1,h2⟩
theorem ahW{p0 pl:List Ev.Place}{L L':Lx}{w w':World}{f:Fn}{i o:Nat}{u:Value}(hp:∀(i:Nat) (p:Ev.Place),p0[i]? = some p->pl[i]? = some p)(h:Den p0 L w (.fn f [] [.pb i o]) u):Den pl L' w' (.fn f [] [.pb i o]) u:=by obtain⟨us,vs,h1,⟨v,q,h2,h3,h4⟩,h5⟩:=h;exact⟨us,vs,h1,⟨v,q,h2,CZ hp h3,h4⟩,h5⟩
theorem Slots.fr{p0 pl:List Ev.Place}{l l':List Value}{L:Lx}{w:World}(h:Slots p0 l)(hp:∀(i:Nat) (p:Ev.Place),p0[i]? = some p->pl[i]? = some p)(hl:∀t ∈ [1,2,3,11,4],l'.getD t undef=l.getD t undef):FrD pl L w eZ l':=by
 refine iJ ?_ (iJ ?_ (iJ ?_ (iJ ?_ (iJ ?_ kI))))
 ·rw[hl 1 (by simp)];exact CZ hp h.s1
 ·rw[hl 2 (by simp)];exact CZ hp h.s2
 ·rw[hl 3 (by simp)];exact CZ hp h.s3
 ·rw[hl 11 (by simp)];exact ahW hp h.s11
 ·rw[hl 4 (by simp)];exact CZ hp h.s4
theorem gH:iK Tryz.prog (fun _=>True) qb:=av UZ bN
noncomputable def bY (fn:FuncId) (l:List Value) (D:Nat) (st:LoopState) (pend:Option Code):Loop :=
 {state:=st,pending:=pend,fn:=fn,tmps:=l.toArray,params:=#[12],assign:=bkA,body:=bkB,defers:=D }
theorem iW(w:World)(l:Nat)(o:Obj):Fz [some l] w (w.putObj l o) :=
 ⟨rfl,rfl,rfl,by simp,fun k _ hn=>World.putObj_heap_other (fun e=>hn (by simp[e]))⟩
theorem gX{B:Nat->Prop}{M:Lx}{w w':World}(h:Fz M w w')(hM:∀k,some k∈M->B k):Blw B w w':=⟨h.os,h.tape,h.output,h.size,fun k hk hn=>h.block k hk (fun hm=>hn (hM k hm))⟩
theorem jd{B B':Nat->Prop}{w w':World}(h:Blw B w w')(hb:∀k,B k->B' k):Blw B' w w':=⟨h.os,h.tape,h.output,h.size,fun k hk hn=>h.block k hk (fun hm=>hn (hb k hm))⟩
theorem aal:∃id ty pos af g,bkA = .region id #[⟨some 5,.assign (.tmp 12),ty,pos,af,g⟩] false∧g=none:=⟨_,_,_,_,_,rfl,rfl⟩
theorem round{B0:Nat->Prop}{p0:List Ev.Place}{F:Lx}{pl:List Ev.Place}{m:List (Int×Int)}{b:Bool}{xs:List Bk}{a:Int}{ws:List Int}{W:World}{l:List Value}{fn:FuncId}{D lb:Nat}{x:Int}
  (hst:Sto B0 p0 F pl (eu m bH false b xs a ws) W) (hpl:pl.length=8) (hs:Slots p0 l) (hI:BkI b xs a ws) (hr:W.heap[lb]? = some (.loop (bY fn l D .ready none))) (hlb:some lb∈F) (hlB:B0 lb) (hB:∀k,W.heap.size≤k->B0 k) :
  YieldAt Fence.wide 0 Tryz.prog lb #[.int .i64 x] W fun e W'=>∃pl' b' xs' a' ws',Sto B0 p0 F pl' (eu m bH false b' xs' a' ws') W'∧pl'.length=8∧BkI b' xs' a' ws'∧Blw B0 W W'∧(∀k,some k∈F->k≠lb->W'.heap[k]? = W.heap[k]?) ∧
   ((e = .returned (.bool true)∧dV m (bkX b xs a ws) x=some (bkX b' xs' a' ws')∧W'.heap[lb]? = some (.loop (bY fn l D .ready none))) ∨
    (e = .returned (.bool false)∧dV m (bkX b xs a ws) x=none∧W'.heap[lb]? = some (.loop (bY fn l D .done (some .ret))))):=by
 have hlt:lb<W.heap.size:=(Array.getElem?_eq_some_iff.1 hr).1;have hy:=run_yield (P:=Tryz.prog) (args:=#[.int .i64 x]) hr rfl;refine⟨fn,_,bkA,bkB,hy,roundIn_of_wpIn trivial ?_⟩;have he:((bY fn l D .ready none).params.zip #[Value.int .i64 x]).foldl (fun tmps (t,a)=>tmps.setIfInBounds t a) (bY fn l D .ready none).tmps=(l.set 12 (.int .i64 x)).toArray:=by simp[bY]
 rw[he];obtain⟨l1,hl1⟩:∃l1,l1=(l.set 12 (.int .i64 x)).set 5 (.int .i64 x):=⟨_,rfl⟩;have hl1n:l1.length=74:=by rw[hl1,List.length_set,List.length_set,hs.len]
 have hl15:l1.getD 5 undef = .int .i64 x:=by rw[hl1,zS,List.getElem?_set_self (by rw[List.length_set,hs.len];decide)];rfl
 have hl1o:∀t ∈ [1,2,3,11,4],l1.getD t undef=l.getD t undef:=fun t ht=>by
  have h5:5≠t:=fun e=>by subst e;simp at ht
  have h12:12≠t:=fun e=>by subst e;simp at ht
  rw[hl1,zS,List.getElem?_set_ne h5,List.getElem?_set_ne h12,<- zS]
 have hasg:CW Tryz.prog bkA (Exit.then (fun a₁ w₁=>a₁=mk l1∧w₁=W) (fun _ _ _=>False)) (l.set 12 (.int .i64 x)) W:=by
  obtain⟨id,ty,pos,af,g,h1,rfl⟩:=aal;rw[h1];refine oK (ops:=[_]) (jH (v:=.int .i64 x) rfl (run_assign ?_) (yL ⟨?_,rfl⟩))
  ·show (l.set 12 (.int .i64 x)).getD 12 undef=_
   rw[zS,List.getElem?_set_self (by rw[hs.len];decide)];rfl
  ·rw[hl1]
   rfl
 refine Code.wpIn_mono ?_ (hasg (some lb));rintro e a₁ w₁ hq
 cases e with
 | normal =>
  obtain⟨rfl,rfl⟩:=hq;refine⟨_,run_beginRound hr rfl,?_⟩;obtain⟨W2,hW2⟩:∃W2,w₁.putObj lb (.loop { bY fn l D .ready none with state:=.busy })=W2:=⟨_,rfl⟩;rw[hW2];have hf2:Fz [some lb] w₁ W2:=by rw[<- hW2];exact iW _ _ _
  have hr2:W2.heap[lb]? = some (.loop { bY fn l D .ready none with state:=.busy }):=by rw[<- hW2];exact World.putObj_heap_same hlt
  have hst2:Sto B0 p0 F pl (eu m bH false b xs a ws) W2:=hst.turn (hf2.sub fun k hk=>by simp at hk;subst hk;exact hlb)
  have hbo:∀k,Bo pl (eu m bH false b xs a ws) W2 k->B0 k:=fun k hk=>by
   rcases hk with hk | hk
   ·exact hst2.lo k hk
   ·exact hB k (Nat.le_trans hf2.size hk)
  have hfr:FrD pl (lx pl (eu m bH false b xs a ws)++F) W2 ((5,.d kT x)::eZ) l1:=iJ (by rw[hl15];exact⟨[.int .i64 x],rfl,rfl⟩) (hs.fr hst.pre hl1o);have hspec:=ahS (m:=m) hI x
  have fin:∀(e0:Ex) (b':Bool) (xs':List Bk) (a':Int) (ws':List Int) (pl':List Ev.Place) (W3:World) (jump:Option Code),pl'.length=8->Sto B0 p0 F pl' (eu m bH false b' xs' a' ws') W3->Blw (Bo pl (eu m bH false b xs a ws) W2) W2 W3 ->
    ∃W4,(Instr.endRound lb jump).run Tryz.prog W3 = .ok (.bool jump.isNone) W4∧Sto B0 p0 F pl' (eu m bH false b' xs' a' ws') W4∧Blw B0 w₁ W4∧(∀k,some k∈F->k≠lb->W4.heap[k]? = w₁.heap[k]?)∧W4.heap[lb]? = some (.loop { bY fn l D .ready none with state:=if jump.isNone then .ready else .done,pending:=jump }):=by
   intro e0 b' xs' a' ws' pl' W3 jump hp' hst3 hb3
   have keep:∀k,some k∈F->W3.heap[k]? = W2.heap[k]?:=fun k hk=>hb3.block k (hst2.far k hk).2 (fun hx=>by
    rcases hx with hx | hx
    ·exact (hst2.far k hk).1 hx
    ·have:=(hst2.far k hk).2;omega)
   have hr3:=(keep lb hlb).trans hr2;have hlt3:=(Array.getElem?_eq_some_iff.1 hr3).1;have hf4:=iW W3 lb (.loop { bY fn l D .ready none with state:=if jump.isNone then .ready else .done,pending:=jump });refine⟨_,run_endRound jump hr3,hst3.turn (hf4.sub fun k hk=>by simp at hk;subst hk;exact hlb),?_,fun k hk hne=>?_,World.putObj_heap_same hlt3⟩
   ·exact ((gX hf2 (fun k hk=>by simp at hk;subst hk;exact hlB)).trans (jd hb3 hbo)).trans (gX hf4 (fun k hk=>by simp at hk;subst hk;exact hlB))
   ·have hklt:=(hst2.far k hk).2
    rw[hf4.block k (Nat.lt_of_lt_of_le hklt hb3.size) (by simp[hne]),keep k hk];exact hf2.block k (hst.far k hk).2 (by simp[hne])
  rcases hspec with ⟨h1,h2⟩ | ⟨xs',a',ws',h1,h2,h3⟩
  ·have hp:=qc (S:=nI ((5,.d kT x)::eZ) 6 m bH false b xs a ws) (hint:=hR) (hs:=gG) (l:=l1) gH hbo hst2 rfl (show 8=pl.length by rw[hpl]) (show 6=p0.length by rw[hs.p]) hl1n hfr ((agF m b xs a ws x).trans h2)
   refine Code.wpIn_mono ?_ (hp (some lb));rintro e a3 W3 ⟨pl',l',rfl,rfl,_,hp',hst3,_,hb3⟩;obtain⟨W4,q1,q2,q3,q4,q5⟩:=fin .r b xs a ws pl' W3 (some .ret) hp' hst3 hb3;exact⟨_,W4,q1,pl',b,xs,a,ws,q2,hp',hI,q3,q4,.inr ⟨rfl,h1,q5⟩⟩
  ·have hp:=qc (S:=nI ((5,.d kT x)::eZ) 6 m bH false b xs a ws) (hint:=hR) (hs:=gG) (l:=l1) gH hbo hst2 rfl (show 8=pl.length by rw[hpl]) (show 6=p0.length by rw[hs.p]) hl1n hfr ((agF m b xs a ws x).trans h2)
   refine Code.wpIn_mono ?_ (hp (some lb));rintro e a3 W3 ⟨pl',l',rfl,rfl,_,hp',hst3,_,hb3⟩;obtain⟨W4,q1,q2,q3,q4,q5⟩:=fin .n true xs' a' ws' pl' W3 none hp' hst3 hb3;exact⟨_,W4,q1,pl',true,xs',a',ws',q2,hp',h3,q3,q4,.inl ⟨rfl,h1,q5⟩⟩
 | exit id=>exact hq
 | goto t=>exact hq
 | ret=>exact hq
 | panic c=>exact hq
 | outgrown=>exact hq
end Go.Proofs.Lx
end
noncomputable section
set_option maxRecDepth 100000
namespace Go.Proofs.Lx
open Go Go.Proofs Go.RowKit Ev Sx
theorem aam:∃id o1 o2 o3,bkT = .seq (.region id #[o1,o2,o3] false) .ret∧o1={ o1 with dst:=some 73,op:=.load 50 (.tmp 4),guard:=none }∧o2={ o2 with dst:=none,op:=.store 50 (.tmp 2) (.tmp 73),guard:=none }∧o3={ o3 with dst:=none,op:=.store 4 (.tmp 3) (.const (.bool true)),guard:=none }:=⟨_,_,_,_,rfl,rfl,rfl,rfl⟩
section
variable {P:Program}{l:List Value}{w:World}{d:Option Tmp}{ty:TypeId}{pos:String}{af:Array Edge}{gd:Option (Nat×Bool)}
theorem kG{t:TypeId}{x y:Operand}{g j n:Nat}{cs vs:List Value}{T:TypeId}{v:Value}(hs:eG P t=some n)
  (hx:ev l x = .pointer (some ⟨g,j,none⟩)) (hy:ev l y=v) (hv:v.cells.toList=vs) (hl:vs.length=n) (h1:∀u∈vs,u.oneCell'=true)
  (hb:Bx w g cs T) (hj:j+n≤cs.length) :
  ∃w',(execOp (ev l) ⟨d,.store t x y,ty,pos,af,gd⟩).run P w = .ok .skip w'∧w'.heap.size=w.heap.size∧Fz [some g] w w'∧Bx w' g (cs.take j++vs++cs.drop (j+n)) T:=by
 have hst:=run_storeCells_at P g j T vs 0 cs.toArray w hb (by simpa [hl]using hj) h1;simp only[Nat.add_zero,hl]at hst;have hsz:v.cells.size=n:=by rw[<- hl,<- hv,Array.length_toList]
 refine⟨w.setRow g (cs.take j++vs++cs.drop (j+n)).toArray,?_,?_,?_,?_⟩
 ·simp only[execOp,hx,hy,Instr.storeAt,Instr.sureAddr,storeVar,Sem.run_bind,Sem.run_pure,Go.Result.andThen_ok,Sx.run_sizeOf hs,hsz,ne_eq,not_true_eq_false,if_false,hv,hst]
 ·simp[World.setRow]
 ·exact⟨rfl,rfl,rfl,by simp[World.setRow],fun k hk hn=>setRow_other w g k _ (fun e=>hn (by simp[e]))⟩
 ·exact setRow_heap w g cs.toArray _ T (0,0) hb
theorem SK(l:List Value)(ds:List Deferred):(⟨l.toArray,ds⟩:Act).eval=ev l:=by rw[<- jk];rfl
theorem SL{n:Nat}{ops:Array Oper}{rest:List Oper}{o:Oper}{Q:Exit->Act->World->Prop}{ds:List Deferred}{v:Value}{w':World}{dd:Nat}(hg:o.guard=none)(hd:o.dst=some dd)(hr:(execOp (ev l) o).run P w = .ok (.value v) w')
  (h:wpListIn Fence.wide n P ops Q rest ⟨(l.set dd v).toArray,ds⟩ w'):wpListIn Fence.wide n P ops Q (o::rest) ⟨l.toArray,ds⟩ w:=by
 unfold wpListIn;rw[if_pos (by simp[Region.wanted,hg])];refine⟨fun _ _=>trivial,?_⟩;rw[SK,show Fence.wide.round=none from rfl,Oper.semAt_none,hr,Oper.uponIn_value,hd];have e:(⟨l.toArray,ds⟩:Act).put (some dd) v=⟨(l.set dd v).toArray,ds⟩:=by simp[Act.put,List.setIfInBounds_toArray]
 rw[e];exact h
theorem Bb{n:Nat}{ops:Array Oper}{rest:List Oper}{o:Oper}{Q:Exit->Act->World->Prop}{ds:List Deferred}{w':World}(hg:o.guard=none)(hd:o.dst=none)(hr:(execOp (ev l) o).run P w = .ok .skip w')
  (h:wpListIn Fence.wide n P ops Q rest ⟨l.toArray,ds⟩ w'):wpListIn Fence.wide n P ops Q (o::rest) ⟨l.toArray,ds⟩ w:=by
 unfold wpListIn;rw[if_pos (by simp[Region.wanted,hg])];refine⟨fun _ _=>trivial,?_⟩;rw[SK,show Fence.wide.round=none from rfl,Oper.semAt_none,hr,Oper.uponIn_skip,hd];exact h
end
section
variable {B0:Nat->Prop}{p0:List Ev.Place}{F:Lx}{pl:List Ev.Place}{own:List (Nat×Ent)}{w w':World}
theorem Sto.put(h:Sto B0 p0 F pl own w)(hB:∀k,w.heap.size≤k->B0 k)(hp:p0.length≤pl.length){i:Nat}{e e':Ent}(hg:Ev.get own i=some e)(hf:Fz [plb pl i] w w')(he:EntD pl (lx pl own++F) w' i e'):Sto B0 p0 F pl (dP i e' own) w':=by
 have hr:=h.rel (S:={ fr:=[],nt:=0,up:=[],own:=own,nx:=pl.length,log:=[],ln:=p0.length }) (l:=[]) rfl rfl rfl rfl kI;have hm:plb pl i∈lx pl own:=o8 (Ev.get_mem hg);have hr2:=hr.mod (e':=e') hg ⟨hf,fun k hk=>by simp at hk;rw[hk];exact hm,Sub.refl _ _,hr.hL.step hf.size⟩ he
 exact (uE (fun k hk=>by
  rcases hk with hk | hk
  ·exact h.lo k hk
  ·exact hB k hk) hr2).1
end
theorem ahX{B0:Nat->Prop}{p0:List Ev.Place}{F:Lx}{pl:List Ev.Place}{m:List (Int×Int)}{b:Bool}{xs:List Bk}{a:Int}{ws:List Int}{W:World}{l:List Value}{ds:List Deferred}{Q:Exit->Act->World->Prop}
  (hst:Sto B0 p0 F pl (eu m bH false b xs a ws) W) (hpl:pl.length=8) (hs:Slots p0 l) (hB:∀k,W.heap.size≤k->B0 k)
  (hQ:∀W' l',Sto B0 p0 F pl (eu m (.row 6) true b xs a ws) W'->Slots p0 l'->Blw B0 W W'->(∀k,some k∈F->W'.heap[k]? = W.heap[k]?)->Q .ret ⟨l'.toArray,ds⟩ W') :
  bkT.wpIn Fence.wide 2 Tryz.prog Q ⟨l.toArray,ds⟩ W:=by
 obtain⟨id,o1,o2,o3,h0,h1,h2,h3⟩:=aam;rw[h0];obtain⟨g5,n5,c5,us5,q1,q2,⟨v5,r5,rfl,⟨p6,q4,rfl⟩,rfl⟩,q6⟩:=hst.ent (5,.box 50 [.row 6]) (by simp[eu]);obtain⟨g2,n2,c2,us2,t1,t2,⟨v2,r2,rfl,t3,rfl⟩,t4⟩:=hst.ent (2,.box 50 [bH]) (by simp[eu]);obtain⟨g3,n3,c3,us3,u1,u2,⟨v3,r3,rfl,u3,rfl⟩,u4⟩:=hst.ent (3,.box 4 [.d .bool false]) (by simp[eu]);have pinj:∀{i:Nat} {g n c g' n' c'},p0[i]? = some ⟨some ⟨g,0,none⟩,n,c⟩->pl[i]? = some ⟨some ⟨g',0,none⟩,n',c'⟩->g=g':=fun h h'=>by have:=hst.pre _ _ h;rw[this]at h';cases h';rfl
 obtain⟨g,n,c,e1,e2⟩:=hs.s4;obtain rfl:=pinj e1 q1;obtain⟨g',n',c',e3,e4⟩:=hs.s2;obtain rfl:=pinj e3 t1;obtain⟨g'',n'',c'',e5,e6⟩:=hs.s3;obtain rfl:=pinj e5 u1;refine wpIn_seq (wpIn_region_lit (l:=[o1,o2,o3]) ?_);rw[h1,h2,h3];have hv:(l.set 73 (.slice p6.a p6.n p6.c)).getD 73 undef = .slice p6.a p6.n p6.c:=by rw[zS,List.getElem?_set_self (by rw[hs.len];decide)];rfl
 have hoth:∀t,t≠73->(l.set 73 (.slice p6.a p6.n p6.c)).getD t undef=l.getD t undef:=fun t ht=>by rw[zS,List.getElem?_set_ne (fun e=>ht e.symm),<- zS]
 have hs':Slots p0 (l.set 73 (.slice p6.a p6.n p6.c)):=⟨by rw[List.length_set];exact hs.len,hs.p,by rw[hoth 1 (by decide)];exact hs.s1,by rw[hoth 2 (by decide)];exact hs.s2,by rw[hoth 3 (by decide)];exact hs.s3,by rw[hoth 11 (by decide)];exact hs.s11,by rw[hoth 4 (by decide)];exact hs.s4⟩;refine SL (dd:=73) rfl rfl (rH (cs:=[.slice p6.a p6.n p6.c]) (T:=50) (dd:=.slice 78) (by kernel_rfl) rfl e2 q2 rfl) ?_;obtain⟨W1,w1,w2,w3,w4⟩:=kG (P:=Tryz.prog) (l:=l.set 73 (.slice p6.a p6.n p6.c)) (w:=W) (d:=none) (ty:=o2.type) (pos:=o2.pos) (af:=o2.after) (gd:=none) (t:=50) (x:=.tmp 2) (y:=.tmp 73) (g:=g') (j:=0) (n:=1) (vs:=[.slice p6.a p6.n p6.c]) (by kernel_rfl) ((hoth 2 (by decide)).trans e4) hv rfl rfl (by simp[Value.oneCell']) t2 (by simp);refine Bb rfl rfl w1 ?_;have hst1:Sto B0 p0 F pl (eu m (.row 6) false b xs a ws) W1:=hst.put hB (by rw[hpl,hs.p];decide) (i:=2) (e:=.box 50 [bH]) (e':=.box 50 [.row 6]) rfl (by unfold plb;rw[t1];exact w3) ⟨g',n2,c2,[.slice p6.a p6.n p6.c],t1,by simpa using w4,⟨_,[],rfl,⟨p6,q4,rfl⟩,rfl⟩,by simp[Value.oneCell']⟩;have hg3:g''≠g':=fun e=>by subst e;have:=hst.pair;simp[eu,lx,plb,t1,u1,blk]at this
 have u2':Bx W1 g'' [v3] 4:=u2.step w3 (by simp[hg3]);obtain⟨W2,x1,x2,x3,x4⟩:=kG (P:=Tryz.prog) (l:=l.set 73 (.slice p6.a p6.n p6.c)) (w:=W1) (d:=none) (ty:=o3.type) (pos:=o3.pos) (af:=o3.after) (gd:=none) (t:=4) (x:=.tmp 3) (y:=.const (.bool true)) (g:=g'') (j:=0) (n:=1) (vs:=[.bool true]) (by kernel_rfl) ((hoth 3 (by decide)).trans e6) rfl rfl rfl (by simp[Value.oneCell']) u2' (by simp);refine Bb rfl rfl x1 ?_;have hst2:Sto B0 p0 F pl (eu m (.row 6) true b xs a ws) W2:=hst1.put (fun k hk=>hB k (by rw[w2]at hk;exact hk)) (by rw[hpl,hs.p];decide) (i:=3) (e:=.box 4 [.d .bool false]) (e':=.box 4 [.d .bool true]) rfl (by unfold plb;rw[u1];exact x3) ⟨g'',n3,c3,[.bool true],u1,by simpa using x4,⟨_,[],rfl,⟨[.bool true],rfl,rfl⟩,rfl⟩,by simp[Value.oneCell']⟩;have m2:some g'∈lx pl (eu m bH false b xs a ws):=by have:=o8 (pl:=pl) (own:=eu m bH false b xs a ws) (e:=(2,.box 50 [bH])) (by simp[eu]);unfold plb at this;rw[t1]at this;exact this
 have m3:some g''∈lx pl (eu m bH false b xs a ws):=by have:=o8 (pl:=pl) (own:=eu m bH false b xs a ws) (e:=(3,.box 4 [.d .bool false])) (by simp[eu]);unfold plb at this;rw[u1]at this;exact this
 refine wpListIn_nil (wpIn_ret (hQ W2 _ hst2 hs' ?_ fun k hk=>?_))
 ·exact (gX w3 (fun k hk=>by simp at hk;subst hk;exact hst.lo _ m2)).trans (gX x3 (fun k hk=>by simp at hk;subst hk;exact hst.lo _ m3))
 ·have hk2:=hst.far k hk
  rw[x3.block k (by rw[w2];exact hk2.2) (fun e=>by simp at e;subst e;exact hk2.1 m3),w3.block k hk2.2 (fun e=>by simp at e;subst e;exact hk2.1 m2)]
end Go.Proofs.Lx
end
noncomputable section
set_option maxRecDepth 100000
namespace Go.Proofs.Lx
open Go Go.Proofs Go.RowKit Ev Sx Pl
theorem ahY{B0:Nat->Prop}{p0:List Ev.Place}{F:Lx}{pl:List Ev.Place}{m:List (Int×Int)}{b:Bool}{xs:List Bk}{a:Int}{ws:List Int}{W:World}{l:List Value}{fn:FuncId}{D lb:Nat}{x:Int}
  (hst:Sto B0 p0 F pl (iB m bH false b xs a ws) W) (hpl:pl.length=8) (hs:Slots p0 l) (hI:BkI b xs a ws) (hr:W.heap[lb]? = some (.loop (bY fn l D .ready none))) (hlb:some lb∈F) (hlB:B0 lb) (hB:∀k,W.heap.size≤k->B0 k) :
  YieldAt Fence.wide 0 Tryz.prog lb #[.int .i64 x] W fun e W'=>∃pl' b' xs' a' ws',Sto B0 p0 F pl' (iB m bH false b' xs' a' ws') W'∧pl'.length=8∧BkI b' xs' a' ws'∧Blw B0 W W'∧(∀k,some k∈F->k≠lb->W'.heap[k]? = W.heap[k]?) ∧
   ((e = .returned (.bool true)∧dV m (bkX b xs a ws) x=some (bkX b' xs' a' ws')∧W'.heap[lb]? = some (.loop (bY fn l D .ready none))) ∨
    (e = .returned (.bool false)∧dV m (bkX b xs a ws) x=none∧W'.heap[lb]? = some (.loop (bY fn l D .done (some .ret))))):=by
 have hlt:lb<W.heap.size:=(Array.getElem?_eq_some_iff.1 hr).1;have hy:=run_yield (P:=Tryz.prog) (args:=#[.int .i64 x]) hr rfl;refine⟨fn,_,bkA,bkB,hy,roundIn_of_wpIn trivial ?_⟩;have he:((bY fn l D .ready none).params.zip #[Value.int .i64 x]).foldl (fun tmps (t,a)=>tmps.setIfInBounds t a) (bY fn l D .ready none).tmps=(l.set 12 (.int .i64 x)).toArray:=by simp[bY]
 rw[he];obtain⟨l1,hl1⟩:∃l1,l1=(l.set 12 (.int .i64 x)).set 5 (.int .i64 x):=⟨_,rfl⟩;have hl1n:l1.length=74:=by rw[hl1,List.length_set,List.length_set,hs.len]
 have hl15:l1.getD 5 undef = .int .i64 x:=by rw[hl1,zS,List.getElem?_set_self (by rw[List.length_set,hs.len];decide)];rfl
 have hl1o:∀t ∈ [1,2,3,11,4],l1.getD t undef=l.getD t undef:=fun t ht=>by
  have h5:5≠t:=fun e=>by subst e;simp at ht
  have h12:12≠t:=fun e=>by subst e;simp at ht
  rw[hl1,zS,List.getElem?_set_ne h5,List.getElem?_set_ne h12,<- zS]
 have hasg:CW Tryz.prog bkA (Exit.then (fun a₁ w₁=>a₁=mk l1∧w₁=W) (fun _ _ _=>False)) (l.set 12 (.int .i64 x)) W:=by
  obtain⟨id,ty,pos,af,g,h1,rfl⟩:=aal;rw[h1];refine oK (ops:=[_]) (jH (v:=.int .i64 x) rfl (run_assign ?_) (yL ⟨?_,rfl⟩))
  ·show (l.set 12 (.int .i64 x)).getD 12 undef=_
   rw[zS,List.getElem?_set_self (by rw[hs.len];decide)];rfl
  ·rw[hl1]
   rfl
 refine Code.wpIn_mono ?_ (hasg (some lb));rintro e a₁ w₁ hq
 cases e with
 | normal =>
  obtain⟨rfl,rfl⟩:=hq;refine⟨_,run_beginRound hr rfl,?_⟩;obtain⟨W2,hW2⟩:∃W2,w₁.putObj lb (.loop { bY fn l D .ready none with state:=.busy })=W2:=⟨_,rfl⟩;rw[hW2];have hf2:Fz [some lb] w₁ W2:=by rw[<- hW2];exact iW _ _ _
  have hr2:W2.heap[lb]? = some (.loop { bY fn l D .ready none with state:=.busy }):=by rw[<- hW2];exact World.putObj_heap_same hlt
  have hst2:Sto B0 p0 F pl (iB m bH false b xs a ws) W2:=hst.turn (hf2.sub fun k hk=>by simp at hk;subst hk;exact hlb)
  have hbo:∀k,Bo pl (iB m bH false b xs a ws) W2 k->B0 k:=fun k hk=>by
   rcases hk with hk | hk
   ·exact hst2.lo k hk
   ·exact hB k (Nat.le_trans hf2.size hk)
  have hfr:FrD pl (lx pl (iB m bH false b xs a ws)++F) W2 ((5,.d kT x)::eZ) l1:=iJ (by rw[hl15];exact⟨[.int .i64 x],rfl,rfl⟩) (hs.fr hst.pre hl1o);have hspec:=aaj (m:=m) hI x
  have fin:∀(e0:Ex) (b':Bool) (xs':List Bk) (a':Int) (ws':List Int) (pl':List Ev.Place) (W3:World) (jump:Option Code),pl'.length=8->Sto B0 p0 F pl' (iB m bH false b' xs' a' ws') W3->Blw (Bo pl (iB m bH false b xs a ws) W2) W2 W3 ->
    ∃W4,(Instr.endRound lb jump).run Tryz.prog W3 = .ok (.bool jump.isNone) W4∧Sto B0 p0 F pl' (iB m bH false b' xs' a' ws') W4∧Blw B0 w₁ W4∧(∀k,some k∈F->k≠lb->W4.heap[k]? = w₁.heap[k]?)∧W4.heap[lb]? = some (.loop { bY fn l D .ready none with state:=if jump.isNone then .ready else .done,pending:=jump }):=by
   intro e0 b' xs' a' ws' pl' W3 jump hp' hst3 hb3
   have keep:∀k,some k∈F->W3.heap[k]? = W2.heap[k]?:=fun k hk=>hb3.block k (hst2.far k hk).2 (fun hx=>by
    rcases hx with hx | hx
    ·exact (hst2.far k hk).1 hx
    ·have:=(hst2.far k hk).2;omega)
   have hr3:=(keep lb hlb).trans hr2;have hlt3:=(Array.getElem?_eq_some_iff.1 hr3).1;have hf4:=iW W3 lb (.loop { bY fn l D .ready none with state:=if jump.isNone then .ready else .done,pending:=jump });refine⟨_,run_endRound jump hr3,hst3.turn (hf4.sub fun k hk=>by simp at hk;subst hk;exact hlb),?_,fun k hk hne=>?_,World.putObj_heap_same hlt3⟩
   ·exact ((gX hf2 (fun k hk=>by simp at hk;subst hk;exact hlB)).trans (jd hb3 hbo)).trans (gX hf4 (fun k hk=>by simp at hk;subst hk;exact hlB))
   ·have hklt:=(hst2.far k hk).2
    rw[hf4.block k (Nat.lt_of_lt_of_le hklt hb3.size) (by simp[hne]),keep k hk];exact hf2.block k (hst.far k hk).2 (by simp[hne])
  rcases hspec with ⟨h1,h2⟩ | ⟨xs',a',ws',h1,h2,h3⟩
  ·have hp:=qc (S:=iZ ((5,.d kT x)::eZ) 6 m bH false b xs a ws) (hint:=hR) (hs:=gG) (l:=l1) gH hbo hst2 rfl (show 8=pl.length by rw[hpl]) (show 6=p0.length by rw[hs.p]) hl1n hfr ((SH m b xs a ws x).trans h2)
   refine Code.wpIn_mono ?_ (hp (some lb));rintro e a3 W3 ⟨pl',l',rfl,rfl,_,hp',hst3,_,hb3⟩;obtain⟨W4,q1,q2,q3,q4,q5⟩:=fin .r b xs a ws pl' W3 (some .ret) hp' hst3 hb3;exact⟨_,W4,q1,pl',b,xs,a,ws,q2,hp',hI,q3,q4,.inr ⟨rfl,h1,q5⟩⟩
  ·have hp:=qc (S:=iZ ((5,.d kT x)::eZ) 6 m bH false b xs a ws) (hint:=hR) (hs:=gG) (l:=l1) gH hbo hst2 rfl (show 8=pl.length by rw[hpl]) (show 6=p0.length by rw[hs.p]) hl1n hfr ((SH m b xs a ws x).trans h2)
   refine Code.wpIn_mono ?_ (hp (some lb));rintro e a3 W3 ⟨pl',l',rfl,rfl,_,hp',hst3,_,hb3⟩;obtain⟨W4,q1,q2,q3,q4,q5⟩:=fin .n true xs' a' ws' pl' W3 none hp' hst3 hb3;exact⟨_,W4,q1,pl',true,xs',a',ws',q2,hp',h3,q3,q4,.inl ⟨rfl,h1,q5⟩⟩
 | exit id=>exact hq
 | goto t=>exact hq
 | ret=>exact hq
 | panic c=>exact hq
 | outgrown=>exact hq
theorem aan{B0:Nat->Prop}{p0:List Ev.Place}{F:Lx}{pl:List Ev.Place}{m:List (Int×Int)}{b:Bool}{xs:List Bk}{a:Int}{ws:List Int}{W:World}{l:List Value}{ds:List Deferred}{Q:Exit->Act->World->Prop}
  (hst:Sto B0 p0 F pl (iB m bH false b xs a ws) W) (hpl:pl.length=8) (hs:Slots p0 l) (hB:∀k,W.heap.size≤k->B0 k)
  (hQ:∀W' l',Sto B0 p0 F pl (iB m (.row 6) true b xs a ws) W'->Slots p0 l'->Blw B0 W W'->(∀k,some k∈F->W'.heap[k]? = W.heap[k]?)->Q .ret ⟨l'.toArray,ds⟩ W') :
  bkT.wpIn Fence.wide 2 Tryz.prog Q ⟨l.toArray,ds⟩ W:=by
 obtain⟨id,o1,o2,o3,h0,h1,h2,h3⟩:=aam;rw[h0];obtain⟨g5,n5,c5,us5,q1,q2,⟨v5,r5,rfl,⟨p6,q4,rfl⟩,rfl⟩,q6⟩:=hst.ent (5,.box 50 [.row 6]) (by simp[iB]);obtain⟨g2,n2,c2,us2,t1,t2,⟨v2,r2,rfl,t3,rfl⟩,t4⟩:=hst.ent (2,.box 50 [bH]) (by simp[iB]);obtain⟨g3,n3,c3,us3,u1,u2,⟨v3,r3,rfl,u3,rfl⟩,u4⟩:=hst.ent (3,.box 4 [.d .bool false]) (by simp[iB]);have pinj:∀{i:Nat} {g n c g' n' c'},p0[i]? = some ⟨some ⟨g,0,none⟩,n,c⟩->pl[i]? = some ⟨some ⟨g',0,none⟩,n',c'⟩->g=g':=fun h h'=>by have:=hst.pre _ _ h;rw[this]at h';cases h';rfl
 obtain⟨g,n,c,e1,e2⟩:=hs.s4;obtain rfl:=pinj e1 q1;obtain⟨g',n',c',e3,e4⟩:=hs.s2;obtain rfl:=pinj e3 t1;obtain⟨g'',n'',c'',e5,e6⟩:=hs.s3;obtain rfl:=pinj e5 u1;refine wpIn_seq (wpIn_region_lit (l:=[o1,o2,o3]) ?_);rw[h1,h2,h3];have hv:(l.set 73 (.slice p6.a p6.n p6.c)).getD 73 undef = .slice p6.a p6.n p6.c:=by rw[zS,List.getElem?_set_self (by rw[hs.len];decide)];rfl
 have hoth:∀t,t≠73->(l.set 73 (.slice p6.a p6.n p6.c)).getD t undef=l.getD t undef:=fun t ht=>by rw[zS,List.getElem?_set_ne (fun e=>ht e.symm),<- zS]
 have hs':Slots p0 (l.set 73 (.slice p6.a p6.n p6.c)):=⟨by rw[List.length_set];exact hs.len,hs.p,by rw[hoth 1 (by decide)];exact hs.s1,by rw[hoth 2 (by decide)];exact hs.s2,by rw[hoth 3 (by decide)];exact hs.s3,by rw[hoth 11 (by decide)];exact hs.s11,by rw[hoth 4 (by decide)];exact hs.s4⟩;refine SL (dd:=73) rfl rfl (rH (cs:=[.slice p6.a p6.n p6.c]) (T:=50) (dd:=.slice 78) (by kernel_rfl) rfl e2 q2 rfl) ?_;obtain⟨W1,w1,w2,w3,w4⟩:=kG (P:=Tryz.prog) (l:=l.set 73 (.slice p6.a p6.n p6.c)) (w:=W) (d:=none) (ty:=o2.type) (pos:=o2.pos) (af:=o2.after) (gd:=none) (t:=50) (x:=.tmp 2) (y:=.tmp 73) (g:=g') (j:=0) (n:=1) (vs:=[.slice p6.a p6.n p6.c]) (by kernel_rfl) ((hoth 2 (by decide)).trans e4) hv rfl rfl (by simp[Value.oneCell']) t2 (by simp);refine Bb rfl rfl w1 ?_;have hst1:Sto B0 p0 F pl (iB m (.row 6) false b xs a ws) W1:=hst.put hB (by rw[hpl,hs.p];decide) (i:=2) (e:=.box 50 [bH]) (e':=.box 50 [.row 6]) rfl (by unfold plb;rw[t1];exact w3) ⟨g',n2,c2,[.slice p6.a p6.n p6.c],t1,by simpa using w4,⟨_,[],rfl,⟨p6,q4,rfl⟩,rfl⟩,by simp[Value.oneCell']⟩;have hg3:g''≠g':=fun e=>by subst e;have:=hst.pair;simp[iB,lx,plb,t1,u1,blk]at this
 have u2':Bx W1 g'' [v3] 4:=u2.step w3 (by simp[hg3]);obtain⟨W2,x1,x2,x3,x4⟩:=kG (P:=Tryz.prog) (l:=l.set 73 (.slice p6.a p6.n p6.c)) (w:=W1) (d:=none) (ty:=o3.type) (pos:=o3.pos) (af:=o3.after) (gd:=none) (t:=4) (x:=.tmp 3) (y:=.const (.bool true)) (g:=g'') (j:=0) (n:=1) (vs:=[.bool true]) (by kernel_rfl) ((hoth 3 (by decide)).trans e6) rfl rfl rfl (by simp[Value.oneCell']) u2' (by simp);refine Bb rfl rfl x1 ?_;have hst2:Sto B0 p0 F pl (iB m (.row 6) true b xs a ws) W2:=hst1.put (fun k hk=>hB k (by rw[w2]at hk;exact hk)) (by rw[hpl,hs.p];decide) (i:=3) (e:=.box 4 [.d .bool false]) (e':=.box 4 [.d .bool true]) rfl (by unfold plb;rw[u1];exact x3) ⟨g'',n3,c3,[.bool true],u1,by simpa using x4,⟨_,[],rfl,⟨[.bool true],rfl,rfl⟩,rfl⟩,by simp[Value.oneCell']⟩;have m2:some g'∈lx pl (iB m bH false b xs a ws):=by have:=o8 (pl:=pl) (own:=iB m bH false b xs a ws) (e:=(2,.box 50 [bH])) (by simp[iB]);unfold plb at this;rw[t1]at this;exact this
 have m3:some g''∈lx pl (iB m bH false b xs a ws):=by have:=o8 (pl:=pl) (own:=iB m bH false b xs a ws) (e:=(3,.box 4 [.d .bool false])) (by simp[iB]);unfold plb at this;rw[u1]at this;exact this
 refine wpListIn_nil (wpIn_ret (hQ W2 _ hst2 hs' ?_ fun k hk=>?_))
 ·exact (gX w3 (fun k hk=>by simp at hk;subst hk;exact hst.lo _ m2)).trans (gX x3 (fun k hk=>by simp at hk;subst hk;exact hst.lo _ m3))
 ·have hk2:=hst.far k hk
  rw[x3.block k (by rw[w2];exact hk2.2) (fun e=>by simp at e;subst e;exact hk2.1 m3),w3.block k hk2.2 (fun e=>by simp at e;subst e;exact hk2.1 m2)]
end Go.Proofs.Lx
end
noncomputable section
set_option maxRecDepth 100000
namespace Go.Proofs.Lx
open Go Go.Proofs Go.RowKit Ev Sx
def jy(m:dA):List Int->Option (List Bk)->Option (List Bk)
 | [],r=>r
 | z::q,r=>jy m q (r.bind fun l=>dV m l z)
theorem mh(m:dA):∀(ks:List Int) (z:Int) (r:Option (List Bk)),jy m (ks++[z]) r=(jy m ks r).bind fun l=>dV m l z
 | [],_,_=>rfl
 | _::q,z,r=>mh m q z _
theorem Bc(m:dA):∀ks:List Int,jy m ks none=none
 | []=>rfl
 | _::q=>Bc m q
theorem C4(m:dA):∀(ks qs:List Int) (r:Option (List Bk)),jy m (ks++qs) r=jy m qs (jy m ks r)
 | [],_,_=>rfl
 | _::q,qs,_=>C4 m q qs _
@[reducible] def aK:Ty:=.pr (.int .i64) aR
@[reducible] def FU:Ev.Sh:=⟨[.mp 0],[.dm (.int .i64) (.int .u16)],[.sl (.pr (.int .i64) (.int .u16))],[.d (.sl aK),.d .bool],[(0,.dm (.int .i64) (.int .u16))],0,[.sl aK,.bool,.sl (.pr (.int .i64) (.int .u16))]⟩
def qV(e:Int×Int):Bool:=decide (-9223372036854775808≤e.1) && decide (e.1≤9223372036854775807)
def bZ(m:dA):List Bk×Bool :=
 if m.length > 64 then ([],false) else match jy m (sorted (m.map (·.1))) (some []) with
  | some l=>(l,true)
  | none=>([],false)
def Kl(x:As FU.ps):Option (As FU.rs):=if x.1.all qV=true then some ((bZ x.1).1,(bZ x.1).2,x.1,()) else none
theorem C5{e:Int×Int}:qV e=true↔inR e.1:=by simp[qV,inR]
theorem LB{F F':Lx}{w0 W:World}{pl0 pl':List Ev.Place}{m:List (Int×Int)}{own':List (Nat×Ent)}{B1:Nat->Prop}{p1:List Ev.Place}{L:List Bk}{ok:Bool}{us:List Value}
  (hpl:pl0.length=1) (hL:LOk (Bo pl0 [(0,.dm kT uT m)] w0) (lx pl0 [(0,.dm kT uT m)]) F w0) (hpre:∀p,pl'[0]? = some p->pl0[0]? = some p)
  (hF:∀k,some k∈F->some k∈F') (hst:Sto B1 p1 F' pl' own' W) (hm:(0,.dm kT uT m)∈own') (hB:Blw (Bo pl0 [(0,.dm kT uT m)] w0) w0 W)
  (hd:DenL pl' (lx pl' own'++F') W [.d (.sl bT) L,.d .bool ok] us):After FU (L,ok,m,()) F w0 pl0 [(0,.dm kT uT m)] W us:=by
 obtain⟨g,n,c,vs,e1,e2,e3⟩:=hst.ent _ hm;have e0:=hpre _ e1;have hlx:lx pl0 [(0,Ent.dm kT uT m)]=[some g]:=by simp[lx,plb,e0,blk]
 have hmem:some g∈lx pl' own':=by have:=o8 (pl:=pl') hm;unfold plb at this;rw[e1]at this;exact this
 have hsub:∀k,some k∈lx pl0 [(0,Ent.dm kT uT m)]++F->some k∈lx pl' own'++F':=fun k hk=>by
  rcases List.mem_append.1 hk with hk | hk
  ·rw[hlx]at hk
   simp at hk;subst hk;exact List.mem_append_left _ hmem
  ·exact List.mem_append_right _ (hF k hk)
 refine⟨pl0,[.d (.sl bT) L,.d .bool ok],[(0,.dm kT uT m)],rfl,fun _ _ h=>h,hpl,hB,⟨hL.pair,hL.lo,fun k hk=>?_,hL.baseS hB.size,hL.farS hB.size⟩,fun e he=>?_,?_⟩
 ·exact Nat.lt_of_lt_of_le (hL.hi k hk) hB.size
 ·simp at he
  subst he;exact⟨g,n,c,vs,e0,e2,e3.ext (Ext.sub (pl:=pl') hsub)⟩
 ·obtain⟨v,q,h1,⟨cs,h2,h3⟩,v',q',h4,⟨cs',h5,h6⟩,h7⟩:=hd
  exact⟨v,q,h1,⟨cs,Rp.grow _ h2 (gV hsub),h3⟩,v',q',h4,⟨cs',Rp.grow _ h5 (gV hsub),h6⟩,h7⟩
theorem DX{B1:Nat->Prop}{p1:List Ev.Place}{F':Lx}{pl:List Ev.Place}{S S1:St}{l:List Value}{W:World}{L:List Bk}{ok:Bool}(hb:∀k,Bo pl S.own W k->B1 k)
  (hst:Sto B1 p1 F' pl S.own W) (hup:S.up=[]) (hnx:S.nx=pl.length) (hln:S.ln=p1.length) (hnt:l.length=S.nt) (hfr:FrD pl (lx pl S.own++F') W S.fr l)
  (hn:nrm Tryz.prog ⟨[.frb 2],[2,3]⟩ S=some S1) (hr:jL Tryz.prog S1 Tryz.f29.results.toList (fun ss=>some ss)=some [.d (.sl bT) L,.d .bool ok]) :
  ∃pl' us,Sto B1 p1 F' pl' S1.own W∧DenL pl' (lx pl' S1.own++F') W [.d (.sl bT) L,.d .bool ok] us∧∀R:Ending->World->Prop,R (.returned (pI us)) W->∃v,(results Tryz.f29 l.toArray).run Tryz.prog W = .ok v W∧R (.returned v) W:=by
 have h1:=hst.rel hup hnx hln hnt hfr;obtain⟨wr2,pl2,h2⟩:=vH h1 hn;obtain⟨ss,us,h3,h4,h5⟩:=uU h2 hr;cases h3;exact⟨pl2,us,(uE hb h2).1,h5,fun R hR=>(Aw (fn:=Tryz.f29) (by decide) h4 hR).2⟩
theorem akI(m:dA):∃S1,nrm Tryz.prog ⟨[.frb 2],[2,3]⟩ (yD m)=some S1∧(0,Ent.dm kT uT m)∈S1.own∧jL Tryz.prog S1 Tryz.f29.results.toList (fun ss=>some ss)=some [.d (.sl bT) [],.d .bool false]:=by refine⟨{ fr:=[(2,.pb 1 0),(3,.pb 2 0)],nt:=74,up:=[],own:=[(0,.dm kT uT m),(1,.box 50 [.d (.sl bT) []]),(2,.box 4 [.d .bool false])],nx:=3,log:=[],ln:=1 },by kernel_rfl,by simp,by kernel_rfl⟩
theorem akJ(m:dA)(b:Bool)(xs:List Bk)(a:Int)(ws:List Int):∃S1,nrm Tryz.prog ⟨[.frb 2],[2,3]⟩ (nI eZ 6 m bH false b xs a ws)=some S1∧(0,Ent.dm kT uT m)∈S1.own∧jL Tryz.prog S1 Tryz.f29.results.toList (fun ss=>some ss)=some [.d (.sl bT) [],.d .bool false]:=by refine⟨{ fr:=[(2,.pb 2 0),(3,.pb 3 0)],nt:=74,up:=[],own:=[(0,.dm kT uT m),(1,.box 74 [.mp 0]),(2,.box 50 [.d (.sl bT) []]),(3,.box 4 [.d .bool false]),(4,.box 74 [.mp 0]),(5,.box 50 [.row 6]),(6,.rowo bT 78 b xs [.d kT a,.row 7]),(7,.row uT 73 ws)],nx:=8,log:=[],ln:=6 },by kernel_rfl,by simp,by kernel_rfl⟩
theorem akK(m:dA)(b:Bool)(xs:List Bk)(a:Int)(ws:List Int):∃S1,nrm Tryz.prog ⟨[.frb 2],[2,3]⟩ (nI eZ 6 m (.row 6) true b xs a ws)=some S1∧(0,Ent.dm kT uT m)∈S1.own∧jL Tryz.prog S1 Tryz.f29.results.toList (fun ss=>some ss)=some [.d (.sl bT) (bkX b xs a ws),.d .bool true]:=by refine⟨{ fr:=[(2,.pb 2 0),(3,.pb 3 0)],nt:=74,up:=[],own:=[(0,.dm kT uT m),(1,.box 74 [.mp 0]),(2,.box 50 [.d (.sl bT) (bkX b xs a ws)]),(3,.box 4 [.d .bool true]),(4,.box 74 [.mp 0]),(5,.box 50 [.d (.sl bT) (bkX b xs a ws)])],nx:=6,log:=[],ln:=6 },by kernel_rfl,by simp,by kernel_rfl⟩
end Go.Proofs.Lx
end
noncomputable section
set_option maxRecDepth 100000
namespace Go.Proofs.Lx
open Go Go.Proofs Go.RowKit Ev Sx
theorem kJ{P:Program}{c:Code}{Q:Exit->Act->World->Prop}{l:List Value}{w:World}(h:CW P c Q l w)(n:Nat):c.wpIn Fence.wide n P Q (mk l) w:=wpIn_wide.2 (wpIn_wide.1 (h none))
theorem Km{L:Lx}{w:World}:∀{vs:List (Int×Value)} {m:List (Int×Int)},DmD (kt:=kT) (vt:=uT) L w vs m->vs.map (·.1)=m.map (·.1)
 | [],_,h=>by cases h;rfl
 | _::_,_,⟨b,q,h1,h2,_,h3⟩=>by subst h1;simp only[List.map_cons];rw[h2,Km h3]
def between(i j:Nat):Lx:=(List.range' i (j - i)).map some
theorem Ew{i j k:Nat}:some k∈between i j↔i≤k∧k<j:=by
 unfold between;simp[List.mem_range'];constructor
 ·rintro⟨a,h1,h2⟩;omega
 ·rintro⟨h1,h2⟩;exact⟨k - i,by omega,by omega⟩
theorem ath{I:World->Prop}:au Tryz.prog I 29 ⟨FU,Kl⟩:=by
 intro F w0 pl0 x y ss own vs hx hA hpl hI0 hL hE hD;obtain⟨m,u0⟩:=x;have hx:(if m.all qV=true then some ((bZ m).1,(bZ m).2,m,()) else none)=some y:=hx;split at hx
 case isFalse=>cases hx
 rename_i hkeys;cases hx;have hA:some ([SV.mp 0],[(0,Ent.dm kT uT m)])=some (ss,own):=hA;cases hA;have hpl:pl0.length=1:=hpl;obtain⟨u,q,rfl,⟨g,n,c,hp0,rfl⟩,rfl⟩:=hD;obtain⟨B0,hB0⟩:∃B0,B0=Bo pl0 [(0,Ent.dm kT uT m)] w0:=⟨_,rfl⟩;have hst0:Sto B0 pl0 F pl0 [(0,.dm kT uT m)] w0:=by subst hB0;exact⟨hL.pair,hL.lo,hL.hi,fun k hk=>⟨fun hx=>(hL.far k hk).1 (hL.lo k hx),(hL.far k hk).2⟩,fun _ _ h=>h,hE⟩
 have hbase:∀k,w0.heap.size≤k->B0 k:=fun k hk=>by subst hB0;exact .inr hk
 have hbo:∀{p1:List Ev.Place} {F1:Lx} {pl:List Ev.Place} {own:List (Nat×Ent)} {w:World},w0.heap.size≤w.heap.size->Sto B0 p1 F1 pl own w->∀k,Bo pl own w k->B0 k:=fun hs hst k hk=>by
  rcases hk with hk | hk
  ·exact hst.lo k hk
  ·exact hbase k (Nat.le_trans hs hk)
 refine (callsIn_wide (n:=2)).1 ?_;refine callsIn_of_wp_marks Tryz.func29 agD trivial ?_ rfl;obtain⟨l0,hl0⟩:∃l0:List Value,l0 = .map (some g)::zC 73 undef:=⟨_,rfl⟩;have hact:(⟨[Value.map (some g)].toArray++Array.replicate (Tryz.f29.ntmps - [Value.map (some g)].toArray.size) undef,[]⟩:Act)=mk l0:=by subst hl0;show (⟨[Value.map (some g)].toArray++Array.replicate 73 undef,[]⟩:Act)=mk (.map (some g)::zC 73 undef);simp[mk]
 rw[hact];generalize hR:(fun (e:Ending) (w':World)=>∃us,e = .returned (pI us)∧After FU ((bZ m).1,(bZ m).2,m,()) F w0 pl0 [(0,Ent.dm kT uT m)] w' us)=R;have hRe:∀{W:World} {us:List Value},After FU ((bZ m).1,(bZ m).2,m,()) F w0 pl0 [(0,Ent.dm kT uT m)] W us->R (.returned (pI us)) W:=fun h=>by subst hR;exact⟨_,rfl,h⟩
 have hfr0:FrD pl0 (lx pl0 [(0,Ent.dm kT uT m)]++F) w0 [(0,.mp 0)] l0:=iJ (by subst hl0;exact⟨g,n,c,hp0,rfl⟩) kI;have r1:=qc (S:=akH m) (l:=l0) gH (hbo (Nat.le_refl _) hst0) hst0 rfl (show 1=pl0.length from hpl.symm) (show 1=pl0.length from hpl.symm) (by subst hl0;rfl) hfr0 (al6 m);refine wpIn_seq (Code.wpIn_mono ?_ (kJ r1 2));rintro e a w1 ⟨pl1,l1,rfl,rfl,hl1,hn1,st1,fr1,bl1⟩;have bw1:Blw B0 w0 w1:=jd bl1 (hbo (Nat.le_refl _) hst0);refine wpIn_seq ?_;by_cases hlen:m.length > 64
 ·-- too many
  have r2:=qc (S:=yD m) (l:=l1) gH (hbo bw1.size st1) st1 rfl hn1.symm (show 1=pl0.length from hpl.symm) hl1 fr1 ((agE m).trans (if_pos (by simp[gt];omega)));refine Code.wpIn_mono ?_ (kJ r2 2);rintro e a w2 ⟨pl2,l2,rfl,rfl,hl2,hn2,st2,fr2,bl2⟩;have bw2:Blw B0 w0 w2:=bw1.trans (jd bl2 (hbo bw1.size st1));obtain⟨S1,z1,z2,z3⟩:=akI m;obtain⟨pl',us,z4,z5,z6⟩:=DX (S:=yD m) (hbo bw2.size st2) st2 rfl hn2.symm (show 1=pl0.length from hpl.symm) hl2 fr2 z1 z3;refine z6 R (hRe ?_);have:bZ m=([],false):=by unfold bZ;rw[if_pos hlen]
  rw[this];subst hB0
  exact LB hpl hL (fun p hp=>by
   have:=z4.pre 0 ⟨some ⟨g,0,none⟩,n,c⟩ hp0;rw[this]at hp;rw[hp0]
   exact hp) (fun _ h=>h) z4 z2 bw2 z5
 have r2:=qc (S:=yD m) (l:=l1) gH (hbo bw1.size st1) st1 rfl hn1.symm (show 1=pl0.length from hpl.symm) hl1 fr1 ((agE m).trans (if_neg (by simp[gt];omega)));refine Code.wpIn_mono ?_ (kJ r2 2);rintro e a w2 ⟨pl2,l2,rfl,rfl,hl2,hn2,st2,fr2,bl2⟩;have bw2:Blw B0 w0 w2:=bw1.trans (jd bl2 (hbo bw1.size st1));have r3:=qc (S:=yD m) (l:=l2) gH (hbo bw2.size st2) st2 rfl hn2.symm (show 1=pl0.length from hpl.symm) hl2 fr2 (al7 m);refine wpIn_seq (Code.wpIn_mono ?_ (kJ r3 2));rintro e a w3 ⟨pl3,l3,rfl,rfl,hl3,hn3,st3,fr3,bl3⟩;have bw3:Blw B0 w0 w3:=bw2.trans (jd bl3 (hbo bw2.size st2));have r4:=qc (S:=afk m) (l:=l3) gH (hbo bw3.size st3) st3 rfl hn3.symm (show 1=pl0.length from hpl.symm) hl3 fr3 (al8 m);refine wpIn_seq (wpIn_seq (Code.wpIn_mono ?_ (kJ r4 2)));rintro e a w4 ⟨pl4,l4,rfl,rfl,hl4,hn4,st4,fr4,bl4⟩;have bw4:Blw B0 w0 w4:=bw3.trans (jd bl4 (hbo bw3.size st3));have hn4:pl4.length=8:=hn4;have hl4:l4.length=74:=hl4;obtain⟨p0,hp0e⟩:∃p0,p0=pl4.take 6:=⟨_,rfl⟩;have hp0l:p0.length=6:=by rw[hp0e,zW];omega
 have hp0p:∀(i:Nat) (p:Ev.Place),p0[i]? = some p->pl4[i]? = some p:=fun i p h=>by rw[hp0e]at h;have hi:=(List.getElem?_eq_some_iff.1 h).1;rw[zW]at hi;rw[List.getElem?_take_of_lt (by omega)]at h;exact h
 have hp0b:∀(i:Nat) (p:Ev.Place),i<6->pl4[i]? = some p->p0[i]? = some p:=fun i p hi h=>by rw[hp0e,List.getElem?_take_of_lt hi];exact h
 have dpb:∀{t i:Nat},i<6->Ev.get eZ t=some (.pb i 0)->Den p0 [] default (.pb i 0) (l4.getD t undef):=fun hi hg=>by obtain⟨a,b,c,h1,h2⟩:=fr4 _ _ hg;exact⟨a,b,c,hp0b _ _ hi h1,h2⟩
 have hs:Slots p0 l4:=⟨hl4,hp0l,dpb (by decide) rfl,dpb (by decide) rfl,dpb (by decide) rfl,by
  obtain⟨us,vs,h1,⟨v,q,h2,⟨a,b,c,h3,h4⟩,h5⟩,h6⟩:=fr4 11 _ rfl
  exact⟨us,vs,h1,⟨v,q,h2,⟨a,b,c,hp0b _ _ (by decide) h3,h4⟩,h5⟩,h6⟩,dpb (by decide) rfl⟩
 obtain⟨g0,n0,c0,vs,e1,e2,e3⟩:=st4.ent (0,.dm kT uT m) (by simp[nI,eu]);obtain⟨Bm,nmp,cm,us,b1,b2,⟨v,r,rfl,⟨g',n',c',b3,rfl⟩,rfl⟩,b4⟩:=st4.ent (4,.box 74 [.mp 0]) (by simp[nI,eu]);obtain rfl:g'=g0:=by rw[b3]at e1;cases e1;rfl
 have hvk:=Km e3;have hvl:vs.length=m.length:=by have:=congrArg zE hvk;simpa using this
 have hvr:∀e∈vs,inR e.1:=fun e he=>by
  have h1:e.1∈m.map (·.1):=by rw[<- hvk];exact List.mem_map_of_mem (f:=fun x:Int×Value=>x.1) he
  obtain⟨e',h2,h3⟩:=List.mem_map.1 h1;rw[<- h3];exact C5.1 (List.all_eq_true.1 hkeys e' h2)
 have hf11:(mk l4).eval (.tmp 11) = .func (.func 89) #[] #[.pointer (some ⟨Bm,0,none⟩)]:=by rw[jk];obtain⟨us,vs,h1,⟨v,q,h2,⟨a,b,c,h3,h4⟩,h5⟩,h6⟩:=fr4 11 _ rfl;rw[b1]at h3;cases h3;cases h1;cases h5;subst h2 h4;exact h6
 refine wpIn_block (wpIn_rangeFunc ?_);intro fn hfn;obtain⟨W1,hW1⟩:∃W1,(w4.alloc (.deferred (some []))).alloc (.loop (bY fn l4 w4.heap.size .ready none))=W1:=⟨_,rfl⟩;have hs1:W1.heap.size=w4.heap.size+2:=by rw[<- hW1];simp
 have hfz1:Fz [] w4 W1:=by rw[<- hW1];exact (Fz.alloc _ _ _).trans (Fz.alloc _ _ _)
 have hD1:W1.heap[w4.heap.size]? = some (.deferred (some [])):=by rw[<- hW1];exact (Below.heap_alloc _ _ _ (by simp)).trans (World.alloc_heap_new w4 _)
 have hr1:W1.heap[w4.heap.size+1]? = some (.loop (bY fn l4 w4.heap.size .ready none)):=by rw[<- hW1];have:=World.alloc_heap_new (w4.alloc (.deferred (some []))) (.loop (bY fn l4 w4.heap.size .ready none));rwa[World.size_alloc]at this
 have hmap1:MapIs (bM (.int .i64)) (fun v:Value=>v) W1 g' vs:=by have hlt:=e2.lt;obtain⟨es,cl,a,b,c⟩:=e2;exact⟨es,cl,(hfz1.block _ hlt H9).trans a,b,c⟩
 have hcell1:W1.cell? ⟨Bm,0,none⟩=some (.map (some g')):=(b2.step hfz1 H9).cell rfl;have hkeys2:sorted (vs.map (·.1))=sorted (m.map (·.1)):=by rw[hvk]
 refine⟨w4.heap.size+1,[{ target:=.collected w4.heap.size,args:=#[] }],W1,{ target:=.fn (.func 89) #[.pointer (some ⟨Bm,0,none⟩)],args:=#[.func (.yield (w4.heap.size+1)) #[] #[]] },W1,89,
  #[.func (.yield (w4.heap.size+1)) #[] #[]]++#[.pointer (some ⟨Bm,0,none⟩)],W1,?_,?_,fun _ _=>trivial,?_,(fun h=>by cases h),?_⟩
 ·rw[<- hW1];exact run_enterLoop_outer _ _ _ _ _
 ·simp only[resolve,hf11]
  simp[go_sem]
 ·have:=enters_of Tryz.func89 (by kernel_rfl) rfl
  simp[invoke,go_sem,this]
 ·-- the rounds
  let FF:World->Lx:=fun Z=>F++between w4.heap.size Z.heap.size
  have hFm:∀Z k,some k∈FF Z↔some k∈F∨(w4.heap.size≤k∧k<Z.heap.size):=fun Z k=>by show some k∈F++between _ _↔_;rw[List.mem_append,Ew]
  have key:=SI 1 (w4.heap.size+1) Bm g' (Nat.le_refl _) W1 hmap1 hvr (by omega) hcell1
   (fun Z pre W=>∃pl b xs a ws,Sto B0 p0 (FF Z) pl (eu m bH false b xs a ws) W∧pl.length=8∧BkI b xs a ws∧W.heap[w4.heap.size]? = some (.deferred (some []))∧Blw B0 w0 W∧W1.heap.size≤Z.heap.size ∧
    jy m pre (some [])=some (bkX b xs a ws)∧W.heap[w4.heap.size+1]? = some (.loop (bY fn l4 w4.heap.size .ready none))∧∀k,W1.heap.size≤k->k<Z.heap.size->W.heap[k]? = Z.heap[k]?)
   (fun Z pre W=>∃pl b xs a ws,Sto B0 p0 (FF Z) pl (eu m bH false b xs a ws) W∧pl.length=8∧BkI b xs a ws∧W.heap[w4.heap.size]? = some (.deferred (some []))∧Blw B0 w0 W∧W1.heap.size≤Z.heap.size ∧
    jy m pre (some [])=none∧W.heap[w4.heap.size+1]? = some (.loop (bY fn l4 w4.heap.size .done (some .ret))))
   (fun Z hZ=>by
    have hz:Fz [] w4 Z:=hfz1.trans (Fz.of_below hZ []);refine⟨pl4,false,[],0,[],?_,hn4,BkI.start,(hZ.block _ (by omega)).trans hD1,bw4.trans (gX hz (fun k hk=>by cases hk)),hZ.size,rfl,(hZ.block _ (by omega)).trans hr1,fun k _ _=>rfl⟩;refine (st4.sub (List.Sublist.refl _) hp0p).grow hz fun k hk=>?_;rcases (hFm Z k).1 hk with h | ⟨h1,h2⟩
    ·exact⟨.inl h,Nat.lt_of_lt_of_le (st4.far k h).2 hz.size⟩
    ·exact⟨.inr h1,h2⟩)
   (fun Z pre W hJ k h1 h2=>by
    obtain⟨_,_,_,_,_,_,_,_,_,_,_,_,_,h⟩:=hJ
    exact h k h1 h2)
   (fun Z pre x W hJ=>by
    obtain⟨pl,b,xs,a,ws,j1,j2,j3,j4,j5,j6,j7,j8,j9⟩:=hJ;have hlb:some (w4.heap.size+1)∈FF Z:=(hFm Z _).2 (.inr ⟨by omega,by omega⟩);obtain⟨fn',tmps,asg,bd,y1,y2⟩:=round (x:=x) j1 j2 hs j3 j8 hlb (hbase _ (by have:=bw4.size;omega)) (fun k hk=>hbase k (Nat.le_trans j5.size hk));refine⟨fn',tmps,asg,bd,y1,y2.mono ?_⟩;rintro e W' ⟨pl',b',xs',a',ws',k1,k2,k3,k4,k5,k6⟩;have kD:W'.heap[w4.heap.size]? = some (.deferred (some [])):=(k5 _ ((hFm Z _).2 (.inr ⟨Nat.le_refl _,by omega⟩)) (by omega)).trans j4;rcases k6 with ⟨rfl,k7,k8⟩ | ⟨rfl,k7,k8⟩
    ·refine .inl ⟨rfl,pl',b',xs',a',ws',k1,k2,k3,kD,j5.trans k4,j6,?_,k8,fun k h1 h2=>?_⟩
     ·rw[mh,j7]
      exact k7
     ·exact (k5 k ((hFm Z k).2 (.inr ⟨by omega,h2⟩)) (by omega)).trans (j9 k h1 h2)
    ·refine .inr ⟨rfl,pl',b',xs',a',ws',k1,k2,k3,kD,j5.trans k4,j6,?_,k8⟩
     rw[mh,j7]
     exact k7)
  refine key.mono ?_;rintro e W2 ⟨⟨v0,rfl⟩,Z,hJ⟩
  have leave:∀(pl:List Ev.Place) (cc:SV) (ok b:Bool) (xs:List Bk) (a:Int) (ws:List Int) (l':List Value) (W:World) (L:List Bk),Sto B0 p0 (FF Z) pl (eu m cc ok b xs a ws) W->pl.length=8->Slots p0 l'->W.heap[w4.heap.size]? = some (.deferred (some []))->Blw B0 w0 W->W1.heap.size≤Z.heap.size->bZ m=(L,ok) ->
    (∃S1,nrm Tryz.prog ⟨[.frb 2],[2,3]⟩ (nI eZ 6 m cc ok b xs a ws)=some S1∧(0,Ent.dm kT uT m)∈S1.own∧jL Tryz.prog S1 Tryz.f29.results.toList (fun ss=>some ss)=some [.d (.sl bT) L,.d .bool ok]) ->
    bodyPostM Fence.wide 2 Tryz.prog Tryz.f29 R .ret ⟨l'.toArray,[{ target:=.collected w4.heap.size,args:=#[] }]⟩ W:=by
   intro pl cc ok b xs a ws l' W L k1 k2 k3 k4 k5 k6 k7 ⟨S1,z1,z2,z3⟩;have hf6:=iW W w4.heap.size (.deferred none);have hDF:some w4.heap.size∈FF Z:=(hFm Z _).2 (.inr ⟨Nat.le_refl _,by omega⟩);have k1':=k1.turn (hf6.sub fun k hk=>by simp at hk;subst hk;exact hDF);have k5':Blw B0 w0 (W.putObj w4.heap.size (.deferred none)):=k5.trans (gX hf6 (fun k hk=>by simp at hk;subst hk;exact hbase _ bw4.size));obtain⟨pl',us,z4,z5,z6⟩:=DX (S:=nI eZ 6 m cc ok b xs a ws) (l:=l') (hbo k5'.size k1') k1' rfl k2.symm (show 6=p0.length from hp0l.symm) k3.len (k3.fr k1'.pre (fun _ _=>rfl)) z1 z3;refine⟨by simp,.inl ⟨_,_,rfl,run_takeDeferred k4,?_⟩⟩;refine z6 R (hRe ?_);rw[k7];subst hB0
   exact LB hpl hL (fun p hp=>by
    have:=z4.pre 0 ⟨some ⟨g,0,none⟩,n,c⟩ (hp0b _ _ (by decide) (st4.pre 0 _ hp0));rw[this]at hp;rw[hp0]
    exact hp) (fun k hk=>(hFm Z k).2 (.inl hk)) z4 z2 k5' z5
  rcases hJ with ⟨pl,b,xs,a,ws,j1,j2,j3,j4,j5,j6,j7,j8,j9⟩ | ⟨k,hk,pl,b,xs,a,ws,j1,j2,j3,j4,j5,j6,j7,j8⟩
  ·have hend:=run_endLoop (P:=Tryz.prog) j8 (by simp[bY])
   have hf5:=iW W2 (w4.heap.size+1) (.loop { bY fn l4 w4.heap.size .ready none with state:=.exhausted });have hlb:some (w4.heap.size+1)∈FF Z:=(hFm Z _).2 (.inr ⟨by omega,by omega⟩);refine⟨none,_,hend,?_⟩;have j1':=j1.turn (hf5.sub fun k hk=>by simp at hk;subst hk;exact hlb);have j5':=j5.trans (gX hf5 (fun k hk=>by simp at hk;subst hk;exact hbase _ (by have:=bw4.size;omega)));refine ahX (ds:=[{ target:=.collected w4.heap.size,args:=#[] }]) j1' j2 hs (fun k hk=>hbase k (Nat.le_trans j5'.size hk)) fun W' l' t1 t2 t3 t4=>?_;refine leave pl _ _ b xs a ws l' W' _ t1 j2 t2 ((t4 _ ((hFm Z _).2 (.inr ⟨Nat.le_refl _,by omega⟩))).trans ((World.putObj_heap_other (by omega)).trans j4)) (j5'.trans t3) j6 ?_ (akK m b xs a ws);unfold bZ;rw[if_neg hlen,<- hkeys2,j7]
  ·have hend:=run_endLoop (P:=Tryz.prog) j8 (by simp[bY])
   have hf5:=iW W2 (w4.heap.size+1) (.loop { bY fn l4 w4.heap.size .done (some .ret) with state:=.exhausted });have hlb:some (w4.heap.size+1)∈FF Z:=(hFm Z _).2 (.inr ⟨by omega,by omega⟩);refine⟨some .ret,_,hend,?_⟩;have j1':=j1.turn (hf5.sub fun k hk=>by simp at hk;subst hk;exact hlb);have j5':=j5.trans (gX hf5 (fun k hk=>by simp at hk;subst hk;exact hbase _ (by have:=bw4.size;omega)));refine wpIn_ret ?_;refine leave pl _ _ b xs a ws l4 _ _ j1' j2 hs ((World.putObj_heap_other (by omega)).trans j4) j5' j6 ?_ (akJ m b xs a ws);unfold bZ;rw[if_neg hlen,<- hkeys2,<- List.take_append_drop k (sorted (vs.map (·.1))),C4,j7,Bc]
end Go.Proofs.Lx
end
noncomputable section
set_option maxRecDepth 100000
namespace Go.Proofs.Lx
open Go Go.Proofs Go.RowKit Ev Sx Pl
theorem afn(m:dA):∃S1,nrm Tryz.prog ⟨[.frb 2],[2,3]⟩ (nP m)=some S1∧jL Tryz.prog S1 Tryz.f29.results.toList (fun ss=>some ss)=some [.d (.sl bT) [],.d .bool false]:=by refine⟨{ fr:=[(2,.pb 1 0),(3,.pb 2 0)],nt:=74,up:=[],own:=[(1,.box 50 [.d (.sl bT) []]),(2,.box 4 [.d .bool false])],nx:=3,log:=[],ln:=1 },by kernel_rfl,by kernel_rfl⟩
theorem afo(m:dA)(b:Bool)(xs:List Bk)(a:Int)(ws:List Int):∃S1,nrm Tryz.prog ⟨[.frb 2],[2,3]⟩ (iZ eZ 6 m bH false b xs a ws)=some S1∧jL Tryz.prog S1 Tryz.f29.results.toList (fun ss=>some ss)=some [.d (.sl bT) [],.d .bool false]:=by refine⟨{ fr:=[(2,.pb 2 0),(3,.pb 3 0)],nt:=74,up:=[],own:=[(1,.box 74 [.d (.mp kT uT) m]),(2,.box 50 [.d (.sl bT) []]),(3,.box 4 [.d .bool false]),(4,.box 74 [.d (.mp kT uT) m]),(5,.box 50 [.row 6]),(6,.rowo bT 78 b xs [.d kT a,.row 7]),(7,.row uT 73 ws)],nx:=8,log:=[],ln:=6 },by kernel_rfl,by kernel_rfl⟩
theorem afp(m:dA)(b:Bool)(xs:List Bk)(a:Int)(ws:List Int):∃S1,nrm Tryz.prog ⟨[.frb 2],[2,3]⟩ (iZ eZ 6 m (.row 6) true b xs a ws)=some S1∧jL Tryz.prog S1 Tryz.f29.results.toList (fun ss=>some ss)=some [.d (.sl bT) (bkX b xs a ws),.d .bool true]:=by refine⟨{ fr:=[(2,.pb 2 0),(3,.pb 3 0)],nt:=74,up:=[],own:=[(1,.box 74 [.d (.mp kT uT) m]),(2,.box 50 [.d (.sl bT) (bkX b xs a ws)]),(3,.box 4 [.d .bool true]),(4,.box 74 [.d (.mp kT uT) m]),(5,.box 50 [.d (.sl bT) (bkX b xs a ws)])],nx:=6,log:=[],ln:=6 },by kernel_rfl,by kernel_rfl⟩
def dmP:Ev.Place:=⟨none,0,0⟩
@[reducible] def aO:Ty:=.mp (.int .i64) (.int .u16)
@[reducible] def C6:Ev.Sh:=⟨[.d aO],[],[.mp (.int .i64) (.int .u16)],[.d (.sl aK),.d .bool],[],0,[.sl aK,.bool]⟩
def yE(x:As C6.ps):Option (As C6.rs):=if (show List (Int×Int) from x.1).all qV=true then some ((bZ x.1).1,(bZ x.1).2,()) else none
theorem Ey{F F':Lx}{w0 W:World}{pl':List Ev.Place}{own':List (Nat×Ent)}{L:List Bk}{ok:Bool}{us:List Value}
  (hL:LOk (Bo [] [] w0) (lx [] []) F w0) (hF:∀k,some k∈F->some k∈F') (hB:Blw (Bo [] [] w0) w0 W)
  (hd:DenL pl' (lx pl' own'++F') W [.d (.sl bT) L,.d .bool ok] us):After C6 (L,ok,()) F w0 [] [] W us:=by
 have hsub:∀k,some k∈lx [] []++F->some k∈lx pl' own'++F':=fun k hk=>List.mem_append_right _ (hF k (by simpa [lx]using hk));refine⟨[],[.d (.sl bT) L,.d .bool ok],[],rfl,fun _ _ h=>h,rfl,hB,⟨hL.pair,hL.lo,(fun k hk=>by cases hk),hL.baseS hB.size,hL.farS hB.size⟩,(fun e he=>by cases he),?_⟩;obtain⟨v,q,h1,⟨cs,h2,h3⟩,v',q',h4,⟨cs',h5,h6⟩,h7⟩:=hd;exact⟨v,q,h1,⟨cs,Rp.grow _ h2 (gV hsub),h3⟩,v',q',h4,⟨cs',Rp.grow _ h5 (gV hsub),h6⟩,h7⟩
theorem akL{I:World->Prop}:au Tryz.prog I 29 ⟨C6,yE⟩:=by
 intro F w0 pl0 x y ss own vs hx hA hpl hI0 hL hE hD;obtain⟨m,u0⟩:=x;have hx:(if m.all qV=true then some ((bZ m).1,(bZ m).2,()) else none)=some y:=hx;split at hx
 case isFalse=>cases hx
 rename_i hkeys;cases hx;have hA:some ([SV.d (.mp kT uT) m],[])=some (ss,own):=hA;cases hA;have hpl:pl0.length=0:=hpl;obtain rfl:=List.eq_nil_of_length_eq_zero hpl;obtain⟨u,q,rfl,⟨cs0,⟨g,mv,rfl,hg1,hg2,hgm,hgd⟩,hu⟩,rfl⟩:=hD;have hu:u = .map (some g):=hu;subst hu;obtain⟨B0,hB0⟩:∃B0,B0=Bo [] [] w0:=⟨_,rfl⟩;have hst0:Sto B0 [dmP] F [dmP] [] w0:=by subst hB0;exact⟨List.Pairwise.nil,(fun k hk=>by cases hk),(fun k hk=>by cases hk),fun k hk=>⟨(fun hx=>by cases hx),(hL.far k hk).2⟩,fun _ _ h=>h,(fun e he=>by cases he)⟩
 have hbase:∀k,w0.heap.size≤k->B0 k:=fun k hk=>by subst hB0;exact .inr hk
 have hbo:∀{p1:List Ev.Place} {F1:Lx} {pl:List Ev.Place} {own:List (Nat×Ent)} {w:World},w0.heap.size≤w.heap.size->Sto B0 p1 F1 pl own w->∀k,Bo pl own w k->B0 k:=fun hs hst k hk=>by
  rcases hk with hk | hk
  ·exact hst.lo k hk
  ·exact hbase k (Nat.le_trans hs hk)
 refine (callsIn_wide (n:=2)).1 ?_;refine callsIn_of_wp_marks Tryz.func29 agD trivial ?_ rfl;obtain⟨l0,hl0⟩:∃l0:List Value,l0 = .map (some g)::zC 73 undef:=⟨_,rfl⟩;have hact:(⟨[Value.map (some g)].toArray++Array.replicate (Tryz.f29.ntmps - [Value.map (some g)].toArray.size) undef,[]⟩:Act)=mk l0:=by subst hl0;show (⟨[Value.map (some g)].toArray++Array.replicate 73 undef,[]⟩:Act)=mk (.map (some g)::zC 73 undef);simp[mk]
 rw[hact];generalize hR:(fun (e:Ending) (w':World)=>∃us,e = .returned (pI us)∧After C6 ((bZ m).1,(bZ m).2,()) F w0 [] [] w' us)=R;have hRe:∀{W:World} {us:List Value},After C6 ((bZ m).1,(bZ m).2,()) F w0 [] [] W us->R (.returned (pI us)) W:=fun h=>by subst hR;exact⟨_,rfl,h⟩
 have hfr0:FrD [dmP] (lx [dmP] []++F) w0 [(0,.d (.mp kT uT) m)] l0:=iJ (by subst hl0;exact⟨[.map (some g)],⟨g,mv,rfl,by simpa [lx]using hg1,hg2,hgm,hgd⟩,rfl⟩) kI;have r1:=qc (S:=dS0 m) (l:=l0) gH (hbo (Nat.le_refl _) hst0) hst0 rfl rfl rfl (by subst hl0;rfl) hfr0 (ahT m);refine wpIn_seq (Code.wpIn_mono ?_ (kJ r1 2));rintro e a w1 ⟨pl1,l1,rfl,rfl,hl1,hn1,st1,fr1,bl1⟩;have bw1:Blw B0 w0 w1:=jd bl1 (hbo (Nat.le_refl _) hst0);refine wpIn_seq ?_;by_cases hlen:m.length > 64
 ·-- too many
  have r2:=qc (S:=nP m) (l:=l1) gH (hbo bw1.size st1) st1 rfl hn1.symm rfl hl1 fr1 ((SF m).trans (if_pos (by simp[gt];omega)));refine Code.wpIn_mono ?_ (kJ r2 2);rintro e a w2 ⟨pl2,l2,rfl,rfl,hl2,hn2,st2,fr2,bl2⟩;have bw2:Blw B0 w0 w2:=bw1.trans (jd bl2 (hbo bw1.size st1));obtain⟨S1,z1,z3⟩:=afn m;obtain⟨pl',us,z4,z5,z6⟩:=DX (S:=nP m) (hbo bw2.size st2) st2 rfl hn2.symm rfl hl2 fr2 z1 z3;refine z6 R (hRe ?_);have:bZ m=([],false):=by unfold bZ;rw[if_pos hlen]
  rw[this];subst hB0;exact Ey hL (fun _ h=>h) bw2 z5
 have r2:=qc (S:=nP m) (l:=l1) gH (hbo bw1.size st1) st1 rfl hn1.symm rfl hl1 fr1 ((SF m).trans (if_neg (by simp[gt];omega)));refine Code.wpIn_mono ?_ (kJ r2 2);rintro e a w2 ⟨pl2,l2,rfl,rfl,hl2,hn2,st2,fr2,bl2⟩;have bw2:Blw B0 w0 w2:=bw1.trans (jd bl2 (hbo bw1.size st1));have r3:=qc (S:=nP m) (l:=l2) gH (hbo bw2.size st2) st2 rfl hn2.symm rfl hl2 fr2 (ahU m);refine wpIn_seq (Code.wpIn_mono ?_ (kJ r3 2));rintro e a w3 ⟨pl3,l3,rfl,rfl,hl3,hn3,st3,fr3,bl3⟩;have bw3:Blw B0 w0 w3:=bw2.trans (jd bl3 (hbo bw2.size st2));have r4:=qc (S:=Qp m) (l:=l3) gH (hbo bw3.size st3) st3 rfl hn3.symm rfl hl3 fr3 (ahV m);refine wpIn_seq (wpIn_seq (Code.wpIn_mono ?_ (kJ r4 2)));rintro e a w4 ⟨pl4,l4,rfl,rfl,hl4,hn4,st4,fr4,bl4⟩;have bw4:Blw B0 w0 w4:=bw3.trans (jd bl4 (hbo bw3.size st3));have hn4:pl4.length=8:=hn4;have hl4:l4.length=74:=hl4;obtain⟨p0,hp0e⟩:∃p0,p0=pl4.take 6:=⟨_,rfl⟩;have hp0l:p0.length=6:=by rw[hp0e,zW];omega
 have hp0p:∀(i:Nat) (p:Ev.Place),p0[i]? = some p->pl4[i]? = some p:=fun i p h=>by rw[hp0e]at h;have hi:=(List.getElem?_eq_some_iff.1 h).1;rw[zW]at hi;rw[List.getElem?_take_of_lt (by omega)]at h;exact h
 have hp0b:∀(i:Nat) (p:Ev.Place),i<6->pl4[i]? = some p->p0[i]? = some p:=fun i p hi h=>by rw[hp0e,List.getElem?_take_of_lt hi];exact h
 have dpb:∀{t i:Nat},i<6->Ev.get eZ t=some (.pb i 0)->Den p0 [] default (.pb i 0) (l4.getD t undef):=fun hi hg=>by obtain⟨a,b,c,h1,h2⟩:=fr4 _ _ hg;exact⟨a,b,c,hp0b _ _ hi h1,h2⟩
 have hs:Slots p0 l4:=⟨hl4,hp0l,dpb (by decide) rfl,dpb (by decide) rfl,dpb (by decide) rfl,by
  obtain⟨us,vs,h1,⟨v,q,h2,⟨a,b,c,h3,h4⟩,h5⟩,h6⟩:=fr4 11 _ rfl
  exact⟨us,vs,h1,⟨v,q,h2,⟨a,b,c,hp0b _ _ (by decide) h3,h4⟩,h5⟩,h6⟩,dpb (by decide) rfl⟩
 obtain⟨Bm,nmp,cm,us,b1,b2,⟨v,r,rfl,⟨cs4,⟨g',vs,rfl,e1,e5,e2,e3⟩,rfl⟩,rfl⟩,b4⟩:=st4.ent (4,.box 74 [.d (.mp kT uT) m]) (by simp[iZ,iB]);have e3:=DmD.iff.1 e3;have hvk:=Km e3;have hvl:vs.length=m.length:=by have:=congrArg zE hvk;simpa using this
 have hvr:∀e∈vs,inR e.1:=fun e he=>by
  have h1:e.1∈m.map (·.1):=by rw[<- hvk];exact List.mem_map_of_mem (f:=fun x:Int×Value=>x.1) he
  obtain⟨e',h2,h3⟩:=List.mem_map.1 h1;rw[<- h3];exact C5.1 (List.all_eq_true.1 hkeys e' h2)
 have hf11:(mk l4).eval (.tmp 11) = .func (.func 89) #[] #[.pointer (some ⟨Bm,0,none⟩)]:=by rw[jk];obtain⟨us,vs,h1,⟨v,q,h2,⟨a,b,c,h3,h4⟩,h5⟩,h6⟩:=fr4 11 _ rfl;rw[b1]at h3;cases h3;cases h1;cases h5;subst h2 h4;exact h6
 refine wpIn_block (wpIn_rangeFunc ?_);intro fn hfn;obtain⟨W1,hW1⟩:∃W1,(w4.alloc (.deferred (some []))).alloc (.loop (bY fn l4 w4.heap.size .ready none))=W1:=⟨_,rfl⟩;have hs1:W1.heap.size=w4.heap.size+2:=by rw[<- hW1];simp
 have hfz1:Fz [] w4 W1:=by rw[<- hW1];exact (Fz.alloc _ _ _).trans (Fz.alloc _ _ _)
 have hD1:W1.heap[w4.heap.size]? = some (.deferred (some [])):=by rw[<- hW1];exact (Below.heap_alloc _ _ _ (by simp)).trans (World.alloc_heap_new w4 _)
 have hr1:W1.heap[w4.heap.size+1]? = some (.loop (bY fn l4 w4.heap.size .ready none)):=by rw[<- hW1];have:=World.alloc_heap_new (w4.alloc (.deferred (some []))) (.loop (bY fn l4 w4.heap.size .ready none));rwa[World.size_alloc]at this
 have hmap1:MapIs (bM (.int .i64)) (fun v:Value=>v) W1 g' vs:=by have hlt:=e2.lt;obtain⟨es,cl,a,b,c⟩:=e2;exact⟨es,cl,(hfz1.block _ hlt H9).trans a,b,c⟩
 have hcell1:W1.cell? ⟨Bm,0,none⟩=some (.map (some g')):=(b2.step hfz1 H9).cell rfl;have hkeys2:sorted (vs.map (·.1))=sorted (m.map (·.1)):=by rw[hvk]
 refine⟨w4.heap.size+1,[{ target:=.collected w4.heap.size,args:=#[] }],W1,{ target:=.fn (.func 89) #[.pointer (some ⟨Bm,0,none⟩)],args:=#[.func (.yield (w4.heap.size+1)) #[] #[]] },W1,89,
  #[.func (.yield (w4.heap.size+1)) #[] #[]]++#[.pointer (some ⟨Bm,0,none⟩)],W1,?_,?_,fun _ _=>trivial,?_,(fun h=>by cases h),?_⟩
 ·rw[<- hW1];exact run_enterLoop_outer _ _ _ _ _
 ·simp only[resolve,hf11]
  simp[go_sem]
 ·have:=enters_of Tryz.func89 (by kernel_rfl) rfl
  simp[invoke,go_sem,this]
 ·-- the rounds
  let FF:World->Lx:=fun Z=>F++between w4.heap.size Z.heap.size
  have hFm:∀Z k,some k∈FF Z↔some k∈F∨(w4.heap.size≤k∧k<Z.heap.size):=fun Z k=>by show some k∈F++between _ _↔_;rw[List.mem_append,Ew]
  have key:=SI 1 (w4.heap.size+1) Bm g' (Nat.le_refl _) W1 hmap1 hvr (by omega) hcell1
   (fun Z pre W=>∃pl b xs a ws,Sto B0 p0 (FF Z) pl (iB m bH false b xs a ws) W∧pl.length=8∧BkI b xs a ws∧W.heap[w4.heap.size]? = some (.deferred (some []))∧Blw B0 w0 W∧W1.heap.size≤Z.heap.size ∧
    jy m pre (some [])=some (bkX b xs a ws)∧W.heap[w4.heap.size+1]? = some (.loop (bY fn l4 w4.heap.size .ready none))∧∀k,W1.heap.size≤k->k<Z.heap.size->W.heap[k]? = Z.heap[k]?)
   (fun Z pre W=>∃pl b xs a ws,Sto B0 p0 (FF Z) pl (iB m bH false b xs a ws) W∧pl.length=8∧BkI b xs a ws∧W.heap[w4.heap.size]? = some (.deferred (some []))∧Blw B0 w0 W∧W1.heap.size≤Z.heap.size ∧
    jy m pre (some [])=none∧W.heap[w4.heap.size+1]? = some (.loop (bY fn l4 w4.heap.size .done (some .ret))))
   (fun Z hZ=>by
    have hz:Fz [] w4 Z:=hfz1.trans (Fz.of_below hZ []);refine⟨pl4,false,[],0,[],?_,hn4,BkI.start,(hZ.block _ (by omega)).trans hD1,bw4.trans (gX hz (fun k hk=>by cases hk)),hZ.size,rfl,(hZ.block _ (by omega)).trans hr1,fun k _ _=>rfl⟩;refine (st4.sub (List.Sublist.refl _) hp0p).grow hz fun k hk=>?_;rcases (hFm Z k).1 hk with h | ⟨h1,h2⟩
    ·exact⟨.inl h,Nat.lt_of_lt_of_le (st4.far k h).2 hz.size⟩
    ·exact⟨.inr h1,h2⟩)
   (fun Z pre W hJ k h1 h2=>by
    obtain⟨_,_,_,_,_,_,_,_,_,_,_,_,_,h⟩:=hJ
    exact h k h1 h2)
   (fun Z pre x W hJ=>by
    obtain⟨pl,b,xs,a,ws,j1,j2,j3,j4,j5,j6,j7,j8,j9⟩:=hJ;have hlb:some (w4.heap.size+1)∈FF Z:=(hFm Z _).2 (.inr ⟨by omega,by omega⟩);obtain⟨fn',tmps,asg,bd,y1,y2⟩:=ahY (x:=x) j1 j2 hs j3 j8 hlb (hbase _ (by have:=bw4.size;omega)) (fun k hk=>hbase k (Nat.le_trans j5.size hk));refine⟨fn',tmps,asg,bd,y1,y2.mono ?_⟩;rintro e W' ⟨pl',b',xs',a',ws',k1,k2,k3,k4,k5,k6⟩;have kD:W'.heap[w4.heap.size]? = some (.deferred (some [])):=(k5 _ ((hFm Z _).2 (.inr ⟨Nat.le_refl _,by omega⟩)) (by omega)).trans j4;rcases k6 with ⟨rfl,k7,k8⟩ | ⟨rfl,k7,k8⟩
    ·refine .inl ⟨rfl,pl',b',xs',a',ws',k1,k2,k3,kD,j5.trans k4,j6,?_,k8,fun k h1 h2=>?_⟩
     ·rw[mh,j7]
      exact k7
     ·exact (k5 k ((hFm Z k).2 (.inr ⟨by omega,h2⟩)) (by omega)).trans (j9 k h1 h2)
    ·refine .inr ⟨rfl,pl',b',xs',a',ws',k1,k2,k3,kD,j5.trans k4,j6,?_,k8⟩
     rw[mh,j7]
     exact k7)
  refine key.mono ?_;rintro e W2 ⟨⟨v0,rfl⟩,Z,hJ⟩
  have leave:∀(pl:List Ev.Place) (cc:SV) (ok b:Bool) (xs:List Bk) (a:Int) (ws:List Int) (l':List Value) (W:World) (L:List Bk),Sto B0 p0 (FF Z) pl (iB m cc ok b xs a ws) W->pl.length=8->Slots p0 l'->W.heap[w4.heap.size]? = some (.deferred (some []))->Blw B0 w0 W->W1.heap.size≤Z.heap.size->bZ m=(L,ok) ->
    (∃S1,nrm Tryz.prog ⟨[.frb 2],[2,3]⟩ (iZ eZ 6 m cc ok b xs a ws)=some S1∧jL Tryz.prog S1 Tryz.f29.results.toList (fun ss=>some ss)=some [.d (.sl bT) L,.d .bool ok]) ->
    bodyPostM Fence.wide 2 Tryz.prog Tryz.f29 R .ret ⟨l'.toArray,[{ target:=.collected w4.heap.size,args:=#[] }]⟩ W:=by
   intro pl cc ok b xs a ws l' W L k1 k2 k3 k4 k5 k6 k7 ⟨S1,z1,z3⟩;have hf6:=iW W w4.heap.size (.deferred none);have hDF:some w4.heap.size∈FF Z:=(hFm Z _).2 (.inr ⟨Nat.le_refl _,by omega⟩);have k1':=k1.turn (hf6.sub fun k hk=>by simp at hk;subst hk;exact hDF);have k5':Blw B0 w0 (W.putObj w4.heap.size (.deferred none)):=k5.trans (gX hf6 (fun k hk=>by simp at hk;subst hk;exact hbase _ bw4.size));obtain⟨pl',us,z4,z5,z6⟩:=DX (S:=iZ eZ 6 m cc ok b xs a ws) (l:=l') (hbo k5'.size k1') k1' rfl k2.symm (show 6=p0.length from hp0l.symm) k3.len (k3.fr k1'.pre (fun _ _=>rfl)) z1 z3;refine⟨by simp,.inl ⟨_,_,rfl,run_takeDeferred k4,?_⟩⟩;refine z6 R (hRe ?_);rw[k7];subst hB0;exact Ey hL (fun k hk=>(hFm Z k).2 (.inl hk)) k5' z5
  rcases hJ with ⟨pl,b,xs,a,ws,j1,j2,j3,j4,j5,j6,j7,j8,j9⟩ | ⟨k,hk,pl,b,xs,a,ws,j1,j2,j3,j4,j5,j6,j7,j8⟩
  ·have hend:=run_endLoop (P:=Tryz.prog) j8 (by simp[bY])
   have hf5:=iW W2 (w4.heap.size+1) (.loop { bY fn l4 w4.heap.size .ready none with state:=.exhausted });have hlb:some (w4.heap.size+1)∈FF Z:=(hFm Z _).2 (.inr ⟨by omega,by omega⟩);refine⟨none,_,hend,?_⟩;have j1':=j1.turn (hf5.sub fun k hk=>by simp at hk;subst hk;exact hlb);have j5':=j5.trans (gX hf5 (fun k hk=>by simp at hk;subst hk;exact hbase _ (by have:=bw4.size;omega)));refine aan (ds:=[{ target:=.collected w4.heap.size,args:=#[] }]) j1' j2 hs (fun k hk=>hbase k (Nat.le_trans j5'.size hk)) fun W' l' t1 t2 t3 t4=>?_;refine leave pl _ _ b xs a ws l' W' _ t1 j2 t2 ((t4 _ ((hFm Z _).2 (.inr ⟨Nat.le_refl _,by omega⟩))).trans ((World.putObj_heap_other (by omega)).trans j4)) (j5'.trans t3) j6 ?_ (afp m b xs a ws);unfold bZ;rw[if_neg hlen,<- hkeys2,j7]
  ·have hend:=run_endLoop (P:=Tryz.prog) j8 (by simp[bY])
   have hf5:=iW W2 (w4.heap.size+1) (.loop { bY fn l4 w4.heap.size .done (some .ret) with state:=.exhausted });have hlb:some (w4.heap.size+1)∈FF Z:=(hFm Z _).2 (.inr ⟨by omega,by omega⟩);refine⟨some .ret,_,hend,?_⟩;have j1':=j1.turn (hf5.sub fun k hk=>by simp at hk;subst hk;exact hlb);have j5':=j5.trans (gX hf5 (fun k hk=>by simp at hk;subst hk;exact hbase _ (by have:=bw4.size;omega)));refine wpIn_ret ?_;refine leave pl _ _ b xs a ws l4 _ _ j1' j2 hs ((World.putObj_heap_other (by omega)).trans j4) j5' j6 ?_ (afo m b xs a ws);unfold bZ;rw[if_neg hlen,<- hkeys2,<- List.take_append_drop k (sorted (vs.map (·.1))),C4,j7,Bc]
end Go.Proofs.Lx
end
noncomputable section
set_option maxRecDepth 100000
namespace Go.Proofs.Lx
open Go Go.Proofs Ev Sx
def lpB:Code->Code
 | .loop c=>c
 | _=>.skip
noncomputable def wdC:Code:=aai Tryz.prog 33
noncomputable def wd1:Code:=iI wdC
noncomputable def wdX:Code:=iI (cZ wdC)
noncomputable def wd4:Code:=iI (cZ (cZ wdC))
noncomputable def wdY:Code:=cZ (cZ (cZ wdC))
noncomputable def wd5:Code:=iI (iI wdY)
noncomputable def C8:Code:=lpB (Kk (cZ (iI wdY)))
noncomputable def wdZ:Code:=cZ wdY
noncomputable def wd6:Code:=iI (iI wdZ)
noncomputable def FV:Code:=lpB (Kk (cZ (iI wdZ)))
noncomputable def wdE:Code:=cZ wdZ
theorem akM:Tryz.f33.body=some (.seq wd1 (.seq wdX (.seq wd4 (.seq (.seq wd5 (.block 0 (.loop C8))) (.seq (.seq wd6 (.block 2 (.loop FV))) wdE))))):=rfl
noncomputable def wdH:Code:=iI FV
noncomputable def wdI:Code:=iI (cZ FV)
noncomputable def wdB:Code:=Kk (iI (cZ (cZ FV)))
noncomputable def wdS:Code:=cZ (cZ (cZ FV))
noncomputable def akN:Code:=iI wdB
noncomputable def akO:Code:=iI (cZ wdB)
noncomputable def akP:Code:=iI (cZ (cZ wdB))
noncomputable def yF:Code:=cZ (cZ (cZ wdB))
theorem ahZ:FV = .seq wdH (.seq wdI (.seq (.block 3 (.seq akN (.seq akO (.seq akP yF)))) wdS)):=rfl
abbrev afq:Ty:=.pr (.int .i64) (.int .u8)
abbrev ptT:Ty:=.pr .str (.pr (.int .i64) (.pr (.int .i64) (.pr .bool (.pr afq (.pr afq .str)))))
abbrev wB:Ty:=.pr .str (.sl ptT)
abbrev bX:Ty:=.sl wB
abbrev iF:Ty:=.pr .str (.pr afq (.pr .str (.int .i64)))
abbrev cr:Ty:=.pr .str (.pr (.int .i64) (.sl iF))
abbrev oG:Ty:=.pr .str (.sl cr)
abbrev sZ:Ty:=.pr (.int .i64) (.int .i64)
abbrev mT:Ty:=.mp kT uT
@[reducible] def vcS:Sh:=shD [bX,oG] [sZ]
@[reducible] def vfS:Sh:=shD [bX,.str] aV
@[reducible] def vwS:Sh:=shD [ptT,iF] aX
abbrev Vc:=As vcS.ps->Option (As vcS.rs)
abbrev Vf:=As vfS.ps->Option (As vfS.rs)
abbrev Vw:=As vwS.ps->Option (As vwS.rs)
def fJ(a:Vc)(b:Vf)(c:Vw):Env:=cts [(65,⟨vcS,a⟩),(15,⟨vfS,b⟩),(66,⟨vwS,c⟩)]
def wS0(t:Vl bX)(r:Vl oG):St:={ fr:=[(0,.d bX t),(1,.d oG r)],nt:=92,up:=[],own:=[],nx:=0,log:=[],ln:=0 }
def hW1:Hint:=⟨[],[0,3,4,5]⟩
def wFr(d:Vl bX)(c:List (Vl cr))(b a:Int):Fr:=[(0,.d bX d),(5,.pb 0 0),(38,.d (.sl cr) c),(39,.d kT b),(40,.d kT a)]
def ku:List (Nat×Ent):=[(0,.box 33 [.d kT 0,.d kT 0])]
def wS3(d:Vl bX)(c:List (Vl cr))(e:Value)(b a:Int):St:={ fr:=(7,.k e)::wFr d c b a,nt:=92,up:=[],own:=ku,nx:=1,log:=[],ln:=0 }
def hW2:Hint:=⟨[],[7,0,5,38,39,40]⟩
def hW3:Hint:=⟨[],[41,7,0,5,38,39,40]⟩
def akQ(d:Vl bX)(c:List (Vl cr))(b a:Int):Fr:=[(0,.d bX d),(5,.pb 1 0),(38,.d (.sl cr) c),(39,.d kT b),(40,.d kT a)]
def qd(y:Vl cr):List (Nat×Ent):=[(0,.box 43 [.d .str y.1,.d kT y.2.1,.d (.sl iF) y.2.2]),(1,.box 33 [.d kT 0,.d kT 0])]
def wS4(d:Vl bX)(c:List (Vl cr))(e:Value)(b a:Int)(f:Vl cr):St:={ fr:=(10,.pb 0 0)::(7,.k e)::akQ d c b a,nt:=92,up:=[],own:=qd f,nx:=2,log:=[],ln:=0 }
def hW4:Hint:=⟨[],[10,7,0,5,38,39,40]⟩
def wS5(f:Vl bX)(e:List (Vl cr))(g:Value)(c b:Int)(h:Vl cr)(a:Int)(d:Bool):St:={ fr:=(11,.d kT a)::(12,.d .bool d)::(10,.pb 0 0)::(7,.k g)::akQ f e c b,nt:=92,up:=[],own:=qd h,nx:=2,log:=[],ln:=0 }
def hW5:Hint:=⟨[],[11,12,10,7,0,5,38,39,40]⟩
def ati(d:Vl bX)(c:List (Vl cr))(b a:Int):Fr:=[(0,.d bX d),(5,.pb 3 0),(38,.d (.sl cr) c),(39,.d kT b),(40,.d kT a)]
def wS6(h:List Value)(g:Vl bX)(f:List (Vl cr))(e c:Int)(a:Vl cr)(b:Int)(d:dA):St:={ fr:=(11,.d kT b)::(10,.pb 2 0)::(7,.row 0)::ati g f e c,nt:=92,up:=[],own:=[(0,.rowq 74 h b [.mp 1]),(1,.dm kT uT d),(2,.box 43 [.d .str a.1,.d kT a.2.1,.d (.sl iF) a.2.2]),(3,.box 33 [.d kT 0,.d kT 0])],nx:=4,log:=[],ln:=2 }
def hW6:Hint:=⟨[],[7,0,5,38,39,40]⟩
def hWl:Hint:=⟨[],[11,7,0,5,38,39,40,54,55,56]⟩
def hWm:Hint:=⟨[],[11,14,7,0,5,38,39,40,54,55,56,64,65,66]⟩
def hsW(q:Nat):Option Hint:=if q=6 then some hWl else if q=1638 then some hWm else none
abbrev RW:=Ex×St
noncomputable def kW:Kt RW:=fun e S'=>(nrm Tryz.prog hW6 S').bind fun S1=>some (e,S1)
abbrev NW:Nat:=18446744073709551616
noncomputable def clW (vc:Vc) (vf:Vf) (vw:Vw):Cl RW:=evC (R:=RW) Tryz.prog (fJ vc vf vw) NW (fun _ _=>false) 2
def Bd(c:List Value)(a:Int)(b:dA):List (Nat×Ent):=[(0,.rowq 74 c a [.mp 1]),(1,.dm kT uT b),(2,.box 33 [.d kT 0,.d kT 0])]
def lFr(d:Vl bX)(c:List (Vl cr))(b a:Int):Fr:=[(7,.row 0),(0,.d bX d),(5,.pb 2 0),(38,.d (.sl cr) c),(39,.d kT b),(40,.d kT a)]
def wL1(j:List Value)(i:Vl bX)(g:List (Vl cr))(e c a:Int)(h:List (Vl iF))(f b:Int)(d:dA):St:={ fr:=(11,.d kT a)::(lFr i g e c++[(54,.d (.sl iF) h),(55,.d kT f),(56,.d kT b)]),nt:=92,up:=[],own:=Bd j a d,nx:=3,log:=[],ln:=2 }
def al9(d:List Value)(b:Int)(c:dA)(a:Vl iF):List (Nat×Ent):=[(0,.rowq 74 d b [.mp 1]),(1,.dm kT uT c),(2,.box 47 [.d .str a.1,.d kT a.2.1.1,.d (.int .u8) a.2.1.2,.d .str a.2.2.1,.d kT a.2.2.2]),(3,.box 33 [.d kT 0,.d kT 0])]
def wL2(n:List Value)(m:Vl bX)(i:List (Vl cr))(f d a:Int)(l:List (Vl iF))(h c:Int)(k:Vl iF)(j:List (Vl ptT))(g b:Int)(e:dA):St:={ fr:=(11,.d kT a)::(14,.pb 2 0)::(7,.row 0)::(0,.d bX m)::(5,.pb 3 0)::(38,.d (.sl cr) i)::(39,.d kT f)::(40,.d kT d)::(54,.d (.sl iF) l)::(55,.d kT h)::(56,.d kT c)::(64,.d (.sl ptT) j)::(65,.d kT g)::(66,.d kT b)::[],nt:=92,up:=[],own:=al9 n a e k,nx:=4,log:=[],ln:=2 }
noncomputable def pW (vc:Vc) (vf:Vf) (vw:Vw) (J:Orc RW) (q:Nat) (us:Us RW) (S:St):Option RW:=pce Tryz.prog (fJ vc vf vw) (clW vc vf vw) NW hsW J q yF 1 kW [] us S
end Go.Proofs.Lx
end
