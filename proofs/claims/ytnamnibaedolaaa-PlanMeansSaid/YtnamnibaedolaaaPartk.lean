/- Proved in the last of these 13 parts (this is part 11): PlanMeans: whatever the table, the recipe and the bank, the law returns true.. Conditions: those of the given statement, and no others. -/
import Derived.Test.YtnamnibaedolaaaPartf
import Derived.Test.YtnamnibaedolaaaPartj
import Derived.Test.YtnamnibaedolaaaParte
import Derived.Test.YtnamnibaedolaaaProg
import Derived.Test.YtnamnibaedolaaaParti
set_option linter.unusedVariables false
set_option linter.unusedSimpArgs false
set_option linter.unusedSectionVars false
section
set_option maxRecDepth 100000
namespace Go.Proofs.Lx
open Go Ev Sx Pl
@[reducible] def zK0:Type:=(List (Int×List Int))×(List (Int×List Int))×(Int)×(Int)->Option (As [.bool])
def q4y_ :=(fun (self:zK0) (s:(List (Int×List Int))×(List (Int×List Int))×(Int)×(Int))=>q4l_ (q6c_ (fun a b t12 t13=>self (a,b,t12,t13))) (fun a b t12 t13=>self (a,b,t12,t13)) s.1 s.2.1 s.2.2.1 s.2.2.2)
@[reducible] def zK1:Type:=List (Int×List Int)
theorem qe1_  (self:zK0) (a:zK1) (b:zK1) (t12:Int) (t13:Int):q4y_ self (a,b,t12,t13)=q4l_ (q6c_ (fun a b t12 t13=>self (a,b,t12,t13))) (fun a b t12 t13=>self (a,b,t12,t13)) a b t12 t13:=rfl
theorem qip_  (a:zK1) (b:zK1) (t12:Int) (t13:Int):q8r_ a b t12 t13=loopF (q4y_) 18446744073709551616 (a,b,t12,t13):=rfl
@[reducible] def zK2:Type:=(List Int)×(List Int)×(Int)×(Int)->Option (As [.bool])
def q6s_ :=(fun (self:zK2) (s:(List Int)×(List Int)×(Int)×(Int))=>q4m_ (fun a b t12 t13=>self (a,b,t12,t13)) s.1 s.2.1 s.2.2.1 s.2.2.2)
theorem qdl_  (self:zK2) (a:List Int) (b:List Int) (t12:Int) (t13:Int):q6s_ self (a,b,t12,t13)=q4m_ (fun a b t12 t13=>self (a,b,t12,t13)) a b t12 t13:=rfl
theorem qim_  (a:List Int) (b:List Int) (t12:Int) (t13:Int):q95_ a b t12 t13=loopF (q6s_) 18446744073709551616 (a,b,t12,t13):=rfl
@[reducible] def zK3:Type:=(List (Int×List Int))×(Int)×(Int)×(List Int)->Option (As [.sl (.int .u16)])
def q87_ :=(fun (self:zK3) (s:(List (Int×List Int))×(Int)×(Int)×(List Int))=>q65_ (q71_ (fun t12 t13 t14 bank=>self (t12,t13,t14,bank))) (fun t12 t13 t14 bank=>self (t12,t13,t14,bank)) s.1 s.2.1 s.2.2.1 s.2.2.2)
theorem qe4_  (self:zK3) (t12:zK1) (t13:Int) (t14:Int) (bank:List Int):q87_ self (t12,t13,t14,bank)=q65_ (q71_ (fun t12 t13 t14 bank=>self (t12,t13,t14,bank))) (fun t12 t13 t14 bank=>self (t12,t13,t14,bank)) t12 t13 t14 bank:=rfl
theorem qjf_  (t12:zK1) (t13:Int) (t14:Int) (bank:List Int):qa5_ t12 t13 t14 bank=loopF (q87_) 18446744073709551616 (t12,t13,t14,bank):=rfl
@[reducible] def zK4:Type:=List (Int×List Int)->Int->Int->List Int->Option (As [.sl (.int .u16)])
@[reducible] def zK5:Type:=(List (Int×List Int))×(Int)×(Int)×(List Int)×(Int)×(Int)×(List Int)×(Int×List Int)->Option (As [.sl (.int .u16)])
def q7f_ (u1:zK4):=(fun (self:zK5) (s:(List (Int×List Int))×(Int)×(Int)×(List Int)×(Int)×(Int)×(List Int)×(Int×List Int))=>q5v_ (q72_ u1 (fun t12 t13 t14 t19 t20 t21 bank x=>self (t12,t13,t14,t19,t20,t21,bank,x))) u1 (fun t12 t13 t14 t19 t20 t21 bank x=>self (t12,t13,t14,t19,t20,t21,bank,x)) s.1 s.2.1 s.2.2.1 s.2.2.2.1 s.2.2.2.2.1 s.2.2.2.2.2.1 s.2.2.2.2.2.2.1 s.2.2.2.2.2.2.2)
theorem qef_ (u1:zK4) (self:zK5) (t12:zK1) (t13 t14:Int) (t19:List Int) (t20 t21:Int) (bank:List Int) (x:Int×List Int):q7f_ u1 self (t12,t13,t14,t19,t20,t21,bank,x)=q5v_ (q72_ u1 (fun t12 t13 t14 t19 t20 t21 bank x=>self (t12,t13,t14,t19,t20,t21,bank,x))) u1 (fun t12 t13 t14 t19 t20 t21 bank x=>self (t12,t13,t14,t19,t20,t21,bank,x)) t12 t13 t14 t19 t20 t21 bank x:=rfl
theorem qji_ (u1:zK4) (t12:zK1) (t13 t14:Int) (t19:List Int) (t20 t21:Int) (bank:List Int) (x:Int×List Int):q71_ u1 t12 t13 t14 t19 t20 t21 bank x=loopF (q7f_ u1) 18446744073709551616 (t12,t13,t14,t19,t20,t21,bank,x):=rfl
theorem regs_go (a b:List Int) (hl:a.length=b.length) (hs:a.length≤1000000):∀ (k i n:Nat),i + k=a.length->k < n->loopF q6s_ n (a,b,Int.ofNat a.length,(i:Int))=some (decide (a.drop i=b.drop i),())
 | k,_,0,_,h=>by omega
 | 0,i,n + 1,h,_=>by
  rw [q6_,qdl_]
  unfold q4m_
  rw [if_neg (by rw [q0_,q1_]; omega),List.drop_eq_nil_of_le (by omega),List.drop_eq_nil_of_le (by omega)]
  simp
 | k + 1,i,n + 1,h,hn=>by
  have hw:i < a.length:=by omega
  have hv:i < b.length:=by omega
  rw [q6_,qdl_]
  unfold q4m_
  rw [if_pos (by rw [q0_,q1_]; omega),qg_ (List.getElem?_eq_getElem hw),Option.bind_some,qg_ (List.getElem?_eq_getElem hv),Option.bind_some,List.drop_eq_getElem_cons hw,List.drop_eq_getElem_cons hv]
  rw [show add .i64 (i:Int) 1=((i + 1:Nat):Int) from ql_ (by omega)]
  have ih:=regs_go a b hl hs k (i + 1) n (by omega) (by omega)
  show (if nei a[i] b[i]=true then _ else loopF q6s_ n (a,b,Int.ofNat a.length,((i + 1:Nat):Int)))=_
  rw [ih]
  generalize a[i]=x,b[i]=y,a.drop (i + 1)=p,b.drop (i + 1)=q
  by_cases hc:x=y
  ·rw [if_neg (by rw [qe_]; simp [hc])]
   simp [hc]
  ·rw [if_pos (qe_.2 hc)]
   simp [hc]
theorem regs_eq (a b:List Int) (h1:a.length≤1000000) (h2:b.length≤1000000):q36_ (a,b,())=some (decide (a=b),()):=by
 show q8x_ q95_ a b=_
 unfold q8x_
 by_cases hl:a.length=b.length
 ·rw [if_neg (by rw [qe_,q1_,q1_]; omega),qim_]
  have:=regs_go a b hl h1 a.length 0 18446744073709551616 (by omega) (by omega)
  simpa using this
 ·rw [if_pos (by rw [qe_,q1_,q1_]; omega)]
  have:a ≠ b:=fun e=>hl (by rw [e])
  simp [this]
def SmB (l:List Bk):Prop:=l.length≤1000000∧∀ b ∈ l,b.2.length≤1000000
theorem same_go (a b:List Bk) (hl:a.length=b.length) (ha:SmB a) (hb:SmB b):∀ (k i n:Nat),i + k=a.length->k < n->loopF q4y_ n (a,b,Int.ofNat a.length,(i:Int))=some (decide (a.drop i=b.drop i),())
 | k,_,0,_,h=>by omega
 | 0,i,n + 1,h,_=>by
  rw [q6_,qe1_]
  unfold q4l_
  rw [if_neg (by rw [q0_,q1_]; omega),List.drop_eq_nil_of_le (by omega),List.drop_eq_nil_of_le (by omega)]
  simp
 | k + 1,i,n + 1,h,hn=>by
  have hw:i < a.length:=by omega
  have hv:i < b.length:=by omega
  have h6:=ha.1
  rw [q6_,qe1_]
  unfold q4l_
  rw [if_pos (by rw [q0_,q1_]; omega),qg_ (List.getElem?_eq_getElem hw),Option.bind_some,qg_ (List.getElem?_eq_getElem hv),Option.bind_some,List.drop_eq_getElem_cons hw,List.drop_eq_getElem_cons hv,Option.bind_some,Option.bind_some,
   regs_eq _ _ (ha.2 _ (List.getElem_mem hw)) (hb.2 _ (List.getElem_mem hv)),Option.bind_some]
  have hk:∀ c,q6c_ (fun a b t12 t13=>loopF q4y_ n (a,b,t12,t13)) a b (Int.ofNat a.length) (i:Int) c=if c=true then some (false,()) else some (decide (a.drop (i + 1)=b.drop (i + 1)),()):=fun c=>by
   show q92_ _ a b _ _ c=_
   unfold q92_
   rw [show add .i64 (i:Int) 1=((i + 1:Nat):Int) from ql_ (by omega)]
   have ih:=same_go a b hl ha hb k (i + 1) n (by omega) (by omega)
   show (if c=true then _ else loopF q4y_ n (a,b,Int.ofNat a.length,((i + 1:Nat):Int)))=_
   rw [ih]
  rw [hk,hk]
  generalize a[i]=x,b[i]=y,a.drop (i + 1)=p,b.drop (i + 1)=q
  by_cases h1:x.1=y.1
  ·rw [if_neg (by rw [qe_]; simp [h1])]
   by_cases h2:x.2=y.2
   ·have:x=y:=Prod.ext h1 h2
    simp [this]
   ·have:¬ x=y:=fun e=>h2 (by rw [e])
    simp [this,h2]
  ·have:¬ x=y:=fun e=>h1 (by rw [e])
   rw [if_pos (qe_.2 h1),if_pos rfl]
   simp [this]
theorem same_eq (a b:List Bk) (ha:SmB a) (hb:SmB b):qaj_ (a,b,())=some (decide (a=b),()):=by
 show q8y_ q8r_ a b=_
 unfold q8y_
 by_cases hl:a.length=b.length
 ·rw [if_neg (by rw [qe_,q1_,q1_]; omega),qip_]
  have:=same_go a b hl ha hb a.length 0 18446744073709551616 (by omega) (by have:=ha.1; omega)
  simpa using this
 ·rw [if_pos (by rw [qe_,q1_,q1_]; omega)]
  have:a ≠ b:=fun e=>hl (by rw [e])
  simp [this]
end Go.Proofs.Lx
end
section
set_option maxRecDepth 100000
namespace Go.Proofs.Lx
open Go Ev Sx Pl
def setW (bank:List Int) (a w:Int):List Int:=if 0≤a∧a < (bank.length:Int) then bank.set a.toNat w else bank
theorem setW_len (bank:List Int) (a w:Int):(setW bank a w).length=bank.length:=by unfold setW; split <;> simp
def overW:List Int->Int->List Int->List Int
 | bank,_,[]=>bank
 | bank,a,w::r=>overW (setW bank a w) (a + 1) r
theorem overW_len:∀ (ws bank:List Int) (a:Int),(overW bank a ws).length=bank.length
 | [],_,_=>rfl
 | w::r,bank,a=>by rw [overW,overW_len r,setW_len]
def over:List Int->List Bk->List Int
 | bank,[]=>bank
 | bank,b::r=>over (overW bank b.1 b.2) r
theorem over_len:∀ (l:List Bk) (bank:List Int),(over bank l).length=bank.length
 | [],_=>rfl
 | b::r,bank=>by rw [over,over_len r,overW_len]
def FitB (l:List Bk):Prop:=l.length≤1000000∧∀ b ∈ l,b.2.length≤1000000∧-1000000≤b.1∧b.1≤1000000
theorem FitB.sm {l:List Bk} (h:FitB l):SmB l:=⟨h.1,fun b hb=>(h.2 b hb).1⟩
theorem at_some_in {α:Type} {s:List α} {i:Int} (h:0≤i∧i < (s.length:Int)):∃ c,at? s i=some c:=by
 obtain ⟨n,rfl⟩:=Int.eq_ofNat_of_zero_le h.1
 exact ⟨_,qg_ (List.getElem?_eq_getElem (show n < s.length by omega))⟩
theorem over_in (u1:List Bk->Int->Int->List Int->Option (As [.sl (.int .u16)])) (l:List Bk) (j:Int) (x:Bk) (h1:x.2.length≤1000000) (h2:-1000000≤x.1∧x.1≤1000000) :
  ∀ (k i n:Nat) (bank:List Int),i + k=x.2.length->k < n->bank.length≤1000000->loopF (q7f_ u1) n (l,Int.ofNat l.length,j,x.2,Int.ofNat x.2.length,(i:Int),bank,x)=u1 l (Int.ofNat l.length) (add .i64 j 1) (overW bank (x.1 + (i:Int)) (x.2.drop i))
 | k,_,0,_,_,h,_=>by omega
 | 0,i,n + 1,bank,h,_,hb=>by
  rw [q6_,qef_]
  unfold q5v_
  rw [if_neg (by rw [q0_,q1_]; omega),List.drop_eq_nil_of_le (by omega)]
  rfl
 | k + 1,i,n + 1,bank,h,hn,hb=>by
  have hw:i < x.2.length:=by omega
  rw [q6_,qef_]
  unfold q5v_
  have ea:add .i64 x.1 (i:Int)=x.1 + (i:Int):=add64 (by omega) (by omega)
  rw [if_pos (by rw [q0_,q1_]; omega),qg_ (List.getElem?_eq_getElem hw),Option.bind_some,ea,List.drop_eq_getElem_cons hw,overW,Int.add_assoc]
  have e1:add .i64 (i:Int) 1=((i + 1:Nat):Int):=ql_ (by omega)
  have e2:((i:Int) + 1)=((i + 1:Nat):Int):=by omega
  have ih:=fun bank' hb'=>over_in u1 l j x h1 h2 k (i + 1) n bank' (by omega) (by omega) hb'
  have step:∀ c:Bool,c=decide (0≤x.1 + (i:Int)∧x.1 + (i:Int) < (bank.length:Int))->q72_ u1 (fun t12 t13 t14 t19 t20 t21 bank x=>loopF (q7f_ u1) n (t12,t13,t14,t19,t20,t21,bank,x)) x.2[i] (x.1 + (i:Int)) l (Int.ofNat l.length) j x.2 (Int.ofNat x.2.length) (i:Int) c bank x =
    u1 l (Int.ofNat l.length) (add .i64 j 1) (overW (setW bank (x.1 + (i:Int)) x.2[i]) (x.1 + ((i:Int) + 1)) (x.2.drop (i + 1))):=by
   intro c hc
   show qab_ u1 _ x.2[i] (x.1 + (i:Int)) l (Int.ofNat l.length) j x.2 (Int.ofNat x.2.length) (i:Int) c bank x=_
   unfold qab_
   rw [e1]
   by_cases hin:0≤x.1 + (i:Int)∧x.1 + (i:Int) < (bank.length:Int)
   ·obtain ⟨v,hv⟩:=at_some_in hin
    rw [hc,if_pos (by simpa using hin),hv,Option.bind_some,Option.bind_some]
    have hs:setW bank (x.1 + (i:Int)) x.2[i]=bank.set (x.1 + (i:Int)).toNat x.2[i]:=by unfold setW; rw [if_pos hin]
    rw [hs,e2]
    exact ih _ (by simpa using hb)
   ·rw [hc,if_neg (by simpa using hin)]
    have hs:setW bank (x.1 + (i:Int)) x.2[i]=bank:=by unfold setW; rw [if_neg hin]
    rw [hs,e2]
    exact ih _ hb
  by_cases h0:0≤x.1 + (i:Int)
  ·rw [if_pos (ge_iff.2 h0)]
   exact step _ (by simp [lt,h0])
  ·rw [if_neg (by rw [ge_iff]; exact h0)]
   exact step _ (by simp [h0])
theorem over_out (l:List Bk) (h:FitB l):∀ (k j n:Nat) (bank:List Int),j + k=l.length->k < n->bank.length≤1000000->loopF q87_ n (l,Int.ofNat l.length,(j:Int),bank)=some (over bank (l.drop j),())
 | k,_,0,_,_,h,_=>by omega
 | 0,j,n + 1,bank,hj,_,hb=>by
  rw [q6_,qe4_]
  unfold q65_
  rw [if_neg (by rw [q0_,q1_]; omega),List.drop_eq_nil_of_le (by omega)]
  rfl
 | k + 1,j,n + 1,bank,hj,hn,hb=>by
  have hw:j < l.length:=by omega
  have h6:=h.1
  have h7:=h.2 _ (List.getElem_mem hw)
  rw [q6_,qe4_]
  unfold q65_
  rw [if_pos (by rw [q0_,q1_]; omega),qg_ (List.getElem?_eq_getElem hw),Option.bind_some,qji_]
  have:=over_in (fun t12 t13 t14 bank=>loopF q87_ n (t12,t13,t14,bank)) l (j:Int) l[j] h7.1 h7.2 l[j].2.length 0 18446744073709551616 bank (by omega) (by omega) hb
  refine Eq.trans this ?_
  rw [show add .i64 (j:Int) 1=((j + 1:Nat):Int) from ql_ (by omega)]
  refine (over_out l h k (j + 1) n _ (by omega) (by omega) (by rw [overW_len]; exact hb)).trans ?_
  rw [List.drop_eq_getElem_cons hw,over]
  simp
theorem eqAs_r {rs:List Ty} (a:Option (As rs)):amb (eqAs rs) [a,a]=a:=amb2 (eqAs_refl rs) a
theorem clone_n (s:List Int) (h:s.length≤1000000):q2g_ (s,())=some (s,()):=by
 show q35_ s=_
 unfold q35_
 by_cases h0:s=[]
 ·subst h0
  rw [if_pos (by decide),qk_ (by decide)]
  exact eqAs_r _
 ·have:s.length ≠ 0:=fun e=>h0 (List.eq_nil_of_length_eq_zero e)
  rw [if_neg (by rw [q9_,q1_]; omega),need_small (by omega)]
theorem over_eq (bank:List Int) (l:List Bk) (hb:bank.length≤1000000) (h:FitB l):q66_ (bank,l,())=some (over bank l,()):=by
 show q9x_ qa5_ bank l=_
 unfold q9x_
 rw [clone_n bank hb,Option.bind_some,qjf_]
 have:=over_out l h l.length 0 18446744073709551616 bank (by omega) (by have:=h.1; omega) hb
 simpa using this
theorem blocks_eq {m:List (Int×Int)} (h:m.all keyOk=true):q2i_ (m,())=some ((bkRes m).1,(bkRes m).2,m,()):=by
 show (if m.all keyOk=true then _ else _)=_
 rw [if_pos h]
theorem res1:bkRes [(3,7),(4,8),(6,9)]=([(3,[7,8]),(6,[9])],true):=by
 rw [bkRes_rise (by unfold rise; decide) (by decide)]
 decide
theorem res2:bkRes [(64,1)]=([],false):=bkRes_far (m:=[]) (by unfold rise; decide) (by simp) 1
def m15:List (Int×Int):=[(0,0),(1,1),(2,2),(3,3),(4,4),(5,5),(6,6),(7,7),(8,8),(9,9),(10,10),(11,11),(12,12),(13,13),(14,14)]
theorem res3:bkRes m15=([(0,[0,1,2,3,4,5,6,7,8,9,10,11,12,13]),(14,[14])],true):=by
 rw [bkRes_rise (by unfold rise m15; decide) (by decide)]
 decide
theorem awake_loop (a:List Bk) (x:Bool):q5h_ a x 0 []=qbc_ a x m15:=by kernel_rfl
theorem awake:q1v_ ()=some (true,()):=by
 show q79_ q5h_=_
 unfold q79_
 rw [blocks_eq (by decide),res1,Option.bind_some]
 show q5h_ [(3,[7,8]),(6,[9])] true 0 []=_
 rw [awake_loop]
 show q7a_ [(3,[7,8]),(6,[9])] true m15=_
 unfold q7a_
 rw [blocks_eq (m:=m15) (by decide),res3,Option.bind_some,blocks_eq (by decide),res2,Option.bind_some,if_pos rfl,if_pos rfl,if_pos (by decide),
  same_eq _ _ ⟨by decide,by decide⟩ ⟨by decide,by decide⟩,Option.bind_some,if_pos (by decide),if_pos (by decide)]
 show Option.bind (some (0,[0,1,2,3,4,5,6,7,8,9,10,11,12,13])) _=_
 rw [Option.bind_some,if_pos (by decide)]
 show Option.bind (some (14,[14])) _=_
 rw [Option.bind_some,if_pos (by decide),over_eq _ _ (by decide) ⟨by decide,by decide⟩,Option.bind_some,regs_eq _ _ (by rw [over_len]; decide) (by decide),Option.bind_some]
 decide
end Go.Proofs.Lx
end
section
set_option maxRecDepth 100000
namespace Go.Proofs.Lx
open Go Ev Sx Pl
theorem fl_at:∀ {ws:List Int} {a:Int} {i:Nat} {x:Int},ws[i]? = some x->(a + (i:Int),x) ∈ fl a ws
 | [],_,_,_,h=>by simp at h
 | w::r,a,0,x,h=>by simp at h; subst h; simp [fl]
 | w::r,a,i + 1,x,h=>by
  have:=fl_at (a:=a + 1) (show r[i]? = some x by simpa using h)
  rw [show a + 1 + (i:Int)=a + ((i + 1:Nat):Int) by omega] at this
  exact List.mem_cons_of_mem _ this
end Go.Proofs.Lx
end
section
open Go Go.Proofs Ev Sx
set_option maxRecDepth 100000
namespace Go.Proofs.Lx
abbrev QMT0:Type:=(List UInt8×Int×Int×Bool×(Int×Int)×(Int×Int)×List UInt8)
abbrev QMT6:Type:=(List UInt8×(Int×Int)×List UInt8×Int)
abbrev QMT1:Type:=(List UInt8×Int×List QMT6)
abbrev QMT2:Ty:=(.sl (.pr .str (.pr (.int .i64) (.pr (.int .i64) (.pr .bool (.pr (.pr (.int .i64) (.int .u8)) (.pr (.pr (.int .i64) (.int .u8)) .str)))))))
abbrev QMT3:Type:=(Int×List (Int×List Int))
abbrev QMT4:Ty:=(.sl (.pr .str (.pr (.int .i64) (.sl (.pr .str (.pr (.pr (.int .i64) (.int .u8)) (.pr .str (.int .i64))))))))
abbrev QMT5:Ty:=(.pr (.int .i64) (.sl (.pr (.int .i64) (.sl (.int .u16)))))
@[reducible] def q6h_:Sh:=⟨[.d (.sl (.pr .str QMT2)),.d (.pr .str QMT4)],[],[.sl (.pr .str QMT2),.pr .str QMT4],[.d (.sl QMT5),.d (.pr (.int .i64) (.int .i64))],[],0,[.sl QMT5,.pr (.int .i64) (.int .i64)]⟩
def qca_:Env:=(cts [(8,(⟨q21_,q6f_⟩:Ct)),(20,(⟨q15_,qdd_⟩:Ct)),(27,(⟨q40_,q1k_⟩:Ct))])
def qcb_:List (Nat×Hint):=[(15,⟨[],[5,6]⟩),(63,⟨[],[5,14]⟩),(506,⟨[.row 14 64],[5,14,58,59,60]⟩),(122,⟨[],[0,5,6,30,31,32]⟩)]
@[reducible] def zK6:Type:=List (List UInt8×List QMT0)
@[reducible] def zK7:Type:=List (List (Int×Int))
def q70_ (t:zK6) (words:zK7) (t30:List QMT1) (t31 t32:Int) (t5:Int×Int):St:=⟨[(0,.d (.sl (.pr .str QMT2)) t),(5,.pb 0 0),(6,.d (.sl (.mp (.int .i64) (.int .u16))) words),(30,.d QMT4 t30),(31,dI t31),(32,dI t32)],82,[],[(0,.box 50 [dI t5.1,dI t5.2])],1,[],0⟩
def qdq_ (words:zK7) (t5:Int×Int):St:=⟨[(5,.pb 0 0),(6,.d (.sl (.mp (.int .i64) (.int .u16))) words)],82,[],[(0,.box 50 [dI t5.1,dI t5.2])],1,[],0⟩
def q74_ (t58:zK7) (t59 t60:Int) (t5:Int×Int) (l:List QMT3):St:=⟨[(5,.pb 0 0),(14,.row 1),(58,.d (.sl (.mp (.int .i64) (.int .u16))) t58),(59,dI t59),(60,dI t60)],82,[],[(0,.box 50 [dI t5.1,dI t5.2]),(1,.row QMT5 64 l)],2,[],0⟩
def qdk_ (t5:Int×Int) (l:List QMT3):St:=⟨[(5,.pb 0 0),(14,.row 1)],82,[],[(0,.box 50 [dI t5.1,dI t5.2]),(1,.row QMT5 64 l)],2,[],0⟩
@[reducible] def zK8:Type:=List (List UInt8×List QMT0)->List (List (Int×Int))->List QMT1->Int->Int->Int×Int->Option (As [.sl QMT5,.pr (.int .i64) (.int .i64)])
def q5r_ (j2:List (List (Int×Int))->Int×Int->Option (As [.sl QMT5,.pr (.int .i64) (.int .i64)])) (self1:zK8) (t:zK6) (words:zK7) (t30:List QMT1) (t31 t32:Int) (t5:Int×Int):Option (As [.sl QMT5,.pr (.int .i64) (.int .i64)]) :=
 if lt t32 t31=true then Option.bind (at? t30 t32) fun y=>Option.bind (q1k_ (t,y.1,())) fun y_1=>if y_1.2.1=true then Option.bind (at? words y_1.1) fun y_2=>Option.bind (q6f_ (y_2,())) fun y_3=>if (!y_3.2.1)=true then some ([],(160,y.2.1),()) else self1 t words t30 t31 (add .i64 t32 1) t5 else self1 t words t30 t31 (add .i64 t32 1) t5 else j2 words t5
@[reducible] def zK9:Type:=List (List (Int×Int))->Int->Int->Int×Int->List QMT3->Option (As [.sl QMT5,.pr (.int .i64) (.int .i64)])
def qh2_ (j3:zK9) (words:zK7) (t5:Int×Int):Option (As [.sl QMT5,.pr (.int .i64) (.int .i64)]) :=
 j3 words (Int.ofNat (List.length words)) 0 t5 []
def q5t_ (j4:Int×Int->List QMT3->Option (As [.sl QMT5,.pr (.int .i64) (.int .i64)])) (self3:zK9) (t58:zK7) (t59 t60:Int) (t5:Int×Int) (l:List QMT3):Option (As [.sl QMT5,.pr (.int .i64) (.int .i64)]) :=
 if lt t60 t59=true then Option.bind (at? t58 t60) fun y=>Option.bind (q6f_ (y,())) fun y=>if gt (Int.ofNat (List.length y.1)) 0=true then need (small (List.length l + Nat.succ 0)) (self3 t58 t59 (add .i64 t60 1) t5 (l++[(t60,y.1)])) else self3 t58 t59 (add .i64 t60 1) t5 l else j4 t5 l
def qh7_ (t5:Int×Int) (l:List QMT3):Option (As [.sl QMT5,.pr (.int .i64) (.int .i64)]) :=
 some (l,(0,0),())
@[reducible] def zK10:Type:=List UInt8×List QMT1
def qam_ (j1:zK8) (t:zK6) (r:zK10):Option (As [.sl QMT5,.pr (.int .i64) (.int .i64)]) :=
 Option.bind (qdd_ (t,r,())) fun y=>if (!(eqi y.2.1.1 0 && (eqi y.2.1.2 0 && true)))=true then some ([],y.2.1,()) else j1 t y.1 r.2 (Int.ofNat (List.length r.2)) 0 (0,0)
def qa3_ (t5:Int×Int) (l:List QMT3):Option (As [.sl QMT5,.pr (.int .i64) (.int .i64)]):=qh7_ t5 l
def qat_ (t58:zK7) (t59 t60:Int) (t5:Int×Int) (l:List QMT3):Option (As [.sl QMT5,.pr (.int .i64) (.int .i64)]) :=
 loopF (fun (self:(List (List (Int×Int)))×(Int)×(Int)×(Int×Int)×(List QMT3)->Option (As [.sl QMT5,.pr (.int .i64) (.int .i64)])) (s:(List (List (Int×Int)))×(Int)×(Int)×(Int×Int)×(List QMT3))=>q5t_ (qa3_) (fun t58 t59 t60 t5 l=>self (t58,t59,t60,t5,l)) s.1 s.2.1 s.2.2.1 s.2.2.2.1 s.2.2.2.2) 18446744073709551616 (t58,t59,t60,t5,l)
def q73_ (words:zK7) (t5:Int×Int):Option (As [.sl QMT5,.pr (.int .i64) (.int .i64)]):=qh2_ (qat_) words t5
def qa7_ (t:zK6) (words:zK7) (t30:List QMT1) (t31 t32:Int) (t5:Int×Int):Option (As [.sl QMT5,.pr (.int .i64) (.int .i64)]) :=
 loopF (fun (self:(List (List UInt8×List QMT0))×(List (List (Int×Int)))×(List QMT1)×(Int)×(Int)×(Int×Int)->Option (As [.sl QMT5,.pr (.int .i64) (.int .i64)])) (s:(List (List UInt8×List QMT0))×(List (List (Int×Int)))×(List QMT1)×(Int)×(Int)×(Int×Int))=>q5r_ (q73_) (fun t words t30 t31 t32 t5=>self (t,words,t30,t31,t32,t5)) s.1 s.2.1 s.2.2.1 s.2.2.2.1 s.2.2.2.2.1 s.2.2.2.2.2) 18446744073709551616 (t,words,t30,t31,t32,t5)
def qcl_ (x:As [.sl (.pr .str QMT2),.pr .str QMT4]):Option (As [.sl QMT5,.pr (.int .i64) (.int .i64)]):=qam_ qa7_ x.1 x.2.1
noncomputable abbrev plan_Make_P:=pfn Try.prog qca_ 6 18446744073709551616 (Ev.get qcb_) 17 q6h_
theorem qrl_ {J t5 l}:plan_Make_P J 63 [] (qdk_ t5 l)=qh7_ t5 l:=by kernel_rfl
theorem qrc_ {J w3 t58 t59 t60 t5 l}:plan_Make_P J 506 [w3] (q74_ t58 t59 t60 t5 l)=q5t_ (fun t5 l=>J 63 [] (qdk_ t5 l)) (fun t58 t59 t60 t5 l=>w3 (q74_ t58 t59 t60 t5 l)) t58 t59 t60 t5 l:=by kernel_rfl
theorem qqr_ {J words t5}:plan_Make_P J 15 [] (qdq_ words t5)=qh2_ (fun t58 t59 t60 t5 l=>J 506 [] (q74_ t58 t59 t60 t5 l)) words t5:=by kernel_rfl
theorem qs1_ {J w1 t words t30 t31 t32 t5}:plan_Make_P J 122 [w1] (q70_ t words t30 t31 t32 t5)=q5r_ (fun words t5=>J 15 [] (qdq_ words t5)) (fun t words t30 t31 t32 t5=>w1 (q70_ t words t30 t31 t32 t5)) t words t30 t31 t32 t5:=by kernel_rfl
theorem qr3_ (J:Orc (As [.sl QMT5,.pr (.int .i64) (.int .i64)])) (x:As [.sl (.pr .str QMT2),.pr .str QMT4]):rfn Try.prog qca_ 6 18446744073709551616 (Ev.get qcb_) 17 q6h_ J x=qam_ (fun t words t30 t31 t32 t5=>J 122 [] (q70_ t words t30 t31 t32 t5)) x.1 x.2.1:=by kernel_rfl
noncomputable abbrev plan_Make_J:=jfn Try.prog qca_ 6 18446744073709551616 (Ev.get qcb_) 17 q6h_
theorem qqz_  (t5 l):plan_Make_J 63 [] (qdk_ t5 l)=qa3_ t5 l:=gN (by decide) qrl_
theorem qqq_  (t58 t59 t60 t5 l):plan_Make_J 506 [] (q74_ t58 t59 t60 t5 l)=qat_ t58 t59 t60 t5 l:=gL (σ:=(List (List (Int×Int)))×(Int)×(Int)×(Int×Int)×(List QMT3)) (mk:=fun s=>q74_ s.1 s.2.1 s.2.2.1 s.2.2.2.1 s.2.2.2.2) (by decide) (by kernel_rfl) (fun w3 s=>qrc_.trans (by simp only [qqz_])) (t58,t59,t60,t5,l)
theorem qr6_  (words t5):plan_Make_J 15 [] (qdq_ words t5)=q73_ words t5:=gN (by decide) (qqr_.trans (by simp only [qqq_]; rfl))
theorem qrm_  (t words t30 t31 t32 t5):plan_Make_J 122 [] (q70_ t words t30 t31 t32 t5)=qa7_ t words t30 t31 t32 t5:=gL (σ:=(List (List UInt8×List QMT0))×(List (List (Int×Int)))×(List QMT1)×(Int)×(Int)×(Int×Int)) (mk:=fun s=>q70_ s.1 s.2.1 s.2.2.1 s.2.2.2.1 s.2.2.2.2.1 s.2.2.2.2.2) (by decide) (by kernel_rfl) (fun w1 s=>qs1_.trans (by simp only [qr6_])) (t,words,t30,t31,t32,t5)
theorem qsl_ (x:As [.sl (.pr .str QMT2),.pr .str QMT4]):evT Try.prog qca_ 6 18446744073709551616 (Ev.get qcb_) 17 q6h_ x=qcl_ x:=by
 rw [rfn_eq,qr3_]
 simp only [qrm_]
 rfl
theorem qrh_:CtOk Try.prog (fun _=>True) 17 ⟨q6h_,qcl_⟩:=qh_ (q3_ qiq_ (q3_ qov_ (q3_ qct_ qc_))) qsl_
@[reducible] def q2w_:Sh:=⟨[.d (.pr .str QMT2),.d (.pr .str QMT4),.d (.sl (.int .u16)),.d (.sl (.int .u16))],[],[.pr .str QMT2,.pr .str QMT4,.sl (.int .u16),.sl (.int .u16)],[.d (.bool)],[],0,[.bool]⟩
def q8u_:Env:=(cts [(38,(⟨q67_,q2a_⟩:Ct)),(39,(⟨q4g_,q1w_⟩:Ct))])
def q96_:List (Nat×Hint):=[(7,⟨[],[2,3,9,105,106,107,108,109,110,111,112,113]⟩),(122,⟨[],[2,3,9,96,97,105,106,107,108,109,110,111,112,113]⟩),(7833,⟨[.agd 105 (.sl (.int .u16)),.agd 106 (.int .i64),.agd 108 (.int .u16),.agd 109 (.sl (.int .u16)),.agd 110 (.int .i64),.agd 112 (.int .u16),.agd 113 .bool],[2,3,9,96,97,114]⟩),(58,⟨[],[2,3,4,9,23,24,25,79,80,83,84,85,105,106,107,108,109,110,111,112,113]⟩),(29902,⟨[],[2,3,4,9,23,24,25,35,36,37,79,80,83,84,85,105,106,107,108,109,110,111,112,113]⟩),(7655014,⟨[],[2,3,4,9,13,23,24,25,35,36,37,42,43,44,79,80,83,84,85,105,106,107,108,109,110,111,112,113]⟩),(1959683687,⟨[],[2,3,4,9,13,15,16,17,18,19,23,24,25,35,36,37,42,43,44,79,80,83,84,85,105,106,107,108,109,110,111,112,113]⟩),(7838734750,⟨[.agd 79 .bool,.agd 80 .bool,.agd 83 (.pr (.int .i64) (.int .u8)),.agd 84 (.pr (.int .i64) (.int .u8)),.agd 85 .bool],[2,3,4,9,13,15,23,24,25,35,36,37,42,43,44,86]⟩)]
@[reducible] def zK11:Type:=List UInt8×List QMT0
@[reducible] def zK12:Type:=List (Int×Int)
def qp_ (was now:List Int) (t23:List QMT1) (t24 t25:Int) (d:zK11) (said:zK12):St:=⟨[(2,dW was),(3,dW now),(4,.pb 0 0),(9,.mp 1),(23,.d QMT4 t23),(24,dI t24),(25,dI t25)],116,[],[(0,.box 67 [dS d.1,.d QMT2 d.2]),(1,.dm (.int .i64) (.int .i64) said)],2,[],0⟩
def qz_ (was now:List Int) (t23:List QMT1) (t24 t25:Int) (t35:List QMT6) (t36 t37:Int) (d:zK11) (said:zK12):St:=⟨[(2,dW was),(3,dW now),(4,.pb 0 0),(9,.mp 1),(23,.d QMT4 t23),(24,dI t24),(25,dI t25),(35,.d (.sl (.pr .str (.pr (.pr (.int .i64) (.int .u8)) (.pr .str (.int .i64))))) t35),(36,dI t36),(37,dI t37)],116,[],[(0,.box 67 [dS d.1,.d QMT2 d.2]),(1,.dm (.int .i64) (.int .i64) said)],2,[],0⟩
def qbn_ (was now:List Int) (said:zK12):St:=⟨[(2,dW was),(3,dW now),(9,.mp 0)],116,[],[(0,.dm (.int .i64) (.int .i64) said)],1,[],0⟩
@[reducible] def zK13:Type:=List UInt8×(Int×Int)×List UInt8×Int
def q1h_ (was now:List Int) (t23:List QMT1) (t24 t25:Int) (t35:List QMT6) (t36 t37:Int) (t42:List QMT0) (t43 t44:Int) (d:zK11) (said:zK12) (s:zK13):St:=⟨[(2,dW was),(3,dW now),(4,.pb 0 0),(9,.mp 1),(13,.pb 2 0),(23,.d QMT4 t23),(24,dI t24),(25,dI t25),(35,.d (.sl (.pr .str (.pr (.pr (.int .i64) (.int .u8)) (.pr .str (.int .i64))))) t35),(36,dI t36),(37,dI t37),(42,.d QMT2 t42),(43,dI t43),(44,dI t44)],116,[],[(0,.box 67 [dS d.1,.d QMT2 d.2]),(1,.dm (.int .i64) (.int .i64) said),(2,.box 82 [dS s.1,dI s.2.1.1,d8 s.2.1.2,dS s.2.2.1,dI s.2.2.2])],3,[],0⟩
def q2f_ (was now:List Int) (t96 t97:Int) (said:zK12):St:=⟨[(2,dW was),(3,dW now),(9,.mp 0),(96,dI t96),(97,dI t97)],116,[],[(0,.dm (.int .i64) (.int .i64) said)],1,[],0⟩
@[reducible] def zK14:Type:=List UInt8×Int×Int×Bool×(Int×Int)×(Int×Int)×List UInt8
def qaz_ (was now:List Int) (ok is':Bool) (t23:List QMT1) (t24 t25:Int) (t35:List QMT6) (t36 t37:Int) (t42:List QMT0) (t43 t44:Int) (d:zK11) (said:zK12) (s:zK13) (q:zK14) (v w:Int×Int):St:=⟨[(2,dW was),(3,dW now),(4,.pb 0 0),(9,.mp 1),(13,.pb 2 0),(15,.pb 3 0),(16,.pb 4 0),(17,dB ok),(18,.pb 5 0),(19,dB is'),(23,.d QMT4 t23),(24,dI t24),(25,dI t25),(35,.d (.sl (.pr .str (.pr (.pr (.int .i64) (.int .u8)) (.pr .str (.int .i64))))) t35),(36,dI t36),(37,dI t37),(42,.d QMT2 t42),(43,dI t43),(44,dI t44)],116,[],[(0,.box 67 [dS d.1,.d QMT2 d.2]),(1,.dm (.int .i64) (.int .i64) said),(2,.box 82 [dS s.1,dI s.2.1.1,d8 s.2.1.2,dS s.2.2.1,dI s.2.2.2]),(3,.box 77 [dS q.1,dI q.2.1,dI q.2.2.1,dB q.2.2.2.1,dI q.2.2.2.2.1.1,d8 q.2.2.2.2.1.2,dI q.2.2.2.2.2.1.1,d8 q.2.2.2.2.2.1.2,dS q.2.2.2.2.2.2]),(4,.box 75 [dI v.1,d8 v.2]),(5,.box 75 [dI w.1,d8 w.2])],6,[],0⟩
def qbd_ (was now:List Int) (t96 t97:Int) (t114:Bool) (said:zK12):St:=⟨[(2,dW was),(3,dW now),(9,.mp 0),(96,dI t96),(97,dI t97),(114,dB t114)],116,[],[(0,.dm (.int .i64) (.int .i64) said)],1,[],0⟩
def qbq_ (was now:List Int) (t23:List QMT1) (t24 t25:Int) (t35:List QMT6) (t36 t37:Int) (t42:List QMT0) (t43 t44:Int) (t86:Bool) (d:zK11) (said:zK12) (s:zK13) (q:zK14):St:=⟨[(2,dW was),(3,dW now),(4,.pb 0 0),(9,.mp 1),(13,.pb 2 0),(15,.pb 3 0),(23,.d QMT4 t23),(24,dI t24),(25,dI t25),(35,.d (.sl (.pr .str (.pr (.pr (.int .i64) (.int .u8)) (.pr .str (.int .i64))))) t35),(36,dI t36),(37,dI t37),(42,.d QMT2 t42),(43,dI t43),(44,dI t44),(86,dB t86)],116,[],[(0,.box 67 [dS d.1,.d QMT2 d.2]),(1,.dm (.int .i64) (.int .i64) said),(2,.box 82 [dS s.1,dI s.2.1.1,d8 s.2.1.2,dS s.2.2.1,dI s.2.2.2]),(3,.box 77 [dS q.1,dI q.2.1,dI q.2.2.1,dB q.2.2.2.1,dI q.2.2.2.2.1.1,d8 q.2.2.2.2.1.2,dI q.2.2.2.2.2.1.1,d8 q.2.2.2.2.2.1.2,dS q.2.2.2.2.2.2])],4,[],0⟩
@[reducible] def zK15:Type:=List Int->List Int->List QMT1->Int->Int->List QMT6->Int->Int->List UInt8×List QMT0->List (Int×Int)->Option (As [.bool])
@[reducible] def zK16:Type:=List Int->List Int->List QMT1->Int->Int->List UInt8×List QMT0->List (Int×Int)->Option (As [.bool])
def q3c_ (j2:zK15) (j3:List Int->List Int->List (Int×Int)->Option (As [.bool])) (self1:zK16) (was now:List Int) (t23:List QMT1) (t24 t25:Int) (d:zK11) (said:zK12):Option (As [.bool]) :=
 if lt t25 t24=true then Option.bind (at? t23 t25) fun y=>if nes y.1 d.1=true then self1 was now t23 t24 (add .i64 t25 1) d said else j2 was now t23 t24 t25 y.2.2 (Int.ofNat (List.length y.2.2)) 0 d said else j3 was now said
@[reducible] def zK17:Type:=List Int->List Int->List QMT1->Int->Int->List QMT6->Int->Int->List QMT0->Int->Int->List UInt8×List QMT0->List (Int×Int)->List UInt8×(Int×Int)×List UInt8×Int->Option (As [.bool])
def q3t_ (j4:zK17) (self1:zK16) (self2:zK15) (was now:List Int) (t23:List QMT1) (t24 t25:Int) (t35:List QMT6) (t36 t37:Int) (d:zK11) (said:zK12):Option (As [.bool]) :=
 if lt t37 t36=true then Option.bind (at? t35 t37) fun y=>j4 was now t23 t24 t25 t35 t36 t37 d.2 (Int.ofNat (List.length d.2)) 0 d said y else self1 was now t23 t24 (add .i64 t25 1) d said
@[reducible] def zK18:Type:=List Int->List Int->Int->Int->List (Int×Int)->Option (As [.bool])
def qfg_ (j5:zK18) (was now:List Int) (said:zK12):Option (As [.bool]) :=
 j5 was now (Int.ofNat (List.length was)) 0 said
def q3j_ (j6:List Int->List Int->Bool->Bool->List QMT1->Int->Int->List QMT6->Int->Int->List QMT0->Int->Int->List UInt8×List QMT0->List (Int×Int)->List UInt8×(Int×Int)×List UInt8×Int->List UInt8×Int×Int×Bool×(Int×Int)×(Int×Int)×List UInt8->Int×Int->Int×Int->Option (As [.bool])) (self1:zK16) (self2:zK15) (self4:zK17) (was now:List Int) (t23:List QMT1) (t24 t25:Int) (t35:List QMT6) (t36 t37:Int) (t42:List QMT0) (t43 t44:Int) (d:zK11) (said:zK12) (s:zK13):Option (As [.bool]) :=
 if lt t44 t43=true then Option.bind (at? t42 t44) fun y=>if nes y.1 s.1=true then self4 was now t23 t24 t25 t35 t36 t37 t42 t43 (add .i64 t44 1) d said s else Option.bind (q2a_ (s.2.1,s.2.2.1,y.2.2.2.2.2.2,())) fun y_1=>Option.bind (at? now y.2.1) fun y_2=>amb (eqAs q2w_.rs) [Option.bind (q1w_ (y_2,y.2.2.1,y.2.2.2.1,())) fun y_3=>j6 was now y_1.2.1 y_3.2.1 t23 t24 t25 t35 t36 t37 t42 t43 t44 d said s y y_1.1 y_3.1,Option.bind (q1w_ (y_2,y.2.2.1,y.2.2.2.1,())) fun y_3=>j6 was now y_1.2.1 y_3.2.1 t23 t24 t25 t35 t36 t37 t42 t43 t44 d said s y y_1.1 y_3.1] else self2 was now t23 t24 t25 t35 t36 (add .i64 t37 1) d said
def q3h_ (j7:List Int->List Int->Int->Int->Bool->List (Int×Int)->Option (As [.bool])) (self5:zK18) (was now:List Int) (t96 t97:Int) (said:zK12):Option (As [.bool]) :=
 if lt t97 t96=true then if eqi (Ev.gdV (.int .i64) (Ev.dget (.int .i64) said t97) 0) 0=true then Option.bind (at? now t97) fun y=>Option.bind (at? was t97) fun y_1=>j7 was now t96 t97 (nei y y_1) said else j7 was now t96 t97 false said else some (true,())
def q7x_ (j8:List Int->List Int->List QMT1->Int->Int->List QMT6->Int->Int->List QMT0->Int->Int->Bool->List UInt8×List QMT0->List (Int×Int)->List UInt8×(Int×Int)×List UInt8×Int->List UInt8×Int×Int×Bool×(Int×Int)×(Int×Int)×List UInt8->Option (As [.bool])) (self1:zK16) (self2:zK15) (self4:zK17) (was now:List Int) (ok is':Bool) (t23:List QMT1) (t24 t25:Int) (t35:List QMT6) (t36 t37:Int) (t42:List QMT0) (t43 t44:Int) (d:zK11) (said:zK12) (s:zK13) (q:zK14) (v w:Int×Int):Option (As [.bool]) :=
 if (!ok)=true then j8 was now t23 t24 t25 t35 t36 t37 t42 t43 t44 true d said s q else if (!is')=true then j8 was now t23 t24 t25 t35 t36 t37 t42 t43 t44 true d said s q else j8 was now t23 t24 t25 t35 t36 t37 t42 t43 t44 (!(eqi v.1 w.1 && (eqi v.2 w.2 && true))) d said s q
def q7r_ (self5:zK18) (was now:List Int) (t96 t97:Int) (t114:Bool) (said:zK12):Option (As [.bool]) :=
 if t114=true then some (false,()) else self5 was now t96 (add .i64 t97 1) said
def q83_ (self1:zK16) (self2:zK15) (self4:zK17) (was now:List Int) (t23:List QMT1) (t24 t25:Int) (t35:List QMT6) (t36 t37:Int) (t42:List QMT0) (t43 t44:Int) (t86:Bool) (d:zK11) (said:zK12) (s:zK13) (q:zK14):Option (As [.bool]) :=
 if t86=true then some (false,()) else self4 was now t23 t24 t25 t35 t36 t37 t42 t43 (add .i64 t44 1) d (Ev.dput (.int .i64) said q.2.1 (add .i64 (Ev.gdV (.int .i64) (Ev.dget (.int .i64) said q.2.1) 0) 1)) s
def qeu_ (j1:zK16) (d:zK11) (r:zK10) (was now:List Int):Option (As [.bool]) :=
 j1 was now r.2 (Int.ofNat (List.length r.2)) 0 d []
def qb9_ (u1:zK16) (u2:zK15) (u4:zK17) (was now:List Int) (t23:List QMT1) (t24 t25:Int) (t35:List QMT6) (t36 t37:Int) (t42:List QMT0) (t43 t44:Int) (t86:Bool) (d:zK11) (said:zK12) (s:zK13) (q:zK14):Option (As [.bool]):=q83_ u1 u2 u4 was now t23 t24 t25 t35 t36 t37 t42 t43 t44 t86 d said s q
def q7s_ (u1:zK16) (u2:zK15) (u4:zK17) (was now:List Int) (ok is':Bool) (t23:List QMT1) (t24 t25:Int) (t35:List QMT6) (t36 t37:Int) (t42:List QMT0) (t43 t44:Int) (d:zK11) (said:zK12) (s:zK13) (q:zK14) (v w:Int×Int):Option (As [.bool]):=q7x_ (qb9_ u1 u2 u4) u1 u2 u4 was now ok is' t23 t24 t25 t35 t36 t37 t42 t43 t44 d said s q v w
def q3f_ (u1:zK16) (u2:zK15) (was now:List Int) (t23:List QMT1) (t24 t25:Int) (t35:List QMT6) (t36 t37:Int) (t42:List QMT0) (t43 t44:Int) (d:zK11) (said:zK12) (s:zK13):Option (As [.bool]) :=
 loopF (fun (self:(List Int)×(List Int)×(List QMT1)×(Int)×(Int)×(List QMT6)×(Int)×(Int)×(List QMT0)×(Int)×(Int)×(List UInt8×List QMT0)×(List (Int×Int))×QMT6->Option (As [.bool])) (s:(List Int)×(List Int)×(List QMT1)×(Int)×(Int)×(List QMT6)×(Int)×(Int)×(List QMT0)×(Int)×(Int)×(List UInt8×List QMT0)×(List (Int×Int))×QMT6)=>q3j_ (q7s_ u1 u2 (fun was now t23 t24 t25 t35 t36 t37 t42 t43 t44 d said s=>self (was,now,t23,t24,t25,t35,t36,t37,t42,t43,t44,d,said,s))) u1 u2 (fun was now t23 t24 t25 t35 t36 t37 t42 t43 t44 d said s=>self (was,now,t23,t24,t25,t35,t36,t37,t42,t43,t44,d,said,s)) s.1 s.2.1 s.2.2.1 s.2.2.2.1 s.2.2.2.2.1 s.2.2.2.2.2.1 s.2.2.2.2.2.2.1 s.2.2.2.2.2.2.2.1 s.2.2.2.2.2.2.2.2.1 s.2.2.2.2.2.2.2.2.2.1 s.2.2.2.2.2.2.2.2.2.2.1 s.2.2.2.2.2.2.2.2.2.2.2.1 s.2.2.2.2.2.2.2.2.2.2.2.2.1 s.2.2.2.2.2.2.2.2.2.2.2.2.2) 18446744073709551616 (was,now,t23,t24,t25,t35,t36,t37,t42,t43,t44,d,said,s)
def q3q_ (u1:zK16) (was now:List Int) (t23:List QMT1) (t24 t25:Int) (t35:List QMT6) (t36 t37:Int) (d:zK11) (said:zK12):Option (As [.bool]) :=
 loopF (fun (self:(List Int)×(List Int)×(List QMT1)×(Int)×(Int)×(List QMT6)×(Int)×(Int)×(List UInt8×List QMT0)×(List (Int×Int))->Option (As [.bool])) (s:(List Int)×(List Int)×(List QMT1)×(Int)×(Int)×(List QMT6)×(Int)×(Int)×(List UInt8×List QMT0)×(List (Int×Int)))=>q3t_ (q3f_ u1 (fun was now t23 t24 t25 t35 t36 t37 d said=>self (was,now,t23,t24,t25,t35,t36,t37,d,said))) u1 (fun was now t23 t24 t25 t35 t36 t37 d said=>self (was,now,t23,t24,t25,t35,t36,t37,d,said)) s.1 s.2.1 s.2.2.1 s.2.2.2.1 s.2.2.2.2.1 s.2.2.2.2.2.1 s.2.2.2.2.2.2.1 s.2.2.2.2.2.2.2.1 s.2.2.2.2.2.2.2.2.1 s.2.2.2.2.2.2.2.2.2) 18446744073709551616 (was,now,t23,t24,t25,t35,t36,t37,d,said)
def q5i_ (u5:zK18) (was now:List Int) (t96 t97:Int) (t114:Bool) (said:zK12):Option (As [.bool]):=q7r_ u5 was now t96 t97 t114 said
@[reducible] def zK19:Type:=(List Int)×(List Int)×(Int)×(Int)×(List (Int×Int))->Option (As [.bool])
@[reducible] def zK20:Type:=(List Int)×(List Int)×(Int)×(Int)×(List (Int×Int))
def q7b_ (was now:List Int) (t96 t97:Int) (said:zK12):Option (As [.bool]) :=
 loopF (fun (self:zK19) (s:zK20)=>q3h_ (q5i_ (fun was now t96 t97 said=>self (was,now,t96,t97,said))) (fun was now t96 t97 said=>self (was,now,t96,t97,said)) s.1 s.2.1 s.2.2.1 s.2.2.2.1 s.2.2.2.2) 18446744073709551616 (was,now,t96,t97,said)
def q3n_ (was now:List Int) (said:zK12):Option (As [.bool]):=qfg_ (q7b_) was now said
def q86_ (was now:List Int) (t23:List QMT1) (t24 t25:Int) (d:zK11) (said:zK12):Option (As [.bool]) :=
 loopF (fun (self:(List Int)×(List Int)×(List QMT1)×(Int)×(Int)×(List UInt8×List QMT0)×(List (Int×Int))->Option (As [.bool])) (s:(List Int)×(List Int)×(List QMT1)×(Int)×(Int)×(List UInt8×List QMT0)×(List (Int×Int)))=>q3c_ (q3q_ (fun was now t23 t24 t25 d said=>self (was,now,t23,t24,t25,d,said))) (q3n_) (fun was now t23 t24 t25 d said=>self (was,now,t23,t24,t25,d,said)) s.1 s.2.1 s.2.2.1 s.2.2.2.1 s.2.2.2.2.1 s.2.2.2.2.2.1 s.2.2.2.2.2.2) 18446744073709551616 (was,now,t23,t24,t25,d,said)
def q6g_ (x:As [.pr .str QMT2,.pr .str QMT4,.sl (.int .u16),.sl (.int .u16)]):Option (As [.bool]):=qeu_ q86_ x.1 x.2.1 x.2.2.1 x.2.2.2.1
noncomputable abbrev law16_means_P:=pfn Try.prog q8u_ 6 18446744073709551616 (Ev.get q96_) 24 q2w_
theorem qlc_ {J w1 w2 w4 was now t23 t24 t25 t35 t36 t37 t42 t43 t44 t86 d said s q}:law16_means_P J 7838734750 [w1,w2,w4] (qbq_ was now t23 t24 t25 t35 t36 t37 t42 t43 t44 t86 d said s q)=q83_ (fun was now t23 t24 t25 d said=>w1 (qp_ was now t23 t24 t25 d said)) (fun was now t23 t24 t25 t35 t36 t37 d said=>w2 (qz_ was now t23 t24 t25 t35 t36 t37 d said)) (fun was now t23 t24 t25 t35 t36 t37 t42 t43 t44 d said s=>w4 (q1h_ was now t23 t24 t25 t35 t36 t37 t42 t43 t44 d said s)) was now t23 t24 t25 t35 t36 t37 t42 t43 t44 t86 d said s q:=by kernel_rfl
theorem ql1_ {J w1 w2 w4 was now ok is' t23 t24 t25 t35 t36 t37 t42 t43 t44 d said s q v w}:law16_means_P J 1959683687 [w1,w2,w4] (qaz_ was now ok is' t23 t24 t25 t35 t36 t37 t42 t43 t44 d said s q v w)=q7x_ (fun was now t23 t24 t25 t35 t36 t37 t42 t43 t44 t86 d said s q=>J 7838734750 [w1,w2,w4] (qbq_ was now t23 t24 t25 t35 t36 t37 t42 t43 t44 t86 d said s q)) (fun was now t23 t24 t25 d said=>w1 (qp_ was now t23 t24 t25 d said)) (fun was now t23 t24 t25 t35 t36 t37 d said=>w2 (qz_ was now t23 t24 t25 t35 t36 t37 d said)) (fun was now t23 t24 t25 t35 t36 t37 t42 t43 t44 d said s=>w4 (q1h_ was now t23 t24 t25 t35 t36 t37 t42 t43 t44 d said s)) was now ok is' t23 t24 t25 t35 t36 t37 t42 t43 t44 d said s q v w:=by kernel_rfl
theorem qkt_ {J w1 w2 w4 was now t23 t24 t25 t35 t36 t37 t42 t43 t44 d said s}:law16_means_P J 7655014 [w1,w2,w4] (q1h_ was now t23 t24 t25 t35 t36 t37 t42 t43 t44 d said s)=q3j_ (fun was now ok is' t23 t24 t25 t35 t36 t37 t42 t43 t44 d said s q v w=>J 1959683687 [w1,w2,w4] (qaz_ was now ok is' t23 t24 t25 t35 t36 t37 t42 t43 t44 d said s q v w)) (fun was now t23 t24 t25 d said=>w1 (qp_ was now t23 t24 t25 d said)) (fun was now t23 t24 t25 t35 t36 t37 d said=>w2 (qz_ was now t23 t24 t25 t35 t36 t37 d said)) (fun was now t23 t24 t25 t35 t36 t37 t42 t43 t44 d said s=>w4 (q1h_ was now t23 t24 t25 t35 t36 t37 t42 t43 t44 d said s)) was now t23 t24 t25 t35 t36 t37 t42 t43 t44 d said s:=by kernel_rfl
theorem qml_ {J w1 w2 was now t23 t24 t25 t35 t36 t37 d said}:law16_means_P J 29902 [w1,w2] (qz_ was now t23 t24 t25 t35 t36 t37 d said)=q3t_ (fun was now t23 t24 t25 t35 t36 t37 t42 t43 t44 d said s=>J 7655014 [w1,w2] (q1h_ was now t23 t24 t25 t35 t36 t37 t42 t43 t44 d said s)) (fun was now t23 t24 t25 d said=>w1 (qp_ was now t23 t24 t25 d said)) (fun was now t23 t24 t25 t35 t36 t37 d said=>w2 (qz_ was now t23 t24 t25 t35 t36 t37 d said)) was now t23 t24 t25 t35 t36 t37 d said:=by kernel_rfl
theorem qly_ {J w5 was now t96 t97 t114 said}:law16_means_P J 7833 [w5] (qbd_ was now t96 t97 t114 said)=q7r_ (fun was now t96 t97 said=>w5 (q2f_ was now t96 t97 said)) was now t96 t97 t114 said:=by kernel_rfl
theorem qnx_ {J w5 was now t96 t97 said}:law16_means_P J 122 [w5] (q2f_ was now t96 t97 said)=q3h_ (fun was now t96 t97 t114 said=>J 7833 [w5] (qbd_ was now t96 t97 t114 said)) (fun was now t96 t97 said=>w5 (q2f_ was now t96 t97 said)) was now t96 t97 said:=by kernel_rfl
theorem qkp_ {J was now said}:law16_means_P J 7 [] (qbn_ was now said)=qfg_ (fun was now t96 t97 said=>J 122 [] (q2f_ was now t96 t97 said)) was now said:=by kernel_rfl
theorem qjn_ {J w1 was now t23 t24 t25 d said}:law16_means_P J 58 [w1] (qp_ was now t23 t24 t25 d said)=q3c_ (fun was now t23 t24 t25 t35 t36 t37 d said=>J 29902 [w1] (qz_ was now t23 t24 t25 t35 t36 t37 d said)) (fun was now said=>J 7 [] (qbn_ was now said)) (fun was now t23 t24 t25 d said=>w1 (qp_ was now t23 t24 t25 d said)) was now t23 t24 t25 d said:=by kernel_rfl
theorem ql5_ (J:Orc (As [.bool])) (x:As [.pr .str QMT2,.pr .str QMT4,.sl (.int .u16),.sl (.int .u16)]):rfn Try.prog q8u_ 6 18446744073709551616 (Ev.get q96_) 24 q2w_ J x=qeu_ (fun was now t23 t24 t25 d said=>J 58 [] (qp_ was now t23 t24 t25 d said)) x.1 x.2.1 x.2.2.1 x.2.2.2.1:=by kernel_rfl
noncomputable abbrev law16_means_J:=jfn Try.prog q8u_ 6 18446744073709551616 (Ev.get q96_) 24 q2w_
theorem qoh_  (w1 w2 w4 was now t23 t24 t25 t35 t36 t37 t42 t43 t44 t86 d said s q):law16_means_J 7838734750 [w1,w2,w4] (qbq_ was now t23 t24 t25 t35 t36 t37 t42 t43 t44 t86 d said s q)=qb9_ (fun was now t23 t24 t25 d said=>w1 (qp_ was now t23 t24 t25 d said)) (fun was now t23 t24 t25 t35 t36 t37 d said=>w2 (qz_ was now t23 t24 t25 t35 t36 t37 d said)) (fun was now t23 t24 t25 t35 t36 t37 t42 t43 t44 d said s=>w4 (q1h_ was now t23 t24 t25 t35 t36 t37 t42 t43 t44 d said s)) was now t23 t24 t25 t35 t36 t37 t42 t43 t44 t86 d said s q:=gN (by decide) qlc_
theorem qlt_  (w1 w2 w4 was now ok is' t23 t24 t25 t35 t36 t37 t42 t43 t44 d said s q v w):law16_means_J 1959683687 [w1,w2,w4] (qaz_ was now ok is' t23 t24 t25 t35 t36 t37 t42 t43 t44 d said s q v w)=q7s_ (fun was now t23 t24 t25 d said=>w1 (qp_ was now t23 t24 t25 d said)) (fun was now t23 t24 t25 t35 t36 t37 d said=>w2 (qz_ was now t23 t24 t25 t35 t36 t37 d said)) (fun was now t23 t24 t25 t35 t36 t37 t42 t43 t44 d said s=>w4 (q1h_ was now t23 t24 t25 t35 t36 t37 t42 t43 t44 d said s)) was now ok is' t23 t24 t25 t35 t36 t37 t42 t43 t44 d said s q v w:=gN (by decide) (ql1_.trans (by simp only [qoh_]; rfl))
theorem qoi_  (w1 w2 was now t23 t24 t25 t35 t36 t37 t42 t43 t44 d said s):law16_means_J 7655014 [w1,w2] (q1h_ was now t23 t24 t25 t35 t36 t37 t42 t43 t44 d said s)=q3f_ (fun was now t23 t24 t25 d said=>w1 (qp_ was now t23 t24 t25 d said)) (fun was now t23 t24 t25 t35 t36 t37 d said=>w2 (qz_ was now t23 t24 t25 t35 t36 t37 d said)) was now t23 t24 t25 t35 t36 t37 t42 t43 t44 d said s:=gL (σ:=(List Int)×(List Int)×(List QMT1)×(Int)×(Int)×(List QMT6)×(Int)×(Int)×(List QMT0)×(Int)×(Int)×(List UInt8×List QMT0)×(List (Int×Int))×QMT6) (mk:=fun s=>q1h_ s.1 s.2.1 s.2.2.1 s.2.2.2.1 s.2.2.2.2.1 s.2.2.2.2.2.1 s.2.2.2.2.2.2.1 s.2.2.2.2.2.2.2.1 s.2.2.2.2.2.2.2.2.1 s.2.2.2.2.2.2.2.2.2.1 s.2.2.2.2.2.2.2.2.2.2.1 s.2.2.2.2.2.2.2.2.2.2.2.1 s.2.2.2.2.2.2.2.2.2.2.2.2.1 s.2.2.2.2.2.2.2.2.2.2.2.2.2) (by decide) (by kernel_rfl) (fun w4 s=>qkt_.trans (by simp only [qlt_])) (was,now,t23,t24,t25,t35,t36,t37,t42,t43,t44,d,said,s)
theorem qk7_  (w1 was now t23 t24 t25 t35 t36 t37 d said):law16_means_J 29902 [w1] (qz_ was now t23 t24 t25 t35 t36 t37 d said)=q3q_ (fun was now t23 t24 t25 d said=>w1 (qp_ was now t23 t24 t25 d said)) was now t23 t24 t25 t35 t36 t37 d said:=gL (σ:=(List Int)×(List Int)×(List QMT1)×(Int)×(Int)×(List QMT6)×(Int)×(Int)×(List UInt8×List QMT0)×(List (Int×Int))) (mk:=fun s=>qz_ s.1 s.2.1 s.2.2.1 s.2.2.2.1 s.2.2.2.2.1 s.2.2.2.2.2.1 s.2.2.2.2.2.2.1 s.2.2.2.2.2.2.2.1 s.2.2.2.2.2.2.2.2.1 s.2.2.2.2.2.2.2.2.2) (by decide) (by kernel_rfl) (fun w2 s=>qml_.trans (by simp only [qoi_])) (was,now,t23,t24,t25,t35,t36,t37,d,said)
theorem qkg_  (w5 was now t96 t97 t114 said):law16_means_J 7833 [w5] (qbd_ was now t96 t97 t114 said)=q5i_ (fun was now t96 t97 said=>w5 (q2f_ was now t96 t97 said)) was now t96 t97 t114 said:=gN (by decide) qly_
theorem qkh_  (was now t96 t97 said):law16_means_J 122 [] (q2f_ was now t96 t97 said)=q7b_ was now t96 t97 said:=gL (σ:=(List Int)×(List Int)×(Int)×(Int)×(List (Int×Int))) (mk:=fun s=>q2f_ s.1 s.2.1 s.2.2.1 s.2.2.2.1 s.2.2.2.2) (by decide) (by kernel_rfl) (fun w5 s=>qnx_.trans (by simp only [qkg_])) (was,now,t96,t97,said)
theorem qlz_  (was now said):law16_means_J 7 [] (qbn_ was now said)=q3n_ was now said:=gN (by decide) (qkp_.trans (by simp only [qkh_]; rfl))
theorem qop_  (was now t23 t24 t25 d said):law16_means_J 58 [] (qp_ was now t23 t24 t25 d said)=q86_ was now t23 t24 t25 d said:=gL (σ:=(List Int)×(List Int)×(List QMT1)×(Int)×(Int)×(List UInt8×List QMT0)×(List (Int×Int))) (mk:=fun s=>qp_ s.1 s.2.1 s.2.2.1 s.2.2.2.1 s.2.2.2.2.1 s.2.2.2.2.2.1 s.2.2.2.2.2.2) (by decide) (by kernel_rfl) (fun w1 s=>qjn_.trans (by simp only [qk7_,qlz_])) (was,now,t23,t24,t25,d,said)
theorem qpi_ (x:As [.pr .str QMT2,.pr .str QMT4,.sl (.int .u16),.sl (.int .u16)]):evT Try.prog q8u_ 6 18446744073709551616 (Ev.get q96_) 24 q2w_ x=q6g_ x:=by
 rw [rfn_eq,ql5_]
 simp only [qop_]
 rfl
theorem qlm_:CtOk Try.prog (fun _=>True) 24 ⟨q2w_,q6g_⟩:=qh_ (q3_ qij_ (q3_ qk4_ qc_)) qpi_
@[reducible] def q32_:Sh:=⟨[.d (.sl (.pr .str QMT2)),.d (.pr .str QMT4),.d (.sl (.int .u16))],[],[.sl (.pr .str QMT2),.pr .str QMT4,.sl (.int .u16)],[.d (.bool)],[],0,[.bool]⟩
def q57_:Env:=(cts [(9,(⟨q4j_,q1v_⟩:Ct)),(10,(⟨q53_,q66_⟩:Ct)),(11,(⟨q2p_,q36_⟩:Ct)),(12,(⟨q4a_,q8m_⟩:Ct)),(13,(⟨q6i_,qck_⟩:Ct)),(17,(⟨q6h_,qcl_⟩:Ct)),(23,(⟨q2z_,q51_⟩:Ct)),(24,(⟨q2w_,q6g_⟩:Ct))])
def q56_:List (Nat×Hint):=[(255,⟨[],[0,4,7,9,142,143,144,145,146,147]⟩),(4090,⟨[.frz 9],[4,7,9,91,92,93]⟩),(523571,⟨[],[4,7,9,14,15,91,92,93,142,143,144,145,146,147]⟩),(1047143,⟨[.frz 9,.agd 142 (.pr .str QMT2),.agd 143 (.pr .str QMT4),.agd 144 (.sl (.int .u16)),.agd 145 (.sl (.int .u16)),.agd 146 .bool,.agd 147 .bool],[4,7,9,91,92,93,148]⟩),(4188570,⟨[.frz 9,.frz 15],[4,7,9,13,14,15,91,92,93,99,100,101]⟩),(2144548045,⟨[],[4,7,9,13,14,17,18,91,92,93,99,100,101,142,143,144,145,146,147]⟩),(17156384362,⟨[.row 18 31],[4,7,9,13,14,17,18,19,91,92,93,99,100,101]⟩),(2042,⟨[],[0,4,7,9,10,59,60,61,70,71,72,73,74,77,78,79,80,83,84,85,86,142,143,144,145,146,147]⟩),(261426,⟨[.agd 71 (.int .i64),.agd 72 (.sl (.pr .str QMT2)),.agd 73 (.int .i64),.agd 74 .bool,.agd 78 (.sl (.pr (.int .i64) (.sl (.int .u16)))),.agd 79 (.int .i64),.agd 80 .bool,.agd 84 (.sl (.pr (.int .i64) (.sl (.int .u16)))),.agd 85 (.int .i64),.agd 86 .bool],[0,4,7,9,12,59,60,61,87]⟩),(6,⟨[],[0,2,4,27,42,43,44,45,46,47,48,49,50,53,70,71,72,73,74,77,78,79,80,83,84,85,86,142,143,144,145,146,147]⟩)]
def q75_ (t:zK6) (bank:List Int) (t27:Bool) (r:zK10):St:=⟨[(0,.d (.sl (.pr .str QMT2)) t),(2,dW bank),(4,.pb 0 0),(27,dB t27)],151,[],[(0,.box 42 [dS r.1,.d QMT4 r.2])],1,[],0⟩
def q1c_ (t:zK6) (l:List QMT3) (last:Int) (t59:List QMT3) (t60 t61:Int) (r:zK10) (was:List Int):St:=⟨[(0,.d (.sl (.pr .str QMT2)) t),(4,.pb 0 0),(7,.d (.sl QMT5) l),(9,.row 1),(10,dI last),(59,.d (.sl QMT5) t59),(60,dI t60),(61,dI t61)],151,[],[(0,.box 42 [dS r.1,.d QMT4 r.2]),(1,.row (.int .u16) 32 was)],2,[],0⟩
@[reducible] def zK21:Type:=Int×List (Int×List Int)
def q6v_ (t:zK6) (l t59:List QMT3) (t60 t61:Int) (t87:Bool) (r:zK10) (was:List Int) (s:zK21):St:=⟨[(0,.d (.sl (.pr .str QMT2)) t),(4,.pb 0 0),(7,.d (.sl QMT5) l),(9,.row 1),(12,.pb 2 0),(59,.d (.sl QMT5) t59),(60,dI t60),(61,dI t61),(87,dB t87)],151,[],[(0,.box 42 [dS r.1,.d QMT4 r.2]),(1,.row (.int .u16) 32 was),(2,.box 64 [dI s.1,.d (.sl (.pr (.int .i64) (.sl (.int .u16)))) s.2])],3,[],0⟩
def q76_ (t:zK6) (l:List QMT3) (r:zK10) (was:List Int):St:=⟨[(0,.d (.sl (.pr .str QMT2)) t),(4,.pb 0 0),(7,.d (.sl QMT5) l),(9,.row 1)],151,[],[(0,.box 42 [dS r.1,.d QMT4 r.2]),(1,.row (.int .u16) 32 was)],2,[],0⟩
def qa_ (l:List QMT3) (was:List Int) (t91:zK6) (t92 t93:Int) (r:zK10):St:=⟨[(4,.pb 0 0),(7,.d (.sl QMT5) l),(9,dW was),(91,.d (.sl (.pr .str QMT2)) t91),(92,dI t92),(93,dI t93)],151,[],[(0,.box 42 [dS r.1,.d QMT4 r.2])],1,[],0⟩
def qw_ (l:List QMT3) (was:List Int) (i:Int) (now:List Int) (t91:zK6) (t92 t93:Int) (t99:List QMT3) (t100 t101:Int) (r:zK10) (d:zK11):St:=⟨[(4,.pb 0 0),(7,.d (.sl QMT5) l),(9,dW was),(13,dI i),(14,.pb 1 0),(15,dW now),(91,.d (.sl (.pr .str QMT2)) t91),(92,dI t92),(93,dI t93),(99,.d (.sl QMT5) t99),(100,dI t100),(101,dI t101)],151,[],[(0,.box 42 [dS r.1,.d QMT4 r.2]),(1,.box 67 [dS d.1,.d QMT2 d.2])],2,[],0⟩
def q2s_ (l:List QMT3) (was:List Int) (i k:Int) (t91:zK6) (t92 t93:Int) (t99:List QMT3) (t100 t101:Int) (r:zK10) (d:zK11) (s:zK21) (back:zK1):St:=⟨[(4,.pb 0 0),(7,.d (.sl QMT5) l),(9,dW was),(13,dI i),(14,.pb 1 0),(17,.pb 2 0),(18,.row 3),(19,dI k),(91,.d (.sl (.pr .str QMT2)) t91),(92,dI t92),(93,dI t93),(99,.d (.sl QMT5) t99),(100,dI t100),(101,dI t101)],151,[],[(0,.box 42 [dS r.1,.d QMT4 r.2]),(1,.box 67 [dS d.1,.d QMT2 d.2]),(2,.box 64 [dI s.1,.d (.sl (.pr (.int .i64) (.sl (.int .u16)))) s.2]),(3,.row (.pr (.int .i64) (.sl (.int .u16))) 31 back)],4,[],0⟩
def q6z_ (l:List QMT3) (was now:List Int) (t91:zK6) (t92 t93:Int) (r:zK10) (d:zK11):St:=⟨[(4,.pb 0 0),(7,.d (.sl QMT5) l),(9,dW was),(14,.pb 1 0),(15,dW now),(91,.d (.sl (.pr .str QMT2)) t91),(92,dI t92),(93,dI t93)],151,[],[(0,.box 42 [dS r.1,.d QMT4 r.2]),(1,.box 67 [dS d.1,.d QMT2 d.2])],2,[],0⟩
def q77_ (l:List QMT3) (was:List Int) (i:Int) (t91:zK6) (t92 t93:Int) (t99:List QMT3) (t100 t101:Int) (r:zK10) (d:zK11) (s:zK21) (back:zK1):St:=⟨[(4,.pb 0 0),(7,.d (.sl QMT5) l),(9,dW was),(13,dI i),(14,.pb 1 0),(17,.pb 2 0),(18,.row 3),(91,.d (.sl (.pr .str QMT2)) t91),(92,dI t92),(93,dI t93),(99,.d (.sl QMT5) t99),(100,dI t100),(101,dI t101)],151,[],[(0,.box 42 [dS r.1,.d QMT4 r.2]),(1,.box 67 [dS d.1,.d QMT2 d.2]),(2,.box 64 [dI s.1,.d (.sl (.pr (.int .i64) (.sl (.int .u16)))) s.2]),(3,.row (.pr (.int .i64) (.sl (.int .u16))) 31 back)],4,[],0⟩
def q6k_ (l:List QMT3) (was:List Int) (t91:zK6) (t92 t93:Int) (t148:Bool) (r:zK10):St:=⟨[(4,.pb 0 0),(7,.d (.sl QMT5) l),(9,dW was),(91,.d (.sl (.pr .str QMT2)) t91),(92,dI t92),(93,dI t93),(148,dB t148)],151,[],[(0,.box 42 [dS r.1,.d QMT4 r.2])],1,[],0⟩
@[reducible] def zK22:Type:=List (List UInt8×List QMT0)->List QMT3->Int->List QMT3->Int->Int->List UInt8×List QMT1->List Int->Option (As [.bool])
def q1o_ (j2:zK22) (t:zK6) (bank:List Int) (t27:Bool) (r:zK10):Option (As [.bool]) :=
 if t27=true then Option.bind (q1v_ ()) fun y=>some (y.1,()) else Option.bind (qcl_ (t,r,())) fun y=>if nei y.2.1.1 0=true then if eqi (Int.ofNat (List.length y.1)) 0=true then Option.bind (q51_ (t,r,())) fun y_1=>if Sx.eqb (eqi y.2.1.1 160) (eqi y_1.1.1 0)=true then Option.bind (q1v_ ()) fun y=>some (y.1,()) else some (false,()) else some (false,()) else j2 t y.1 (-1) y.1 (Int.ofNat (List.length y.1)) 0 r (List.take 64 bank++List.drop (0 + List.length (List.take 64 bank)) (List.replicate 64 0))
def q1p_ (j3:List (List UInt8×List QMT0)->List QMT3->List QMT3->Int->Int->Bool->List UInt8×List QMT1->List Int->Int×List (Int×List Int)->Option (As [.bool])) (j4:List (List UInt8×List QMT0)->List QMT3->List UInt8×List QMT1->List Int->Option (As [.bool])) (self2:zK22) (t:zK6) (l:List QMT3) (last:Int) (t59:List QMT3) (t60 t61:Int) (r:zK10) (was:List Int):Option (As [.bool]) :=
 if lt t61 t60=true then Option.bind (at? t59 t61) fun y=>if le y.1 last=true then j3 t l t59 t60 t61 true r was y else if ge y.1 (Int.ofNat (List.length t))=true then j3 t l t59 t60 t61 true r was y else if lt (Int.ofNat (List.length y.2)) 1=true then j3 t l t59 t60 t61 true r was y else j3 t l t59 t60 t61 (gt (Int.ofNat (List.length y.2)) 8) r was y else j4 t l r was
def q4v_ (self2:zK22) (t:zK6) (l t59:List QMT3) (t60 t61:Int) (t87:Bool) (r:zK10) (was:List Int) (s:zK21):Option (As [.bool]) :=
 if t87=true then some (false,()) else self2 t l s.1 t59 t60 (add .i64 t61 1) r was
@[reducible] def zK23:Type:=List QMT3->List Int->List (List UInt8×List QMT0)->Int->Int->List UInt8×List QMT1->Option (As [.bool])
def qcj_ (j5:zK23) (t:zK6) (l:List QMT3) (r:zK10) (was:List Int):Option (As [.bool]) :=
 j5 l was t (Int.ofNat (List.length t)) 0 r
@[reducible] def zK24:Type:=List QMT3->List Int->Int->List Int->List (List UInt8×List QMT0)->Int->Int->List QMT3->Int->Int->List UInt8×List QMT1->List UInt8×List QMT0->Option (As [.bool])
def q1t_ (j6:zK24) (self5:zK23) (l:List QMT3) (was:List Int) (t91:zK6) (t92 t93:Int) (r:zK10):Option (As [.bool]) :=
 if lt t93 t92=true then Option.bind (at? t91 t93) fun y=>j6 l was t93 was t91 t92 t93 l (Int.ofNat (List.length l)) 0 r y else Option.bind (q1v_ ()) fun y=>some (y.1,())
@[reducible] def zK25:Type:=List QMT3->List Int->Int->Int->List (List UInt8×List QMT0)->Int->Int->List QMT3->Int->Int->List UInt8×List QMT1->List UInt8×List QMT0->Int×List (Int×List Int)->List (Int×List Int)->Option (As [.bool])
def q1r_ (j7:zK25) (j8:List QMT3->List Int->List Int->List (List UInt8×List QMT0)->Int->Int->List UInt8×List QMT1->List UInt8×List QMT0->Option (As [.bool])) (self5:zK23) (self6:zK24) (l:List QMT3) (was:List Int) (i:Int) (now:List Int) (t91:zK6) (t92 t93:Int) (t99:List QMT3) (t100 t101:Int) (r:zK10) (d:zK11):Option (As [.bool]) :=
 if lt t101 t100=true then Option.bind (at? t99 t101) fun y=>if eqi y.1 i=true then j7 l was i (Sx.sub .i64 (Int.ofNat (List.length y.2)) 1) t91 t92 t93 t99 t100 t101 r d y [] else self6 l was i now t91 t92 t93 t99 t100 (add .i64 t101 1) r d else j8 l was now t91 t92 t93 r d
def q1n_ (j9:List QMT3->List Int->Int->List (List UInt8×List QMT0)->Int->Int->List QMT3->Int->Int->List UInt8×List QMT1->List UInt8×List QMT0->Int×List (Int×List Int)->List (Int×List Int)->Option (As [.bool])) (self5:zK23) (self6:zK24) (self7:zK25) (l:List QMT3) (was:List Int) (i k:Int) (t91:zK6) (t92 t93:Int) (t99:List QMT3) (t100 t101:Int) (r:zK10) (d:zK11) (s:zK21) (back:zK1):Option (As [.bool]) :=
 if ge k 0=true then Option.bind (at? s.2 k) fun y=>need (small (List.length back + Nat.succ 0)) (self7 l was i (Sx.sub .i64 k 1) t91 t92 t93 t99 t100 t101 r d s (back++[y])) else j9 l was i t91 t92 t93 t99 t100 t101 r d s back
def q4n_ (j10:List QMT3->List Int->List (List UInt8×List QMT0)->Int->Int->Bool->List UInt8×List QMT1->Option (As [.bool])) (self5:zK23) (l:List QMT3) (was now:List Int) (t91:zK6) (t92 t93:Int) (r:zK10) (d:zK11):Option (As [.bool]) :=
 if nei (Int.ofNat (List.length now)) (Int.ofNat (List.length was))=true then j10 l was t91 t92 t93 true r else Option.bind (q6g_ (d,r,was,now,())) fun y=>j10 l was t91 t92 t93 (!y.1) r
def q4w_ (self5:zK23) (self6:zK24) (l:List QMT3) (was:List Int) (i:Int) (t91:zK6) (t92 t93:Int) (t99:List QMT3) (t100 t101:Int) (r:zK10) (d:zK11) (s:zK21) (back:zK1):Option (As [.bool]) :=
 Option.bind (q66_ (was,s.2,())) fun y=>Option.bind (q66_ (was,back,())) fun y_1=>Option.bind (q36_ (y.1,y_1.1,())) fun y_2=>if (!y_2.1)=true then some (false,()) else self6 l was i y.1 t91 t92 t93 t99 t100 (add .i64 t101 1) r d
def q46_ (self5:zK23) (l:List QMT3) (was:List Int) (t91:zK6) (t92 t93:Int) (t148:Bool) (r:zK10):Option (As [.bool]) :=
 if t148=true then some (false,()) else self5 l was t91 t92 (add .i64 t93 1) r
def q4q_ (j1:List (List UInt8×List QMT0)->List Int->Bool->List UInt8×List QMT1->Option (As [.bool])) (t:zK6) (r:zK10) (bank:List Int):Option (As [.bool]) :=
 Option.bind (q8m_ (t,())) fun y=>if (!y.1)=true then j1 t bank true r else Option.bind (qck_ (r,())) fun y=>j1 t bank (!y.1) r
def q4x_ (u2:zK22) (t:zK6) (l t59:List QMT3) (t60 t61:Int) (t87:Bool) (r:zK10) (was:List Int) (s:zK21):Option (As [.bool]):=q4v_ u2 t l t59 t60 t61 t87 r was s
def q2m_ (u5:zK23) (u6:zK24) (l:List QMT3) (was:List Int) (i:Int) (t91:zK6) (t92 t93:Int) (t99:List QMT3) (t100 t101:Int) (r:zK10) (d:zK11) (s:zK21) (back:zK1):Option (As [.bool]):=q4w_ u5 u6 l was i t91 t92 t93 t99 t100 t101 r d s back
def q2r_ (u5:zK23) (u6:zK24) (l:List QMT3) (was:List Int) (i k:Int) (t91:zK6) (t92 t93:Int) (t99:List QMT3) (t100 t101:Int) (r:zK10) (d:zK11) (s:zK21) (back:zK1):Option (As [.bool]) :=
 loopF (fun (self:(List QMT3)×(List Int)×(Int)×(Int)×(List (List UInt8×List QMT0))×(Int)×(Int)×(List QMT3)×(Int)×(Int)×(List UInt8×List QMT1)×(List UInt8×List QMT0)×QMT3×(List (Int×List Int))->Option (As [.bool])) (s:(List QMT3)×(List Int)×(Int)×(Int)×(List (List UInt8×List QMT0))×(Int)×(Int)×(List QMT3)×(Int)×(Int)×(List UInt8×List QMT1)×(List UInt8×List QMT0)×QMT3×(List (Int×List Int)))=>q1n_ (q2m_ u5 u6) u5 u6 (fun l was i k t91 t92 t93 t99 t100 t101 r d s back=>self (l,was,i,k,t91,t92,t93,t99,t100,t101,r,d,s,back)) s.1 s.2.1 s.2.2.1 s.2.2.2.1 s.2.2.2.2.1 s.2.2.2.2.2.1 s.2.2.2.2.2.2.1 s.2.2.2.2.2.2.2.1 s.2.2.2.2.2.2.2.2.1 s.2.2.2.2.2.2.2.2.2.1 s.2.2.2.2.2.2.2.2.2.2.1 s.2.2.2.2.2.2.2.2.2.2.2.1 s.2.2.2.2.2.2.2.2.2.2.2.2.1 s.2.2.2.2.2.2.2.2.2.2.2.2.2) 18446744073709551616 (l,was,i,k,t91,t92,t93,t99,t100,t101,r,d,s,back)
def qaw_ (u5:zK23) (l:List QMT3) (was:List Int) (t91:zK6) (t92 t93:Int) (t148:Bool) (r:zK10):Option (As [.bool]):=q46_ u5 l was t91 t92 t93 t148 r
def q1s_ (u5:zK23) (l:List QMT3) (was now:List Int) (t91:zK6) (t92 t93:Int) (r:zK10) (d:zK11):Option (As [.bool]):=q4n_ (qaw_ u5) u5 l was now t91 t92 t93 r d
def q1u_ (u5:zK23) (l:List QMT3) (was:List Int) (i:Int) (now:List Int) (t91:zK6) (t92 t93:Int) (t99:List QMT3) (t100 t101:Int) (r:zK10) (d:zK11):Option (As [.bool]) :=
 loopF (fun (self:(List QMT3)×(List Int)×(Int)×(List Int)×(List (List UInt8×List QMT0))×(Int)×(Int)×(List QMT3)×(Int)×(Int)×(List UInt8×List QMT1)×(List UInt8×List QMT0)->Option (As [.bool])) (s:(List QMT3)×(List Int)×(Int)×(List Int)×(List (List UInt8×List QMT0))×(Int)×(Int)×(List QMT3)×(Int)×(Int)×(List UInt8×List QMT1)×(List UInt8×List QMT0))=>q1r_ (q2r_ u5 (fun l was i now t91 t92 t93 t99 t100 t101 r d=>self (l,was,i,now,t91,t92,t93,t99,t100,t101,r,d))) (q1s_ u5) u5 (fun l was i now t91 t92 t93 t99 t100 t101 r d=>self (l,was,i,now,t91,t92,t93,t99,t100,t101,r,d)) s.1 s.2.1 s.2.2.1 s.2.2.2.1 s.2.2.2.2.1 s.2.2.2.2.2.1 s.2.2.2.2.2.2.1 s.2.2.2.2.2.2.2.1 s.2.2.2.2.2.2.2.2.1 s.2.2.2.2.2.2.2.2.2.1 s.2.2.2.2.2.2.2.2.2.2.1 s.2.2.2.2.2.2.2.2.2.2.2) 18446744073709551616 (l,was,i,now,t91,t92,t93,t99,t100,t101,r,d)
def q4o_ (l:List QMT3) (was:List Int) (t91:zK6) (t92 t93:Int) (r:zK10):Option (As [.bool]) :=
 loopF (fun (self:(List QMT3)×(List Int)×(List (List UInt8×List QMT0))×(Int)×(Int)×(List UInt8×List QMT1)->Option (As [.bool])) (s:(List QMT3)×(List Int)×(List (List UInt8×List QMT0))×(Int)×(Int)×(List UInt8×List QMT1))=>q1t_ (q1u_ (fun l was t91 t92 t93 r=>self (l,was,t91,t92,t93,r))) (fun l was t91 t92 t93 r=>self (l,was,t91,t92,t93,r)) s.1 s.2.1 s.2.2.1 s.2.2.2.1 s.2.2.2.2.1 s.2.2.2.2.2) 18446744073709551616 (l,was,t91,t92,t93,r)
def q2n_ (t:zK6) (l:List QMT3) (r:zK10) (was:List Int):Option (As [.bool]):=qcj_ (q4o_) t l r was
def q4p_ (t:zK6) (l:List QMT3) (last:Int) (t59:List QMT3) (t60 t61:Int) (r:zK10) (was:List Int):Option (As [.bool]) :=
 loopF (fun (self:(List (List UInt8×List QMT0))×(List QMT3)×(Int)×(List QMT3)×(Int)×(Int)×(List UInt8×List QMT1)×(List Int)->Option (As [.bool])) (s:(List (List UInt8×List QMT0))×(List QMT3)×(Int)×(List QMT3)×(Int)×(Int)×(List UInt8×List QMT1)×(List Int))=>q1p_ (q4x_ (fun t l last t59 t60 t61 r was=>self (t,l,last,t59,t60,t61,r,was))) (q2n_) (fun t l last t59 t60 t61 r was=>self (t,l,last,t59,t60,t61,r,was)) s.1 s.2.1 s.2.2.1 s.2.2.2.1 s.2.2.2.2.1 s.2.2.2.2.2.1 s.2.2.2.2.2.2.1 s.2.2.2.2.2.2.2) 18446744073709551616 (t,l,last,t59,t60,t61,r,was)
def q4u_ (t:zK6) (bank:List Int) (t27:Bool) (r:zK10):Option (As [.bool]):=q1o_ (q4p_) t bank t27 r
def q6r_ (x:As [.sl (.pr .str QMT2),.pr .str QMT4,.sl (.int .u16)]):Option (As [.bool]):=q4q_ q4u_ x.1 x.2.1 x.2.2.1
noncomputable abbrev law16_PlanMeans_P:=pfn Try.prog q57_ 6 18446744073709551616 (Ev.get q56_) 6 q32_
theorem qhm_ {J w2 t l t59 t60 t61 t87 r was s}:law16_PlanMeans_P J 261426 [w2] (q6v_ t l t59 t60 t61 t87 r was s)=q4v_ (fun t l last t59 t60 t61 r was=>w2 (q1c_ t l last t59 t60 t61 r was)) t l t59 t60 t61 t87 r was s:=by kernel_rfl
theorem qh6_ {J w5 w6 l was i t91 t92 t93 t99 t100 t101 r d s back}:law16_PlanMeans_P J 2144548045 [w5,w6] (q77_ l was i t91 t92 t93 t99 t100 t101 r d s back)=q4w_ (fun l was t91 t92 t93 r=>w5 (qa_ l was t91 t92 t93 r)) (fun l was i now t91 t92 t93 t99 t100 t101 r d=>w6 (qw_ l was i now t91 t92 t93 t99 t100 t101 r d)) l was i t91 t92 t93 t99 t100 t101 r d s back:=by kernel_rfl
theorem qhx_ {J w5 w6 w7 l was i k t91 t92 t93 t99 t100 t101 r d s back}:law16_PlanMeans_P J 17156384362 [w5,w6,w7] (q2s_ l was i k t91 t92 t93 t99 t100 t101 r d s back)=q1n_ (fun l was i t91 t92 t93 t99 t100 t101 r d s back=>J 2144548045 [w5,w6] (q77_ l was i t91 t92 t93 t99 t100 t101 r d s back)) (fun l was t91 t92 t93 r=>w5 (qa_ l was t91 t92 t93 r)) (fun l was i now t91 t92 t93 t99 t100 t101 r d=>w6 (qw_ l was i now t91 t92 t93 t99 t100 t101 r d)) (fun l was i k t91 t92 t93 t99 t100 t101 r d s back=>w7 (q2s_ l was i k t91 t92 t93 t99 t100 t101 r d s back)) l was i k t91 t92 t93 t99 t100 t101 r d s back:=by kernel_rfl
theorem qge_ {J w5 l was t91 t92 t93 t148 r}:law16_PlanMeans_P J 1047143 [w5] (q6k_ l was t91 t92 t93 t148 r)=q46_ (fun l was t91 t92 t93 r=>w5 (qa_ l was t91 t92 t93 r)) l was t91 t92 t93 t148 r:=by kernel_rfl
theorem qhi_ {J w5 l was now t91 t92 t93 r d}:law16_PlanMeans_P J 523571 [w5] (q6z_ l was now t91 t92 t93 r d)=q4n_ (fun l was t91 t92 t93 t148 r=>J 1047143 [w5] (q6k_ l was t91 t92 t93 t148 r)) (fun l was t91 t92 t93 r=>w5 (qa_ l was t91 t92 t93 r)) l was now t91 t92 t93 r d:=by kernel_rfl
theorem qhc_ {J w5 w6 l was i now t91 t92 t93 t99 t100 t101 r d}:law16_PlanMeans_P J 4188570 [w5,w6] (qw_ l was i now t91 t92 t93 t99 t100 t101 r d)=q1r_ (fun l was i k t91 t92 t93 t99 t100 t101 r d s back=>J 17156384362 [w5,w6] (q2s_ l was i k t91 t92 t93 t99 t100 t101 r d s back)) (fun l was now t91 t92 t93 r d=>J 523571 [w5] (q6z_ l was now t91 t92 t93 r d)) (fun l was t91 t92 t93 r=>w5 (qa_ l was t91 t92 t93 r)) (fun l was i now t91 t92 t93 t99 t100 t101 r d=>w6 (qw_ l was i now t91 t92 t93 t99 t100 t101 r d)) l was i now t91 t92 t93 t99 t100 t101 r d:=by kernel_rfl
theorem qhg_ {J w5 l was t91 t92 t93 r}:law16_PlanMeans_P J 4090 [w5] (qa_ l was t91 t92 t93 r)=q1t_ (fun l was i now t91 t92 t93 t99 t100 t101 r d=>J 4188570 [w5] (qw_ l was i now t91 t92 t93 t99 t100 t101 r d)) (fun l was t91 t92 t93 r=>w5 (qa_ l was t91 t92 t93 r)) l was t91 t92 t93 r:=by kernel_rfl
theorem qh4_ {J t l r was}:law16_PlanMeans_P J 255 [] (q76_ t l r was)=qcj_ (fun l was t91 t92 t93 r=>J 4090 [] (qa_ l was t91 t92 t93 r)) t l r was:=by kernel_rfl
theorem qha_ {J w2 t l last t59 t60 t61 r was}:law16_PlanMeans_P J 2042 [w2] (q1c_ t l last t59 t60 t61 r was)=q1p_ (fun t l t59 t60 t61 t87 r was s=>J 261426 [w2] (q6v_ t l t59 t60 t61 t87 r was s)) (fun t l r was=>J 255 [] (q76_ t l r was)) (fun t l last t59 t60 t61 r was=>w2 (q1c_ t l last t59 t60 t61 r was)) t l last t59 t60 t61 r was:=by kernel_rfl
theorem qh3_ {J t bank t27 r}:law16_PlanMeans_P J 6 [] (q75_ t bank t27 r)=q1o_ (fun t l last t59 t60 t61 r was=>J 2042 [] (q1c_ t l last t59 t60 t61 r was)) t bank t27 r:=by kernel_rfl
theorem qhf_ (J:Orc (As [.bool])) (x:As [.sl (.pr .str QMT2),.pr .str QMT4,.sl (.int .u16)]):rfn Try.prog q57_ 6 18446744073709551616 (Ev.get q56_) 6 q32_ J x=q4q_ (fun t bank t27 r=>J 6 [] (q75_ t bank t27 r)) x.1 x.2.1 x.2.2.1:=by kernel_rfl
noncomputable abbrev law16_PlanMeans_J:=jfn Try.prog q57_ 6 18446744073709551616 (Ev.get q56_) 6 q32_
theorem qhr_  (w2 t l t59 t60 t61 t87 r was s):law16_PlanMeans_J 261426 [w2] (q6v_ t l t59 t60 t61 t87 r was s)=q4x_ (fun t l last t59 t60 t61 r was=>w2 (q1c_ t l last t59 t60 t61 r was)) t l t59 t60 t61 t87 r was s:=gN (by decide) qhm_
theorem qh1_  (w5 w6 l was i t91 t92 t93 t99 t100 t101 r d s back):law16_PlanMeans_J 2144548045 [w5,w6] (q77_ l was i t91 t92 t93 t99 t100 t101 r d s back)=q2m_ (fun l was t91 t92 t93 r=>w5 (qa_ l was t91 t92 t93 r)) (fun l was i now t91 t92 t93 t99 t100 t101 r d=>w6 (qw_ l was i now t91 t92 t93 t99 t100 t101 r d)) l was i t91 t92 t93 t99 t100 t101 r d s back:=gN (by decide) qh6_
theorem qhn_  (w5 w6 l was i k t91 t92 t93 t99 t100 t101 r d s back):law16_PlanMeans_J 17156384362 [w5,w6] (q2s_ l was i k t91 t92 t93 t99 t100 t101 r d s back)=q2r_ (fun l was t91 t92 t93 r=>w5 (qa_ l was t91 t92 t93 r)) (fun l was i now t91 t92 t93 t99 t100 t101 r d=>w6 (qw_ l was i now t91 t92 t93 t99 t100 t101 r d)) l was i k t91 t92 t93 t99 t100 t101 r d s back:=gL (σ:=(List QMT3)×(List Int)×(Int)×(Int)×(List (List UInt8×List QMT0))×(Int)×(Int)×(List QMT3)×(Int)×(Int)×(List UInt8×List QMT1)×(List UInt8×List QMT0)×QMT3×(List (Int×List Int))) (mk:=fun s=>q2s_ s.1 s.2.1 s.2.2.1 s.2.2.2.1 s.2.2.2.2.1 s.2.2.2.2.2.1 s.2.2.2.2.2.2.1 s.2.2.2.2.2.2.2.1 s.2.2.2.2.2.2.2.2.1 s.2.2.2.2.2.2.2.2.2.1 s.2.2.2.2.2.2.2.2.2.2.1 s.2.2.2.2.2.2.2.2.2.2.2.1 s.2.2.2.2.2.2.2.2.2.2.2.2.1 s.2.2.2.2.2.2.2.2.2.2.2.2.2) (by decide) (by kernel_rfl) (fun w7 s=>qhx_.trans (by simp only [qh1_])) (l,was,i,k,t91,t92,t93,t99,t100,t101,r,d,s,back)
theorem qgi_  (w5 l was t91 t92 t93 t148 r):law16_PlanMeans_J 1047143 [w5] (q6k_ l was t91 t92 t93 t148 r)=qaw_ (fun l was t91 t92 t93 r=>w5 (qa_ l was t91 t92 t93 r)) l was t91 t92 t93 t148 r:=gN (by decide) qge_
theorem qhd_  (w5 l was now t91 t92 t93 r d):law16_PlanMeans_J 523571 [w5] (q6z_ l was now t91 t92 t93 r d)=q1s_ (fun l was t91 t92 t93 r=>w5 (qa_ l was t91 t92 t93 r)) l was now t91 t92 t93 r d:=gN (by decide) (qhi_.trans (by simp only [qgi_]; rfl))
theorem qh9_  (w5 l was i now t91 t92 t93 t99 t100 t101 r d):law16_PlanMeans_J 4188570 [w5] (qw_ l was i now t91 t92 t93 t99 t100 t101 r d)=q1u_ (fun l was t91 t92 t93 r=>w5 (qa_ l was t91 t92 t93 r)) l was i now t91 t92 t93 t99 t100 t101 r d:=gL (σ:=(List QMT3)×(List Int)×(Int)×(List Int)×(List (List UInt8×List QMT0))×(Int)×(Int)×(List QMT3)×(Int)×(Int)×(List UInt8×List QMT1)×(List UInt8×List QMT0)) (mk:=fun s=>qw_ s.1 s.2.1 s.2.2.1 s.2.2.2.1 s.2.2.2.2.1 s.2.2.2.2.2.1 s.2.2.2.2.2.2.1 s.2.2.2.2.2.2.2.1 s.2.2.2.2.2.2.2.2.1 s.2.2.2.2.2.2.2.2.2.1 s.2.2.2.2.2.2.2.2.2.2.1 s.2.2.2.2.2.2.2.2.2.2.2) (by decide) (by kernel_rfl) (fun w6 s=>qhc_.trans (by simp only [qhn_,qhd_])) (l,was,i,now,t91,t92,t93,t99,t100,t101,r,d)
theorem qhq_  (l was t91 t92 t93 r):law16_PlanMeans_J 4090 [] (qa_ l was t91 t92 t93 r)=q4o_ l was t91 t92 t93 r:=gL (σ:=(List QMT3)×(List Int)×(List (List UInt8×List QMT0))×(Int)×(Int)×(List UInt8×List QMT1)) (mk:=fun s=>qa_ s.1 s.2.1 s.2.2.1 s.2.2.2.1 s.2.2.2.2.1 s.2.2.2.2.2) (by decide) (by kernel_rfl) (fun w5 s=>qhg_.trans (by simp only [qh9_])) (l,was,t91,t92,t93,r)
theorem qhv_  (t l r was):law16_PlanMeans_J 255 [] (q76_ t l r was)=q2n_ t l r was:=gN (by decide) (qh4_.trans (by simp only [qhq_]; rfl))
theorem qhs_  (t l last t59 t60 t61 r was):law16_PlanMeans_J 2042 [] (q1c_ t l last t59 t60 t61 r was)=q4p_ t l last t59 t60 t61 r was:=gL (σ:=(List (List UInt8×List QMT0))×(List QMT3)×(Int)×(List QMT3)×(Int)×(Int)×(List UInt8×List QMT1)×(List Int)) (mk:=fun s=>q1c_ s.1 s.2.1 s.2.2.1 s.2.2.2.1 s.2.2.2.2.1 s.2.2.2.2.2.1 s.2.2.2.2.2.2.1 s.2.2.2.2.2.2.2) (by decide) (by kernel_rfl) (fun w2 s=>qha_.trans (by simp only [qhr_,qhv_])) (t,l,last,t59,t60,t61,r,was)
theorem qhe_  (t bank t27 r):law16_PlanMeans_J 6 [] (q75_ t bank t27 r)=q4u_ t bank t27 r:=gN (by decide) (qh3_.trans (by simp only [qhs_]; rfl))
theorem qib_ (x:As [.sl (.pr .str QMT2),.pr .str QMT4,.sl (.int .u16)]):evT Try.prog q57_ 6 18446744073709551616 (Ev.get q56_) 6 q32_ x=q6r_ x:=by
 rw [rfn_eq,qhf_]
 simp only [qhe_]
 rfl
theorem qhu_:CtOk Try.prog (fun _=>True) 6 ⟨q32_,q6r_⟩:=qh_ (q3_ qn9_ (q3_ qh8_ (q3_ qcq_ (q3_ qjz_ (q3_ qrf_ (q3_ qrh_ (q3_ qfh_ (q3_ qlm_ qc_)))))))) qib_
end Go.Proofs.Lx
end
section
set_option maxRecDepth 100000
namespace Go.Proofs.Lx
open Go Ev Sx
@[reducible] def zK26:Type:=(List (List UInt8×List (List UInt8×Int×Int×Bool×(Int×Int)×(Int×Int)×List UInt8)))×(List (List (Int×Int)))×(List (List UInt8×Int×List (List UInt8×(Int×Int)×List UInt8×Int)))×(Int)×(Int)×(Int×Int)->Option (As [.sl (.pr (.int .i64) (.sl (.pr (.int .i64) (.sl (.int .u16))))),.pr (.int .i64) (.int .i64)])
def qey_ :=(fun (self:zK26) (s:(List (List UInt8×List (List UInt8×Int×Int×Bool×(Int×Int)×(Int×Int)×List UInt8)))×(List (List (Int×Int)))×(List (List UInt8×Int×List (List UInt8×(Int×Int)×List UInt8×Int)))×(Int)×(Int)×(Int×Int))=>q5r_ (q73_) (fun t words t30 t31 t32 t5=>self (t,words,t30,t31,t32,t5)) s.1 s.2.1 s.2.2.1 s.2.2.2.1 s.2.2.2.2.1 s.2.2.2.2.2)
@[reducible] def zK27:Type:=List (List UInt8×List (List UInt8×Int×Int×Bool×(Int×Int)×(Int×Int)×List UInt8))
@[reducible] def zK28:Type:=List (List UInt8×Int×List (List UInt8×(Int×Int)×List UInt8×Int))
theorem qe7_  (self:zK26) (t:zK27) (words:zK7) (t30:zK28) (t31:Int) (t32:Int) (t5:Int×Int):qey_ self (t,words,t30,t31,t32,t5)=q5r_ (q73_) (fun t words t30 t31 t32 t5=>self (t,words,t30,t31,t32,t5)) t words t30 t31 t32 t5:=rfl
theorem qix_  (t:zK27) (words:zK7) (t30:zK28) (t31:Int) (t32:Int) (t5:Int×Int):qa7_ t words t30 t31 t32 t5=loopF (qey_) 18446744073709551616 (t,words,t30,t31,t32,t5):=rfl
@[reducible] def zK29:Type:=(List (List (Int×Int)))×(Int)×(Int)×(Int×Int)×(List (Int×List (Int×List Int)))->Option (As [.sl (.pr (.int .i64) (.sl (.pr (.int .i64) (.sl (.int .u16))))),.pr (.int .i64) (.int .i64)])
def q7y_ :=(fun (self:zK29) (s:(List (List (Int×Int)))×(Int)×(Int)×(Int×Int)×(List (Int×List (Int×List Int))))=>q5t_ (qa3_) (fun t58 t59 t60 t5 l=>self (t58,t59,t60,t5,l)) s.1 s.2.1 s.2.2.1 s.2.2.2.1 s.2.2.2.2)
@[reducible] def zK30:Type:=List (Int×List (Int×List Int))
theorem qeb_  (self:zK29) (t58:zK7) (t59:Int) (t60:Int) (t5:Int×Int) (l:zK30):q7y_ self (t58,t59,t60,t5,l)=q5t_ (qa3_) (fun t58 t59 t60 t5 l=>self (t58,t59,t60,t5,l)) t58 t59 t60 t5 l:=rfl
theorem qis_  (t58:zK7) (t59:Int) (t60:Int) (t5:Int×Int) (l:zK30):qat_ t58 t59 t60 t5 l=loopF (q7y_) 18446744073709551616 (t58,t59,t60,t5,l):=rfl
@[reducible] def zK31:Type:=(List Int)×(List Int)×(List (List UInt8×Int×List (List UInt8×(Int×Int)×List UInt8×Int)))×(Int)×(Int)×(List UInt8×List (List UInt8×Int×Int×Bool×(Int×Int)×(Int×Int)×List UInt8))×(List (Int×Int))->Option (As [.bool])
def qdm_ :=(fun (self:zK31) (s:(List Int)×(List Int)×(List (List UInt8×Int×List (List UInt8×(Int×Int)×List UInt8×Int)))×(Int)×(Int)×(List UInt8×List (List UInt8×Int×Int×Bool×(Int×Int)×(Int×Int)×List UInt8))×(List (Int×Int)))=>q3c_ (q3q_ (fun was now t23 t24 t25 d said=>self (was,now,t23,t24,t25,d,said))) (q3n_) (fun was now t23 t24 t25 d said=>self (was,now,t23,t24,t25,d,said)) s.1 s.2.1 s.2.2.1 s.2.2.2.1 s.2.2.2.2.1 s.2.2.2.2.2.1 s.2.2.2.2.2.2)
@[reducible] def zK32:Type:=List UInt8×List (List UInt8×Int×Int×Bool×(Int×Int)×(Int×Int)×List UInt8)
theorem qcw_  (self:zK31) (was:List Int) (now:List Int) (t23:zK28) (t24:Int) (t25:Int) (d:zK32) (said:zK12):qdm_ self (was,now,t23,t24,t25,d,said)=q3c_ (q3q_ (fun was now t23 t24 t25 d said=>self (was,now,t23,t24,t25,d,said))) (q3n_) (fun was now t23 t24 t25 d said=>self (was,now,t23,t24,t25,d,said)) was now t23 t24 t25 d said:=rfl
theorem qic_  (was:List Int) (now:List Int) (t23:zK28) (t24:Int) (t25:Int) (d:zK32) (said:zK12):q86_ was now t23 t24 t25 d said=loopF (qdm_) 18446744073709551616 (was,now,t23,t24,t25,d,said):=rfl
@[reducible] def zK33:Type:=List Int->List Int->List (List UInt8×Int×List (List UInt8×(Int×Int)×List UInt8×Int))->Int->Int->List UInt8×List (List UInt8×Int×Int×Bool×(Int×Int)×(Int×Int)×List UInt8)->List (Int×Int)->Option (As [.bool])
@[reducible] def zK34:Type:=(List Int)×(List Int)×(List (List UInt8×Int×List (List UInt8×(Int×Int)×List UInt8×Int)))×(Int)×(Int)×(List (List UInt8×(Int×Int)×List UInt8×Int))×(Int)×(Int)×(List UInt8×List (List UInt8×Int×Int×Bool×(Int×Int)×(Int×Int)×List UInt8))×(List (Int×Int))->Option (As [.bool])
def qe0_ (u1:zK33):=(fun (self:zK34) (s:(List Int)×(List Int)×(List (List UInt8×Int×List (List UInt8×(Int×Int)×List UInt8×Int)))×(Int)×(Int)×(List (List UInt8×(Int×Int)×List UInt8×Int))×(Int)×(Int)×(List UInt8×List (List UInt8×Int×Int×Bool×(Int×Int)×(Int×Int)×List UInt8))×(List (Int×Int)))=>q3t_ (q3f_ u1 (fun was now t23 t24 t25 t35 t36 t37 d said=>self (was,now,t23,t24,t25,t35,t36,t37,d,said))) u1 (fun was now t23 t24 t25 t35 t36 t37 d said=>self (was,now,t23,t24,t25,t35,t36,t37,d,said)) s.1 s.2.1 s.2.2.1 s.2.2.2.1 s.2.2.2.2.1 s.2.2.2.2.2.1 s.2.2.2.2.2.2.1 s.2.2.2.2.2.2.2.1 s.2.2.2.2.2.2.2.2.1 s.2.2.2.2.2.2.2.2.2)
@[reducible] def zK35:Type:=List (List UInt8×(Int×Int)×List UInt8×Int)
theorem qcx_ (u1:zK33) (self:zK34) (was now:List Int) (t23:zK28) (t24 t25:Int) (t35:zK35) (t36 t37:Int) (d:zK32) (said:zK12):qe0_ u1 self (was,now,t23,t24,t25,t35,t36,t37,d,said)=q3t_ (q3f_ u1 (fun was now t23 t24 t25 t35 t36 t37 d said=>self (was,now,t23,t24,t25,t35,t36,t37,d,said))) u1 (fun was now t23 t24 t25 t35 t36 t37 d said=>self (was,now,t23,t24,t25,t35,t36,t37,d,said)) was now t23 t24 t25 t35 t36 t37 d said:=rfl
theorem qi3_ (u1:zK33) (was now:List Int) (t23:zK28) (t24 t25:Int) (t35:zK35) (t36 t37:Int) (d:zK32) (said:zK12):q3q_ u1 was now t23 t24 t25 t35 t36 t37 d said=loopF (qe0_ u1) 18446744073709551616 (was,now,t23,t24,t25,t35,t36,t37,d,said):=rfl
@[reducible] def zK36:Type:=List Int->List Int->List (List UInt8×Int×List (List UInt8×(Int×Int)×List UInt8×Int))->Int->Int->List (List UInt8×(Int×Int)×List UInt8×Int)->Int->Int->List UInt8×List (List UInt8×Int×Int×Bool×(Int×Int)×(Int×Int)×List UInt8)->List (Int×Int)->Option (As [.bool])
@[reducible] def zK37:Type:=(List Int)×(List Int)×(List (List UInt8×Int×List (List UInt8×(Int×Int)×List UInt8×Int)))×(Int)×(Int)×(List (List UInt8×(Int×Int)×List UInt8×Int))×(Int)×(Int)×(List (List UInt8×Int×Int×Bool×(Int×Int)×(Int×Int)×List UInt8))×(Int)×(Int)×(List UInt8×List (List UInt8×Int×Int×Bool×(Int×Int)×(Int×Int)×List UInt8))×(List (Int×Int))×(List UInt8×(Int×Int)×List UInt8×Int)->Option (As [.bool])
def qdn_ (u1:zK33) (u2:zK36):=(fun (self:zK37) (s:(List Int)×(List Int)×(List (List UInt8×Int×List (List UInt8×(Int×Int)×List UInt8×Int)))×(Int)×(Int)×(List (List UInt8×(Int×Int)×List UInt8×Int))×(Int)×(Int)×(List (List UInt8×Int×Int×Bool×(Int×Int)×(Int×Int)×List UInt8))×(Int)×(Int)×(List UInt8×List (List UInt8×Int×Int×Bool×(Int×Int)×(Int×Int)×List UInt8))×(List (Int×Int))×(List UInt8×(Int×Int)×List UInt8×Int))=>q3j_ (q7s_ u1 u2 (fun was now t23 t24 t25 t35 t36 t37 t42 t43 t44 d said s=>self (was,now,t23,t24,t25,t35,t36,t37,t42,t43,t44,d,said,s))) u1 u2 (fun was now t23 t24 t25 t35 t36 t37 t42 t43 t44 d said s=>self (was,now,t23,t24,t25,t35,t36,t37,t42,t43,t44,d,said,s)) s.1 s.2.1 s.2.2.1 s.2.2.2.1 s.2.2.2.2.1 s.2.2.2.2.2.1 s.2.2.2.2.2.2.1 s.2.2.2.2.2.2.2.1 s.2.2.2.2.2.2.2.2.1 s.2.2.2.2.2.2.2.2.2.1 s.2.2.2.2.2.2.2.2.2.2.1 s.2.2.2.2.2.2.2.2.2.2.2.1 s.2.2.2.2.2.2.2.2.2.2.2.2.1 s.2.2.2.2.2.2.2.2.2.2.2.2.2)
@[reducible] def zK38:Type:=List (List UInt8×Int×Int×Bool×(Int×Int)×(Int×Int)×List UInt8)
theorem qd3_ (u1:zK33) (u2:zK36) (self:zK37) (was now:List Int) (t23:zK28) (t24 t25:Int) (t35:zK35) (t36 t37:Int) (t42:zK38) (t43 t44:Int) (d:zK32) (said:zK12) (s:zK13):qdn_ u1 u2 self (was,now,t23,t24,t25,t35,t36,t37,t42,t43,t44,d,said,s)=q3j_ (q7s_ u1 u2 (fun was now t23 t24 t25 t35 t36 t37 t42 t43 t44 d said s=>self (was,now,t23,t24,t25,t35,t36,t37,t42,t43,t44,d,said,s))) u1 u2 (fun was now t23 t24 t25 t35 t36 t37 t42 t43 t44 d said s=>self (was,now,t23,t24,t25,t35,t36,t37,t42,t43,t44,d,said,s)) was now t23 t24 t25 t35 t36 t37 t42 t43 t44 d said s:=rfl
theorem qi0_ (u1:zK33) (u2:zK36) (was now:List Int) (t23:zK28) (t24 t25:Int) (t35:zK35) (t36 t37:Int) (t42:zK38) (t43 t44:Int) (d:zK32) (said:zK12) (s:zK13):q3f_ u1 u2 was now t23 t24 t25 t35 t36 t37 t42 t43 t44 d said s=loopF (qdn_ u1 u2) 18446744073709551616 (was,now,t23,t24,t25,t35,t36,t37,t42,t43,t44,d,said,s):=rfl
def qdz_ :=(fun (self:zK19) (s:zK20)=>q3h_ (q5i_ (fun was now t96 t97 said=>self (was,now,t96,t97,said))) (fun was now t96 t97 said=>self (was,now,t96,t97,said)) s.1 s.2.1 s.2.2.1 s.2.2.2.1 s.2.2.2.2)
theorem qd7_  (self:zK19) (was:List Int) (now:List Int) (t96:Int) (t97:Int) (said:zK12):qdz_ self (was,now,t96,t97,said)=q3h_ (q5i_ (fun was now t96 t97 said=>self (was,now,t96,t97,said))) (fun was now t96 t97 said=>self (was,now,t96,t97,said)) was now t96 t97 said:=rfl
theorem qid_  (was:List Int) (now:List Int) (t96:Int) (t97:Int) (said:zK12):q7b_ was now t96 t97 said=loopF (qdz_) 18446744073709551616 (was,now,t96,t97,said):=rfl
@[reducible] def zK39:Type:=(List (List UInt8×List (List UInt8×Int×Int×Bool×(Int×Int)×(Int×Int)×List UInt8)))×(List (Int×List (Int×List Int)))×(Int)×(List (Int×List (Int×List Int)))×(Int)×(Int)×(List UInt8×List (List UInt8×Int×List (List UInt8×(Int×Int)×List UInt8×Int)))×(List Int)->Option (As [.bool])
def qap_ :=(fun (self:zK39) (s:(List (List UInt8×List (List UInt8×Int×Int×Bool×(Int×Int)×(Int×Int)×List UInt8)))×(List (Int×List (Int×List Int)))×(Int)×(List (Int×List (Int×List Int)))×(Int)×(Int)×(List UInt8×List (List UInt8×Int×List (List UInt8×(Int×Int)×List UInt8×Int)))×(List Int))=>q1p_ (q4x_ (fun t l last t59 t60 t61 r was=>self (t,l,last,t59,t60,t61,r,was))) (q2n_) (fun t l last t59 t60 t61 r was=>self (t,l,last,t59,t60,t61,r,was)) s.1 s.2.1 s.2.2.1 s.2.2.2.1 s.2.2.2.2.1 s.2.2.2.2.2.1 s.2.2.2.2.2.2.1 s.2.2.2.2.2.2.2)
@[reducible] def zK40:Type:=List UInt8×List (List UInt8×Int×List (List UInt8×(Int×Int)×List UInt8×Int))
theorem q9u_  (self:zK39) (t:zK27) (l:zK30) (last:Int) (t59:zK30) (t60:Int) (t61:Int) (r:zK40) (was:List Int):qap_ self (t,l,last,t59,t60,t61,r,was)=q1p_ (q4x_ (fun t l last t59 t60 t61 r was=>self (t,l,last,t59,t60,t61,r,was))) (q2n_) (fun t l last t59 t60 t61 r was=>self (t,l,last,t59,t60,t61,r,was)) t l last t59 t60 t61 r was:=rfl
theorem qfb_  (t:zK27) (l:zK30) (last:Int) (t59:zK30) (t60:Int) (t61:Int) (r:zK40) (was:List Int):q4p_ t l last t59 t60 t61 r was=loopF (qap_) 18446744073709551616 (t,l,last,t59,t60,t61,r,was):=rfl
@[reducible] def zK41:Type:=(List (Int×List (Int×List Int)))×(List Int)×(List (List UInt8×List (List UInt8×Int×Int×Bool×(Int×Int)×(Int×Int)×List UInt8)))×(Int)×(Int)×(List UInt8×List (List UInt8×Int×List (List UInt8×(Int×Int)×List UInt8×Int)))->Option (As [.bool])
def qan_ :=(fun (self:zK41) (s:(List (Int×List (Int×List Int)))×(List Int)×(List (List UInt8×List (List UInt8×Int×Int×Bool×(Int×Int)×(Int×Int)×List UInt8)))×(Int)×(Int)×(List UInt8×List (List UInt8×Int×List (List UInt8×(Int×Int)×List UInt8×Int))))=>q1t_ (q1u_ (fun l was t91 t92 t93 r=>self (l,was,t91,t92,t93,r))) (fun l was t91 t92 t93 r=>self (l,was,t91,t92,t93,r)) s.1 s.2.1 s.2.2.1 s.2.2.2.1 s.2.2.2.2.1 s.2.2.2.2.2)
theorem q9w_  (self:zK41) (l:zK30) (was:List Int) (t91:zK27) (t92:Int) (t93:Int) (r:zK40):qan_ self (l,was,t91,t92,t93,r)=q1t_ (q1u_ (fun l was t91 t92 t93 r=>self (l,was,t91,t92,t93,r))) (fun l was t91 t92 t93 r=>self (l,was,t91,t92,t93,r)) l was t91 t92 t93 r:=rfl
theorem qf7_  (l:zK30) (was:List Int) (t91:zK27) (t92:Int) (t93:Int) (r:zK40):q4o_ l was t91 t92 t93 r=loopF (qan_) 18446744073709551616 (l,was,t91,t92,t93,r):=rfl
@[reducible] def zK42:Type:=List (Int×List (Int×List Int))->List Int->List (List UInt8×List (List UInt8×Int×Int×Bool×(Int×Int)×(Int×Int)×List UInt8))->Int->Int->List UInt8×List (List UInt8×Int×List (List UInt8×(Int×Int)×List UInt8×Int))->Option (As [.bool])
@[reducible] def zK43:Type:=(List (Int×List (Int×List Int)))×(List Int)×(Int)×(List Int)×(List (List UInt8×List (List UInt8×Int×Int×Bool×(Int×Int)×(Int×Int)×List UInt8)))×(Int)×(Int)×(List (Int×List (Int×List Int)))×(Int)×(Int)×(List UInt8×List (List UInt8×Int×List (List UInt8×(Int×Int)×List UInt8×Int)))×(List UInt8×List (List UInt8×Int×Int×Bool×(Int×Int)×(Int×Int)×List UInt8))->Option (As [.bool])
def qav_ (u5:zK42):=(fun (self:zK43) (s:(List (Int×List (Int×List Int)))×(List Int)×(Int)×(List Int)×(List (List UInt8×List (List UInt8×Int×Int×Bool×(Int×Int)×(Int×Int)×List UInt8)))×(Int)×(Int)×(List (Int×List (Int×List Int)))×(Int)×(Int)×(List UInt8×List (List UInt8×Int×List (List UInt8×(Int×Int)×List UInt8×Int)))×(List UInt8×List (List UInt8×Int×Int×Bool×(Int×Int)×(Int×Int)×List UInt8)))=>q1r_ (q2r_ u5 (fun l was i now t91 t92 t93 t99 t100 t101 r d=>self (l,was,i,now,t91,t92,t93,t99,t100,t101,r,d))) (q1s_ u5) u5 (fun l was i now t91 t92 t93 t99 t100 t101 r d=>self (l,was,i,now,t91,t92,t93,t99,t100,t101,r,d)) s.1 s.2.1 s.2.2.1 s.2.2.2.1 s.2.2.2.2.1 s.2.2.2.2.2.1 s.2.2.2.2.2.2.1 s.2.2.2.2.2.2.2.1 s.2.2.2.2.2.2.2.2.1 s.2.2.2.2.2.2.2.2.2.1 s.2.2.2.2.2.2.2.2.2.2.1 s.2.2.2.2.2.2.2.2.2.2.2)
theorem q9v_ (u5:zK42) (self:zK43) (l:zK30) (was:List Int) (i:Int) (now:List Int) (t91:zK27) (t92 t93:Int) (t99:zK30) (t100 t101:Int) (r:zK40) (d:zK32):qav_ u5 self (l,was,i,now,t91,t92,t93,t99,t100,t101,r,d)=q1r_ (q2r_ u5 (fun l was i now t91 t92 t93 t99 t100 t101 r d=>self (l,was,i,now,t91,t92,t93,t99,t100,t101,r,d))) (q1s_ u5) u5 (fun l was i now t91 t92 t93 t99 t100 t101 r d=>self (l,was,i,now,t91,t92,t93,t99,t100,t101,r,d)) l was i now t91 t92 t93 t99 t100 t101 r d:=rfl
theorem qf2_ (u5:zK42) (l:zK30) (was:List Int) (i:Int) (now:List Int) (t91:zK27) (t92 t93:Int) (t99:zK30) (t100 t101:Int) (r:zK40) (d:zK32):q1u_ u5 l was i now t91 t92 t93 t99 t100 t101 r d=loopF (qav_ u5) 18446744073709551616 (l,was,i,now,t91,t92,t93,t99,t100,t101,r,d):=rfl
@[reducible] def zK44:Type:=List (Int×List (Int×List Int))->List Int->Int->List Int->List (List UInt8×List (List UInt8×Int×Int×Bool×(Int×Int)×(Int×Int)×List UInt8))->Int->Int->List (Int×List (Int×List Int))->Int->Int->List UInt8×List (List UInt8×Int×List (List UInt8×(Int×Int)×List UInt8×Int))->List UInt8×List (List UInt8×Int×Int×Bool×(Int×Int)×(Int×Int)×List UInt8)->Option (As [.bool])
@[reducible] def zK45:Type:=(List (Int×List (Int×List Int)))×(List Int)×(Int)×(Int)×(List (List UInt8×List (List UInt8×Int×Int×Bool×(Int×Int)×(Int×Int)×List UInt8)))×(Int)×(Int)×(List (Int×List (Int×List Int)))×(Int)×(Int)×(List UInt8×List (List UInt8×Int×List (List UInt8×(Int×Int)×List UInt8×Int)))×(List UInt8×List (List UInt8×Int×Int×Bool×(Int×Int)×(Int×Int)×List UInt8))×(Int×List (Int×List Int))×(List (Int×List Int))->Option (As [.bool])
def q6a_ (u5:zK42) (u6:zK44):=(fun (self:zK45) (s:(List (Int×List (Int×List Int)))×(List Int)×(Int)×(Int)×(List (List UInt8×List (List UInt8×Int×Int×Bool×(Int×Int)×(Int×Int)×List UInt8)))×(Int)×(Int)×(List (Int×List (Int×List Int)))×(Int)×(Int)×(List UInt8×List (List UInt8×Int×List (List UInt8×(Int×Int)×List UInt8×Int)))×(List UInt8×List (List UInt8×Int×Int×Bool×(Int×Int)×(Int×Int)×List UInt8))×(Int×List (Int×List Int))×(List (Int×List Int)))=>q1n_ (q2m_ u5 u6) u5 u6 (fun l was i k t91 t92 t93 t99 t100 t101 r d s back=>self (l,was,i,k,t91,t92,t93,t99,t100,t101,r,d,s,back)) s.1 s.2.1 s.2.2.1 s.2.2.2.1 s.2.2.2.2.1 s.2.2.2.2.2.1 s.2.2.2.2.2.2.1 s.2.2.2.2.2.2.2.1 s.2.2.2.2.2.2.2.2.1 s.2.2.2.2.2.2.2.2.2.1 s.2.2.2.2.2.2.2.2.2.2.1 s.2.2.2.2.2.2.2.2.2.2.2.1 s.2.2.2.2.2.2.2.2.2.2.2.2.1 s.2.2.2.2.2.2.2.2.2.2.2.2.2)
theorem q9t_ (u5:zK42) (u6:zK44) (self:zK45) (l:zK30) (was:List Int) (i k:Int) (t91:zK27) (t92 t93:Int) (t99:zK30) (t100 t101:Int) (r:zK40) (d:zK32) (s:zK21) (back:zK1):q6a_ u5 u6 self (l,was,i,k,t91,t92,t93,t99,t100,t101,r,d,s,back)=q1n_ (q2m_ u5 u6) u5 u6 (fun l was i k t91 t92 t93 t99 t100 t101 r d s back=>self (l,was,i,k,t91,t92,t93,t99,t100,t101,r,d,s,back)) l was i k t91 t92 t93 t99 t100 t101 r d s back:=rfl
theorem qez_ (u5:zK42) (u6:zK44) (l:zK30) (was:List Int) (i k:Int) (t91:zK27) (t92 t93:Int) (t99:zK30) (t100 t101:Int) (r:zK40) (d:zK32) (s:zK21) (back:zK1):q2r_ u5 u6 l was i k t91 t92 t93 t99 t100 t101 r d s back=loopF (q6a_ u5 u6) 18446744073709551616 (l,was,i,k,t91,t92,t93,t99,t100,t101,r,d,s,back):=rfl
end Go.Proofs.Lx
end
section
set_option maxRecDepth 100000
namespace Go.Proofs.Lx
open Go Ev Sx Pl
theorem ents_mem {e:Int×Int}:∀ {ws:List Int} {bs:List Bool} {i:Nat},e ∈ ents i ws bs ↔ ∃ j:Nat,e.1=((i + j:Nat):Int)∧ws[j]? = some e.2∧bs[j]? = some true
 | w::ws,b::bs,i=>by
  have hr:=@ents_mem e ws bs (i + 1)
  unfold ents
  constructor
  ·intro h
   have tl:e ∈ ents (i + 1) ws bs->∃ j:Nat,e.1=((i + j:Nat):Int)∧(w::ws)[j]? = some e.2∧(b::bs)[j]? = some true:=fun h=>by
    obtain ⟨j,h1,h2,h3⟩:=hr.1 h
    exact ⟨j + 1,by rw [h1]; congr 1; omega,by simpa using h2,by simpa using h3⟩
   split at h
   ·rename_i hb
    rcases List.mem_cons.1 h with h | h
    ·subst h
     exact ⟨0,by simp,by simp,by simp [hb]⟩
    ·exact tl h
   ·exact tl h
  ·rintro ⟨j,h1,h2,h3⟩
   cases j with
   | zero =>
    simp at h2 h3
    rw [if_pos h3]
    have:e=((i:Int),w):=Prod.ext (by rw [h1]; simp) h2.symm
    rw [this]
    exact List.mem_cons_self ..
   | succ j =>
    have:e ∈ ents (i + 1) ws bs:=hr.2 ⟨j,by rw [h1]; congr 1; omega,by simpa using h2,by simpa using h3⟩
    split
    ·exact List.mem_cons_of_mem _ this
    ·exact this
 | [],bs,i=>by simp [ents]
 | w::ws,[],i=>by simp [ents]
def valsM (m:EnL):List Int:=(List.range 64).map fun (i:Nat)=>bkV m (i:Int)
def bitsM (m:EnL):List Bool:=(List.range 64).map fun (i:Nat)=>(dget kT m (i:Int)).isSome
def esM (m:EnL):EnL:=ents 0 (valsM m) (bitsM m)
def blkM (m:EnL):Option (List Bk):=foldE (esM m) (some [])
theorem esM_mem {m:EnL} {a w:Int}:(a,w) ∈ esM m ↔ (0≤a∧a < 64)∧dget kT m a=some w:=by
 unfold esM
 rw [ents_mem]
 unfold valsM bitsM
 constructor
 ·rintro ⟨j,h1,h2,h3⟩
  dsimp only at h1 h2
  rw [List.getElem?_map] at h2 h3
  cases hj:(List.range 64)[j]? with
  | none=>rw [hj] at h2; cases h2
  | some x =>
   rw [hj] at h2 h3
   have hlt:=(List.getElem?_eq_some_iff.1 hj)
   obtain ⟨hl,hx⟩:=hlt
   simp at hl hx
   subst hx
   simp at h2 h3
   have ha:a=(j:Int):=by omega
   subst ha
   refine ⟨by omega,?_⟩
   cases hd:dget kT m (j:Int) with
   | none=>rw [hd] at h3; cases h3
   | some v =>
    unfold bkV at h2
    rw [hd] at h2
    exact congrArg some h2
 ·rintro ⟨h1,h2⟩
  refine ⟨a.toNat,by dsimp only; omega,?_,?_⟩
  ·rw [List.getElem?_map,List.getElem?_range (by omega)]
   show some (bkV m ((a.toNat:Nat):Int))=some w
   rw [show ((a.toNat:Nat):Int)=a by omega]
   unfold bkV
   rw [h2]
   rfl
  ·rw [List.getElem?_map,List.getElem?_range (by omega)]
   show some (dget kT m ((a.toNat:Nat):Int)).isSome=some true
   rw [show ((a.toNat:Nat):Int)=a by omega,h2]
   rfl
def KeysIn (m:EnL):Prop:=∀ k ∈ m.map (·.1),0≤k∧k < 64
theorem rise_nodup {es:EnL} (h:rise es):(es.map (·.1)).Nodup:=h.imp fun h=>by omega
theorem keys_perm {m:EnL} (hn:(m.map (·.1)).Nodup) (hk:KeysIn m):(m.map (fun e:Int×Int=>e.1)).Perm ((esM m).map (fun e:Int×Int=>e.1)):=by
 rw [List.perm_ext_iff_of_nodup hn (rise_nodup (es:=esM m) ents_rise)]
 intro k
 have hd:=@dget_none m k
 constructor
 ·intro h
  cases hg:dget kT m k with
  | none=>exact absurd h (hd.1 hg)
  | some w=>exact List.mem_map.2 ⟨(k,w),esM_mem.2 ⟨hk k h,hg⟩,rfl⟩
 ·intro h
  obtain ⟨e,he,rfl⟩:=List.mem_map.1 h
  have:=(esM_mem (a:=e.1) (w:=e.2)).1 he
  rcases Decidable.em (e.1 ∈ m.map (·.1)) with h1 | h1
  ·exact h1
  ·rw [hd.2 h1] at this; cases this.2
theorem bits_len (m:EnL):(bitsM m).length=64:=by simp [bitsM]
theorem vals_len (m:EnL):(valsM m).length=64:=by simp [valsM]
theorem bkRes_map {m:EnL} (hn:(m.map (·.1)).Nodup) (hk:KeysIn m):bkRes m=resOf (blkM m):=by
 have hp:=keys_perm hn hk
 have hl:m.length≤64:=by
  have h1:=hp.length_eq
  have h2:=@ents_len 0 (valsM m) (bitsM m)
  rw [bits_len] at h2
  rw [List.length_map,List.length_map] at h1
  show m.length≤64
  rw [h1]
  exact h2
 rw [bkRes_eq,if_neg (by omega)]
 have hs:sorted (m.map (·.1))=(esM m).map (·.1):=by
  have e1:=mergeSort_of_perm_i hp
  have e2:sorted ((esM m).map (·.1))=(esM m).map (·.1):=sorted_rise ents_rise
  exact e1.trans e2
 rw [hs,bkAll_fold fun e he=>(esM_mem.1 he).2]
 rfl
theorem blkM_ok {m:EnL} {l:List Bk} (h:blkM m=some l):Good l∧l.length≤8∧flat l=esM m:=by
 have:=allB (valsM m) (bitsM m) 0 0 0 [] (some []) (by rw [vals_len,bits_len]) (by rw [bits_len]; omega) startB
 rw [List.nil_append] at this
 have h':foldE (ents 0 (valsM m) (bitsM m)) (some [])=some l:=h
 rw [h'] at this
 exact ⟨this.1,this.2.2.1,this.2.2.2.1⟩
theorem blocksd_eq {m:EnL} (hn:(m.map (·.1)).Nodup) (hk:KeysIn m):q6f_ (m,())=some ((blkM m).getD [],(blkM m).isSome,()):=by
 have h:m.all keyOk=true:=List.all_eq_true.2 fun e he=>keyOk_iff.2 (by have:=hk e.1 (List.mem_map.2 ⟨e,he,rfl⟩); unfold inR; omega)
 show (if m.all keyOk=true then some ((bkRes m).1,(bkRes m).2,()) else none)=_
 rw [if_pos h,bkRes_map hn hk]
 cases blkM m <;> rfl
def mapD (ps:List TPart) (d:TDev):EnL:=fillM [] (wrD d ps)
def badP (t:TTab) (ps:List TPart) (p:TPart):Bool:=match srch (fun d=>eqs d.1 p.1) t 0 with
 | some z=>(blkM (mapD ps z.2)).isNone
 | none=>false
def shrS:Nat->List EnL->List (Int×List Bk)
 | _,[]=>[]
 | i,m::q=>if ((blkM m).getD []).length=0 then shrS (i + 1) q else ((i:Int),(blkM m).getD [])::shrS (i + 1) q
def makeS (t:TTab) (r:TRec):List (Int×List Bk)×(Int×Int):=if checkS t r=(0,0) then match r.2.find? (badP t r.2) with
  | some p=>([],(160,p.2.1))
  | none=>(shrS 0 (qm_ t r.2),(0,0))
 else ([],checkS t r)
theorem fill_keys {L:EnL} {P:Int->Prop} (h:∀ e ∈ L,P e.1):∀ k ∈ (fillM [] L).map (·.1),P k:=by
 intro k hk
 have:dget kT (fillM [] L) k ≠ none:=fun e=>dget_none.1 e hk
 cases hd:dget kT (fillM [] L) k with
 | none=>exact absurd hd this
 | some w =>
  rcases fill_some L [] k w hd with h1 | h1
  ·exact h _ h1
  ·cases h1
theorem ptB_at {p:TPt} (h:ptB p=true):(0≤p.2.1∧p.2.1 < 64)∧(0≤p.2.2.1∧p.2.2.1≤6):=by
 unfold ptB at h
 simp only [Bool.and_eq_true,decide_eq_true_eq] at h
 exact ⟨h.2.1,h.2.2.1⟩
theorem mapD_ok {t:TTab} (hB:tabB t=true) {d:TDev} (hd:d ∈ t) (ps:List TPart):((mapD ps d).map (·.1)).Nodup∧KeysIn (mapD ps d):=by
 refine ⟨fill_nodup _ [] (by simp),fill_keys (P:=fun k=>0≤k∧k < 64) fun e he=>?_⟩
 obtain ⟨a,w⟩:=e
 obtain ⟨p,_,_,s,_,q,hq,_,h2,_⟩:=wrD_mem.1 he
 rw [<- h2]
 exact (ptB_at ((devB_dis ((tabB_dis hB).2.2 d hd)).2.2 q hq)).1
theorem shr_len:∀ (i:Nat) (ms:List EnL),(shrS i ms).length≤ms.length
 | _,[]=>by simp [shrS]
 | i,m::q=>by
  have:=shr_len (i + 1) q
  unfold shrS
  split <;> simp only [List.length_cons] <;> omega
theorem make_eq {t:TTab} {r:TRec} (ht:TabR t) (hr:RecR r):qcl_ (t,r,())=some ((makeS t r).1,(makeS t r).2,()):=by
 have ht1:=ht.1
 have hr1:=hr.1
 show qam_ qa7_ t r=_
 unfold qam_ makeS
 rw [qsz_ ht hr]
 rcases check_cases t r with ⟨h1,hB,h3,h4⟩ | ⟨h1,_⟩
 ·rw [if_pos h1,if_pos h1,Option.bind_some]
  dsimp only
  rw [if_neg (by decide)]
  have K2:q73_ (qm_ t r.2) (0,0)=some (shrS 0 (qm_ t r.2),(0,0),()):=by
   show qat_ (qm_ t r.2) (Int.ofNat (qm_ t r.2).length) 0 (0,0) []=_
   have hwl:(qm_ t r.2).length=t.length:=by unfold qm_; rw [List.length_map]
   have hw:∀ m ∈ qm_ t r.2,(m.map (·.1)).Nodup∧KeysIn m:=fun m hm=>by
    obtain ⟨d,hd,rfl⟩:=List.mem_map.1 hm
    exact mapD_ok hB hd r.2
   generalize qm_ t r.2=ms at hwl hw ⊢
   rw [qis_]
   have key:∀ (k i n:Nat) (l:List (Int×List Bk)),i + k=ms.length->k < n->l.length≤i->loopF q7y_ n (ms,Int.ofNat ms.length,(i:Int),(0,0),l)=some (l++shrS i (ms.drop i),(0,0),()):=by
    intro k
    induction k with
    | zero =>
     intro i n l hi hn hl
     obtain ⟨n,rfl⟩:∃ n',n=n' + 1:=⟨n - 1,by omega⟩
     rw [q6_,qeb_]
     unfold q5t_
     rw [if_neg (by rw [q0_,q1_]; omega),List.drop_of_length_le (by omega)]
     show some (l,(0,0),())=_
     rw [shrS,List.append_nil]
    | succ k ih =>
     intro i n l hi hn hl
     obtain ⟨n,rfl⟩:∃ n',n=n' + 1:=⟨n - 1,by omega⟩
     have hlt:i < ms.length:=by omega
     have hg:ms[i]? = some ms[i]:=List.getElem?_eq_getElem hlt
     obtain ⟨hn1,hn2⟩:=hw ms[i] (List.getElem_mem hlt)
     rw [q6_,qeb_]
     unfold q5t_
     rw [if_pos (by rw [q0_,q1_]; omega),qg_ hg,Option.bind_some,blocksd_eq hn1 hn2,Option.bind_some,ql_ (by omega),List.drop_eq_getElem_cons hlt,shrS]
     dsimp only
     by_cases h0:((blkM ms[i]).getD []).length=0
     ·rw [if_pos h0,if_neg (by rw [qb_,q1_]; omega)]
      exact ih (i + 1) n l (by omega) (by omega) (by omega)
     ·rw [if_neg h0,if_pos (by rw [qb_,q1_]; omega)]
      rw [need_small (by omega)]
      show loopF q7y_ n (ms,Int.ofNat ms.length,((i + 1:Nat):Int),(0,0),l++[((i:Int),(blkM ms[i]).getD [])])=_
      rw [ih (i + 1) n _ (by omega) (by omega) (by rw [List.length_append,List.length_singleton]; omega),List.append_assoc]
      rfl
   exact (key ms.length 0 18446744073709551616 [] (by omega) (by omega) (by simp)).trans (by rw [List.drop_zero,List.nil_append])
  rw [qix_]
  refine (loop_go (xs:=r.2) (mk:=fun i (_:Unit)=>(t,qm_ t r.2,r.2,Int.ofNat r.2.length,(i:Int),((0,0):Int×Int)))
   (body:=fun a p k=>if badP t r.2 p=true then some ([],(160,p.2.1),()) else k a) (fin:=fun _=>some (shrS 0 (qm_ t r.2),(0,0),())) ?_ ?_ r.2.length 0 () _ (by omega) (by omega)).trans ?_
  ·intro self i a p hp
   have hi:=(List.getElem?_eq_some_iff.1 hp).1
   rw [qe7_]
   unfold q5r_
   rw [if_pos (by rw [q0_,q1_]; omega),qg_ hp,Option.bind_some,find_eq (by omega),Option.bind_some,ql_ (by omega)]
   unfold badP
   cases hz:srch (fun d=>eqs d.1 p.1) t 0 with
   | none=>rfl
   | some z =>
    obtain ⟨z1,z2⟩:=z
    obtain ⟨hm,hg,_⟩:=srch_mem hz
    obtain ⟨hn1,hn2⟩:=mapD_ok hB hm r.2
    have hwg:(qm_ t r.2)[z1]? = some (mapD r.2 z2):=by unfold qm_; rw [List.getElem?_map,hg]; rfl
    dsimp only
    rw [if_pos rfl,qg_ hwg,Option.bind_some,blocksd_eq hn1 hn2,Option.bind_some]
    dsimp only
    rw [show (!(blkM (mapD r.2 z2)).isSome)=(blkM (mapD r.2 z2)).isNone from by cases blkM (mapD r.2 z2) <;> rfl]
  ·intro self a
   rw [qe7_]
   unfold q5r_
   rw [if_neg (by rw [q0_,q1_]; omega)]
   exact K2
  ·rw [List.drop_zero]
   generalize badP t r.2=B
   generalize shrS 0 (qm_ t r.2)=E
   generalize r.2=ps
   induction ps with
   | nil=>rfl
   | cons p q ih =>
    show (if B p=true then some ([],(160,p.2.1),()) else goL _ _ q ())=_
    rw [ih,List.find?_cons]
    cases hb:B p with
    | true=>rfl
    | false=>rfl
 ·have:¬ checkS t r=(0,0):=fun e=>h1 (by rw [e])
  rw [if_neg this,if_neg this,Option.bind_some]
  dsimp only
  rw [if_pos]
  have:eqi (checkS t r).1 0=false:=by rw [Bool.eq_false_iff]; exact fun e=>h1 (q9_.1 e)
  rw [this]
  rfl
end Go.Proofs.Lx
end
section
set_option maxRecDepth 100000
namespace Go.Proofs.Lx
open Go Ev Sx Pl
def sd1 (m:EnL) (a:Int):EnL:=dput (.int .i64) m a (add .i64 (gdV (.int .i64) (dget (.int .i64) m a) 0) 1)
def sdL (m:EnL) (L:List Int):EnL:=L.foldl sd1 m
theorem sdL_app (m:EnL) (L K:List Int):sdL m (L++K)=sdL (sdL m L) K:=by unfold sdL; rw [List.foldl_append]
def cntV (m:EnL) (a:Int):Int:=gdV (.int .i64) (dget (.int .i64) m a) 0
theorem cnt_put (m:EnL) (k v a:Int):cntV (dput (.int .i64) m k v) a=if k=a then v else cntV m a:=by
 unfold cntV
 rw [dget_put]
 by_cases h:k=a
 ·rw [if_pos h,if_pos h]; rfl
 ·rw [if_neg h,if_neg h]
theorem sd_cnt:∀ (L:List Int) (m:EnL) (c:Int->Nat),(∀ a,cntV m a=(c a:Int))->(∀ a,c a + L.length≤1000000)->∀ a,cntV (sdL m L) a=((c a + L.count a:Nat):Int)
 | [],m,c,h,_,a=>by rw [List.count_nil]; exact h a
 | x::q,m,c,h,hb,a=>by
  have hx:=hb x
  rw [List.length_cons] at hx
  have:=sd_cnt q (sd1 m x) (fun a=>if x=a then c a + 1 else c a) (fun b=>by
   unfold sd1
   rw [cnt_put]
   by_cases hxb:x=b
   ·subst hxb
    rw [if_pos rfl,if_pos rfl]
    show add .i64 (cntV m x) 1=_
    rw [h x,ql_ (by omega)]
   ·rw [if_neg hxb,if_neg hxb]; exact h b) (fun b=>by
   have:=hb b
   rw [List.length_cons] at this
   split <;> omega) a
  show cntV (sdL (sd1 m x) q) a=_
  rw [this,List.count_cons]
  by_cases hxa:x=a
  ·subst hxa; simp; omega
  ·have:(x == a)=false:=by simp [hxa]
   rw [if_neg hxa,this]; simp
theorem sd_zero {L:List Int} (h:L.length≤1000000) (a:Int):cntV (sdL [] L) a=0 ↔ a ∉ L:=by
 have:=sd_cnt L [] (fun _=>0) (fun _=>rfl) (fun _=>by omega) a
 rw [this,<- List.count_eq_zero]
 omega
def HasV (now:List Int) (qs:List TPt) (s:TSet):Prop:=∀ q ∈ qs,q.1=s.1->(toS s.2.1 s.2.2.1 q.2.2.2.2.2.2).2=true∧∃ w,at? now q.2.1=some w∧q1w_ (w,q.2.2.1,q.2.2.2.1,())=some ((toS s.2.1 s.2.2.1 q.2.2.2.2.2.2).1,true,())
theorem foldP (s:TSet):∀ (qs:List TPt) (m:EnL),qs.foldl (fun m q=>if eqs q.1 s.1=true then sd1 m q.2.1 else m) m=sdL m ((wrP s qs).map (·.1))
 | [],_=>rfl
 | q::r,m=>by
  rw [List.foldl_cons,foldP s r]
  unfold wrP
  by_cases h:eqs q.1 s.1=true
  ·rw [if_pos h,List.filter_cons_of_pos (p:=fun p:TPt=>eqs p.1 s.1) h]; rfl
  ·rw [if_neg h,List.filter_cons_of_neg (p:=fun p:TPt=>eqs p.1 s.1) (by simpa using h)]
theorem means_K4 (u1:List Int->List Int->List TPart->Int->Int->TDev->EnL->Option (As [.bool])) (u2:List Int->List Int->List TPart->Int->Int->List TSet->Int->Int->TDev->EnL->Option (As [.bool]))
  {now:List Int} {s:TSet} (hs:0≤s.2.1.2) {qs:List TPt} (hl:qs.length≤1000000) (hq:HasV now qs s) (was:List Int) (ps:List TPart) (n k:Int) (ss:List TSet) (n2:Int) (j:Nat) (hj:j≤1000000) (d:TDev) (said:EnL) :
  q3f_ u1 u2 was now ps n k ss n2 (j:Int) qs (Int.ofNat qs.length) 0 d said s=u2 was now ps n k ss n2 ((j + 1:Nat):Int) d (sdL said ((wrP s qs).map (·.1))):=by
 rw [qi0_,<- foldP]
 refine (loop_idx (xs:=qs) (mk:=fun i (a:EnL)=>(was,now,ps,n,k,ss,n2,(j:Int),qs,Int.ofNat qs.length,(i:Int),d,a,s))
  (stp:=fun m q=>if eqs q.1 s.1=true then sd1 m q.2.1 else m) (fin:=fun a=>u2 was now ps n k ss n2 ((j + 1:Nat):Int) d a) (fun _ _=>True) ?_ (fun _ _ _ _ _=>trivial) ?_ qs.length 0 said _ (by omega) (by omega) trivial).trans (by rw [List.drop_zero])
 ·intro self i a q hg _
  have hi:=(List.getElem?_eq_some_iff.1 hg).1
  rw [qd3_]
  unfold q3j_
  rw [if_pos (by rw [q0_,q1_]; omega),qg_ hg,Option.bind_some,ql_ (by omega)]
  by_cases he:q.1=s.1
  ·obtain ⟨h1,w,h2,h3⟩:=hq q (List.mem_of_getElem? hg) he
   rw [if_neg (fun e=>nes_iff.1 e he),if_pos (eqs_i.2 he),(to_eq hs s.2.2.1 q.2.2.2.2.2.2).1,Option.bind_some,h2,Option.bind_some,amb2 (eqAs_refl _)]
   dsimp only
   rw [h3,Option.bind_some,h1]
   show q7x_ (qb9_ _ _ _) _ _ _ was now true true ps n k ss n2 (j:Int) qs _ (i:Int) d a s q _ _=_
   unfold q7x_
   rw [if_neg (by decide),if_neg (by decide),q9_.2 rfl,q9_.2 rfl]
   show q83_ _ _ _ was now ps n k ss n2 (j:Int) qs _ (i:Int) false d a s q=_
   unfold q83_
   rw [if_neg (by decide),ql_ (by omega)]
   rfl
  ·rw [if_pos (nes_iff.2 he),if_neg (fun e=>he (eqs_i.1 e))]
 ·intro self a _
  rw [qd3_]
  unfold q3j_
  rw [if_neg (by rw [q0_,q1_]; omega),ql_ (by omega)]
theorem foldS (qs:List TPt):∀ (ss:List TSet) (m:EnL),ss.foldl (fun m s=>sdL m ((wrP s qs).map (·.1))) m=sdL m ((wrS qs ss).map (·.1))
 | [],_=>rfl
 | s::r,m=>by
  rw [List.foldl_cons,foldS qs r,<- sdL_app,<- List.map_append]
  rfl
theorem means_K2 (u1:List Int->List Int->List TPart->Int->Int->TDev->EnL->Option (As [.bool])) {now:List Int} {d:TDev} (hl:d.2.length≤1000000) {ss:List TSet} (hs:∀ s ∈ ss,0≤s.2.1.2∧HasV now d.2 s) (hss:ss.length≤1000000)
  (was:List Int) (ps:List TPart) (n:Int) (k:Nat) (hk:k≤1000000) (said:EnL) :
  q3q_ u1 was now ps n (k:Int) ss (Int.ofNat ss.length) 0 d said=u1 was now ps n ((k + 1:Nat):Int) d (sdL said ((wrS d.2 ss).map (·.1))):=by
 rw [qi3_,<- foldS]
 refine (loop_idx (xs:=ss) (mk:=fun i (a:EnL)=>(was,now,ps,n,(k:Int),ss,Int.ofNat ss.length,(i:Int),d,a))
  (stp:=fun m s=>sdL m ((wrP s d.2).map (·.1))) (fin:=fun a=>u1 was now ps n ((k + 1:Nat):Int) d a) (fun _ _=>True) ?_ (fun _ _ _ _ _=>trivial) ?_ ss.length 0 said _ (by omega) (by omega) trivial).trans (by rw [List.drop_zero])
 ·intro self i a s hg _
  have hi:=(List.getElem?_eq_some_iff.1 hg).1
  obtain ⟨h1,h2⟩:=hs s (List.mem_of_getElem? hg)
  rw [qcx_]
  unfold q3t_
  rw [if_pos (by rw [q0_,q1_]; omega),qg_ hg,Option.bind_some]
  exact means_K4 _ _ h1 hl h2 was ps n (k:Int) ss _ i (by omega) d a
 ·intro self a _
  rw [qcx_]
  unfold q3t_
  rw [if_neg (by rw [q0_,q1_]; omega),ql_ (by omega)]
theorem foldD (d:TDev):∀ (ps:List TPart) (m:EnL),ps.foldl (fun m p=>if eqs d.1 p.1=true then sdL m ((wrS d.2 p.2.2).map (·.1)) else m) m=sdL m ((wrD d ps).map (·.1))
 | [],_=>rfl
 | p::r,m=>by
  rw [List.foldl_cons,foldD d r]
  show _=sdL m (((if eqs d.1 p.1=true then wrS d.2 p.2.2 else [])++wrD d r).map (·.1))
  by_cases h:eqs d.1 p.1=true
  ·rw [if_pos h,if_pos h,List.map_append,sdL_app]
  ·rw [if_neg h,if_neg h,List.nil_append]
theorem means_eq {d:TDev} {r:TRec} {was now:List Int} (hr:RecR r) (hl:d.2.length≤1000) (hh:∀ p ∈ r.2,d.1=p.1->∀ s ∈ p.2.2,HasV now d.2 s) (hn:was.length≤1000000) (hln:now.length=was.length)
  (hk:(wrD d r.2).length≤1000000) (ho:∀ (i:Nat) (x:Int),was[i]? = some x->(∀ w,((i:Int),w) ∉ wrD d r.2)->now[i]? = some x):q6g_ (d,r,was,now,())=some (true,()):=by
 have hr1:=hr.1
 have K3:∀ said:EnL,(∀ a,cntV said a=0->∀ w,(a,w) ∉ wrD d r.2)->q3n_ was now said=some (true,()):=by
  intro said hsd
  show q7b_ was now (Int.ofNat was.length) 0 said=_
  rw [qid_]
  refine (loop_idx (xs:=was) (mk:=fun i (_:Unit)=>(was,now,Int.ofNat was.length,(i:Int),said)) (stp:=fun _ _=>()) (fin:=fun _=>some (true,())) (fun _ _=>True) ?_ (fun _ _ _ _ _=>trivial) ?_ was.length 0 () _ (by omega) (by omega) trivial)
  ·intro self i a x hg _
   have hi:=(List.getElem?_eq_some_iff.1 hg).1
   have K7:q5i_ (fun was now t96 t97 said=>self (was,now,t96,t97,said)) was now (Int.ofNat was.length) (i:Int) false said=self (was,now,Int.ofNat was.length,((i + 1:Nat):Int),said):=by
    show q7r_ _ was now _ (i:Int) false said=_
    unfold q7r_
    rw [if_neg (by decide),ql_ (by omega)]
   rw [qd7_]
   unfold q3h_
   rw [if_pos (by rw [q0_,q1_]; omega)]
   by_cases h0:cntV said (i:Int)=0
   ·have h1:=ho i x hg (hsd _ h0)
    rw [if_pos (show eqi (gdV (.int .i64) (dget (.int .i64) said (i:Int)) 0) 0=true from q9_.2 h0),qg_ h1,Option.bind_some,qg_ hg,Option.bind_some]
    have:nei x x=false:=by rw [Bool.eq_false_iff]; exact fun e=>qe_.1 e rfl
    rw [this,K7]
   ·rw [if_neg (show ¬ eqi (gdV (.int .i64) (dget (.int .i64) said (i:Int)) 0) 0=true from fun e=>h0 (q9_.1 e)),K7]
  ·intro self a _
   rw [qd7_]
   unfold q3h_
   rw [if_neg (by rw [q0_,q1_]; omega)]
 show q86_ was now r.2 (Int.ofNat r.2.length) 0 d []=_
 rw [qic_]
 refine (loop_idx (xs:=r.2) (mk:=fun i (a:EnL)=>(was,now,r.2,Int.ofNat r.2.length,(i:Int),d,a))
  (stp:=fun m p=>if eqs d.1 p.1=true then sdL m ((wrS d.2 p.2.2).map (·.1)) else m) (fin:=fun a=>q3n_ was now a) (fun _ _=>True) ?_ (fun _ _ _ _ _=>trivial) ?_ r.2.length 0 [] _ (by omega) (by omega) trivial).trans ?_
 ·intro self i a p hg _
  have hi:=(List.getElem?_eq_some_iff.1 hg).1
  have hpm:=List.mem_of_getElem? hg
  have hps:=hr.2 p hpm
  rw [qcw_]
  unfold q3c_
  rw [if_pos (by rw [q0_,q1_]; omega),qg_ hg,Option.bind_some,ql_ (by omega)]
  by_cases he:d.1=p.1
  ·rw [if_neg (fun e=>nes_iff.1 e he.symm),if_pos (eqs_i.2 he)]
   exact means_K2 _ (by omega) (fun s hs=>⟨hps.2 s hs,hh p hpm he s hs⟩) (by omega) was r.2 _ i (by omega) a
  ·rw [if_pos (nes_iff.2 fun e=>he e.symm),if_neg (fun e=>he (eqs_i.1 e))]
 ·intro self a _
  rw [qcw_]
  unfold q3c_
  rw [if_neg (by rw [q0_,q1_]; omega)]
 ·rw [List.drop_zero,foldD]
  refine K3 _ fun a ha w hw=>?_
  have:=(sd_zero (L:=(wrD d r.2).map (·.1)) (by rw [List.length_map]; exact hk) a).1 ha
  exact this (List.mem_map.2 ⟨(a,w),hw,rfl⟩)
end Go.Proofs.Lx
end
