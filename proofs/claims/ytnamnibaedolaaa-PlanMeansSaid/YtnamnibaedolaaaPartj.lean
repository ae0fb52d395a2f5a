/- Proved in the last of these 13 parts (this is part 10): PlanMeans: whatever the table, the recipe and the bank, the law returns true.. Conditions: those of the given statement, and no others. -/
import Derived.Test.YtnamnibaedolaaaParti
import Derived.Test.YtnamnibaedolaaaPartf
import Derived.Test.YtnamnibaedolaaaParte
set_option linter.unusedVariables false
set_option linter.unusedSimpArgs false
set_option linter.unusedSectionVars false
section
set_option maxRecDepth 100000
namespace Go.Proofs.Lx
open Go Ev Sx Pl
theorem stN_ne:∀ (k v:Nat),(stN k v).1 ≠ 0->(stN k v).2 % 10 ≠ 0
 | 0,v,h=>absurd rfl h
 | k + 1,v,h=>by
  rw [stN] at h ⊢
  by_cases hv:v % 10=0
  ·rw [if_pos hv] at h ⊢; exact stN_ne k _ h
  ·rw [if_neg hv] at h ⊢; exact hv
theorem rgt_sgn {sg:Bool} {w k:Nat} (h1:w≤1000000000000) (h2:k≤6) (h3:k ≠ 0->w % 10 ≠ 0):rgt (sgn sg w,(k:Int))=true:=by
 unfold rgt
 refine decide_eq_true ⟨?_,?_,by show (k:Int)≤6; omega,?_⟩
 ·unfold sgn; cases sg <;> simp <;> omega
 ·unfold sgn; cases sg <;> simp <;> omega
 ·by_cases hk:k=0
  ·left; show (k:Int)=0; omega
  ·right
   have:=h3 hk
   exact fun e=>this ((sgn_mod sg w).1 e)
theorem times_right {d:Int×Int} (h0:0≤d.2) {num den:Int} {r:Int×Int} (h:q38_ (d,num,den,())=some (r,true,())):rgt r=true∧0≤r.2:=by
 have hr:=right_eq d
 cases hg:rgt d with
 | false =>
  rw [hg] at hr
  rw [times_bad (.inl hr)] at h
  cases h
 | true =>
  rw [hg] at hr
  by_cases hb:1≤num∧num≤1000000000∧1≤den∧den≤1000000000
  ·obtain ⟨sg,n,D,hd⟩:=rgt_rt hg h0
   have e1:num=(num.toNat:Int):=by omega
   have e2:den=(den.toNat:Int):=by omega
   rw [e1,e2,times_eq hd (by omega) (by omega)] at h
   unfold timesN at h
   split at h
   ·unfold okN at h
    split at h
    ·rename_i hle
     generalize n * num.toNat * 1000000 / (den.toNat * 10 ^ D)=q at h hle
     have hs:=stN_spec 6 q
     have hn:=stN_ne 6 q
     cases h
     exact ⟨rgt_sgn hle hs.1 hn,by show (0:Int)≤((stN 6 q).1:Int); omega⟩
    ·cases h
   ·cases h
  ·rw [times_bad (.inr ⟨hr,hb⟩)] at h
   cases h
theorem to_right {d:Int×Int} (h0:0≤d.2) {f t:List UInt8} {r:Int×Int} (h:q2a_ (d,f,t,())=some (r,true,())):rgt r=true∧0≤r.2:=by
 have key:∀ (b:Bool) (x y:List UInt8×Int×Int),q1d_ b d.1 d.2 0 0 x.1 x.2.1 x.2.2 y.1 y.2.1 y.2.2=some (r,true,())->rgt r=true∧0≤r.2:=fun b x y h=>by
  unfold q1d_ qci_ at h
  cases b with
  | true=>rw [if_pos rfl] at h; cases h
  | false =>
   rw [if_neg (by decide)] at h
   obtain ⟨z,h1,h2⟩:=Option.bind_eq_some_iff.1 h
   obtain ⟨z1,z2,z3⟩:=z
   cases h2
   exact times_right (d:=(d.1,d.2)) h0 h1
 have e1:q2a_ (d,f,t,())=(if (!(knS f).isSome)=true then q1d_ true d.1 d.2 0 0 ((knS f).getD ([],0,0)).1 ((knS f).getD ([],0,0)).2.1 ((knS f).getD ([],0,0)).2.2 ((knS t).getD ([],0,0)).1 ((knS t).getD ([],0,0)).2.1 ((knS t).getD ([],0,0)).2.2 else if (!(knS t).isSome)=true then q1d_ true d.1 d.2 0 0 ((knS f).getD ([],0,0)).1 ((knS f).getD ([],0,0)).2.1 ((knS f).getD ([],0,0)).2.2 ((knS t).getD ([],0,0)).1 ((knS t).getD ([],0,0)).2.1 ((knS t).getD ([],0,0)).2.2 else q1d_ (nes ((knS f).getD ([],0,0)).1 ((knS t).getD ([],0,0)).1) d.1 d.2 0 0 ((knS f).getD ([],0,0)).1 ((knS f).getD ([],0,0)).2.1 ((knS f).getD ([],0,0)).2.2 ((knS t).getD ([],0,0)).1 ((knS t).getD ([],0,0)).2.1 ((knS t).getD ([],0,0)).2.2):=rfl
 rw [e1] at h
 split at h
 ·exact key _ _ _ h
 ·split at h
  ·exact key _ _ _ h
  ·exact key _ _ _ h
theorem to_tot {d:Int×Int} (h0:0≤d.2) (f t:List UInt8):∃ r:(Int×Int)×Bool,q2a_ (d,f,t,())=some (r.1,r.2,())∧(r.2=true->rgt r.1=true∧0≤r.1.2):=by
 obtain ⟨r,h1,_⟩:=to_same h0 f t
 refine ⟨r,h1,fun e=>to_right h0 (f:=f) (t:=t) (r:=r.1) ?_⟩
 rw [h1,e]
theorem cmp_tot {a b:Int×Int} (ha:rgt a=true) (ha0:0≤a.2) (hb:rgt b=true) (hb0:0≤b.2):∃ c:Int,q2o_ (a,b,())=some (c,()):=by
 obtain ⟨s1,n1,D1,h1⟩:=rgt_rt ha ha0
 obtain ⟨s2,n2,D2,h2⟩:=rgt_rt hb hb0
 exact ⟨_,ucmp_eq h1 h2⟩
theorem worth_eq {w:Int} (h:0≤w∧w≤65535) {k:Nat} (hk:k≤6) {signed sg:Bool} {v:Nat} (hv:wval signed w=sgn sg v) (hvb:v≤65536) :
  q1w_ (w,(k:Int),signed,())=some ((tmS sg (okN (stN k v))).1,(tmS sg (okN (stN k v))).2,()):=by
 have e1:q1w_ (w,(k:Int),signed,())=q7u_ q5g_ w (k:Int) signed:=rfl
 rw [e1]
 unfold q7u_
 rw [if_neg (by rw [q0_]; omega)]
 have hf:gt (k:Int) 6=false:=by rw [gt_dec,decide_eq_false (by omega)]
 rw [hf]
 have hb:=wval_b (signed:=signed) h
 have hc:cvt .i64 w=w:=cvt64 (by omega) (by omega)
 have:q5g_ w (k:Int) signed false (0,0)=q3e_ (k:Int) (wval signed w) (0,0):=by
  unfold q5g_ qbo_ qc7_ qbj_ wval
  rw [if_neg (by decide)]
  cases signed with
  | true =>
   rw [if_pos rfl,if_pos rfl]
   show q3e_ (k:Int) (cvt .i64 (cvt .i16 w)) (0,0)=_
   have:cvt .i16 w=if 32768≤w then w - 65536 else w:=i16w w h
   rw [this,cvt64 (by split <;> omega) (by split <;> omega)]
  | false =>
   rw [if_neg (by decide),if_neg (by decide),hc]
 rw [this,hv]
 exact uworth_K3 sg hk (by omega) _
theorem sgn_inj_b {sg:Bool} {v:Nat} (h:-65536≤sgn sg v∧sgn sg v≤65535):v≤65536:=by
 unfold sgn at h
 cases sg <;> simp at h <;> omega
theorem word_back {d:Int×Int} (hr:rgt d=true) (h0:0≤d.2) {digits:Int} {signed:Bool} {w:Int} (h:q2k_ (d,digits,signed,())=some (w,true,())) :
  (0≤w∧w≤65535)∧q1w_ (w,digits,signed,())=some (d,true,()):=by
 have e1:q2k_ (d,digits,signed,())=q4h_ q1l_ d digits signed:=rfl
 have bad1:q1l_ digits signed true d=some (0,false,()):=rfl
 rw [e1] at h
 unfold q4h_ at h
 rw [right_eq,Option.bind_some] at h
 dsimp only at h
 rw [hr] at h
 obtain ⟨sg,n,D,hd⟩:=rgt_rt hr h0
 have hD:=hd.d6
 rw [if_neg (show ¬ ((!true)=true) by decide),hd.e2,cvt64 (by omega) (by omega)] at h
 by_cases h1:digits < (D:Int)
 ·rw [if_pos (q0_.2 h1),bad1] at h; cases h
 rw [if_neg (fun e=>h1 (q0_.1 e))] at h
 by_cases h2:6 < digits
 ·rw [qb_.2 h2,bad1] at h; cases h
 have hf:gt digits 6=false:=by rw [gt_dec,decide_eq_false h2]
 rw [hf] at h
 obtain ⟨g,rfl⟩:∃ g:Nat,digits=(g:Int):=⟨digits.toNat,by omega⟩
 have hX:n * 10 ^ (g - D)≤1000000000000000000:=by
  have hpow:10 ^ (g - D)≤10 ^ 6:=Nat.pow_le_pow_right (by omega) (by omega)
  have:=Nat.mul_le_mul hd.le hpow
  omega
 have hb:=sgn_b (sg:=sg) hX
 have hw:q1l_ (g:Int) signed false d=some ((wdSg signed (sgn sg (n * 10 ^ (g - D)))).1,(wdSg signed (sgn sg (n * 10 ^ (g - D)))).2,()):=by
  unfold q1l_ q8o_
  rw [if_neg (show ¬ (false=true) by decide),hd.e2,cvt64 (by omega) (by omega)]
  have e3:Sx.sub .i64 (g:Int) (D:Int)=((g - D:Nat):Int):=by
   rw [sub64 (by omega) (by omega)]
   omega
  have e4:d.1=sgn sg n:=hd.e1
  rw [e3,power_eq (by omega),Option.bind_some]
  dsimp only
  rw [e4,sgn_mul (by omega)]
  generalize sgn sg (n * 10 ^ (g - D))=X at hb ⊢
  by_cases h1:X < -32768
  ·rw [if_pos (q0_.2 h1)]
   exact uword_K2 signed X true (by simp [h1])
  ·rw [if_neg (fun e=>h1 (q0_.1 e))]
   refine uword_K2 signed X _ ?_
   rw [ge_iff]
   omega
 rw [hw] at h
 have hst:stN g (n * 10 ^ (g - D))=(D,n):=by
  have e:=stN_pow D (g - D) n
  rw [show D + (g - D)=g by omega] at e
  rw [e]
  cases D with
  | zero=>rfl
  | succ D=>rw [stN,if_neg (hd.tz (by omega))]
 have hfin:tmS sg (okN (stN g (n * 10 ^ (g - D))))=(d,true):=by
  rw [hst]
  unfold okN
  rw [if_pos hd.le]
  show ((sgn sg n,(D:Int)),true)=_
  have:d=(sgn sg n,(D:Int)):=Prod.ext hd.e1 hd.e2
  rw [this]
 have hval:∀ X:Int,(wdSg signed X).2=true->0≤(wdSg signed X).1∧(wdSg signed X).1≤65535∧wval signed (wdSg signed X).1=X:=fun X=>by
  unfold wdSg wval
  cases signed with
  | true =>
   rw [if_pos rfl]
   by_cases q:-32768≤X∧X≤32767
   ·rw [if_pos q]
    intro _
    dsimp only
    rw [if_pos rfl]
    refine ⟨by omega,by omega,?_⟩
    split <;> omega
   ·rw [if_neg q]; intro h; cases h
  | false =>
   rw [if_neg (by decide)]
   by_cases q:0≤X∧X≤65535
   ·rw [if_pos q]
    intro _
    dsimp only
    rw [if_neg (by decide)]
    exact ⟨q.1,q.2,rfl⟩
   ·rw [if_neg q]; intro h; cases h
 have h3:(wdSg signed (sgn sg (n * 10 ^ (g - D)))).1=w∧(wdSg signed (sgn sg (n * 10 ^ (g - D)))).2=true:=by
  have:=Option.some.inj h
  exact ⟨congrArg (·.1) this,congrArg (·.2.1) this⟩
 obtain ⟨q1,q2,q3⟩:=hval _ h3.2
 rw [h3.1] at q1 q2 q3
 refine ⟨⟨q1,q2⟩,?_⟩
 have hwb:=wval_b (signed:=signed) ⟨q1,q2⟩
 rw [worth_eq ⟨q1,q2⟩ (by omega) q3 (sgn_inj_b (by rw [<- q3]; exact hwb)),hfin]
end Go.Proofs.Lx
end
section
set_option maxRecDepth 100000
namespace Go.Proofs.Lx
open Go Ev Sx Pl
@[reducible] def zJ0:Type:=(List UInt8)×(List (List UInt8×List (List UInt8×Int×Int×Bool×(Int×Int)×(Int×Int)×List UInt8)))×(Int)×(Int)->Option (As [.int .i64,.bool])
def qea_ :=(fun (self:zJ0) (s:(List UInt8)×(List (List UInt8×List (List UInt8×Int×Int×Bool×(Int×Int)×(Int×Int)×List UInt8)))×(Int)×(Int))=>q4i_ (fun slave t8 t9 t10=>self (slave,t8,t9,t10)) s.1 s.2.1 s.2.2.1 s.2.2.2)
@[reducible] def zJ1:Type:=List (List UInt8×List (List UInt8×Int×Int×Bool×(Int×Int)×(Int×Int)×List UInt8))
theorem qdu_  (self:zJ0) (slave:List UInt8) (t8:zJ1) (t9:Int) (t10:Int):qea_ self (slave,t8,t9,t10)=q4i_ (fun slave t8 t9 t10=>self (slave,t8,t9,t10)) slave t8 t9 t10:=rfl
theorem qio_  (slave:List UInt8) (t8:zJ1) (t9:Int) (t10:Int):q9g_ slave t8 t9 t10=loopF (qea_) 18446744073709551616 (slave,t8,t9,t10):=rfl
@[reducible] def zJ2:Type:=(List UInt8)×(List (List UInt8×Int×Int×Bool×(Int×Int)×(Int×Int)×List UInt8))×(Int)×(Int)×(List UInt8×Int×Int×Bool×(Int×Int)×(Int×Int)×List UInt8)->Option (As [.pr .str (.pr (.int .i64) (.pr (.int .i64) (.pr .bool (.pr (.pr (.int .i64) (.int .u8)) (.pr (.pr (.int .i64) (.int .u8)) .str))))),.bool])
def qdg_ :=(fun (self:zJ2) (s:(List UInt8)×(List (List UInt8×Int×Int×Bool×(Int×Int)×(Int×Int)×List UInt8))×(Int)×(Int)×(List UInt8×Int×Int×Bool×(Int×Int)×(Int×Int)×List UInt8))=>q3i_ (q85_) (fun name t9 t10 t11 t4=>self (name,t9,t10,t11,t4)) s.1 s.2.1 s.2.2.1 s.2.2.2.1 s.2.2.2.2)
@[reducible] def zJ3:Type:=List (List UInt8×Int×Int×Bool×(Int×Int)×(Int×Int)×List UInt8)
@[reducible] def zJ4:Type:=List UInt8×Int×Int×Bool×(Int×Int)×(Int×Int)×List UInt8
theorem qd4_  (self:zJ2) (name:List UInt8) (t9:zJ3) (t10:Int) (t11:Int) (t4:zJ4):qdg_ self (name,t9,t10,t11,t4)=q3i_ (q85_) (fun name t9 t10 t11 t4=>self (name,t9,t10,t11,t4)) name t9 t10 t11 t4:=rfl
theorem qia_  (name:List UInt8) (t9:zJ3) (t10:Int) (t11:Int) (t4:zJ4):q7c_ name t9 t10 t11 t4=loopF (qdg_) 18446744073709551616 (name,t9,t10,t11,t4):=rfl
@[reducible] def zJ5:Type:=(List (List UInt8×Int×Int×Bool×(Int×Int)×(Int×Int)×List UInt8))×(Int)×(Int)×(List (List UInt8×Unit))×(List (Int×Unit))->Option (As [.bool])
def q8k_ :=(fun (self:zJ5) (s:(List (List UInt8×Int×Int×Bool×(Int×Int)×(Int×Int)×List UInt8))×(Int)×(Int)×(List (List UInt8×Unit))×(List (Int×Unit)))=>q1e_ (q23_ (fun t20 t21 t22 o o_2=>self (t20,t21,t22,o,o_2))) (fun t20 t21 t22 o o_2=>self (t20,t21,t22,o,o_2)) s.1 s.2.1 s.2.2.1 s.2.2.2.1 s.2.2.2.2)
@[reducible] def zJ6:Type:=List (List UInt8×Unit)
theorem q8f_  (self:zJ5) (t20:zJ3) (t21:Int) (t22:Int) (o:zJ6) (o_2:List (Int×Unit)):q8k_ self (t20,t21,t22,o,o_2)=q1e_ (q23_ (fun t20 t21 t22 o o_2=>self (t20,t21,t22,o,o_2))) (fun t20 t21 t22 o o_2=>self (t20,t21,t22,o,o_2)) t20 t21 t22 o o_2:=rfl
theorem qe3_  (t20:zJ3) (t21:Int) (t22:Int) (o:zJ6) (o_2:List (Int×Unit)):q33_ t20 t21 t22 o o_2=loopF (q8k_) 18446744073709551616 (t20,t21,t22,o,o_2):=rfl
@[reducible] def zJ7:Type:=(List (List UInt8×List (List UInt8×Int×Int×Bool×(Int×Int)×(Int×Int)×List UInt8)))×(Int)×(Int)×(List (List UInt8×Unit))->Option (As [.bool])
def qdy_ :=(fun (self:zJ7) (s:(List (List UInt8×List (List UInt8×Int×Int×Bool×(Int×Int)×(Int×Int)×List UInt8)))×(Int)×(Int)×(List (List UInt8×Unit)))=>q3s_ (q5k_ (fun t15 t16 t17 o=>self (t15,t16,t17,o))) (fun t15 t16 t17 o=>self (t15,t16,t17,o)) s.1 s.2.1 s.2.2.1 s.2.2.2)
theorem qd1_  (self:zJ7) (t15:zJ1) (t16:Int) (t17:Int) (o:zJ6):qdy_ self (t15,t16,t17,o)=q3s_ (q5k_ (fun t15 t16 t17 o=>self (t15,t16,t17,o))) (fun t15 t16 t17 o=>self (t15,t16,t17,o)) t15 t16 t17 o:=rfl
theorem qi9_  (t15:zJ1) (t16:Int) (t17:Int) (o:zJ6):q7i_ t15 t16 t17 o=loopF (qdy_) 18446744073709551616 (t15,t16,t17,o):=rfl
@[reducible] def zJ8:Type:=(List (List UInt8×List (List UInt8×Int×Int×Bool×(Int×Int)×(Int×Int)×List UInt8)))×(List (List UInt8×Int×List (List UInt8×(Int×Int)×List UInt8×Int)))×(Int)×(Int)×(Int×Int)×(List (List UInt8×Unit))->Option (As [.pr (.int .i64) (.int .i64)])
def qdi_ :=(fun (self:zJ8) (s:(List (List UInt8×List (List UInt8×Int×Int×Bool×(Int×Int)×(Int×Int)×List UInt8)))×(List (List UInt8×Int×List (List UInt8×(Int×Int)×List UInt8×Int)))×(Int)×(Int)×(Int×Int)×(List (List UInt8×Unit)))=>q3k_ (q88_ (fun t t28 t29 t30 t4 o=>self (t,t28,t29,t30,t4,o))) (fun t t28 t29 t30 t4 o=>self (t,t28,t29,t30,t4,o)) s.1 s.2.1 s.2.2.1 s.2.2.2.1 s.2.2.2.2.1 s.2.2.2.2.2)
@[reducible] def zJ9:Type:=List (List UInt8×Int×List (List UInt8×(Int×Int)×List UInt8×Int))
theorem qd9_  (self:zJ8) (t:zJ1) (t28:zJ9) (t29:Int) (t30:Int) (t4:Int×Int) (o:zJ6):qdi_ self (t,t28,t29,t30,t4,o)=q3k_ (q88_ (fun t t28 t29 t30 t4 o=>self (t,t28,t29,t30,t4,o))) (fun t t28 t29 t30 t4 o=>self (t,t28,t29,t30,t4,o)) t t28 t29 t30 t4 o:=rfl
theorem qi8_  (t:zJ1) (t28:zJ9) (t29:Int) (t30:Int) (t4:Int×Int) (o:zJ6):q8b_ t t28 t29 t30 t4 o=loopF (qdi_) 18446744073709551616 (t,t28,t29,t30,t4,o):=rfl
@[reducible] def zJ10:Type:=List (List UInt8×List (List UInt8×Int×Int×Bool×(Int×Int)×(Int×Int)×List UInt8))->List (List UInt8×Int×List (List UInt8×(Int×Int)×List UInt8×Int))->Int->Int->Int×Int->List (List UInt8×Unit)->Option (As [.pr (.int .i64) (.int .i64)])
@[reducible] def zJ11:Type:=(List (List UInt8×List (List UInt8×Int×Int×Bool×(Int×Int)×(Int×Int)×List UInt8)))×(Int)×(List (List UInt8×Int×List (List UInt8×(Int×Int)×List UInt8×Int)))×(Int)×(Int)×(List (List UInt8×(Int×Int)×List UInt8×Int))×(Int)×(Int)×(Int×Int)×(List (List UInt8×Unit))×(List (List UInt8×Unit))->Option (As [.pr (.int .i64) (.int .i64)])
def qe2_ (u2:zJ10):=(fun (self:zJ11) (s:(List (List UInt8×List (List UInt8×Int×Int×Bool×(Int×Int)×(Int×Int)×List UInt8)))×(Int)×(List (List UInt8×Int×List (List UInt8×(Int×Int)×List UInt8×Int)))×(Int)×(Int)×(List (List UInt8×(Int×Int)×List UInt8×Int))×(Int)×(Int)×(Int×Int)×(List (List UInt8×Unit))×(List (List UInt8×Unit)))=>q3a_ (q5c_ u2 (fun t i t28 t29 t30 t55 t56 t57 t4 o o_2=>self (t,i,t28,t29,t30,t55,t56,t57,t4,o,o_2))) u2 (fun t i t28 t29 t30 t55 t56 t57 t4 o o_2=>self (t,i,t28,t29,t30,t55,t56,t57,t4,o,o_2)) s.1 s.2.1 s.2.2.1 s.2.2.2.1 s.2.2.2.2.1 s.2.2.2.2.2.1 s.2.2.2.2.2.2.1 s.2.2.2.2.2.2.2.1 s.2.2.2.2.2.2.2.2.1 s.2.2.2.2.2.2.2.2.2.1 s.2.2.2.2.2.2.2.2.2.2)
theorem qcz_ (u2:zJ10) (self:zJ11) (t:zJ1) (i:Int) (t28:zJ9) (t29 t30:Int) (t55:List (List UInt8×(Int×Int)×List UInt8×Int)) (t56 t57:Int) (t4:Int×Int) (o o_2:zJ6):qe2_ u2 self (t,i,t28,t29,t30,t55,t56,t57,t4,o,o_2)=q3a_ (q5c_ u2 (fun t i t28 t29 t30 t55 t56 t57 t4 o o_2=>self (t,i,t28,t29,t30,t55,t56,t57,t4,o,o_2))) u2 (fun t i t28 t29 t30 t55 t56 t57 t4 o o_2=>self (t,i,t28,t29,t30,t55,t56,t57,t4,o,o_2)) t i t28 t29 t30 t55 t56 t57 t4 o o_2:=rfl
theorem qi2_ (u2:zJ10) (t:zJ1) (i:Int) (t28:zJ9) (t29 t30:Int) (t55:List (List UInt8×(Int×Int)×List UInt8×Int)) (t56 t57:Int) (t4:Int×Int) (o o_2:zJ6):q5f_ u2 t i t28 t29 t30 t55 t56 t57 t4 o o_2=loopF (qe2_ u2) 18446744073709551616 (t,i,t28,t29,t30,t55,t56,t57,t4,o,o_2):=rfl
end Go.Proofs.Lx
end
section
set_option maxRecDepth 100000
namespace Go.Proofs.Lx
open Go Ev Sx Pl
abbrev DecI:=Int×Int
abbrev TPt:=List UInt8×Int×Int×Bool×DecI×DecI×List UInt8
abbrev TDev:=List UInt8×List TPt
abbrev TTab:=List TDev
def srch {α:Type} (p:α->Bool):List α->Nat->Option (Nat×α)
 | [],_=>none
 | x::q,k=>if p x=true then some (k,x) else srch p q (k + 1)
theorem srch_none {α:Type} {p:α->Bool}:∀ {xs:List α} {k:Nat},srch p xs k=none->∀ x ∈ xs,p x=false
 | [],_,_,_,hx=>by cases hx
 | y::q,k,h,x,hx=>by
  unfold srch at h
  split at h
  ·cases h
  ·rename_i hy
   rcases List.mem_cons.1 hx with rfl | hx
   ·simpa using hy
   ·exact srch_none h x hx
theorem srch_some {α:Type} {p:α->Bool}:∀ {xs:List α} {k i:Nat} {x:α},srch p xs k=some (i,x)->k≤i∧xs[i - k]? = some x∧p x=true∧∀ (j:Nat) (y:α),j < i - k->xs[j]? = some y->p y=false
 | [],_,_,_,h=>by cases h
 | y::q,k,i,x,h=>by
  unfold srch at h
  split at h
  ·rename_i hy
   cases h
   exact ⟨Nat.le_refl _,by rw [Nat.sub_self]; rfl,hy,fun j y hj _=>by omega⟩
  ·rename_i hy
   obtain ⟨h1,h2,h3,h4⟩:=srch_some h
   refine ⟨by omega,?_,h3,fun j z hj hz=>?_⟩
   ·rw [show i - k=(i - (k + 1)) + 1 by omega,List.getElem?_cons_succ]
    exact h2
   ·cases j with
    | zero =>
     rw [List.getElem?_cons_zero] at hz
     cases hz
     simpa using hy
    | succ j=>exact h4 j z (by omega) (by rw [List.getElem?_cons_succ] at hz; exact hz)
theorem find_eq {t:TTab} {s:List UInt8} (ht:t.length≤1000000):q1k_ (t,s,())=some (match srch (fun d=>eqs d.1 s) t 0 with
  | some z=>((z.1:Int),true,())
  | none=>(0,false,())):=by
 show q9g_ s t (Int.ofNat t.length) 0=_
 rw [qio_]
 refine (loop_goi (xs:=t) (mk:=fun i (_:Unit)=>(s,t,Int.ofNat t.length,(i:Int))) (body:=fun i _ d k=>if eqs d.1 s=true then some ((i:Int),true,()) else k ()) (fin:=fun _=>some (0,false,())) ?_ ?_ t.length 0 () _ (by omega) (by omega)).trans ?_
 ·intro self i acc d hd
  have hi:=(List.getElem?_eq_some_iff.1 hd).1
  rw [qdu_]
  unfold q4i_
  rw [if_pos (by rw [q0_,q1_]; omega),qg_ hd,Option.bind_some,ql_ (by omega)]
 ·intro self acc
  rw [qdu_]
  unfold q4i_
  rw [if_neg (by rw [q0_,q1_]; omega)]
 ·rw [List.drop_zero]
  have key:∀ (q:TTab) (k:Nat),goI (fun (i:Nat) (_:Unit) (d:TDev) (k:Unit->Option (As [.int .i64,.bool]))=>if eqs d.1 s=true then some ((i:Int),true,()) else k ()) (fun _=>some (0,false,())) k q ()=some (match srch (fun d=>eqs d.1 s) q k with
    | some z=>((z.1:Int),true,())
    | none=>(0,false,())):=by
   intro q
   induction q with
   | nil=>intro k; rfl
   | cons d q ih =>
    intro k
    show (if eqs d.1 s=true then some ((k:Int),true,()) else goI _ _ (k + 1) q ())=_
    unfold srch
    by_cases h:eqs d.1 s=true
    ·rw [if_pos h,if_pos h]
    ·rw [if_neg h,if_neg h,ih]
  exact key t 0
def zPt:TPt:=([],0,0,false,(0,0),(0,0),[])
theorem point_eq {d:TDev} {s:List UInt8} (ht:d.2.length≤1000000):q2h_ (d,s,())=some (match srch (fun p=>eqs p.1 s) d.2 0 with
  | some z=>(z.2,true,())
  | none=>(zPt,false,())):=by
 show q7c_ s d.2 (Int.ofNat d.2.length) 0 zPt=_
 rw [qia_]
 refine (loop_goi (xs:=d.2) (mk:=fun i (_:Unit)=>(s,d.2,Int.ofNat d.2.length,(i:Int),zPt)) (body:=fun _ _ p k=>if eqs p.1 s=true then some (p,true,()) else k ()) (fin:=fun _=>some (zPt,false,())) ?_ ?_ d.2.length 0 () _ (by omega) (by omega)).trans ?_
 ·intro self i acc p hp
  have hi:=(List.getElem?_eq_some_iff.1 hp).1
  rw [qd4_]
  unfold q3i_
  rw [if_pos (by rw [q0_,q1_]; omega),qg_ hp,Option.bind_some,ql_ (by omega)]
 ·intro self acc
  rw [qd4_]
  unfold q3i_
  rw [if_neg (by rw [q0_,q1_]; omega)]
  rfl
 ·rw [List.drop_zero]
  have key:∀ (q:List TPt) (k:Nat),goI (fun (_:Nat) (_:Unit) (p:TPt) (k:Unit->Option (As q2y_.rs))=>if eqs p.1 s=true then some (p,true,()) else k ()) (fun _=>some (zPt,false,())) k q ()=some (match srch (fun p=>eqs p.1 s) q k with
    | some z=>(z.2,true,())
    | none=>(zPt,false,())):=by
   intro q
   induction q with
   | nil=>intro k; rfl
   | cons p q ih =>
    intro k
    show (if eqs p.1 s=true then some (p,true,()) else goI _ _ (k + 1) q ())=_
    unfold srch
    by_cases h:eqs p.1 s=true
    ·rw [if_pos h,if_pos h]
    ·rw [if_neg h,if_neg h,ih]
  exact key d.2 0
def Met {kt:Ty} (o:List (Vl kt×Unit)) (N:Vl kt->Prop):Prop:=∀ k,(dget kt o k).isSome=true ↔ N k
theorem dget_dput {kt:Ty} (hk:∀ a b:Vl kt,keq kt a b=true ↔ a=b) {V:Type} (k:Vl kt) (v:V) (j:Vl kt):∀ o:List (Vl kt×V),dget kt (dput kt o k v) j=if keq kt k j=true then some v else dget kt o j
 | []=>by
  show (if keq kt k j=true then some v else none)=_
  rfl
 | (a,b)::r=>by
  unfold dput
  by_cases h:keq kt a k=true
  ·rw [if_pos h]
   have e:=(hk _ _).1 h
   subst e
   unfold dget
   by_cases h2:keq kt a j=true
   ·rw [if_pos h2,if_pos h2]
   ·rw [if_neg h2,if_neg h2,if_neg h2]
  ·rw [if_neg h]
   unfold dget
   by_cases h2:keq kt a j=true
   ·rw [if_pos h2,if_pos h2]
    have:¬ keq kt k j=true:=fun e=>h (by rw [hk] at h2 e ⊢; rw [h2,e])
    rw [if_neg this]
   ·rw [if_neg h2,if_neg h2,dget_dput hk k v j r]
theorem keqS (a b:List UInt8):keq .str a b=true ↔ a=b:=by simp [keq,eqs]
theorem keqI (a b:Int):keq (.int .i64) a b=true ↔ a=b:=by simp [keq,eqi]
theorem Met.nil {kt:Ty}:Met (kt:=kt) [] (fun _=>False):=fun k=>by simp [dget]
theorem Met.put {kt:Ty} (hk:∀ a b:Vl kt,keq kt a b=true ↔ a=b) {o:List (Vl kt×Unit)} {N:Vl kt->Prop} (h:Met o N) (k:Vl kt):Met (dput kt o k ()) (fun j=>N j∨j=k):=fun j=>by
 rw [dget_dput hk]
 by_cases e:keq kt k j=true
 ·rw [if_pos e]
  have:=(hk _ _).1 e
  simp [this]
 ·rw [if_neg e,h j]
  exact ⟨.inl,fun x=>x.elim id fun q=>absurd ((hk _ _).2 q.symm) e⟩
end Go.Proofs.Lx
end
section
set_option maxRecDepth 100000
namespace Go.Proofs.Lx
open Go Ev Sx Pl
theorem vname_eq {s:List UInt8}:q8a_ (s,())=some (nameB s,()):=by
 show Option.bind (q3w_ ((s,[]),())) (fun y=>some (y.1,()))=_
 rw [right_eq' (r:=(s,[])) (by simp) (by simp),Option.bind_some]
 show some (nameB s && (decide (0≤8) && true),())=_
 simp
def cmpV (a b:DecI):Int:=((q2o_ (a,b,())).map (·.1)).getD 0
theorem cmp_eq {a b:DecI} (ha:rgt a=true) (ha0:0≤a.2) (hb:rgt b=true) (hb0:0≤b.2):q2o_ (a,b,())=some (cmpV a b,()):=by
 obtain ⟨c,h⟩:=cmp_tot ha ha0 hb hb0
 unfold cmpV
 rw [h]
 rfl
def knB (u:List UInt8):Bool:=(knS u).isSome
def ptB (p:TPt):Bool:=nameB p.1 && (decide (0≤p.2.1∧p.2.1 < 64) && (decide (0≤p.2.2.1∧p.2.2.1≤6) && (rgt p.2.2.2.2.1 && (rgt p.2.2.2.2.2.1 && (!decide (0 < cmpV p.2.2.2.2.1 p.2.2.2.2.2.1) && knB p.2.2.2.2.2.2)))))
def PtR (p:TPt):Prop:=0≤p.2.2.2.2.1.2∧0≤p.2.2.2.2.2.1.2
theorem rpoint_eq {p:TPt} (h:PtR p):q1a_ (p,())=some (ptB p,()):=by
 show q44_ q25_ p=_
 unfold q44_
 have K2:∀ b,q47_ b p=if b=true then some (false,()) else some (knB p.2.2.2.2.2.2,()):=fun b=>by
  show q42_ b p=_
  unfold q42_
  rw [uknown_eq,Option.bind_some]
  rfl
 have K1f:q25_ false p=some (rgt p.2.2.2.2.1 && (rgt p.2.2.2.2.2.1 && (!decide (0 < cmpV p.2.2.2.2.1 p.2.2.2.2.2.1) && knB p.2.2.2.2.2.2)),()):=by
  show q45_ q47_ false p=_
  unfold q45_
  rw [if_neg (by decide),right_eq,Option.bind_some]
  dsimp only
  cases h1:rgt p.2.2.2.2.1 with
  | false=>rw [if_pos (by rfl),K2,if_pos (by rfl)]; rfl
  | true =>
   rw [if_neg (by decide),right_eq,Option.bind_some]
   dsimp only
   cases h2:rgt p.2.2.2.2.2.1 with
   | false=>rw [if_pos (by rfl),K2,if_pos (by rfl)]; rfl
   | true =>
    rw [if_neg (by decide),cmp_eq h1 h.1 h2 h.2,Option.bind_some,K2]
    dsimp only
    by_cases hc:0 < cmpV p.2.2.2.2.1 p.2.2.2.2.2.1
    ·rw [if_pos (qb_.2 hc),decide_eq_true hc]; rfl
    ·rw [if_neg (fun e=>hc (qb_.1 e)),decide_eq_false hc]; simp
 have K1t:q25_ true p=some (false,()):=rfl
 rw [vname_eq,Option.bind_some]
 dsimp only
 unfold ptB
 cases hn:nameB p.1 with
 | false=>rw [if_pos (by rfl),K1t]; rfl
 | true =>
  rw [if_neg (by decide)]
  by_cases h1:p.2.1 < 0
  ·rw [if_pos (q0_.2 h1),K1t,decide_eq_false (by omega)]; rfl
  ·rw [if_neg (fun e=>h1 (q0_.1 e))]
   by_cases h2:64≤p.2.1
   ·rw [if_pos (ge_iff.2 h2),K1t,decide_eq_false (by omega)]; rfl
   ·rw [if_neg (fun e=>h2 (ge_iff.1 e)),decide_eq_true (show 0≤p.2.1∧p.2.1 < 64 by omega)]
    by_cases h3:p.2.2.1 < 0
    ·rw [if_pos (q0_.2 h3),K1t,decide_eq_false (by omega)]; rfl
    ·rw [if_neg (fun e=>h3 (q0_.1 e))]
     by_cases h4:6 < p.2.2.1
     ·rw [qb_.2 h4,K1t,decide_eq_false (by omega)]; rfl
     ·have:gt p.2.2.1 6=false:=by rw [gt_dec,decide_eq_false h4]
      rw [this,K1f,decide_eq_true (show 0≤p.2.2.1∧p.2.2.1≤6 by omega)]
      rfl
def devL:List TPt->List (List UInt8)->List Int->Bool
 | [],_,_=>true
 | p::q,N,A=>ptB p && (!decide (p.1 ∈ N) && (!decide (p.2.1 ∈ A) && devL q (p.1::N) (p.2.1::A)))
def devB (d:TDev):Bool:=nameB d.1 && (decide (d.2.length≤64) && devL d.2 [] [])
theorem Met.mem {kt:Ty} {o:List (Vl kt×Unit)} {N:Vl kt->Prop} (h:Met o N) {k:Vl kt} [Decidable (N k)]:isV .un (dget kt o k)=decide (N k):=by
 show (dget kt o k).isSome=_
 by_cases hn:N k
 ·rw [decide_eq_true hn,(h k).2 hn]
 ·rw [decide_eq_false hn]
  cases e:(dget kt o k).isSome with
  | false=>rfl
  | true=>exact absurd ((h k).1 e) hn
theorem Met.push {kt:Ty} (hk:∀ a b:Vl kt,keq kt a b=true ↔ a=b) {o:List (Vl kt×Unit)} {N:List (Vl kt)} (h:Met o (·∈ N)) (k:Vl kt):Met (dput kt o k ()) (·∈ k::N):=fun j=>by
 rw [(h.put hk k) j]
 simp only [List.mem_cons]
 constructor
 ·rintro (h | h)
  ·exact .inr h
  ·exact .inl h
 ·rintro (h | h)
  ·exact .inr h
  ·exact .inl h
theorem rdev_eq {d:TDev} (hr:∀ p ∈ d.2,PtR p) (hl:d.2.length≤1000000):q18_ (d,())=some (devB d,()):=by
 have K1t:q14_ true d=some (false,()):=rfl
 have K1f:q14_ false d=some (devL d.2 [] [],()):=by
  show q33_ d.2 (Int.ofNat d.2.length) 0 [] []=_
  rw [qe3_]
  refine (loop_go (xs:=d.2) (mk:=fun i (a:List (List UInt8×Unit)×List (Int×Unit))=>(d.2,Int.ofNat d.2.length,(i:Int),a.1,a.2))
   (body:=fun a p k=>(q1a_ (p,())).bind fun y=>if (!y.1)=true then some (false,()) else if isV .un (dget .str a.1 p.1)=true then some (false,()) else if isV .un (dget (.int .i64) a.2 p.2.1)=true then some (false,()) else k (dput .str a.1 p.1 (),dput (.int .i64) a.2 p.2.1 ()))
   (fin:=fun _=>some (true,())) ?_ ?_ d.2.length 0 ([],[]) _ (by omega) (by omega)).trans ?_
  ·intro self i a p hp
   have hi:=(List.getElem?_eq_some_iff.1 hp).1
   have K3:∀ (b:Bool) (o:zJ6) (o2:List (Int×Unit)),q23_ (fun t20 t21 t22 o o_2=>self (t20,t21,t22,o,o_2)) d.2 (Int.ofNat d.2.length) (i:Int) b o o2=if b=true then some (false,()) else self (d.2,Int.ofNat d.2.length,((i + 1:Nat):Int),o,o2):=fun b o o2=>by
    show q37_ _ d.2 (Int.ofNat d.2.length) (i:Int) b o o2=_
    unfold q37_
    rw [ql_ (by omega)]
   rw [q8f_]
   unfold q1e_
   rw [if_pos (by rw [q0_,q1_]; omega),qg_ hp,Option.bind_some]
   simp only [K3]
   congr 1
   funext y
   cases y.1 with
   | false=>rfl
   | true =>
    simp only [Bool.not_true,Bool.not_not]
    cases isV .un (dget .str a.1 p.1) <;> cases isV .un (dget (.int .i64) a.2 p.2.1) <;> rfl
  ·intro self a
   rw [q8f_]
   unfold q1e_
   rw [if_neg (by rw [q0_,q1_]; omega)]
  ·rw [List.drop_zero]
   have key:∀ (q:List TPt) (o:zJ6) (o2:List (Int×Unit)) (N:List (List UInt8)) (A:List Int),(∀ p ∈ q,PtR p)->Met (kt:=.str) o (·∈ N)->Met (kt:=.int .i64) o2 (·∈ A) ->
     goL (fun (a:List (List UInt8×Unit)×List (Int×Unit)) (p:TPt) (k:List (List UInt8×Unit)×List (Int×Unit)->Option (As [.bool]))=>(q1a_ (p,())).bind fun y=>if (!y.1)=true then some (false,()) else if isV .un (dget .str a.1 p.1)=true then some (false,()) else if isV .un (dget (.int .i64) a.2 p.2.1)=true then some (false,()) else k (dput .str a.1 p.1 (),dput (.int .i64) a.2 p.2.1 ())) (fun _=>some (true,())) q (o,o2)=some (devL q N A,()):=by
    intro q
    induction q with
    | nil=>intro o o2 N A _ _ _; rfl
    | cons p q ih =>
     intro o o2 N A hq hN hA
     show ((q1a_ (p,())).bind fun y=>if (!y.1)=true then some (false,()) else if isV .un (dget .str o p.1)=true then some (false,()) else if isV .un (dget (.int .i64) o2 p.2.1)=true then some (false,()) else goL _ _ q (dput .str o p.1 (),dput (.int .i64) o2 p.2.1 ()))=_
     rw [rpoint_eq (hq p (by simp)),Option.bind_some,hN.mem,hA.mem,ih _ _ _ _ (fun x hx=>hq x (List.mem_cons_of_mem _ hx)) (hN.push keqS p.1) (hA.push keqI p.2.1)]
     rw [devL]
     dsimp only
     cases ptB p with
     | false=>rfl
     | true =>
      by_cases h1:p.1 ∈ N
      ·rw [if_neg (by decide),if_pos (decide_eq_true h1),decide_eq_true h1]; rfl
      ·rw [if_neg (by decide),if_neg (by simp [h1]),decide_eq_false h1]
       by_cases h2:p.2.1 ∈ A
       ·rw [if_pos (decide_eq_true h2),decide_eq_true h2]; rfl
       ·rw [if_neg (by simp [h2]),decide_eq_false h2]; simp
   exact key d.2 [] [] [] [] hr (fun k=>by simp [dget]) (fun k=>by simp [dget])
 show q34_ q14_ d=_
 unfold q34_
 rw [vname_eq,Option.bind_some]
 dsimp only
 unfold devB
 cases nameB d.1 with
 | false=>rw [if_pos (by rfl),K1t]; rfl
 | true =>
  rw [if_neg (by decide)]
  have e:gt (Int.ofNat d.2.length) 64=!decide (d.2.length≤64):=gtn (k:=64)
  rw [e]
  by_cases h:d.2.length≤64
  ·rw [decide_eq_true h]
   show q14_ false d=_
   rw [K1f]
   simp
  ·rw [decide_eq_false h]
   show q14_ true d=_
   rw [K1t]
   rfl
def tabL:TTab->List (List UInt8)->Bool
 | [],_=>true
 | d::q,N=>devB d && (!decide (d.1 ∈ N) && tabL q (d.1::N))
def tabB (t:TTab):Bool:=decide (1≤t.length) && (decide (t.length≤8) && tabL t [])
def TabR (t:TTab):Prop:=t.length≤1000∧∀ d ∈ t,d.2.length≤1000∧∀ p ∈ d.2,PtR p
theorem right15_eq {t:TTab} (h:TabR t):q8h_ (t,())=some (tabB t,()):=by
 have hl:=h.1
 have K1t:q28_ t true=some (false,()):=rfl
 have K1f:q28_ t false=some (tabL t [],()):=by
  show q7i_ t (Int.ofNat t.length) 0 []=_
  rw [qi9_]
  refine (loop_go (xs:=t) (mk:=fun i (a:zJ6)=>(t,Int.ofNat t.length,(i:Int),a))
   (body:=fun a d k=>(q18_ (d,())).bind fun y=>if (!y.1)=true then some (false,()) else if isV .un (dget .str a d.1)=true then some (false,()) else k (dput .str a d.1 ()))
   (fin:=fun _=>some (true,())) ?_ ?_ t.length 0 [] _ (by omega) (by omega)).trans ?_
  ·intro self i a d hd
   have hi:=(List.getElem?_eq_some_iff.1 hd).1
   have K3:∀ (b:Bool) (o:zJ6),q5k_ (fun t15 t16 t17 o=>self (t15,t16,t17,o)) t (Int.ofNat t.length) (i:Int) b o=if b=true then some (false,()) else self (t,Int.ofNat t.length,((i + 1:Nat):Int),o):=fun b o=>by
    show q7l_ _ t (Int.ofNat t.length) (i:Int) b o=_
    unfold q7l_
    rw [ql_ (by omega)]
   rw [qd1_]
   unfold q3s_
   rw [if_pos (by rw [q0_,q1_]; omega),qg_ hd,Option.bind_some]
   simp only [K3]
   congr 1
   funext y
   cases y.1 with
   | false=>rfl
   | true =>
    simp only [Bool.not_true,Bool.not_not]
    cases isV .un (dget .str a d.1) <;> rfl
  ·intro self a
   rw [qd1_]
   unfold q3s_
   rw [if_neg (by rw [q0_,q1_]; omega)]
  ·rw [List.drop_zero]
   have key:∀ (q:TTab) (o:zJ6) (N:List (List UInt8)),(∀ d ∈ q,d.2.length≤1000∧∀ p ∈ d.2,PtR p)->Met (kt:=.str) o (·∈ N) ->
     goL (fun (a:zJ6) (d:TDev) (k:List (List UInt8×Unit)->Option (As [.bool]))=>(q18_ (d,())).bind fun y=>if (!y.1)=true then some (false,()) else if isV .un (dget .str a d.1)=true then some (false,()) else k (dput .str a d.1 ())) (fun _=>some (true,())) q o=some (tabL q N,()):=by
    intro q
    induction q with
    | nil=>intro o N _ _; rfl
    | cons d q ih =>
     intro o N hq hN
     show ((q18_ (d,())).bind fun y=>if (!y.1)=true then some (false,()) else if isV .un (dget .str o d.1)=true then some (false,()) else goL _ _ q (dput .str o d.1 ()))=_
     have hd:=hq d (by simp)
     rw [rdev_eq hd.2 (by omega),Option.bind_some,hN.mem,ih _ _ (fun x hx=>hq x (List.mem_cons_of_mem _ hx)) (hN.push keqS d.1)]
     rw [tabL]
     dsimp only
     cases devB d with
     | false=>rfl
     | true =>
      by_cases h1:d.1 ∈ N
      ·rw [if_neg (by decide),if_pos (decide_eq_true h1),decide_eq_true h1]; rfl
      ·rw [if_neg (by decide),if_neg (by simp [h1]),decide_eq_false h1]; simp
   exact key t [] [] h.2 (fun k=>by simp [dget])
 show q8d_ q28_ t=_
 unfold q8d_ tabB
 by_cases h1:1≤t.length
 ·rw [if_neg (by rw [q0_,q1_]; omega),decide_eq_true h1]
  have e:gt (Int.ofNat t.length) 8=!decide (t.length≤8):=gtn (k:=8)
  rw [e]
  by_cases h8:t.length≤8
  ·rw [decide_eq_true h8]
   show q28_ t false=_
   rw [K1f]
   simp
  ·rw [decide_eq_false h8]
   show q28_ t true=_
   rw [K1t]
   rfl
 ·rw [if_pos (by rw [q0_,q1_]; omega),K1t,decide_eq_false h1]; rfl
end Go.Proofs.Lx
end
section
set_option maxRecDepth 100000
namespace Go.Proofs.Lx
open Go Ev Sx Pl
def toS (d:DecI) (f t:List UInt8):DecI×Bool:=((q2a_ (d,f,t,())).map fun y=>(y.1,y.2.1)).getD ((0,0),false)
theorem to_eq {d:DecI} (h0:0≤d.2) (f t:List UInt8):q2a_ (d,f,t,())=some ((toS d f t).1,(toS d f t).2,())∧((toS d f t).2=true->rgt (toS d f t).1=true∧0≤(toS d f t).1.2):=by
 obtain ⟨r,h1,h2⟩:=to_tot h0 f t
 unfold toS
 rw [h1]
 exact ⟨rfl,h2⟩
def wdT (d:DecI) (digits:Int) (signed:Bool):Int×Bool:=((q2k_ (d,digits,signed,())).map fun y=>(y.1,y.2.1)).getD (0,false)
theorem wd_total {d:DecI} (h0:0≤d.2) (digits:Int) (signed:Bool):q2k_ (d,digits,signed,())=some ((wdT d digits signed).1,(wdT d digits signed).2,()):=by
 obtain ⟨r,h1,_⟩:=word_same h0 digits signed
 unfold wdT
 rw [h1]
 rfl
def wrdS (p:TPt) (s:TSet):Int×Int :=
 if (toS s.2.1 s.2.2.1 p.2.2.2.2.2.2).2=true then
  if cmpV (toS s.2.1 s.2.2.1 p.2.2.2.2.2.2).1 p.2.2.2.2.1 < 0∨0 < cmpV (toS s.2.1 s.2.2.1 p.2.2.2.2.2.2).1 p.2.2.2.2.2.1 then (0,153)
  else if (wdT (toS s.2.1 s.2.2.1 p.2.2.2.2.2.2).1 p.2.2.1 p.2.2.2.1).2=true then ((wdT (toS s.2.1 s.2.2.1 p.2.2.2.2.2.2).1 p.2.2.1 p.2.2.2.1).1,0) else (0,153)
 else (0,152)
theorem vword_eq {p:TPt} {s:TSet} (hp:PtR p) (hl:rgt p.2.2.2.2.1=true) (hh:rgt p.2.2.2.2.2.1=true) (hs:0≤s.2.1.2):qv_ (p,s,())=some ((wrdS p s).1,(wrdS p s).2,()):=by
 show q8w_ q8s_ p s=_
 unfold q8w_ wrdS
 obtain ⟨h1,h2⟩:=to_eq hs s.2.2.1 p.2.2.2.2.2.2
 rw [h1,Option.bind_some]
 dsimp only
 cases hb:(toS s.2.1 s.2.2.1 p.2.2.2.2.2.2).2 with
 | false=>rfl
 | true =>
  obtain ⟨h3,h4⟩:=h2 hb
  rw [if_neg (by decide),if_pos rfl,cmp_eq h3 h4 hl hp.1,Option.bind_some]
  have K1:∀ b,q8s_ b p (toS s.2.1 s.2.2.1 p.2.2.2.2.2.2).1=if b=true then some (0,153,()) else if (!(wdT (toS s.2.1 s.2.2.1 p.2.2.2.2.2.2).1 p.2.2.1 p.2.2.2.1).2)=true then some (0,153,()) else some ((wdT (toS s.2.1 s.2.2.1 p.2.2.2.2.2.2).1 p.2.2.1 p.2.2.2.1).1,0,()):=fun b=>by
   show q9i_ b p _=_
   unfold q9i_
   rw [wd_total h4,Option.bind_some]
  simp only [K1]
  by_cases c1:cmpV (toS s.2.1 s.2.2.1 p.2.2.2.2.2.2).1 p.2.2.2.2.1 < 0
  ·rw [if_pos (q0_.2 c1),if_pos trivial,if_pos (.inl c1)]
  ·rw [if_neg (fun e=>c1 (q0_.1 e)),cmp_eq h3 h4 hh hp.2,Option.bind_some]
   dsimp only
   by_cases c2:0 < cmpV (toS s.2.1 s.2.2.1 p.2.2.2.2.2.2).1 p.2.2.2.2.2.1
   ·rw [if_pos (qb_.2 c2),if_pos (.inr c2)]
   ·rw [if_neg (fun e=>c2 (qb_.1 e)),if_neg (show ¬ (_∨_) from fun e=>e.elim c1 c2)]
    cases (wdT (toS s.2.1 s.2.2.1 p.2.2.2.2.2.2).1 p.2.2.1 p.2.2.2.1).2 <;> rfl
theorem wrd_err (p:TPt) (s:TSet):(wrdS p s).2=0∨(wrdS p s).2=152∨(wrdS p s).2=153:=by
 unfold wrdS
 split
 ·split
  ·simp
  ·split <;> simp
 ·simp
theorem wrd_back {p:TPt} {s:TSet} (hs:0≤s.2.1.2) (h:(wrdS p s).2=0):(toS s.2.1 s.2.2.1 p.2.2.2.2.2.2).2=true∧(0≤(wrdS p s).1∧(wrdS p s).1≤65535)∧q1w_ ((wrdS p s).1,p.2.2.1,p.2.2.2.1,())=some ((toS s.2.1 s.2.2.1 p.2.2.2.2.2.2).1,true,()):=by
 unfold wrdS at h ⊢
 obtain ⟨_,h2⟩:=to_eq hs s.2.2.1 p.2.2.2.2.2.2
 split at h
 ·rename_i hb
  obtain ⟨h3,h4⟩:=h2 hb
  split at h
  ·cases h
  ·rename_i hc
   split at h
   ·rename_i hw
    rw [if_pos hb,if_neg hc,if_pos hw]
    have:=wd_total h4 p.2.2.1 p.2.2.2.1
    rw [hw] at this
    exact ⟨hb,word_back h3 h4 this⟩
   ·cases h
 ·cases h
def setsS (d:TDev):List TSet->List (List UInt8)->Option (Int×Int)
 | [],_=>none
 | s::q,N=>match srch (fun p=>eqs p.1 s.1) d.2 0 with
  | none=>some (151,s.2.2.2)
  | some z=>if s.1 ∈ N then some (151,s.2.2.2) else if (wrdS z.2 s).2=0 then setsS d q (s.1::N) else some ((wrdS z.2 s).2,s.2.2.2)
def partsS (t:TTab):List TPart->List (List UInt8)->Option (Int×Int)
 | [],_=>none
 | p::q,N=>match srch (fun d=>eqs d.1 p.1) t 0 with
  | none=>some (150,p.2.1)
  | some z=>if p.1 ∈ N then some (150,p.2.1) else match setsS z.2 p.2.2 [] with
   | some f=>some f
   | none=>partsS t q (p.1::N)
def checkS (t:TTab) (r:TRec):Int×Int:=if (tabB t && rightB r)=true then (partsS t r.2 []).getD (0,0) else (2,0)
def RecR (r:TRec):Prop:=r.2.length≤1000∧∀ p ∈ r.2,p.2.2.length≤1000∧∀ s ∈ p.2.2,0≤s.2.1.2
theorem devL_pt:∀ {q:List TPt} {N:List (List UInt8)} {A:List Int},devL q N A=true->∀ p ∈ q,ptB p=true
 | [],_,_,_,_,hp=>by cases hp
 | x::q,N,A,h,p,hp=>by
  rw [devL] at h
  simp only [Bool.and_eq_true] at h
  rcases List.mem_cons.1 hp with rfl | hp
  ·exact h.1
  ·exact devL_pt h.2.2.2 p hp
theorem tabL_dev:∀ {q:TTab} {N:List (List UInt8)},tabL q N=true->∀ d ∈ q,devB d=true
 | [],_,_,_,hp=>by cases hp
 | x::q,N,h,p,hp=>by
  rw [tabL] at h
  simp only [Bool.and_eq_true] at h
  rcases List.mem_cons.1 hp with rfl | hp
  ·exact h.1
  ·exact tabL_dev h.2.2 p hp
theorem dev_pt {d:TDev} (h:devB d=true):∀ p ∈ d.2,ptB p=true:=by
 unfold devB at h
 simp only [Bool.and_eq_true] at h
 exact devL_pt h.2.2
theorem ptB_rgt {p:TPt} (h:ptB p=true):rgt p.2.2.2.2.1=true∧rgt p.2.2.2.2.2.1=true:=by
 unfold ptB at h
 simp only [Bool.and_eq_true] at h
 exact ⟨h.2.2.2.1,h.2.2.2.2.1⟩
theorem srch_mem {α:Type} {p:α->Bool} {xs:List α} {i:Nat} {x:α} (h:srch p xs 0=some (i,x)):x ∈ xs∧xs[i]? = some x∧p x=true:=by
 obtain ⟨_,h2,h3,_⟩:=srch_some h
 rw [Nat.sub_zero] at h2
 exact ⟨List.mem_of_getElem? h2,h2,h3⟩
@[reducible] def zJ12:Type:=List (List UInt8×Unit)->Option (As [.pr (.int .i64) (.int .i64)])
theorem check_K4 {t:TTab} {d:TDev} {i:Nat} (hd:t[i]? = some d) (hdB:devB d=true) (hdl:d.2.length≤1000) (hdR:∀ p ∈ d.2,PtR p)
  (u2:TTab->List TPart->Int->Int->Int×Int->List (List UInt8×Unit)->Option (As [.pr (.int .i64) (.int .i64)])) (ps:List TPart) (n:Int) (k:Nat) (hk:k < 1000000) (ss:List TSet) (hss:ss.length≤1000) (hsR:∀ s ∈ ss,0≤s.2.1.2) (t4:Int×Int) (o:zJ6) :
  q5f_ u2 t (i:Int) ps n (k:Int) ss (Int.ofNat ss.length) 0 t4 o []=match setsS d ss [] with
   | some f=>some (f,())
   | none=>u2 t ps n ((k + 1:Nat):Int) t4 o:=by
 rw [qi2_]
 refine (loop_go (xs:=ss) (mk:=fun j (a:zJ6)=>(t,(i:Int),ps,n,(k:Int),ss,Int.ofNat ss.length,(j:Int),t4,o,a))
  (body:=fun a s kk=>(q2h_ (d,s.1,())).bind fun y=>if (!y.2.1)=true then some ((151,s.2.2.2),()) else if isV .un (dget .str a s.1)=true then some ((151,s.2.2.2),()) else (qv_ (y.1,s,())).bind fun z=>if nei z.2.1 0=true then some ((z.2.1,s.2.2.2),()) else kk (dput .str a s.1 ()))
  (fin:=fun _=>u2 t ps n ((k + 1:Nat):Int) t4 o) ?_ ?_ ss.length 0 [] _ (by omega) (by omega)).trans ?_
 ·intro self j a s hs
  have hj:=(List.getElem?_eq_some_iff.1 hs).1
  have K6:∀ (b:Bool) (o2:zJ6) (p:TPt),q80_ u2 (fun t i t28 t29 t30 t55 t56 t57 t4 o o_2=>self (t,i,t28,t29,t30,t55,t56,t57,t4,o,o_2)) t (i:Int) ps n (k:Int) ss (Int.ofNat ss.length) (j:Int) b t4 o o2 s p =
    if b=true then some ((151,s.2.2.2),()) else (qv_ (p,s,())).bind fun z=>if nei z.2.1 0=true then some ((z.2.1,s.2.2.2),()) else self (t,(i:Int),ps,n,(k:Int),ss,Int.ofNat ss.length,((j + 1:Nat):Int),t4,o,o2):=fun b o2 p=>by
   show q84_ _ _ t (i:Int) ps n (k:Int) ss (Int.ofNat ss.length) (j:Int) b t4 o o2 s p=_
   unfold q84_
   rw [ql_ (by omega)]
  have K5:∀ (ok:Bool) (p:TPt),q5c_ u2 (fun t i t28 t29 t30 t55 t56 t57 t4 o o_2=>self (t,i,t28,t29,t30,t55,t56,t57,t4,o,o_2)) t (i:Int) ok ps n (k:Int) ss (Int.ofNat ss.length) (j:Int) t4 o a s p =
    if (!ok)=true then some ((151,s.2.2.2),()) else if isV .un (dget .str a s.1)=true then some ((151,s.2.2.2),()) else (qv_ (p,s,())).bind fun z=>if nei z.2.1 0=true then some ((z.2.1,s.2.2.2),()) else self (t,(i:Int),ps,n,(k:Int),ss,Int.ofNat ss.length,((j + 1:Nat):Int),t4,o,dput .str a s.1 ()):=fun ok p=>by
   show q89_ (q80_ u2 _) _ _ t (i:Int) ok ps n (k:Int) ss (Int.ofNat ss.length) (j:Int) t4 o a s p=_
   unfold q89_
   simp only [K6]
   cases ok with
   | false=>rfl
   | true =>
    simp only [Bool.not_true,Bool.not_not]
    cases isV .un (dget .str a s.1) <;> rfl
  rw [qcz_]
  unfold q3a_
  rw [if_pos (by rw [q0_,q1_]; omega),qg_ hs,Option.bind_some,qg_ hd,Option.bind_some,amb2 (eqAs_refl _)]
  simp only [K5]
 ·intro self a
  rw [qcz_]
  unfold q3a_
  rw [if_neg (by rw [q0_,q1_]; omega),ql_ (by omega)]
 ·rw [List.drop_zero]
  have key:∀ (q:List TSet) (a:zJ6) (N:List (List UInt8)),(∀ s ∈ q,0≤s.2.1.2)->Met (kt:=.str) a (·∈ N) ->
    goL (fun (a:zJ6) (s:TSet) (kk:zJ12)=>(q2h_ (d,s.1,())).bind fun y=>if (!y.2.1)=true then some ((151,s.2.2.2),()) else if isV .un (dget .str a s.1)=true then some ((151,s.2.2.2),()) else (qv_ (y.1,s,())).bind fun z=>if nei z.2.1 0=true then some ((z.2.1,s.2.2.2),()) else kk (dput .str a s.1 ()))
     (fun _=>u2 t ps n ((k + 1:Nat):Int) t4 o) q a=match setsS d q N with
     | some f=>some (f,())
     | none=>u2 t ps n ((k + 1:Nat):Int) t4 o:=by
   intro q
   induction q with
   | nil=>intro a N _ _; rfl
   | cons s q ih =>
    intro a N hq hN
    show ((q2h_ (d,s.1,())).bind fun y=>if (!y.2.1)=true then some ((151,s.2.2.2),()) else if isV .un (dget .str a s.1)=true then some ((151,s.2.2.2),()) else (qv_ (y.1,s,())).bind fun z=>if nei z.2.1 0=true then some ((z.2.1,s.2.2.2),()) else goL _ _ q (dput .str a s.1 ()))=_
    rw [point_eq (by omega),Option.bind_some,setsS,hN.mem,ih _ _ (fun x hx=>hq x (List.mem_cons_of_mem _ hx)) (hN.push keqS s.1)]
    cases hz:srch (fun p=>eqs p.1 s.1) d.2 0 with
    | none=>rfl
    | some z =>
     obtain ⟨z1,z2⟩:=z
     have hm:=(srch_mem hz).1
     have hr:=ptB_rgt (dev_pt hdB z2 hm)
     dsimp only
     rw [if_neg (by decide),vword_eq (hdR z2 hm) hr.1 hr.2 (hq s (by simp)),Option.bind_some]
     dsimp only
     by_cases h1:s.1 ∈ N
     ·rw [if_pos (decide_eq_true h1),if_pos h1]
     ·rw [if_neg (by simp [h1]),if_neg h1]
      by_cases h2:(wrdS z2 s).2=0
      ·rw [if_pos h2,if_neg (fun e=>qe_.1 e h2)]
      ·rw [if_neg h2,if_pos (qe_.2 h2)]
  exact key ss [] [] hsR (fun k=>by simp [dget])
theorem check_eq {t:TTab} {r:TRec} (ht:TabR t) (hr:RecR r):q51_ (t,r,())=some (checkS t r,()):=by
 have ht1:=ht.1
 have hr1:=hr.1
 have K1t:q2d_ t true r (0,0)=some ((2,0),()):=rfl
 have K1f:tabB t=true->q2d_ t false r (0,0)=some ((partsS t r.2 []).getD (0,0),()):=by
  intro hB
  have hdv:∀ d ∈ t,devB d=true:=by
   unfold tabB at hB
   simp only [Bool.and_eq_true] at hB
   exact tabL_dev hB.2.2
  show q8b_ t r.2 (Int.ofNat r.2.length) 0 (0,0) []=_
  rw [qi8_]
  refine (loop_go (xs:=r.2) (mk:=fun k (a:zJ6)=>(t,r.2,Int.ofNat r.2.length,(k:Int),((0,0):Int×Int),a))
   (body:=fun a p kk=>match srch (fun d=>eqs d.1 p.1) t 0 with
    | none=>some ((150,p.2.1),())
    | some z=>if isV .un (dget .str a p.1)=true then some ((150,p.2.1),()) else match setsS z.2 p.2.2 [] with
     | some f=>some (f,())
     | none=>kk (dput .str a p.1 ()))
   (fin:=fun _=>some ((0,0),())) ?_ ?_ r.2.length 0 [] _ (by omega) (by omega)).trans ?_
  ·intro self k a p hp
   have hk:=(List.getElem?_eq_some_iff.1 hp).1
   have hpm:=hr.2 p (List.mem_of_getElem? hp)
   rw [qd9_]
   unfold q3k_
   rw [if_pos (by rw [q0_,q1_]; omega),qg_ hp,Option.bind_some,find_eq (by omega),Option.bind_some]
   cases hz:srch (fun d=>eqs d.1 p.1) t 0 with
   | none=>rfl
   | some z =>
    obtain ⟨z1,z2⟩:=z
    obtain ⟨hm,hg,_⟩:=srch_mem hz
    have hd:=ht.2 z2 hm
    dsimp only
    rw [if_neg (by decide)]
    simp only [Bool.not_not]
    show q7q_ (q5f_ _) _ t (z1:Int) r.2 (Int.ofNat r.2.length) (k:Int) _ (0,0) _ p=_
    unfold q7q_
    rw [check_K4 hg (hdv z2 hm) hd.1 hd.2 _ r.2 _ k (by omega) p.2.2 hpm.1 hpm.2]
  ·intro self a
   rw [qd9_]
   unfold q3k_
   rw [if_neg (by rw [q0_,q1_]; omega)]
  ·rw [List.drop_zero]
   have key:∀ (q:List TPart) (a:zJ6) (N:List (List UInt8)),Met (kt:=.str) a (·∈ N) ->
     goL (fun (a:zJ6) (p:TPart) (kk:zJ12)=>match srch (fun d=>eqs d.1 p.1) t 0 with
      | none=>some ((150,p.2.1),())
      | some z=>if isV .un (dget .str a p.1)=true then some ((150,p.2.1),()) else match setsS z.2 p.2.2 [] with
       | some f=>some (f,())
       | none=>kk (dput .str a p.1 ())) (fun _=>some ((0,0),())) q a=some ((partsS t q N).getD (0,0),()):=by
    intro q
    induction q with
    | nil=>intro a N _; rfl
    | cons p q ih =>
     intro a N hN
     show (match srch (fun d=>eqs d.1 p.1) t 0 with
      | none=>some ((150,p.2.1),())
      | some z=>if isV .un (dget .str a p.1)=true then some ((150,p.2.1),()) else match setsS z.2 p.2.2 [] with
       | some f=>some (f,())
       | none=>goL _ _ q (dput .str a p.1 ()))=_
     rw [hN.mem,ih _ _ (hN.push keqS p.1),partsS]
     cases srch (fun d=>eqs d.1 p.1) t 0 with
     | none=>rfl
     | some z =>
      dsimp only
      by_cases h1:p.1 ∈ N
      ·rw [if_pos (decide_eq_true h1),if_pos h1]; rfl
      ·rw [if_neg (by simp [h1]),if_neg h1]
       cases setsS z.2 p.2.2 [] <;> rfl
   exact key r.2 [] [] (fun k=>by simp [dget])
 show q7p_ q2d_ t r=_
 unfold q7p_ checkS
 rw [right15_eq ht,Option.bind_some]
 dsimp only
 cases hB:tabB t with
 | false=>rw [if_pos (by rfl),K1t]; rfl
 | true =>
  rw [if_neg (by decide),right_eq' (by omega) (fun p hp=>by have:=(hr.2 p hp).1; omega),Option.bind_some]
  dsimp only
  cases rightB r with
  | false=>show q2d_ t true r (0,0)=_; rw [K1t]; rfl
  | true=>show q2d_ t false r (0,0)=_; rw [K1f hB]; rfl
end Go.Proofs.Lx
end
section
set_option maxRecDepth 100000
namespace Go.Proofs.Lx
open Go Go.Proofs Ev Sx
def lpB:Code->Code
 | .loop c=>c
 | _=>.skip
noncomputable def wdC:Code:=bodyAt Try.prog 20
noncomputable def wd1:Code:=seqL wdC
noncomputable def wdX:Code:=seqL (seqR wdC)
noncomputable def wd4:Code:=seqL (seqR (seqR wdC))
noncomputable def wdY:Code:=seqR (seqR (seqR wdC))
noncomputable def wd5:Code:=seqL (seqL wdY)
noncomputable def wdL0:Code:=lpB (blkC (seqR (seqL wdY)))
noncomputable def wdZ:Code:=seqR wdY
noncomputable def wd6:Code:=seqL (seqL wdZ)
noncomputable def wdL2:Code:=lpB (blkC (seqR (seqL wdZ)))
noncomputable def wdE:Code:=seqR wdZ
theorem wd_eq:Try.f20.body=some (.seq wd1 (.seq wdX (.seq wd4 (.seq (.seq wd5 (.block 0 (.loop wdL0))) (.seq (.seq wd6 (.block 2 (.loop wdL2))) wdE))))):=rfl
noncomputable def wdH:Code:=seqL wdL2
noncomputable def wdI:Code:=seqL (seqR wdL2)
noncomputable def wdB:Code:=blkC (seqL (seqR (seqR wdL2)))
noncomputable def wdS:Code:=seqR (seqR (seqR wdL2))
noncomputable def wdB1:Code:=seqL wdB
noncomputable def wdB2:Code:=seqL (seqR wdB)
noncomputable def wdB3:Code:=seqL (seqR (seqR wdB))
noncomputable def wdB4:Code:=seqR (seqR (seqR wdB))
theorem wdL2_eq:wdL2 = .seq wdH (.seq wdI (.seq (.block 3 (.seq wdB1 (.seq wdB2 (.seq wdB3 wdB4)))) wdS)):=rfl
abbrev decT:Ty:=.pr (.int .i64) (.int .u8)
abbrev ptT:Ty:=.pr .str (.pr (.int .i64) (.pr (.int .i64) (.pr .bool (.pr decT (.pr decT .str)))))
abbrev devT:Ty:=.pr .str (.sl ptT)
abbrev tabT:Ty:=.sl devT
abbrev setT:Ty:=.pr .str (.pr decT (.pr .str (.int .i64)))
abbrev partT:Ty:=.pr .str (.pr (.int .i64) (.sl setT))
abbrev recT:Ty:=.pr .str (.sl partT)
abbrev fltT:Ty:=.pr (.int .i64) (.int .i64)
abbrev mT:Ty:=.mp kT uT
@[reducible] def vcS:Sh:=⟨[.d tabT,.d recT],[],[tabT,recT],[.d fltT],[],0,[fltT]⟩
@[reducible] def vfS:Sh:=⟨[.d tabT,.d .str],[],[tabT,.str],[.d (.int .i64),.d .bool],[],0,[.int .i64,.bool]⟩
@[reducible] def vwS:Sh:=⟨[.d ptT,.d setT],[],[ptT,setT],[.d (.int .u16),.d (.int .i64)],[],0,[.int .u16,.int .i64]⟩
abbrev Vc:=As vcS.ps->Option (As vcS.rs)
abbrev Vf:=As vfS.ps->Option (As vfS.rs)
abbrev Vw:=As vwS.ps->Option (As vwS.rs)
def wdEnv (vc:Vc) (vf:Vf) (vw:Vw):Env:=cts [(23,⟨vcS,vc⟩),(27,⟨vfS,vf⟩),(29,⟨vwS,vw⟩)]
def wS0 (t:Vl tabT) (r:Vl recT):St:={ fr:=[(0,.d tabT t),(1,.d recT r)],nt:=92,up:=[],own:=[],nx:=0,log:=[],ln:=0 }
def hW1:Hint:=⟨[],[0,3,4,5]⟩
def wFr (t:Vl tabT) (ps:List (Vl partT)) (n k:Int):Fr:=[(0,.d tabT t),(5,.pb 0 0),(38,.d (.sl partT) ps),(39,.d kT n),(40,.d kT k)]
def wOwn:List (Nat×Ent):=[(0,.box 50 [.d kT 0,.d kT 0])]
def wS3 (t:Vl tabT) (ps:List (Vl partT)) (v7:Value) (n k:Int):St:={ fr:=(7,.k v7)::wFr t ps n k,nt:=92,up:=[],own:=wOwn,nx:=1,log:=[],ln:=0 }
def hW2:Hint:=⟨[],[7,0,5,38,39,40]⟩
def hW3:Hint:=⟨[],[41,7,0,5,38,39,40]⟩
def wFr1 (t:Vl tabT) (ps:List (Vl partT)) (n k:Int):Fr:=[(0,.d tabT t),(5,.pb 1 0),(38,.d (.sl partT) ps),(39,.d kT n),(40,.d kT k)]
def wOwn1 (y:Vl partT):List (Nat×Ent):=[(0,.box 80 [.d .str y.1,.d kT y.2.1,.d (.sl setT) y.2.2]),(1,.box 50 [.d kT 0,.d kT 0])]
def wS4 (t:Vl tabT) (ps:List (Vl partT)) (v7:Value) (n k:Int) (y:Vl partT):St:={ fr:=(10,.pb 0 0)::(7,.k v7)::wFr1 t ps n k,nt:=92,up:=[],own:=wOwn1 y,nx:=2,log:=[],ln:=0 }
def hW4:Hint:=⟨[],[10,7,0,5,38,39,40]⟩
def wS5 (t:Vl tabT) (ps:List (Vl partT)) (v7:Value) (n k:Int) (y:Vl partT) (i:Int) (ok:Bool):St:={ fr:=(11,.d kT i)::(12,.d .bool ok)::(10,.pb 0 0)::(7,.k v7)::wFr1 t ps n k,nt:=92,up:=[],own:=wOwn1 y,nx:=2,log:=[],ln:=0 }
def hW5:Hint:=⟨[],[11,12,10,7,0,5,38,39,40]⟩
def wFr3 (t:Vl tabT) (ps:List (Vl partT)) (n k:Int):Fr:=[(0,.d tabT t),(5,.pb 3 0),(38,.d (.sl partT) ps),(39,.d kT n),(40,.d kT k)]
@[reducible] def zJ13:Type:=List (Int×Int)
def wS6 (us:List Value) (t:Vl tabT) (ps:List (Vl partT)) (n k:Int) (y:Vl partT) (i:Int) (m:zJ13):St:={ fr:=(11,.d kT i)::(10,.pb 2 0)::(7,.row 0)::wFr3 t ps n k,nt:=92,up:=[],own:=[(0,.rowq 24 us i [.mp 1]),(1,.dm kT uT m),(2,.box 80 [.d .str y.1,.d kT y.2.1,.d (.sl setT) y.2.2]),(3,.box 50 [.d kT 0,.d kT 0])],nx:=4,log:=[],ln:=2 }
def hW6:Hint:=⟨[],[7,0,5,38,39,40]⟩
def hWl:Hint:=⟨[],[11,7,0,5,38,39,40,54,55,56]⟩
def hWm:Hint:=⟨[],[11,14,7,0,5,38,39,40,54,55,56,64,65,66]⟩
def hsW (q:Nat):Option Hint:=if q=6 then some hWl else if q=1638 then some hWm else none
abbrev RW:=Ex×St
noncomputable def kW:Kt RW:=fun e S'=>(nrm Try.prog hW6 S').bind fun S1=>some (e,S1)
abbrev NW:Nat:=18446744073709551616
noncomputable def clW (vc:Vc) (vf:Vf) (vw:Vw):Cl RW:=evC (R:=RW) Try.prog (wdEnv vc vf vw) NW (fun _ _=>false) 2
def lOwn (us:List Value) (i:Int) (m:zJ13):List (Nat×Ent):=[(0,.rowq 24 us i [.mp 1]),(1,.dm kT uT m),(2,.box 50 [.d kT 0,.d kT 0])]
def lFr (t:Vl tabT) (ps:List (Vl partT)) (n k:Int):Fr:=[(7,.row 0),(0,.d tabT t),(5,.pb 2 0),(38,.d (.sl partT) ps),(39,.d kT n),(40,.d kT k)]
def wL1 (us:List Value) (t:Vl tabT) (ps:List (Vl partT)) (n k i:Int) (ss:List (Vl setT)) (ns j:Int) (m:zJ13):St:={ fr:=(11,.d kT i)::(lFr t ps n k++[(54,.d (.sl setT) ss),(55,.d kT ns),(56,.d kT j)]),nt:=92,up:=[],own:=lOwn us i m,nx:=3,log:=[],ln:=2 }
def lOwn2 (us:List Value) (i:Int) (m:zJ13) (s:Vl setT):List (Nat×Ent):=[(0,.rowq 24 us i [.mp 1]),(1,.dm kT uT m),(2,.box 82 [.d .str s.1,.d kT s.2.1.1,.d (.int .u8) s.2.1.2,.d .str s.2.2.1,.d kT s.2.2.2]),(3,.box 50 [.d kT 0,.d kT 0])]
def wL2 (us:List Value) (t:Vl tabT) (ps:List (Vl partT)) (n k i:Int) (ss:List (Vl setT)) (ns j:Int) (s:Vl setT) (qs:List (Vl ptT)) (nq h:Int) (m:zJ13):St:={ fr:=(11,.d kT i)::(14,.pb 2 0)::(7,.row 0)::(0,.d tabT t)::(5,.pb 3 0)::(38,.d (.sl partT) ps)::(39,.d kT n)::(40,.d kT k)::(54,.d (.sl setT) ss)::(55,.d kT ns)::(56,.d kT j)::(64,.d (.sl ptT) qs)::(65,.d kT nq)::(66,.d kT h)::[],nt:=92,up:=[],own:=lOwn2 us i m s,nx:=4,log:=[],ln:=2 }
noncomputable def pW (vc:Vc) (vf:Vf) (vw:Vw) (J:Orc RW) (q:Nat) (us:Us RW) (S:St):Option RW:=pce Try.prog (wdEnv vc vf vw) (clW vc vf vw) NW hsW J q wdB4 1 kW [] us S
end Go.Proofs.Lx
end
section
set_option maxRecDepth 100000
namespace Go.Proofs.Lx
open Go Go.Proofs Ev Sx Pl
abbrev Mw:=List (Int×Int)
def wPts (vw:Vw) (s:Vl setT):List (Vl ptT)->Mw->Option Mw
 | [],m=>some m
 | p::q,m=>if eqs p.1 s.1=true then (vw (p,s,())).bind fun y=>wPts vw s q (dput kT m p.2.1 y.1) else wPts vw s q m
def wSets (vw:Vw) (qs:List (Vl ptT)):List (Vl setT)->Mw->Option Mw
 | [],m=>some m
 | s::r,m=>(wPts vw s qs m).bind fun m'=>wSets vw qs r m'
def wS7 (us:List Value) (t:Vl tabT) (ps:List (Vl partT)) (n k i:Int) (m:Mw):St:={ fr:=lFr t ps n k,nt:=92,up:=[],own:=lOwn us i m,nx:=3,log:=[],ln:=2 }
section
variable (vc:Vc) (vf:Vf) (vw:Vw) (us:List Value) (t:Vl tabT) (ps:List (Vl partT)) (n k i:Int)
theorem pw0_eq (J:Orc RW) (y:Vl partT) (m:Mw):evJ Try.prog (wdEnv vc vf vw) (clW vc vf vw) NW hsW J [] 1 wdB4 (wS6 us t ps n k y i m) kW=J 6 [] (wL1 us t ps n k i y.2.2 (Int.ofNat y.2.2.length) 0 m):=by kernel_rfl
theorem pw1_eq (J:Orc RW) (u1:St->Option RW) (ss:List (Vl setT)) (ns j:Int) (m:Mw):pW vc vf vw J 6 [u1] (wL1 us t ps n k i ss ns j m) =
  if lt j ns=true then (at? ss j).bind fun s=>(at? t i).bind fun d=>J 1638 [u1] (wL2 us t ps n k i ss ns j s d.2 (Int.ofNat (List.length d.2)) 0 m) else some (.n,wS7 us t ps n k i m):=by kernel_rfl
theorem pw2_eq (J:Orc RW) (u1 u2:St->Option RW) (ss:List (Vl setT)) (ns j:Int) (s:Vl setT) (qs:List (Vl ptT)) (nq h:Int) (m:Mw):pW vc vf vw J 1638 [u1,u2] (wL2 us t ps n k i ss ns j s qs nq h m) =
  if lt h nq=true then (at? qs h).bind fun p=>if eqs p.1 s.1=true then need (eqi i i) (if i=i∧Option.map aggD (Try.prog.underlying 24)=some false then
    (vw (p,s,())).bind fun y=>u2 (wL2 us t ps n k i ss ns j s qs nq (add .i64 h 1) (dput kT m p.2.1 y.1)) else none)
   else u2 (wL2 us t ps n k i ss ns j s qs nq (add .i64 h 1) m)
  else u1 (wL1 us t ps n k i ss ns (add .i64 j 1) m):=by kernel_rfl
noncomputable def JW:Orc RW:=fun q uu=>fnd Try.prog (wdEnv vc vf vw) (clW vc vf vw) NW hsW q wdB4 1 kW uu
theorem JW_pce {q:Nat} (hq:0 < q) (uu:Us RW) (S:St):JW vc vf vw q uu S=pW vc vf vw (JW vc vf vw) q uu S:=by
 have:=pce_eq (P:=Try.prog) (env:=wdEnv vc vf vw) (cl:=clW vc vf vw) (fuel:=NW) (hs:=hsW) (J:=JW vc vf vw) (q:=q) (c:=wdB4) (p:=1) (u0:=[]) (k:=kW) (us:=uu) (by decide) (In.one hq) (fun q uu' _=>rfl)
 exact (congrFun this S).symm
theorem pw_pts {qs:List (Vl ptT)} (hq:qs.length < 9223372036854775807) (u1:St->Option RW) (ss:List (Vl setT)) (ns j:Int) (s:Vl setT) (m:Mw) :
  JW vc vf vw 1638 [u1] (wL2 us t ps n k i ss ns j s qs (Int.ofNat qs.length) 0 m)=(wPts vw s qs m).bind fun m'=>u1 (wL1 us t ps n k i ss ns (add .i64 j 1) m'):=by
 rw [JW_pce vc vf vw (by decide)]
 have hl:lpAt 1638 wdB4 1 ([u1]:Us RW).length=true:=by kernel_rfl
 refine (pce_loop hl).trans ?_
 refine (loopF_sim (σ:=Int×Mw) (mk:=fun s2=>wL2 us t ps n k i ss ns j s qs (Int.ofNat qs.length) s2.1 s2.2)
  (G:=fun self s2=>if lt s2.1 (Int.ofNat qs.length)=true then (at? qs s2.1).bind fun p=>if eqs p.1 s.1=true then (vw (p,s,())).bind fun y=>self (add .i64 s2.1 1,dput kT s2.2 p.2.1 y.1) else self (add .i64 s2.1 1,s2.2) else u1 (wL1 us t ps n k i ss ns (add .i64 j 1) s2.2))
  (fun g s2=>?_) NW (0,m)).trans ?_
 ·refine (pw2_eq vc vf vw us t ps n k i _ u1 g ss ns j s qs _ s2.1 s2.2).trans ?_
  have hn:∀ K:Option RW,need (eqi i i) K=K:=fun K=>qk_ (q9_.2 rfl)
  have hx:Option.map aggD (Try.prog.underlying 24)=some false:=by kernel_rfl
  simp only [hn,hx,and_self,if_true]
 ·have key:∀ (c:Nat) (m:Mw) (N:Nat),c≤qs.length->qs.length - c < N->loopF (σ:=Int×Mw) (R:=RW) (fun self s2=>if lt s2.1 (Int.ofNat qs.length)=true then (at? qs s2.1).bind fun p=>if eqs p.1 s.1=true then (vw (p,s,())).bind fun y=>self (add .i64 s2.1 1,dput kT s2.2 p.2.1 y.1) else self (add .i64 s2.1 1,s2.2) else u1 (wL1 us t ps n k i ss ns (add .i64 j 1) s2.2)) N ((c:Int),m)=(wPts vw s (qs.drop c) m).bind fun m'=>u1 (wL1 us t ps n k i ss ns (add .i64 j 1) m'):=by
   intro c m N hc hN
   induction N generalizing c m with
   | zero=>omega
   | succ N ih =>
    rw [q6_]
    simp only
    by_cases hlt:c < qs.length
    ·rw [if_pos (by rw [q0_]; show (c:Int) < (qs.length:Int); omega),List.drop_eq_getElem_cons hlt]
     have ha:at? qs (c:Int)=some qs[c]:=by unfold at?; rw [if_pos (by omega),Int.toNat_natCast]; exact List.getElem?_eq_getElem hlt
     have hadd:add .i64 (c:Int) 1=((c + 1:Nat):Int):=by rw [add64 (by omega) (by omega)]; omega
     rw [ha,Option.bind_some,wPts]
     by_cases he:eqs (qs[c]).1 s.1=true
     ·rw [if_pos he,if_pos he,Option.bind_assoc]
      congr 1
      funext y
      rw [hadd]
      exact ih (c + 1) _ (by omega) (by omega)
     ·rw [if_neg he,if_neg he,hadd]
      exact ih (c + 1) _ (by omega) (by omega)
    ·obtain rfl:c=qs.length:=by omega
     rw [if_neg (by rw [q0_]; show ¬ (qs.length:Int) < (qs.length:Int); omega),List.drop_length]
     rfl
  exact key 0 m NW (by omega) (by show _ < 18446744073709551616; omega)
theorem pw_sets {ss:List (Vl setT)} {d:Vl devT} (hd:at? t i=some d) (hq:d.2.length < 9223372036854775807) (hs:ss.length < 9223372036854775807) (m:Mw) :
  JW vc vf vw 6 [] (wL1 us t ps n k i ss (Int.ofNat ss.length) 0 m)=(wSets vw d.2 ss m).bind fun m'=>some (.n,wS7 us t ps n k i m'):=by
 rw [JW_pce vc vf vw (by decide)]
 have hl:lpAt 6 wdB4 1 ([]:Us RW).length=true:=by kernel_rfl
 refine (pce_loop hl).trans ?_
 refine (loopF_sim (σ:=Int×Mw) (mk:=fun s2=>wL1 us t ps n k i ss (Int.ofNat ss.length) s2.1 s2.2)
  (G:=fun self s2=>if lt s2.1 (Int.ofNat ss.length)=true then (at? ss s2.1).bind fun s=>(wPts vw s d.2 s2.2).bind fun m'=>self (add .i64 s2.1 1,m') else some (.n,wS7 us t ps n k i s2.2))
  (fun g s2=>?_) NW (0,m)).trans ?_
 ·refine (pw1_eq vc vf vw us t ps n k i _ g ss _ s2.1 s2.2).trans ?_
  congr 1
  congr 1
  funext s
  rw [hd,Option.bind_some]
  exact pw_pts vc vf vw us t ps n k i hq g ss _ _ s _
 ·have key:∀ (c:Nat) (m:Mw) (N:Nat),c≤ss.length->ss.length - c < N->loopF (σ:=Int×Mw) (R:=RW) (fun self s2=>if lt s2.1 (Int.ofNat ss.length)=true then (at? ss s2.1).bind fun s=>(wPts vw s d.2 s2.2).bind fun m'=>self (add .i64 s2.1 1,m') else some (.n,wS7 us t ps n k i s2.2)) N ((c:Int),m)=(wSets vw d.2 (ss.drop c) m).bind fun m'=>some (.n,wS7 us t ps n k i m'):=by
   intro c m N hc hN
   induction N generalizing c m with
   | zero=>omega
   | succ N ih =>
    rw [q6_]
    simp only
    by_cases hlt:c < ss.length
    ·rw [if_pos (by rw [q0_]; show (c:Int) < (ss.length:Int); omega),List.drop_eq_getElem_cons hlt]
     have ha:at? ss (c:Int)=some ss[c]:=by unfold at?; rw [if_pos (by omega),Int.toNat_natCast]; exact List.getElem?_eq_getElem hlt
     have hadd:add .i64 (c:Int) 1=((c + 1:Nat):Int):=by rw [add64 (by omega) (by omega)]; omega
     rw [ha,Option.bind_some,wSets,Option.bind_assoc]
     congr 1
     funext y
     rw [hadd]
     exact ih (c + 1) _ (by omega) (by omega)
    ·obtain rfl:c=ss.length:=by omega
     rw [if_neg (by rw [q0_]; show ¬ (ss.length:Int) < (ss.length:Int); omega),List.drop_length]
     rfl
  exact key 0 m NW (by omega) (by show _ < 18446744073709551616; omega)
theorem pw_eq {y:Vl partT} {d:Vl devT} (hd:at? t i=some d) (hq:d.2.length < 9223372036854775807) (hs:y.2.2.length < 9223372036854775807) (m:Mw) :
  ev Try.prog (wdEnv vc vf vw) (clW vc vf vw) NW hsW 1 wdB4 (wS6 us t ps n k y i m) kW=(wSets vw d.2 y.2.2 m).bind fun m'=>some (.n,wS7 us t ps n k i m'):=by
 have h0:=evJ_eq (P:=Try.prog) (env:=wdEnv vc vf vw) (cl:=clW vc vf vw) (fuel:=NW) (hs:=hsW) (J:=JW vc vf vw) (c:=wdB4) (p:=1) (us:=[]) (S:=wS6 us t ps n k y i m) (k:=kW) (by decide) (fun q uu' _=>rfl)
 rw [<- h0,pw0_eq,pw_sets vc vf vw us t ps n k i hd hq hs]
end
end Go.Proofs.Lx
end
section
set_option maxRecDepth 100000
namespace Go.Proofs.Lx
open Go Go.Proofs Go.RowKit Ev Sx Pl
noncomputable def evF (N:Nat) (env:Env) (hs:Nat->Option Hint) (h:Hint) (c:Code) (S:St):Option (Ex×St):=ev Try.prog env (evC (R:=Ex×St) Try.prog env N (fun _ _=>false) 2) N hs 1 c S (fun e S'=>(nrm Try.prog h S').bind fun S1=>some (e,S1))
section
variable {B0:Nat->Prop} {p0:List Ev.Place} {F F':Lx} {pl:List Ev.Place} {own:List (Nat×Ent)} {w w':World}
theorem qx_ {N:Nat} {env:Env} {hs:Nat->Option Hint} {hint:Hint} (henv:EnvOk Try.prog (fun _=>True) env) {c:Code} {S S1:St} {e0:Ex} {l:List Value}
  (hb:∀ k,Bo pl S.own w k->B0 k) (h:Sto B0 p0 F pl S.own w) (hup:S.up=[]) (hnx:S.nx=pl.length) (hln:S.ln=p0.length) (hnt:l.length=S.nt) (hfr:FrD pl (lx pl S.own++F) w S.fr l)
  (hev:evF N env hs hint c S=some (e0,S1)) :
  CW Try.prog c (fun e a w'=>∃ pl' l',e=exOf e0∧a=mk l'∧l'.length=S1.nt∧pl'.length=S1.nx∧Sto B0 p0 F pl' S1.own w'∧FrD pl' (lx pl' S1.own++F) w' S1.fr l'∧Blw (Bo pl S.own w) w w') l w:=by
 refine ev_ok (R:=Ex×St) henv (evC_ok henv (fun _ _ h=>by cases h) 2) (Hn:=False) (fun h=>h.elim) c 1 _ pl S l w _ _ ?_ (h.rel hup hnx hln hnt hfr) hev (fun e wr' pl' S' l' w' h' _ hv=>?_)
 ·rintro c a a' w ⟨pl',l',he,_⟩
  exact absurd he.symm (exOf_panic c)
 ·obtain ⟨S2,h1,h2⟩:=q5_ hv
  cases h2
  obtain ⟨wr2,pl2,h3⟩:=nrm_ok h' h1
  obtain ⟨a,b⟩:=sto_of_rel hb h3
  exact ⟨pl2,l',rfl,rfl,h3.nt,h3.nx.symm,a,h3.fr,b⟩
end
abbrev mv (b:Nat):Value:=.map (some b)
abbrev nm:Value:=.map none
def FM (F:Lx) (g:Nat) (gs:List Nat):Lx:=F++(g::gs).map some
theorem FM_mem {F:Lx} {g:Nat} {gs:List Nat} {k:Nat}:some k ∈ FM F g gs ↔ some k ∈ F∨k ∈ g::gs:=by
 unfold FM
 rw [List.mem_append]
 constructor
 ·rintro (h | h)
  ·exact .inl h
  ·obtain ⟨a,h1,h2⟩:=List.mem_map.1 h
   cases h2
   exact .inr h1
 ·rintro (h | h)
  ·exact .inl h
  ·exact .inr (List.mem_map_of_mem (f:=some) h)
structure RowI (B0:Nat->Prop) (F:Lx) (w:World) (g n:Nat) (gs:List Nat) (xs:List Mw):Prop where
 bx:Bx w g (gs.map mv++List.replicate (n - gs.length) nm) 24
 le:gs.length≤n
 len:gs.length=xs.length
 maps:∀ (k b:Nat) (x:Mw),gs[k]? = some b->xs[k]? = some x->MapIs (keyV kT) (fun v:Int=>Value.int .u16 v) w b x
 nd:(g::gs).Nodup
 own:∀ k ∈ g::gs,B0 k
 far:∀ k ∈ g::gs,some k ∉ F
theorem RowI.lt {B0:Nat->Prop} {F:Lx} {w:World} {g n:Nat} {gs:List Nat} {xs:List Mw} (h:RowI B0 F w g n gs xs):∀ k ∈ g::gs,k < w.heap.size:=fun k hk=>by
 rcases List.mem_cons.1 hk with rfl | hk
 ·exact h.bx.lt
 ·obtain ⟨i,hi,he⟩:=List.getElem_of_mem hk
  have h1:gs[i]? = some k:=by rw [List.getElem?_eq_getElem hi,he]
  have h2:xs[i]? = some (xs[i]'(by rw [<- h.len]; exact hi)):=List.getElem?_eq_getElem _
  exact (h.maps i k _ h1 h2).lt
theorem MapIs.keep {K V:Type} {kv:K->Value} {vv:V->Value} {w w':World} {g:Nat} {x:List (K×V)} (h:MapIs kv vv w g x) (hk:w'.heap[g]? = w.heap[g]?):MapIs kv vv w' g x:=by
 obtain ⟨es,cl,a,b⟩:=h
 exact ⟨es,cl,hk.trans a,b⟩
theorem RowI.keep {B0:Nat->Prop} {F:Lx} {w w':World} {g n:Nat} {gs:List Nat} {xs:List Mw} (h:RowI B0 F w g n gs xs) (hk:∀ k ∈ g::gs,w'.heap[k]? = w.heap[k]?):RowI B0 F w' g n gs xs :=
 ⟨by unfold Bx; rw [hk g (by simp)]; exact h.bx,h.le,h.len,fun k b x h1 h2=>MapIs.keep (h.maps k b x h1 h2) (hk b (List.mem_cons_of_mem _ (List.mem_of_getElem? h1))),h.nd,h.own,h.far⟩
theorem frD_set {pl:List Ev.Place} {L:Lx} {w:World} {fr:Fr} {l:List Value} {j:Nat} {v:Value} (h:FrD pl L w fr l) (hj:Ev.get fr j=none):FrD pl L w fr (l.set j v):=fun t s hg=>by
 have hne:j ≠ t:=fun e=>by subst e; rw [hj] at hg; cases hg
 rw [List.getD_eq_getElem?_getD,List.getElem?_set_ne hne,<- List.getD_eq_getElem?_getD]
 exact h t s hg
theorem q16_ {l:List Value} {j:Nat} {v:Value} (hl:j < l.length):(l.set j v).getD j undef=v:=by
 rw [List.getD_eq_getElem?_getD,List.getElem?_set_self hl]
 rfl
theorem q2l_ {l:List Value} {j t:Nat} {v:Value} (h:j ≠ t):(l.set j v).getD t undef=l.getD t undef:=by
 rw [List.getD_eq_getElem?_getD,List.getElem?_set_ne h,<- List.getD_eq_getElem?_getD]
theorem wd4_ops:∃ id o1 o2 o3 o4,wd4 = .region id #[o1,o2,o3,o4] false∧o1={ o1 with dst:=some 24,op:=.move (.tmp 0),guard:=none }∧o2={ o2 with dst:=some 25,op:=.call { callee:=.builtin .len,args:=#[.tmp 24],argTypes:=#[39] },guard:=none } ∧
  o3={ o3 with dst:=some 26,op:=.makeSlice 54 (.tmp 25) (.tmp 25),guard:=none }∧o4={ o4 with dst:=some 7,op:=.assign (.tmp 26),guard:=none }:=⟨_,_,_,_,_,rfl,rfl,rfl,rfl,rfl⟩
theorem wd5_ops:∃ id o1 o2 o3,wd5 = .region id #[o1,o2,o3] false∧o1={ o1 with dst:=some 27,op:=.move (.tmp 7),guard:=none }∧o2={ o2 with dst:=some 28,op:=.call { callee:=.builtin .len,args:=#[.tmp 27],argTypes:=#[54] },guard:=none } ∧
  o3={ o3 with dst:=some 29,op:=.move (.const (.int .i64 0)),guard:=none }:=⟨_,_,_,_,rfl,rfl,rfl,rfl⟩
theorem ty24:TyRow Try.prog 24 (rpRaw 1) [nm]:=⟨⟨_,_,rfl,rfl,rfl,by decide,rfl,fun L w=>⟨rfl,rfl,by simp [Value.oneCell']⟩⟩,by decide⟩
theorem run_make24 {l:List Value} {w:World} {d:Option Tmp} {ty:TypeId} {pos:String} {af:Array Edge} {gd:Option (Nat×Bool)} {x:Operand} {n:Nat} (hx:Sx.ev l x = .int .i64 n) (hn:n≤1000) :
  ∃ w',(execOp (Sx.ev l) ⟨d,.makeSlice 54 x x,ty,pos,af,gd⟩).run Try.prog w = .ok (.value (.slice (some ⟨w.heap.size,0,none⟩) n n)) w'∧Fz [] w w'∧w'.heap.size=w.heap.size + 1∧Bx w' w.heap.size (List.replicate n nm) 24:=by
 obtain ⟨i,zv,hi,hz,hsz,hby,hzs,hzr⟩:=ty24.info
 have hz1:=(hzr [] w).1
 have hbb:(i.bytes:Int) * (n:Int)≤281474976710656:=by
  have h1:i.bytes * n≤131072000:=Nat.mul_le_mul hby hn
  have h2:((i.bytes * n:Nat):Int)≤(131072000:Nat):=Int.ofNat_le.2 h1
  rw [Int.natCast_mul] at h2
  omega
 have hrun:=run_make (P:=Try.prog) w 54 24 i zv (by kernel_rfl) hi hz .i64 .i64 n n (by omega) (Int.le_refl _) hbb (by omega)
 simp only [Int.toNat_natCast] at hrun
 refine ⟨w.alloc (.cells (madeCells zv.cells (n * i.size)) 24),?_,Fz.alloc _ _ _,by simp,?_⟩
 ·simp only [execOp,hx,Sem.run_bind,hrun,Result.andThen_ok,Sem.run_pure]
 ·unfold Bx
  have hfl:=madeCells_flatten zv.cells n
  rw [hzs] at hfl
  rw [hsz]
  have:(madeCells zv.cells (n * (rpRaw 1).size))=(List.replicate n nm).toArray:=by
   apply Array.ext'
   rw [hfl,hz1]
   simp
  rw [this]
  exact Sx.heap_last w _
theorem blw_alloc {B:Nat->Prop} {w w':World} (h:Fz [] w w'):Blw B w w':=blw_fz h (fun k hk=>by cases hk)
section
variable {B0:Nat->Prop} {F:Lx} {pl:List Ev.Place} {own:List (Nat×Ent)} {w:World} {l:List Value} {fr:Fr}
theorem wd4_wp {t:Vl tabT} {n:Nat} (hn:(show List (Vl devT) from t).length=n) (h2:n≤1000) (hst:Sto B0 [] F pl own w) (hB:∀ k,w.heap.size≤k->B0 k) (hl:l.length=92) (hfr:FrD pl (lx pl own++F) w fr l)
  (h0:Ev.get fr 0=some (.d tabT t)) (hno:∀ j ∈ [24,25,26,7],Ev.get fr j=none) :
  CW Try.prog wd4 (fun e a w'=>∃ l' g,e = .normal∧a=mk l'∧l'.length=92∧RowI B0 F w' g n [] []∧Sto B0 [] (FM F g []) pl own w'∧Blw B0 w w'∧FrD pl (lx pl own++FM F g []) w' fr l'∧l'.getD 7 undef = .slice (some ⟨g,0,none⟩) n n) l w:=by
 obtain ⟨id,o1,o2,o3,o4,e0,e1,e2,e3,e4⟩:=wd4_ops
 rw [e0,e1,e2,e3,e4]
 obtain ⟨cs0,⟨a0,c0,rfl,_,_⟩,hv0⟩:=hfr 0 _ h0
 have hv0:l.getD 0 undef = .slice a0 (show List (Vl devT) from t).length c0:=hv0
 rw [hn] at hv0
 refine cw_region (ops:=[_,_,_,_]) ?_
 refine wl_val (v:=.slice a0 n c0) rfl (run_move hv0) ?_
 have i1:Sx.ev (l.set 24 (.slice a0 n c0)) (.tmp 24) = .slice a0 n c0:=q16_ (by omega)
 refine wl_val (v:=.int .i64 n) rfl (Sx.run_len_slice (e:=67) (by kernel_rfl) i1) ?_
 have i2:Sx.ev ((l.set 24 (.slice a0 n c0)).set 25 (.int .i64 n)) (.tmp 25) = .int .i64 n:=q16_ (by simp; omega)
 obtain ⟨w1,r1,r2,r3,r4⟩:=run_make24 (w:=w) (d:=some 26) (ty:=o3.type) (pos:=o3.pos) (af:=o3.after) (gd:=none) i2 h2
 refine wl_val rfl r1 ?_
 refine wl_val (v:=.slice (some ⟨w.heap.size,0,none⟩) n n) rfl (run_assign (q16_ (by simp [st]; omega))) ?_
 have hF:∀ k,some k ∈ FM F w.heap.size []->(some k ∈ F∨w.heap.size≤k)∧k < w1.heap.size:=fun k hk=>by
  rcases FM_mem.1 hk with h | h
  ·exact ⟨.inl h,by have:=(hst.far k h).2; omega⟩
  ·simp at h
   subst h
   exact ⟨.inr (Nat.le_refl _),by omega⟩
 have hst1:=hst.grow r2 hF
 refine wl_nil ⟨_,w.heap.size,rfl,rfl,by simp [st,hl],⟨by simpa using r4,by simp,rfl,(fun k b x h1 h2=>by cases h1),by simp,fun k hk=>?_,fun k hk=>?_⟩,hst1,blw_alloc r2,?_,?_⟩
 ·simp at hk; subst hk; exact hB _ (Nat.le_refl _)
 ·simp at hk; subst hk; exact fun hm=>by have:=(hst.far _ hm).2; omega
 ·have hE:Ext pl (lx pl own++F) w pl (lx pl own++FM F w.heap.size []) w1:=by
   have hs:Sub w (lx pl own++FM F w.heap.size []) (lx pl own++F):=fun k hk=>by
    rcases List.mem_append.1 hk with hk | hk
    ·exact .inl (List.mem_append_left _ hk)
    ·rcases (hF k hk).1 with h1 | h1
     ·exact .inl (List.mem_append_right _ h1)
     ·exact .inr h1
   exact ⟨fun _ _ h=>h,by intro α R cs x h; exact R.mono (R.grow h hs) r2.nil,by intro α R b o x h; exact (h.grow hs).mono r2.nil⟩
  show FrD _ _ _ fr ((((l.set 24 _).set 25 _).set 26 _).set 7 _)
  exact frD_set (frD_set (frD_set (frD_set (hfr.ext hE) (hno 24 (by simp))) (hno 25 (by simp))) (hno 26 (by simp))) (hno 7 (by simp))
 ·exact q16_ (by simp [st]; omega)
end
end Go.Proofs.Lx
end
section
set_option maxRecDepth 100000
namespace Go.Proofs.Lx
open Go Go.Proofs Go.RowKit Ev Sx Pl
noncomputable def wdH0:Code:=seqL wdL0
noncomputable def wdI0:Code:=seqL (seqR wdL0)
noncomputable def wdA0:Code:=seqL (blkC (seqL (seqR (seqR wdL0))))
noncomputable def wdM0:Code:=seqR (blkC (seqL (seqR (seqR wdL0))))
noncomputable def wdS0:Code:=seqR (seqR (seqR wdL0))
theorem wdL0_eq:wdL0 = .seq wdH0 (.seq wdI0 (.seq (.block 1 (.seq wdA0 wdM0)) wdS0)):=rfl
def w0Fr (t:Vl tabT) (v7:Value) (n k:Int):Fr:=[(28,.d kT n),(29,.d kT k),(7,.k v7),(0,.d tabT t),(3,.pb 0 0),(5,.pb 1 0)]
def w0S (fr:Fr) (r:Vl recT):St:={ fr:=fr,nt:=92,up:=[],own:=[(0,.box 42 [.d .str r.1,.d (.sl partT) r.2]),(1,.box 50 [.d kT 0,.d kT 0])],nx:=2,log:=[],ln:=0 }
def h0W (ts:List Nat):Hint:=⟨[],ts++[28,29,7,0,3,5]⟩
section
variable (vc:Vc) (vf:Vf) (vw:Vw) (t:Vl tabT) (r:Vl recT) (v7:Value) (n k:Int)
theorem h0_eq:evF NW (wdEnv vc vf vw) bkNo (h0W [30]) wdH0 (w0S (w0Fr t v7 n k) r)=some (.n,w0S ((30,.d .bool (lt k n))::w0Fr t v7 n k) r):=by kernel_rfl
theorem i0_eq (b:Bool):evF NW (wdEnv vc vf vw) bkNo (h0W []) wdI0 (w0S ((30,.d .bool b)::w0Fr t v7 n k) r)=if b=true then some (.n,w0S (w0Fr t v7 n k) r) else some (.x 0,w0S (w0Fr t v7 n k) r):=by kernel_rfl
theorem a0_eq:evF NW (wdEnv vc vf vw) bkNo (h0W [8]) wdA0 (w0S (w0Fr t v7 n k) r)=some (.n,w0S ((8,.d kT k)::w0Fr t v7 n k) r):=by kernel_rfl
theorem s0_eq:evF NW (wdEnv vc vf vw) bkNo (h0W []) wdS0 (w0S (w0Fr t v7 n k) r)=some (.n,w0S (w0Fr t v7 n (add .i64 k 1)) r):=by kernel_rfl
end
theorem m0_ops:∃ id o1 o2 o3 o4 o5,wdM0 = .region id #[o1,o2,o3,o4,o5] false∧o1={ o1 with dst:=some 32,op:=.move (.tmp 7),guard:=none }∧o2={ o2 with dst:=some 33,op:=.move (.tmp 8),guard:=none } ∧
  o3={ o3 with dst:=some 34,op:=.makeMap 24 none,guard:=none }∧o4={ o4 with dst:=some 35,op:=.indexAddr 54 (.tmp 32) (.tmp 33),guard:=none }∧o5={ o5 with dst:=none,op:=.store 24 (.tmp 35) (.tmp 34),guard:=none }:=⟨_,_,_,_,_,_,rfl,rfl,rfl,rfl,rfl,rfl⟩
section
variable {B0:Nat->Prop} {F:Lx} {pl:List Ev.Place} {own:List (Nat×Ent)} {w:World} {l:List Value} {fr:Fr}
theorem wd5_wp {n:Nat} {v7:Value} {a:Option Addr} {c:Nat} (hv:v7 = .slice a n c) (hl:l.length=92) {L:Lx} (hfr:FrD pl L w fr l) (h7:l.getD 7 undef=v7) (hno:∀ j ∈ [27,28,29],Ev.get fr j=none) :
  CW Try.prog wd5 (fun e a w'=>∃ l',e = .normal∧a=mk l'∧l'.length=92∧w'=w∧FrD pl L w ((28,.d kT n)::(29,.d kT 0)::(7,.k v7)::fr) l') l w:=by
 obtain ⟨id,o1,o2,o3,e0,e1,e2,e3⟩:=wd5_ops
 rw [e0,e1,e2,e3]
 subst hv
 refine cw_region (ops:=[_,_,_]) ?_
 refine wl_val (v:=.slice a n c) rfl (run_move h7) ?_
 have i1:Sx.ev (st l (some 27) (.slice a n c)) (.tmp 27) = .slice a n c:=q16_ (by omega)
 refine wl_val (v:=.int .i64 n) rfl (Sx.run_len_slice (e:=24) (by kernel_rfl) i1) ?_
 refine wl_val (v:=.int .i64 0) rfl (run_move rfl) (wl_nil ⟨_,rfl,rfl,by simp [st,hl],rfl,?_⟩)
 refine qd_ ?_ (qd_ ?_ (qd_ ?_ ?_))
 ·show Den _ _ _ _ ((((l.set 27 _).set 28 _).set 29 _).getD 28 undef)
  rw [q2l_ (by decide),q16_ (by simp; omega)]
  exact ⟨_,rfl,rfl⟩
 ·show Den _ _ _ _ ((((l.set 27 _).set 28 _).set 29 _).getD 29 undef)
  rw [q16_ (by simp; omega)]
  exact ⟨_,rfl,rfl⟩
 ·show ((((l.set 27 _).set 28 _).set 29 _).getD 7 undef)=_
  rw [q2l_ (by decide),q2l_ (by decide),q2l_ (by decide)]
  exact h7
 ·show FrD _ _ _ fr (((l.set 27 _).set 28 _).set 29 _)
  exact frD_set (frD_set (frD_set hfr (hno 27 (by simp))) (hno 28 (by simp))) (hno 29 (by simp))
theorem put_cells {gs:List Nat} {n b:Nat} (h:gs.length < n):(gs.map mv++List.replicate (n - gs.length) nm).take gs.length++[mv b]++(gs.map mv++List.replicate (n - gs.length) nm).drop (gs.length + 1)=(gs++[b]).map mv++List.replicate (n - (gs++[b]).length) nm:=by
 have e1:(gs.map mv++List.replicate (n - gs.length) nm).take gs.length=gs.map mv:=by
  rw [List.take_append_of_le_length (by simp)]
  exact List.take_of_length_le (by simp)
 have e2:(gs.map mv++List.replicate (n - gs.length) nm).drop (gs.length + 1)=List.replicate (n - (gs++[b]).length) nm:=by
  rw [List.drop_append,List.drop_eq_nil_of_le (by simp),List.nil_append,List.drop_replicate]
  congr 1
  simp
  omega
 rw [e1,e2]
 simp
theorem m0_wp {g n:Nat} {gs:List Nat} {xs:List Mw} (hr:RowI B0 F w g n gs xs) (hlt:gs.length < n) (hst:Sto B0 [] (FM F g gs) pl own w) (hB:∀ k,w.heap.size≤k->B0 k) (hl:l.length=92) (hfr:FrD pl (lx pl own++FM F g gs) w fr l)
  (h7:l.getD 7 undef = .slice (some ⟨g,0,none⟩) n n) (h8:l.getD 8 undef = .int .i64 (gs.length:Nat)) (hno:∀ j ∈ [32,33,34,35],Ev.get fr j=none) :
  CW Try.prog wdM0 (fun e a w'=>∃ l' b,e = .normal∧a=mk l'∧l'.length=92∧RowI B0 F w' g n (gs++[b]) (xs++[[]])∧Sto B0 [] (FM F g (gs++[b])) pl own w'∧Blw B0 w w'∧FrD pl (lx pl own++FM F g (gs++[b])) w' fr l') l w:=by
 obtain ⟨id,o1,o2,o3,o4,o5,e0,e1,e2,e3,e4,e5⟩:=m0_ops
 rw [e0,e1,e2,e3,e4,e5]
 have hgl:=hr.lt
 refine cw_region (ops:=[_,_,_,_,_]) ?_
 refine wl_val (v:=.slice (some ⟨g,0,none⟩) n n) rfl (run_move h7) ?_
 refine wl_val (v:=.int .i64 (gs.length:Nat)) rfl (run_move (show Sx.ev (st l (some 32) _) (.tmp 8)=_ from (q2l_ (by decide)).trans h8)) ?_
 refine wl_val (v:=.map (some w.heap.size)) (w':=w.alloc (.map #[] 0)) rfl rfl ?_
 refine wl_val rfl (run_indexAddr' (e:=24) (sz:=1) (k:=.i64) (j:=(gs.length:Nat)) (a:=some ⟨g,0,none⟩) (b:=g) (o:=0) (n:=n) (c:=n) (by kernel_rfl) (by kernel_rfl) ?_ rfl ?_ (by omega) (by simpa using hlt)) ?_
 ·show (((l.set 32 _).set 33 _).set 34 _).getD 32 undef=_
  rw [q2l_ (by decide),q2l_ (by decide),q16_ (by omega)]
 ·show (((l.set 32 _).set 33 _).set 34 _).getD 33 undef=_
  rw [q2l_ (by decide),q16_ (by simp; omega)]
 have hf1:Fz [] w (w.alloc (.map #[] 0)):=Fz.alloc _ _ _
 have hb1:Bx (w.alloc (.map #[] 0)) g (gs.map mv++List.replicate (n - gs.length) nm) 24:=hr.bx.step hf1 nilN
 obtain ⟨W2,x1,x2,x3,x4⟩:=run_store_box (P:=Try.prog) (l:=(((l.set 32 (.slice (some ⟨g,0,none⟩) n n)).set 33 (.int .i64 (gs.length:Nat))).set 34 (.map (some w.heap.size))).set 35 (.pointer (some ⟨g,0 + ((gs.length:Nat):Int).toNat * 1,none⟩))) (w:=w.alloc (.map #[] 0)) (d:=none) (ty:=o5.type) (pos:=o5.pos) (af:=o5.after) (gd:=none) (t:=24) (x:=.tmp 35) (y:=.tmp 34) (g:=g) (j:=gs.length) (n:=1) (vs:=[mv w.heap.size]) (v:=mv w.heap.size) (by kernel_rfl)
  (by
    show ((((l.set 32 _).set 33 _).set 34 _).set 35 _).getD 35 undef=_
    rw [q16_ (by simp; omega)]
    simp)
  (by
    show ((((l.set 32 _).set 33 _).set 34 _).set 35 _).getD 34 undef=_
    rw [q2l_ (by decide),q16_ (by simp; omega)])
  rfl rfl (by simp [Value.oneCell']) hb1 (by simp; omega)
 refine wl_skip rfl x1 ?_
 rw [put_cells hlt] at x4
 have hsz:W2.heap.size=w.heap.size + 1:=by rw [x2]; simp
 have hf:Fz [some g] w W2:=(hf1.sub (fun k hk=>by cases hk)).trans x3
 have hgn:g < w.heap.size:=hr.bx.lt
 have hF:∀ k,some k ∈ FM F g (gs++[w.heap.size])->(some k ∈ FM F g gs∨w.heap.size≤k)∧k < w.heap.size + 1:=fun k hk=>by
  rcases FM_mem.1 hk with h | h
  ·exact ⟨.inl (FM_mem.2 (.inl h)),by have:=(hst.far k (FM_mem.2 (.inl h))).2; omega⟩
  ·rw [<- List.cons_append] at h
   rcases List.mem_append.1 h with h | h
   ·exact ⟨.inl (FM_mem.2 (.inr h)),by have:=hgl k h; omega⟩
   ·simp at h; subst h; exact ⟨.inr (Nat.le_refl _),by omega⟩
 have hst1:Sto B0 [] (FM F g (gs++[w.heap.size])) pl own (w.alloc (.map #[] 0)):=hst.grow hf1 (fun k hk=>by simpa using hF k hk)
 have hst2:Sto B0 [] (FM F g (gs++[w.heap.size])) pl own W2:=hst1.turn (x3.sub fun k hk=>by simp at hk; subst hk; exact FM_mem.2 (.inr (by simp)))
 have hkeep:∀ b ∈ gs,W2.heap[b]? = w.heap[b]?:=fun b hb=>by
  refine hf.block b (hgl b (List.mem_cons_of_mem _ hb)) fun hk=>?_
  simp at hk
  subst hk
  exact (List.nodup_cons.1 hr.nd).1 hb
 have hnew:W2.heap[w.heap.size]? = some (.map #[] 0):=by
  rw [x3.block w.heap.size (by simp) (fun hk=>by simp at hk; omega)]
  exact Sx.heap_last w _
 refine wl_nil ⟨_,w.heap.size,rfl,rfl,by simp [st,hl],⟨x4,by simp; omega,by simp [hr.len],fun k b x h1 h2=>?_,?_,fun k hk=>?_,fun k hk=>?_⟩,hst2,(blw_alloc hf1).trans (blw_fz x3 (fun k hk=>by simp at hk; subst hk; exact hr.own _ (by simp))),?_⟩
 ·rcases Nat.lt_or_ge k gs.length with hk | hk
  ·rw [List.getElem?_append_left hk] at h1
   rw [List.getElem?_append_left (by rw [<- hr.len]; exact hk)] at h2
   exact MapIs.keep (hr.maps k b x h1 h2) (hkeep b (List.mem_of_getElem? h1))
  ·have hk1:=(List.getElem?_eq_some_iff.1 h1).1
   simp at hk1
   obtain rfl:k=gs.length:=by omega
   rw [List.getElem?_append_right (Nat.le_refl _),Nat.sub_self] at h1
   rw [List.getElem?_append_right (by have:=hr.len; omega),<- hr.len,Nat.sub_self] at h2
   cases h1
   cases h2
   exact ⟨#[],0,hnew,rfl,MapKept.stamped_empty 0⟩
 ·rw [<- List.cons_append]
  refine List.nodup_append.2 ⟨hr.nd,by simp,fun a ha b hb=>?_⟩
  simp at hb
  subst hb
  exact fun e=>by subst e; exact Nat.lt_irrefl _ (hgl _ ha)
 ·rw [<- List.cons_append] at hk
  rcases List.mem_append.1 hk with h | h
  ·exact hr.own k h
  ·simp at h; subst h; exact hB _ (Nat.le_refl _)
 ·rw [<- List.cons_append] at hk
  rcases List.mem_append.1 hk with h | h
  ·exact hr.far k h
  ·simp at h; subst h; exact fun hm=>by have:=(hst.far _ (FM_mem.2 (.inl hm))).2; omega
 ·have hE:Ext pl (lx pl own++FM F g gs) w pl (lx pl own++FM F g (gs++[w.heap.size])) W2:=by
   have hs:Sub w (lx pl own++FM F g (gs++[w.heap.size])) (lx pl own++FM F g gs):=fun k hk=>by
    rcases List.mem_append.1 hk with hk | hk
    ·exact .inl (List.mem_append_left _ hk)
    ·rcases (hF k hk).1 with h1 | h1
     ·exact .inl (List.mem_append_right _ h1)
     ·exact .inr h1
   have hM:∀ k,some k ∈ [some g]->some k ∈ lx pl own++FM F g (gs++[w.heap.size]):=fun k hk=>by simp at hk; subst hk; exact List.mem_append_right _ (FM_mem.2 (.inr (by simp)))
   have hf2:Fz (lx pl own++FM F g (gs++[w.heap.size])) w W2:=hf.sub hM
   exact ⟨fun _ _ h=>h,by intro α R cs x h; exact R.mono (R.grow h hs) hf2,by intro α R b o x h; exact (h.grow hs).mono hf2⟩
  show FrD _ _ _ fr ((((l.set 32 _).set 33 _).set 34 _).set 35 _)
  exact frD_set (frD_set (frD_set (frD_set (hfr.ext hE) (hno 32 (by simp))) (hno 33 (by simp))) (hno 34 (by simp))) (hno 35 (by simp))
end
end Go.Proofs.Lx
end
section
set_option maxRecDepth 100000
namespace Go.Proofs.Lx
open Go Go.Proofs Go.RowKit Ev Sx Pl
theorem q12_ {P:Program} {c:Code} {Q Q':Exit->Act->World->Prop} {l:List Value} {w:World} (h:CW P c Q l w) (hq:∀ e a w,Q e a w->Q' e a w):CW P c Q' l w:=fun r=>Code.wpIn_mono hq (h r)
section
variable {B0:Nat->Prop} {p0:List Ev.Place} {F F1:Lx} {pl:List Ev.Place} {own:List (Nat×Ent)} {w w':World}
theorem bo_of {sz:Nat} (hbase:∀ k,sz≤k->B0 k) (hs:sz≤w.heap.size) (hst:Sto B0 p0 F1 pl own w):∀ k,Bo pl own w k->B0 k:=fun k hk=>by
 rcases hk with hk | hk
 ·exact hst.lo k hk
 ·exact hbase k (Nat.le_trans hs hk)
theorem keep_far (hst:Sto B0 p0 F1 pl own w) (hb:Blw (Bo pl own w) w w'):∀ k,some k ∈ F1->w'.heap[k]? = w.heap[k]?:=fun k hk=>hb.block k (hst.far k hk).2 (fun hx=>by
 rcases hx with hx | hx
 ·exact (hst.far k hk).1 hx
 ·have:=(hst.far k hk).2; omega)
theorem RowI.over {g n:Nat} {gs:List Nat} {xs:List Mw} (hr:RowI B0 F w g n gs xs) (hst:Sto B0 p0 (FM F g gs) pl own w) (hb:Blw (Bo pl own w) w w'):RowI B0 F w' g n gs xs :=
 hr.keep fun k hk=>keep_far hst hb k (FM_mem.2 (.inr hk))
end
def cntF (n:Nat) (self:Nat->Option Unit) (k:Nat):Option Unit:=if k < n then self (k + 1) else some ()
theorem cnt_all (n:Nat):∀ (m k:Nat),k≤n->n - k < m->loopF (cntF n) m k=some ()
 | 0,_,_,h=>by omega
 | m + 1,k,hk,h=>by
  show cntF n (loopF (cntF n) m) k=some ()
  unfold cntF
  by_cases hlt:k < n
  ·rw [if_pos hlt]; exact cnt_all n m (k + 1) (by omega) (by omega)
  ·rw [if_neg hlt]
section
variable {vc:Vc} {vf:Vf} {vw:Vw} {B0:Nat->Prop} {F:Lx} {sz:Nat} {wa:World}
theorem loop0_wp (henv:EnvOk Try.prog (fun _=>True) (wdEnv vc vf vw)) (hbase:∀ k,sz≤k->B0 k) {t:Vl tabT} {r:Vl recT} {g n:Nat} (hn:n≤1000) {pl:List Ev.Place} {w:World} {l:List Value} (hsz:sz≤w.heap.size)
  (hr:RowI B0 F w g n [] []) (hst:Sto B0 [] (FM F g []) pl (w0S [] r).own w) (hpl:pl.length=2) (hl:l.length=92) (hfr:FrD pl (lx pl (w0S [] r).own++FM F g []) w (w0Fr t (.slice (some ⟨g,0,none⟩) n n) n 0) l) :
  CW Try.prog (.loop wdL0) (fun e a w'=>∃ l' pl' gs,e = .exit 0∧a=mk l'∧l'.length=92∧pl'.length=2∧gs.length=n∧RowI B0 F w' g n gs (List.replicate n [])∧Sto B0 [] (FM F g gs) pl' (w0S [] r).own w'∧Blw B0 w w' ∧
   FrD pl' (lx pl' (w0S [] r).own++FM F g gs) w' (w0Fr t (.slice (some ⟨g,0,none⟩) n n) n n) l') l w:=by
 refine cw_loop (σ:=Nat) (R:=Unit) (cntF n) () (fun k l' w'=>k≤n∧∃ gs pl',gs.length=k∧RowI B0 F w' g n gs (List.replicate k [])∧Sto B0 [] (FM F g gs) pl' (w0S [] r).own w'∧pl'.length=2∧l'.length=92∧Blw B0 w w' ∧
   FrD pl' (lx pl' (w0S [] r).own++FM F g gs) w' (w0Fr t (.slice (some ⟨g,0,none⟩) n n) n k) l') ?_ (n:=n + 1) (s:=0) ⟨Nat.zero_le _,[],pl,rfl,hr,hst,hpl,hl,Blw.refl _ _,hfr⟩ (cnt_all n (n + 1) 0 (Nat.zero_le _) (by omega))
 rintro self k l1 w1 ⟨hk,gs,pl1,hgs,r1,s1,hp1,hl1,b1,f1⟩ hself
 have z1:sz≤w1.heap.size:=Nat.le_trans hsz b1.size
 rw [wdL0_eq]
 have p:=qx_ (S:=w0S (w0Fr t (.slice (some ⟨g,0,none⟩) n n) n k) r) (l:=l1) henv (bo_of hbase z1 s1) s1 rfl hp1.symm rfl hl1 f1 (h0_eq vc vf vw t r (.slice (some ⟨g,0,none⟩) n n) n k)
 refine cw_seq (q12_ p ?_)
 rintro e a w2 ⟨pl2,l2,rfl,rfl,hl2,hp2,s2,f2,b2⟩
 have r2:=r1.over s1 b2
 have b2':=b1.trans (qf_ b2 (bo_of hbase z1 s1))
 have z2:sz≤w2.heap.size:=Nat.le_trans hsz b2'.size
 refine ⟨l2,rfl,?_⟩
 have p:=qx_ (S:=w0S ((30,.d .bool (lt k n))::w0Fr t (.slice (some ⟨g,0,none⟩) n n) n k) r) (l:=l2) henv (bo_of hbase z2 s2) s2 rfl hp2.symm rfl hl2 f2 (S1:=w0S (w0Fr t (.slice (some ⟨g,0,none⟩) n n) n k) r) (e0:=if (lt k n)=true then .n else .x 0) (by
  rw [i0_eq]
  split <;> rfl)
 refine cw_seq (q12_ p ?_)
 rintro e a w3 ⟨pl3,l3,rfl,rfl,hl3,hp3,s3,f3,b3⟩
 have r3:=r2.over s2 b3
 have b3':=b2'.trans (qf_ b3 (bo_of hbase z2 s2))
 have z3:sz≤w3.heap.size:=Nat.le_trans hsz b3'.size
 by_cases hlt:k < n
 ·rw [if_pos (q0_.2 (by omega))]
  refine ⟨l3,rfl,?_⟩
  have hself:self (k + 1)=some ():=by unfold cntF at hself; rwa [if_pos hlt] at hself
  refine cw_seq (cw_block (cw_seq ?_))
  have p:=qx_ (S:=w0S (w0Fr t (.slice (some ⟨g,0,none⟩) n n) n k) r) (l:=l3) henv (bo_of hbase z3 s3) s3 rfl hp3.symm rfl hl3 f3 (a0_eq vc vf vw t r (.slice (some ⟨g,0,none⟩) n n) n k)
  refine q12_ p ?_
  rintro e a w4 ⟨pl4,l4,rfl,rfl,hl4,hp4,s4,f4,b4⟩
  have r4:=r3.over s3 b4
  have b4':=b3'.trans (qf_ b4 (bo_of hbase z3 s3))
  have z4:sz≤w4.heap.size:=Nat.le_trans hsz b4'.size
  refine ⟨l4,rfl,?_⟩
  have d8:l4.getD 8 undef = .int .i64 (gs.length:Nat):=by
   obtain ⟨cs,h1,h2⟩:=f4 8 _ rfl
   rw [h2,hgs]
   cases h1
   rfl
  have d7:l4.getD 7 undef = .slice (some ⟨g,0,none⟩) n n:=f4 7 _ rfl
  refine q12_ (m0_wp (fr:=w0Fr t (.slice (some ⟨g,0,none⟩) n n) n k) r4 (by omega) s4 (fun k hk=>hbase k (Nat.le_trans z4 hk)) hl4 (fun t' s' hg=>f4 t' s' (by
   show Ev.get ((8,_)::_) t'=_
   unfold Ev.get
   split
   ·rename_i e; subst e; cases hg
   ·exact hg)) d7 d8 (fun j hj=>by simp at hj; rcases hj with rfl | rfl | rfl | rfl <;> rfl)) ?_
  rintro e a w5 ⟨l5,b,rfl,rfl,hl5,r5,s5,b5,f5⟩
  have b5':=b4'.trans b5
  have z5:sz≤w5.heap.size:=Nat.le_trans hsz b5'.size
  refine ⟨l5,rfl,?_⟩
  have p:=qx_ (S:=w0S (w0Fr t (.slice (some ⟨g,0,none⟩) n n) n k) r) (l:=l5) henv (bo_of hbase z5 s5) s5 rfl hp4.symm rfl hl5 f5 (s0_eq vc vf vw t r (.slice (some ⟨g,0,none⟩) n n) n k)
  refine q12_ p ?_
  rintro e a w6 ⟨pl6,l6,rfl,rfl,hl6,hp6,s6,f6,b6⟩
  have r6:=r5.over s5 b6
  refine ⟨l6,rfl,k + 1,⟨by omega,gs++[b],pl6,by simp [hgs],?_,s6,hp6,hl6,b5'.trans (qf_ b6 (bo_of hbase z5 s5)),?_⟩,hself⟩
  ·rw [List.replicate_succ']
   exact r6
  ·have e1:add .i64 (k:Int) 1=((k + 1:Nat):Int):=by rw [add64 (by omega) (by omega)]; omega
   rw [e1] at f6
   exact f6
 ·obtain rfl:k=n:=by omega
  rw [if_neg (by rw [q0_]; omega)]
  exact ⟨l3,pl3,gs,rfl,rfl,hl3,hp3,hgs,r3,s3,b3',f3⟩
end
end Go.Proofs.Lx
end
section
set_option maxRecDepth 100000
namespace Go.Proofs.Lx
open Go Go.Proofs Go.RowKit Ev Sx Pl
section
variable (vc:Vc) (vf:Vf) (vw:Vw) (t:Vl tabT) (r:Vl recT) (ps:List (Vl partT)) (v7:Value) (n k:Int)
theorem c6_eq:evF NW (wdEnv vc vf vw) bkNo hW2 wd6 (w0S (w0Fr t v7 n k) r)=some (.n,wS3 t r.2 v7 (Int.ofNat (List.length r.2)) 0):=by kernel_rfl
theorem hd_eq:evF NW (wdEnv vc vf vw) bkNo hW3 wdH (wS3 t ps v7 n k)=some (.n,{ wS3 t ps v7 n k with fr:=(41,.d .bool (lt k n))::(wS3 t ps v7 n k).fr }):=by kernel_rfl
theorem if_eq (b:Bool):evF NW (wdEnv vc vf vw) bkNo hW2 wdI { wS3 t ps v7 n k with fr:=(41,.d .bool b)::(wS3 t ps v7 n k).fr }=if b=true then some (.n,wS3 t ps v7 n k) else some (.x 2,wS3 t ps v7 n k):=by kernel_rfl
theorem b1_eq:evF NW (wdEnv vc vf vw) bkNo hW4 wdB1 (wS3 t ps v7 n k)=(at? ps k).bind fun y=>some (.n,wS4 t ps v7 n k y):=by kernel_rfl
theorem b2_eq (y:Vl partT):evF NW (wdEnv vc vf vw) bkNo hW5 wdB2 (wS4 t ps v7 n k y)=(vf (t,y.1,())).bind fun z=>some (.n,wS5 t ps v7 n k y z.1 z.2.1):=by kernel_rfl
theorem b3_eq (y:Vl partT) (i:Int) (ok:Bool):evF NW (wdEnv vc vf vw) bkNo hW5 wdB3 (wS5 t ps v7 n k y i ok)=if (!ok)=true then some (.x 3,wS5 t ps v7 n k y i ok) else some (.n,wS5 t ps v7 n k y i ok):=by kernel_rfl
theorem s_eq:evF NW (wdEnv vc vf vw) bkNo hW2 wdS (wS3 t ps v7 n k)=some (.n,wS3 t ps v7 n (add .i64 k 1)):=by kernel_rfl
theorem s5_eq (y:Vl partT) (i:Int) (ok:Bool):evF NW (wdEnv vc vf vw) bkNo hW2 wdS (wS5 t ps v7 n k y i ok)=some (.n,wS3 t ps v7 n (add .i64 k 1)):=by kernel_rfl
end
def wPart (vf:Vf) (vw:Vw) (t:Vl tabT) (y:Vl partT) (xs:List Mw):Option (List Mw) :=
 (vf (t,y.1,())).bind fun z=>if z.2.1=true then (at? t z.1).bind fun d=>(at? xs z.1).bind fun m=>(wSets vw d.2 y.2.2 m).bind fun m'=>some (xs.set z.1.toNat m') else some xs
def wAll (vf:Vf) (vw:Vw) (t:Vl tabT):List (Vl partT)->List Mw->Option (List Mw)
 | [],xs=>some xs
 | y::q,xs=>(wPart vf vw t y xs).bind fun xs'=>wAll vf vw t q xs'
abbrev rowP (g n:Nat):Ev.Place:=⟨some ⟨g,0,none⟩,n,n⟩
abbrev mapP (b:Nat):Ev.Place:=⟨some ⟨b,0,none⟩,0,0⟩
def FX (F:Lx) (gs:List Nat) (b:Nat):Lx:=F++(gs.filter (·≠ b)).map some
theorem FX_mem {F:Lx} {gs:List Nat} {b k:Nat}:some k ∈ FX F gs b ↔ some k ∈ F∨(k ∈ gs∧k ≠ b):=by
 unfold FX
 rw [List.mem_append]
 constructor
 ·rintro (h | h)
  ·exact .inl h
  ·obtain ⟨a,h1,h2⟩:=List.mem_map.1 h
   cases h2
   have:=List.mem_filter.1 h1
   exact .inr ⟨this.1,by simpa using this.2⟩
 ·rintro (h | h)
  ·exact .inl h
  ·exact .inr (List.mem_map_of_mem (f:=some) (List.mem_filter.2 ⟨h.1,by simpa using h.2⟩))
def mVals (m:Mw):List (Int×Value):=m.map fun a=>(a.1,Value.int .u16 a.2)
theorem dmd_of (L:Lx) (w:World):∀ m:Mw,DmD (kt:=kT) (vt:=uT) L w (mVals m) m
 | []=>rfl
 | a::q=>⟨a,q,rfl,rfl,⟨[.int .u16 a.2],rfl,rfl⟩,dmd_of L w q⟩
theorem dmd_to {L:Lx} {w:World}:∀ {vs:List (Int×Value)} {m:Mw},DmD (kt:=kT) (vt:=uT) L w vs m->vs=mVals m
 | [],_,h=>by cases h; rfl
 | (a,v)::q,_,⟨b,r,h1,h2,⟨cs,h3,h4⟩,h5⟩=>by
  subst h1
  have h2:a=b.1:=h2
  cases h3
  have h4:v = .int .u16 b.2:=h4
  subst h2 h4
  rw [dmd_to h5]
  rfl
theorem mis_of {w:World} {b:Nat} {m:Mw} (h:MapIs (keyV kT) (fun v:Int=>Value.int .u16 v) w b m):MapIs (keyV kT) (fun v:Value=>v) w b (mVals m):=by
 obtain ⟨es,cl,h1,h2,h3⟩:=h
 refine ⟨es,cl,h1,?_,h3⟩
 rw [h2]
 unfold mVals
 rw [List.map_map]
 rfl
theorem mis_to {w:World} {b:Nat} {m:Mw} (h:MapIs (keyV kT) (fun v:Value=>v) w b (mVals m)):MapIs (keyV kT) (fun v:Int=>Value.int .u16 v) w b m:=by
 obtain ⟨es,cl,h1,h2,h3⟩:=h
 refine ⟨es,cl,h1,?_,h3⟩
 rw [h2]
 unfold mVals
 rw [List.map_map]
 rfl
section
variable {B0:Nat->Prop} {F:Lx} {pl:List Ev.Place} {w w':World} {l:List Value} {t:Vl tabT} {ps:List (Vl partT)} {n k i:Int} {y:Vl partT} {g nd b:Nat} {gs:List Nat} {xs:List Mw} {m:Mw} {v7:Value} {ok:Bool}
theorem gs_ne (hr:RowI B0 F w g nd gs xs) (hb:b ∈ gs):g ≠ b:=fun e=>by
 subst e
 exact (List.nodup_cons.1 hr.nd).1 hb
theorem box_shift {L L':Lx} {p q:Ev.Place} {i:Nat} {T:TypeId} {cs:List SV} (hs:∀ k:Nat,some k ∈ L'->some k ∈ L) (hd:∀ us,DenL pl L w cs us->DenL (p::q::pl) L' w cs us) (h:EntD pl L w i (.box T cs)):EntD (p::q::pl) L' w (i + 2) (.box T cs):=by
 obtain ⟨a,n,c,us,h1,h2,h3,h4⟩:=h
 exact ⟨a,n,c,us,h1,h2,hd us h3,h4⟩
theorem denL_d {L L':Lx} {pl pl':List Ev.Place} (hs:∀ k:Nat,some k ∈ L'->some k ∈ L):∀ {cs:List SV} {us:List Value},(∀ s ∈ cs,∃ (ty:Ty) (x:Vl ty),s = .d ty x)->DenL pl L w cs us->DenL pl' L' w cs us
 | [],_,_,h=>h
 | _::q,_,hc,⟨v,r,h1,h2,h3⟩=>by
  obtain ⟨ty,x,rfl⟩:=hc _ (List.mem_cons_self ..)
  obtain ⟨cs,e1,e2⟩:=h2
  exact ⟨v,r,h1,⟨cs,Rp.grow _ e1 (sub_of hs),e2⟩,denL_d hs (fun s hs'=>hc s (List.mem_cons_of_mem _ hs')) h3⟩
theorem conv_in (hr:RowI B0 F w g nd gs xs) (hgs:gs.length=nd) (hst:Sto B0 [] (FM F g gs) pl (wOwn1 y) w) (hpl:pl.length=2) (hi:0≤i) (hb:gs[i.toNat]? = some b) (hm:xs[i.toNat]? = some m)
  (hfr:FrD pl (lx pl (wOwn1 y)++FM F g gs) w (wS5 t ps (.slice (some ⟨g,0,none⟩) nd nd) n k y i ok).fr l) :
  Sto B0 [rowP g nd,mapP b] (FX F gs b) (rowP g nd::mapP b::pl) (wS6 (gs.map mv) t ps n k y i m).own w ∧
  FrD (rowP g nd::mapP b::pl) (lx (rowP g nd::mapP b::pl) (wS6 (gs.map mv) t ps n k y i m).own++FX F gs b) w (wS6 (gs.map mv) t ps n k y i m).fr l:=by
 have hbm:b ∈ gs:=List.mem_of_getElem? hb
 have hgb:=gs_ne hr hbm
 have hlx:lx (rowP g nd::mapP b::pl) (wS6 (gs.map mv) t ps n k y i m).own=some g::some b::lx pl (wOwn1 y):=rfl
 have hsub:∀ z:Nat,some z ∈ lx (rowP g nd::mapP b::pl) (wS6 (gs.map mv) t ps n k y i m).own++FX F gs b->some z ∈ lx pl (wOwn1 y)++FM F g gs:=fun k hk=>by
  rw [hlx] at hk
  rcases List.mem_append.1 hk with hk | hk
  ·rcases List.mem_cons.1 hk with hk | hk
   ·cases hk; exact List.mem_append_right _ (FM_mem.2 (.inr (by simp)))
   ·rcases List.mem_cons.1 hk with hk | hk
    ·cases hk; exact List.mem_append_right _ (FM_mem.2 (.inr (List.mem_cons_of_mem _ hbm)))
    ·exact List.mem_append_left _ hk
  ·rcases FX_mem.1 hk with h | h
   ·exact List.mem_append_right _ (FM_mem.2 (.inl h))
   ·exact List.mem_append_right _ (FM_mem.2 (.inr (List.mem_cons_of_mem _ h.1)))
 have hnot:∀ k ∈ g::gs,some k ∉ lx pl (wOwn1 y):=fun k hk=>(hst.far k (FM_mem.2 (.inr hk))).1
 have hbxs:gs.map mv++List.replicate (nd - gs.length) nm=gs.map mv:=by rw [hgs,Nat.sub_self]; simp
 have hbx:=hr.bx
 rw [hbxs] at hbx
 have hilt:i.toNat < nd:=by rw [<- hgs]; exact (List.getElem?_eq_some_iff.1 hb).1
 refine ⟨⟨?_,fun k hk=>?_,fun k hk=>?_,fun k hk=>⟨fun hx=>?_,?_⟩,fun j p hp=>?_,fun e he=>?_⟩,?_⟩
 ·rw [hlx]
  refine List.pairwise_cons.2 ⟨fun a ha k e1 e2=>?_,List.pairwise_cons.2 ⟨fun a ha k e1 e2=>?_,hst.pair⟩⟩
  ·cases e1
   subst e2
   rcases List.mem_cons.1 ha with h | h
   ·cases h; exact hgb rfl
   ·exact hnot _ (by simp) h
  ·cases e1
   subst e2
   exact hnot _ (List.mem_cons_of_mem _ hbm) ha
 ·rw [hlx] at hk
  rcases List.mem_cons.1 hk with h | h
  ·cases h; exact hr.own _ (by simp)
  ·rcases List.mem_cons.1 h with h | h
   ·cases h; exact hr.own _ (List.mem_cons_of_mem _ hbm)
   ·exact hst.lo k h
 ·rw [hlx] at hk
  rcases List.mem_cons.1 hk with h | h
  ·cases h; exact hr.lt _ (by simp)
  ·rcases List.mem_cons.1 h with h | h
   ·cases h; exact hr.lt _ (List.mem_cons_of_mem _ hbm)
   ·exact hst.hi k h
 ·rw [hlx] at hx
  rcases FX_mem.1 hk with h | h
  ·rcases List.mem_cons.1 hx with hx | hx
   ·cases hx; exact hr.far _ (by simp) h
   ·rcases List.mem_cons.1 hx with hx | hx
    ·cases hx; exact hr.far _ (List.mem_cons_of_mem _ hbm) h
    ·exact (hst.far k (FM_mem.2 (.inl h))).1 hx
  ·rcases List.mem_cons.1 hx with hx | hx
   ·cases hx; exact (List.nodup_cons.1 hr.nd).1 h.1
   ·rcases List.mem_cons.1 hx with hx | hx
    ·cases hx; exact h.2 rfl
    ·exact hnot k (List.mem_cons_of_mem _ h.1) hx
 ·rcases FX_mem.1 hk with h | h
  ·exact (hst.far k (FM_mem.2 (.inl h))).2
  ·exact hr.lt k (List.mem_cons_of_mem _ h.1)
 ·match j,hp with
  | 0,hp=>exact hp
  | 1,hp=>exact hp
 ·have e0:=hst.ent (0,_) (show (0,Ent.box 80 [.d .str y.1,.d kT y.2.1,.d (.sl setT) y.2.2]) ∈ wOwn1 y by simp [wOwn1])
  have e1:=hst.ent (1,_) (show (1,Ent.box 50 [.d kT 0,.d kT 0]) ∈ wOwn1 y by simp [wOwn1])
  simp only [wS6,List.mem_cons,List.not_mem_nil,or_false] at he
  rcases he with rfl | rfl | rfl | rfl
  ·refine ⟨g,nd,nd,mv b,rfl,hbx,by simp [hgs],⟨hi,hilt⟩,?_,⟨_,[],rfl,⟨b,0,0,rfl,rfl⟩,rfl⟩⟩
   rw [List.getElem?_map,hb]
   rfl
  ·exact ⟨b,0,0,mVals m,rfl,mis_of (hr.maps _ _ _ hb hm),dmd_of _ _ m⟩
  ·exact box_shift hsub (fun us=>denL_d hsub (by simp)) e0
  ·exact box_shift hsub (fun us=>denL_d hsub (by simp)) e1
 ·have dd:∀ {j:Nat} {ty:Ty} {x:Vl ty},Ev.get (wS5 t ps (.slice (some ⟨g,0,none⟩) nd nd) n k y i ok).fr j=some (.d ty x)->Den (rowP g nd::mapP b::pl) (lx (rowP g nd::mapP b::pl) (wS6 (gs.map mv) t ps n k y i m).own++FX F gs b) w (.d ty x) (l.getD j undef):=fun hg=>by
   obtain ⟨cs,h1,h2⟩:=hfr _ _ hg
   exact ⟨cs,Rp.grow _ h1 (sub_of hsub),h2⟩
  have dp:∀ {j o:Nat},Ev.get (wS5 t ps (.slice (some ⟨g,0,none⟩) nd nd) n k y i ok).fr j=some (.pb o 0)->Den (rowP g nd::mapP b::pl) (lx (rowP g nd::mapP b::pl) (wS6 (gs.map mv) t ps n k y i m).own++FX F gs b) w (.pb (o + 2) 0) (l.getD j undef):=fun hg=>by
   obtain ⟨a,n',c',h1,h2⟩:=hfr _ _ hg
   exact ⟨a,n',c',h1,h2⟩
  refine qd_ (dd rfl) (qd_ (dp (o:=0) rfl) (qd_ ⟨rowP g nd,rfl,hfr 7 _ rfl⟩ (qd_ (dd rfl) (qd_ (dp (o:=1) rfl) (qd_ (dd rfl) (qd_ (dd rfl) (qd_ (dd rfl) frD_nil)))))))
end
end Go.Proofs.Lx
end
section
set_option maxRecDepth 100000
namespace Go.Proofs.Lx
open Go Go.Proofs Go.RowKit Ev Sx Pl
section
variable {B0:Nat->Prop} {F:Lx} {w w':World} {l l':List Value} {t:Vl tabT} {ps:List (Vl partT)} {n kk i:Int} {y:Vl partT} {g nd b:Nat} {gs:List Nat} {xs:List Mw} {m m':Mw}
theorem conv_out {pl2:List Ev.Place} (hr:RowI B0 F w g nd gs xs) (hgs:gs.length=nd) (hb:gs[i.toNat]? = some b) (hm:xs[i.toNat]? = some m)
  (hst:Sto B0 [rowP g nd,mapP b] (FX F gs b) pl2 (lOwn (gs.map mv) i m') w') (hpl:pl2.length=3) (hkeep:∀ k:Nat,some k ∈ FX F gs b->w'.heap[k]? = w.heap[k]?)
  (hfr:FrD pl2 (lx pl2 (lOwn (gs.map mv) i m')++FX F gs b) w' (wS7 (gs.map mv) t ps n kk i m').fr l') :
  RowI B0 F w' g nd gs (xs.set i.toNat m')∧∃ pl3,pl3.length=1∧Sto B0 [] (FM F g gs) pl3 wOwn w'∧FrD pl3 (lx pl3 wOwn++FM F g gs) w' (wS3 t ps (.slice (some ⟨g,0,none⟩) nd nd) n kk).fr l':=by
 have hbm:b ∈ gs:=List.mem_of_getElem? hb
 have hgb:=gs_ne hr hbm
 have hbxs:gs.map mv++List.replicate (nd - gs.length) nm=gs.map mv:=by rw [hgs,Nat.sub_self]; simp
 match pl2,hpl,hst,hfr with
 | [p,q,c],_,hst,hfr =>
 obtain rfl:rowP g nd=p:=Option.some.inj (hst.pre 0 _ rfl).symm
 obtain rfl:mapP b=q:=Option.some.inj (hst.pre 1 _ rfl).symm
 obtain ⟨g',n',c',u,e1,e2,e3,e4,e5,_⟩:=hst.ent (0,.rowq 24 (gs.map mv) i [.mp 1]) (by simp [lOwn])
 cases e1
 obtain ⟨b',n2,c2,vs,d1,d2,d3⟩:=hst.ent (1,.dm kT uT m') (by simp [lOwn])
 cases d1
 have dB:=hst.ent (2,.box 50 [.d kT 0,.d kT 0]) (by simp [lOwn])
 have hlx:lx [rowP g nd,mapP b,c] (lOwn (gs.map mv) i m')=[some g,some b,blk c.a]:=rfl
 have hlx3:lx [c] wOwn=[blk c.a]:=rfl
 have hpair:=hst.pair
 rw [hlx] at hpair
 have hp1:=List.pairwise_cons.1 hpair
 have hp2:=List.pairwise_cons.1 hp1.2
 have hR:RowI B0 F w' g nd gs (xs.set i.toNat m'):=by
  refine ⟨by rw [hbxs]; exact e2,hr.le,by rw [List.length_set]; exact hr.len,fun k b2 x h1 h2=>?_,hr.nd,hr.own,hr.far⟩
  by_cases hk:i.toNat=k
  ·subst hk
   rw [hb] at h1
   cases h1
   rw [List.getElem?_set_self (by have:=(List.getElem?_eq_some_iff.1 hm).1; exact this)] at h2
   cases h2
   rw [dmd_to d3] at d2
   exact mis_to d2
  ·rw [List.getElem?_set_ne hk] at h2
   have hne:b2 ≠ b:=fun e=>by
    subst e
    have h3:=(List.getElem?_eq_some_iff.1 h1)
    have h4:=(List.getElem?_eq_some_iff.1 hb)
    exact hk ((List.getElem_inj (List.nodup_cons.1 hr.nd).2).1 (h4.2.trans h3.2.symm))
   exact MapIs.keep (hr.maps k b2 x h1 h2) (hkeep b2 (FX_mem.2 (.inr ⟨List.mem_of_getElem? h1,hne⟩)))
 have hsub:∀ z:Nat,some z ∈ lx [c] wOwn++FM F g gs->some z ∈ lx [rowP g nd,mapP b,c] (lOwn (gs.map mv) i m')++FX F gs b:=fun k hk=>by
  rw [hlx]
  rw [hlx3] at hk
  rcases List.mem_append.1 hk with hk | hk
  ·exact List.mem_append_left _ (List.mem_cons_of_mem _ (List.mem_cons_of_mem _ hk))
  ·rcases FM_mem.1 hk with h | h
   ·exact List.mem_append_right _ (FX_mem.2 (.inl h))
   ·rcases List.mem_cons.1 h with h | h
    ·subst h; exact List.mem_append_left _ (by simp)
    ·by_cases hkb:k=b
     ·subst hkb; exact List.mem_append_left _ (by simp)
     ·exact List.mem_append_right _ (FX_mem.2 (.inr ⟨h,hkb⟩))
 refine ⟨hR,[c],rfl,⟨?_,fun k hk=>?_,fun k hk=>?_,fun k hk=>⟨fun hx=>?_,?_⟩,(fun j p hp=>by simp at hp),fun e he=>?_⟩,?_⟩
 ·rw [hlx3]; simp
 ·rw [hlx3] at hk
  exact hst.lo k (by rw [hlx]; exact List.mem_cons_of_mem _ (List.mem_cons_of_mem _ hk))
 ·rw [hlx3] at hk
  exact hst.hi k (by rw [hlx]; exact List.mem_cons_of_mem _ (List.mem_cons_of_mem _ hk))
 ·rw [hlx3] at hx
  have hx':blk c.a=some k:=(List.mem_singleton.1 hx).symm
  rcases FM_mem.1 hk with h | h
  ·exact (hst.far k (FX_mem.2 (.inl h))).1 (by rw [hlx,hx']; simp)
  ·rcases List.mem_cons.1 h with h | h
   ·subst h; exact hp1.1 (blk c.a) (by simp) _ rfl hx'
   ·by_cases hkb:k=b
    ·subst hkb; exact hp2.1 (blk c.a) (by simp) _ rfl hx'
    ·exact (hst.far k (FX_mem.2 (.inr ⟨h,hkb⟩))).1 (by rw [hlx,hx']; simp)
 ·rcases FM_mem.1 hk with h | h
  ·exact (hst.far k (FX_mem.2 (.inl h))).2
  ·exact hR.lt k h
 ·simp [wOwn] at he
  subst he
  obtain ⟨a,n3,c3,us,h1,h2,h3,h4⟩:=dB
  exact ⟨a,n3,c3,us,h1,h2,denL_d hsub (by simp) h3,h4⟩
 ·have dd:∀ {j:Nat} {ty:Ty} {x:Vl ty},Ev.get (wS7 (gs.map mv) t ps n kk i m').fr j=some (.d ty x)->Den [c] (lx [c] wOwn++FM F g gs) w' (.d ty x) (l'.getD j undef):=fun hg=>by
   obtain ⟨cs,h1,h2⟩:=hfr _ _ hg
   exact ⟨cs,Rp.grow _ h1 (sub_of hsub),h2⟩
  have d7:l'.getD 7 undef = .slice (some ⟨g,0,none⟩) nd nd:=by
   obtain ⟨p,h1,h2⟩:=hfr 7 _ rfl
   cases h1
   exact h2
  have d5:Den [c] (lx [c] wOwn++FM F g gs) w' (.pb 0 0) (l'.getD 5 undef):=by
   obtain ⟨a,n',c',h1,h2⟩:=hfr 5 _ rfl
   exact ⟨a,n',c',h1,h2⟩
  exact qd_ d7 (qd_ (dd rfl) (qd_ d5 (qd_ (dd rfl) (qd_ (dd rfl) (qd_ (dd rfl) frD_nil)))))
end
section
variable {vc:Vc} {vf:Vf} {vw:Vw} {B0:Nat->Prop} {F:Lx} {sz:Nat}
def okT (t:Vl tabT):Bool:=(show List (Vl devT) from t).all fun d=>decide ((show List (Vl ptT) from d.2).length≤1000)
def okP (ps:List (Vl partT)):Bool:=decide (ps.length≤1000) && ps.all fun y=>decide ((show List (Vl setT) from y.2.2).length≤1000)
theorem at_mem {α:Type} {xs:List α} {j:Int} {x:α} (h:at? xs j=some x):x ∈ xs:=List.mem_of_getElem? (at_some h).2.1
def outF (vf:Vf) (vw:Vw) (t:Vl tabT) (ps:List (Vl partT)) (self:Nat×List Mw->Option (List Mw)) (s:Nat×List Mw):Option (List Mw) :=
 match ps[s.1]? with
 | some y=>(wPart vf vw t y s.2).bind fun xs=>self (s.1 + 1,xs)
 | none=>some s.2
theorem out_all (vf:Vf) (vw:Vw) (t:Vl tabT) (ps:List (Vl partT)):∀ (m k:Nat) (xs:List Mw),k≤ps.length->ps.length - k < m->loopF (outF vf vw t ps) m (k,xs)=wAll vf vw t (ps.drop k) xs
 | 0,_,_,_,h=>by omega
 | m + 1,k,xs,hk,h=>by
  show outF vf vw t ps (loopF (outF vf vw t ps) m) (k,xs)=_
  unfold outF
  by_cases hlt:k < ps.length
  ·rw [List.getElem?_eq_getElem hlt,List.drop_eq_getElem_cons hlt,wAll]
   simp only
   congr 1
   funext xs'
   exact out_all vf vw t ps m (k + 1) xs' (by omega) (by omega)
  ·obtain rfl:k=ps.length:=by omega
   rw [List.getElem?_eq_none (Nat.le_refl _),List.drop_length]
   rfl
theorem loop2_wp (henv:EnvOk Try.prog (fun _=>True) (wdEnv vc vf vw)) (hbase:∀ k,sz≤k->B0 k) {t:Vl tabT} {ps:List (Vl partT)} (hot:okT t=true) (hop:okP ps=true) {g nd:Nat} {gs:List Nat} {xs0 xsE:List Mw} (hgs:gs.length=nd) {pl:List Ev.Place} {w:World} {l:List Value} (hsz:sz≤w.heap.size)
  (hr:RowI B0 F w g nd gs xs0) (hst:Sto B0 [] (FM F g gs) pl wOwn w) (hpl:pl.length=1) (hl:l.length=92) (hfr:FrD pl (lx pl wOwn++FM F g gs) w (wS3 t ps (.slice (some ⟨g,0,none⟩) nd nd) (Int.ofNat ps.length) 0).fr l) (hw:wAll vf vw t ps xs0=some xsE) :
  CW Try.prog (.loop wdL2) (fun e a w'=>∃ l' pl',e = .exit 2∧a=mk l'∧l'.length=92∧pl'.length=1∧RowI B0 F w' g nd gs xsE∧Sto B0 [] (FM F g gs) pl' wOwn w'∧Blw B0 w w' ∧
   FrD pl' (lx pl' wOwn++FM F g gs) w' (wS3 t ps (.slice (some ⟨g,0,none⟩) nd nd) (Int.ofNat ps.length) (Int.ofNat ps.length)).fr l') l w:=by
 unfold okP at hop
 rw [Bool.and_eq_true] at hop
 have hpl1:ps.length≤1000:=of_decide_eq_true hop.1
 refine cw_loop (σ:=Nat×List Mw) (R:=List Mw) (outF vf vw t ps) xsE (fun s l' w'=>s.1≤ps.length∧∃ pl',RowI B0 F w' g nd gs s.2∧Sto B0 [] (FM F g gs) pl' wOwn w'∧pl'.length=1∧l'.length=92∧Blw B0 w w' ∧
   FrD pl' (lx pl' wOwn++FM F g gs) w' (wS3 t ps (.slice (some ⟨g,0,none⟩) nd nd) (Int.ofNat ps.length) s.1).fr l') ?_ (n:=ps.length + 1) (s:=(0,xs0)) ⟨Nat.zero_le _,pl,hr,hst,hpl,hl,Blw.refl _ _,hfr⟩ (by rw [out_all vf vw t ps _ 0 xs0 (Nat.zero_le _) (by omega)]; exact hw)
 rintro self ⟨k,xs⟩ l1 w1 ⟨hk,pl1,r1,s1,hp1,hl1,b1,f1⟩ hself
 simp only at hk r1 f1
 have z1:sz≤w1.heap.size:=Nat.le_trans hsz b1.size
 obtain ⟨v7,hv7⟩:∃ v7,v7=Value.slice (some ⟨g,0,none⟩) nd nd:=⟨_,rfl⟩
 rw [<- hv7] at f1
 rw [wdL2_eq]
 have p:=qx_ (S:=wS3 t ps v7 (Int.ofNat ps.length) k) (l:=l1) henv (bo_of hbase z1 s1) s1 rfl hp1.symm rfl hl1 f1 (hd_eq vc vf vw t ps v7 (Int.ofNat ps.length) k)
 refine cw_seq (q12_ p ?_)
 rintro e a w2 ⟨pl2,l2,rfl,rfl,hl2,hp2,s2,f2,b2⟩
 have r2:=r1.over s1 b2
 have b2':=b1.trans (qf_ b2 (bo_of hbase z1 s1))
 have z2:sz≤w2.heap.size:=Nat.le_trans hsz b2'.size
 refine ⟨l2,rfl,?_⟩
 have p:=qx_ (S:={ wS3 t ps v7 (Int.ofNat ps.length) k with fr:=(41,.d .bool (lt k (Int.ofNat ps.length)))::(wS3 t ps v7 (Int.ofNat ps.length) k).fr }) (l:=l2) henv (bo_of hbase z2 s2) s2 rfl hp2.symm rfl hl2 f2 (S1:=wS3 t ps v7 (Int.ofNat ps.length) k) (e0:=if (lt k (Int.ofNat ps.length))=true then .n else .x 2) (by
  rw [if_eq]
  split <;> rfl)
 refine cw_seq (q12_ p ?_)
 rintro e a w3 ⟨pl3,l3,rfl,rfl,hl3,hp3,s3,f3,b3⟩
 have r3:=r2.over s2 b3
 have b3':=b2'.trans (qf_ b3 (bo_of hbase z2 s2))
 have z3:sz≤w3.heap.size:=Nat.le_trans hsz b3'.size
 by_cases hlt:k < ps.length
 case neg =>
  obtain rfl:k=ps.length:=by omega
  rw [if_neg (by rw [q0_]; show ¬ (ps.length:Int) < (ps.length:Int); omega)]
  unfold outF at hself
  rw [List.getElem?_eq_none (Nat.le_refl _)] at hself
  cases hself
  subst hv7
  exact ⟨l3,pl3,rfl,rfl,hl3,hp3,r3,s3,b3',f3⟩
 rw [if_pos (by rw [q0_]; show (k:Int) < (ps.length:Int); omega)]
 refine ⟨l3,rfl,?_⟩
 obtain ⟨y,hy⟩:∃ y,ps[k]? = some y:=⟨_,List.getElem?_eq_getElem hlt⟩
 have hyl:(show List (Vl setT) from y.2.2).length≤1000:=of_decide_eq_true (List.all_eq_true.1 hop.2 y (List.mem_of_getElem? hy))
 unfold outF at hself
 simp only [hy] at hself
 obtain ⟨xs2,hx2,hself⟩:=q5_ hself
 unfold wPart at hx2
 obtain ⟨z,hz,hx2⟩:=q5_ hx2
 have e1:add .i64 (k:Int) 1=((k + 1:Nat):Int):=by rw [add64 (by omega) (by omega)]; omega
 refine cw_seq (cw_block (cw_seq ?_))
 have hat:at? ps (k:Int)=some y:=by unfold at?; rw [if_pos (by omega),Int.toNat_natCast]; exact hy
 have p:=qx_ (S:=wS3 t ps v7 (Int.ofNat ps.length) k) (l:=l3) henv (bo_of hbase z3 s3) s3 rfl hp3.symm rfl hl3 f3 ((b1_eq vc vf vw t ps v7 (Int.ofNat ps.length) k).trans (by rw [hat]; rfl)) (S1:=wS4 t ps v7 (Int.ofNat ps.length) k y) (e0:=.n)
 refine q12_ p ?_
 rintro e a w4 ⟨pl4,l4,rfl,rfl,hl4,hp4,s4,f4,b4⟩
 have r4:=r3.over s3 b4
 have b4':=b3'.trans (qf_ b4 (bo_of hbase z3 s3))
 have z4:sz≤w4.heap.size:=Nat.le_trans hsz b4'.size
 refine ⟨l4,rfl,cw_seq ?_⟩
 have p:=qx_ (S:=wS4 t ps v7 (Int.ofNat ps.length) k y) (l:=l4) henv (bo_of hbase z4 s4) s4 rfl hp4.symm rfl hl4 f4 ((b2_eq vc vf vw t ps v7 (Int.ofNat ps.length) k y).trans (by rw [hz]; rfl)) (S1:=wS5 t ps v7 (Int.ofNat ps.length) k y z.1 z.2.1) (e0:=.n)
 refine q12_ p ?_
 rintro e a w5 ⟨pl5,l5,rfl,rfl,hl5,hp5,s5,f5,b5⟩
 have r5:=r4.over s4 b5
 have b5':=b4'.trans (qf_ b5 (bo_of hbase z4 s4))
 have z5:sz≤w5.heap.size:=Nat.le_trans hsz b5'.size
 refine ⟨l5,rfl,cw_seq ?_⟩
 have p:=qx_ (S:=wS5 t ps v7 (Int.ofNat ps.length) k y z.1 z.2.1) (l:=l5) henv (bo_of hbase z5 s5) s5 rfl hp5.symm rfl hl5 f5 (S1:=wS5 t ps v7 (Int.ofNat ps.length) k y z.1 z.2.1) (e0:=if (!z.2.1)=true then .x 3 else .n) (by
  rw [b3_eq]
  split <;> rfl)
 refine q12_ p ?_
 rintro e a w6 ⟨pl6,l6,rfl,rfl,hl6,hp6,s6,f6,b6⟩
 have r6:=r5.over s5 b6
 have b6':=b5'.trans (qf_ b6 (bo_of hbase z5 s5))
 have z6:sz≤w6.heap.size:=Nat.le_trans hsz b6'.size
 by_cases hok:z.2.1=true
 case neg =>
  have hok':(!z.2.1)=true:=by simpa using hok
  rw [if_pos hok']
  rw [if_neg hok] at hx2
  cases hx2
  refine ⟨l6,rfl,?_⟩
  have p:=qx_ (S:=wS5 t ps v7 (Int.ofNat ps.length) k y z.1 z.2.1) (l:=l6) henv (bo_of hbase z6 s6) s6 rfl hp6.symm rfl hl6 f6 (s5_eq vc vf vw t ps v7 (Int.ofNat ps.length) k y z.1 z.2.1)
  refine q12_ p ?_
  rintro e a w7 ⟨pl7,l7,rfl,rfl,hl7,hp7,s7,f7,b7⟩
  rw [e1] at f7
  subst hv7
  exact ⟨l7,rfl,(k + 1,xs),⟨by show k + 1≤_; omega,pl7,r6.over s6 b7,s7,hp7,hl7,b6'.trans (qf_ b7 (bo_of hbase z6 s6)),f7⟩,hself⟩
 rw [if_neg (by rw [hok]; decide)]
 rw [if_pos hok] at hx2
 obtain ⟨d,hd,hx2⟩:=q5_ hx2
 obtain ⟨m,hm,hx2⟩:=q5_ hx2
 obtain ⟨m',hm',hx2⟩:=q5_ hx2
 cases hx2
 have hi0:=(at_some hm).1
 have hmi:=(at_some hm).2.1
 obtain ⟨b,hb⟩:∃ b,gs[z.1.toNat]? = some b:=⟨_,List.getElem?_eq_getElem (by rw [r6.len]; exact (at_some hm).2.2)⟩
 have hdl:(show List (Vl ptT) from d.2).length≤1000:=of_decide_eq_true (List.all_eq_true.1 hot d (at_mem hd))
 refine ⟨l6,rfl,?_⟩
 subst hv7
 obtain ⟨q1,q2⟩:=conv_in (i:=z.1) (m:=m) (ok:=z.2.1) r6 hgs s6 hp6 hi0 hb hmi f6
 have h6:pl6.length=2:=hp6
 have h4:4=pl6.length + 1 + 1:=by omega
 have p:=qx_ (N:=NW) (hs:=hsW) (hint:=hW6) (c:=wdB4) (S:=wS6 (gs.map mv) t ps (Int.ofNat ps.length) k y z.1 m) (S1:=wS7 (gs.map mv) t ps (Int.ofNat ps.length) k z.1 m') (e0:=.n) (l:=l6) henv (bo_of hbase z6 q1) q1 rfl h4 rfl hl6 q2
  ((pw_eq vc vf vw (gs.map mv) t ps (Int.ofNat ps.length) k z.1 hd (Nat.lt_of_le_of_lt hdl (by decide)) (Nat.lt_of_le_of_lt hyl (by decide)) m).trans (by rw [hm']; rfl))
 refine q12_ p ?_
 rintro e a w7 ⟨pl7,l7,rfl,rfl,hl7,hp7,s7,f7,b7⟩
 have b7':=b6'.trans (qf_ b7 (bo_of hbase z6 q1))
 have z7:sz≤w7.heap.size:=Nat.le_trans hsz b7'.size
 obtain ⟨r7,pl8,hp8,s8,f8⟩:=conv_out r6 hgs hb hmi s7 hp7 (keep_far q1 b7) f7
 refine ⟨l7,rfl,?_⟩
 have p:=qx_ (S:=wS3 t ps (.slice (some ⟨g,0,none⟩) nd nd) (Int.ofNat ps.length) k) (l:=l7) henv (bo_of hbase z7 s8) s8 rfl hp8.symm rfl hl7 f8 (s_eq vc vf vw t ps (.slice (some ⟨g,0,none⟩) nd nd) (Int.ofNat ps.length) k)
 refine q12_ p ?_
 rintro e a w9 ⟨pl9,l9,rfl,rfl,hl9,hp9,s9,f9,b9⟩
 rw [e1] at f9
 exact ⟨l9,rfl,(k + 1,xs.set z.1.toNat m'),⟨by show k + 1≤_; omega,pl9,r7.over s8 b9,s9,hp9,hl9,b7'.trans (qf_ b9 (bo_of hbase z7 s8)),f9⟩,hself⟩
end
end Go.Proofs.Lx
end
section
set_option maxRecDepth 100000
namespace Go.Proofs.Lx
open Go Go.Proofs Go.RowKit Ev Sx Pl
@[reducible] def q15_:Sh:=⟨[.d tabT,.d recT],[],[tabT,recT],[.d (.sl mT),.d fltT],[],0,[.sl mT,fltT]⟩
def wordsM (vc:Vc) (vf:Vf) (vw:Vw) (x:As q15_.ps):Option (As q15_.rs) :=
 (vc (x.1,x.2.1,())).bind fun f=>if (!(eqi f.1.1 0 && (eqi f.1.2 0 && true)))=true then some ([],f.1,()) else
  if (okT x.1 && okP x.2.1.2 && decide ((show List (Vl devT) from x.1).length≤1000))=true then (wAll vf vw x.1 x.2.1.2 (List.replicate (show List (Vl devT) from x.1).length [])).bind fun l=>some (l,(0,0),()) else none
def wSX (t:Vl tabT) (r:Vl recT) (f:Int×Int):St:={ fr:=[(0,.d tabT t),(3,.pb 0 0),(4,nilV),(5,.pb 1 0)],nt:=92,up:=[],own:=[(0,.box 42 [.d .str r.1,.d (.sl partT) r.2]),(1,.box 50 [.d kT f.1,.d kT f.2])],nx:=2,log:=[],ln:=0 }
def wSE (xs:List Mw):St:={ fr:=[(7,.d (.sl mT) xs),(5,.pb 0 0)],nt:=92,up:=[],own:=wOwn,nx:=1,log:=[],ln:=0 }
def wSF (xs:List Mw):St:={ fr:=[(4,.d (.sl mT) xs),(5,.pb 0 0)],nt:=92,up:=[],own:=wOwn,nx:=1,log:=[],ln:=0 }
section
variable (vc:Vc) (vf:Vf) (vw:Vw) (t:Vl tabT) (r:Vl recT)
theorem r1_eq:evF NW (wdEnv vc vf vw) bkNo hW1 wd1 (wS0 t r)=some (.n,wSX t r (0,0)):=by kernel_rfl
theorem rx_eq:evF NW (wdEnv vc vf vw) bkNo hW1 wdX (wSX t r (0,0))=(vc (t,r,())).bind fun f=>if (!(eqi f.1.1 0 && (eqi f.1.2 0 && true)))=true then some (.r,wSX t r f.1) else some (.n,wSX t r (0,0)):=by kernel_rfl
theorem re_eq (xs:List Mw):evF NW (wdEnv vc vf vw) bkNo ⟨[],[4,5]⟩ wdE (wSE xs)=some (.r,wSF xs):=by kernel_rfl
theorem fx_eq (f:Int×Int):∃ S1,nrm Try.prog ⟨[.agd 4 (.sl mT)],[4,5]⟩ (wSX t r f)=some S1∧resK Try.prog S1 Try.f20.results.toList (fun ss=>some ss)=some [.d (.sl mT) [],.d fltT f]:=⟨{ fr:=[(4,.d (.sl mT) []),(5,.pb 0 0)],nt:=92,up:=[],own:=[(0,.box 50 [.d kT f.1,.d kT f.2])],nx:=1,log:=[],ln:=0 },by kernel_rfl,by kernel_rfl⟩
theorem fe_eq (xs:List Mw):∃ S1,nrm Try.prog ⟨[],[4,5]⟩ (wSF xs)=some S1∧resK Try.prog S1 Try.f20.results.toList (fun ss=>some ss)=some [.d (.sl mT) xs,.d fltT (0,0)]:=⟨wSF xs,by kernel_rfl,by kernel_rfl⟩
end
theorem w_res {B1:Nat->Prop} {F':Lx} {pl:List Ev.Place} {S S1:St} {l:List Value} {W:World} {L:List Mw} {f:Int×Int} {h:Hint} (hb:∀ k,Bo pl S.own W k->B1 k)
  (hst:Sto B1 [] F' pl S.own W) (hup:S.up=[]) (hnx:S.nx=pl.length) (hln:S.ln=0) (hnt:l.length=S.nt) (hfr:FrD pl (lx pl S.own++F') W S.fr l)
  (hn:nrm Try.prog h S=some S1) (hr:resK Try.prog S1 Try.f20.results.toList (fun ss=>some ss)=some [.d (.sl mT) L,.d fltT f]) :
  ∃ pl' us,DenL pl' (lx pl' S1.own++F') W [.d (.sl mT) L,.d fltT f] us∧∀ R:Ending->World->Prop,R (.returned (retV us)) W->bodyPost Try.prog Try.f20 R .ret (mk l) W:=by
 have h1:=hst.rel hup hnx hln hnt hfr
 obtain ⟨wr2,pl2,h2⟩:=nrm_ok h1 hn
 obtain ⟨ss,us,h3,h4,h5⟩:=resK_ok h2 hr
 cases h3
 exact ⟨pl2,us,h5,fun R hR=>ret_post (fn:=Try.f20) (by decide) h4 hR⟩
theorem w_after {F F':Lx} {w0 W:World} {pl':List Ev.Place} {own':List (Nat×Ent)} {L:List Mw} {f:Int×Int} {us:List Value}
  (hL:LOk (Bo [] [] w0) (lx [] []) F w0) (hF:∀ k,some k ∈ F->some k ∈ F') (hB:Blw (Bo [] [] w0) w0 W)
  (hd:DenL pl' (lx pl' own'++F') W [.d (.sl mT) L,.d fltT f] us):After q15_ (L,f,()) F w0 [] [] W us:=by
 have hsub:∀ k,some k ∈ lx [] []++F->some k ∈ lx pl' own'++F':=fun k hk=>List.mem_append_right _ (hF k (by simpa [lx] using hk))
 refine ⟨[],[.d (.sl mT) L,.d fltT f],[],rfl,fun _ _ h=>h,rfl,hB,⟨hL.pair,hL.lo,(fun k hk=>by cases hk),hL.baseS hB.size,hL.farS hB.size⟩,(fun e he=>by cases he),?_⟩
 obtain ⟨v,q,h1,⟨cs,h2,h3⟩,v',q',h4,⟨cs',h5,h6⟩,h7⟩:=hd
 exact ⟨v,q,h1,⟨cs,Rp.grow _ h2 (sub_of hsub),h3⟩,v',q',h4,⟨cs',Rp.grow _ h5 (sub_of hsub),h6⟩,h7⟩
theorem rows_of {w:World} {L:Lx}:∀ {gs:List Nat} {xs:List Mw},gs.length=xs.length->(∀ b ∈ gs,some b ∉ L∧b < w.heap.size)->(∀ (k b:Nat) (x:Mw),gs[k]? = some b->xs[k]? = some x->MapIs (keyV kT) (fun v:Int=>Value.int .u16 v) w b x)->RowsOf (rp mT) L w (gs.map mv) xs
 | [],[],_,_,_=>rfl
 | b::gs,x::xs,hl,hL,hm=>⟨[mv b],gs.map mv,rfl,⟨b,mVals x,rfl,(hL b (by simp)).1,(hL b (by simp)).2,mis_of (hm 0 b x rfl rfl),DmD.iff.2 (dmd_of _ _ x)⟩,
   rows_of (by simpa using hl) (fun c hc=>hL c (List.mem_cons_of_mem _ hc)) fun k c y h1 h2=>hm (k + 1) c y h1 h2⟩
theorem row_data {B0:Nat->Prop} {F L:Lx} {w:World} {g n:Nat} {gs:List Nat} {xs:List Mw} (hr:RowI B0 F w g n gs xs) (hgs:gs.length=n) (hn:n≤1000) (hL:∀ k ∈ g::gs,some k ∉ L) (pl:List Ev.Place) :
  Den pl L w (.d (.sl mT) xs) (.slice (some ⟨g,0,none⟩) n n):=by
 have hbx:=hr.bx
 rw [hgs,Nat.sub_self,show List.replicate 0 nm=[] from rfl,List.append_nil] at hbx
 have hl:=hr.len
 have ho:=ow_arr (t:=mT) (L:=L) (xs:=xs) hbx (rows_of hl (fun b hb=>⟨hL b (List.mem_cons_of_mem _ hb),hr.lt b (List.mem_cons_of_mem _ hb)⟩) hr.maps) (by omega)
 rw [<- hl,hgs] at ho
 exact ⟨_,ho.freeze (Sub.refl _ _) (fun k hk=>by cases hk; exact hL g (by simp)),rfl⟩
theorem qoe_ {I:World->Prop} {vc:Vc} {vf:Vf} {vw:Vw} (hc:CtOk Try.prog (fun _=>True) 23 ⟨vcS,vc⟩) (hf:CtOk Try.prog (fun _=>True) 27 ⟨vfS,vf⟩) (hw:CtOk Try.prog (fun _=>True) 29 ⟨vwS,vw⟩):CtOk Try.prog I 20 ⟨q15_,wordsM vc vf vw⟩:=by
 intro F w0 pl0 x y ss own vs hx hA hpl hI0 hL hE hD
 obtain ⟨t,r,u0⟩:=x
 have hx:(vc (t,r,())).bind (fun f=>if (!(eqi f.1.1 0 && (eqi f.1.2 0 && true)))=true then some (([],f.1,()):As q15_.rs) else
  if (okT t && okP r.2 && decide ((show List (Vl devT) from t).length≤1000))=true then (wAll vf vw t r.2 (List.replicate (show List (Vl devT) from t).length [])).bind (fun l=>some (l,(0,0),())) else none)=some y:=hx
 obtain ⟨f,hvc,hx⟩:=q5_ hx
 have hA:some ([SV.d tabT t,SV.d recT r],[])=some (ss,own):=hA
 cases hA
 have hpl:pl0.length=0:=hpl
 obtain rfl:=List.eq_nil_of_length_eq_zero hpl
 obtain ⟨u1,q1,rfl,d0,u2,q2,rfl,d1,rfl⟩:=hD
 have henv:EnvOk Try.prog (fun _=>True) (wdEnv vc vf vw):=q3_ hc (q3_ hf (q3_ hw qc_))
 obtain ⟨B0,hB0⟩:∃ B0,B0=Bo [] [] w0:=⟨_,rfl⟩
 have hbase:∀ k,w0.heap.size≤k->B0 k:=fun k hk=>by subst hB0; exact .inr hk
 have hst0:Sto B0 [] F [] [] w0:=⟨List.Pairwise.nil,(fun k hk=>by cases hk),(fun k hk=>by cases hk),fun k hk=>⟨(fun hx=>by cases hx),(hL.far k hk).2⟩,fun _ _ h=>h,(fun e he=>by cases he)⟩
 refine enter (f:=20) (args:=[u1,u2]) Try.func20 wd_eq rfl (l:=u1::u2::List.replicate 90 undef) rfl ?_
 generalize hR:(fun (e:Ending) (w':World)=>∃ us,e = .returned (retV us)∧After q15_ y F w0 [] [] w' us)=R
 have hRe:∀ {W:World} {us:List Value},After q15_ y F w0 [] [] W us->R (.returned (retV us)) W:=fun h=>by subst hR; exact ⟨_,rfl,h⟩
 have hfr0:FrD [] (lx [] []++F) w0 [(0,.d tabT t),(1,.d recT r)] (u1::u2::List.replicate 90 undef):=qd_ d0 (qd_ d1 frD_nil)
 have p:=qx_ (S:=wS0 t r) (l:=u1::u2::List.replicate 90 undef) henv (bo_of hbase (Nat.le_refl _) hst0) hst0 rfl rfl rfl rfl hfr0 (r1_eq vc vf vw t r)
 refine cw_seq (q12_ p ?_)
 rintro e a w1 ⟨pl1,l1,rfl,rfl,hl1,hp1,s1,f1,b1⟩
 have b1':Blw B0 w0 w1:=qf_ b1 (bo_of hbase (Nat.le_refl _) hst0)
 have z1:=b1'.size
 refine ⟨l1,rfl,cw_seq ?_⟩
 by_cases hfz:(!(eqi f.1.1 0 && (eqi f.1.2 0 && true)))=true
 ·-- a fault
  rw [if_pos hfz] at hx
  cases hx
  have p:=qx_ (S:=wSX t r (0,0)) (l:=l1) henv (bo_of hbase z1 s1) s1 rfl hp1.symm rfl hl1 f1 (S1:=wSX t r f.1) (e0:=.r) (by rw [rx_eq,hvc,Option.bind_some,if_pos hfz])
  refine q12_ p ?_
  rintro e a w2 ⟨pl2,l2,rfl,rfl,hl2,hp2,s2,f2,b2⟩
  have b2':=b1'.trans (qf_ b2 (bo_of hbase z1 s1))
  obtain ⟨S1,y1,y2⟩:=fx_eq t r f.1
  obtain ⟨pl',us,y3,y4⟩:=w_res (bo_of hbase b2'.size s2) s2 rfl hp2.symm rfl hl2 f2 y1 y2
  refine y4 R (hRe ?_)
  subst hB0
  exact w_after hL (fun _ h=>h) b2' y3
 rw [if_neg hfz] at hx
 split at hx
 case isFalse=>cases hx
 rename_i hok
 simp only [Bool.and_eq_true,decide_eq_true_eq] at hok
 obtain ⟨⟨hot,hop⟩,hn⟩:=hok
 obtain ⟨xsE,hwE,hx⟩:=q5_ hx
 cases hx
 have p:=qx_ (S:=wSX t r (0,0)) (l:=l1) henv (bo_of hbase z1 s1) s1 rfl hp1.symm rfl hl1 f1 (S1:=wSX t r (0,0)) (e0:=.n) (by rw [rx_eq,hvc,Option.bind_some,if_neg hfz])
 refine q12_ p ?_
 rintro e a w2 ⟨pl2,l2,rfl,rfl,hl2,hp2,s2,f2,b2⟩
 have b2':=b1'.trans (qf_ b2 (bo_of hbase z1 s1))
 have z2:=b2'.size
 refine ⟨l2,rfl,cw_seq ?_⟩
 obtain ⟨n,hnn⟩:∃ n,n=(show List (Vl devT) from t).length:=⟨_,rfl⟩
 rw [<- hnn] at hn hwE
 refine q12_ (wd4_wp (fr:=(wSX t r (0,0)).fr) (t:=t) hnn.symm hn s2 (fun k hk=>hbase k (Nat.le_trans z2 hk)) hl2 f2 rfl (fun j hj=>by simp at hj; rcases hj with rfl | rfl | rfl | rfl <;> rfl)) ?_
 rintro e a w3 ⟨l3,g,rfl,rfl,hl3,r3,s3,b3,f3,d7⟩
 have b3':=b2'.trans b3
 have z3:=b3'.size
 refine ⟨l3,rfl,cw_seq (cw_seq ?_)⟩
 have f3':FrD pl2 (lx pl2 (wSX t r (0,0)).own++FM F g []) w3 [(0,.d tabT t),(3,.pb 0 0),(5,.pb 1 0)] l3:=qd_ (f3 0 _ rfl) (qd_ (f3 3 _ rfl) (qd_ (f3 5 _ rfl) frD_nil))
 refine q12_ (wd5_wp (n:=n) (a:=some ⟨g,0,none⟩) (c:=n) rfl hl3 f3' d7 (fun j hj=>by simp at hj; rcases hj with rfl | rfl | rfl <;> rfl)) ?_
 rintro e a w4 ⟨l4,rfl,rfl,hl4,rfl,f4⟩
 refine ⟨l4,rfl,cw_block ?_⟩
 refine q12_ (loop0_wp (r:=r) henv hbase hn z3 r3 s3 hp2 hl4 f4) ?_
 rintro e a w5 ⟨l5,pl5,gs,rfl,rfl,hl5,hp5,hgs,r5,s5,b5,f5⟩
 have b5':=b3'.trans b5
 have z5:=b5'.size
 refine ⟨l5,rfl,cw_seq (cw_seq ?_)⟩
 have p:=qx_ (S:=w0S (w0Fr t (.slice (some ⟨g,0,none⟩) n n) n n) r) (l:=l5) henv (bo_of hbase z5 s5) s5 rfl hp5.symm rfl hl5 f5 (c6_eq vc vf vw t r (.slice (some ⟨g,0,none⟩) n n) n n)
 refine q12_ p ?_
 rintro e a w6 ⟨pl6,l6,rfl,rfl,hl6,hp6,s6,f6,b6⟩
 have r6:=r5.over s5 b6
 have b6':=b5'.trans (qf_ b6 (bo_of hbase z5 s5))
 have z6:=b6'.size
 refine ⟨l6,rfl,cw_block ?_⟩
 refine q12_ (loop2_wp henv hbase hot hop hgs z6 r6 s6 hp6 hl6 f6 hwE) ?_
 rintro e a w7 ⟨l7,pl7,rfl,rfl,hl7,hp7,r7,s7,b7,f7⟩
 have b7':=b6'.trans b7
 have z7:=b7'.size
 refine ⟨l7,rfl,?_⟩
 have hnot:∀ k ∈ g::gs,some k ∉ lx pl7 wOwn++F:=fun k hk hm=>by
  rcases List.mem_append.1 hm with hm | hm
  ·exact (s7.far k (FM_mem.2 (.inr hk))).1 hm
  ·exact r7.far k hk hm
 have s8:Sto B0 [] F pl7 wOwn w7:=s7.less (fun k hk=>FM_mem.2 (.inl hk))
 have f8:FrD pl7 (lx pl7 wOwn++F) w7 (wSE xsE).fr l7:=by
  refine qd_ ?_ (qd_ ?_ frD_nil)
  ·have:l7.getD 7 undef = .slice (some ⟨g,0,none⟩) n n:=f7 7 _ rfl
   rw [this]
   exact row_data r7 hgs hn hnot pl7
  ·obtain ⟨a,n',c',h1,h2⟩:=f7 5 _ rfl
   exact ⟨a,n',c',h1,h2⟩
 have p:=qx_ (S:=wSE xsE) (l:=l7) henv (bo_of hbase z7 s8) s8 rfl hp7.symm rfl hl7 f8 (re_eq vc vf vw xsE)
 refine q12_ p ?_
 rintro e a w9 ⟨pl9,l9,rfl,rfl,hl9,hp9,s9,f9,b9⟩
 have b9':=b7'.trans (qf_ b9 (bo_of hbase z7 s8))
 obtain ⟨S1,y1,y2⟩:=fe_eq xsE
 obtain ⟨pl',us,y3,y4⟩:=w_res (bo_of hbase b9'.size s9) s9 rfl hp9.symm rfl hl9 f9 y1 y2
 refine y4 R (hRe ?_)
 subst hB0
 exact w_after hL (fun _ h=>h) b9' y3
end Go.Proofs.Lx
end
section
set_option maxRecDepth 100000
namespace Go.Proofs.Lx
open Go Go.Proofs Ev Sx
def qdd_ (x:As q15_.ps):Option (As q15_.rs):=wordsM q51_ q1k_ qv_ x
theorem qov_:CtOk Try.prog (fun _=>True) 20 ⟨q15_,qdd_⟩:=qoe_ qfh_ qct_ qfx_
end Go.Proofs.Lx
end
section
set_option maxRecDepth 100000
namespace Go.Proofs.Lx
open Go Ev Sx Pl
abbrev EnL:=List (Int×Int)
def fillM (m L:EnL):EnL:=L.foldl (fun m e=>dput kT m e.1 e.2) m
theorem dget_put (m:EnL) (k v j:Int):dget kT (dput kT m k v) j=if k=j then some v else dget kT m j:=by
 have:=dget_dput (kt:=kT) keqI (V:=Int) k v j m
 rw [this]
 by_cases h:k=j
 ·rw [if_pos h,if_pos ((keqI _ _).2 h)]
 ·rw [if_neg h,if_neg (fun e=>h ((keqI _ _).1 e))]
theorem fill_some:∀ (L:EnL) (m:EnL) (a w:Int),dget kT (fillM m L) a=some w->(a,w) ∈ L∨dget kT m a=some w
 | [],_,_,_,h=>.inr h
 | e::q,m,a,w,h=>by
  rcases fill_some q _ a w h with h | h
  ·exact .inl (List.mem_cons_of_mem _ h)
  ·rw [dget_put] at h
   split at h
   ·rename_i he
    cases h
    subst he
    exact .inl (List.mem_cons_self ..)
   ·exact .inr h
theorem fill_is:∀ (L:EnL) (m:EnL) (a:Int),(dget kT m a).isSome=true∨(∃ w,(a,w) ∈ L)->(dget kT (fillM m L) a).isSome=true
 | [],_,_,h=>h.elim id fun ⟨w,h⟩=>by cases h
 | e::q,m,a,h=>by
  refine fill_is q _ a ?_
  rw [dget_put]
  rcases h with h | ⟨w,h⟩
  ·left
   split
   ·rfl
   ·exact h
  ·rcases List.mem_cons.1 h with h | h
   ·subst h
    left
    rw [if_pos rfl]
    rfl
   ·exact .inr ⟨w,h⟩
def Func (L:EnL):Prop:=∀ a w v,(a,w) ∈ L->(a,v) ∈ L->w=v
theorem fill_iff {L:EnL} (h:Func L) (a w:Int):dget kT (fillM [] L) a=some w ↔ (a,w) ∈ L:=by
 constructor
 ·intro he
  rcases fill_some L [] a w he with h | h
  ·exact h
  ·cases h
 ·intro he
  have:=fill_is L [] a (.inr ⟨w,he⟩)
  cases hd:dget kT (fillM [] L) a with
  | none=>rw [hd] at this; cases this
  | some v =>
   rcases fill_some L [] a v hd with h' | h'
   ·rw [h a w v he h']
   ·cases h'
theorem dput_keys (m:EnL) (k v:Int):(m.map (·.1)).Nodup->((dput kT m k v).map (·.1)).Nodup∧∀ x,x ∈ (dput kT m k v).map (·.1)->x=k∨x ∈ m.map (·.1):=by
 induction m with
 | nil=>intro _; exact ⟨by simp [dput],by simp [dput]⟩
 | cons e q ih =>
  intro h
  obtain ⟨a,b⟩:=e
  rw [List.map_cons,List.nodup_cons] at h
  unfold dput
  by_cases hk:keq kT a k=true
  ·rw [if_pos hk]
   have:=(keqI _ _).1 hk
   subst this
   refine ⟨by rw [List.map_cons,List.nodup_cons]; exact h,fun x hx=>?_⟩
   exact .inr hx
  ·rw [if_neg hk]
   obtain ⟨h1,h2⟩:=ih h.2
   have hne:a ≠ k:=fun e=>hk ((keqI _ _).2 e)
   refine ⟨?_,fun x hx=>?_⟩
   ·rw [List.map_cons,List.nodup_cons]
    refine ⟨fun hm=>?_,h1⟩
    rcases h2 _ hm with h3 | h3
    ·exact hne h3
    ·exact h.1 h3
   ·rw [List.map_cons] at hx
    rcases List.mem_cons.1 hx with h3 | h3
    ·exact .inr (by rw [h3]; exact List.mem_cons_self ..)
    ·rcases h2 _ h3 with h4 | h4
     ·exact .inl h4
     ·exact .inr (List.mem_cons_of_mem _ h4)
theorem fill_nodup:∀ (L m:EnL),(m.map (·.1)).Nodup->((fillM m L).map (·.1)).Nodup
 | [],_,h=>h
 | e::q,m,h=>fill_nodup q _ (dput_keys m e.1 e.2 h).1
theorem dget_none {m:EnL} {k:Int}:dget kT m k=none ↔ k ∉ m.map (·.1):=by
 induction m with
 | nil=>simp [dget]
 | cons e q ih =>
  obtain ⟨a,b⟩:=e
  unfold dget
  by_cases hk:keq kT a k=true
  ·rw [if_pos hk]
   have:=(keqI _ _).1 hk
   subst this
   simp
  ·rw [if_neg hk,ih]
   have hne:a ≠ k:=fun e=>hk ((keqI _ _).2 e)
   simp only [List.map_cons,List.mem_cons,not_or]
   exact ⟨fun h=>⟨fun e=>hne e.symm,h⟩,fun h=>h.2⟩
def wrP (s:TSet) (qs:List TPt):EnL:=(qs.filter fun p=>eqs p.1 s.1).map fun p=>(p.2.1,(wrdS p s).1)
def wrS (qs:List TPt) (ss:List TSet):EnL:=ss.flatMap fun s=>wrP s qs
def wrD (d:TDev) (ps:List TPart):EnL:=ps.flatMap fun p=>if eqs d.1 p.1=true then wrS d.2 p.2.2 else []
def GoodP (qs:List TPt):Prop:=∀ p ∈ qs,PtR p∧rgt p.2.2.2.2.1=true∧rgt p.2.2.2.2.2.1=true
theorem wPts_eq {s:TSet} (hs:0≤s.2.1.2):∀ {qs:List TPt} (m:EnL),GoodP qs->wPts qv_ s qs m=some (fillM m (wrP s qs))
 | [],_,_=>rfl
 | p::q,m,h=>by
  have hp:=h p (by simp)
  have hq:GoodP q:=fun x hx=>h x (List.mem_cons_of_mem _ hx)
  unfold wPts
  by_cases hb:eqs p.1 s.1=true
  ·rw [if_pos hb,vword_eq hp.1 hp.2.1 hp.2.2 hs,Option.bind_some,wPts_eq hs _ hq]
   show _=some (fillM m (wrP s (p::q)))
   unfold wrP
   rw [List.filter_cons_of_pos (p:=fun p:TPt=>eqs p.1 s.1) hb]
   rfl
  ·rw [if_neg hb,wPts_eq hs _ hq]
   unfold wrP
   rw [List.filter_cons_of_neg (p:=fun p:TPt=>eqs p.1 s.1) (by simpa using hb)]
theorem fill_app (m L K:EnL):fillM m (L++K)=fillM (fillM m L) K:=by unfold fillM; rw [List.foldl_append]
theorem wSets_eq {qs:List TPt} (h:GoodP qs):∀ {ss:List TSet} (m:EnL),(∀ s ∈ ss,0≤s.2.1.2)->wSets qv_ qs ss m=some (fillM m (wrS qs ss))
 | [],_,_=>rfl
 | s::r,m,hs=>by
  unfold wSets
  rw [wPts_eq (hs s (by simp)) m h,Option.bind_some,wSets_eq h _ fun x hx=>hs x (List.mem_cons_of_mem _ hx)]
  show _=some (fillM m (wrP s qs++wrS qs r))
  rw [fill_app]
def DisD (t:TTab):Prop:=∀ (i j:Nat) (d e:TDev),t[i]? = some d->t[j]? = some e->d.1=e.1->i=j
theorem eqs_i {a b:List UInt8}:eqs a b=true ↔ a=b:=eqs_iff
theorem wPart_eq {t:TTab} (hl:t.length≤1000000) (hd:DisD t) (hg:∀ d ∈ t,GoodP d.2) {y:TPart} (hy:∀ s ∈ y.2.2,0≤s.2.1.2) {xs:List EnL} (hx:xs.length=t.length) :
  ∃ xs',wPart q1k_ qv_ t y xs=some xs'∧xs'.length=t.length∧∀ (i:Nat) (d:TDev) (m:EnL),t[i]? = some d->xs[i]? = some m->xs'[i]? = some (fillM m (if eqs d.1 y.1=true then wrS d.2 y.2.2 else [])):=by
 unfold wPart
 rw [find_eq hl,Option.bind_some]
 cases hz:srch (fun d=>eqs d.1 y.1) t 0 with
 | none =>
  refine ⟨xs,rfl,hx,fun i d m hi hm=>?_⟩
  have:=srch_none hz d (List.mem_of_getElem? hi)
  rw [if_neg (by rw [this]; decide),hm]
  rfl
 | some z =>
  obtain ⟨z1,z2⟩:=z
  obtain ⟨hm,hi,hn⟩:=srch_mem hz
  have hlt:=(List.getElem?_eq_some_iff.1 hi).1
  obtain ⟨m0,hm0⟩:∃ m,xs[z1]? = some m:=⟨_,List.getElem?_eq_getElem (by omega)⟩
  dsimp only
  rw [if_pos rfl,qg_ hi,Option.bind_some,qg_ hm0,Option.bind_some,wSets_eq (hg z2 hm) _ hy,Option.bind_some,Int.toNat_natCast]
  refine ⟨_,rfl,by rw [List.length_set,hx],fun i d m hi' hm'=>?_⟩
  by_cases he:z1=i
  ·subst he
   rw [hi] at hi'
   cases hi'
   rw [hm0] at hm'
   cases hm'
   rw [if_pos hn,List.getElem?_set_self (by omega)]
  ·rw [List.getElem?_set_ne he,hm']
   have:¬ eqs d.1 y.1=true:=fun e=>he (hd z1 i z2 d hi hi' (by rw [eqs_i.1 hn,eqs_i.1 e]))
   rw [if_neg this]
   rfl
theorem wAll_eq {t:TTab} (hl:t.length≤1000000) (hd:DisD t) (hg:∀ d ∈ t,GoodP d.2):∀ {ps:List TPart} (_:∀ y ∈ ps,∀ s ∈ y.2.2,0≤s.2.1.2) {xs:List EnL} (_:xs.length=t.length),
  ∃ xs',wAll q1k_ qv_ t ps xs=some xs'∧xs'.length=t.length∧∀ (i:Nat) (d:TDev) (m:EnL),t[i]? = some d->xs[i]? = some m->xs'[i]? = some (fillM m (wrD d ps))
 | [],_,xs,hx=>⟨xs,rfl,hx,fun i d m _ hm=>hm⟩
 | y::q,hy,xs,hx=>by
  obtain ⟨x1,h1,h2,h3⟩:=wPart_eq hl hd hg (hy y (by simp)) hx
  obtain ⟨x2,h4,h5,h6⟩:=wAll_eq hl hd hg (fun z hz=>hy z (List.mem_cons_of_mem _ hz)) h2
  refine ⟨x2,?_,h5,fun i d m hi hm=>?_⟩
  ·unfold wAll
   rw [h1,Option.bind_some,h4]
  ·rw [h6 i d _ hi (h3 i d m hi hm),<- fill_app]
   rfl
def qm_ (t:TTab) (ps:List TPart):List EnL:=t.map fun d=>fillM [] (wrD d ps)
theorem wordsS_eq {t:TTab} (hl:t.length≤1000000) (hd:DisD t) (hg:∀ d ∈ t,GoodP d.2) {ps:List TPart} (hy:∀ y ∈ ps,∀ s ∈ y.2.2,0≤s.2.1.2):wAll q1k_ qv_ t ps (List.replicate t.length [])=some (qm_ t ps):=by
 obtain ⟨xs,h1,h2,h3⟩:=wAll_eq hl hd hg hy (xs:=List.replicate t.length []) (by simp)
 rw [h1]
 congr 1
 refine List.ext_getElem? fun i=>?_
 unfold qm_
 rw [List.getElem?_map]
 cases hi:t[i]? with
 | none =>
  rw [List.getElem?_eq_none_iff] at hi
  rw [List.getElem?_eq_none (by omega)]
  rfl
 | some d =>
  have hlt:=(List.getElem?_eq_some_iff.1 hi).1
  exact h3 i d [] hi (by rw [List.getElem?_replicate,if_pos hlt])
theorem tabL_dis:∀ {q:TTab} {N:List (List UInt8)},tabL q N=true->(q.map (·.1)).Nodup∧∀ d ∈ q,d.1 ∉ N
 | [],_,_=>⟨by simp,(fun d hd=>by cases hd)⟩
 | x::q,N,h=>by
  rw [tabL] at h
  simp only [Bool.and_eq_true,Bool.not_eq_true',decide_eq_false_iff_not] at h
  obtain ⟨h1,h2⟩:=tabL_dis h.2.2
  refine ⟨by rw [List.map_cons,List.nodup_cons]; refine ⟨fun hm=>?_,h1⟩; obtain ⟨e,he,h3⟩:=List.mem_map.1 hm; exact h2 e he (by rw [h3]; exact List.mem_cons_self ..),fun d hd=>?_⟩
  rcases List.mem_cons.1 hd with rfl | hd
  ·exact h.2.1
  ·exact fun hm=>h2 d hd (List.mem_cons_of_mem _ hm)
theorem devL_dis:∀ {q:List TPt} {N:List (List UInt8)} {A:List Int},devL q N A=true->((q.map (·.1)).Nodup∧∀ d ∈ q,d.1 ∉ N)∧((q.map (·.2.1)).Nodup∧∀ d ∈ q,d.2.1 ∉ A)
 | [],_,_,_=>⟨⟨by simp,(fun d hd=>by cases hd)⟩,⟨by simp,(fun d hd=>by cases hd)⟩⟩
 | x::q,N,A,h=>by
  rw [devL] at h
  simp only [Bool.and_eq_true,Bool.not_eq_true',decide_eq_false_iff_not] at h
  obtain ⟨⟨h1,h2⟩,h3,h4⟩:=devL_dis h.2.2.2
  refine ⟨⟨?_,fun d hd=>?_⟩,?_,fun d hd=>?_⟩
  ·rw [List.map_cons,List.nodup_cons]; refine ⟨fun hm=>?_,h1⟩; obtain ⟨e,he,h5⟩:=List.mem_map.1 hm; exact h2 e he (by rw [h5]; exact List.mem_cons_self ..)
  ·rcases List.mem_cons.1 hd with rfl | hd
   ·exact h.2.1
   ·exact fun hm=>h2 d hd (List.mem_cons_of_mem _ hm)
  ·rw [List.map_cons,List.nodup_cons]; refine ⟨fun hm=>?_,h3⟩; obtain ⟨e,he,h5⟩:=List.mem_map.1 hm; exact h4 e he (by rw [h5]; exact List.mem_cons_self ..)
  ·rcases List.mem_cons.1 hd with rfl | hd
   ·exact h.2.2.1
   ·exact fun hm=>h4 d hd (List.mem_cons_of_mem _ hm)
theorem nodup_at {α β:Type} {f:α->β}:∀ {xs:List α},(xs.map f).Nodup->∀ (i j:Nat) (a b:α),xs[i]? = some a->xs[j]? = some b->f a=f b->i=j
 | [],_,_,_,_,_,h,_,_=>by simp at h
 | x::q,h,i,j,a,b,hi,hj,he=>by
  rw [List.map_cons,List.nodup_cons] at h
  cases i with
  | zero =>
   cases j with
   | zero=>rfl
   | succ j =>
    simp at hi hj
    subst hi
    exact absurd (List.mem_map.2 ⟨b,List.mem_of_getElem? hj,he.symm⟩) h.1
  | succ i =>
   cases j with
   | zero =>
    simp at hi hj
    subst hj
    exact absurd (List.mem_map.2 ⟨a,List.mem_of_getElem? hi,he⟩) h.1
   | succ j =>
    simp at hi hj
    rw [nodup_at h.2 i j a b hi hj he]
theorem nodup_mem {α β:Type} {f:α->β} {xs:List α} (h:(xs.map f).Nodup) {a b:α} (ha:a ∈ xs) (hb:b ∈ xs) (he:f a=f b):a=b:=by
 obtain ⟨i,hi⟩:=List.getElem?_of_mem ha
 obtain ⟨j,hj⟩:=List.getElem?_of_mem hb
 have:=nodup_at h i j a b hi hj he
 subst this
 rw [hi] at hj
 exact Option.some.inj hj
theorem tabB_dis {t:TTab} (h:tabB t=true):(t.map (·.1)).Nodup∧DisD t∧∀ d ∈ t,devB d=true:=by
 unfold tabB at h
 simp only [Bool.and_eq_true] at h
 have:=(tabL_dis h.2.2).1
 exact ⟨this,fun i j d e hi hj he=>nodup_at this i j d e hi hj he,tabL_dev h.2.2⟩
theorem devB_dis {d:TDev} (h:devB d=true):(d.2.map (·.1)).Nodup∧(d.2.map (·.2.1)).Nodup∧∀ p ∈ d.2,ptB p=true:=by
 have hp:=dev_pt h
 unfold devB at h
 simp only [Bool.and_eq_true] at h
 exact ⟨(devL_dis h.2.2).1.1,(devL_dis h.2.2).2.1,hp⟩
theorem tab_good {t:TTab} (h:tabB t=true) (ht:TabR t):∀ d ∈ t,GoodP d.2:=fun d hd p hp=>⟨(ht.2 d hd).2 p hp,ptB_rgt ((devB_dis ((tabB_dis h).2.2 d hd)).2.2 p hp)⟩
theorem setsS_ok {d:TDev}:∀ {ss:List TSet} {N:List (List UInt8)},setsS d ss N=none->((ss.map (·.1)).Nodup∧∀ s ∈ ss,s.1 ∉ N)∧∀ s ∈ ss,∃ z,srch (fun p=>eqs p.1 s.1) d.2 0=some z∧(wrdS z.2 s).2=0
 | [],_,_=>⟨⟨by simp,(fun d hd=>by cases hd)⟩,(fun d hd=>by cases hd)⟩
 | s::q,N,h=>by
  rw [setsS] at h
  cases hz:srch (fun p=>eqs p.1 s.1) d.2 0 with
  | none=>rw [hz] at h; cases h
  | some z =>
   rw [hz] at h
   dsimp only at h
   by_cases h1:s.1 ∈ N
   ·rw [if_pos h1] at h; cases h
   ·rw [if_neg h1] at h
    by_cases h2:(wrdS z.2 s).2=0
    ·rw [if_pos h2] at h
     obtain ⟨⟨h3,h4⟩,h5⟩:=setsS_ok h
     refine ⟨⟨?_,fun x hx=>?_⟩,fun x hx=>?_⟩
     ·rw [List.map_cons,List.nodup_cons]; refine ⟨fun hm=>?_,h3⟩; obtain ⟨e,he,h6⟩:=List.mem_map.1 hm; exact h4 e he (by rw [h6]; exact List.mem_cons_self ..)
     ·rcases List.mem_cons.1 hx with rfl | hx
      ·exact h1
      ·exact fun hm=>h4 x hx (List.mem_cons_of_mem _ hm)
     ·rcases List.mem_cons.1 hx with rfl | hx
      ·exact ⟨z,hz,h2⟩
      ·exact h5 x hx
    ·rw [if_neg h2] at h; cases h
theorem partsS_ok {t:TTab}:∀ {ps:List TPart} {N:List (List UInt8)},partsS t ps N=none->((ps.map (·.1)).Nodup∧∀ p ∈ ps,p.1 ∉ N)∧∀ p ∈ ps,∃ z,srch (fun d=>eqs d.1 p.1) t 0=some z∧setsS z.2 p.2.2 []=none
 | [],_,_=>⟨⟨by simp,(fun d hd=>by cases hd)⟩,(fun d hd=>by cases hd)⟩
 | p::q,N,h=>by
  rw [partsS] at h
  cases hz:srch (fun d=>eqs d.1 p.1) t 0 with
  | none=>rw [hz] at h; cases h
  | some z =>
   rw [hz] at h
   dsimp only at h
   by_cases h1:p.1 ∈ N
   ·rw [if_pos h1] at h; cases h
   ·rw [if_neg h1] at h
    cases h2:setsS z.2 p.2.2 [] with
    | some f=>rw [h2] at h; cases h
    | none =>
     rw [h2] at h
     dsimp only at h
     obtain ⟨⟨h3,h4⟩,h5⟩:=partsS_ok h
     refine ⟨⟨?_,fun x hx=>?_⟩,fun x hx=>?_⟩
     ·rw [List.map_cons,List.nodup_cons]; refine ⟨fun hm=>?_,h3⟩; obtain ⟨e,he,h6⟩:=List.mem_map.1 hm; exact h4 e he (by rw [h6]; exact List.mem_cons_self ..)
     ·rcases List.mem_cons.1 hx with rfl | hx
      ·exact h1
      ·exact fun hm=>h4 x hx (List.mem_cons_of_mem _ hm)
     ·rcases List.mem_cons.1 hx with rfl | hx
      ·exact ⟨z,hz,h2⟩
      ·exact h5 x hx
theorem setsS_err {d:TDev}:∀ {ss:List TSet} {N:List (List UInt8)} {f:Int×Int},setsS d ss N=some f->f.1=151∨f.1=152∨f.1=153
 | [],_,_,h=>by cases h
 | s::q,N,f,h=>by
  rw [setsS] at h
  split at h
  ·cases h; exact .inl rfl
  ·rename_i z hz
   split at h
   ·cases h; exact .inl rfl
   ·split at h
    ·exact setsS_err h
    ·rename_i h2
     cases h
     rcases wrd_err z.2 s with h | h
     ·exact absurd h h2
     ·exact .inr h
theorem partsS_err {t:TTab}:∀ {ps:List TPart} {N:List (List UInt8)} {f:Int×Int},partsS t ps N=some f->f.1=150∨f.1=151∨f.1=152∨f.1=153
 | [],_,_,h=>by cases h
 | p::q,N,f,h=>by
  rw [partsS] at h
  split at h
  ·cases h; exact .inl rfl
  ·split at h
   ·cases h; exact .inl rfl
   ·split at h
    ·rename_i g hg
     cases h
     exact .inr (setsS_err hg)
    ·exact partsS_err h
theorem check_cases (t:TTab) (r:TRec):(checkS t r=(0,0)∧tabB t=true∧rightB r=true∧partsS t r.2 []=none)∨((checkS t r).1 ≠ 0∧(checkS t r).1 ≠ 160):=by
 unfold checkS
 by_cases h:(tabB t && rightB r)=true
 ·rw [if_pos h]
  rw [Bool.and_eq_true] at h
  cases hp:partsS t r.2 [] with
  | none=>exact .inl ⟨rfl,h.1,h.2,rfl⟩
  | some f =>
   right
   have:=partsS_err hp
   show f.1 ≠ 0∧f.1 ≠ 160
   omega
 ·rw [if_neg h]
  right
  decide
theorem wrD_func {t:TTab} {r:TRec} (hB:tabB t=true) (hN:partsS t r.2 []=none) {d:TDev} (hd:d ∈ t):Func (wrD d r.2):=by
 obtain ⟨⟨hps,_⟩,hz⟩:=partsS_ok hN
 obtain ⟨hn,ha,_⟩:=devB_dis ((tabB_dis hB).2.2 d hd)
 have key:∀ a w,(a,w) ∈ wrD d r.2->∃ p ∈ r.2,d.1=p.1∧∃ s ∈ p.2.2,∃ q ∈ d.2,q.1=s.1∧q.2.1=a∧(wrdS q s).1=w:=by
  intro a w h
  unfold wrD at h
  obtain ⟨p,hp,h⟩:=List.mem_flatMap.1 h
  split at h
  ·rename_i he
   unfold wrS at h
   obtain ⟨s,hs,h⟩:=List.mem_flatMap.1 h
   unfold wrP at h
   obtain ⟨q,hq,h⟩:=List.mem_map.1 h
   obtain ⟨hq1,hq2⟩:=List.mem_filter.1 hq
   cases h
   exact ⟨p,hp,eqs_i.1 he,s,hs,q,hq1,eqs_i.1 hq2,rfl,rfl⟩
  ·cases h
 intro a w v h1 h2
 obtain ⟨p1,hp1,e1,s1,hs1,q1,hq1,f1,g1,k1⟩:=key a w h1
 obtain ⟨p2,hp2,e2,s2,hs2,q2,hq2,f2,g2,k2⟩:=key a v h2
 have hp:p1=p2:=nodup_mem hps hp1 hp2 (by rw [<- e1,<- e2])
 subst hp
 have hq:q1=q2:=nodup_mem ha hq1 hq2 (by rw [g1,g2])
 subst hq
 obtain ⟨z,_,hz2⟩:=hz p1 hp1
 have hs:s1=s2:=nodup_mem (setsS_ok hz2).1.1 hs1 hs2 (by rw [<- f1,<- f2])
 subst hs
 rw [<- k1,<- k2]
theorem wrD_mem {d:TDev} {ps:List TPart} {a w:Int}:(a,w) ∈ wrD d ps ↔ ∃ p ∈ ps,d.1=p.1∧∃ s ∈ p.2.2,∃ q ∈ d.2,q.1=s.1∧q.2.1=a∧(wrdS q s).1=w:=by
 unfold wrD wrS wrP
 simp only [List.mem_flatMap]
 constructor
 ·rintro ⟨p,hp,h⟩
  split at h
  ·rename_i he
   simp only [List.mem_flatMap,List.mem_map,List.mem_filter] at h
   obtain ⟨s,hs,q,⟨hq1,hq2⟩,h⟩:=h
   cases h
   exact ⟨p,hp,eqs_i.1 he,s,hs,q,hq1,eqs_i.1 hq2,rfl,rfl⟩
  ·cases h
 ·rintro ⟨p,hp,he,s,hs,q,hq,h1,h2,h3⟩
  refine ⟨p,hp,?_⟩
  rw [if_pos (eqs_i.2 he)]
  simp only [List.mem_flatMap,List.mem_map,List.mem_filter]
  exact ⟨s,hs,q,⟨hq,eqs_i.2 h1⟩,by rw [h2,h3]⟩
theorem qsz_ {t:TTab} {r:TRec} (ht:TabR t) (hr:RecR r):qdd_ (t,r,())=if checkS t r=(0,0) then some (qm_ t r.2,(0,0),()) else some ([],checkS t r,()):=by
 have ht1:=ht.1
 show (q51_ (t,r,())).bind (fun f=>if (!(eqi f.1.1 0 && (eqi f.1.2 0 && true)))=true then some (([],f.1,()):As q15_.rs) else
  if (okT t && okP r.2 && decide (t.length≤1000))=true then (wAll q1k_ qv_ t r.2 (List.replicate t.length [])).bind (fun l=>some (l,(0,0),())) else none)=_
 rw [check_eq ht hr,Option.bind_some]
 dsimp only
 rcases check_cases t r with ⟨h1,h2,h3,h4⟩ | ⟨h1,_⟩
 ·rw [h1,if_neg (by decide),if_pos rfl]
  have h5:okT t=true:=List.all_eq_true.2 fun d hd=>decide_eq_true (ht.2 d hd).1
  have h6:okP r.2=true:=by
   unfold okP
   rw [decide_eq_true hr.1]
   exact List.all_eq_true.2 fun p hp=>decide_eq_true (hr.2 p hp).1
  rw [h5,h6,decide_eq_true ht1,if_pos (show (true && true && true)=true from rfl),wordsS_eq (by omega) (tabB_dis h2).2.1 (tab_good h2 ht) fun y hy=>(hr.2 y hy).2,Option.bind_some]
 ·have:¬ checkS t r=(0,0):=fun e=>h1 (by rw [e])
  rw [if_neg this,if_pos]
  have:eqi (checkS t r).1 0=false:=by rw [Bool.eq_false_iff]; exact fun e=>h1 (q9_.1 e)
  rw [this]
  rfl
end Go.Proofs.Lx
end
section
set_option maxRecDepth 100000
namespace Go.Proofs.Lx
open Go Ev Sx Pl
def ents:Nat->List Int->List Bool->List (Int×Int)
 | i,w::ws,b::bs=>if b=true then ((i:Int),w)::ents (i + 1) ws bs else ents (i + 1) ws bs
 | _,_,_=>[]
def rise (es:zJ13):Prop:=(es.map (·.1)).Pairwise (·< ·)
theorem ents_lo:∀ {i:Nat} {ws:List Int} {bs:List Bool} {e:Int×Int},e ∈ ents i ws bs->(i:Int)≤e.1∧e.1 < i + bs.length
 | i,w::ws,b::bs,e,h=>by
  unfold ents at h
  have hr:∀ {e},e ∈ ents (i + 1) ws bs->(i:Int)≤e.1∧e.1 < i + (b::bs).length:=fun h=>by
   have:=ents_lo h
   simp only [List.length_cons]
   omega
  split at h
  ·rcases List.mem_cons.1 h with h | h
   ·subst h; simp only [List.length_cons]; omega
   ·exact hr h
  ·exact hr h
 | _,[],_,_,h=>by simp [ents] at h
 | _,_::_,[],_,h=>by simp [ents] at h
theorem ents_rise:∀ {i:Nat} {ws:List Int} {bs:List Bool},rise (ents i ws bs)
 | i,w::ws,b::bs=>by
  unfold ents
  split
  ·unfold rise
   simp only [List.map_cons,List.pairwise_cons]
   refine ⟨fun k hk=>?_,ents_rise⟩
   obtain ⟨e,he,rfl⟩:=List.mem_map.1 hk
   have:=ents_lo he
   omega
  ·exact ents_rise
 | _,[],_=>by simp [ents,rise]
 | _,_::_,[]=>by simp [ents,rise]
theorem ents_len:∀ {i:Nat} {ws:List Int} {bs:List Bool},(ents i ws bs).length≤bs.length
 | i,w::ws,b::bs=>by
  unfold ents
  have:=@ents_len (i + 1) ws bs
  split <;> simp only [List.length_cons] <;> omega
 | _,[],_=>by simp [ents]
 | _,_::_,[]=>by simp [ents]
theorem keqi {k:IntKind} {a b:Int}:keq (.int k) a b=true ↔ a=b:=by simp [keq,eqi]
theorem dget_in {k:IntKind}:∀ {m:List (Int×Int)} {a b:Int},rise m->(a,b) ∈ m->dget (.int k) m a=some b
 | [],_,_,_,h=>by cases h
 | (c,d)::r,a,b,hr,h=>by
  unfold rise at hr
  simp only [List.map_cons,List.pairwise_cons] at hr
  unfold dget
  rcases List.mem_cons.1 h with h | h
  ·cases h
   rw [if_pos (keqi.2 rfl)]
  ·have:=hr.1 a (List.mem_map.2 ⟨_,h,rfl⟩)
   rw [if_neg (by rw [keqi]; omega)]
   exact dget_in hr.2 h
theorem sorted_rise {m:List (Int×Int)} (h:rise m):sorted (m.map (·.1))=m.map (·.1) :=
 List.mergeSort_of_pairwise (h.imp fun h=>by simp; omega)
def stepV (v:Int) (l:List Bk) (z:Int):Option (List Bk) :=
 if z < 0∨64≤z then none else
 match l.getLast? with
 | none=>some [(z,[v])]
 | some (a,ws)=>if z ≠ a + (ws.length:Int)∨ws.length=14 then (if l.length=8 then none else some (l++[(z,[v])])) else some (l.dropLast++[(a,ws++[v])])
theorem stepV_eq (m:zJ13) (l:List Bk) (z:Int):bkStep m l z=stepV (bkV m z) l z:=rfl
def foldE:List (Int×Int)->Option (List Bk)->Option (List Bk)
 | [],r=>r
 | e::q,r=>foldE q (r.bind fun l=>stepV e.2 l e.1)
theorem bkAll_fold {m:List (Int×Int)}:∀ {es:List (Int×Int)} {r:Option (List Bk)},(∀ e ∈ es,dget kT m e.1=some e.2)->bkAll m (es.map (·.1)) r=foldE es r
 | [],_,_=>rfl
 | e::q,r,h=>by
  show bkAll m (q.map (·.1)) _=foldE q _
  rw [bkAll_fold fun e he=>h e (List.mem_cons_of_mem _ he)]
  have hv:bkV m e.1=e.2:=by unfold bkV; rw [h e (List.mem_cons_self ..)]; rfl
  congr 1
  cases r with
  | none=>rfl
  | some l=>show bkStep m l e.1=stepV e.2 l e.1; rw [stepV_eq,hv]
def resOf:Option (List Bk)->List Bk×Bool
 | some l=>(l,true)
 | none=>([],false)
theorem bkRes_eq (m:zJ13):bkRes m=if m.length > 64 then ([],false) else resOf (bkAll m (sorted (m.map (·.1))) (some [])):=by
 unfold bkRes
 cases bkAll m (sorted (m.map (·.1))) (some []) <;> rfl
theorem bkRes_rise {m:List (Int×Int)} (h:rise m) (hl:m.length≤64):bkRes m=resOf (foldE m (some [])):=by
 rw [bkRes_eq,if_neg (by omega),sorted_rise h,bkAll_fold fun e he=>dget_in h he]
theorem bkRes_far {m:List (Int×Int)} (h:rise m) (hk:∀ e ∈ m,e.1 < 64) (v:Int):bkRes (m++[(64,v)])=([],false):=by
 rw [bkRes_eq]
 split
 ·rfl
 ·have hr:rise (m++[(64,v)]):=by
   unfold rise
   rw [List.map_append,List.pairwise_append]
   refine ⟨h,by simp,fun a ha b hb=>?_⟩
   obtain ⟨e,he,rfl⟩:=List.mem_map.1 ha
   simp at hb
   have:=hk e he
   omega
  rw [sorted_rise hr,List.map_append,List.map_singleton,bkAll_snoc]
  cases bkAll (m++[(64,v)]) (m.map (·.1)) (some []) with
  | none=>rfl
  | some l =>
   have:bkStep (m++[(64,v)]) l 64=none:=by unfold bkStep; rw [if_pos (.inr (by decide))]
   show resOf (bkStep (m++[(64,v)]) l 64)=_
   rw [this]
   rfl
def fl:Int->List Int->List (Int×Int)
 | a,w::r=>(a,w)::fl (a + 1) r
 | _,[]=>[]
theorem fl_snoc:∀ (a:Int) (ws:List Int) (v:Int),fl a (ws++[v])=fl a ws++[(a + (ws.length:Int),v)]
 | a,[],v=>by simp [fl]
 | a,w::r,v=>by
  show (a,w)::fl (a + 1) (r++[v])=(a,w)::(fl (a + 1) r++_)
  rw [fl_snoc (a + 1) r v]
  have:a + 1 + (r.length:Int)=a + ((w::r).length:Int):=by simp only [List.length_cons]; omega
  rw [this]
def flat (l:List Bk):List (Int×Int):=l.flatMap fun b=>fl b.1 b.2
def nxt (b c:Bk):Prop:=b.1 + (b.2.length:Int) < c.1∨(b.1 + (b.2.length:Int)=c.1∧b.2.length=14)
structure Good (l:List Bk):Prop where
 len:∀ b ∈ l,1≤b.2.length∧b.2.length≤14
 chn:∀ (j:Nat) (b c:Bk),l[j]? = some b->l[j + 1]? = some c->nxt b c
def rl:List Bool->Nat×Nat->Nat×Nat
 | [],p=>p
 | b::q,p=>rl q (if b=true then (p.1 + 1,if p.1 % 14=0 then p.2 + 1 else p.2) else (0,p.2))
structure BI (i runs:Nat) (l:List Bk):Prop where
 zero:runs=0->∀ a ws,l.getLast? = some (a,ws)->a + (ws.length:Int) < i
 pos:runs ≠ 0->∃ l' a ws,l=l'++[(a,ws)]∧a + (ws.length:Int)=i∧ws.length=(runs - 1) % 14 + 1
def InvB (i runs least:Nat) (done:zJ13):Option (List Bk)->Prop
 | none=>9≤least
 | some l=>Good l∧l.length=least∧l.length≤8∧flat l=done∧BI i runs l
theorem good_snoc {l:List Bk} {x:Bk} (h:Good l) (h1:1≤x.2.length) (h2:x.2.length≤14) (h3:∀ b,l.getLast? = some b->nxt b x):Good (l++[x]):=by
 refine ⟨fun b hb=>?_,fun j b c hb hc=>?_⟩
 ·rcases List.mem_append.1 hb with hb | hb
  ·exact h.len b hb
  ·simp at hb; subst hb; exact ⟨h1,h2⟩
 ·rcases Nat.lt_trichotomy (j + 1) l.length with hj | hj | hj
  ·rw [List.getElem?_append_left (by omega)] at hb
   rw [List.getElem?_append_left hj] at hc
   exact h.chn j b c hb hc
  ·rw [List.getElem?_append_left (by omega)] at hb
   rw [List.getElem?_append_right (by omega),hj] at hc
   simp at hc
   subst hc
   refine h3 b ?_
   rw [List.getLast?_eq_getElem?,<- hb]
   congr 1
   omega
  ·rw [List.getElem?_append_right (by omega)] at hc
   rw [List.getElem?_eq_none (by simp; omega)] at hc
   cases hc
theorem good_grow {l:List Bk} {a:Int} {ws:List Int} {v:Int} (h:Good (l++[(a,ws)])) (h2:ws.length < 14):Good (l++[(a,ws++[v])]):=by
 have h0:Good l:=⟨fun b hb=>h.len b (List.mem_append_left _ hb),fun j b c hb hc=>h.chn j b c (by rw [List.getElem?_append_left (List.getElem?_eq_some_iff.1 hb).1]; exact hb) (by rw [List.getElem?_append_left (List.getElem?_eq_some_iff.1 hc).1]; exact hc)⟩
 refine good_snoc h0 (by simp) (by simp; omega) fun b hb=>?_
 rw [List.getLast?_eq_getElem?] at hb
 have hlt:=(List.getElem?_eq_some_iff.1 hb).1
 have:=h.chn (l.length - 1) b (a,ws) (by rw [List.getElem?_append_left hlt]; exact hb) (by rw [show l.length - 1 + 1=l.length by omega,List.getElem?_append_right (Nat.le_refl _)]; simp)
 exact this
theorem flat_snoc (l:List Bk) (b:Bk):flat (l++[b])=flat l++fl b.1 b.2:=by simp [flat]
theorem stepB {i runs least:Nat} {done:List (Int×Int)} {B:Option (List Bk)} (h:InvB i runs least done B) (hi:i < 64) (v:Int) :
  InvB (i + 1) (runs + 1) (if runs % 14=0 then least + 1 else least) (done++[((i:Int),v)]) (B.bind fun l=>stepV v l i):=by
 cases B with
 | none =>
  show 9≤_
  have:9≤least:=h
  split <;> omega
 | some l =>
  obtain ⟨h1,h2,h3,h4,h5⟩:=h
  show InvB _ _ _ _ (stepV v l i)
  have push:runs % 14=0->(∀ b,l.getLast? = some b->nxt b ((i:Int),[v]))->InvB (i + 1) (runs + 1) (if runs % 14=0 then least + 1 else least) (done++[((i:Int),v)]) (if l.length=8 then none else some (l++[((i:Int),[v])])):=by
   intro hr hn
   rw [if_pos hr]
   by_cases h8:l.length=8
   ·rw [if_pos h8]
    show 9≤_
    omega
   ·rw [if_neg h8]
    refine ⟨good_snoc h1 (by simp) (by simp) hn,by simp [h2],by simp; omega,by rw [flat_snoc,h4]; rfl,⟨fun h=>by omega,fun _=>⟨l,i,[v],rfl,by simp,by simp; omega⟩⟩⟩
  have hin:¬ ((i:Int) < 0∨64≤(i:Int)):=by omega
  cases hl:l.getLast? with
  | none =>
   have hnil:l=[]:=List.getLast?_eq_none_iff.1 hl
   subst hnil
   have hr:runs=0:=by
    rcases Nat.eq_zero_or_pos runs with h | h
    ·exact h
    ·obtain ⟨l',a,ws,h6,_⟩:=h5.pos (by omega)
     simp at h6
   have e:stepV v [] i=some ([]++[((i:Int),[v])]):=by unfold stepV; rw [if_neg hin]; rfl
   rw [e]
   exact push (by rw [hr]) (fun b hb=>by simp at hb)
  | some b =>
   obtain ⟨a,ws⟩:=b
   have hmem:(a,ws) ∈ l:=List.mem_of_getLast? hl
   have hlen:=h1.len _ hmem
   simp only at hlen
   have e:stepV v l i=if (i:Int) ≠ a + (ws.length:Int)∨ws.length=14 then (if l.length=8 then none else some (l++[((i:Int),[v])])) else some (l.dropLast++[(a,ws++[v])]):=by
    unfold stepV
    rw [if_neg hin,hl]
   rw [e]
   by_cases hr:runs=0
   ·have hz:=h5.zero hr a ws hl
    rw [if_pos (show (i:Int) ≠ a + (ws.length:Int)∨ws.length=14 from .inl (by omega))]
    refine push (by rw [hr]) fun b hb=>?_
    rw [hl] at hb
    cases hb
    exact .inl hz
   ·obtain ⟨l',a',ws',h6,h7,h8⟩:=h5.pos hr
    have he:(a',ws')=(a,ws):=by
     rw [h6,List.getLast?_append] at hl
     simpa using hl
    cases he
    by_cases h14:ws.length=14
    ·rw [if_pos (show (i:Int) ≠ a + (ws.length:Int)∨ws.length=14 from .inr h14)]
     refine push (by omega) fun b hb=>?_
     rw [hl] at hb
     cases hb
     exact .inr ⟨h7,h14⟩
    ·rw [if_neg (show ¬ ((i:Int) ≠ a + (ws.length:Int)∨ws.length=14) by omega),if_neg (show ¬ runs % 14=0 by omega)]
     have hd:l.dropLast=l':=by rw [h6]; simp
     rw [hd]
     rw [h6] at h1 h2 h3 h4
     refine ⟨good_grow h1 (by omega),by simpa using h2,by simpa using h3,?_,⟨fun h=>by omega,fun _=>⟨l',a,ws++[v],rfl,by simp; omega,by simp; omega⟩⟩⟩
     rw [flat_snoc] at h4 ⊢
     show flat l'++fl a (ws++[v])=_
     rw [fl_snoc,<- List.append_assoc]
     have h4:flat l'++fl a ws=done:=h4
     rw [h4,h7]
theorem gapB {i runs least:Nat} {done:List (Int×Int)} {B:Option (List Bk)} (h:InvB i runs least done B):InvB (i + 1) 0 least done B:=by
 cases B with
 | none=>exact h
 | some l =>
  obtain ⟨h1,h2,h3,h4,h5⟩:=h
  refine ⟨h1,h2,h3,h4,⟨fun _ a ws hl=>?_,fun h=>absurd rfl h⟩⟩
  by_cases hr:runs=0
  ·have:=h5.zero hr a ws hl
   omega
  ·obtain ⟨l',a',ws',h6,h7,h8⟩:=h5.pos hr
   have he:(a',ws')=(a,ws):=by
    rw [h6,List.getLast?_append] at hl
    simpa using hl
   cases he
   omega
theorem allB:∀ (ws:List Int) (bs:List Bool) (i runs least:Nat) (done:zJ13) (B:Option (List Bk)),ws.length=bs.length->i + bs.length≤64->InvB i runs least done B ->
  InvB (i + bs.length) (rl bs (runs,least)).1 (rl bs (runs,least)).2 (done++ents i ws bs) (foldE (ents i ws bs) B)
 | [],[],i,runs,least,done,B,_,_,h=>by simpa [rl,ents,foldE] using h
 | [],_::_,_,_,_,_,_,h,_,_=>by simp at h
 | _::_,[],_,_,_,_,_,h,_,_=>by simp at h
 | w::ws,b::bs,i,runs,least,done,B,hl,hi,h=>by
  simp only [List.length_cons] at hl hi ⊢
  cases b with
  | true =>
   have:=allB ws bs (i + 1) (runs + 1) (if runs % 14=0 then least + 1 else least) _ _ (by omega) (by omega) (stepB h (by omega) w)
   rw [show i + (bs.length + 1)=i + 1 + bs.length by omega]
   simp only [rl,ents,foldE,if_true]
   rw [List.append_assoc] at this
   exact this
  | false =>
   have:=allB ws bs (i + 1) 0 least done B (by omega) (by omega) (gapB h)
   rw [show i + (bs.length + 1)=i + 1 + bs.length by omega]
   simp only [rl,ents,Bool.false_eq_true,if_false]
   exact this
theorem startB:InvB 0 0 0 [] (some []):=⟨⟨(fun b hb=>by cases hb),(fun j b c hb=>by simp at hb)⟩,rfl,by simp,rfl,⟨(fun _ a ws h=>by simp at h),fun h=>absurd rfl h⟩⟩
end Go.Proofs.Lx
end
