/- Proved in the last of these 15 parts (this is part 10): TalkLate. Conditions: those of the given statement, and no others. -/
import Derived.Test.YtljkanofaahagaaGreatPartd
import Derived.Test.YtljkanofaahagaaGreatParti
import Derived.Test.YtljkanofaahagaaGreatProg
import Derived.Test.YtljkanofaahagaaGreatParte
set_option linter.unusedVariables false
set_option linter.unusedSimpArgs false
set_option linter.unusedSectionVars false
open Option renaming bind → zC, none → zH
open Int renaming ofNat → zF, toNat → zI
open List renaming length → zG
open Go.Value renaming slice → zK
noncomputable section
open Go Go.Proofs Ev Sx
set_option maxRecDepth 100000
namespace Go.Proofs.Lx
abbrev q14_:Type:=List Int×(Int×Int)×Int×Int×Int×YTT12×Int
abbrev qp_:Type:=Int×Int×YTT4×List Bool
abbrev TaA6q2:Type:=YTT3×Int×Int×List (Int×List Int)×Int×Int×Int×Int×Int
@[reducible] def zJ0:Type:=Int×Int×Int×Int×Int
@[reducible] def q1ag_:Sh:=⟨[.d aG,.d cE],[],aW,[.d aG],[],0,bF⟩
def qmb_ (a:q14_) (c:zJ0):Option cT :=
 zC (q13b_ (a.2.1,c.1,())) fun y=>some ((a.1,y.1,2,a.2.2.2),())
def qkw_ (x:As aW):Option cT:=qmb_ x.1 x.2.1
theorem q18z_:CtOk Tryz.prog (fun _=>True) 292 ⟨q1ag_,qkw_⟩:=ctn (q0_ q1hb_ q1_) 6 fun J x=>by kernel_rfl
@[reducible] def q1a6_:Sh:=⟨[.d aG,.d cE],[],aW,[.d (.bool)],[],0,[.bool]⟩
def q19y_:Env:=(cts [(2000043,Ev.bxCt),(276,(⟨qx2_,qd1_⟩:Ct))])
def qiw_ (a:q14_) (c:zJ0):Option aF :=
 if nei a.2.2.2.2.1 c.2.2.1=true then zC (qd1_ (a,2,c.2.2.1,())) fun y=>some (!y.1,()) else some (false,())
def qhl_ (x:As aW):Option aF:=qiw_ x.1 x.2.1
theorem q17g_:CtOk Tryz.prog (fun _=>True) 293 ⟨q1a6_,qhl_⟩:=ctn (env:=q19y_) (q0_ Ev.bx_ok (q0_ q10l_ q1_)) 6 fun J x=>by kernel_rfl
@[reducible] def q13x_:Sh:=⟨[.d YTT8],[],bQ,[.d (.bool)],[],0,[.bool]⟩
def qs0_ (x:Int×List Int):Option aF :=
 zC (q5j_ (x,())) fun y=>some (!y.1,())
def qsr_ (x:As bQ):Option aF:=qs0_ x.1
theorem qr5_:CtOk Tryz.prog (fun _=>True) 94 ⟨q13x_,qsr_⟩:=ctn (q0_ qcj_ q1_) 6 fun J x=>by kernel_rfl
@[reducible] def q2e_:Sh:=⟨[.d (.sl YTT8),.fn (.func 94) [] []],[],[.sl YTT8],[.d (.int .i64)],[],0,[.int .i64]⟩
def q39_:Env:=(cts [(94,(⟨q13x_,qsr_⟩:Ct))])
def q3a_:List (Nat×Hint):=[(26,⟨[],[0,1,7,8]⟩)]
@[reducible] def zJ1:Type:=List (Int×List Int)
def q30_ (s:zJ1) (t7 t8:Int):St:=⟨[(0,.d (.sl YTT8) s),(1,.fn (.func 94) [] []),(7,dI t7),(8,dI t8)],19,[],[],0,[],0⟩
@[reducible] def zJ2:Type:=List (Int×List Int)->Int->Int->Option cI
def q23_ (self1:zJ2) (s:zJ1) (t7 t8:Int):Option cI :=
 if lt t8 t7=true then zC (at? s t8) fun y=>zC (qsr_ (y,())) fun y=>if y.1=true then some (t8,()) else self1 s t7 (add .i64 t8 1) else some (-1,())
def qa3_ (j1:zJ2) (s:zJ1):Option cI :=
 j1 s (zF (zG s)) 0
def q29_ (s:zJ1) (t7 t8:Int):Option cI :=
 loopF (fun self s=>q23_ (fun s t7 t8=>self (s,t7,t8)) s.1 s.2.1 s.2.2) 18446744073709551616 (s,t7,t8)
def q3v_ (x:As [.sl YTT8]):Option cI:=qa3_ q29_ x.1
abbrev pD1:=zp q39_ q3a_ 152 q2e_
theorem qpx_ {J w1 a b c}:pD1 J 26 [w1] (q30_ a b c)=q23_ (C w1 q30_) a b c:=by kernel_rfl
abbrev pD0:=zj q39_ q3a_ 152 q2e_
theorem qpl_:C (pD0 26 []) q30_=q29_:=gLC (by decide) (by kernel_rfl) (fun _=>by unfold q29_; rfl) fun _ _=>qpx_.trans (by kernel_rfl)
theorem qop_:CtOk Tryz.prog (fun _=>True) 152 ⟨q2e_,q3v_⟩:=zcc (env:=q39_) (d:=6) (hs:=Ev.get q3a_) (q0_ qr5_ q1_) (fun J x=>qa3_ (C (J 26 []) q30_) x.1) (fun _ _=>by kernel_rfl) fun _=>by rw [qpl_] <;> rfl
@[reducible] def qmd_:Sh:=⟨[.d (.sl YTT8),.fn (.func 94) [] []],[],[.sl YTT8],[.d (.bool)],[],0,[.bool]⟩
def q44_ (s:zJ1):Option aF :=
 zC (q3v_ (s,())) fun y=>some (ge y.1 0,())
def q55_ (x:As [.sl YTT8]):Option aF:=q44_ x.1
theorem qjc_:CtOk Tryz.prog (fun _=>True) 93 ⟨qmd_,q55_⟩:=ctn (q0_ qr5_ (q0_ qop_ q1_)) 6 fun J x=>by kernel_rfl
@[reducible] def q1aq_:Sh:=⟨[.d (.sl YTT8)],[],[.sl YTT8],[.d (.bool)],[],0,[.bool]⟩
def q10q_ (l:zJ1):Option aF :=
 zC (q55_ (l,())) fun y=>some (!y.1,())
def q13c_ (x:As [.sl YTT8]):Option aF:=q10q_ x.1
theorem q1mi_:CtOk Tryz.prog (fun _=>True) 44 ⟨q1aq_,q13c_⟩:=ctn (q0_ qjc_ (q0_ qr5_ q1_)) 6 fun J x=>by kernel_rfl
@[reducible] def qek_:Sh:=⟨[.d aC,.d (.sl YTT8)],[],[.sl (.int .u16),.sl YTT8],[.d aC,.d (.int .i64)],[],0,bT⟩
def qtf_:Env:=(cts [(44,(⟨q1aq_,q13c_⟩:Ct)),(45,(⟨q4x_,q2b_⟩:Ct))])
def qu9_:List (Nat×Hint):=[(31,⟨[],[0]⟩),(250,⟨[],[0,16,17,18]⟩)]
def qpc_ (t16:zJ1) (t17 t18:Int) (bank:List Int):St:=⟨[(0,.row 0),(16,.d (.sl YTT8) t16),(17,dI t17),(18,dI t18)],31,[],[(0,.row (.int .u16) 25 bank)],1,[],0⟩
def qyu_ (bank:List Int):St:=⟨[(0,.row 0)],31,[],[(0,.row (.int .u16) 25 bank)],1,[],0⟩
@[reducible] def zJ3:Type:=List (Int×List Int)->Int->Int->List Int->Option (As bT)
def qbu_ (j2:List Int->Option (As bT)) (self1:zJ3) (t16:zJ1) (t17 t18:Int) (bank:List Int):Option (As bT) :=
 if lt t18 t17=true then zC (at? t16 t18) fun y=>need (ge y.1 0) (need (le y.1 (zF (zG bank))) (need (le (zF (zG bank)) (zF (zG bank))) (need (le (y.1 + (zF (zG bank) - y.1)) (zF (zG bank))) (self1 t16 t17 (add .i64 t18 1) (List.take (zI y.1) bank++List.take (zI (zF (zG bank) - y.1)) y.2++List.drop (zI y.1 + zG (List.take (zI (zF (zG bank) - y.1)) y.2)) bank))))) else j2 bank
def q15j_ (bank:List Int):Option (As bT) :=
 some (bank,0,())
def qpu_ (j1:zJ3) (bank:List Int) (l:zJ1):Option (As bT) :=
 if nei (zF (zG bank)) 64=true then some ([],21,()) else zC (q13c_ (l,())) fun y=>if (!y.1)=true then some ([],20,()) else zC (q2b_ (bank,())) fun y=>j1 l (zF (zG l)) 0 y.1
def q168_:=q15j_
def qbz_ (t16:zJ1) (t17 t18:Int) (bank:List Int):Option (As bT) :=
 loopF (fun self s=>qbu_ (q168_) (fun t16 t17 t18 bank=>self (t16,t17,t18,bank)) s.1 s.2.1 s.2.2.1 s.2.2.2) 18446744073709551616 (t16,t17,t18,bank)
def qg5_ (x:As [.sl (.int .u16),.sl YTT8]):Option (As bT):=qpu_ qbz_ x.1 x.2.1
abbrev pA5:=zp qtf_ qu9_ 12 qek_
theorem q1j6_ {J a}:pA5 J 31 [] (qyu_ a)=q15j_ a:=by kernel_rfl
theorem q1li_ {J w1 a b c d}:pA5 J 250 [w1] (qpc_ a b c d)=qbu_ (C (J 31 []) qyu_) (C w1 qpc_) a b c d:=by kernel_rfl
abbrev pA4:=zj qtf_ qu9_ 12 qek_
theorem q1jq_:C (pA4 31 []) qyu_=q168_:=gNC (by decide) fun _=>q1j6_
theorem q1hw_:C (pA4 250 []) qpc_=qbz_:=gLC (by decide) (by kernel_rfl) (fun _=>by unfold qbz_; rfl) fun _ _=>q1li_.trans (by rw [q1jq_] <;> kernel_rfl)
theorem q15t_:CtOk Tryz.prog (fun _=>True) 12 ⟨qek_,qg5_⟩:=zcc (env:=qtf_) (d:=6) (hs:=Ev.get qu9_) (q0_ q1mi_ (q0_ qfh_ q1_)) (fun J x=>qpu_ (C (J 250 []) qpc_) x.1 x.2.1) (fun _ _=>by kernel_rfl) fun _=>by rw [q1hw_] <;> rfl
@[reducible] def q1di_:Sh:=⟨[.d aG,.d cE],[],aW,[.d aG],[],0,bF⟩
def qob_ (a:q14_) (c:zJ0):Option cT :=
 if eqi a.2.2.2.2.1 c.2.2.1=true then some (a,()) else zC (q50_ (a.2.2.2.2.2.1,())) fun y=>zC (qg5_ (a.1,y.1,())) fun y=>if nei y.2.1 0=true then some (a,()) else zC (qel_ ((y.1,a.2.1,a.2.2.1,a.2.2.2.1,c.2.2.1,a.2.2.2.2.2),())) fun y=>some (y.1,())
def qqb_ (x:As aW):Option cT:=qob_ x.1 x.2.1
theorem q1b8_:CtOk Tryz.prog (fun _=>True) 294 ⟨q1di_,qqb_⟩:=ctn (q0_ q15t_ (q0_ qna_ (q0_ qrn_ q1_))) 6 fun J x=>by kernel_rfl
@[reducible] def q1bb_:Sh:=⟨[.d aG,.d cE],[],aW,[.d (.bool)],[],0,[.bool]⟩
def q1b9_:Env:=(cts [(2000043,Ev.bxCt)])
def q19e_ (a:q14_) (c:zJ0):Option aF :=
 some (le c.2.2.1 a.2.2.2.2.1,())
def qkt_ (x:As aW):Option aF:=q19e_ x.1 x.2.1
theorem q198_:CtOk Tryz.prog (fun _=>True) 295 ⟨q1bb_,qkt_⟩:=ctn (env:=q1b9_) (q0_ Ev.bx_ok q1_) 6 fun J x=>by kernel_rfl
@[reducible] def qeb_:Sh:=⟨[.d aG,.d cE],[],aW,[.d aG],[],0,bF⟩
def qk0_:Env:=(cts [(2000043,Ev.bxCt),(173,(⟨q141_,qel_⟩:Ct))])
def qkr_:List (Nat×Hint):=[(6,⟨[],[2,4,17]⟩)]
def qs1_ (a:q14_) (t4:Int) (t17:Bool) (t4_2:List YTT4):St:=⟨[(2,.pe aG a),(4,.prw 0 t4 32 0),(17,dB t17)],21,[],[(0,.row aG 43 t4_2)],1,[],0⟩
def qhf_ (a:q14_) (t4:Int) (t17:Bool) (t4_2:List YTT4):Option cT :=
 if t17=true then zC (at? t4_2 t4) fun x=>zC (at? (List.set t4_2 (zI t4) a) t4) fun y=>zC (at? (List.set t4_2 (zI t4) a) t4) fun y=>some (y,()) else zC (qel_ (a,())) fun y=>zC (at? t4_2 t4) fun x=>zC (at? (List.set t4_2 (zI t4) y.1) t4) fun y_1=>zC (at? (List.set t4_2 (zI t4) y.1) t4) fun y=>some (y,())
def qhg_ (j1:q14_->Int->Bool->List YTT4->Option cT) (a:q14_) (c:zJ0):Option cT :=
 if nei a.2.1.1 c.1=true then j1 a 0 true [zAg0] else j1 a 0 (nei a.2.2.2.1 c.2.2.1) [zAg0]
def qi1_:=qhf_
def qji_ (x:As aW):Option cT:=qhg_ qi1_ x.1 x.2.1
abbrev pAh:=zp qk0_ qkr_ 296 qeb_
theorem q1ec_ {J a b c d}:pAh J 6 [] (qs1_ a b c d)=qhf_ a b c d:=by kernel_rfl
abbrev pAg:=zj qk0_ qkr_ 296 qeb_
theorem q1cq_:C (pAg 6 []) qs1_=qi1_:=gNC (by decide) fun _=>q1ec_
theorem q1ej_:CtOk Tryz.prog (fun _=>True) 296 ⟨qeb_,qji_⟩:=zcc (env:=qk0_) (d:=6) (hs:=Ev.get qkr_) (q0_ Ev.bx_ok (q0_ qrn_ q1_)) (fun J x=>qhg_ (C (J 6 []) qs1_) x.1 x.2.1) (fun _ _=>by kernel_rfl) fun _=>by rw [q1cq_] <;> rfl
@[reducible] def q134_:Sh:=⟨[.d aG,.d cE],[],aW,[.d aG,.d (.int .i64)],[],0,cF⟩
def q10d_ (a:q14_) (c:zJ0):Option (As cF) :=
 zC (qmm_ (a,())) fun y=>amb (eqAs q134_.rs) [if eqi 1 c.2.1=true then if eqi c.1 0=true then some (y.1,2,()) else if eqi c.2.2.1 0=true then some (y.1,2,()) else zC (q2s_ (y.1,c.1,())) fun y_1=>if y_1.1=true then some (y.1,22,()) else zC (ql0_ (y.1,c,())) fun y_2=>if y_2.1=true then some (y.1,23,()) else zC (qtd_ (y.1,c,())) fun y=>some (y.1,0,()) else if eqi 2 c.2.1=true then if eqi c.1 0=true then some (y.1,2,()) else if eqi c.2.2.1 0=true then some (y.1,2,()) else zC (q2s_ (y.1,c.1,())) fun y_1=>if y_1.1=true then some (y.1,22,()) else zC (qft_ (y.1,c,())) fun y_2=>if y_2.1=true then some (y.1,23,()) else zC (qkw_ (y.1,c,())) fun y=>some (y.1,0,()) else if eqi 3 c.2.1=true then if eqi c.1 0=true then some (y.1,2,()) else if eqi c.2.2.1 0=true then some (y.1,2,()) else zC (q2s_ (y.1,c.1,())) fun y_1=>if y_1.1=true then some (y.1,22,()) else zC (qhl_ (y.1,c,())) fun y_2=>if y_2.1=true then some (y.1,23,()) else zC (qqb_ (y.1,c,())) fun y=>some (y.1,0,()) else if eqi 4 c.2.1=true then if eqi c.1 0=true then some (y.1,2,()) else if eqi c.2.2.1 0=true then some (y.1,2,()) else zC (q2s_ (y.1,c.1,())) fun y_1=>if y_1.1=true then some (y.1,22,()) else zC (qkt_ (y.1,c,())) fun y_2=>if y_2.1=true then some (y.1,23,()) else zC (qji_ (y.1,c,())) fun y=>some (y.1,0,()) else if eqi c.1 0=true then some (y.1,2,()) else if eqi c.2.2.1 0=true then some (y.1,2,()) else some (y.1,2,()),if eqi 1 c.2.1=true then if eqi c.1 0=true then some (y.1,2,()) else if eqi c.2.2.1 0=true then some (y.1,2,()) else zC (q2s_ (y.1,c.1,())) fun y_1=>if y_1.1=true then some (y.1,22,()) else zC (ql0_ (y.1,c,())) fun y_2=>if y_2.1=true then some (y.1,23,()) else zC (qtd_ (y.1,c,())) fun y=>some (y.1,0,()) else if eqi 2 c.2.1=true then if eqi c.1 0=true then some (y.1,2,()) else if eqi c.2.2.1 0=true then some (y.1,2,()) else zC (q2s_ (y.1,c.1,())) fun y_1=>if y_1.1=true then some (y.1,22,()) else zC (qft_ (y.1,c,())) fun y_2=>if y_2.1=true then some (y.1,23,()) else zC (qkw_ (y.1,c,())) fun y=>some (y.1,0,()) else if eqi 3 c.2.1=true then if eqi c.1 0=true then some (y.1,2,()) else if eqi c.2.2.1 0=true then some (y.1,2,()) else zC (q2s_ (y.1,c.1,())) fun y_1=>if y_1.1=true then some (y.1,22,()) else zC (qhl_ (y.1,c,())) fun y_2=>if y_2.1=true then some (y.1,23,()) else zC (qqb_ (y.1,c,())) fun y=>some (y.1,0,()) else if eqi 4 c.2.1=true then if eqi c.1 0=true then some (y.1,2,()) else if eqi c.2.2.1 0=true then some (y.1,2,()) else zC (q2s_ (y.1,c.1,())) fun y_1=>if y_1.1=true then some (y.1,22,()) else zC (qkt_ (y.1,c,())) fun y_2=>if y_2.1=true then some (y.1,23,()) else zC (qji_ (y.1,c,())) fun y=>some (y.1,0,()) else if eqi c.1 0=true then some (y.1,2,()) else if eqi c.2.2.1 0=true then some (y.1,2,()) else some (y.1,2,())]
def qcv_ (x:As aW):Option (As cF):=q10d_ x.1 x.2.1
theorem q1mo_:CtOk Tryz.prog (fun _=>True) 253 ⟨q134_,qcv_⟩:=ctn (q0_ q15s_ (q0_ qzl_ (q0_ q18k_ (q0_ q1bz_ (q0_ q15h_ (q0_ q18z_ (q0_ q17g_ (q0_ q1b8_ (q0_ q198_ (q0_ q1ej_ q1_)))))))))) 6 fun J x=>by kernel_rfl
@[reducible] def bI:List Ty:=[.int .u16,.int .u32,.int .i64,.pr (.int .i64) aC,.int .i64]
@[reducible] def qbn_:Sh:=⟨[.d aC],[],aK,[.d (.int .u16),.d (.int .u32),.d (.int .i64),.d YTT8,.d (.int .i64)],[],0,bI⟩
def qoa_:Env:=(cts [(26,(⟨qjn_,q5j_⟩:Ct)),(90,(⟨q1p_,q11_⟩:Ct)),(91,(⟨qsx_,qcp_⟩:Ct)),(267,(⟨q5s_,q6l_⟩:Ct)),(270,(⟨qq5_,q33_⟩:Ct))])
def qnl_:List (Nat×Hint):=[(126,⟨[],[0,5,10,53]⟩),(6,⟨[],[0,5,19,47,48,49,50,51,52]⟩)]
def qv9_ (w:List Int) (t19:Bool) (t5:Int):St:=⟨[(0,dW w),(5,.pb 0 0),(19,dB t19)],70,[],[(0,.box 38 [dI t5,.k (zK zH 0 0)])],1,[],0⟩
def qva_ (w:List Int) (t53:Bool) (t5:Int) (x:Int×List Int):St:=⟨[(0,dW w),(5,.pb 0 0),(10,.pb 1 0),(53,dB t53)],70,[],[(0,.box 38 [dI t5,.k (zK zH 0 0)]),(1,.box 38 [dI x.1,dW x.2])],2,[],0⟩
def ql7_ (j2:List Int->Bool->Int->Int×List Int->Option (As bI)) (w:List Int) (t19:Bool) (t5:Int):Option (As bI) :=
 if t19=true then some (0,0,0,(0,[]),2,()) else zC (at? w 4) fun y=>zC (at? w 5) fun y_1=>zC (cut w 6 (zF (zG w))) fun y_2=>if gt (cvt .i64 y_1) (zF (zG y_2))=true then some (0,0,0,(0,[]),20,()) else zC (cut y_2 0 (cvt .i64 y_1)) fun y_3=>need (le (cvt .i64 y_1) (cvt .i64 y_1)) (need (le (cvt .i64 y_1) (zF (zG y_2))) (zC (qcp_ ((cvt .i64 y,y_3),())) fun y=>zC (q5j_ (y.1,())) fun y_4=>if (!y_4.1)=true then j2 w true t5 y.1 else zC (cut w 4 (zF (zG w))) fun y_5=>zC (q6l_ (y.1,())) fun y_6=>zC (q11_ (y_6.1,y_5,())) fun y_7=>j2 w (!y_7.1) t5 y.1))
def qkm_ (w:List Int) (t53:Bool) (t5:Int) (x:Int×List Int):Option (As bI) :=
 if t53=true then some (0,0,0,(0,[]),20,()) else zC (at? w 0) fun y=>zC (at? w 1) fun y_1=>zC (at? w 2) fun y_2=>zC (at? w 3) fun y_3=>zC (q33_ (y_1,y_2,())) fun y_4=>some (y,y_4.1,cvt .i64 y_3,x,0,())
def qk1_ (j1:List Int->Bool->Int->Option (As bI)) (w:List Int):Option (As bI) :=
 if nei (zF (zG w)) 20=true then j1 w true 0 else zC (at? w 3) fun y=>j1 w (ge y 8) 0
def qli_:=qkm_
def qvv_:=ql7_ (qli_)
def qdr_ (x:As aK):Option (As bI):=qk1_ qvv_ x.1
abbrev pEb:=zp qoa_ qnl_ 254 qbn_
theorem q1hd_ {J a b c d}:pEb J 126 [] (qva_ a b c d)=qkm_ a b c d:=by kernel_rfl
theorem q1ft_ {J a b c}:pEb J 6 [] (qv9_ a b c)=ql7_ (C (J 126 []) qva_) a b c:=by kernel_rfl
abbrev pEa:=zj qoa_ qnl_ 254 qbn_
theorem q1g3_:C (pEa 126 []) qva_=qli_:=gNC (by decide) fun _=>q1hd_
theorem q1hr_:C (pEa 6 []) qv9_=qvv_:=gNC (by decide) fun _=>q1ft_.trans (by rw [q1g3_] <;> kernel_rfl)
theorem q1hf_:CtOk Tryz.prog (fun _=>True) 254 ⟨qbn_,qdr_⟩:=zcc (env:=qoa_) (d:=6) (hs:=Ev.get qnl_) (q0_ qcj_ (q0_ q3q_ (q0_ qzc_ (q0_ qqc_ (q0_ qvg_ q1_))))) (fun J x=>qk1_ (C (J 6 []) qv9_) x.1) (fun _ _=>by kernel_rfl) fun _=>by rw [q1hr_] <;> rfl
@[reducible] def qeo_:Sh:=⟨[.d (.pr (.int .u32) (.pr (.ar 8 .bool) (.ar 8 YTT8))),.d (.int .i64),.d YTT8],[],[.pr (.int .u32) (.pr (.ar 8 .bool) (.ar 8 YTT8)),.int .i64,.pr (.int .i64) aC],[.d (.pr (.int .u32) (.pr (.ar 8 .bool) (.ar 8 YTT8))),.d (.int .i64)],[],0,[.pr (.int .u32) (.pr (.ar 8 .bool) (.ar 8 YTT8)),.int .i64]⟩
def qt0_:Env:=(cts [(26,(⟨qjn_,q5j_⟩:Ct)),(91,(⟨qsx_,qcp_⟩:Ct)),(283,(⟨qqw_,q8x_⟩:Ct))])
def qsn_:List (Nat×Hint):=[(31,⟨[],[3,6]⟩),(250,⟨[],[3,6,26,27]⟩)]
def qov_ (s t6:Int) (t26:List Bool) (t27:Int) (s_2 t6_2:List YTT12):St:=⟨[(3,.prw 0 s 25 0),(6,.prw 1 t6 25 0),(26,.d (.ar 8 .bool) t26),(27,dI t27)],46,[],[(0,.row (.pr (.int .u32) (.pr (.ar 8 .bool) (.ar 8 YTT8))) 41 s_2),(1,.row (.pr (.int .u32) (.pr (.ar 8 .bool) (.ar 8 YTT8))) 41 t6_2)],2,[],0⟩
def qz7_ (s t6:Int) (s_2 t6_2:List YTT12):St:=⟨[(3,.prw 0 s 25 0),(6,.prw 1 t6 25 0)],46,[],[(0,.row (.pr (.int .u32) (.pr (.ar 8 .bool) (.ar 8 YTT8))) 41 s_2),(1,.row (.pr (.int .u32) (.pr (.ar 8 .bool) (.ar 8 YTT8))) 41 t6_2)],2,[],0⟩
@[reducible] def zJ4:Type:=Int->Int->List Bool->Int->List YTT12->List YTT12->Option (As [.pr (.int .u32) (.pr (.ar 8 .bool) (.ar 8 YTT8)),.int .i64])
def qg4_ (j2:Int->Int->List YTT12->List YTT12->Option (As [.pr (.int .u32) (.pr (.ar 8 .bool) (.ar 8 YTT8)),.int .i64])) (self1:zJ4) (s t6:Int) (t26:List Bool) (t27:Int) (s_2 t6_2:List YTT12):Option (As [.pr (.int .u32) (.pr (.ar 8 .bool) (.ar 8 YTT8)),.int .i64]) :=
 if lt t27 8=true then need (lt t27 8) (zC (at? t26 t27) fun y=>if y=true then need (ge t27 0) (need (lt t27 8) (zC (at? s_2 s) fun y=>zC (at? y.2.2 t27) fun z=>zC (qcp_ (z,())) fun y=>need (ge t27 0) (need (lt t27 8) (zC (at? s_2 s) fun x=>zC (at? x.2.2 t27) fun z=>self1 s t6 t26 (add .i64 t27 1) (List.set s_2 (zI s) (x.1,x.2.1,List.set x.2.2 (zI t27) y.1)) t6_2)))) else need (ge t27 0) (need (lt t27 8) (zC (at? s_2 s) fun x=>zC (at? x.2.2 t27) fun z=>self1 s t6 t26 (add .i64 t27 1) (List.set s_2 (zI s) (x.1,x.2.1,List.set x.2.2 (zI t27) (0,[]))) t6_2))) else j2 s t6 s_2 t6_2
def q15l_ (s t6:Int) (s_2 t6_2:List YTT12):Option (As [.pr (.int .u32) (.pr (.ar 8 .bool) (.ar 8 YTT8)),.int .i64]) :=
 zC (at? s_2 s) fun y=>zC (at? t6_2 t6) fun x=>zC (at? (List.set t6_2 (zI t6) y) t6) fun y_1=>zC (at? (List.set t6_2 (zI t6) y) t6) fun y=>some (y,0,())
def qpt_ (j1:zJ4) (s:Int×List Bool×List (Int×List Int)) (n:Int) (x:Int×List Int):Option (As [.pr (.int .u32) (.pr (.ar 8 .bool) (.ar 8 YTT8)),.int .i64]) :=
 zC (q8x_ (n,())) fun y=>if (!y.1)=true then some (zSt,2,()) else zC (q5j_ (x,())) fun y=>if (!y.1)=true then some (zSt,20,()) else need (ge n 0) (need (lt n 8) (zC (at? s.2.1 n) fun z=>need (ge n 0) (need (lt n 8) (zC (at? s.2.2 n) fun z=>j1 0 0 (List.set s.2.1 (zI n) true) 0 [(s.1,List.set s.2.1 (zI n) true,List.set s.2.2 (zI n) x)] [zSt]))))
def q16f_:=q15l_
def qgt_ (s t6:Int) (t26:List Bool) (t27:Int) (s_2 t6_2:List YTT12):Option (As [.pr (.int .u32) (.pr (.ar 8 .bool) (.ar 8 YTT8)),.int .i64]) :=
 loopF (fun self s=>qg4_ (q16f_) (fun s t6 t26 t27 s_2 t6_2=>self (s,t6,t26,t27,s_2,t6_2)) s.1 s.2.1 s.2.2.1 s.2.2.2.1 s.2.2.2.2.1 s.2.2.2.2.2) 18446744073709551616 (s,t6,t26,t27,s_2,t6_2)
def que_ (x:As [.pr (.int .u32) (.pr (.ar 8 .bool) (.ar 8 YTT8)),.int .i64,.pr (.int .i64) aC]):Option (As [.pr (.int .u32) (.pr (.ar 8 .bool) (.ar 8 YTT8)),.int .i64]):=qpt_ qgt_ x.1 x.2.1 x.2.2.1
abbrev pD9:=zp qt0_ qsn_ 277 qeo_
theorem q1lq_ {J a b c d}:pD9 J 31 [] (qz7_ a b c d)=q15l_ a b c d:=by kernel_rfl
theorem q1le_ {J w1 a b c d e f}:pD9 J 250 [w1] (qov_ a b c d e f)=qg4_ (C (J 31 []) qz7_) (C w1 qov_) a b c d e f:=by kernel_rfl
abbrev pD8:=zj qt0_ qsn_ 277 qeo_
theorem q1m4_:C (pD8 31 []) qz7_=q16f_:=gNC (by decide) fun _=>q1lq_
theorem q1l5_:C (pD8 250 []) qov_=qgt_:=gLC (by decide) (by kernel_rfl) (fun _=>by unfold qgt_; rfl) fun _ _=>q1le_.trans (by rw [q1m4_] <;> kernel_rfl)
theorem q1m2_:CtOk Tryz.prog (fun _=>True) 277 ⟨qeo_,que_⟩:=zcc (env:=qt0_) (d:=6) (hs:=Ev.get qsn_) (q0_ qcj_ (q0_ qzc_ (q0_ qos_ q1_))) (fun J x=>qpt_ (C (J 250 []) qov_) x.1 x.2.1 x.2.2.1) (fun _ _=>by kernel_rfl) fun _=>by rw [q1l5_] <;> rfl
@[reducible] def qeu_:Sh:=⟨[.d aG,.d (.int .u16),.d (.int .u32),.d (.int .i64),.d YTT8],[],[.pr aC YTT1,.int .u16,.int .u32,.int .i64,.pr (.int .i64) aC],[.d aG,.d (.int .i64)],[],0,cF⟩
def qsy_:Env:=(cts [(171,(⟨qej_,qmm_⟩:Ct)),(275,(⟨q11t_,q2s_⟩:Ct)),(276,(⟨qx2_,qd1_⟩:Ct)),(277,(⟨qeo_,que_⟩:Ct)),(278,(⟨q13z_,qat_⟩:Ct))])
def qt7_:List (Nat×Hint):=[(14,⟨[],[1,2,3,5,9,10,21]⟩)]
def qxc_ (owner tx n a t10:Int) (t21:Bool) (a_2:List YTT4) (x:Int×List Int) (t10_2:List YTT4):St:=⟨[(1,d6 owner),(2,d2 tx),(3,dI n),(5,.prw 0 a 32 0),(9,.pb 1 0),(10,.prw 2 t10 32 0),(21,dB t21)],49,[],[(0,.row aG 43 a_2),(1,.box 38 [dI x.1,dW x.2]),(2,.row aG 43 t10_2)],3,[],0⟩
def qnf_ (owner tx n a t10:Int) (t21:Bool) (a_2:List YTT4) (x:Int×List Int) (t10_2:List YTT4):Option (As cF) :=
 if t21=true then zC (at? a_2 a) fun y=>zC (at? t10_2 t10) fun x=>zC (at? (List.set t10_2 (zI t10) y) t10) fun y_1=>zC (at? (List.set t10_2 (zI t10) y) t10) fun y=>some (y,2,()) else zC (at? a_2 a) fun y=>zC (q2s_ (y,owner,())) fun y=>if y.1=true then zC (at? a_2 a) fun y=>zC (at? t10_2 t10) fun x=>zC (at? (List.set t10_2 (zI t10) y) t10) fun y_1=>zC (at? (List.set t10_2 (zI t10) y) t10) fun y=>some (y,22,()) else zC (at? a_2 a) fun y=>zC (qd1_ (y,1,tx,())) fun y=>if (!y.1)=true then zC (at? a_2 a) fun y=>zC (at? t10_2 t10) fun x=>zC (at? (List.set t10_2 (zI t10) y) t10) fun y_1=>zC (at? (List.set t10_2 (zI t10) y) t10) fun y=>some (y,23,()) else zC (at? a_2 a) fun y=>zC (que_ (y.2.2.2.2.2.1,n,x,())) fun y=>if nei y.2.1 0=true then zC (at? a_2 a) fun y_1=>zC (at? t10_2 t10) fun x=>zC (at? (List.set t10_2 (zI t10) y_1) t10) fun y_2=>zC (at? (List.set t10_2 (zI t10) y_1) t10) fun y_3=>some (y_3,y.2.1,()) else zC (at? a_2 a) fun x=>zC (at? (List.set a_2 (zI a) (x.1,x.2.1,x.2.2.1,x.2.2.2.1,x.2.2.2.2.1,y.1,x.2.2.2.2.2.2)) a) fun y=>zC (qat_ (y,owner,())) fun y=>zC (at? t10_2 t10) fun x=>zC (at? (List.set t10_2 (zI t10) y.1) t10) fun y_1=>zC (at? (List.set t10_2 (zI t10) y.1) t10) fun y=>some (y,0,())
def qpd_ (j1:Int->Int->Int->Int->Int->Bool->List YTT4->Int×List Int->List YTT4->Option (As cF)) (a:q14_) (owner tx n:Int) (x:Int×List Int):Option (As cF) :=
 zC (qmm_ (a,())) fun y=>if eqi owner 0=true then j1 owner tx n 0 0 true [y.1] x [zAg0] else j1 owner tx n 0 0 (eqi tx 0) [y.1] x [zAg0]
def qp0_:=qnf_
def q7t_ (x:As [.pr aC YTT1,.int .u16,.int .u32,.int .i64,.pr (.int .i64) aC]):Option (As cF):=qpd_ qp0_ x.1 x.2.1 x.2.2.1 x.2.2.2.1 x.2.2.2.2.1
abbrev pAb:=zp qsy_ qt7_ 255 qeu_
theorem q1ib_ {J a b c d e f g h i}:pAb J 14 [] (qxc_ a b c d e f g h i)=qnf_ a b c d e f g h i:=by kernel_rfl
abbrev pAa:=zj qsy_ qt7_ 255 qeu_
theorem q1il_:C (pAa 14 []) qxc_=qp0_:=gNC (by decide) fun _=>q1ib_
theorem q1lf_:CtOk Tryz.prog (fun _=>True) 255 ⟨qeu_,q7t_⟩:=zcc (env:=qsy_) (d:=6) (hs:=Ev.get qt7_) (q0_ q15s_ (q0_ qzl_ (q0_ q10l_ (q0_ q1m2_ (q0_ q11m_ q1_))))) (fun J x=>qpd_ (C (J 14 []) qxc_) x.1 x.2.1 x.2.2.1 x.2.2.2.1 x.2.2.2.2.1) (fun _ _=>by kernel_rfl) fun _=>by rw [q1il_] <;> rfl
@[reducible] def bH:List Ty:=[.int .u8,.int .u8,.sl (.int .u16),.int .u16,.int .i64,.int .u8,.int .u32,.int .u32,.int .u32,.bool,.bool,.bool,.bool,.bool,.bool,.bool,.bool,.int .i64,.sl (.int .u16),.int .i64,.sl (.int .u16),.int .i64,.sl (.int .u16),.int .i64,.sl (.int .u16),.int .i64,.sl (.int .u16),.int .i64,.sl (.int .u16),.int .i64,.sl (.int .u16),.int .i64,.sl (.int .u16),.int .i64,.sl (.int .u8),.sl .bool]
@[reducible] def cU:List Ty:=[.pr (.int .u8) aA,.pr (.int .u8) YTT5]
@[reducible] def q22_:Sh:=⟨[.agg [.d (.int .u8),.d (.int .u8),.d aC,.d (.int .u16),.d (.int .i64),.d (.int .u8),.d (.int .u32),.d (.int .u32),.d (.int .u32),.d (.bool),.d (.bool),.d (.bool),.d (.bool),.d (.bool),.d (.bool),.d (.bool),.d (.bool),.d (.int .i64),.d aC,.d (.int .i64),.d aC,.d (.int .i64),.d aC,.d (.int .i64),.d aC,.d (.int .i64),.d aC,.d (.int .i64),.d aC,.d (.int .i64),.d aC,.d (.int .i64),.d aC,.d (.int .i64),.row 0],.d aJ],[.row .bool 4],bH,[.d bA,.d aP],[],0,cU⟩
def qki_:Env:=(cts [(1000045,Ev.bxCt),(1000226,Ev.bxCt),(163,(⟨q1an_,qgz_⟩:Ct)),(164,(⟨q75_,q7w_⟩:Ct)),(165,(⟨q71_,q3m_⟩:Ct)),(166,(⟨qvu_,qi_⟩:Ct)),(168,(⟨qh_,qq_⟩:Ct)),(252,(⟨qc4_,qdg_⟩:Ct)),(253,(⟨q134_,qcv_⟩:Ct)),(254,(⟨qbn_,qdr_⟩:Ct)),(255,(⟨qeu_,q7t_⟩:Ct))])
def qk8_:List (Nat×Hint):=[(7,⟨[],[2,4,5,6,7]⟩)]
def qs3_ (except:Int) (o:List Bool) (s s_2:Int) (s_3:List Int) (s_4 s_5 s_6 s_7 s_8 s_9:Int) (s_10 s_11 s_12 s_13 s_14 s_15 s_16 s_17:Bool) (s_18:Int) (s_19:List Int) (s_20:Int) (s_21:List Int) (s_22:Int) (s_23:List Int) (s_24:Int) (s_25:List Int) (s_26:Int) (s_27:List Int) (s_28:Int) (s_29:List Int) (s_30:Int) (s_31:List Int) (s_32:Int) (s_33:List Int) (s_34 t4 t4_2 t4_3 t4_4 t4_5 t4_6 t4_7 t4_8:Int) (t4_9 t4_10 t4_11 t4_12 t4_13 t4_14 t4_15 t4_16:Bool) (t4_17 t4_18 t4_19 t4_20 t4_21 t4_22 t4_23 t4_24 t4_25 t5 t5_2 t5_3 t5_4:Int) (a:Int×Int×Int×Int×List Int×List Bool):St:=⟨[(2,.pb 1 0),(4,.pb 2 0),(5,.pb 3 0),(6,.pb 4 0),(7,d8 except)],43,[],[(0,.row .bool 4 o),(1,.box 45 [d8 s,d8 s_2,dW s_3,d6 s_4,dI s_5,d8 s_6,d2 s_7,d2 s_8,d2 s_9,dB s_10,dB s_11,dB s_12,dB s_13,dB s_14,dB s_15,dB s_16,dB s_17,dI s_18,dW s_19,dI s_20,dW s_21,dI s_22,dW s_23,dI s_24,dW s_25,dI s_26,dW s_27,dI s_28,dW s_29,dI s_30,dW s_31,dI s_32,dW s_33,dI s_34,.row 0]),(2,.box 45 [d8 t4,d8 t4_2,.k (zK zH 0 0),d6 t4_3,dI t4_4,d8 t4_5,d2 t4_6,d2 t4_7,d2 t4_8,dB t4_9,dB t4_10,dB t4_11,dB t4_12,dB t4_13,dB t4_14,dB t4_15,dB t4_16,dI t4_17,.k (zK zH 0 0),dI t4_18,.k (zK zH 0 0),dI t4_19,.k (zK zH 0 0),dI t4_20,.k (zK zH 0 0),dI t4_21,.k (zK zH 0 0),dI t4_22,.k (zK zH 0 0),dI t4_23,.k (zK zH 0 0),dI t4_24,.k (zK zH 0 0),dI t4_25,.k (zK zH 0 0)]),(3,.box 109 [d8 t5,d8 t5_2,.k (zK zH 0 0),.k (zK zH 0 0),d6 t5_3,d6 t5_4]),(4,.box 27 [d8 a.1,d6 a.2.1,d6 a.2.2.1,d6 a.2.2.2.1,dW a.2.2.2.2.1,.d (.sl .bool) a.2.2.2.2.2])],5,[],1⟩
def q12i_ (except:Int) (o:List Bool) (s s_2:Int) (s_3:List Int) (s_4 s_5 s_6 s_7 s_8 s_9:Int) (s_10 s_11 s_12 s_13 s_14 s_15 s_16 s_17:Bool) (s_18:Int) (s_19:List Int) (s_20:Int) (s_21:List Int) (s_22:Int) (s_23:List Int) (s_24:Int) (s_25:List Int) (s_26:Int) (s_27:List Int) (s_28:Int) (s_29:List Int) (s_30:Int) (s_31:List Int) (s_32:Int) (s_33:List Int) (s_34 t4 t4_2 t4_3 t4_4 t4_5 t4_6 t4_7 t4_8:Int) (t4_9 t4_10 t4_11 t4_12 t4_13 t4_14 t4_15 t4_16:Bool) (t4_17 t4_18 t4_19 t4_20 t4_21 t4_22 t4_23 t4_24 t4_25 t5 t5_2 t5_3 t5_4:Int) (a:Int×Int×Int×Int×List Int×List Bool):Option (As cU) :=
 (fun (gA:TAg)=>if nei except 0=true then zC (qi_ (a.1,except,())) fun y=>some ((s,s_2,gA,o),y.1,()) else if eqi a.1 5=true then if le (add .i64 (cvt .i64 a.2.1) (zF (zG a.2.2.2.2.2))) (zF (zG o))=true then need (ge a.2.1 0) (need (le a.2.1 (zF (zG o))) (need (le (zF (zG o)) (zF (zG o))) (need (le (a.2.1 + (zF (zG o) - a.2.1)) (zF (zG o))) (zC (qq_ ((s,s_2,gA,List.take (zI a.2.1) o++List.take (zI (zF (zG o) - a.2.1)) a.2.2.2.2.2++List.drop (zI a.2.1 + zG (List.take (zI (zF (zG o) - a.2.1)) a.2.2.2.2.2)) o),a,())) fun y=>some ((s,s_2,gA,List.take (zI a.2.1) o++List.take (zI (zF (zG o) - a.2.1)) a.2.2.2.2.2++List.drop (zI a.2.1 + zG (List.take (zI (zF (zG o) - a.2.1)) a.2.2.2.2.2)) o),y.1,()))))) else zC (qq_ ((s,s_2,gA,o),a,())) fun y=>some ((s,s_2,gA,o),y.1,()) else if eqi a.1 15=true then if le (add .i64 (cvt .i64 a.2.1) (zF (zG a.2.2.2.2.2))) (zF (zG o))=true then need (ge a.2.1 0) (need (le a.2.1 (zF (zG o))) (need (le (zF (zG o)) (zF (zG o))) (need (le (a.2.1 + (zF (zG o) - a.2.1)) (zF (zG o))) (zC (qq_ ((s,s_2,gA,List.take (zI a.2.1) o++List.take (zI (zF (zG o) - a.2.1)) a.2.2.2.2.2++List.drop (zI a.2.1 + zG (List.take (zI (zF (zG o) - a.2.1)) a.2.2.2.2.2)) o),a,())) fun y=>some ((s,s_2,gA,List.take (zI a.2.1) o++List.take (zI (zF (zG o) - a.2.1)) a.2.2.2.2.2++List.drop (zI a.2.1 + zG (List.take (zI (zF (zG o) - a.2.1)) a.2.2.2.2.2)) o),y.1,()))))) else zC (qq_ ((s,s_2,gA,o),a,())) fun y=>some ((s,s_2,gA,o),y.1,()) else if eqi (zF (zG a.2.2.2.2.1)) 0=true then zC (qq_ ((s,s_2,gA,o),a,())) fun y=>some ((s,s_2,gA,o),y.1,()) else if eqi a.1 23=true then if eqi 272 a.2.2.2.1=true then zC (qdg_ (a.2.2.2.2.1,())) fun y=>if nei y.2.1 0=true then zC (qi_ (a.1,3,())) fun y=>some ((s,s_2,gA,o),y.1,()) else amb (eqAs q22_.rs) [zC (qcv_ (gA,y.1,())) fun y=>if nei y.2.1 0=true then zC (qi_ (a.1,4,())) fun y=>some ((s,s_2,gA,o),y.1,()) else zC (qq_ ((s,s_2,(mkAg y.1),o),a,())) fun y_1=>some ((s,s_2,(mkAg y.1),o),y_1.1,()),zC (qcv_ (gA,y.1,())) fun y=>if nei y.2.1 0=true then zC (qi_ (a.1,4,())) fun y=>some ((s,s_2,gA,o),y.1,()) else zC (qq_ ((s,s_2,(mkAg y.1),o),a,())) fun y_1=>some ((s,s_2,(mkAg y.1),o),y_1.1,())] else if eqi 288 a.2.2.2.1=true then zC (qdr_ (a.2.2.2.2.1,())) fun y=>if nei y.2.2.2.2.1 0=true then zC (qi_ (a.1,3,())) fun y=>some ((s,s_2,gA,o),y.1,()) else amb (eqAs q22_.rs) [zC (q7t_ (gA,y.1,y.2.1,y.2.2.1,y.2.2.2.1,())) fun y=>if nei y.2.1 0=true then zC (qi_ (a.1,4,())) fun y=>some ((s,s_2,gA,o),y.1,()) else zC (qq_ ((s,s_2,(mkAg y.1),o),a,())) fun y_1=>some ((s,s_2,(mkAg y.1),o),y_1.1,()),zC (q7t_ (gA,y.1,y.2.1,y.2.2.1,y.2.2.2.1,())) fun y=>if nei y.2.1 0=true then zC (qi_ (a.1,4,())) fun y=>some ((s,s_2,gA,o),y.1,()) else zC (qq_ ((s,s_2,(mkAg y.1),o),a,())) fun y_1=>some ((s,s_2,(mkAg y.1),o),y_1.1,())] else zC (qi_ (a.1,2,())) fun y=>some ((s,s_2,gA,o),y.1,()) else if eqi 272 a.2.1=true then zC (qdg_ (a.2.2.2.2.1,())) fun y=>if nei y.2.1 0=true then zC (qi_ (a.1,3,())) fun y=>some ((s,s_2,gA,o),y.1,()) else amb (eqAs q22_.rs) [zC (qcv_ (gA,y.1,())) fun y=>if nei y.2.1 0=true then zC (qi_ (a.1,4,())) fun y=>some ((s,s_2,gA,o),y.1,()) else zC (qq_ ((s,s_2,(mkAg y.1),o),a,())) fun y_1=>some ((s,s_2,(mkAg y.1),o),y_1.1,()),zC (qcv_ (gA,y.1,())) fun y=>if nei y.2.1 0=true then zC (qi_ (a.1,4,())) fun y=>some ((s,s_2,gA,o),y.1,()) else zC (qq_ ((s,s_2,(mkAg y.1),o),a,())) fun y_1=>some ((s,s_2,(mkAg y.1),o),y_1.1,())] else if eqi 288 a.2.1=true then zC (qdr_ (a.2.2.2.2.1,())) fun y=>if nei y.2.2.2.2.1 0=true then zC (qi_ (a.1,3,())) fun y=>some ((s,s_2,gA,o),y.1,()) else amb (eqAs q22_.rs) [zC (q7t_ (gA,y.1,y.2.1,y.2.2.1,y.2.2.2.1,())) fun y=>if nei y.2.1 0=true then zC (qi_ (a.1,4,())) fun y=>some ((s,s_2,gA,o),y.1,()) else zC (qq_ ((s,s_2,(mkAg y.1),o),a,())) fun y_1=>some ((s,s_2,(mkAg y.1),o),y_1.1,()),zC (q7t_ (gA,y.1,y.2.1,y.2.2.1,y.2.2.2.1,())) fun y=>if nei y.2.1 0=true then zC (qi_ (a.1,4,())) fun y=>some ((s,s_2,gA,o),y.1,()) else zC (qq_ ((s,s_2,(mkAg y.1),o),a,())) fun y_1=>some ((s,s_2,(mkAg y.1),o),y_1.1,())] else zC (qi_ (a.1,2,())) fun y=>some ((s,s_2,gA,o),y.1,())) (s_3,(s_4,s_5),s_6,s_7,s_8,(s_9,[s_10,s_11,s_12,s_13,s_14,s_15,s_16,s_17],[(s_18,s_19),(s_20,s_21),(s_22,s_23),(s_24,s_25),(s_26,s_27),(s_28,s_29),(s_30,s_31),(s_32,s_33)]),s_34)
def q11x_ (j1:Int->List Bool->Int->Int->List Int->Int->Int->Int->Int->Int->Int->Bool->Bool->Bool->Bool->Bool->Bool->Bool->Bool->Int->List Int->Int->List Int->Int->List Int->Int->List Int->Int->List Int->Int->List Int->Int->List Int->Int->List Int->Int->Int->Int->Int->Int->Int->Int->Int->Int->Bool->Bool->Bool->Bool->Bool->Bool->Bool->Bool->Int->Int->Int->Int->Int->Int->Int->Int->Int->Int->Int->Int->Int->Int×Int×Int×Int×List Int×List Bool->Option (As cU)) (s pdu:Int) (s_2:List Int) (pdu_2 v v_2 a except d:Int) (v_3 v_4 v_5 v_6 v_7 v_8 v_9 v_10:Bool) (v_11:Int) (v_12:List Int) (v_13:Int) (v_14:List Int) (v_15:Int) (v_16:List Int) (v_17:Int) (v_18:List Int) (v_19:Int) (v_20:List Int) (v_21:Int) (v_22:List Int) (v_23:Int) (v_24:List Int) (v_25:Int) (v_26:List Int) (v_27:Int) (v_28:List Int) (v_29:List Bool):Option (As cU) :=
 zC (qgz_ (v_28,())) fun y=>if eqi y.2.1 0=true then zC (q3m_ ()) fun y_1=>zC (q7w_ (y_1.1,y.1,())) fun y_2=>j1 y_2.1 v_29 s pdu s_2 pdu_2 v v_2 a except d v_3 v_4 v_5 v_6 v_7 v_8 v_9 v_10 v_11 v_12 v_13 v_14 v_15 v_16 v_17 v_18 v_19 v_20 v_21 v_22 v_23 v_24 v_25 v_26 v_27 0 0 0 0 0 0 0 0 false false false false false false false false 0 0 0 0 0 0 0 0 0 0 0 0 0 y.1 else j1 y.2.1 v_29 s pdu s_2 pdu_2 v v_2 a except d v_3 v_4 v_5 v_6 v_7 v_8 v_9 v_10 v_11 v_12 v_13 v_14 v_15 v_16 v_17 v_18 v_19 v_20 v_21 v_22 v_23 v_24 v_25 v_26 v_27 0 0 0 0 0 0 0 0 false false false false false false false false 0 0 0 0 0 0 0 0 0 0 0 0 0 y.1
def qqo_:=q12i_
def q10b_ (x:As bH):Option (As cU):=q11x_ qqo_ x.1 x.2.1 x.2.2.1 x.2.2.2.1 x.2.2.2.2.1 x.2.2.2.2.2.1 x.2.2.2.2.2.2.1 x.2.2.2.2.2.2.2.1 x.2.2.2.2.2.2.2.2.1 x.2.2.2.2.2.2.2.2.2.1 x.2.2.2.2.2.2.2.2.2.2.1 x.2.2.2.2.2.2.2.2.2.2.2.1 x.2.2.2.2.2.2.2.2.2.2.2.2.1 x.2.2.2.2.2.2.2.2.2.2.2.2.2.1 x.2.2.2.2.2.2.2.2.2.2.2.2.2.2.1 x.2.2.2.2.2.2.2.2.2.2.2.2.2.2.2.1 x.2.2.2.2.2.2.2.2.2.2.2.2.2.2.2.2.1 x.2.2.2.2.2.2.2.2.2.2.2.2.2.2.2.2.2.1 x.2.2.2.2.2.2.2.2.2.2.2.2.2.2.2.2.2.2.1 x.2.2.2.2.2.2.2.2.2.2.2.2.2.2.2.2.2.2.2.1 x.2.2.2.2.2.2.2.2.2.2.2.2.2.2.2.2.2.2.2.2.1 x.2.2.2.2.2.2.2.2.2.2.2.2.2.2.2.2.2.2.2.2.2.1 x.2.2.2.2.2.2.2.2.2.2.2.2.2.2.2.2.2.2.2.2.2.2.1 x.2.2.2.2.2.2.2.2.2.2.2.2.2.2.2.2.2.2.2.2.2.2.2.1 x.2.2.2.2.2.2.2.2.2.2.2.2.2.2.2.2.2.2.2.2.2.2.2.2.1 x.2.2.2.2.2.2.2.2.2.2.2.2.2.2.2.2.2.2.2.2.2.2.2.2.2.1 x.2.2.2.2.2.2.2.2.2.2.2.2.2.2.2.2.2.2.2.2.2.2.2.2.2.2.1 x.2.2.2.2.2.2.2.2.2.2.2.2.2.2.2.2.2.2.2.2.2.2.2.2.2.2.2.1 x.2.2.2.2.2.2.2.2.2.2.2.2.2.2.2.2.2.2.2.2.2.2.2.2.2.2.2.2.1 x.2.2.2.2.2.2.2.2.2.2.2.2.2.2.2.2.2.2.2.2.2.2.2.2.2.2.2.2.2.1 x.2.2.2.2.2.2.2.2.2.2.2.2.2.2.2.2.2.2.2.2.2.2.2.2.2.2.2.2.2.2.1 x.2.2.2.2.2.2.2.2.2.2.2.2.2.2.2.2.2.2.2.2.2.2.2.2.2.2.2.2.2.2.2.1 x.2.2.2.2.2.2.2.2.2.2.2.2.2.2.2.2.2.2.2.2.2.2.2.2.2.2.2.2.2.2.2.2.1 x.2.2.2.2.2.2.2.2.2.2.2.2.2.2.2.2.2.2.2.2.2.2.2.2.2.2.2.2.2.2.2.2.2.1 x.2.2.2.2.2.2.2.2.2.2.2.2.2.2.2.2.2.2.2.2.2.2.2.2.2.2.2.2.2.2.2.2.2.2.1 x.2.2.2.2.2.2.2.2.2.2.2.2.2.2.2.2.2.2.2.2.2.2.2.2.2.2.2.2.2.2.2.2.2.2.2.1
abbrev pDt:=zp qki_ qk8_ 109 q22_
theorem q1cc_ {J a b c d e f g h i j k l m n o p q r t u v x y z aa ab ac ad ae af ag ah ba bb bc bd be bf bg bh ca cb cc cd ce cf cg ch da db dc dd de df dg dh ea eb ec ed ee ef eg eh fa fb}:pDt J 7 [] (qs3_ a b c d e f g h i j k l m n o p q r t u v x y z aa ab ac ad ae af ag ah ba bb bc bd be bf bg bh ca cb cc cd ce cf cg ch da db dc dd de df dg dh ea eb ec ed ee ef eg eh fa fb)=q12i_ a b c d e f g h i j k l m n o p q r t u v x y z aa ab ac ad ae af ag ah ba bb bc bd be bf bg bh ca cb cc cd ce cf cg ch da db dc dd de df dg dh ea eb ec ed ee ef eg eh fa fb:=by kernel_rfl
abbrev pDs:=zj qki_ qk8_ 109 q22_
theorem q1cy_:C (pDs 7 []) qs3_=qqo_:=gNC (by decide) fun _=>q1cc_
theorem q1eh_:CtOk Tryz.prog (fun _=>True) 109 ⟨q22_,q10b_⟩:=zcc (env:=qki_) (d:=6) (hs:=Ev.get qk8_) (q0_ Ev.bx_ok (q0_ Ev.bx_ok (q0_ q1ni_ (q0_ q11f_ (q0_ q12s_ (q0_ qin_ (q0_ q1b3_ (q0_ q1gu_ (q0_ q1mo_ (q0_ q1hf_ (q0_ q1lf_ q1_))))))))))) (fun J x=>q11x_ (C (J 7 []) qs3_) x.1 x.2.1 x.2.2.1 x.2.2.2.1 x.2.2.2.2.1 x.2.2.2.2.2.1 x.2.2.2.2.2.2.1 x.2.2.2.2.2.2.2.1 x.2.2.2.2.2.2.2.2.1 x.2.2.2.2.2.2.2.2.2.1 x.2.2.2.2.2.2.2.2.2.2.1 x.2.2.2.2.2.2.2.2.2.2.2.1 x.2.2.2.2.2.2.2.2.2.2.2.2.1 x.2.2.2.2.2.2.2.2.2.2.2.2.2.1 x.2.2.2.2.2.2.2.2.2.2.2.2.2.2.1 x.2.2.2.2.2.2.2.2.2.2.2.2.2.2.2.1 x.2.2.2.2.2.2.2.2.2.2.2.2.2.2.2.2.1 x.2.2.2.2.2.2.2.2.2.2.2.2.2.2.2.2.2.1 x.2.2.2.2.2.2.2.2.2.2.2.2.2.2.2.2.2.2.1 x.2.2.2.2.2.2.2.2.2.2.2.2.2.2.2.2.2.2.2.1 x.2.2.2.2.2.2.2.2.2.2.2.2.2.2.2.2.2.2.2.2.1 x.2.2.2.2.2.2.2.2.2.2.2.2.2.2.2.2.2.2.2.2.2.1 x.2.2.2.2.2.2.2.2.2.2.2.2.2.2.2.2.2.2.2.2.2.2.1 x.2.2.2.2.2.2.2.2.2.2.2.2.2.2.2.2.2.2.2.2.2.2.2.1 x.2.2.2.2.2.2.2.2.2.2.2.2.2.2.2.2.2.2.2.2.2.2.2.2.1 x.2.2.2.2.2.2.2.2.2.2.2.2.2.2.2.2.2.2.2.2.2.2.2.2.2.1 x.2.2.2.2.2.2.2.2.2.2.2.2.2.2.2.2.2.2.2.2.2.2.2.2.2.2.1 x.2.2.2.2.2.2.2.2.2.2.2.2.2.2.2.2.2.2.2.2.2.2.2.2.2.2.2.1 x.2.2.2.2.2.2.2.2.2.2.2.2.2.2.2.2.2.2.2.2.2.2.2.2.2.2.2.2.1 x.2.2.2.2.2.2.2.2.2.2.2.2.2.2.2.2.2.2.2.2.2.2.2.2.2.2.2.2.2.1 x.2.2.2.2.2.2.2.2.2.2.2.2.2.2.2.2.2.2.2.2.2.2.2.2.2.2.2.2.2.2.1 x.2.2.2.2.2.2.2.2.2.2.2.2.2.2.2.2.2.2.2.2.2.2.2.2.2.2.2.2.2.2.2.1 x.2.2.2.2.2.2.2.2.2.2.2.2.2.2.2.2.2.2.2.2.2.2.2.2.2.2.2.2.2.2.2.2.1 x.2.2.2.2.2.2.2.2.2.2.2.2.2.2.2.2.2.2.2.2.2.2.2.2.2.2.2.2.2.2.2.2.2.1 x.2.2.2.2.2.2.2.2.2.2.2.2.2.2.2.2.2.2.2.2.2.2.2.2.2.2.2.2.2.2.2.2.2.2.1 x.2.2.2.2.2.2.2.2.2.2.2.2.2.2.2.2.2.2.2.2.2.2.2.2.2.2.2.2.2.2.2.2.2.2.2.1) (fun _ _=>by kernel_rfl) fun _=>by rw [q1cy_] <;> rfl
@[reducible] def q1fi_:Sh:=⟨[.d aP],[],aU,[.d aJ,.d (.int .i64)],[],0,aT⟩
def qqy_ (r:Int×Int×List Bool×List Int×Int×Int):Option cP :=
 if nei r.2.1 0=true then zC (q2i_ ((),r,())) fun y=>if y.1=true then zC (q35_ ((),r,())) fun y=>some (y.1,0,()) else some ([],13,()) else if eqi r.1 1=true then zC (q1f_ ((),r,())) fun y=>if y.1=true then zC (q2g_ ((),r,())) fun y=>some (y.1,0,()) else some ([],13,()) else if eqi r.1 2=true then zC (q1f_ ((),r,())) fun y=>if y.1=true then zC (q2g_ ((),r,())) fun y=>some (y.1,0,()) else some ([],13,()) else if eqi r.1 3=true then zC (qw_ ((),r,())) fun y=>if y.1=true then zC (q1c_ ((),r,())) fun y=>some (y.1,0,()) else some ([],13,()) else if eqi r.1 4=true then zC (qw_ ((),r,())) fun y=>if y.1=true then zC (q1c_ ((),r,())) fun y=>some (y.1,0,()) else some ([],13,()) else if eqi r.1 23=true then zC (qw_ ((),r,())) fun y=>if y.1=true then zC (q1c_ ((),r,())) fun y=>some (y.1,0,()) else some ([],13,()) else if eqi r.1 5=true then zC (q3d_ ((),r,())) fun y=>if y.1=true then zC (q3e_ ((),r,())) fun y=>some (y.1,0,()) else some ([],13,()) else if eqi r.1 6=true then zC (q2x_ ((),r,())) fun y=>if y.1=true then zC (q41_ ((),r,())) fun y=>some (y.1,0,()) else some ([],13,()) else if eqi r.1 15=true then zC (q1w_ (1968,r,())) fun y=>if y.1=true then zC (q2w_ (1968,r,())) fun y=>some (y.1,0,()) else some ([],13,()) else if eqi r.1 16=true then zC (q1w_ (123,r,())) fun y=>if y.1=true then zC (q2w_ (123,r,())) fun y=>some (y.1,0,()) else some ([],13,()) else some ([],13,())
def qj4_ (x:As aU):Option cP:=qqy_ x.1
theorem q1ey_:CtOk Tryz.prog (fun _=>True) 110 ⟨q1fi_,qj4_⟩:=ctn (q0_ q90_ (q0_ qgm_ (q0_ qak_ (q0_ qj8_ (q0_ q9c_ (q0_ qir_ (q0_ qbx_ (q0_ qmr_ (q0_ qav_ (q0_ qjf_ (q0_ qdk_ (q0_ qog_ q1_)))))))))))) 6 fun J x=>by kernel_rfl
@[reducible] def bD:List Ty:=[.pr (.int .u8) aA,.sl (.int .u8)]
@[reducible] def qks_:Sh:=⟨[.d bA,.d aJ],[],bD,[.d bA,.d aJ],[],0,bD⟩
def qra_ (s:qp_) (pdu:List Int):Option (As bD) :=
 zC (q10v_ (s,())) fun y=>zC (q10b_ (y.1,y.2.1,y.2.2.1,y.2.2.2.1,y.2.2.2.2.1,y.2.2.2.2.2.1,y.2.2.2.2.2.2.1,y.2.2.2.2.2.2.2.1,y.2.2.2.2.2.2.2.2.1,y.2.2.2.2.2.2.2.2.2.1,y.2.2.2.2.2.2.2.2.2.2.1,y.2.2.2.2.2.2.2.2.2.2.2.1,y.2.2.2.2.2.2.2.2.2.2.2.2.1,y.2.2.2.2.2.2.2.2.2.2.2.2.2.1,y.2.2.2.2.2.2.2.2.2.2.2.2.2.2.1,y.2.2.2.2.2.2.2.2.2.2.2.2.2.2.2.1,y.2.2.2.2.2.2.2.2.2.2.2.2.2.2.2.2.1,y.2.2.2.2.2.2.2.2.2.2.2.2.2.2.2.2.2.1,y.2.2.2.2.2.2.2.2.2.2.2.2.2.2.2.2.2.2.1,y.2.2.2.2.2.2.2.2.2.2.2.2.2.2.2.2.2.2.2.1,y.2.2.2.2.2.2.2.2.2.2.2.2.2.2.2.2.2.2.2.2.1,y.2.2.2.2.2.2.2.2.2.2.2.2.2.2.2.2.2.2.2.2.2.1,y.2.2.2.2.2.2.2.2.2.2.2.2.2.2.2.2.2.2.2.2.2.2.1,y.2.2.2.2.2.2.2.2.2.2.2.2.2.2.2.2.2.2.2.2.2.2.2.1,y.2.2.2.2.2.2.2.2.2.2.2.2.2.2.2.2.2.2.2.2.2.2.2.2.1,y.2.2.2.2.2.2.2.2.2.2.2.2.2.2.2.2.2.2.2.2.2.2.2.2.2.1,y.2.2.2.2.2.2.2.2.2.2.2.2.2.2.2.2.2.2.2.2.2.2.2.2.2.2.1,y.2.2.2.2.2.2.2.2.2.2.2.2.2.2.2.2.2.2.2.2.2.2.2.2.2.2.2.1,y.2.2.2.2.2.2.2.2.2.2.2.2.2.2.2.2.2.2.2.2.2.2.2.2.2.2.2.2.1,y.2.2.2.2.2.2.2.2.2.2.2.2.2.2.2.2.2.2.2.2.2.2.2.2.2.2.2.2.2.1,y.2.2.2.2.2.2.2.2.2.2.2.2.2.2.2.2.2.2.2.2.2.2.2.2.2.2.2.2.2.2.1,y.2.2.2.2.2.2.2.2.2.2.2.2.2.2.2.2.2.2.2.2.2.2.2.2.2.2.2.2.2.2.2.1,y.2.2.2.2.2.2.2.2.2.2.2.2.2.2.2.2.2.2.2.2.2.2.2.2.2.2.2.2.2.2.2.2.1,y.2.2.2.2.2.2.2.2.2.2.2.2.2.2.2.2.2.2.2.2.2.2.2.2.2.2.2.2.2.2.2.2.2.1,pdu,y.2.2.2.2.2.2.2.2.2.2.2.2.2.2.2.2.2.2.2.2.2.2.2.2.2.2.2.2.2.2.2.2.2.2.1,())) fun y=>zC (qj4_ (y.2.1,())) fun y_1=>some (y.1,y_1.1,())
def q7o_ (x:As bD):Option (As bD):=qra_ x.1 x.2.1
theorem q122_:CtOk Tryz.prog (fun _=>True) 52 ⟨qks_,q7o_⟩:=ctn (q0_ q1ed_ (q0_ q1eh_ (q0_ q1ey_ q1_))) 6 fun J x=>by kernel_rfl
@[reducible] def qcg_:Sh:=⟨[.d bA,.d aJ],[],bD,[.d bA,.d aJ],[],0,bD⟩
def qpe_:Env:=(cts [(52,(⟨qks_,q7o_⟩:Ct)),(98,(⟨q87_,qa7_⟩:Ct)),(99,(⟨qeh_,qmx_⟩:Ct)),(100,(⟨qem_,qml_⟩:Ct)),(101,(⟨qet_,qgq_⟩:Ct)),(102,(⟨qer_,qmj_⟩:Ct))])
def qn2_:List (Nat×Hint):=[(30,⟨[],[2,4,10,11,62]⟩),(106,⟨[],[2,4,6,31]⟩)]
def qw8_ (s t4:Int) (t31:Bool) (s_2 t4_2:List (qp_)) (x:Int×Int×List Int):St:=⟨[(2,.prw 0 s 35 0),(4,.prw 1 t4 35 0),(6,.pb 2 0),(31,dB t31)],79,[],[(0,.row bA 45 s_2),(1,.row bA 45 t4_2),(2,.box 129 [d6 x.1,d8 x.2.1,dL x.2.2])],3,[],0⟩
def qv2_ (s t4 unit:Int) (pdu:List Int) (t62:Bool) (s_2 t4_2:List (qp_)):St:=⟨[(2,.prw 0 s 35 0),(4,.prw 1 t4 35 0),(10,d8 unit),(11,dL pdu),(62,dB t62)],79,[],[(0,.row bA 45 s_2),(1,.row bA 45 t4_2)],2,[],0⟩
def q9r_ (s t4:Int) (t31:Bool) (s_2 t4_2:List (qp_)) (x:Int×Int×List Int):Option (As bD) :=
 if t31=true then zC (at? s_2 s) fun y=>zC (qmx_ (y,())) fun y=>zC (at? t4_2 t4) fun x=>zC (at? (List.set t4_2 (zI t4) y.1) t4) fun y_1=>zC (at? (List.set t4_2 (zI t4) y.1) t4) fun y=>some (y,[],()) else zC (at? s_2 s) fun y=>zC (q7o_ (y,x.2.2,())) fun y=>zC (at? s_2 s) fun x_1=>zC (qml_ ((x.1,x.2.1,y.2.1),())) fun y_1=>zC (at? (List.set s_2 (zI s) y.1) s) fun y=>zC (at? t4_2 t4) fun x=>zC (at? (List.set t4_2 (zI t4) y) t4) fun y_2=>zC (at? (List.set t4_2 (zI t4) y) t4) fun y=>some (y,y_1.1,())
def q9i_ (s t4 unit:Int) (pdu:List Int) (t62:Bool) (s_2 t4_2:List (qp_)):Option (As bD) :=
 if t62=true then zC (at? s_2 s) fun y=>zC (qmx_ (y,())) fun y=>zC (at? t4_2 t4) fun x=>zC (at? (List.set t4_2 (zI t4) y.1) t4) fun y_1=>zC (at? (List.set t4_2 (zI t4) y.1) t4) fun y=>some (y,[],()) else zC (at? s_2 s) fun y=>zC (q7o_ (y,pdu,())) fun y=>zC (at? s_2 s) fun x=>zC (qmj_ (unit,y.2.1,())) fun y_1=>zC (at? (List.set s_2 (zI s) y.1) s) fun y=>zC (at? t4_2 t4) fun x=>zC (at? (List.set t4_2 (zI t4) y) t4) fun y_2=>zC (at? (List.set t4_2 (zI t4) y) t4) fun y=>some (y,y_1.1,())
def qlh_ (j1:Int->Int->Bool->List (qp_)->List (qp_)->Int×Int×List Int->Option (As bD)) (j2:Int->Int->Int->List Int->Bool->List (qp_)->List (qp_)->Option (As bD)) (s:qp_) (frame:List Int):Option (As bD) :=
 if eqi s.2.1 2=true then zC (qa7_ (frame,())) fun y=>if nei y.2.1 0=true then j1 0 0 true [s] [zSl] y.1 else j1 0 0 (nei y.1.2.1 s.1) [s] [zSl] y.1 else zC (qgq_ (frame,())) fun y=>if nei y.2.2.1 0=true then j2 0 0 y.1 y.2.1 true [s] [zSl] else j2 0 0 y.1 y.2.1 (nei y.1 s.1) [s] [zSl]
def q9n_:=q9r_
def qdw_:=q9i_
def qi3_ (x:As bD):Option (As bD):=qlh_ q9n_ qdw_ x.1 x.2.1
abbrev pDn:=zp qpe_ qn2_ 48 qcg_
theorem q1go_ {J a b c d e f}:pDn J 106 [] (qw8_ a b c d e f)=q9r_ a b c d e f:=by kernel_rfl
theorem q1f8_ {J a b c d e f g}:pDn J 30 [] (qv2_ a b c d e f g)=q9i_ a b c d e f g:=by kernel_rfl
abbrev pDm:=zj qpe_ qn2_ 48 qcg_
theorem q1hp_:C (pDm 106 []) qw8_=q9n_:=gNC (by decide) fun _=>q1go_
theorem q1fh_:C (pDm 30 []) qv2_=qdw_:=gNC (by decide) fun _=>q1f8_
theorem q1gh_:CtOk Tryz.prog (fun _=>True) 48 ⟨qcg_,qi3_⟩:=zcc (env:=qpe_) (d:=6) (hs:=Ev.get qn2_) (q0_ q122_ (q0_ q143_ (q0_ q1lr_ (q0_ q177_ (q0_ q16k_ (q0_ q16b_ q1_)))))) (fun J x=>qlh_ (C (J 106 []) qw8_) (C (J 30 []) qv2_) x.1 x.2.1) (fun _ _=>by kernel_rfl) fun _=>by rw [q1hp_,q1fh_] <;> rfl
@[reducible] def dY:List Ty:=[.pr .bool aJ,.pr aD YTT2,.pr (.int .u8) aA,.int .u32,.int .u32,.sl (.sl YTT8),.sl YTT14]
@[reducible] def q1x_:Sh:=⟨[.pb 0 0,.d YTT14],[(prG 1),.que YTT14 63],dY,[],[(0,(prG 2)),(2,.que YTT14 63)],1,aL⟩
def qbb_:Env:=(cts [(1000048,Ev.bxCt),(9000046,Ev.bxCt),(9999999,Ev.bxCt),(20,(⟨q2v_,q2y_⟩:Ct)),(46,(⟨q10r_,q7q_⟩:Ct)),(48,(⟨qcg_,qi3_⟩:Ct))])
def qb5_:List (Nat×Hint):=[(7,⟨[],[0,6,7,45,46,47,48,49,50]⟩),(31,⟨[],[0,7,51]⟩),(26,⟨[],[0,4,5]⟩)]
@[reducible] def zJ5:Type:=List (Bool×List Int)
def qgu_ (b:List Int) (p:(TaA6q2)×(qp_)×Unit×Int×Int×List aH) (o:zJ5) (t:TaA6q2):St:=⟨[(0,.pb 0 0),(4,.pb 2 0),(5,dL b)],63,[],[(0,.box 48 (talkC p.1 (slC p.2.1 [.row 1,d2 p.2.2.2.1,d2 p.2.2.2.2.1,.d bY p.2.2.2.2.2]))),(1,.que YTT14 63 o),(2,.box 33 (talkC t []))],3,[],2⟩
def qgf_ (s:Int) (b:List Int) (p:(TaA6q2)×(qp_)×Unit×Int×Int×List aH) (o:zJ5) (s_2:List (qp_)):St:=⟨[(0,.pb 0 0),(6,.prw 2 s 35 0),(7,dL b)],63,[],[(0,.box 48 (talkC p.1 (slC p.2.1 [.row 1,d2 p.2.2.2.1,d2 p.2.2.2.2.1,.d bY p.2.2.2.2.2]))),(1,.que YTT14 63 o),(2,.row bA 45 s_2)],3,[],2⟩
def qg6_ (b:List Int) (t51:Bool) (p:(TaA6q2)×(qp_)×Unit×Int×Int×List aH) (o:zJ5):St:=⟨[(0,.pb 0 0),(7,dL b),(51,dB t51)],63,[],[(0,.box 48 (talkC p.1 (slC p.2.1 [.row 1,d2 p.2.2.2.1,d2 p.2.2.2.2.1,.d bY p.2.2.2.2.2]))),(1,.que YTT14 63 o)],2,[],2⟩
def qaf_ (b:List Int) (p:(TaA6q2)×(qp_)×Unit×Int×Int×List aH) (o:zJ5) (t:TaA6q2):Option eD :=
 zC (q2y_ (b,t,(mkSl p.2.1),p.2.2.2.1,p.2.2.2.2.1,p.2.2.2.2.2,o,())) fun y=>some (y.1,(mkSl y.2.1),y.2.2.1,y.2.2.2.1,y.2.2.2.2.1,y.2.2.2.2.2.1,())
def qab_ (j3:List Int->Bool->(TaA6q2)×(qp_)×Unit×Int×Int×List aH->List (Bool×List Int)->Option eD) (s:Int) (b:List Int) (p:(TaA6q2)×(qp_)×Unit×Int×Int×List aH) (o:zJ5) (s_2:List (qp_)):Option eD :=
 zC (at? s_2 s) fun y=>if gt (zF (zG b)) 0=true then j3 b (lt (zF (zG o)) 12) (p.1,y,p.2.2) o else j3 b false (p.1,y,p.2.2) o
def q4k_ (b:List Int) (t51:Bool) (p:(TaA6q2)×(qp_)×Unit×Int×Int×List aH) (o:zJ5):Option eD :=
 if t51=true then need (small (zG o + Nat.succ 0)) (some (p.1,(mkSl p.2.1),p.2.2.2.1,p.2.2.2.2.1,p.2.2.2.2.2,o++[(true,b)],())) else some (p.1,(mkSl p.2.1),p.2.2.2.1,p.2.2.2.2.1,p.2.2.2.2.2,o,())
def q9y_ (j1:List Int->(TaA6q2)×(qp_)×Unit×Int×Int×List aH->List (Bool×List Int)->TaA6q2->Option eD) (j2:Int->List Int->(TaA6q2)×(qp_)×Unit×Int×Int×List aH->List (Bool×List Int)->List (qp_)->Option eD) (p:Bool×List Int) (m:TaA6q2) (p_2:qp_) (m_2 t:Int) (b:List aH) (s:zJ5):Option eD :=
 if p.1=true then amb (eqAs q1x_.rs) [zC (q7q_ (m,p.2,())) fun y=>j1 y.2.1 (m,p_2,(),m_2,t,b) s y.1,zC (q7q_ (m,p.2,())) fun y=>j1 y.2.1 (m,p_2,(),m_2,t,b) s y.1] else amb (eqAs q1x_.rs) [zC (qi3_ ((mkSl p_2),p.2,())) fun y=>j2 0 y.2.1 (m,p_2,(),m_2,t,b) s [y.1],zC (qi3_ ((mkSl p_2),p.2,())) fun y=>j2 0 y.2.1 (m,p_2,(),m_2,t,b) s [y.1]]
def qac_:=qaf_
def q2p_:=q4k_
def q9x_:=qab_ (q2p_)
def q2l_ (x:As dY):Option eD:=q9y_ qac_ q9x_ x.1 x.2.1 x.2.2.1 x.2.2.2.1 x.2.2.2.2.1 x.2.2.2.2.2.1 x.2.2.2.2.2.2.1
abbrev pBj:=zp qbb_ qb5_ 16 q1x_
theorem q16o_ {J a b c d}:pBj J 26 [] (qgu_ a b c d)=qaf_ a b c d:=by kernel_rfl
theorem q17a_ {J a b c d}:pBj J 31 [] (qg6_ a b c d)=q4k_ a b c d:=by kernel_rfl
theorem q16u_ {J a b c d e}:pBj J 7 [] (qgf_ a b c d e)=qab_ (C (J 31 []) qg6_) a b c d e:=by kernel_rfl
abbrev pBi:=zj qbb_ qb5_ 16 q1x_
theorem q15b_:C (pBi 26 []) qgu_=qac_:=gNC (by decide) fun _=>q16o_
theorem q160_:C (pBi 31 []) qg6_=q2p_:=gNC (by decide) fun _=>q17a_
theorem q16g_:C (pBi 7 []) qgf_=q9x_:=gNC (by decide) fun _=>q16u_.trans (by rw [q160_] <;> kernel_rfl)
theorem qg9_:CtOk Tryz.prog (fun _=>True) 16 ⟨q1x_,q2l_⟩:=zcc (env:=qbb_) (d:=6) (hs:=Ev.get qb5_) (q0_ Ev.bx_ok (q0_ Ev.bx_ok (q0_ Ev.bx_ok (q0_ qgk_ (q0_ q159_ (q0_ q1gh_ q1_)))))) (fun J x=>q9y_ (C (J 26 []) qgu_) (C (J 7 []) qgf_) x.1 x.2.1 x.2.2.1 x.2.2.2.1 x.2.2.2.2.1 x.2.2.2.2.2.1 x.2.2.2.2.2.2.1) (fun _ _=>by kernel_rfl) fun _=>by rw [q15b_,q16g_] <;> rfl
@[reducible] def eM:List Ty:=[.pr (.int .u8) YTT0,.sl (.int .u8),.bool]
@[reducible] def q1mz_:Sh:=⟨[.d aD],[],cD,[.d aD,.d aJ,.d (.bool)],[],0,eM⟩
def qxt_ (p:Int×Int×Int×Int×Bool×YTT18×Int×Int×Int):Option (As eM) :=
 zC (qds_ (p,())) fun y=>if (!y.1.2.2.2.2.1)=true then some (y.1,[],false,()) else if nei (Sx.sub .i64 y.1.2.2.2.2.2.2.2.1 1) 0=true then some ((y.1.1,y.1.2.1,y.1.2.2.1,y.1.2.2.2.1,y.1.2.2.2.2.1,y.1.2.2.2.2.2.1,y.1.2.2.2.2.2.2.1,Sx.sub .i64 y.1.2.2.2.2.2.2.2.1 1,y.1.2.2.2.2.2.2.2.2),[],false,()) else if gt y.1.2.2.2.2.2.2.2.2 0=true then zC (qzy_ ((y.1.1,y.1.2.1,y.1.2.2.1,y.1.2.2.2.1,y.1.2.2.2.2.1,y.1.2.2.2.2.2.1,y.1.2.2.2.2.2.2.1,Sx.sub .i64 y.1.2.2.2.2.2.2.2.1 1,Sx.sub .i64 y.1.2.2.2.2.2.2.2.2 1),())) fun y=>some (y.1,y.2.1,false,()) else zC (qcr_ ((y.1.1,y.1.2.1,y.1.2.2.1,y.1.2.2.2.1,y.1.2.2.2.2.1,y.1.2.2.2.2.2.1,y.1.2.2.2.2.2.2.1,Sx.sub .i64 y.1.2.2.2.2.2.2.2.1 1,y.1.2.2.2.2.2.2.2.2),())) fun y=>some (y.1,[],true,())
def q16z_ (x:As cD):Option (As eM):=qxt_ x.1
theorem q1jt_:CtOk Tryz.prog (fun _=>True) 55 ⟨q1mz_,q16z_⟩:=ctn (q0_ qnm_ (q0_ q10u_ (q0_ q172_ q1_))) 6 fun J x=>by kernel_rfl
@[reducible] def q10s_:Sh:=⟨[.d aY],[],aN,[.d aY,.d aJ],[],0,bM⟩
def qxe_ (t:TaA6q2):Option (As bM) :=
 zC (qma_ (t,())) fun y=>zC (q16z_ (y.1.1,())) fun y_1=>if (!y_1.2.2.1)=true then some ((y_1.1,y.1.2),y_1.2.1,()) else if eqi y.1.2.2.2.2.1 1=true then zC (q2j_ ((y_1.1,y.1.2),2,())) fun y=>some (y.1,[],()) else zC (q7v_ ((y_1.1,y.1.2),())) fun y=>some (y.1,y.2.1,())
def qmn_ (x:As aN):Option (As bM):=qxe_ x.1
theorem q176_:CtOk Tryz.prog (fun _=>True) 19 ⟨q10s_,qmn_⟩:=ctn (q0_ q10w_ (q0_ q1jt_ (q0_ q6b_ (q0_ qxq_ q1_)))) 6 fun J x=>by kernel_rfl
end Go.Proofs.Lx
end
