/- Proved in the last of these 15 parts (this is part 8): TalkLate. Conditions: those of the given statement, and no others. -/
import Derived.Test.YtljkanofaahagaaGreatPartd
import Derived.Test.YtljkanofaahagaaGreatPartg
import Derived.Test.YtljkanofaahagaaGreatProg
import Derived.Test.YtljkanofaahagaaGreatParte
set_option linter.unusedVariables false
set_option linter.unusedSimpArgs false
set_option linter.unusedSectionVars false
open Option renaming bind → zC, none → zH
open List renaming replicate → zE, length → zG, getD → zJ
open Int renaming ofNat → zF, toNat → zI
open Go.Value renaming slice → zK
noncomputable section
open Go Go.Proofs Ev Sx
set_option maxRecDepth 100000
namespace Go.Proofs.Lx
abbrev ql_:Type:=Int×Int×Bool×Bool×Bool
@[reducible] def aR:List Ty:=[.int .u8,.int .u8,.sl (.int .u16),.int .u16,.int .i64,.int .u8,.int .u32,.int .u32,.int .u32,.bool,.bool,.bool,.bool,.bool,.bool,.bool,.bool,.int .i64,.sl (.int .u16),.int .i64,.sl (.int .u16),.int .i64,.sl (.int .u16),.int .i64,.sl (.int .u16),.int .i64,.sl (.int .u16),.int .i64,.sl (.int .u16),.int .i64,.sl (.int .u16),.int .i64,.sl (.int .u16),.int .i64,.sl .bool]
@[reducible] def q1fr_:Sh:=⟨[.d bA],[],cK,[.agg [.d (.int .u8),.d (.int .u8),.d aC,.d (.int .u16),.d (.int .i64),.d (.int .u8),.d (.int .u32),.d (.int .u32),.d (.int .u32),.d (.bool),.d (.bool),.d (.bool),.d (.bool),.d (.bool),.d (.bool),.d (.bool),.d (.bool),.d (.int .i64),.d aC,.d (.int .i64),.d aC,.d (.int .i64),.d aC,.d (.int .i64),.d aC,.d (.int .i64),.d aC,.d (.int .i64),.d aC,.d (.int .i64),.d aC,.d (.int .i64),.d aC,.d (.int .i64),.row 0]],[(0,.row .bool 4)],1,aR⟩
def q1fp_:Env:=(cts [(1000045,Ev.bxCt),(1000226,Ev.bxCt),(45,(⟨q2u_,qc_⟩:Ct)),(113,(⟨q69_,q2q_⟩:Ct))])
def qr7_ (s:Int×Int×YTT4×List Bool):Option (As aR) :=
 zC (q2q_ (s.2.2.2,())) fun y=>zC (qc_ (s.2.2.1.1,())) fun y_1=>zC (qc_ ((zJ s.2.2.1.2.2.2.2.2.1.2.2 0 (0,[])).2,())) fun y_2=>zC (qc_ ((zJ s.2.2.1.2.2.2.2.2.1.2.2 1 (0,[])).2,())) fun y_3=>zC (qc_ ((zJ s.2.2.1.2.2.2.2.2.1.2.2 2 (0,[])).2,())) fun y_4=>zC (qc_ ((zJ s.2.2.1.2.2.2.2.2.1.2.2 3 (0,[])).2,())) fun y_5=>zC (qc_ ((zJ s.2.2.1.2.2.2.2.2.1.2.2 4 (0,[])).2,())) fun y_6=>zC (qc_ ((zJ s.2.2.1.2.2.2.2.2.1.2.2 5 (0,[])).2,())) fun y_7=>zC (qc_ ((zJ s.2.2.1.2.2.2.2.2.1.2.2 6 (0,[])).2,())) fun y_8=>zC (qc_ ((zJ s.2.2.1.2.2.2.2.2.1.2.2 7 (0,[])).2,())) fun y_9=>some (s.1,s.2.1,y_1.1,s.2.2.1.2.1.1,s.2.2.1.2.1.2,s.2.2.1.2.2.1,s.2.2.1.2.2.2.1,s.2.2.1.2.2.2.2.1,s.2.2.1.2.2.2.2.2.1.1,zJ s.2.2.1.2.2.2.2.2.1.2.1 0 false,zJ s.2.2.1.2.2.2.2.2.1.2.1 1 false,zJ s.2.2.1.2.2.2.2.2.1.2.1 2 false,zJ s.2.2.1.2.2.2.2.2.1.2.1 3 false,zJ s.2.2.1.2.2.2.2.2.1.2.1 4 false,zJ s.2.2.1.2.2.2.2.2.1.2.1 5 false,zJ s.2.2.1.2.2.2.2.2.1.2.1 6 false,zJ s.2.2.1.2.2.2.2.2.1.2.1 7 false,(zJ s.2.2.1.2.2.2.2.2.1.2.2 0 (0,[])).1,y_2.1,(zJ s.2.2.1.2.2.2.2.2.1.2.2 1 (0,[])).1,y_3.1,(zJ s.2.2.1.2.2.2.2.2.1.2.2 2 (0,[])).1,y_4.1,(zJ s.2.2.1.2.2.2.2.2.1.2.2 3 (0,[])).1,y_5.1,(zJ s.2.2.1.2.2.2.2.2.1.2.2 4 (0,[])).1,y_6.1,(zJ s.2.2.1.2.2.2.2.2.1.2.2 5 (0,[])).1,y_7.1,(zJ s.2.2.1.2.2.2.2.2.1.2.2 6 (0,[])).1,y_8.1,(zJ s.2.2.1.2.2.2.2.2.1.2.2 7 (0,[])).1,y_9.1,s.2.2.1.2.2.2.2.2.2,y.1,())
def q10v_ (x:As cK):Option (As aR):=qr7_ x.1
theorem q1ed_:CtOk Tryz.prog (fun _=>True) 99 ⟨q1fr_,q10v_⟩:=ctn (env:=q1fp_) (q0_ Ev.bx_ok (q0_ Ev.bx_ok (q0_ q1g_ (q0_ qiq_ q1_)))) 6 fun J x=>by kernel_rfl
@[reducible] def qd7_:Sh:=⟨[.d aJ],[],aI,[.d aC],[],0,aK⟩
def qwo_:Env:=(cts [])
def qwm_:List (Nat×Hint):=[(58,⟨[],[0,3,10,11]⟩)]
def qu8_ (b:List Int) (t10 t11:Int) (l:List Int):St:=⟨[(0,dL b),(3,.row 0),(10,dI t10),(11,dI t11)],34,[],[(0,.row (.int .u16) 25 l)],1,[],0⟩
@[reducible] def zH0:Type:=List Int->Int->Int->List Int->Option bL
def qjo_ (self1:zH0) (b:List Int) (t10 t11:Int) (l:List Int):Option bL :=
 if lt t11 t10=true then zC (at? b (mul .i64 2 t11)) fun y=>zC (at? b (add .i64 (mul .i64 2 t11) 1)) fun y_1=>zC (at? l t11) fun x=>zC (at? l t11) fun x=>self1 b t10 (add .i64 t11 1) (List.set l (zI t11) (Sx.bor .u16 (Sx.shl .u16 (cvt .u16 y) 8) (cvt .u16 y_1))) else some (l,())
def qsm_ (j1:zH0) (b:List Int):Option bL :=
 need (ge (quo .i64 (zF (zG b)) 2) 0) (need (Ev.capOk (quo .i64 (zF (zG b)) 2) (quo .i64 (zF (zG b)) 2)) (need (small (zI (quo .i64 (zF (zG b)) 2))) (j1 b (zF (zG (zE (α:=Int) (zI (quo .i64 (zF (zG b)) 2)) 0))) 0 (zE (zI (quo .i64 (zF (zG b)) 2)) 0))))
def qjj_ (b:List Int) (t10 t11:Int) (l:List Int):Option bL :=
 loopF (fun self s=>qjo_ (fun b t10 t11 l=>self (b,t10,t11,l)) s.1 s.2.1 s.2.2.1 s.2.2.2) 18446744073709551616 (b,t10,t11,l)
def q8t_ (x:As aI):Option bL:=qsm_ qjj_ x.1
abbrev pAx:=zp qwo_ qwm_ 272 qd7_
theorem q1nr_ {J w1 a b c d}:pAx J 58 [w1] (qu8_ a b c d)=qjo_ (C w1 qu8_) a b c d:=by kernel_rfl
abbrev pAw:=zj qwo_ qwm_ 272 qd7_
theorem q1mp_:C (pAw 58 []) qu8_=qjj_:=gLC (by decide) (by kernel_rfl) (fun _=>by unfold qjj_; rfl) fun _ _=>q1nr_.trans (by kernel_rfl)
theorem q18e_:CtOk Tryz.prog (fun _=>True) 272 ⟨qd7_,q8t_⟩:=zcc (env:=qwo_) (d:=6) (hs:=Ev.get qwm_) q1_ (fun J x=>qsm_ (C (J 58 []) qu8_) x.1) (fun _ _=>by kernel_rfl) fun _=>by rw [q1mp_] <;> rfl
@[reducible] def bO:List Ty:=[.pr (.int .u8) YTT7,.bool]
@[reducible] def q9l_:Sh:=⟨[.d bC,.d (.pr (.int .i64) YTT22),.d aJ],[],[.pr (.int .u8) YTT7,.pr (.int .i64) YTT22,.sl (.int .u8)],[.d bC,.d (.bool)],[],0,bO⟩
def qkv_:Env:=(cts [(272,(⟨qd7_,q8t_⟩:Ct)),(288,(⟨qcc_,qdu_⟩:Ct))])
def qlo_:List (Nat×Hint):=[(15,⟨[.frb 3,.frb 6],[3,6]⟩)]
def qro_ (a a_2 a_3 a_4:Int) (a_5:List Int) (a_6:List Bool) (t6 t6_2 t6_3 t6_4:Int) (t6_5:List Int) (t6_6:List Bool):St:=⟨[(3,.pb 0 0),(6,.pb 1 0)],63,[],[(0,.box 27 [d8 a,d6 a_2,d6 a_3,d6 a_4,dW a_5,.d (.sl .bool) a_6]),(1,.box 27 [d8 t6,d6 t6_2,d6 t6_3,d6 t6_4,dW t6_5,.d (.sl .bool) t6_6])],2,[],0⟩
@[reducible] def bN:Type:=As bO
def q12w_ (a a_2 a_3 a_4:Int) (a_5:List Int) (a_6:List Bool) (t6 t6_2 t6_3 t6_4:Int) (t6_5:List Int) (t6_6:List Bool):Option bN :=
 some ((a,a_2,a_3,a_4,a_5,a_6),true,())
@[reducible] def zH1:Type:=Int×Int×Int×Int×List Int×List Bool
def qh1_ (j1:Int->Int->Int->Int->List Int->List Bool->Int->Int->Int->Int->List Int->List Bool->Option bN) (a:zH1) (s:Int×Int×Int×Bool×Bool) (rest:List Int):Option bN :=
 if eqi (add .i64 s.2.1 s.2.2.1) 0=true then some (a,true,()) else if lt (zF (zG rest)) 2=true then some ((0,0,0,0,[],[]),false,()) else if eqi a.1 5=true then zC (at? rest 0) fun y=>j1 a.1 a.2.1 a.2.2.1 a.2.2.2.1 a.2.2.2.2.1 [nei y 0] 0 0 0 0 [] [] else if eqi a.1 6=true then zC (q8t_ (rest,())) fun y=>j1 a.1 a.2.1 a.2.2.1 a.2.2.2.1 y.1 a.2.2.2.2.2 0 0 0 0 [] [] else if gt s.2.1 0=true then zC (cut rest 1 (zF (zG rest))) fun y=>zC (qdu_ (y,())) fun y=>if lt (zF (zG y.1)) (cvt .i64 a.2.2.1)=true then some ((0,0,0,0,[],[]),false,()) else zC (cut y.1 0 a.2.2.1) fun y_1=>need (le a.2.2.1 a.2.2.1) (need (le a.2.2.1 (zF (zG y.1))) (j1 a.1 a.2.1 a.2.2.1 a.2.2.2.1 a.2.2.2.2.1 y_1 0 0 0 0 [] [])) else zC (cut rest 1 (zF (zG rest))) fun y=>zC (q8t_ (y,())) fun y=>j1 a.1 a.2.1 a.2.2.1 a.2.2.2.1 y.1 a.2.2.2.2.2 0 0 0 0 [] []
def qrm_:=q12w_
def q2m_ (x:As [.pr (.int .u8) YTT7,.pr (.int .i64) YTT22,.sl (.int .u8)]):Option bN:=qh1_ qrm_ x.1 x.2.1 x.2.2.1
abbrev pA3:=zp qkv_ qlo_ 273 q9l_
theorem q1f0_ {J a b c d e f g h i j k l}:pA3 J 15 [] (qro_ a b c d e f g h i j k l)=q12w_ a b c d e f g h i j k l:=by kernel_rfl
abbrev pA2:=zj qkv_ qlo_ 273 q9l_
theorem q1bt_:C (pA2 15 []) qro_=qrm_:=gNC (by decide) fun _=>q1f0_
theorem q1et_:CtOk Tryz.prog (fun _=>True) 273 ⟨q9l_,q2m_⟩:=zcc (env:=qkv_) (d:=6) (hs:=Ev.get qlo_) (q0_ q18e_ (q0_ q13q_ q1_)) (fun J x=>qh1_ (C (J 15 []) qro_) x.1 x.2.1 x.2.2.1) (fun _ _=>by kernel_rfl) fun _=>by rw [q1bt_] <;> rfl
@[reducible] def qhs_:Sh:=⟨[.d aJ],[],aI,[.d bC,.d (.bool)],[],0,bO⟩
def qwj_:Env:=(cts [(106,(⟨qso_,q9w_⟩:Ct)),(272,(⟨qd7_,q8t_⟩:Ct)),(273,(⟨q9l_,q2m_⟩:Ct))])
def qwi_:List (Nat×Hint):=[(255,⟨[],[2,4,6,7,8]⟩),(511,⟨[],[2,4,7,8]⟩),(6,⟨[],[0,2,16]⟩)]
def q10f_ (b:List Int) (t16:Bool) (t2 t2_2 t2_3 t2_4:Int):St:=⟨[(0,dL b),(2,.pb 0 0),(16,dB t16)],67,[],[(0,.box 27 [d8 t2,d6 t2_2,d6 t2_3,d6 t2_4,.k (zK zH 0 0),.k (zK zH 0 0)])],1,[],0⟩
def q116_ (l rest:List Int) (t2 t2_2 t2_3 t2_4 s s_2 s_3:Int) (s_4 s_5:Bool) (a a_2 a_3 a_4:Int):St:=⟨[(2,.pb 0 0),(4,.pb 1 0),(6,dW l),(7,.pb 2 0),(8,dL rest)],67,[],[(0,.box 27 [d8 t2,d6 t2_2,d6 t2_3,d6 t2_4,.k (zK zH 0 0),.k (zK zH 0 0)]),(1,.box 151 [dI s,dI s_2,dI s_3,dB s_4,dB s_5]),(2,.box 27 [d8 a,d6 a_2,d6 a_3,d6 a_4,.k (zK zH 0 0),.k (zK zH 0 0)])],3,[],0⟩
def q119_ (rest:List Int) (t2 t2_2 t2_3 t2_4 s s_2 s_3:Int) (s_4 s_5:Bool) (a a_2 a_3 a_4:Int):St:=⟨[(2,.pb 0 0),(4,.pb 1 0),(7,.pb 2 0),(8,dL rest)],67,[],[(0,.box 27 [d8 t2,d6 t2_2,d6 t2_3,d6 t2_4,.k (zK zH 0 0),.k (zK zH 0 0)]),(1,.box 151 [dI s,dI s_2,dI s_3,dB s_4,dB s_5]),(2,.box 27 [d8 a,d6 a_2,d6 a_3,d6 a_4,.k (zK zH 0 0),.k (zK zH 0 0)])],3,[],0⟩
def q7s_ (j2:List Int->List Int->Int->Int->Int->Int->Int->Int->Int->Bool->Bool->Int->Int->Int->Int->Option bN) (b:List Int) (t16:Bool) (t2 t2_2 t2_3 t2_4:Int):Option bN :=
 if t16=true then some ((0,0,0,0,[],[]),false,()) else zC (at? b 0) fun y=>zC (q9w_ (y,())) fun y=>if (!y.2.1)=true then some ((0,0,0,0,[],[]),false,()) else zC (cut b 1 (zF (zG b))) fun y_1=>zC (q8t_ (y_1,())) fun y_2=>zC (at? b 0) fun y_3=>zC (at? y_2.1 0) fun y_4=>zC (cut b 3 (zF (zG b))) fun y_5=>if gt y.1.1 0=true then zC (at? y_2.1 1) fun y_6=>zC (cut b 5 (zF (zG b))) fun y_7=>j2 y_2.1 y_7 t2 t2_2 t2_3 t2_4 y.1.1 y.1.2.1 y.1.2.2.1 y.1.2.2.2.1 y.1.2.2.2.2 y_3 y_4 y_6 0 else j2 y_2.1 y_5 t2 t2_2 t2_3 t2_4 y.1.1 y.1.2.1 y.1.2.2.1 y.1.2.2.2.1 y.1.2.2.2.2 y_3 y_4 0 0
def q10h_ (j3:List Int->Int->Int->Int->Int->Int->Int->Int->Bool->Bool->Int->Int->Int->Int->Option bN) (l rest:List Int) (t2 t2_2 t2_3 t2_4 s s_2 s_3:Int) (s_4 s_5:Bool) (a a_2 a_3 a_4:Int):Option bN :=
 if s_4=true then if lt (zF (zG rest)) 4=true then some ((0,0,0,0,[],[]),false,()) else zC (at? l 2) fun y=>zC (cut rest 4 (zF (zG rest))) fun y_1=>j3 y_1 t2 t2_2 t2_3 t2_4 s s_2 s_3 s_4 s_5 a a_2 a_3 y else j3 rest t2 t2_2 t2_3 t2_4 s s_2 s_3 s_4 s_5 a a_2 a_3 a_4
def q188_ (rest:List Int) (t2 t2_2 t2_3 t2_4 s s_2 s_3:Int) (s_4 s_5:Bool) (a a_2 a_3 a_4:Int):Option bN :=
 zC (q2m_ ((a,a_2,a_3,a_4,[],[]),(s,s_2,s_3,s_4,s_5),rest,())) fun y=>some (y.1,y.2.1,())
def q4w_ (j1:List Int->Bool->Int->Int->Int->Int->Option bN) (b:List Int):Option bN :=
 if lt (zF (zG b)) 5=true then j1 b true 0 0 0 0 else j1 b (gt (zF (zG b)) 253) 0 0 0 0
def q114_:=q188_
def q6d_:=q10h_ (q114_)
def qaq_:=q7s_ (q6d_)
def qdl_ (x:As aI):Option bN:=q4w_ qaq_ x.1
abbrev pA1:=zp qwj_ qwi_ 251 qhs_
theorem q1n5_ {J a b c d e f g h i j k l m n}:pA1 J 511 [] (q119_ a b c d e f g h i j k l m n)=q188_ a b c d e f g h i j k l m n:=by kernel_rfl
theorem q1nf_ {J a b c d e f g h i j k l m n o}:pA1 J 255 [] (q116_ a b c d e f g h i j k l m n o)=q10h_ (C (J 511 []) q119_) a b c d e f g h i j k l m n o:=by kernel_rfl
theorem q1mx_ {J a b c d e f}:pA1 J 6 [] (q10f_ a b c d e f)=q7s_ (C (J 255 []) q116_) a b c d e f:=by kernel_rfl
abbrev pA0:=zj qwj_ qwi_ 251 qhs_
theorem q1m6_:C (pA0 511 []) q119_=q114_:=gNC (by decide) fun _=>q1n5_
theorem q1mm_:C (pA0 255 []) q116_=q6d_:=gNC (by decide) fun _=>q1nf_.trans (by rw [q1m6_] <;> kernel_rfl)
theorem q1m9_:C (pA0 6 []) q10f_=qaq_:=gNC (by decide) fun _=>q1mx_.trans (by rw [q1mm_] <;> kernel_rfl)
theorem q1n0_:CtOk Tryz.prog (fun _=>True) 251 ⟨qhs_,qdl_⟩:=zcc (env:=qwj_) (d:=6) (hs:=Ev.get qwi_) (q0_ qod_ (q0_ q18e_ (q0_ q1et_ q1_))) (fun J x=>q4w_ (C (J 6 []) q10f_) x.1) (fun _ _=>by kernel_rfl) fun _=>by rw [q1m9_] <;> rfl
@[reducible] def dG:List Ty:=[.pr (.int .u8) YTT7,.int .i64]
@[reducible] def qjp_:Sh:=⟨[.d aJ],[],aI,[.d bC,.d (.int .i64)],[],0,dG⟩
def qt9_:Env:=(cts [(50,(⟨qan_,q6m_⟩:Ct)),(112,(⟨qv1_,q1m_⟩:Ct)),(251,(⟨qhs_,qdl_⟩:Ct))])
def qtj_:List (Nat×Hint):=[(61,⟨[],[2,4,28]⟩)]
def qy7_ (t28:Bool) (t2 t2_2 t2_3 t2_4 a a_2 a_3 a_4:Int) (a_5:List Int) (a_6:List Bool):St:=⟨[(2,.pb 0 0),(4,.pb 1 0),(28,dB t28)],31,[],[(0,.box 27 [d8 t2,d6 t2_2,d6 t2_3,d6 t2_4,.k (zK zH 0 0),.k (zK zH 0 0)]),(1,.box 27 [d8 a,d6 a_2,d6 a_3,d6 a_4,dW a_5,.d (.sl .bool) a_6])],2,[],0⟩
def q16a_ (t28:Bool) (t2 t2_2 t2_3 t2_4 a a_2 a_3 a_4:Int) (a_5:List Int) (a_6:List Bool):Option (As dG) :=
 if t28=true then some ((0,0,0,0,[],[]),12,()) else some ((a,a_2,a_3,a_4,a_5,a_6),0,())
def qc9_ (j1:Bool->Int->Int->Int->Int->Int->Int->Int->Int->List Int->List Bool->Option (As dG)) (b:List Int):Option (As dG) :=
 zC (qdl_ (b,())) fun y=>if (!y.2.1)=true then some ((0,0,0,0,[],[]),12,()) else zC (q6m_ (y.1,())) fun y_1=>if nei y_1.2.1 0=true then j1 true 0 0 0 0 y.1.1 y.1.2.1 y.1.2.2.1 y.1.2.2.2.1 y.1.2.2.2.2.1 y.1.2.2.2.2.2 else zC (q1m_ (y_1.1,b,())) fun y_2=>j1 (!y_2.1) 0 0 0 0 y.1.1 y.1.2.1 y.1.2.2.1 y.1.2.2.2.1 y.1.2.2.2.2.1 y.1.2.2.2.2.2
def qox_:=q16a_
def quf_ (x:As aI):Option (As dG):=qc9_ qox_ x.1
abbrev pAr:=zp qt9_ qtj_ 220 qjp_
theorem q1k9_ {J a b c d e f g h i j k}:pAr J 61 [] (qy7_ a b c d e f g h i j k)=q16a_ a b c d e f g h i j k:=by kernel_rfl
abbrev pAq:=zj qt9_ qtj_ 220 qjp_
theorem q1lw_:C (pAq 61 []) qy7_=qox_:=gNC (by decide) fun _=>q1k9_
theorem q1kn_:CtOk Tryz.prog (fun _=>True) 220 ⟨qjp_,quf_⟩:=zcc (env:=qt9_) (d:=6) (hs:=Ev.get qtj_) (q0_ qp5_ (q0_ q11d_ (q0_ q1n0_ q1_))) (fun J x=>qc9_ (C (J 61 []) qy7_) x.1) (fun _ _=>by kernel_rfl) fun _=>by rw [q1lw_] <;> rfl
@[reducible] def q1an_:Sh:=⟨[.d aJ],[],aI,[.d bC,.d (.int .u8)],[],0,[.pr (.int .u8) YTT7,.int .u8]⟩
def qjq_ (b:List Int):Option (As [.pr (.int .u8) YTT7,.int .u8]) :=
 if eqi (zF (zG b)) 0=true then some ((0,0,0,0,[],[]),1,()) else zC (quf_ (b,())) fun y=>if eqi y.2.1 0=true then some (y.1,0,()) else zC (at? b 0) fun y=>zC (at? b 0) fun y_1=>zC (q9w_ (y_1,())) fun y_2=>if (!y_2.2.1)=true then some ((y,0,0,0,[],[]),1,()) else some ((y,0,0,0,[],[]),3,())
def qgz_ (x:As aI):Option (As [.pr (.int .u8) YTT7,.int .u8]):=qjq_ x.1
theorem q1ni_:CtOk Tryz.prog (fun _=>True) 163 ⟨q1an_,qgz_⟩:=ctn (q0_ qod_ (q0_ q1kn_ q1_)) 6 fun J x=>by kernel_rfl
@[reducible] def cB:Ty:=.pr YTT6 YTT6
@[reducible] def bB:Ty:=.pr YTT6 cB
@[reducible] def eJ:Ty:=.pr (.sl .bool) YTT15
@[reducible] def dO:List Ty:=[.pr YTT6 bB,.pr (.sl .bool) YTT15]
@[reducible] def bK:Ty:=.pr YTT6 (.sl .bool)
@[reducible] def cJ:Ty:=.pr YTT6 aC
@[reducible] def eC:Ty:=.pr cJ cJ
@[reducible] def bG:Ty:=.pr bK eC
@[reducible] def q16v_:Sh:=⟨[.d (.pr YTT6 bB),.d eJ],[],dO,[.d (.pr bK bG)],[],0,[.pr bK bG]⟩
def q1h0_ (s:List YTT9×List YTT9×List YTT9×List YTT9) (m:List Bool×List Bool×List Int×List Int):Option (As [.pr bK bG]) :=
 some (((s.1,m.1),(s.2.1,m.2.1),(s.2.2.1,m.2.2.1),s.2.2.2,m.2.2.2),())
def qia_ (x:As dO):Option (As [.pr bK bG]):=q1h0_ x.1 x.2.1
theorem q13t_:CtOk Tryz.prog (fun _=>True) 221 ⟨q16v_,qia_⟩:=ctn q1_ 6 fun J x=>by kernel_rfl
@[reducible] def qxp_:Sh:=⟨[.d (.int .u8)],[],[.int .u8],[.d eK],[],0,[.pr (.int .i64) (.int .i64)]⟩
def qvd_ (f:Int):Option (As [.pr (.int .i64) (.int .i64)]) :=
 some (Ev.gdV eK (if eqi 1 f=true then some (1,0) else if eqi 2 f=true then some (2,0) else if eqi 3 f=true then some (3,0) else if eqi 4 f=true then some (4,0) else if eqi 5 f=true then some (0,1) else if eqi 6 f=true then some (0,3) else if eqi 15 f=true then some (0,1) else if eqi 16 f=true then some (0,3) else if eqi 23 f=true then some (3,3) else zH) (0,0),())
def qh9_ (x:As [.int .u8]):Option (As [.pr (.int .i64) (.int .i64)]):=qvd_ x.1
theorem q13l_:CtOk Tryz.prog (fun _=>True) 222 ⟨qxp_,qh9_⟩:=ctn q1_ 6 fun J x=>by kernel_rfl
@[reducible] def qsc_:Sh:=⟨[.d bC],[],aX,[.d (.int .i64),.d (.int .i64)],[],0,cC⟩
@[reducible] def eQ:Type:=As cC
def qou_ (a:zH1):Option eQ :=
 if eqi a.1 23=true then some (cvt .i64 a.2.2.2.1,add .i64 (zF (zG a.2.2.2.2.2)) (zF (zG a.2.2.2.2.1)),()) else some (cvt .i64 a.2.1,add .i64 (zF (zG a.2.2.2.2.2)) (zF (zG a.2.2.2.2.1)),())
def q8e_ (x:As aX):Option eQ:=qou_ x.1
theorem q109_:CtOk Tryz.prog (fun _=>True) 224 ⟨qsc_,q8e_⟩:=ctn q1_ 6 fun J x=>by kernel_rfl
@[reducible] def q25_:Sh:=⟨[.d bR],[],[.pr (.int .i64) YTT16],[.d (.bool)],[],0,[.bool]⟩
def qmy_ (x:ql_):Option aF :=
 some (x.2.2.1,())
def q13_ (x:As [.pr (.int .i64) YTT16]):Option aF:=qmy_ x.1
theorem q20_:CtOk Tryz.prog (fun _=>True) 348 ⟨q25_,q13_⟩:=ctn q1_ 6 fun J x=>by kernel_rfl
@[reducible] def cL:List Ty:=[.pr (.int .i64) YTT16,.int .i64,.int .i64]
@[reducible] def aO:List Ty:=[.bool,.int .i64,.int .i64]
@[reducible] def q28_:Sh:=⟨[.d bR,.pb 0 0,.pb 1 0],[.box 3 [.d (.int .i64)],.box 3 [.d (.int .i64)]],cL,[.d (.bool)],[(0,.box 3 [.d (.int .i64)]),(1,.box 3 [.d (.int .i64)])],0,aO⟩
@[reducible] def aM:Type:=As aO
def q4v_ (x:ql_) (v v_2:Int):Option aM :=
 if x.2.2.2.1=true then if (!x.2.2.2.2)=true then some (true,v,v_2,()) else if eqi x.1 v=true then some (eqi x.2.1 v_2,v,v_2,()) else some (false,v,v_2,()) else some (false,v,v_2,())
def qx_ (x:As cL):Option aM:=q4v_ x.1 x.2.1 x.2.2.1
theorem q1z_:CtOk Tryz.prog (fun _=>True) 349 ⟨q28_,qx_⟩:=ctn q1_ 6 fun J x=>by kernel_rfl
@[reducible] def q4z_:Sh:=⟨[.d bR,.d (.int .i64),.d (.int .i64)],[],cL,[.d (.int .i64),.d (.int .i64)],[],0,cC⟩
def qph_:Env:=(cts [])
def qpm_:List (Nat×Hint):=[(15,⟨[],[1,3,8]⟩),(30,⟨[],[1,2,3,8,32]⟩),(6,⟨[],[1,2,3,17,25,26,27,28,29,30,31]⟩)]
def qv0_ (at' endV:Int) (t17:Bool) (x:ql_):St:=⟨[(1,dI at'),(2,dI endV),(3,.pb 0 0),(17,dB t17)],45,[],[(0,.box 250 [dI x.1,dI x.2.1,dB x.2.2.1,dB x.2.2.2.1,dB x.2.2.2.2])],1,[],0⟩
def qvy_ (at' endV to':Int) (t32:Bool) (x:ql_):St:=⟨[(1,dI at'),(2,dI endV),(3,.pb 0 0),(8,dI to'),(32,dB t32)],45,[],[(0,.box 250 [dI x.1,dI x.2.1,dB x.2.2.1,dB x.2.2.2.1,dB x.2.2.2.2])],1,[],0⟩
def qvf_ (at' to':Int) (x:ql_):St:=⟨[(1,dI at'),(3,.pb 0 0),(8,dI to')],45,[],[(0,.box 250 [dI x.1,dI x.2.1,dB x.2.2.1,dB x.2.2.2.1,dB x.2.2.2.2])],1,[],0⟩
def qvz_ (j2:Int->Int->Int->Bool->ql_->Option eQ) (at' endV:Int) (t17:Bool) (x:ql_):Option eQ :=
 if t17=true then some (at',at',()) else if lt x.1 0=true then j2 at' endV endV true x else j2 at' endV endV (lt x.2.1 (Sx.sub .i64 endV x.1)) x
def qlk_ (j3:Int->Int->ql_->Option eQ) (at' endV to':Int) (t32:Bool) (x:ql_):Option eQ :=
 if t32=true then j3 at' (if lt (add .i64 x.1 x.2.1) endV=true then add .i64 x.1 x.2.1 else endV) x else j3 at' to' x
def qvm_ (at' to':Int) (x:ql_):Option eQ :=
 some (if gt x.1 at'=true then x.1 else at',to',())
def ql2_ (j1:Int->Int->Bool->ql_->Option eQ) (x:ql_) (at' endV:Int):Option eQ :=
 if lt x.2.1 1=true then j1 at' endV true x else j1 at' endV (ge x.1 endV) x
def qjx_:=qvm_
def qdv_:=qlk_ (qjx_)
def qe7_:=qvz_ (qdv_)
def q57_ (x:As cL):Option eQ:=ql2_ qe7_ x.1 x.2.1 x.2.2.1
abbrev pCh:=zp qph_ qpm_ 350 q4z_
theorem q1gm_ {J a b c}:pCh J 15 [] (qvf_ a b c)=qvm_ a b c:=by kernel_rfl
theorem q1g0_ {J a b c d e}:pCh J 30 [] (qvy_ a b c d e)=qlk_ (C (J 15 []) qvf_) a b c d e:=by kernel_rfl
theorem q1hs_ {J a b c d}:pCh J 6 [] (qv0_ a b c d)=qvz_ (C (J 30 []) qvy_) a b c d:=by kernel_rfl
abbrev pCg:=zj qph_ qpm_ 350 q4z_
theorem q1hq_:C (pCg 15 []) qvf_=qjx_:=gNC (by decide) fun _=>q1gm_
theorem q1he_:C (pCg 30 []) qvy_=qdv_:=gNC (by decide) fun _=>q1g0_.trans (by rw [q1hq_] <;> kernel_rfl)
theorem q1ha_:C (pCg 6 []) qv0_=qe7_:=gNC (by decide) fun _=>q1hs_.trans (by rw [q1he_] <;> kernel_rfl)
theorem qjr_:CtOk Tryz.prog (fun _=>True) 350 ⟨q4z_,q57_⟩:=zcc (env:=qph_) (d:=6) (hs:=Ev.get qpm_) q1_ (fun J x=>ql2_ (C (J 6 []) qv0_) x.1 x.2.1 x.2.2.1) (fun _ _=>by kernel_rfl) fun _=>by rw [q1ha_] <;> rfl
@[reducible] def q1s_:Sh:=⟨[.d bR],[],[.pr (.int .i64) YTT16],[.d (.bool)],[],0,[.bool]⟩
def qje_ (x:ql_):Option aF :=
 some (x.2.2.1,())
def qz_ (x:As [.pr (.int .i64) YTT16]):Option aF:=qje_ x.1
theorem q1n_:CtOk Tryz.prog (fun _=>True) 353 ⟨q1s_,qz_⟩:=ctn q1_ 6 fun J x=>by kernel_rfl
@[reducible] def q1r_:Sh:=⟨[.d bR,.pb 0 0,.pb 1 0],[.box 3 [.d (.int .i64)],.box 3 [.d (.int .i64)]],cL,[.d (.bool)],[(0,.box 3 [.d (.int .i64)]),(1,.box 3 [.d (.int .i64)])],0,aO⟩
def q46_ (x:ql_) (v v_2:Int):Option aM :=
 if x.2.2.2.1=true then if (!x.2.2.2.2)=true then some (true,v,v_2,()) else if eqi x.1 v=true then some (eqi x.2.1 v_2,v,v_2,()) else some (false,v,v_2,()) else some (false,v,v_2,())
def qt_ (x:As cL):Option aM:=q46_ x.1 x.2.1 x.2.2.1
theorem q1l_:CtOk Tryz.prog (fun _=>True) 354 ⟨q1r_,qt_⟩:=ctn q1_ 6 fun J x=>by kernel_rfl
@[reducible] def eH:List Ty:=[.sl bR,.int .i64,.int .i64]
@[reducible] def qad_:Sh:=⟨[.d YTT6,.d (.int .i64),.d (.int .i64),.fn (.func 348) [] []],[],eH,[.d (.bool)],[],0,[.bool]⟩
def qfg_:Env:=(cts [(348,(⟨q25_,q13_⟩:Ct)),(349,(⟨q28_,qx_⟩:Ct)),(350,(⟨q4z_,q57_⟩:Ct)),(353,(⟨q1s_,qz_⟩:Ct)),(354,(⟨q1r_,qt_⟩:Ct))])
def qfn_:List (Nat×Hint):=[(15,⟨[],[10]⟩),(122,⟨[],[1,2,3,9,10,19,20,21]⟩),(125342,⟨[],[1,2,3,9,10,12,14,15,19,20,21]⟩),(501369,⟨[],[1,2,3,9,10,12,14,15,19,20,21]⟩)]
def q3c_ (at' many left:Int) (t19:List YTT9) (t20 t21:Int) (met:List Bool):St:=⟨[(1,dI at'),(2,dI many),(3,.fn (.func 348) [] []),(9,.row 0),(10,dI left),(19,.d YTT6 t19),(20,dI t20),(21,dI t21)],62,[],[(0,.row .bool 4 met)],1,[],0⟩
def qm9_ (left:Int):St:=⟨[(10,dI left)],62,[],[],0,[],0⟩
def q5z_ (at' many left to' i:Int) (t19:List YTT9) (t20 t21:Int) (met:List Bool) (x:ql_):St:=⟨[(1,dI at'),(2,dI many),(3,.fn (.func 348) [] []),(9,.row 0),(10,dI left),(12,.pb 1 0),(14,dI to'),(15,dI i),(19,.d YTT6 t19),(20,dI t20),(21,dI t21)],62,[],[(0,.row .bool 4 met),(1,.box 250 [dI x.1,dI x.2.1,dB x.2.2.1,dB x.2.2.2.1,dB x.2.2.2.2])],2,[],0⟩
def qls_ (at' many left to' i:Int) (t19:List YTT9) (t20 t21:Int) (met:List Bool) (x:ql_):St:=⟨[(1,dI at'),(2,dI many),(3,.fn (.func 348) [] []),(9,.row 0),(10,dI left),(12,.pb 1 0),(14,dI to'),(15,dI i),(19,.d YTT6 t19),(20,dI t20),(21,dI t21)],62,[],[(0,.row .bool 4 met),(1,.box 250 [dI x.1,dI x.2.1,dB x.2.2.1,dB x.2.2.2.1,dB x.2.2.2.2])],2,[],0⟩
@[reducible] def zH2:Type:=Int->Int->Int->List YTT9->Int->Int->List Bool->Option aF
def q8o_ (j2:Int->Option aF) (j3:Int->Int->Int->Int->Int->List YTT9->Int->Int->List Bool->ql_->Option aF) (self1:zH2) (at' many left:Int) (t19:List YTT9) (t20 t21:Int) (met:List Bool):Option aF :=
 if lt t21 t20=true then zC (at? t19 t21) fun y=>if eqi left 0=true then j2 left else zC (q57_ (y,at',add .i64 at' many,())) fun y_1=>j3 at' many left y_1.2.1 y_1.1 t19 t20 t21 met y else j2 left
def qy8_ (left:Int):Option aF :=
 some (eqi left 0,())
def q8q_ (j4:Int->Int->Int->Int->Int->List YTT9->Int->Int->List Bool->ql_->Option aF) (self1:zH2) (self3:Int->Int->Int->Int->Int->List YTT9->Int->Int->List Bool->ql_->Option aF) (at' many left to' i:Int) (t19:List YTT9) (t20 t21:Int) (met:List Bool) (x:ql_):Option aF :=
 if lt i to'=true then zC (at? met (Sx.sub .i64 i at')) fun x_1=>zC (at? met (Sx.sub .i64 i at')) fun y=>if y=true then j4 at' many left to' i t19 t20 t21 met x else zC (q13_ (x,())) fun y=>if (!y.1)=true then some (false,()) else zC (at? met (Sx.sub .i64 i at')) fun x_2=>zC (at? met (Sx.sub .i64 i at')) fun x_3=>j4 at' many (Sx.sub .i64 left 1) to' i t19 t20 t21 (List.set met (zI (Sx.sub .i64 i at')) true) x else self1 at' many left t19 t20 (add .i64 t21 1) met
def qm2_ (self1:zH2) (self3:Int->Int->Int->Int->Int->List YTT9->Int->Int->List Bool->ql_->Option aF) (at' many left to' i:Int) (t19:List YTT9) (t20 t21:Int) (met:List Bool) (x:ql_):Option aF :=
 self3 at' many left to' (add .i64 i 1) t19 t20 t21 met x
def qd6_ (j1:zH2) (areas:List YTT9) (at' many:Int):Option aF :=
 need (ge many 0) (need (Ev.capOk many many) (need (small (zI many)) (j1 at' many many areas (zF (zG areas)) 0 (zE (zI many) false))))
def q89_:=qy8_
def q5u_ (u1:zH2) (u3:Int->Int->Int->Int->Int->List YTT9->Int->Int->List Bool->ql_->Option aF):=qm2_ u1 u3
def q4d_ (u1:zH2) (at' many left to' i:Int) (t19:List YTT9) (t20 t21:Int) (met:List Bool) (x:ql_):Option aF :=
 loopF (fun self s=>q8q_ (q5u_ u1 (fun at' many left to' i t19 t20 t21 met x=>self (at',many,left,to',i,t19,t20,t21,met,x))) u1 (fun at' many left to' i t19 t20 t21 met x=>self (at',many,left,to',i,t19,t20,t21,met,x)) s.1 s.2.1 s.2.2.1 s.2.2.2.1 s.2.2.2.2.1 s.2.2.2.2.2.1 s.2.2.2.2.2.2.1 s.2.2.2.2.2.2.2.1 s.2.2.2.2.2.2.2.2.1 s.2.2.2.2.2.2.2.2.2) 18446744073709551616 (at',many,left,to',i,t19,t20,t21,met,x)
def q8s_ (at' many left:Int) (t19:List YTT9) (t20 t21:Int) (met:List Bool):Option aF :=
 loopF (fun self s=>q8o_ (q89_) (q4d_ (fun at' many left t19 t20 t21 met=>self (at',many,left,t19,t20,t21,met))) (fun at' many left t19 t20 t21 met=>self (at',many,left,t19,t20,t21,met)) s.1 s.2.1 s.2.2.1 s.2.2.2.1 s.2.2.2.2.1 s.2.2.2.2.2.1 s.2.2.2.2.2.2) 18446744073709551616 (at',many,left,t19,t20,t21,met)
def qe9_ (x:As eH):Option aF:=qd6_ q8s_ x.1 x.2.1 x.2.2.1
abbrev pB9:=zp qfg_ qfn_ 347 qad_
theorem q1a7_ {J a}:pB9 J 15 [] (qm9_ a)=qy8_ a:=by kernel_rfl
theorem q18r_ {J w1 w3 a b c d e f g h i j}:pB9 J 501369 [w1,w3] (qls_ a b c d e f g h i j)=qm2_ (C w1 q3c_) (C w3 q5z_) a b c d e f g h i j:=by kernel_rfl
theorem q19a_ {J w1 w3 a b c d e f g h i j}:pB9 J 125342 [w1,w3] (q5z_ a b c d e f g h i j)=q8q_ (C (J 501369 [w1,w3]) qls_) (C w1 q3c_) (C w3 q5z_) a b c d e f g h i j:=by kernel_rfl
theorem q19b_ {J w1 a b c d e f g}:pB9 J 122 [w1] (q3c_ a b c d e f g)=q8o_ (C (J 15 []) qm9_) (C (J 125342 [w1]) q5z_) (C w1 q3c_) a b c d e f g:=by kernel_rfl
abbrev pB8:=zj qfg_ qfn_ 347 qad_
theorem q19p_:C (pB8 15 []) qm9_=q89_:=gNC (by decide) fun _=>q1a7_
theorem q18i_ {w1 w3}:C (pB8 501369 [w1,w3]) qls_=q5u_ (C w1 q3c_) (C w3 q5z_):=gNC (by decide) fun _=>q18r_
theorem q19l_ {w1}:C (pB8 125342 [w1]) q5z_=q4d_ (C w1 q3c_):=gLC (by decide) (by kernel_rfl) (fun _=>by unfold q4d_; rfl) fun _ _=>q19a_.trans (by rw [q18i_] <;> kernel_rfl)
theorem q191_:C (pB8 122 []) q3c_=q8s_:=gLC (by decide) (by kernel_rfl) (fun _=>by unfold q8s_; rfl) fun _ _=>q19b_.trans (by rw [q19p_,q19l_] <;> kernel_rfl)
theorem qdd_:CtOk Tryz.prog (fun _=>True) 347 ⟨qad_,qe9_⟩:=zcc (env:=qfg_) (d:=6) (hs:=Ev.get qfn_) (q0_ q20_ (q0_ q1z_ (q0_ qjr_ (q0_ q1n_ (q0_ q1l_ q1_))))) (fun J x=>qd6_ (C (J 122 []) q3c_) x.1 x.2.1 x.2.2.1) (fun _ _=>by kernel_rfl) fun _=>by rw [q191_] <;> rfl
@[reducible] def cX:List Ty:=[.sl bR,.int .i64,.int .i64,.int .i64,.int .i64]
@[reducible] def qae_:Sh:=⟨[.d YTT6,.d (.int .i64),.d (.int .i64),.fn (.func 349) [] [.pb 0 0,.pb 1 0]],[.box 3 [.d (.int .i64)],.box 3 [.d (.int .i64)]],cX,[.d (.bool)],[(0,.box 3 [.d (.int .i64)]),(1,.box 3 [.d (.int .i64)])],0,aO⟩
def qfp_:Env:=(cts [(348,(⟨q25_,q13_⟩:Ct)),(349,(⟨q28_,qx_⟩:Ct)),(350,(⟨q4z_,q57_⟩:Ct)),(353,(⟨q1s_,qz_⟩:Ct)),(354,(⟨q1r_,qt_⟩:Ct))])
def qg0_:List (Nat×Hint):=[(15,⟨[],[10]⟩),(122,⟨[],[1,2,3,9,10,19,20,21]⟩),(125342,⟨[],[1,2,3,9,10,12,14,15,19,20,21]⟩),(501369,⟨[],[1,2,3,9,10,12,14,15,19,20,21]⟩)]
def q3i_ (at' many left:Int) (t19:List YTT9) (t20 t21 o o_2:Int) (met:List Bool):St:=⟨[(1,dI at'),(2,dI many),(3,.fn (.func 349) [] [.pb 0 0,.pb 1 0]),(9,.row 2),(10,dI left),(19,.d YTT6 t19),(20,dI t20),(21,dI t21)],62,[],[(0,.box 3 [dI o]),(1,.box 3 [dI o_2]),(2,.row .bool 4 met)],3,[],2⟩
def qly_ (left o o_2:Int):St:=⟨[(10,dI left)],62,[],[(0,.box 3 [dI o]),(1,.box 3 [dI o_2])],2,[],2⟩
def q5x_ (at' many left to' i:Int) (t19:List YTT9) (t20 t21 o o_2:Int) (met:List Bool) (x:ql_):St:=⟨[(1,dI at'),(2,dI many),(3,.fn (.func 349) [] [.pb 0 0,.pb 1 0]),(9,.row 2),(10,dI left),(12,.pb 3 0),(14,dI to'),(15,dI i),(19,.d YTT6 t19),(20,dI t20),(21,dI t21)],62,[],[(0,.box 3 [dI o]),(1,.box 3 [dI o_2]),(2,.row .bool 4 met),(3,.box 250 [dI x.1,dI x.2.1,dB x.2.2.1,dB x.2.2.2.1,dB x.2.2.2.2])],4,[],2⟩
def qm8_ (at' many left to' i:Int) (t19:List YTT9) (t20 t21 o o_2:Int) (met:List Bool) (x:ql_):St:=⟨[(1,dI at'),(2,dI many),(3,.fn (.func 349) [] [.pb 0 0,.pb 1 0]),(9,.row 2),(10,dI left),(12,.pb 3 0),(14,dI to'),(15,dI i),(19,.d YTT6 t19),(20,dI t20),(21,dI t21)],62,[],[(0,.box 3 [dI o]),(1,.box 3 [dI o_2]),(2,.row .bool 4 met),(3,.box 250 [dI x.1,dI x.2.1,dB x.2.2.1,dB x.2.2.2.1,dB x.2.2.2.2])],4,[],2⟩
@[reducible] def zH3:Type:=Int->Int->Int->Option aM
@[reducible] def zH4:Type:=Int->Int->Int->List YTT9->Int->Int->Int->Int->List Bool->Option aM
def q8f_ (j2:zH3) (j3:Int->Int->Int->Int->Int->List YTT9->Int->Int->Int->Int->List Bool->ql_->Option aM) (self1:zH4) (at' many left:Int) (t19:List YTT9) (t20 t21 o o_2:Int) (met:List Bool):Option aM :=
 if lt t21 t20=true then zC (at? t19 t21) fun y=>if eqi left 0=true then j2 left o o_2 else zC (q57_ (y,at',add .i64 at' many,())) fun y_1=>j3 at' many left y_1.2.1 y_1.1 t19 t20 t21 o o_2 met y else j2 left o o_2
def qyd_ (left o o_2:Int):Option aM :=
 some (eqi left 0,o,o_2,())
def q8i_ (j4:Int->Int->Int->Int->Int->List YTT9->Int->Int->Int->Int->List Bool->ql_->Option aM) (self1:zH4) (self3:Int->Int->Int->Int->Int->List YTT9->Int->Int->Int->Int->List Bool->ql_->Option aM) (at' many left to' i:Int) (t19:List YTT9) (t20 t21 o o_2:Int) (met:List Bool) (x:ql_):Option aM :=
 if lt i to'=true then zC (at? met (Sx.sub .i64 i at')) fun x_1=>zC (at? met (Sx.sub .i64 i at')) fun y=>if y=true then j4 at' many left to' i t19 t20 t21 o o_2 met x else zC (qx_ (x,o,o_2,())) fun y=>if (!y.1)=true then some (false,y.2.1,y.2.2.1,()) else zC (at? met (Sx.sub .i64 i at')) fun x_2=>zC (at? met (Sx.sub .i64 i at')) fun x_3=>j4 at' many (Sx.sub .i64 left 1) to' i t19 t20 t21 y.2.1 y.2.2.1 (List.set met (zI (Sx.sub .i64 i at')) true) x else self1 at' many left t19 t20 (add .i64 t21 1) o o_2 met
def qm5_ (self1:zH4) (self3:Int->Int->Int->Int->Int->List YTT9->Int->Int->Int->Int->List Bool->ql_->Option aM) (at' many left to' i:Int) (t19:List YTT9) (t20 t21 o o_2:Int) (met:List Bool) (x:ql_):Option aM :=
 self3 at' many left to' (add .i64 i 1) t19 t20 t21 o o_2 met x
def qdb_ (j1:zH4) (areas:List YTT9) (at' many wanted areas_2:Int):Option aM :=
 need (ge many 0) (need (Ev.capOk many many) (need (small (zI many)) (j1 at' many many areas (zF (zG areas)) 0 wanted areas_2 (zE (zI many) false))))
def q8d_:=qyd_
def q5r_ (u1:zH4) (u3:Int->Int->Int->Int->Int->List YTT9->Int->Int->Int->Int->List Bool->ql_->Option aM):=qm5_ u1 u3
def q4e_ (u1:zH4) (at' many left to' i:Int) (t19:List YTT9) (t20 t21 o o_2:Int) (met:List Bool) (x:ql_):Option aM :=
 loopF (fun self s=>q8i_ (q5r_ u1 (fun at' many left to' i t19 t20 t21 o o_2 met x=>self (at',many,left,to',i,t19,t20,t21,o,o_2,met,x))) u1 (fun at' many left to' i t19 t20 t21 o o_2 met x=>self (at',many,left,to',i,t19,t20,t21,o,o_2,met,x)) s.1 s.2.1 s.2.2.1 s.2.2.2.1 s.2.2.2.2.1 s.2.2.2.2.2.1 s.2.2.2.2.2.2.1 s.2.2.2.2.2.2.2.1 s.2.2.2.2.2.2.2.2.1 s.2.2.2.2.2.2.2.2.2.1 s.2.2.2.2.2.2.2.2.2.2.1 s.2.2.2.2.2.2.2.2.2.2.2) 18446744073709551616 (at',many,left,to',i,t19,t20,t21,o,o_2,met,x)
def q8c_ (at' many left:Int) (t19:List YTT9) (t20 t21 o o_2:Int) (met:List Bool):Option aM :=
 loopF (fun self s=>q8f_ (q8d_) (q4e_ (fun at' many left t19 t20 t21 o o_2 met=>self (at',many,left,t19,t20,t21,o,o_2,met))) (fun at' many left t19 t20 t21 o o_2 met=>self (at',many,left,t19,t20,t21,o,o_2,met)) s.1 s.2.1 s.2.2.1 s.2.2.2.1 s.2.2.2.2.1 s.2.2.2.2.2.1 s.2.2.2.2.2.2.1 s.2.2.2.2.2.2.2.1 s.2.2.2.2.2.2.2.2) 18446744073709551616 (at',many,left,t19,t20,t21,o,o_2,met)
def qe4_ (x:As cX):Option aM:=qdb_ q8c_ x.1 x.2.1 x.2.2.1 x.2.2.2.1 x.2.2.2.2.1
abbrev pCb:=zp qfp_ qg0_ 347 qae_
theorem q1a1_ {J a b c}:pCb J 15 [] (qly_ a b c)=qyd_ a b c:=by kernel_rfl
theorem q19g_ {J w1 w3 a b c d e f g h i j k l}:pCb J 501369 [w1,w3] (qm8_ a b c d e f g h i j k l)=qm5_ (C w1 q3i_) (C w3 q5x_) a b c d e f g h i j k l:=by kernel_rfl
theorem q1a3_ {J w1 w3 a b c d e f g h i j k l}:pCb J 125342 [w1,w3] (q5x_ a b c d e f g h i j k l)=q8i_ (C (J 501369 [w1,w3]) qm8_) (C w1 q3i_) (C w3 q5x_) a b c d e f g h i j k l:=by kernel_rfl
theorem q1a9_ {J w1 a b c d e f g h i}:pCb J 122 [w1] (q3i_ a b c d e f g h i)=q8f_ (C (J 15 []) qly_) (C (J 125342 [w1]) q5x_) (C w1 q3i_) a b c d e f g h i:=by kernel_rfl
abbrev pCa:=zj qfp_ qg0_ 347 qae_
theorem q1a0_:C (pCa 15 []) qly_=q8d_:=gNC (by decide) fun _=>q1a1_
theorem q18u_ {w1 w3}:C (pCa 501369 [w1,w3]) qm8_=q5r_ (C w1 q3i_) (C w3 q5x_):=gNC (by decide) fun _=>q19g_
theorem q19c_ {w1}:C (pCa 125342 [w1]) q5x_=q4e_ (C w1 q3i_):=gLC (by decide) (by kernel_rfl) (fun _=>by unfold q4e_; rfl) fun _ _=>q1a3_.trans (by rw [q18u_] <;> kernel_rfl)
theorem q19m_:C (pCa 122 []) q3i_=q8c_:=gLC (by decide) (by kernel_rfl) (fun _=>by unfold q8c_; rfl) fun _ _=>q1a9_.trans (by rw [q1a0_,q19c_] <;> kernel_rfl)
theorem qcx_:CtOk Tryz.prog (fun _=>True) 347 ⟨qae_,qe4_⟩:=zcc (env:=qfp_) (d:=6) (hs:=Ev.get qg0_) (q0_ q20_ (q0_ q1z_ (q0_ qjr_ (q0_ q1n_ (q0_ q1l_ q1_))))) (fun J x=>qdb_ (C (J 122 []) q3i_) x.1 x.2.1 x.2.2.1 x.2.2.2.1 x.2.2.2.2.1) (fun _ _=>by kernel_rfl) fun _=>by rw [q19m_] <;> rfl
@[reducible] def q9z_:Sh:=⟨[.d YTT6,.d (.int .i64),.d (.int .i64),.fn (.func 353) [] []],[],eH,[.d (.bool)],[],0,[.bool]⟩
def qf5_:Env:=(cts [(348,(⟨q25_,q13_⟩:Ct)),(349,(⟨q28_,qx_⟩:Ct)),(350,(⟨q4z_,q57_⟩:Ct)),(353,(⟨q1s_,qz_⟩:Ct)),(354,(⟨q1r_,qt_⟩:Ct))])
def qfy_:List (Nat×Hint):=[(15,⟨[],[10]⟩),(122,⟨[],[1,2,3,9,10,19,20,21]⟩),(125342,⟨[],[1,2,3,9,10,12,14,15,19,20,21]⟩),(501369,⟨[],[1,2,3,9,10,12,14,15,19,20,21]⟩)]
def q3j_ (at' many left:Int) (t19:List YTT9) (t20 t21:Int) (met:List Bool):St:=⟨[(1,dI at'),(2,dI many),(3,.fn (.func 353) [] []),(9,.row 0),(10,dI left),(19,.d YTT6 t19),(20,dI t20),(21,dI t21)],62,[],[(0,.row .bool 4 met)],1,[],0⟩
def qm7_ (left:Int):St:=⟨[(10,dI left)],62,[],[],0,[],0⟩
def q61_ (at' many left to' i:Int) (t19:List YTT9) (t20 t21:Int) (met:List Bool) (x:ql_):St:=⟨[(1,dI at'),(2,dI many),(3,.fn (.func 353) [] []),(9,.row 0),(10,dI left),(12,.pb 1 0),(14,dI to'),(15,dI i),(19,.d YTT6 t19),(20,dI t20),(21,dI t21)],62,[],[(0,.row .bool 4 met),(1,.box 250 [dI x.1,dI x.2.1,dB x.2.2.1,dB x.2.2.2.1,dB x.2.2.2.2])],2,[],0⟩
def qlw_ (at' many left to' i:Int) (t19:List YTT9) (t20 t21:Int) (met:List Bool) (x:ql_):St:=⟨[(1,dI at'),(2,dI many),(3,.fn (.func 353) [] []),(9,.row 0),(10,dI left),(12,.pb 1 0),(14,dI to'),(15,dI i),(19,.d YTT6 t19),(20,dI t20),(21,dI t21)],62,[],[(0,.row .bool 4 met),(1,.box 250 [dI x.1,dI x.2.1,dB x.2.2.1,dB x.2.2.2.1,dB x.2.2.2.2])],2,[],0⟩
def q8u_ (j2:Int->Option aF) (j3:Int->Int->Int->Int->Int->List YTT9->Int->Int->List Bool->ql_->Option aF) (self1:zH2) (at' many left:Int) (t19:List YTT9) (t20 t21:Int) (met:List Bool):Option aF :=
 if lt t21 t20=true then zC (at? t19 t21) fun y=>if eqi left 0=true then j2 left else zC (q57_ (y,at',add .i64 at' many,())) fun y_1=>j3 at' many left y_1.2.1 y_1.1 t19 t20 t21 met y else j2 left
def qy0_ (left:Int):Option aF :=
 some (eqi left 0,())
def q8n_ (j4:Int->Int->Int->Int->Int->List YTT9->Int->Int->List Bool->ql_->Option aF) (self1:zH2) (self3:Int->Int->Int->Int->Int->List YTT9->Int->Int->List Bool->ql_->Option aF) (at' many left to' i:Int) (t19:List YTT9) (t20 t21:Int) (met:List Bool) (x:ql_):Option aF :=
 if lt i to'=true then zC (at? met (Sx.sub .i64 i at')) fun x_1=>zC (at? met (Sx.sub .i64 i at')) fun y=>if y=true then j4 at' many left to' i t19 t20 t21 met x else zC (qz_ (x,())) fun y=>if (!y.1)=true then some (false,()) else zC (at? met (Sx.sub .i64 i at')) fun x_2=>zC (at? met (Sx.sub .i64 i at')) fun x_3=>j4 at' many (Sx.sub .i64 left 1) to' i t19 t20 t21 (List.set met (zI (Sx.sub .i64 i at')) true) x else self1 at' many left t19 t20 (add .i64 t21 1) met
def qlt_ (self1:zH2) (self3:Int->Int->Int->Int->Int->List YTT9->Int->Int->List Bool->ql_->Option aF) (at' many left to' i:Int) (t19:List YTT9) (t20 t21:Int) (met:List Bool) (x:ql_):Option aF :=
 self3 at' many left to' (add .i64 i 1) t19 t20 t21 met x
def qdq_ (j1:zH2) (areas:List YTT9) (at' many:Int):Option aF :=
 need (ge many 0) (need (Ev.capOk many many) (need (small (zI many)) (j1 at' many many areas (zF (zG areas)) 0 (zE (zI many) false))))
def q8r_:=qy0_
def q5y_ (u1:zH2) (u3:Int->Int->Int->Int->Int->List YTT9->Int->Int->List Bool->ql_->Option aF):=qlt_ u1 u3
def q4g_ (u1:zH2) (at' many left to' i:Int) (t19:List YTT9) (t20 t21:Int) (met:List Bool) (x:ql_):Option aF :=
 loopF (fun self s=>q8n_ (q5y_ u1 (fun at' many left to' i t19 t20 t21 met x=>self (at',many,left,to',i,t19,t20,t21,met,x))) u1 (fun at' many left to' i t19 t20 t21 met x=>self (at',many,left,to',i,t19,t20,t21,met,x)) s.1 s.2.1 s.2.2.1 s.2.2.2.1 s.2.2.2.2.1 s.2.2.2.2.2.1 s.2.2.2.2.2.2.1 s.2.2.2.2.2.2.2.1 s.2.2.2.2.2.2.2.2.1 s.2.2.2.2.2.2.2.2.2) 18446744073709551616 (at',many,left,to',i,t19,t20,t21,met,x)
def q91_ (at' many left:Int) (t19:List YTT9) (t20 t21:Int) (met:List Bool):Option aF :=
 loopF (fun self s=>q8u_ (q8r_) (q4g_ (fun at' many left t19 t20 t21 met=>self (at',many,left,t19,t20,t21,met))) (fun at' many left t19 t20 t21 met=>self (at',many,left,t19,t20,t21,met)) s.1 s.2.1 s.2.2.1 s.2.2.2.1 s.2.2.2.2.1 s.2.2.2.2.2.1 s.2.2.2.2.2.2) 18446744073709551616 (at',many,left,t19,t20,t21,met)
def qe0_ (x:As eH):Option aF:=qdq_ q91_ x.1 x.2.1 x.2.2.1
abbrev pCd:=zp qf5_ qfy_ 347 q9z_
theorem q19x_ {J a}:pCd J 15 [] (qm7_ a)=qy0_ a:=by kernel_rfl
theorem q19d_ {J w1 w3 a b c d e f g h i j}:pCd J 501369 [w1,w3] (qlw_ a b c d e f g h i j)=qlt_ (C w1 q3j_) (C w3 q61_) a b c d e f g h i j:=by kernel_rfl
theorem q1a2_ {J w1 w3 a b c d e f g h i j}:pCd J 125342 [w1,w3] (q61_ a b c d e f g h i j)=q8n_ (C (J 501369 [w1,w3]) qlw_) (C w1 q3j_) (C w3 q61_) a b c d e f g h i j:=by kernel_rfl
theorem q19z_ {J w1 a b c d e f g}:pCd J 122 [w1] (q3j_ a b c d e f g)=q8u_ (C (J 15 []) qm7_) (C (J 125342 [w1]) q61_) (C w1 q3j_) a b c d e f g:=by kernel_rfl
abbrev pCc:=zj qf5_ qfy_ 347 q9z_
theorem q18j_:C (pCc 15 []) qm7_=q8r_:=gNC (by decide) fun _=>q19x_
theorem q19q_ {w1 w3}:C (pCc 501369 [w1,w3]) qlw_=q5y_ (C w1 q3j_) (C w3 q61_):=gNC (by decide) fun _=>q19d_
theorem q197_ {w1}:C (pCc 125342 [w1]) q61_=q4g_ (C w1 q3j_):=gLC (by decide) (by kernel_rfl) (fun _=>by unfold q4g_; rfl) fun _ _=>q1a2_.trans (by rw [q19q_] <;> kernel_rfl)
theorem q19f_:C (pCc 122 []) q3j_=q91_:=gLC (by decide) (by kernel_rfl) (fun _=>by unfold q91_; rfl) fun _ _=>q19z_.trans (by rw [q18j_,q197_] <;> kernel_rfl)
theorem qdi_:CtOk Tryz.prog (fun _=>True) 347 ⟨q9z_,qe0_⟩:=zcc (env:=qf5_) (d:=6) (hs:=Ev.get qfy_) (q0_ q20_ (q0_ q1z_ (q0_ qjr_ (q0_ q1n_ (q0_ q1l_ q1_))))) (fun J x=>qdq_ (C (J 122 []) q3j_) x.1 x.2.1 x.2.2.1) (fun _ _=>by kernel_rfl) fun _=>by rw [q19f_] <;> rfl
@[reducible] def qa9_:Sh:=⟨[.d YTT6,.d (.int .i64),.d (.int .i64),.fn (.func 354) [] [.pb 0 0,.pb 1 0]],[.box 3 [.d (.int .i64)],.box 3 [.d (.int .i64)]],cX,[.d (.bool)],[(0,.box 3 [.d (.int .i64)]),(1,.box 3 [.d (.int .i64)])],0,aO⟩
def qfv_:Env:=(cts [(348,(⟨q25_,q13_⟩:Ct)),(349,(⟨q28_,qx_⟩:Ct)),(350,(⟨q4z_,q57_⟩:Ct)),(353,(⟨q1s_,qz_⟩:Ct)),(354,(⟨q1r_,qt_⟩:Ct))])
def qf7_:List (Nat×Hint):=[(15,⟨[],[10]⟩),(122,⟨[],[1,2,3,9,10,19,20,21]⟩),(125342,⟨[],[1,2,3,9,10,12,14,15,19,20,21]⟩),(501369,⟨[],[1,2,3,9,10,12,14,15,19,20,21]⟩)]
def q3k_ (at' many left:Int) (t19:List YTT9) (t20 t21 o o_2:Int) (met:List Bool):St:=⟨[(1,dI at'),(2,dI many),(3,.fn (.func 354) [] [.pb 0 0,.pb 1 0]),(9,.row 2),(10,dI left),(19,.d YTT6 t19),(20,dI t20),(21,dI t21)],62,[],[(0,.box 3 [dI o]),(1,.box 3 [dI o_2]),(2,.row .bool 4 met)],3,[],2⟩
def qlu_ (left o o_2:Int):St:=⟨[(10,dI left)],62,[],[(0,.box 3 [dI o]),(1,.box 3 [dI o_2])],2,[],2⟩
def q65_ (at' many left to' i:Int) (t19:List YTT9) (t20 t21 o o_2:Int) (met:List Bool) (x:ql_):St:=⟨[(1,dI at'),(2,dI many),(3,.fn (.func 354) [] [.pb 0 0,.pb 1 0]),(9,.row 2),(10,dI left),(12,.pb 3 0),(14,dI to'),(15,dI i),(19,.d YTT6 t19),(20,dI t20),(21,dI t21)],62,[],[(0,.box 3 [dI o]),(1,.box 3 [dI o_2]),(2,.row .bool 4 met),(3,.box 250 [dI x.1,dI x.2.1,dB x.2.2.1,dB x.2.2.2.1,dB x.2.2.2.2])],4,[],2⟩
def qlx_ (at' many left to' i:Int) (t19:List YTT9) (t20 t21 o o_2:Int) (met:List Bool) (x:ql_):St:=⟨[(1,dI at'),(2,dI many),(3,.fn (.func 354) [] [.pb 0 0,.pb 1 0]),(9,.row 2),(10,dI left),(12,.pb 3 0),(14,dI to'),(15,dI i),(19,.d YTT6 t19),(20,dI t20),(21,dI t21)],62,[],[(0,.box 3 [dI o]),(1,.box 3 [dI o_2]),(2,.row .bool 4 met),(3,.box 250 [dI x.1,dI x.2.1,dB x.2.2.1,dB x.2.2.2.1,dB x.2.2.2.2])],4,[],2⟩
def q8l_ (j2:zH3) (j3:Int->Int->Int->Int->Int->List YTT9->Int->Int->Int->Int->List Bool->ql_->Option aM) (self1:zH4) (at' many left:Int) (t19:List YTT9) (t20 t21 o o_2:Int) (met:List Bool):Option aM :=
 if lt t21 t20=true then zC (at? t19 t21) fun y=>if eqi left 0=true then j2 left o o_2 else zC (q57_ (y,at',add .i64 at' many,())) fun y_1=>j3 at' many left y_1.2.1 y_1.1 t19 t20 t21 o o_2 met y else j2 left o o_2
def qyn_ (left o o_2:Int):Option aM :=
 some (eqi left 0,o,o_2,())
def q8m_ (j4:Int->Int->Int->Int->Int->List YTT9->Int->Int->Int->Int->List Bool->ql_->Option aM) (self1:zH4) (self3:Int->Int->Int->Int->Int->List YTT9->Int->Int->Int->Int->List Bool->ql_->Option aM) (at' many left to' i:Int) (t19:List YTT9) (t20 t21 o o_2:Int) (met:List Bool) (x:ql_):Option aM :=
 if lt i to'=true then zC (at? met (Sx.sub .i64 i at')) fun x_1=>zC (at? met (Sx.sub .i64 i at')) fun y=>if y=true then j4 at' many left to' i t19 t20 t21 o o_2 met x else zC (qt_ (x,o,o_2,())) fun y=>if (!y.1)=true then some (false,y.2.1,y.2.2.1,()) else zC (at? met (Sx.sub .i64 i at')) fun x_2=>zC (at? met (Sx.sub .i64 i at')) fun x_3=>j4 at' many (Sx.sub .i64 left 1) to' i t19 t20 t21 y.2.1 y.2.2.1 (List.set met (zI (Sx.sub .i64 i at')) true) x else self1 at' many left t19 t20 (add .i64 t21 1) o o_2 met
def qme_ (self1:zH4) (self3:Int->Int->Int->Int->Int->List YTT9->Int->Int->Int->Int->List Bool->ql_->Option aM) (at' many left to' i:Int) (t19:List YTT9) (t20 t21 o o_2:Int) (met:List Bool) (x:ql_):Option aM :=
 self3 at' many left to' (add .i64 i 1) t19 t20 t21 o o_2 met x
def qd8_ (j1:zH4) (areas:List YTT9) (at' many wanted areas_2:Int):Option aM :=
 need (ge many 0) (need (Ev.capOk many many) (need (small (zI many)) (j1 at' many many areas (zF (zG areas)) 0 wanted areas_2 (zE (zI many) false))))
def q8b_:=qyn_
def q5w_ (u1:zH4) (u3:Int->Int->Int->Int->Int->List YTT9->Int->Int->Int->Int->List Bool->ql_->Option aM):=qme_ u1 u3
def q4f_ (u1:zH4) (at' many left to' i:Int) (t19:List YTT9) (t20 t21 o o_2:Int) (met:List Bool) (x:ql_):Option aM :=
 loopF (fun self s=>q8m_ (q5w_ u1 (fun at' many left to' i t19 t20 t21 o o_2 met x=>self (at',many,left,to',i,t19,t20,t21,o,o_2,met,x))) u1 (fun at' many left to' i t19 t20 t21 o o_2 met x=>self (at',many,left,to',i,t19,t20,t21,o,o_2,met,x)) s.1 s.2.1 s.2.2.1 s.2.2.2.1 s.2.2.2.2.1 s.2.2.2.2.2.1 s.2.2.2.2.2.2.1 s.2.2.2.2.2.2.2.1 s.2.2.2.2.2.2.2.2.1 s.2.2.2.2.2.2.2.2.2.1 s.2.2.2.2.2.2.2.2.2.2.1 s.2.2.2.2.2.2.2.2.2.2.2) 18446744073709551616 (at',many,left,to',i,t19,t20,t21,o,o_2,met,x)
def q8k_ (at' many left:Int) (t19:List YTT9) (t20 t21 o o_2:Int) (met:List Bool):Option aM :=
 loopF (fun self s=>q8l_ (q8b_) (q4f_ (fun at' many left t19 t20 t21 o o_2 met=>self (at',many,left,t19,t20,t21,o,o_2,met))) (fun at' many left t19 t20 t21 o o_2 met=>self (at',many,left,t19,t20,t21,o,o_2,met)) s.1 s.2.1 s.2.2.1 s.2.2.2.1 s.2.2.2.2.1 s.2.2.2.2.2.1 s.2.2.2.2.2.2.1 s.2.2.2.2.2.2.2.1 s.2.2.2.2.2.2.2.2) 18446744073709551616 (at',many,left,t19,t20,t21,o,o_2,met)
def qe3_ (x:As cX):Option aM:=qd8_ q8k_ x.1 x.2.1 x.2.2.1 x.2.2.2.1 x.2.2.2.2.1
abbrev pCf:=zp qfv_ qf7_ 347 qa9_
theorem q18m_ {J a b c}:pCf J 15 [] (qlu_ a b c)=qyn_ a b c:=by kernel_rfl
theorem q195_ {J w1 w3 a b c d e f g h i j k l}:pCf J 501369 [w1,w3] (qlx_ a b c d e f g h i j k l)=qme_ (C w1 q3k_) (C w3 q65_) a b c d e f g h i j k l:=by kernel_rfl
theorem q18v_ {J w1 w3 a b c d e f g h i j k l}:pCf J 125342 [w1,w3] (q65_ a b c d e f g h i j k l)=q8m_ (C (J 501369 [w1,w3]) qlx_) (C w1 q3k_) (C w3 q65_) a b c d e f g h i j k l:=by kernel_rfl
theorem q199_ {J w1 a b c d e f g h i}:pCf J 122 [w1] (q3k_ a b c d e f g h i)=q8l_ (C (J 15 []) qlu_) (C (J 125342 [w1]) q65_) (C w1 q3k_) a b c d e f g h i:=by kernel_rfl
abbrev pCe:=zj qfv_ qf7_ 347 qa9_
theorem q196_:C (pCe 15 []) qlu_=q8b_:=gNC (by decide) fun _=>q18m_
theorem q18o_ {w1 w3}:C (pCe 501369 [w1,w3]) qlx_=q5w_ (C w1 q3k_) (C w3 q65_):=gNC (by decide) fun _=>q195_
theorem q193_ {w1}:C (pCe 125342 [w1]) q65_=q4f_ (C w1 q3k_):=gLC (by decide) (by kernel_rfl) (fun _=>by unfold q4f_; rfl) fun _ _=>q18v_.trans (by rw [q18o_] <;> kernel_rfl)
theorem q1a5_:C (pCe 122 []) q3k_=q8k_:=gLC (by decide) (by kernel_rfl) (fun _=>by unfold q8k_; rfl) fun _ _=>q199_.trans (by rw [q196_,q193_] <;> kernel_rfl)
theorem qd0_:CtOk Tryz.prog (fun _=>True) 347 ⟨qa9_,qe3_⟩:=zcc (env:=qfv_) (d:=6) (hs:=Ev.get qf7_) (q0_ q20_ (q0_ q1z_ (q0_ qjr_ (q0_ q1n_ (q0_ q1l_ q1_))))) (fun J x=>qd8_ (C (J 122 []) q3k_) x.1 x.2.1 x.2.2.1 x.2.2.2.1 x.2.2.2.2.1) (fun _ _=>by kernel_rfl) fun _=>by rw [q1a5_] <;> rfl
@[reducible] def dF:List Ty:=[.pr YTT6 (.sl .bool),.int .i64,.int .i64]
@[reducible] def qcs_:Sh:=⟨[.d bK,.d (.int .i64),.d (.int .i64)],[],dF,[.d (.bool)],[],0,[.bool]⟩
def qrx_ (t:List YTT9×List Bool) (at' many:Int):Option aF :=
 zC (qe9_ (t.1,at',many,())) fun y=>some (y.1,())
def q1i_ (x:As dF):Option aF:=qrx_ x.1 x.2.1 x.2.2.1
theorem qrp_:CtOk Tryz.prog (fun _=>True) 345 ⟨qcs_,q1i_⟩:=ctn (q0_ qdd_ (q0_ qcx_ (q0_ qdi_ (q0_ qd0_ (q0_ q20_ q1_))))) 6 fun J x=>by kernel_rfl
@[reducible] def qcq_:Sh:=⟨[.d bK,.d (.int .i64),.d (.int .i64)],[],dF,[.d (.bool)],[],0,[.bool]⟩
def qrj_ (t:List YTT9×List Bool) (at' many:Int):Option aF :=
 zC (qe4_ (t.1,at',many,at',many,())) fun y=>some (y.1,())
def q1k_ (x:As dF):Option aF:=qrj_ x.1 x.2.1 x.2.2.1
theorem qsa_:CtOk Tryz.prog (fun _=>True) 346 ⟨qcq_,q1k_⟩:=ctn (q0_ qdd_ (q0_ qcx_ (q0_ qdi_ (q0_ qd0_ (q0_ q1z_ q1_))))) 6 fun J x=>by kernel_rfl
@[reducible] def dQ:List Ty:=[.pr YTT6 aC,.int .i64,.int .i64]
@[reducible] def qaz_:Sh:=⟨[.d cJ,.d (.int .i64),.d (.int .i64)],[],dQ,[.d (.bool)],[],0,[.bool]⟩
def qnx_ (t:List YTT9×List Int) (at' many:Int):Option aF :=
 zC (qe0_ (t.1,at',many,())) fun y=>some (y.1,())
def q15_ (x:As dQ):Option aF:=qnx_ x.1 x.2.1 x.2.2.1
theorem qp9_:CtOk Tryz.prog (fun _=>True) 351 ⟨qaz_,q15_⟩:=ctn (q0_ qdd_ (q0_ qcx_ (q0_ qdi_ (q0_ qd0_ (q0_ q1n_ q1_))))) 6 fun J x=>by kernel_rfl
@[reducible] def qay_:Sh:=⟨[.d cJ,.d (.int .i64),.d (.int .i64)],[],dQ,[.d (.bool)],[],0,[.bool]⟩
def qqa_ (t:List YTT9×List Int) (at' many:Int):Option aF :=
 zC (qe3_ (t.1,at',many,at',many,())) fun y=>some (y.1,())
def qy_ (x:As dQ):Option aF:=qqa_ x.1 x.2.1 x.2.2.1
theorem qnd_:CtOk Tryz.prog (fun _=>True) 352 ⟨qay_,qy_⟩:=ctn (q0_ qdd_ (q0_ qcx_ (q0_ qdi_ (q0_ qd0_ (q0_ q1l_ q1_))))) 6 fun J x=>by kernel_rfl
@[reducible] def q75_:Sh:=⟨[.d (.pr YTT6 bB),.d bC],[],[.pr YTT6 bB,.pr (.int .u8) YTT7],[.d (.int .u8)],[],0,[.int .u8]⟩
def ql1_:Env:=(cts [(105,(⟨q6c_,q5i_⟩:Ct)),(221,(⟨q16v_,qia_⟩:Ct)),(222,(⟨qxp_,qh9_⟩:Ct)),(224,(⟨qsc_,q8e_⟩:Ct)),(345,(⟨qcs_,q1i_⟩:Ct)),(346,(⟨qcq_,q1k_⟩:Ct)),(351,(⟨qaz_,q15_⟩:Ct)),(352,(⟨qay_,qy_⟩:Ct))])
def qjy_:List (Nat×Hint):=[(509,⟨[],[60]⟩),(125,⟨[],[3,5,6,40,55,56,57,58,59]⟩)]
@[reducible] def dU:Type:=List YTT9×List Bool
@[reducible] def zH5:Type:=dU×dU×(List YTT9×List Int)×List YTT9×List Int
def qrb_ (t40:Bool) (a:zH1) (v:zH5) (u:Int×Int):St:=⟨[(3,.pb 0 0),(5,.pb 1 0),(6,.pb 2 0),(40,dB t40)],61,[],[(0,.box 27 [d8 a.1,d6 a.2.1,d6 a.2.2.1,d6 a.2.2.2.1,dW a.2.2.2.2.1,.d (.sl .bool) a.2.2.2.2.2]),(1,.box 275 [.d YTT6 v.1.1,.d (.sl .bool) v.1.2,.d YTT6 v.2.1.1,.d (.sl .bool) v.2.1.2,.d YTT6 v.2.2.1.1,dW v.2.2.1.2,.d YTT6 v.2.2.2.1,dW v.2.2.2.2]),(2,.box 279 [dI u.1,dI u.2])],3,[],0⟩
def qr4_ (t60:Bool):St:=⟨[(60,dB t60)],61,[],[],0,[],0⟩
def q120_ (j2:Bool->Option (As [.int .u8])) (t40:Bool) (a:zH1) (v:zH5) (u:Int×Int):Option (As [.int .u8]) :=
 if t40=true then some (2,()) else zC (q8e_ (a,())) fun y=>if eqi u.2 1=true then zC (q1k_ (v.1,y.1,y.2.1,())) fun y=>j2 !y.1 else if eqi u.2 2=true then zC (q1k_ (v.2.1,y.1,y.2.1,())) fun y=>j2 !y.1 else if eqi u.2 3=true then zC (qy_ (v.2.2.1,y.1,y.2.1,())) fun y=>j2 !y.1 else if eqi u.2 4=true then zC (qy_ (v.2.2.2,y.1,y.2.1,())) fun y=>j2 !y.1 else j2 false
def q129_ (t60:Bool):Option (As [.int .u8]) :=
 if t60=true then some (2,()) else some (0,())
def qhw_ (j1:Bool->Int×Int×Int×Int×List Int×List Bool->dU×dU×(List YTT9×List Int)×List YTT9×List Int->Int×Int->Option (As [.int .u8])) (s:List YTT9×List YTT9×List YTT9×List YTT9) (a:zH1):Option (As [.int .u8]) :=
 zC (q5i_ (a,())) fun y=>if (!y.1)=true then some (3,()) else zC (qia_ (s,([],[],[],[]),())) fun y=>zC (qh9_ (a.1,())) fun y_1=>if eqi y_1.1.1 1=true then zC (q1i_ (y.1.1,cvt .i64 a.2.1,cvt .i64 a.2.2.1,())) fun y_2=>j1 (!y_2.1) a y.1 y_1.1 else if eqi y_1.1.1 2=true then zC (q1i_ (y.1.2.1,cvt .i64 a.2.1,cvt .i64 a.2.2.1,())) fun y_2=>j1 (!y_2.1) a y.1 y_1.1 else if eqi y_1.1.1 3=true then zC (q15_ (y.1.2.2.1,cvt .i64 a.2.1,cvt .i64 a.2.2.1,())) fun y_2=>j1 (!y_2.1) a y.1 y_1.1 else if eqi y_1.1.1 4=true then zC (q15_ (y.1.2.2.2,cvt .i64 a.2.1,cvt .i64 a.2.2.1,())) fun y_2=>j1 (!y_2.1) a y.1 y_1.1 else j1 false a y.1 y_1.1
def q4o_:=q129_
def q10_:=q120_ (q4o_)
def q7w_ (x:As [.pr YTT6 bB,.pr (.int .u8) YTT7]):Option (As [.int .u8]):=qhw_ q10_ x.1 x.2.1
abbrev pB5:=zp ql1_ qjy_ 164 q75_
theorem q1dk_ {J a}:pB5 J 509 [] (qr4_ a)=q129_ a:=by kernel_rfl
theorem q1ck_ {J a b c d}:pB5 J 125 [] (qrb_ a b c d)=q120_ (C (J 509 []) qr4_) a b c d:=by kernel_rfl
abbrev pB4:=zj ql1_ qjy_ 164 q75_
theorem q1cv_:C (pB4 509 []) qr4_=q4o_:=gNC (by decide) fun _=>q1dk_
theorem q1bu_:C (pB4 125 []) qrb_=q10_:=gNC (by decide) fun _=>q1ck_.trans (by rw [q1cv_] <;> kernel_rfl)
theorem q11f_:CtOk Tryz.prog (fun _=>True) 164 ⟨q75_,q7w_⟩:=zcc (env:=ql1_) (d:=6) (hs:=Ev.get qjy_) (q0_ qgg_ (q0_ q13t_ (q0_ q13l_ (q0_ q109_ (q0_ qrp_ (q0_ qsa_ (q0_ qp9_ (q0_ qnd_ q1_)))))))) (fun J x=>qhw_ (C (J 125 []) qrb_) x.1 x.2.1) (fun _ _=>by kernel_rfl) fun _=>by rw [q1bu_] <;> rfl
@[reducible] def dT:List Ty:=[.pr YTT6 bB]
@[reducible] def q71_:Sh:=⟨[],[],[],[.d (.pr YTT6 bB)],[],0,dT⟩
def qlg_:Env:=(cts [])
def ql9_:List (Nat×Hint):=[(7,⟨[],[0,1]⟩),(58,⟨[],[0,1,8]⟩)]
def qhz_ (t8:Int) (words:List YTT9):St:=⟨[(0,.pb 0 0),(1,.row 1),(8,dI t8)],27,[],[(0,.box 189 [.k (zK zH 0 0),.k (zK zH 0 0),.k (zK zH 0 0),.k (zK zH 0 0)]),(1,.row bR 250 words)],2,[],0⟩
def qqq_ (words:List YTT9):St:=⟨[(0,.pb 0 0),(1,.row 1)],27,[],[(0,.box 189 [.k (zK zH 0 0),.k (zK zH 0 0),.k (zK zH 0 0),.k (zK zH 0 0)]),(1,.row bR 250 words)],2,[],0⟩
@[reducible] def dH:Type:=As dT
@[reducible] def zH6:Type:=Int->List YTT9->Option dH
def q12j_ (j2:List YTT9->Option dH) (self1:zH6) (t8:Int) (words:List YTT9):Option dH :=
 if lt t8 8=true then need (small (zG words + Nat.succ 0)) (self1 (add .i64 t8 1) (words++[(add .i64 512 (mul .i64 t8 32),20,true,false,false)])) else j2 words
def q12y_ (words:List YTT9):Option dH :=
 some (([(0,16,true,true,false)],[(0,8,true,false,false)],words,[(0,8,true,false,false)]),())
def q12n_ (j1:zH6):Option dH :=
 j1 0 [(0,64,true,false,false),(256,8,true,false,false),(272,8,false,true,true),(288,20,false,true,true)]
def q12z_:=q12y_
def qrt_ (t8:Int) (words:List YTT9):Option dH :=
 loopF (fun self s=>q12j_ (q12z_) (fun t8 words=>self (t8,words)) s.1 s.2) 18446744073709551616 (t8,words)
def q3m_ (x:As []):Option dH:=q12n_ qrt_
abbrev pDl:=zp qlg_ ql9_ 165 q71_
theorem q1e5_ {J a}:pDl J 7 [] (qqq_ a)=q12y_ a:=by kernel_rfl
theorem q1co_ {J w1 a b}:pDl J 58 [w1] (qhz_ a b)=q12j_ (C (J 7 []) qqq_) (C w1 qhz_) a b:=by kernel_rfl
abbrev pDk:=zj qlg_ ql9_ 165 q71_
theorem q1eu_:C (pDk 7 []) qqq_=q12z_:=gNC (by decide) fun _=>q1e5_
theorem q1d8_:C (pDk 58 []) qhz_=qrt_:=gLC (by decide) (by kernel_rfl) (fun _=>by unfold qrt_; rfl) fun _ _=>q1co_.trans (by rw [q1eu_] <;> kernel_rfl)
theorem q12s_:CtOk Tryz.prog (fun _=>True) 165 ⟨q71_,q3m_⟩:=zcc (env:=qlg_) (d:=6) (hs:=Ev.get ql9_) q1_ (fun J x=>q12n_ (C (J 58 []) qhz_)) (fun _ _=>by kernel_rfl) fun _=>by rw [q1d8_] <;> rfl
@[reducible] def cA:List Ty:=[.pr (.sl .bool) YTT15]
@[reducible] def bX:Type:=As cA
def q1is_ (m:List Bool×List Bool×List Int×List Int):Option bX :=
 zC (q2n_ (m.1,())) fun y=>zC (q2n_ (m.2.1,())) fun y_1=>zC (qc_ (m.2.2.1,())) fun y_2=>zC (qc_ (m.2.2.2,())) fun y_3=>some ((y.1,y_1.1,y_2.1,y_3.1),())
def q1ov_ (x:As cA):Option bX:=q1is_ x.1
end Go.Proofs.Lx
end
