/- Proved in the last of these 15 parts (this is part 8): TalkOwned. Conditions: those of the given statement, and no others. -/
import Derived.Test.YtljkanofaahagaaGreatPartd
import Derived.Test.YtljkanofaahagaaGreatPartg
import Derived.Test.YtljkanofaahagaaGreatProg
import Derived.Test.YtljkanofaahagaaGreatParte
set_option linter.unusedVariables false
set_option linter.unusedSimpArgs false
set_option linter.unusedSectionVars false
open Option renaming bind → zC, none → zH
open List renaming replicate → zE, length → zG, getD → zJ
open Int renaming ofNat → zF, toNat → zI
open Go.Value renaming slice → zK
noncomputable section
open Go Go.Proofs Ev Sx
set_option maxRecDepth 100000
namespace Go.Proofs.Lx
abbrev ql_:Type:=Int×Int×Bool×Bool×Bool
@[reducible] def q1h6_:Sh:=⟨[.d (.pr (.int .u8) (.pr (.int .u8) (.pr (.pr (.sl (.int .u16)) YTT1) (.sl .bool))))],[],[.pr (.int .u8) (.pr (.int .u8) (.pr (.pr (.sl (.int .u16)) YTT1) (.sl .bool)))],[.agg [.d (.int .u8),.d (.int .u8),.d (.sl (.int .u16)),.d (.int .u16),.d (.int .i64),.d (.int .u8),.d (.int .u32),.d (.int .u32),.d (.int .u32),.d (.bool),.d (.bool),.d (.bool),.d (.bool),.d (.bool),.d (.bool),.d (.bool),.d (.bool),.d (.int .i64),.d (.sl (.int .u16)),.d (.int .i64),.d (.sl (.int .u16)),.d (.int .i64),.d (.sl (.int .u16)),.d (.int .i64),.d (.sl (.int .u16)),.d (.int .i64),.d (.sl (.int .u16)),.d (.int .i64),.d (.sl (.int .u16)),.d (.int .i64),.d (.sl (.int .u16)),.d (.int .i64),.d (.sl (.int .u16)),.d (.int .i64),.row 0]],[(0,.row .bool 4)],1,[.int .u8,.int .u8,.sl (.int .u16),.int .u16,.int .i64,.int .u8,.int .u32,.int .u32,.int .u32,.bool,.bool,.bool,.bool,.bool,.bool,.bool,.bool,.int .i64,.sl (.int .u16),.int .i64,.sl (.int .u16),.int .i64,.sl (.int .u16),.int .i64,.sl (.int .u16),.int .i64,.sl (.int .u16),.int .i64,.sl (.int .u16),.int .i64,.sl (.int .u16),.int .i64,.sl (.int .u16),.int .i64,.sl .bool]⟩
def q1gb_:Env:=(cts [(1000045,Ev.bxCt),(1000226,Ev.bxCt),(45,(⟨q2w_,qc_⟩:Ct)),(113,(⟨q65_,q2s_⟩:Ct))])
def qqy_ (s:Int×Int×YTT4×List Bool):Option (As [.int .u8,.int .u8,.sl (.int .u16),.int .u16,.int .i64,.int .u8,.int .u32,.int .u32,.int .u32,.bool,.bool,.bool,.bool,.bool,.bool,.bool,.bool,.int .i64,.sl (.int .u16),.int .i64,.sl (.int .u16),.int .i64,.sl (.int .u16),.int .i64,.sl (.int .u16),.int .i64,.sl (.int .u16),.int .i64,.sl (.int .u16),.int .i64,.sl (.int .u16),.int .i64,.sl (.int .u16),.int .i64,.sl .bool]) :=
 zC (q2s_ (s.2.2.2,())) fun y=>zC (qc_ (s.2.2.1.1,())) fun y_1=>zC (qc_ ((zJ s.2.2.1.2.2.2.2.2.1.2.2 0 (0,[])).2,())) fun y_2=>zC (qc_ ((zJ s.2.2.1.2.2.2.2.2.1.2.2 1 (0,[])).2,())) fun y_3=>zC (qc_ ((zJ s.2.2.1.2.2.2.2.2.1.2.2 2 (0,[])).2,())) fun y_4=>zC (qc_ ((zJ s.2.2.1.2.2.2.2.2.1.2.2 3 (0,[])).2,())) fun y_5=>zC (qc_ ((zJ s.2.2.1.2.2.2.2.2.1.2.2 4 (0,[])).2,())) fun y_6=>zC (qc_ ((zJ s.2.2.1.2.2.2.2.2.1.2.2 5 (0,[])).2,())) fun y_7=>zC (qc_ ((zJ s.2.2.1.2.2.2.2.2.1.2.2 6 (0,[])).2,())) fun y_8=>zC (qc_ ((zJ s.2.2.1.2.2.2.2.2.1.2.2 7 (0,[])).2,())) fun y_9=>some (s.1,s.2.1,y_1.1,s.2.2.1.2.1.1,s.2.2.1.2.1.2,s.2.2.1.2.2.1,s.2.2.1.2.2.2.1,s.2.2.1.2.2.2.2.1,s.2.2.1.2.2.2.2.2.1.1,zJ s.2.2.1.2.2.2.2.2.1.2.1 0 false,zJ s.2.2.1.2.2.2.2.2.1.2.1 1 false,zJ s.2.2.1.2.2.2.2.2.1.2.1 2 false,zJ s.2.2.1.2.2.2.2.2.1.2.1 3 false,zJ s.2.2.1.2.2.2.2.2.1.2.1 4 false,zJ s.2.2.1.2.2.2.2.2.1.2.1 5 false,zJ s.2.2.1.2.2.2.2.2.1.2.1 6 false,zJ s.2.2.1.2.2.2.2.2.1.2.1 7 false,(zJ s.2.2.1.2.2.2.2.2.1.2.2 0 (0,[])).1,y_2.1,(zJ s.2.2.1.2.2.2.2.2.1.2.2 1 (0,[])).1,y_3.1,(zJ s.2.2.1.2.2.2.2.2.1.2.2 2 (0,[])).1,y_4.1,(zJ s.2.2.1.2.2.2.2.2.1.2.2 3 (0,[])).1,y_5.1,(zJ s.2.2.1.2.2.2.2.2.1.2.2 4 (0,[])).1,y_6.1,(zJ s.2.2.1.2.2.2.2.2.1.2.2 5 (0,[])).1,y_7.1,(zJ s.2.2.1.2.2.2.2.2.1.2.2 6 (0,[])).1,y_8.1,(zJ s.2.2.1.2.2.2.2.2.1.2.2 7 (0,[])).1,y_9.1,s.2.2.1.2.2.2.2.2.2,y.1,())
def q10h_ (x:As [.pr (.int .u8) (.pr (.int .u8) (.pr (.pr (.sl (.int .u16)) YTT1) (.sl .bool)))]):Option (As [.int .u8,.int .u8,.sl (.int .u16),.int .u16,.int .i64,.int .u8,.int .u32,.int .u32,.int .u32,.bool,.bool,.bool,.bool,.bool,.bool,.bool,.bool,.int .i64,.sl (.int .u16),.int .i64,.sl (.int .u16),.int .i64,.sl (.int .u16),.int .i64,.sl (.int .u16),.int .i64,.sl (.int .u16),.int .i64,.sl (.int .u16),.int .i64,.sl (.int .u16),.int .i64,.sl (.int .u16),.int .i64,.sl .bool]):=qqy_ x.1
theorem q1ea_:CtOk Tryz.prog (fun _=>True) 99 ⟨q1h6_,q10h_⟩:=ctn (env:=q1gb_) (q0_ Ev.bx_ok (q0_ Ev.bx_ok (q0_ q1h_ (q0_ qix_ q2_)))) 6 fun J x=>by kernel_rfl
@[reducible] def qe0_:Sh:=⟨[.d (.sl (.int .u8))],[],[.sl (.int .u8)],[.d (.sl (.int .u16))],[],0,[.sl (.int .u16)]⟩
def qwn_:Env:=(cts [])
def qwp_:List (Nat×Hint):=[(58,⟨[],[0,3,10,11]⟩)]
def qsc_ (b:List Int) (t10 t11:Int) (l:List Int):St:=⟨[(0,dL b),(3,.row 0),(10,dI t10),(11,dI t11)],34,[],[(0,.row (.int .u16) 25 l)],1,[],0⟩
@[reducible] def zH0:Type:=List Int->Int->Int->List Int->Option (As [.sl (.int .u16)])
def qj7_ (self1:zH0) (b:List Int) (t10 t11:Int) (l:List Int):Option (As [.sl (.int .u16)]) :=
 if lt t11 t10=true then zC (at? b (mul .i64 2 t11)) fun y=>zC (at? b (add .i64 (mul .i64 2 t11) 1)) fun y_1=>zC (at? l t11) fun x=>zC (at? l t11) fun x=>self1 b t10 (add .i64 t11 1) (List.set l (zI t11) (Sx.bor .u16 (Sx.shl .u16 (cvt .u16 y) 8) (cvt .u16 y_1))) else some (l,())
def qta_ (j1:zH0) (b:List Int):Option (As [.sl (.int .u16)]) :=
 need (ge (quo .i64 (zF (zG b)) 2) 0) (need (Ev.capOk (quo .i64 (zF (zG b)) 2) (quo .i64 (zF (zG b)) 2)) (need (small (zI (quo .i64 (zF (zG b)) 2))) (j1 b (zF (zG (zE (α:=Int) (zI (quo .i64 (zF (zG b)) 2)) 0))) 0 (zE (zI (quo .i64 (zF (zG b)) 2)) 0))))
def qjg_ (b:List Int) (t10 t11:Int) (l:List Int):Option (As [.sl (.int .u16)]) :=
 loopF (fun self s=>qj7_ (fun b t10 t11 l=>self (b,t10,t11,l)) s.1 s.2.1 s.2.2.1 s.2.2.2) 18446744073709551616 (b,t10,t11,l)
def q8f_ (x:As [.sl (.int .u8)]):Option (As [.sl (.int .u16)]):=qta_ qjg_ x.1
abbrev ask_list_P:=zp qwn_ qwp_ 272 qe0_
theorem q1my_ {J w1 a b c d}:ask_list_P J 58 [w1] (qsc_ a b c d)=qj7_ (C w1 qsc_) a b c d:=by kernel_rfl
theorem q1nm_ (J:Orc (As [.sl (.int .u16)])) (x:As [.sl (.int .u8)]):rfn Tryz.prog qwn_ 6 18446744073709551616 (Ev.get qwp_) 272 qe0_ J x=qta_ (C (J 58 []) qsc_) x.1:=by kernel_rfl
abbrev ask_list_J:=zj qwn_ qwp_ 272 qe0_
theorem q1nk_:C (ask_list_J 58 []) qsc_=qjg_:=gLC (by decide) (by kernel_rfl) (fun _=>by unfold qjg_; rfl) fun _ _=>q1my_.trans (by kernel_rfl)
theorem q1p0_ (x:As [.sl (.int .u8)]):evT Tryz.prog qwn_ 6 18446744073709551616 (Ev.get qwp_) 272 qe0_ x=q8f_ x:=by
 rw [qb_,q1nm_,q1nk_] <;> rfl
theorem q18n_:CtOk Tryz.prog (fun _=>True) 272 ⟨qe0_,q8f_⟩:=q7_ q2_ q1p0_
@[reducible] def q9u_:Sh:=⟨[.d (.pr (.int .u8) YTT7),.d (.pr (.int .i64) YTT22),.d (.sl (.int .u8))],[],[.pr (.int .u8) YTT7,.pr (.int .i64) YTT22,.sl (.int .u8)],[.d (.pr (.int .u8) YTT7),.d (.bool)],[],0,[.pr (.int .u8) YTT7,.bool]⟩
def qkf_:Env:=(cts [(272,(⟨qe0_,q8f_⟩:Ct)),(288,(⟨qck_,qdy_⟩:Ct))])
def ql8_:List (Nat×Hint):=[(15,⟨[.frb 3,.frb 6],[3,6]⟩)]
def qrq_ (a a_2 a_3 a_4:Int) (a_5:List Int) (a_6:List Bool) (t6 t6_2 t6_3 t6_4:Int) (t6_5:List Int) (t6_6:List Bool):St:=⟨[(3,.pb 0 0),(6,.pb 1 0)],63,[],[(0,.box 27 [d8 a,d6 a_2,d6 a_3,d6 a_4,dW a_5,.d (.sl .bool) a_6]),(1,.box 27 [d8 t6,d6 t6_2,d6 t6_3,d6 t6_4,dW t6_5,.d (.sl .bool) t6_6])],2,[],0⟩
def q134_ (a a_2 a_3 a_4:Int) (a_5:List Int) (a_6:List Bool) (t6 t6_2 t6_3 t6_4:Int) (t6_5:List Int) (t6_6:List Bool):Option (As [.pr (.int .u8) YTT7,.bool]) :=
 some ((a,a_2,a_3,a_4,a_5,a_6),true,())
@[reducible] def zH1:Type:=Int×Int×Int×Int×List Int×List Bool
def qis_ (j1:Int->Int->Int->Int->List Int->List Bool->Int->Int->Int->Int->List Int->List Bool->Option (As [.pr (.int .u8) YTT7,.bool])) (a:zH1) (s:Int×Int×Int×Bool×Bool) (rest:List Int):Option (As [.pr (.int .u8) YTT7,.bool]) :=
 if eqi (add .i64 s.2.1 s.2.2.1) 0=true then some (a,true,()) else if lt (zF (zG rest)) 2=true then some ((0,0,0,0,[],[]),false,()) else if eqi a.1 5=true then zC (at? rest 0) fun y=>j1 a.1 a.2.1 a.2.2.1 a.2.2.2.1 a.2.2.2.2.1 [nei y 0] 0 0 0 0 [] [] else if eqi a.1 6=true then zC (q8f_ (rest,())) fun y=>j1 a.1 a.2.1 a.2.2.1 a.2.2.2.1 y.1 a.2.2.2.2.2 0 0 0 0 [] [] else if gt s.2.1 0=true then zC (cut rest 1 (zF (zG rest))) fun y=>zC (qdy_ (y,())) fun y=>if lt (zF (zG y.1)) (cvt .i64 a.2.2.1)=true then some ((0,0,0,0,[],[]),false,()) else zC (cut y.1 0 a.2.2.1) fun y_1=>need (le a.2.2.1 a.2.2.1) (need (le a.2.2.1 (zF (zG y.1))) (j1 a.1 a.2.1 a.2.2.1 a.2.2.2.1 a.2.2.2.2.1 y_1 0 0 0 0 [] [])) else zC (cut rest 1 (zF (zG rest))) fun y=>zC (q8f_ (y,())) fun y=>j1 a.1 a.2.1 a.2.2.1 a.2.2.2.1 y.1 a.2.2.2.2.2 0 0 0 0 [] []
def qr7_:=q134_
def q2l_ (x:As [.pr (.int .u8) YTT7,.pr (.int .i64) YTT22,.sl (.int .u8)]):Option (As [.pr (.int .u8) YTT7,.bool]):=qis_ qr7_ x.1 x.2.1 x.2.2.1
abbrev ask_written_P:=zp qkf_ ql8_ 273 q9u_
theorem q1f6_ {J a b c d e f g h i j k l}:ask_written_P J 15 [] (qrq_ a b c d e f g h i j k l)=q134_ a b c d e f g h i j k l:=by kernel_rfl
theorem q1cb_ (J:Orc (As [.pr (.int .u8) YTT7,.bool])) (x:As [.pr (.int .u8) YTT7,.pr (.int .i64) YTT22,.sl (.int .u8)]):rfn Tryz.prog qkf_ 6 18446744073709551616 (Ev.get ql8_) 273 q9u_ J x=qis_ (C (J 15 []) qrq_) x.1 x.2.1 x.2.2.1:=by kernel_rfl
abbrev ask_written_J:=zj qkf_ ql8_ 273 q9u_
theorem q1eb_:C (ask_written_J 15 []) qrq_=qr7_:=gNC (by decide) fun _=>q1f6_
theorem q1ha_ (x:As [.pr (.int .u8) YTT7,.pr (.int .i64) YTT22,.sl (.int .u8)]):evT Tryz.prog qkf_ 6 18446744073709551616 (Ev.get ql8_) 273 q9u_ x=q2l_ x:=by
 rw [qb_,q1cb_,q1eb_] <;> rfl
theorem q1d1_:CtOk Tryz.prog (fun _=>True) 273 ⟨q9u_,q2l_⟩:=q7_ (q0_ q18n_ (q0_ q13u_ q2_)) q1ha_
@[reducible] def qiq_:Sh:=⟨[.d (.sl (.int .u8))],[],[.sl (.int .u8)],[.d (.pr (.int .u8) YTT7),.d (.bool)],[],0,[.pr (.int .u8) YTT7,.bool]⟩
def qx6_:Env:=(cts [(106,(⟨qt3_,qah_⟩:Ct)),(272,(⟨qe0_,q8f_⟩:Ct)),(273,(⟨q9u_,q2l_⟩:Ct))])
def qwq_:List (Nat×Hint):=[(255,⟨[],[2,4,6,7,8]⟩),(511,⟨[],[2,4,7,8]⟩),(6,⟨[],[0,2,16]⟩)]
def q10v_ (b:List Int) (t16:Bool) (t2 t2_2 t2_3 t2_4:Int):St:=⟨[(0,dL b),(2,.pb 0 0),(16,dB t16)],67,[],[(0,.box 27 [d8 t2,d6 t2_2,d6 t2_3,d6 t2_4,.k (zK zH 0 0),.k (zK zH 0 0)])],1,[],0⟩
def q111_ (l rest:List Int) (t2 t2_2 t2_3 t2_4 s s_2 s_3:Int) (s_4 s_5:Bool) (a a_2 a_3 a_4:Int):St:=⟨[(2,.pb 0 0),(4,.pb 1 0),(6,dW l),(7,.pb 2 0),(8,dL rest)],67,[],[(0,.box 27 [d8 t2,d6 t2_2,d6 t2_3,d6 t2_4,.k (zK zH 0 0),.k (zK zH 0 0)]),(1,.box 151 [dI s,dI s_2,dI s_3,dB s_4,dB s_5]),(2,.box 27 [d8 a,d6 a_2,d6 a_3,d6 a_4,.k (zK zH 0 0),.k (zK zH 0 0)])],3,[],0⟩
def q10k_ (rest:List Int) (t2 t2_2 t2_3 t2_4 s s_2 s_3:Int) (s_4 s_5:Bool) (a a_2 a_3 a_4:Int):St:=⟨[(2,.pb 0 0),(4,.pb 1 0),(7,.pb 2 0),(8,dL rest)],67,[],[(0,.box 27 [d8 t2,d6 t2_2,d6 t2_3,d6 t2_4,.k (zK zH 0 0),.k (zK zH 0 0)]),(1,.box 151 [dI s,dI s_2,dI s_3,dB s_4,dB s_5]),(2,.box 27 [d8 a,d6 a_2,d6 a_3,d6 a_4,.k (zK zH 0 0),.k (zK zH 0 0)])],3,[],0⟩
def q7w_ (j2:List Int->List Int->Int->Int->Int->Int->Int->Int->Int->Bool->Bool->Int->Int->Int->Int->Option (As [.pr (.int .u8) YTT7,.bool])) (b:List Int) (t16:Bool) (t2 t2_2 t2_3 t2_4:Int):Option (As [.pr (.int .u8) YTT7,.bool]) :=
 if t16=true then some ((0,0,0,0,[],[]),false,()) else zC (at? b 0) fun y=>zC (qah_ (y,())) fun y=>if (!y.2.1)=true then some ((0,0,0,0,[],[]),false,()) else zC (cut b 1 (zF (zG b))) fun y_1=>zC (q8f_ (y_1,())) fun y_2=>zC (at? b 0) fun y_3=>zC (at? y_2.1 0) fun y_4=>zC (cut b 3 (zF (zG b))) fun y_5=>if gt y.1.1 0=true then zC (at? y_2.1 1) fun y_6=>zC (cut b 5 (zF (zG b))) fun y_7=>j2 y_2.1 y_7 t2 t2_2 t2_3 t2_4 y.1.1 y.1.2.1 y.1.2.2.1 y.1.2.2.2.1 y.1.2.2.2.2 y_3 y_4 y_6 0 else j2 y_2.1 y_5 t2 t2_2 t2_3 t2_4 y.1.1 y.1.2.1 y.1.2.2.1 y.1.2.2.2.1 y.1.2.2.2.2 y_3 y_4 0 0
def q10q_ (j3:List Int->Int->Int->Int->Int->Int->Int->Int->Bool->Bool->Int->Int->Int->Int->Option (As [.pr (.int .u8) YTT7,.bool])) (l rest:List Int) (t2 t2_2 t2_3 t2_4 s s_2 s_3:Int) (s_4 s_5:Bool) (a a_2 a_3 a_4:Int):Option (As [.pr (.int .u8) YTT7,.bool]) :=
 if s_4=true then if lt (zF (zG rest)) 4=true then some ((0,0,0,0,[],[]),false,()) else zC (at? l 2) fun y=>zC (cut rest 4 (zF (zG rest))) fun y_1=>j3 y_1 t2 t2_2 t2_3 t2_4 s s_2 s_3 s_4 s_5 a a_2 a_3 y else j3 rest t2 t2_2 t2_3 t2_4 s s_2 s_3 s_4 s_5 a a_2 a_3 a_4
def q18o_ (rest:List Int) (t2 t2_2 t2_3 t2_4 s s_2 s_3:Int) (s_4 s_5:Bool) (a a_2 a_3 a_4:Int):Option (As [.pr (.int .u8) YTT7,.bool]) :=
 zC (q2l_ ((a,a_2,a_3,a_4,[],[]),(s,s_2,s_3,s_4,s_5),rest,())) fun y=>some (y.1,y.2.1,())
def q50_ (j1:List Int->Bool->Int->Int->Int->Int->Option (As [.pr (.int .u8) YTT7,.bool])) (b:List Int):Option (As [.pr (.int .u8) YTT7,.bool]) :=
 if lt (zF (zG b)) 5=true then j1 b true 0 0 0 0 else j1 b (gt (zF (zG b)) 253) 0 0 0 0
def q10x_:=q18o_
def q67_:=q10q_ (q10x_)
def qax_:=q7w_ (q67_)
def qdm_ (x:As [.sl (.int .u8)]):Option (As [.pr (.int .u8) YTT7,.bool]):=q50_ qax_ x.1
abbrev ask_read_P:=zp qx6_ qwq_ 251 qiq_
theorem q1o7_ {J a b c d e f g h i j k l m n}:ask_read_P J 511 [] (q10k_ a b c d e f g h i j k l m n)=q18o_ a b c d e f g h i j k l m n:=by kernel_rfl
theorem q1mr_ {J a b c d e f g h i j k l m n o}:ask_read_P J 255 [] (q111_ a b c d e f g h i j k l m n o)=q10q_ (C (J 511 []) q10k_) a b c d e f g h i j k l m n o:=by kernel_rfl
theorem q1nd_ {J a b c d e f}:ask_read_P J 6 [] (q10v_ a b c d e f)=q7w_ (C (J 255 []) q111_) a b c d e f:=by kernel_rfl
theorem q1o3_ (J:Orc (As [.pr (.int .u8) YTT7,.bool])) (x:As [.sl (.int .u8)]):rfn Tryz.prog qx6_ 6 18446744073709551616 (Ev.get qwq_) 251 qiq_ J x=q50_ (C (J 6 []) q10v_) x.1:=by kernel_rfl
abbrev ask_read_J:=zj qx6_ qwq_ 251 qiq_
theorem q1mn_:C (ask_read_J 511 []) q10k_=q10x_:=gNC (by decide) fun _=>q1o7_
theorem q1mv_:C (ask_read_J 255 []) q111_=q67_:=gNC (by decide) fun _=>q1mr_.trans (by rw [q1mn_] <;> kernel_rfl)
theorem q1nu_:C (ask_read_J 6 []) q10v_=qax_:=gNC (by decide) fun _=>q1nd_.trans (by rw [q1mv_] <;> kernel_rfl)
theorem q1op_ (x:As [.sl (.int .u8)]):evT Tryz.prog qx6_ 6 18446744073709551616 (Ev.get qwq_) 251 qiq_ x=qdm_ x:=by
 rw [qb_,q1o3_,q1nu_] <;> rfl
theorem q1o0_:CtOk Tryz.prog (fun _=>True) 251 ⟨qiq_,qdm_⟩:=q7_ (q0_ qoo_ (q0_ q18n_ (q0_ q1d1_ q2_))) q1op_
@[reducible] def qj9_:Sh:=⟨[.d (.sl (.int .u8))],[],[.sl (.int .u8)],[.d (.pr (.int .u8) YTT7),.d (.int .i64)],[],0,[.pr (.int .u8) YTT7,.int .i64]⟩
def qto_:Env:=(cts [(50,(⟨qba_,q6o_⟩:Ct)),(112,(⟨qw4_,q1r_⟩:Ct)),(251,(⟨qiq_,qdm_⟩:Ct))])
def qt2_:List (Nat×Hint):=[(61,⟨[],[2,4,28]⟩)]
def qxo_ (t28:Bool) (t2 t2_2 t2_3 t2_4 a a_2 a_3 a_4:Int) (a_5:List Int) (a_6:List Bool):St:=⟨[(2,.pb 0 0),(4,.pb 1 0),(28,dB t28)],31,[],[(0,.box 27 [d8 t2,d6 t2_2,d6 t2_3,d6 t2_4,.k (zK zH 0 0),.k (zK zH 0 0)]),(1,.box 27 [d8 a,d6 a_2,d6 a_3,d6 a_4,dW a_5,.d (.sl .bool) a_6])],2,[],0⟩
def q16v_ (t28:Bool) (t2 t2_2 t2_3 t2_4 a a_2 a_3 a_4:Int) (a_5:List Int) (a_6:List Bool):Option (As [.pr (.int .u8) YTT7,.int .i64]) :=
 if t28=true then some ((0,0,0,0,[],[]),12,()) else some ((a,a_2,a_3,a_4,a_5,a_6),0,())
def qcb_ (j1:Bool->Int->Int->Int->Int->Int->Int->Int->Int->List Int->List Bool->Option (As [.pr (.int .u8) YTT7,.int .i64])) (b:List Int):Option (As [.pr (.int .u8) YTT7,.int .i64]) :=
 zC (qdm_ (b,())) fun y=>if (!y.2.1)=true then some ((0,0,0,0,[],[]),12,()) else zC (q6o_ (y.1,())) fun y_1=>if nei y_1.2.1 0=true then j1 true 0 0 0 0 y.1.1 y.1.2.1 y.1.2.2.1 y.1.2.2.2.1 y.1.2.2.2.2.1 y.1.2.2.2.2.2 else zC (q1r_ (y_1.1,b,())) fun y_2=>j1 (!y_2.1) 0 0 0 0 y.1.1 y.1.2.1 y.1.2.2.1 y.1.2.2.2.1 y.1.2.2.2.2.1 y.1.2.2.2.2.2
def qns_:=q16v_
def quk_ (x:As [.sl (.int .u8)]):Option (As [.pr (.int .u8) YTT7,.int .i64]):=qcb_ qns_ x.1
abbrev ask_Parse_P:=zp qto_ qt2_ 220 qj9_
theorem q1jr_ {J a b c d e f g h i j k}:ask_Parse_P J 61 [] (qxo_ a b c d e f g h i j k)=q16v_ a b c d e f g h i j k:=by kernel_rfl
theorem q1ij_ (J:Orc (As [.pr (.int .u8) YTT7,.int .i64])) (x:As [.sl (.int .u8)]):rfn Tryz.prog qto_ 6 18446744073709551616 (Ev.get qt2_) 220 qj9_ J x=qcb_ (C (J 61 []) qxo_) x.1:=by kernel_rfl
abbrev ask_Parse_J:=zj qto_ qt2_ 220 qj9_
theorem q1kq_:C (ask_Parse_J 61 []) qxo_=qns_:=gNC (by decide) fun _=>q1jr_
theorem q1n8_ (x:As [.sl (.int .u8)]):evT Tryz.prog qto_ 6 18446744073709551616 (Ev.get qt2_) 220 qj9_ x=quk_ x:=by
 rw [qb_,q1ij_,q1kq_] <;> rfl
theorem q1mf_:CtOk Tryz.prog (fun _=>True) 220 ⟨qj9_,quk_⟩:=q7_ (q0_ qpj_ (q0_ q11g_ (q0_ q1o0_ q2_))) q1n8_
@[reducible] def q1c0_:Sh:=⟨[.d (.sl (.int .u8))],[],[.sl (.int .u8)],[.d (.pr (.int .u8) YTT7),.d (.int .u8)],[],0,[.pr (.int .u8) YTT7,.int .u8]⟩
def qjd_ (b:List Int):Option (As [.pr (.int .u8) YTT7,.int .u8]) :=
 if eqi (zF (zG b)) 0=true then some ((0,0,0,0,[],[]),1,()) else zC (quk_ (b,())) fun y=>if eqi y.2.1 0=true then some (y.1,0,()) else zC (at? b 0) fun y=>zC (at? b 0) fun y_1=>zC (qah_ (y_1,())) fun y_2=>if (!y_2.2.1)=true then some ((y,0,0,0,[],[]),1,()) else some ((y,0,0,0,[],[]),3,())
def qgf_ (x:As [.sl (.int .u8)]):Option (As [.pr (.int .u8) YTT7,.int .u8]):=qjd_ x.1
theorem q1mt_:CtOk Tryz.prog (fun _=>True) 163 ⟨q1c0_,qgf_⟩:=ctn (q0_ qoo_ (q0_ q1mf_ q2_)) 6 fun J x=>by kernel_rfl
@[reducible] def q15z_:Sh:=⟨[.d (.pr YTT6 (.pr YTT6 (.pr YTT6 YTT6))),.d (.pr (.sl .bool) YTT15)],[],[.pr YTT6 (.pr YTT6 (.pr YTT6 YTT6)),.pr (.sl .bool) YTT15],[.d (.pr (.pr YTT6 (.sl .bool)) (.pr (.pr YTT6 (.sl .bool)) (.pr (.pr YTT6 (.sl (.int .u16))) (.pr YTT6 (.sl (.int .u16))))))],[],0,[.pr (.pr YTT6 (.sl .bool)) (.pr (.pr YTT6 (.sl .bool)) (.pr (.pr YTT6 (.sl (.int .u16))) (.pr YTT6 (.sl (.int .u16)))))]⟩
def q1i1_ (s:List YTT9×List YTT9×List YTT9×List YTT9) (m:List Bool×List Bool×List Int×List Int):Option (As [.pr (.pr YTT6 (.sl .bool)) (.pr (.pr YTT6 (.sl .bool)) (.pr (.pr YTT6 (.sl (.int .u16))) (.pr YTT6 (.sl (.int .u16)))))]) :=
 some (((s.1,m.1),(s.2.1,m.2.1),(s.2.2.1,m.2.2.1),s.2.2.2,m.2.2.2),())
def qi5_ (x:As [.pr YTT6 (.pr YTT6 (.pr YTT6 YTT6)),.pr (.sl .bool) YTT15]):Option (As [.pr (.pr YTT6 (.sl .bool)) (.pr (.pr YTT6 (.sl .bool)) (.pr (.pr YTT6 (.sl (.int .u16))) (.pr YTT6 (.sl (.int .u16)))))]):=q1i1_ x.1 x.2.1
theorem q145_:CtOk Tryz.prog (fun _=>True) 221 ⟨q15z_,qi5_⟩:=ctn q2_ 6 fun J x=>by kernel_rfl
@[reducible] def qxx_:Sh:=⟨[.d (.int .u8)],[],[.int .u8],[.d (.pr (.int .i64) (.int .i64))],[],0,[.pr (.int .i64) (.int .i64)]⟩
def qvl_ (f:Int):Option (As [.pr (.int .i64) (.int .i64)]) :=
 some (Ev.gdV (.pr (.int .i64) (.int .i64)) (if eqi 1 f=true then some (1,0) else if eqi 2 f=true then some (2,0) else if eqi 3 f=true then some (3,0) else if eqi 4 f=true then some (4,0) else if eqi 5 f=true then some (0,1) else if eqi 6 f=true then some (0,3) else if eqi 15 f=true then some (0,1) else if eqi 16 f=true then some (0,3) else if eqi 23 f=true then some (3,3) else zH) (0,0),())
def qif_ (x:As [.int .u8]):Option (As [.pr (.int .i64) (.int .i64)]):=qvl_ x.1
theorem q13p_:CtOk Tryz.prog (fun _=>True) 222 ⟨qxx_,qif_⟩:=ctn q2_ 6 fun J x=>by kernel_rfl
@[reducible] def qry_:Sh:=⟨[.d (.pr (.int .u8) YTT7)],[],[.pr (.int .u8) YTT7],[.d (.int .i64),.d (.int .i64)],[],0,[.int .i64,.int .i64]⟩
def qo9_ (a:zH1):Option (As [.int .i64,.int .i64]) :=
 if eqi a.1 23=true then some (cvt .i64 a.2.2.2.1,add .i64 (zF (zG a.2.2.2.2.2)) (zF (zG a.2.2.2.2.1)),()) else some (cvt .i64 a.2.1,add .i64 (zF (zG a.2.2.2.2.2)) (zF (zG a.2.2.2.2.1)),())
def q8q_ (x:As [.pr (.int .u8) YTT7]):Option (As [.int .i64,.int .i64]):=qo9_ x.1
theorem q10b_:CtOk Tryz.prog (fun _=>True) 224 ⟨qry_,q8q_⟩:=ctn q2_ 6 fun J x=>by kernel_rfl
@[reducible] def q24_:Sh:=⟨[.d (.pr (.int .i64) YTT16)],[],[.pr (.int .i64) YTT16],[.d (.bool)],[],0,[.bool]⟩
def qmx_ (x:ql_):Option (As [.bool]) :=
 some (x.2.2.1,())
def q12_ (x:As [.pr (.int .i64) YTT16]):Option (As [.bool]):=qmx_ x.1
theorem q20_:CtOk Tryz.prog (fun _=>True) 348 ⟨q24_,q12_⟩:=ctn q2_ 6 fun J x=>by kernel_rfl
@[reducible] def q27_:Sh:=⟨[.d (.pr (.int .i64) YTT16),.pb 0 0,.pb 1 0],[.box 3 [.d (.int .i64)],.box 3 [.d (.int .i64)]],[.pr (.int .i64) YTT16,.int .i64,.int .i64],[.d (.bool)],[(0,.box 3 [.d (.int .i64)]),(1,.box 3 [.d (.int .i64)])],0,[.bool,.int .i64,.int .i64]⟩
def q4z_ (x:ql_) (v v_2:Int):Option (As [.bool,.int .i64,.int .i64]) :=
 if x.2.2.2.1=true then if (!x.2.2.2.2)=true then some (true,v,v_2,()) else if eqi x.1 v=true then some (eqi x.2.1 v_2,v,v_2,()) else some (false,v,v_2,()) else some (false,v,v_2,())
def qv_ (x:As [.pr (.int .i64) YTT16,.int .i64,.int .i64]):Option (As [.bool,.int .i64,.int .i64]):=q4z_ x.1 x.2.1 x.2.2.1
theorem q1z_:CtOk Tryz.prog (fun _=>True) 349 ⟨q27_,qv_⟩:=ctn q2_ 6 fun J x=>by kernel_rfl
@[reducible] def q5a_:Sh:=⟨[.d (.pr (.int .i64) YTT16),.d (.int .i64),.d (.int .i64)],[],[.pr (.int .i64) YTT16,.int .i64,.int .i64],[.d (.int .i64),.d (.int .i64)],[],0,[.int .i64,.int .i64]⟩
def qo6_:Env:=(cts [])
def qo2_:List (Nat×Hint):=[(15,⟨[],[1,3,8]⟩),(30,⟨[],[1,2,3,8,32]⟩),(6,⟨[],[1,2,3,17,25,26,27,28,29,30,31]⟩)]
def qvy_ (at' endV:Int) (t17:Bool) (x:ql_):St:=⟨[(1,dI at'),(2,dI endV),(3,.pb 0 0),(17,dB t17)],45,[],[(0,.box 250 [dI x.1,dI x.2.1,dB x.2.2.1,dB x.2.2.2.1,dB x.2.2.2.2])],1,[],0⟩
def qvd_ (at' endV to':Int) (t32:Bool) (x:ql_):St:=⟨[(1,dI at'),(2,dI endV),(3,.pb 0 0),(8,dI to'),(32,dB t32)],45,[],[(0,.box 250 [dI x.1,dI x.2.1,dB x.2.2.1,dB x.2.2.2.1,dB x.2.2.2.2])],1,[],0⟩
def qvs_ (at' to':Int) (x:ql_):St:=⟨[(1,dI at'),(3,.pb 0 0),(8,dI to')],45,[],[(0,.box 250 [dI x.1,dI x.2.1,dB x.2.2.1,dB x.2.2.2.1,dB x.2.2.2.2])],1,[],0⟩
def qvq_ (j2:Int->Int->Int->Bool->ql_->Option (As [.int .i64,.int .i64])) (at' endV:Int) (t17:Bool) (x:ql_):Option (As [.int .i64,.int .i64]) :=
 if t17=true then some (at',at',()) else if lt x.1 0=true then j2 at' endV endV true x else j2 at' endV endV (lt x.2.1 (Sx.sub .i64 endV x.1)) x
def qkj_ (j3:Int->Int->ql_->Option (As [.int .i64,.int .i64])) (at' endV to':Int) (t32:Bool) (x:ql_):Option (As [.int .i64,.int .i64]) :=
 if t32=true then j3 at' (if lt (add .i64 x.1 x.2.1) endV=true then add .i64 x.1 x.2.1 else endV) x else j3 at' to' x
def qvn_ (at' to':Int) (x:ql_):Option (As [.int .i64,.int .i64]) :=
 some (if gt x.1 at'=true then x.1 else at',to',())
def ql9_ (j1:Int->Int->Bool->ql_->Option (As [.int .i64,.int .i64])) (x:ql_) (at' endV:Int):Option (As [.int .i64,.int .i64]) :=
 if lt x.2.1 1=true then j1 at' endV true x else j1 at' endV (ge x.1 endV) x
def qlq_:=qvn_
def qej_:=qkj_ (qlq_)
def qee_:=qvq_ (qej_)
def q52_ (x:As [.pr (.int .i64) YTT16,.int .i64,.int .i64]):Option (As [.int .i64,.int .i64]):=ql9_ qee_ x.1 x.2.1 x.2.2.1
abbrev model_meet_P:=zp qo6_ qo2_ 350 q5a_
theorem q1i0_ {J a b c}:model_meet_P J 15 [] (qvs_ a b c)=qvn_ a b c:=by kernel_rfl
theorem q1hj_ {J a b c d e}:model_meet_P J 30 [] (qvd_ a b c d e)=qkj_ (C (J 15 []) qvs_) a b c d e:=by kernel_rfl
theorem q1hp_ {J a b c d}:model_meet_P J 6 [] (qvy_ a b c d)=qvq_ (C (J 30 []) qvd_) a b c d:=by kernel_rfl
theorem q1h3_ (J:Orc (As [.int .i64,.int .i64])) (x:As [.pr (.int .i64) YTT16,.int .i64,.int .i64]):rfn Tryz.prog qo6_ 6 18446744073709551616 (Ev.get qo2_) 350 q5a_ J x=ql9_ (C (J 6 []) qvy_) x.1 x.2.1 x.2.2.1:=by kernel_rfl
abbrev model_meet_J:=zj qo6_ qo2_ 350 q5a_
theorem q1hf_:C (model_meet_J 15 []) qvs_=qlq_:=gNC (by decide) fun _=>q1i0_
theorem q1ga_:C (model_meet_J 30 []) qvd_=qej_:=gNC (by decide) fun _=>q1hj_.trans (by rw [q1hf_] <;> kernel_rfl)
theorem q1h9_:C (model_meet_J 6 []) qvy_=qee_:=gNC (by decide) fun _=>q1hp_.trans (by rw [q1ga_] <;> kernel_rfl)
theorem q1jw_ (x:As [.pr (.int .i64) YTT16,.int .i64,.int .i64]):evT Tryz.prog qo6_ 6 18446744073709551616 (Ev.get qo2_) 350 q5a_ x=q52_ x:=by
 rw [qb_,q1h3_,q1h9_] <;> rfl
theorem qk4_:CtOk Tryz.prog (fun _=>True) 350 ⟨q5a_,q52_⟩:=q7_ q2_ q1jw_
@[reducible] def q1u_:Sh:=⟨[.d (.pr (.int .i64) YTT16)],[],[.pr (.int .i64) YTT16],[.d (.bool)],[],0,[.bool]⟩
def qjq_ (x:ql_):Option (As [.bool]) :=
 some (x.2.2.1,())
def qx_ (x:As [.pr (.int .i64) YTT16]):Option (As [.bool]):=qjq_ x.1
theorem q1n_:CtOk Tryz.prog (fun _=>True) 353 ⟨q1u_,qx_⟩:=ctn q2_ 6 fun J x=>by kernel_rfl
@[reducible] def q1t_:Sh:=⟨[.d (.pr (.int .i64) YTT16),.pb 0 0,.pb 1 0],[.box 3 [.d (.int .i64)],.box 3 [.d (.int .i64)]],[.pr (.int .i64) YTT16,.int .i64,.int .i64],[.d (.bool)],[(0,.box 3 [.d (.int .i64)]),(1,.box 3 [.d (.int .i64)])],0,[.bool,.int .i64,.int .i64]⟩
def q45_ (x:ql_) (v v_2:Int):Option (As [.bool,.int .i64,.int .i64]) :=
 if x.2.2.2.1=true then if (!x.2.2.2.2)=true then some (true,v,v_2,()) else if eqi x.1 v=true then some (eqi x.2.1 v_2,v,v_2,()) else some (false,v,v_2,()) else some (false,v,v_2,())
def qr_ (x:As [.pr (.int .i64) YTT16,.int .i64,.int .i64]):Option (As [.bool,.int .i64,.int .i64]):=q45_ x.1 x.2.1 x.2.2.1
theorem q1q_:CtOk Tryz.prog (fun _=>True) 354 ⟨q1t_,qr_⟩:=ctn q2_ 6 fun J x=>by kernel_rfl
@[reducible] def qaq_:Sh:=⟨[.d YTT6,.d (.int .i64),.d (.int .i64),.fn (.func 348) [] []],[],[.sl (.pr (.int .i64) YTT16),.int .i64,.int .i64],[.d (.bool)],[],0,[.bool]⟩
def qfn_:Env:=(cts [(348,(⟨q24_,q12_⟩:Ct)),(349,(⟨q27_,qv_⟩:Ct)),(350,(⟨q5a_,q52_⟩:Ct)),(353,(⟨q1u_,qx_⟩:Ct)),(354,(⟨q1t_,qr_⟩:Ct))])
def qfm_:List (Nat×Hint):=[(15,⟨[],[10]⟩),(122,⟨[],[1,2,3,9,10,19,20,21]⟩),(125342,⟨[],[1,2,3,9,10,12,14,15,19,20,21]⟩),(501369,⟨[],[1,2,3,9,10,12,14,15,19,20,21]⟩)]
def q3e_ (at' many left:Int) (t19:List YTT9) (t20 t21:Int) (met:List Bool):St:=⟨[(1,dI at'),(2,dI many),(3,.fn (.func 348) [] []),(9,.row 0),(10,dI left),(19,.d YTT6 t19),(20,dI t20),(21,dI t21)],62,[],[(0,.row .bool 4 met)],1,[],0⟩
def qlt_ (left:Int):St:=⟨[(10,dI left)],62,[],[],0,[],0⟩
def q5q_ (at' many left to' i:Int) (t19:List YTT9) (t20 t21:Int) (met:List Bool) (x:ql_):St:=⟨[(1,dI at'),(2,dI many),(3,.fn (.func 348) [] []),(9,.row 0),(10,dI left),(12,.pb 1 0),(14,dI to'),(15,dI i),(19,.d YTT6 t19),(20,dI t20),(21,dI t21)],62,[],[(0,.row .bool 4 met),(1,.box 250 [dI x.1,dI x.2.1,dB x.2.2.1,dB x.2.2.2.1,dB x.2.2.2.2])],2,[],0⟩
def qlx_ (at' many left to' i:Int) (t19:List YTT9) (t20 t21:Int) (met:List Bool) (x:ql_):St:=⟨[(1,dI at'),(2,dI many),(3,.fn (.func 348) [] []),(9,.row 0),(10,dI left),(12,.pb 1 0),(14,dI to'),(15,dI i),(19,.d YTT6 t19),(20,dI t20),(21,dI t21)],62,[],[(0,.row .bool 4 met),(1,.box 250 [dI x.1,dI x.2.1,dB x.2.2.1,dB x.2.2.2.1,dB x.2.2.2.2])],2,[],0⟩
@[reducible] def zH2:Type:=Int->Int->Int->List YTT9->Int->Int->List Bool->Option (As [.bool])
def q8o_ (j2:Int->Option (As [.bool])) (j3:Int->Int->Int->Int->Int->List YTT9->Int->Int->List Bool->ql_->Option (As [.bool])) (self1:zH2) (at' many left:Int) (t19:List YTT9) (t20 t21:Int) (met:List Bool):Option (As [.bool]) :=
 if lt t21 t20=true then zC (at? t19 t21) fun y=>if eqi left 0=true then j2 left else zC (q52_ (y,at',add .i64 at' many,())) fun y_1=>j3 at' many left y_1.2.1 y_1.1 t19 t20 t21 met y else j2 left
def qyi_ (left:Int):Option (As [.bool]) :=
 some (eqi left 0,())
def q8p_ (j4:Int->Int->Int->Int->Int->List YTT9->Int->Int->List Bool->ql_->Option (As [.bool])) (self1:zH2) (self3:Int->Int->Int->Int->Int->List YTT9->Int->Int->List Bool->ql_->Option (As [.bool])) (at' many left to' i:Int) (t19:List YTT9) (t20 t21:Int) (met:List Bool) (x:ql_):Option (As [.bool]) :=
 if lt i to'=true then zC (at? met (Sx.sub .i64 i at')) fun x_1=>zC (at? met (Sx.sub .i64 i at')) fun y=>if y=true then j4 at' many left to' i t19 t20 t21 met x else zC (q12_ (x,())) fun y=>if (!y.1)=true then some (false,()) else zC (at? met (Sx.sub .i64 i at')) fun x_2=>zC (at? met (Sx.sub .i64 i at')) fun x_3=>j4 at' many (Sx.sub .i64 left 1) to' i t19 t20 t21 (List.set met (zI (Sx.sub .i64 i at')) true) x else self1 at' many left t19 t20 (add .i64 t21 1) met
def qm5_ (self1:zH2) (self3:Int->Int->Int->Int->Int->List YTT9->Int->Int->List Bool->ql_->Option (As [.bool])) (at' many left to' i:Int) (t19:List YTT9) (t20 t21:Int) (met:List Bool) (x:ql_):Option (As [.bool]) :=
 self3 at' many left to' (add .i64 i 1) t19 t20 t21 met x
def qe1_ (j1:zH2) (areas:List YTT9) (at' many:Int):Option (As [.bool]) :=
 need (ge many 0) (need (Ev.capOk many many) (need (small (zI many)) (j1 at' many many areas (zF (zG areas)) 0 (zE (zI many) false))))
def q8d_:=qyi_
def q5y_ (u1:zH2) (u3:Int->Int->Int->Int->Int->List YTT9->Int->Int->List Bool->ql_->Option (As [.bool])):=qm5_ u1 u3
def q4e_ (u1:zH2) (at' many left to' i:Int) (t19:List YTT9) (t20 t21:Int) (met:List Bool) (x:ql_):Option (As [.bool]) :=
 loopF (fun self s=>q8p_ (q5y_ u1 (fun at' many left to' i t19 t20 t21 met x=>self (at',many,left,to',i,t19,t20,t21,met,x))) u1 (fun at' many left to' i t19 t20 t21 met x=>self (at',many,left,to',i,t19,t20,t21,met,x)) s.1 s.2.1 s.2.2.1 s.2.2.2.1 s.2.2.2.2.1 s.2.2.2.2.2.1 s.2.2.2.2.2.2.1 s.2.2.2.2.2.2.2.1 s.2.2.2.2.2.2.2.2.1 s.2.2.2.2.2.2.2.2.2) 18446744073709551616 (at',many,left,to',i,t19,t20,t21,met,x)
def q8z_ (at' many left:Int) (t19:List YTT9) (t20 t21:Int) (met:List Bool):Option (As [.bool]) :=
 loopF (fun self s=>q8o_ (q8d_) (q4e_ (fun at' many left t19 t20 t21 met=>self (at',many,left,t19,t20,t21,met))) (fun at' many left t19 t20 t21 met=>self (at',many,left,t19,t20,t21,met)) s.1 s.2.1 s.2.2.1 s.2.2.2.1 s.2.2.2.2.1 s.2.2.2.2.2.1 s.2.2.2.2.2.2) 18446744073709551616 (at',many,left,t19,t20,t21,met)
def qe7_ (x:As [.sl (.pr (.int .i64) YTT16),.int .i64,.int .i64]):Option (As [.bool]):=qe1_ q8z_ x.1 x.2.1 x.2.2.1
abbrev model_each_br_P:=zp qfn_ qfm_ 347 qaq_
theorem q18r_ {J a}:model_each_br_P J 15 [] (qlt_ a)=qyi_ a:=by kernel_rfl
theorem q1a0_ {J w1 w3 a b c d e f g h i j}:model_each_br_P J 501369 [w1,w3] (qlx_ a b c d e f g h i j)=qm5_ (C w1 q3e_) (C w3 q5q_) a b c d e f g h i j:=by kernel_rfl
theorem q19v_ {J w1 w3 a b c d e f g h i j}:model_each_br_P J 125342 [w1,w3] (q5q_ a b c d e f g h i j)=q8p_ (C (J 501369 [w1,w3]) qlx_) (C w1 q3e_) (C w3 q5q_) a b c d e f g h i j:=by kernel_rfl
theorem q1af_ {J w1 a b c d e f g}:model_each_br_P J 122 [w1] (q3e_ a b c d e f g)=q8o_ (C (J 15 []) qlt_) (C (J 125342 [w1]) q5q_) (C w1 q3e_) a b c d e f g:=by kernel_rfl
theorem q191_ (J:Orc (As [.bool])) (x:As [.sl (.pr (.int .i64) YTT16),.int .i64,.int .i64]):rfn Tryz.prog qfn_ 6 18446744073709551616 (Ev.get qfm_) 347 qaq_ J x=qe1_ (C (J 122 []) q3e_) x.1 x.2.1 x.2.2.1:=by kernel_rfl
abbrev model_each_br_J:=zj qfn_ qfm_ 347 qaq_
theorem q1a2_:C (model_each_br_J 15 []) qlt_=q8d_:=gNC (by decide) fun _=>q18r_
theorem q19w_ {w1 w3}:C (model_each_br_J 501369 [w1,w3]) qlx_=q5y_ (C w1 q3e_) (C w3 q5q_):=gNC (by decide) fun _=>q1a0_
theorem q19d_ {w1}:C (model_each_br_J 125342 [w1]) q5q_=q4e_ (C w1 q3e_):=gLC (by decide) (by kernel_rfl) (fun _=>by unfold q4e_; rfl) fun _ _=>q19v_.trans (by rw [q19w_] <;> kernel_rfl)
theorem q1a8_:C (model_each_br_J 122 []) q3e_=q8z_:=gLC (by decide) (by kernel_rfl) (fun _=>by unfold q8z_; rfl) fun _ _=>q1af_.trans (by rw [q1a2_,q19d_] <;> kernel_rfl)
theorem q1bm_ (x:As [.sl (.pr (.int .i64) YTT16),.int .i64,.int .i64]):evT Tryz.prog qfn_ 6 18446744073709551616 (Ev.get qfm_) 347 qaq_ x=qe7_ x:=by
 rw [qb_,q191_,q1a8_] <;> rfl
theorem qdb_:CtOk Tryz.prog (fun _=>True) 347 ⟨qaq_,qe7_⟩:=q7_ (q0_ q20_ (q0_ q1z_ (q0_ qk4_ (q0_ q1n_ (q0_ q1q_ q2_))))) q1bm_
@[reducible] def qaj_:Sh:=⟨[.d YTT6,.d (.int .i64),.d (.int .i64),.fn (.func 349) [] [.pb 0 0,.pb 1 0]],[.box 3 [.d (.int .i64)],.box 3 [.d (.int .i64)]],[.sl (.pr (.int .i64) YTT16),.int .i64,.int .i64,.int .i64,.int .i64],[.d (.bool)],[(0,.box 3 [.d (.int .i64)]),(1,.box 3 [.d (.int .i64)])],0,[.bool,.int .i64,.int .i64]⟩
def qg0_:Env:=(cts [(348,(⟨q24_,q12_⟩:Ct)),(349,(⟨q27_,qv_⟩:Ct)),(350,(⟨q5a_,q52_⟩:Ct)),(353,(⟨q1u_,qx_⟩:Ct)),(354,(⟨q1t_,qr_⟩:Ct))])
def qg8_:List (Nat×Hint):=[(15,⟨[],[10]⟩),(122,⟨[],[1,2,3,9,10,19,20,21]⟩),(125342,⟨[],[1,2,3,9,10,12,14,15,19,20,21]⟩),(501369,⟨[],[1,2,3,9,10,12,14,15,19,20,21]⟩)]
def q3j_ (at' many left:Int) (t19:List YTT9) (t20 t21 o o_2:Int) (met:List Bool):St:=⟨[(1,dI at'),(2,dI many),(3,.fn (.func 349) [] [.pb 0 0,.pb 1 0]),(9,.row 2),(10,dI left),(19,.d YTT6 t19),(20,dI t20),(21,dI t21)],62,[],[(0,.box 3 [dI o]),(1,.box 3 [dI o_2]),(2,.row .bool 4 met)],3,[],2⟩
def qmd_ (left o o_2:Int):St:=⟨[(10,dI left)],62,[],[(0,.box 3 [dI o]),(1,.box 3 [dI o_2])],2,[],2⟩
def q5t_ (at' many left to' i:Int) (t19:List YTT9) (t20 t21 o o_2:Int) (met:List Bool) (x:ql_):St:=⟨[(1,dI at'),(2,dI many),(3,.fn (.func 349) [] [.pb 0 0,.pb 1 0]),(9,.row 2),(10,dI left),(12,.pb 3 0),(14,dI to'),(15,dI i),(19,.d YTT6 t19),(20,dI t20),(21,dI t21)],62,[],[(0,.box 3 [dI o]),(1,.box 3 [dI o_2]),(2,.row .bool 4 met),(3,.box 250 [dI x.1,dI x.2.1,dB x.2.2.1,dB x.2.2.2.1,dB x.2.2.2.2])],4,[],2⟩
def qm2_ (at' many left to' i:Int) (t19:List YTT9) (t20 t21 o o_2:Int) (met:List Bool) (x:ql_):St:=⟨[(1,dI at'),(2,dI many),(3,.fn (.func 349) [] [.pb 0 0,.pb 1 0]),(9,.row 2),(10,dI left),(12,.pb 3 0),(14,dI to'),(15,dI i),(19,.d YTT6 t19),(20,dI t20),(21,dI t21)],62,[],[(0,.box 3 [dI o]),(1,.box 3 [dI o_2]),(2,.row .bool 4 met),(3,.box 250 [dI x.1,dI x.2.1,dB x.2.2.1,dB x.2.2.2.1,dB x.2.2.2.2])],4,[],2⟩
@[reducible] def zH3:Type:=Int->Int->Int->Option (As [.bool,.int .i64,.int .i64])
@[reducible] def zH4:Type:=Int->Int->Int->List YTT9->Int->Int->Int->Int->List Bool->Option (As [.bool,.int .i64,.int .i64])
def q8t_ (j2:zH3) (j3:Int->Int->Int->Int->Int->List YTT9->Int->Int->Int->Int->List Bool->ql_->Option (As [.bool,.int .i64,.int .i64])) (self1:zH4) (at' many left:Int) (t19:List YTT9) (t20 t21 o o_2:Int) (met:List Bool):Option (As [.bool,.int .i64,.int .i64]) :=
 if lt t21 t20=true then zC (at? t19 t21) fun y=>if eqi left 0=true then j2 left o o_2 else zC (q52_ (y,at',add .i64 at' many,())) fun y_1=>j3 at' many left y_1.2.1 y_1.1 t19 t20 t21 o o_2 met y else j2 left o o_2
def qxc_ (left o o_2:Int):Option (As [.bool,.int .i64,.int .i64]) :=
 some (eqi left 0,o,o_2,())
def q8c_ (j4:Int->Int->Int->Int->Int->List YTT9->Int->Int->Int->Int->List Bool->ql_->Option (As [.bool,.int .i64,.int .i64])) (self1:zH4) (self3:Int->Int->Int->Int->Int->List YTT9->Int->Int->Int->Int->List Bool->ql_->Option (As [.bool,.int .i64,.int .i64])) (at' many left to' i:Int) (t19:List YTT9) (t20 t21 o o_2:Int) (met:List Bool) (x:ql_):Option (As [.bool,.int .i64,.int .i64]) :=
 if lt i to'=true then zC (at? met (Sx.sub .i64 i at')) fun x_1=>zC (at? met (Sx.sub .i64 i at')) fun y=>if y=true then j4 at' many left to' i t19 t20 t21 o o_2 met x else zC (qv_ (x,o,o_2,())) fun y=>if (!y.1)=true then some (false,y.2.1,y.2.2.1,()) else zC (at? met (Sx.sub .i64 i at')) fun x_2=>zC (at? met (Sx.sub .i64 i at')) fun x_3=>j4 at' many (Sx.sub .i64 left 1) to' i t19 t20 t21 y.2.1 y.2.2.1 (List.set met (zI (Sx.sub .i64 i at')) true) x else self1 at' many left t19 t20 (add .i64 t21 1) o o_2 met
def qmc_ (self1:zH4) (self3:Int->Int->Int->Int->Int->List YTT9->Int->Int->Int->Int->List Bool->ql_->Option (As [.bool,.int .i64,.int .i64])) (at' many left to' i:Int) (t19:List YTT9) (t20 t21 o o_2:Int) (met:List Bool) (x:ql_):Option (As [.bool,.int .i64,.int .i64]) :=
 self3 at' many left to' (add .i64 i 1) t19 t20 t21 o o_2 met x
def qd2_ (j1:zH4) (areas:List YTT9) (at' many wanted areas_2:Int):Option (As [.bool,.int .i64,.int .i64]) :=
 need (ge many 0) (need (Ev.capOk many many) (need (small (zI many)) (j1 at' many many areas (zF (zG areas)) 0 wanted areas_2 (zE (zI many) false))))
def q8j_:=qxc_
def q61_ (u1:zH4) (u3:Int->Int->Int->Int->Int->List YTT9->Int->Int->Int->Int->List Bool->ql_->Option (As [.bool,.int .i64,.int .i64])):=qmc_ u1 u3
def q4h_ (u1:zH4) (at' many left to' i:Int) (t19:List YTT9) (t20 t21 o o_2:Int) (met:List Bool) (x:ql_):Option (As [.bool,.int .i64,.int .i64]) :=
 loopF (fun self s=>q8c_ (q61_ u1 (fun at' many left to' i t19 t20 t21 o o_2 met x=>self (at',many,left,to',i,t19,t20,t21,o,o_2,met,x))) u1 (fun at' many left to' i t19 t20 t21 o o_2 met x=>self (at',many,left,to',i,t19,t20,t21,o,o_2,met,x)) s.1 s.2.1 s.2.2.1 s.2.2.2.1 s.2.2.2.2.1 s.2.2.2.2.2.1 s.2.2.2.2.2.2.1 s.2.2.2.2.2.2.2.1 s.2.2.2.2.2.2.2.2.1 s.2.2.2.2.2.2.2.2.2.1 s.2.2.2.2.2.2.2.2.2.2.1 s.2.2.2.2.2.2.2.2.2.2.2) 18446744073709551616 (at',many,left,to',i,t19,t20,t21,o,o_2,met,x)
def q8l_ (at' many left:Int) (t19:List YTT9) (t20 t21 o o_2:Int) (met:List Bool):Option (As [.bool,.int .i64,.int .i64]) :=
 loopF (fun self s=>q8t_ (q8j_) (q4h_ (fun at' many left t19 t20 t21 o o_2 met=>self (at',many,left,t19,t20,t21,o,o_2,met))) (fun at' many left t19 t20 t21 o o_2 met=>self (at',many,left,t19,t20,t21,o,o_2,met)) s.1 s.2.1 s.2.2.1 s.2.2.2.1 s.2.2.2.2.1 s.2.2.2.2.2.1 s.2.2.2.2.2.2.1 s.2.2.2.2.2.2.2.1 s.2.2.2.2.2.2.2.2) 18446744073709551616 (at',many,left,t19,t20,t21,o,o_2,met)
def qeb_ (x:As [.sl (.pr (.int .i64) YTT16),.int .i64,.int .i64,.int .i64,.int .i64]):Option (As [.bool,.int .i64,.int .i64]):=qd2_ q8l_ x.1 x.2.1 x.2.2.1 x.2.2.2.1 x.2.2.2.2.1
abbrev model_each_bw_P:=zp qg0_ qg8_ 347 qaj_
theorem q19h_ {J a b c}:model_each_bw_P J 15 [] (qmd_ a b c)=qxc_ a b c:=by kernel_rfl
theorem q19a_ {J w1 w3 a b c d e f g h i j k l}:model_each_bw_P J 501369 [w1,w3] (qm2_ a b c d e f g h i j k l)=qmc_ (C w1 q3j_) (C w3 q5t_) a b c d e f g h i j k l:=by kernel_rfl
theorem q19s_ {J w1 w3 a b c d e f g h i j k l}:model_each_bw_P J 125342 [w1,w3] (q5t_ a b c d e f g h i j k l)=q8c_ (C (J 501369 [w1,w3]) qm2_) (C w1 q3j_) (C w3 q5t_) a b c d e f g h i j k l:=by kernel_rfl
theorem q1ac_ {J w1 a b c d e f g h i}:model_each_bw_P J 122 [w1] (q3j_ a b c d e f g h i)=q8t_ (C (J 15 []) qmd_) (C (J 125342 [w1]) q5t_) (C w1 q3j_) a b c d e f g h i:=by kernel_rfl
theorem q19p_ (J:Orc (As [.bool,.int .i64,.int .i64])) (x:As [.sl (.pr (.int .i64) YTT16),.int .i64,.int .i64,.int .i64,.int .i64]):rfn Tryz.prog qg0_ 6 18446744073709551616 (Ev.get qg8_) 347 qaj_ J x=qd2_ (C (J 122 []) q3j_) x.1 x.2.1 x.2.2.1 x.2.2.2.1 x.2.2.2.2.1:=by kernel_rfl
abbrev model_each_bw_J:=zj qg0_ qg8_ 347 qaj_
theorem q1a1_:C (model_each_bw_J 15 []) qmd_=q8j_:=gNC (by decide) fun _=>q19h_
theorem q193_ {w1 w3}:C (model_each_bw_J 501369 [w1,w3]) qm2_=q61_ (C w1 q3j_) (C w3 q5t_):=gNC (by decide) fun _=>q19a_
theorem q1a6_ {w1}:C (model_each_bw_J 125342 [w1]) q5t_=q4h_ (C w1 q3j_):=gLC (by decide) (by kernel_rfl) (fun _=>by unfold q4h_; rfl) fun _ _=>q19s_.trans (by rw [q193_] <;> kernel_rfl)
theorem q18t_:C (model_each_bw_J 122 []) q3j_=q8l_:=gLC (by decide) (by kernel_rfl) (fun _=>by unfold q8l_; rfl) fun _ _=>q1ac_.trans (by rw [q1a1_,q1a6_] <;> kernel_rfl)
theorem q1ax_ (x:As [.sl (.pr (.int .i64) YTT16),.int .i64,.int .i64,.int .i64,.int .i64]):evT Tryz.prog qg0_ 6 18446744073709551616 (Ev.get qg8_) 347 qaj_ x=qeb_ x:=by
 rw [qb_,q19p_,q18t_] <;> rfl
theorem qd6_:CtOk Tryz.prog (fun _=>True) 347 ⟨qaj_,qeb_⟩:=q7_ (q0_ q20_ (q0_ q1z_ (q0_ qk4_ (q0_ q1n_ (q0_ q1q_ q2_))))) q1ax_
@[reducible] def qaw_:Sh:=⟨[.d YTT6,.d (.int .i64),.d (.int .i64),.fn (.func 353) [] []],[],[.sl (.pr (.int .i64) YTT16),.int .i64,.int .i64],[.d (.bool)],[],0,[.bool]⟩
def qfl_:Env:=(cts [(348,(⟨q24_,q12_⟩:Ct)),(349,(⟨q27_,qv_⟩:Ct)),(350,(⟨q5a_,q52_⟩:Ct)),(353,(⟨q1u_,qx_⟩:Ct)),(354,(⟨q1t_,qr_⟩:Ct))])
def qfg_:List (Nat×Hint):=[(15,⟨[],[10]⟩),(122,⟨[],[1,2,3,9,10,19,20,21]⟩),(125342,⟨[],[1,2,3,9,10,12,14,15,19,20,21]⟩),(501369,⟨[],[1,2,3,9,10,12,14,15,19,20,21]⟩)]
def q3c_ (at' many left:Int) (t19:List YTT9) (t20 t21:Int) (met:List Bool):St:=⟨[(1,dI at'),(2,dI many),(3,.fn (.func 353) [] []),(9,.row 0),(10,dI left),(19,.d YTT6 t19),(20,dI t20),(21,dI t21)],62,[],[(0,.row .bool 4 met)],1,[],0⟩
def qmf_ (left:Int):St:=⟨[(10,dI left)],62,[],[],0,[],0⟩
def q5p_ (at' many left to' i:Int) (t19:List YTT9) (t20 t21:Int) (met:List Bool) (x:ql_):St:=⟨[(1,dI at'),(2,dI many),(3,.fn (.func 353) [] []),(9,.row 0),(10,dI left),(12,.pb 1 0),(14,dI to'),(15,dI i),(19,.d YTT6 t19),(20,dI t20),(21,dI t21)],62,[],[(0,.row .bool 4 met),(1,.box 250 [dI x.1,dI x.2.1,dB x.2.2.1,dB x.2.2.2.1,dB x.2.2.2.2])],2,[],0⟩
def qlz_ (at' many left to' i:Int) (t19:List YTT9) (t20 t21:Int) (met:List Bool) (x:ql_):St:=⟨[(1,dI at'),(2,dI many),(3,.fn (.func 353) [] []),(9,.row 0),(10,dI left),(12,.pb 1 0),(14,dI to'),(15,dI i),(19,.d YTT6 t19),(20,dI t20),(21,dI t21)],62,[],[(0,.row .bool 4 met),(1,.box 250 [dI x.1,dI x.2.1,dB x.2.2.1,dB x.2.2.2.1,dB x.2.2.2.2])],2,[],0⟩
def q8y_ (j2:Int->Option (As [.bool])) (j3:Int->Int->Int->Int->Int->List YTT9->Int->Int->List Bool->ql_->Option (As [.bool])) (self1:zH2) (at' many left:Int) (t19:List YTT9) (t20 t21:Int) (met:List Bool):Option (As [.bool]) :=
 if lt t21 t20=true then zC (at? t19 t21) fun y=>if eqi left 0=true then j2 left else zC (q52_ (y,at',add .i64 at' many,())) fun y_1=>j3 at' many left y_1.2.1 y_1.1 t19 t20 t21 met y else j2 left
def qy1_ (left:Int):Option (As [.bool]) :=
 some (eqi left 0,())
def q8r_ (j4:Int->Int->Int->Int->Int->List YTT9->Int->Int->List Bool->ql_->Option (As [.bool])) (self1:zH2) (self3:Int->Int->Int->Int->Int->List YTT9->Int->Int->List Bool->ql_->Option (As [.bool])) (at' many left to' i:Int) (t19:List YTT9) (t20 t21:Int) (met:List Bool) (x:ql_):Option (As [.bool]) :=
 if lt i to'=true then zC (at? met (Sx.sub .i64 i at')) fun x_1=>zC (at? met (Sx.sub .i64 i at')) fun y=>if y=true then j4 at' many left to' i t19 t20 t21 met x else zC (qx_ (x,())) fun y=>if (!y.1)=true then some (false,()) else zC (at? met (Sx.sub .i64 i at')) fun x_2=>zC (at? met (Sx.sub .i64 i at')) fun x_3=>j4 at' many (Sx.sub .i64 left 1) to' i t19 t20 t21 (List.set met (zI (Sx.sub .i64 i at')) true) x else self1 at' many left t19 t20 (add .i64 t21 1) met
def qlv_ (self1:zH2) (self3:Int->Int->Int->Int->Int->List YTT9->Int->Int->List Bool->ql_->Option (As [.bool])) (at' many left to' i:Int) (t19:List YTT9) (t20 t21:Int) (met:List Bool) (x:ql_):Option (As [.bool]) :=
 self3 at' many left to' (add .i64 i 1) t19 t20 t21 met x
def qds_ (j1:zH2) (areas:List YTT9) (at' many:Int):Option (As [.bool]) :=
 need (ge many 0) (need (Ev.capOk many many) (need (small (zI many)) (j1 at' many many areas (zF (zG areas)) 0 (zE (zI many) false))))
def q8g_:=qy1_
def q5u_ (u1:zH2) (u3:Int->Int->Int->Int->Int->List YTT9->Int->Int->List Bool->ql_->Option (As [.bool])):=qlv_ u1 u3
def q4f_ (u1:zH2) (at' many left to' i:Int) (t19:List YTT9) (t20 t21:Int) (met:List Bool) (x:ql_):Option (As [.bool]) :=
 loopF (fun self s=>q8r_ (q5u_ u1 (fun at' many left to' i t19 t20 t21 met x=>self (at',many,left,to',i,t19,t20,t21,met,x))) u1 (fun at' many left to' i t19 t20 t21 met x=>self (at',many,left,to',i,t19,t20,t21,met,x)) s.1 s.2.1 s.2.2.1 s.2.2.2.1 s.2.2.2.2.1 s.2.2.2.2.2.1 s.2.2.2.2.2.2.1 s.2.2.2.2.2.2.2.1 s.2.2.2.2.2.2.2.2.1 s.2.2.2.2.2.2.2.2.2) 18446744073709551616 (at',many,left,to',i,t19,t20,t21,met,x)
def q8u_ (at' many left:Int) (t19:List YTT9) (t20 t21:Int) (met:List Bool):Option (As [.bool]) :=
 loopF (fun self s=>q8y_ (q8g_) (q4f_ (fun at' many left t19 t20 t21 met=>self (at',many,left,t19,t20,t21,met))) (fun at' many left t19 t20 t21 met=>self (at',many,left,t19,t20,t21,met)) s.1 s.2.1 s.2.2.1 s.2.2.2.1 s.2.2.2.2.1 s.2.2.2.2.2.1 s.2.2.2.2.2.2) 18446744073709551616 (at',many,left,t19,t20,t21,met)
def qec_ (x:As [.sl (.pr (.int .i64) YTT16),.int .i64,.int .i64]):Option (As [.bool]):=qds_ q8u_ x.1 x.2.1 x.2.2.1
abbrev model_each_ur_P:=zp qfl_ qfg_ 347 qaw_
theorem q19x_ {J a}:model_each_ur_P J 15 [] (qmf_ a)=qy1_ a:=by kernel_rfl
theorem q19g_ {J w1 w3 a b c d e f g h i j}:model_each_ur_P J 501369 [w1,w3] (qlz_ a b c d e f g h i j)=qlv_ (C w1 q3c_) (C w3 q5p_) a b c d e f g h i j:=by kernel_rfl
theorem q18y_ {J w1 w3 a b c d e f g h i j}:model_each_ur_P J 125342 [w1,w3] (q5p_ a b c d e f g h i j)=q8r_ (C (J 501369 [w1,w3]) qlz_) (C w1 q3c_) (C w3 q5p_) a b c d e f g h i j:=by kernel_rfl
theorem q195_ {J w1 a b c d e f g}:model_each_ur_P J 122 [w1] (q3c_ a b c d e f g)=q8y_ (C (J 15 []) qmf_) (C (J 125342 [w1]) q5p_) (C w1 q3c_) a b c d e f g:=by kernel_rfl
theorem q18w_ (J:Orc (As [.bool])) (x:As [.sl (.pr (.int .i64) YTT16),.int .i64,.int .i64]):rfn Tryz.prog qfl_ 6 18446744073709551616 (Ev.get qfg_) 347 qaw_ J x=qds_ (C (J 122 []) q3c_) x.1 x.2.1 x.2.2.1:=by kernel_rfl
abbrev model_each_ur_J:=zj qfl_ qfg_ 347 qaw_
theorem q196_:C (model_each_ur_J 15 []) qmf_=q8g_:=gNC (by decide) fun _=>q19x_
theorem q1ai_ {w1 w3}:C (model_each_ur_J 501369 [w1,w3]) qlz_=q5u_ (C w1 q3c_) (C w3 q5p_):=gNC (by decide) fun _=>q19g_
theorem q1a3_ {w1}:C (model_each_ur_J 125342 [w1]) q5p_=q4f_ (C w1 q3c_):=gLC (by decide) (by kernel_rfl) (fun _=>by unfold q4f_; rfl) fun _ _=>q18y_.trans (by rw [q1ai_] <;> kernel_rfl)
theorem q19e_:C (model_each_ur_J 122 []) q3c_=q8u_:=gLC (by decide) (by kernel_rfl) (fun _=>by unfold q8u_; rfl) fun _ _=>q195_.trans (by rw [q196_,q1a3_] <;> kernel_rfl)
theorem q1bj_ (x:As [.sl (.pr (.int .i64) YTT16),.int .i64,.int .i64]):evT Tryz.prog qfl_ 6 18446744073709551616 (Ev.get qfg_) 347 qaw_ x=qec_ x:=by
 rw [qb_,q18w_,q19e_] <;> rfl
theorem qde_:CtOk Tryz.prog (fun _=>True) 347 ⟨qaw_,qec_⟩:=q7_ (q0_ q20_ (q0_ q1z_ (q0_ qk4_ (q0_ q1n_ (q0_ q1q_ q2_))))) q1bj_
@[reducible] def qap_:Sh:=⟨[.d YTT6,.d (.int .i64),.d (.int .i64),.fn (.func 354) [] [.pb 0 0,.pb 1 0]],[.box 3 [.d (.int .i64)],.box 3 [.d (.int .i64)]],[.sl (.pr (.int .i64) YTT16),.int .i64,.int .i64,.int .i64,.int .i64],[.d (.bool)],[(0,.box 3 [.d (.int .i64)]),(1,.box 3 [.d (.int .i64)])],0,[.bool,.int .i64,.int .i64]⟩
def qg4_:Env:=(cts [(348,(⟨q24_,q12_⟩:Ct)),(349,(⟨q27_,qv_⟩:Ct)),(350,(⟨q5a_,q52_⟩:Ct)),(353,(⟨q1u_,qx_⟩:Ct)),(354,(⟨q1t_,qr_⟩:Ct))])
def qfd_:List (Nat×Hint):=[(15,⟨[],[10]⟩),(122,⟨[],[1,2,3,9,10,19,20,21]⟩),(125342,⟨[],[1,2,3,9,10,12,14,15,19,20,21]⟩),(501369,⟨[],[1,2,3,9,10,12,14,15,19,20,21]⟩)]
def q3i_ (at' many left:Int) (t19:List YTT9) (t20 t21 o o_2:Int) (met:List Bool):St:=⟨[(1,dI at'),(2,dI many),(3,.fn (.func 354) [] [.pb 0 0,.pb 1 0]),(9,.row 2),(10,dI left),(19,.d YTT6 t19),(20,dI t20),(21,dI t21)],62,[],[(0,.box 3 [dI o]),(1,.box 3 [dI o_2]),(2,.row .bool 4 met)],3,[],2⟩
def qm1_ (left o o_2:Int):St:=⟨[(10,dI left)],62,[],[(0,.box 3 [dI o]),(1,.box 3 [dI o_2])],2,[],2⟩
def q5w_ (at' many left to' i:Int) (t19:List YTT9) (t20 t21 o o_2:Int) (met:List Bool) (x:ql_):St:=⟨[(1,dI at'),(2,dI many),(3,.fn (.func 354) [] [.pb 0 0,.pb 1 0]),(9,.row 2),(10,dI left),(12,.pb 3 0),(14,dI to'),(15,dI i),(19,.d YTT6 t19),(20,dI t20),(21,dI t21)],62,[],[(0,.box 3 [dI o]),(1,.box 3 [dI o_2]),(2,.row .bool 4 met),(3,.box 250 [dI x.1,dI x.2.1,dB x.2.2.1,dB x.2.2.2.1,dB x.2.2.2.2])],4,[],2⟩
def qm3_ (at' many left to' i:Int) (t19:List YTT9) (t20 t21 o o_2:Int) (met:List Bool) (x:ql_):St:=⟨[(1,dI at'),(2,dI many),(3,.fn (.func 354) [] [.pb 0 0,.pb 1 0]),(9,.row 2),(10,dI left),(12,.pb 3 0),(14,dI to'),(15,dI i),(19,.d YTT6 t19),(20,dI t20),(21,dI t21)],62,[],[(0,.box 3 [dI o]),(1,.box 3 [dI o_2]),(2,.row .bool 4 met),(3,.box 250 [dI x.1,dI x.2.1,dB x.2.2.1,dB x.2.2.2.1,dB x.2.2.2.2])],4,[],2⟩
def q8h_ (j2:zH3) (j3:Int->Int->Int->Int->Int->List YTT9->Int->Int->Int->Int->List Bool->ql_->Option (As [.bool,.int .i64,.int .i64])) (self1:zH4) (at' many left:Int) (t19:List YTT9) (t20 t21 o o_2:Int) (met:List Bool):Option (As [.bool,.int .i64,.int .i64]) :=
 if lt t21 t20=true then zC (at? t19 t21) fun y=>if eqi left 0=true then j2 left o o_2 else zC (q52_ (y,at',add .i64 at' many,())) fun y_1=>j3 at' many left y_1.2.1 y_1.1 t19 t20 t21 o o_2 met y else j2 left o o_2
def qyj_ (left o o_2:Int):Option (As [.bool,.int .i64,.int .i64]) :=
 some (eqi left 0,o,o_2,())
def q92_ (j4:Int->Int->Int->Int->Int->List YTT9->Int->Int->Int->Int->List Bool->ql_->Option (As [.bool,.int .i64,.int .i64])) (self1:zH4) (self3:Int->Int->Int->Int->Int->List YTT9->Int->Int->Int->Int->List Bool->ql_->Option (As [.bool,.int .i64,.int .i64])) (at' many left to' i:Int) (t19:List YTT9) (t20 t21 o o_2:Int) (met:List Bool) (x:ql_):Option (As [.bool,.int .i64,.int .i64]) :=
 if lt i to'=true then zC (at? met (Sx.sub .i64 i at')) fun x_1=>zC (at? met (Sx.sub .i64 i at')) fun y=>if y=true then j4 at' many left to' i t19 t20 t21 o o_2 met x else zC (qr_ (x,o,o_2,())) fun y=>if (!y.1)=true then some (false,y.2.1,y.2.2.1,()) else zC (at? met (Sx.sub .i64 i at')) fun x_2=>zC (at? met (Sx.sub .i64 i at')) fun x_3=>j4 at' many (Sx.sub .i64 left 1) to' i t19 t20 t21 y.2.1 y.2.2.1 (List.set met (zI (Sx.sub .i64 i at')) true) x else self1 at' many left t19 t20 (add .i64 t21 1) o o_2 met
def qmg_ (self1:zH4) (self3:Int->Int->Int->Int->Int->List YTT9->Int->Int->Int->Int->List Bool->ql_->Option (As [.bool,.int .i64,.int .i64])) (at' many left to' i:Int) (t19:List YTT9) (t20 t21 o o_2:Int) (met:List Bool) (x:ql_):Option (As [.bool,.int .i64,.int .i64]) :=
 self3 at' many left to' (add .i64 i 1) t19 t20 t21 o o_2 met x
def qda_ (j1:zH4) (areas:List YTT9) (at' many wanted areas_2:Int):Option (As [.bool,.int .i64,.int .i64]) :=
 need (ge many 0) (need (Ev.capOk many many) (need (small (zI many)) (j1 at' many many areas (zF (zG areas)) 0 wanted areas_2 (zE (zI many) false))))
def q93_:=qyj_
def q64_ (u1:zH4) (u3:Int->Int->Int->Int->Int->List YTT9->Int->Int->Int->Int->List Bool->ql_->Option (As [.bool,.int .i64,.int .i64])):=qmg_ u1 u3
def q4i_ (u1:zH4) (at' many left to' i:Int) (t19:List YTT9) (t20 t21 o o_2:Int) (met:List Bool) (x:ql_):Option (As [.bool,.int .i64,.int .i64]) :=
 loopF (fun self s=>q92_ (q64_ u1 (fun at' many left to' i t19 t20 t21 o o_2 met x=>self (at',many,left,to',i,t19,t20,t21,o,o_2,met,x))) u1 (fun at' many left to' i t19 t20 t21 o o_2 met x=>self (at',many,left,to',i,t19,t20,t21,o,o_2,met,x)) s.1 s.2.1 s.2.2.1 s.2.2.2.1 s.2.2.2.2.1 s.2.2.2.2.2.1 s.2.2.2.2.2.2.1 s.2.2.2.2.2.2.2.1 s.2.2.2.2.2.2.2.2.1 s.2.2.2.2.2.2.2.2.2.1 s.2.2.2.2.2.2.2.2.2.2.1 s.2.2.2.2.2.2.2.2.2.2.2) 18446744073709551616 (at',many,left,to',i,t19,t20,t21,o,o_2,met,x)
def q94_ (at' many left:Int) (t19:List YTT9) (t20 t21 o o_2:Int) (met:List Bool):Option (As [.bool,.int .i64,.int .i64]) :=
 loopF (fun self s=>q8h_ (q93_) (q4i_ (fun at' many left t19 t20 t21 o o_2 met=>self (at',many,left,t19,t20,t21,o,o_2,met))) (fun at' many left t19 t20 t21 o o_2 met=>self (at',many,left,t19,t20,t21,o,o_2,met)) s.1 s.2.1 s.2.2.1 s.2.2.2.1 s.2.2.2.2.1 s.2.2.2.2.2.1 s.2.2.2.2.2.2.1 s.2.2.2.2.2.2.2.1 s.2.2.2.2.2.2.2.2) 18446744073709551616 (at',many,left,t19,t20,t21,o,o_2,met)
def qe9_ (x:As [.sl (.pr (.int .i64) YTT16),.int .i64,.int .i64,.int .i64,.int .i64]):Option (As [.bool,.int .i64,.int .i64]):=qda_ q94_ x.1 x.2.1 x.2.2.1 x.2.2.2.1 x.2.2.2.2.1
abbrev model_each_uw_P:=zp qg4_ qfd_ 347 qap_
theorem q19q_ {J a b c}:model_each_uw_P J 15 [] (qm1_ a b c)=qyj_ a b c:=by kernel_rfl
theorem q18x_ {J w1 w3 a b c d e f g h i j k l}:model_each_uw_P J 501369 [w1,w3] (qm3_ a b c d e f g h i j k l)=qmg_ (C w1 q3i_) (C w3 q5w_) a b c d e f g h i j k l:=by kernel_rfl
theorem q19o_ {J w1 w3 a b c d e f g h i j k l}:model_each_uw_P J 125342 [w1,w3] (q5w_ a b c d e f g h i j k l)=q92_ (C (J 501369 [w1,w3]) qm3_) (C w1 q3i_) (C w3 q5w_) a b c d e f g h i j k l:=by kernel_rfl
theorem q19f_ {J w1 a b c d e f g h i}:model_each_uw_P J 122 [w1] (q3i_ a b c d e f g h i)=q8h_ (C (J 15 []) qm1_) (C (J 125342 [w1]) q5w_) (C w1 q3i_) a b c d e f g h i:=by kernel_rfl
theorem q18z_ (J:Orc (As [.bool,.int .i64,.int .i64])) (x:As [.sl (.pr (.int .i64) YTT16),.int .i64,.int .i64,.int .i64,.int .i64]):rfn Tryz.prog qg4_ 6 18446744073709551616 (Ev.get qfd_) 347 qap_ J x=qda_ (C (J 122 []) q3i_) x.1 x.2.1 x.2.2.1 x.2.2.2.1 x.2.2.2.2.1:=by kernel_rfl
abbrev model_each_uw_J:=zj qg4_ qfd_ 347 qap_
theorem q19t_:C (model_each_uw_J 15 []) qm1_=q93_:=gNC (by decide) fun _=>q19q_
theorem q1ag_ {w1 w3}:C (model_each_uw_J 501369 [w1,w3]) qm3_=q64_ (C w1 q3i_) (C w3 q5w_):=gNC (by decide) fun _=>q18x_
theorem q19l_ {w1}:C (model_each_uw_J 125342 [w1]) q5w_=q4i_ (C w1 q3i_):=gLC (by decide) (by kernel_rfl) (fun _=>by unfold q4i_; rfl) fun _ _=>q19o_.trans (by rw [q1ag_] <;> kernel_rfl)
theorem q198_:C (model_each_uw_J 122 []) q3i_=q94_:=gLC (by decide) (by kernel_rfl) (fun _=>by unfold q94_; rfl) fun _ _=>q19f_.trans (by rw [q19t_,q19l_] <;> kernel_rfl)
theorem q1ba_ (x:As [.sl (.pr (.int .i64) YTT16),.int .i64,.int .i64,.int .i64,.int .i64]):evT Tryz.prog qg4_ 6 18446744073709551616 (Ev.get qfd_) 347 qap_ x=qe9_ x:=by
 rw [qb_,q18z_,q198_] <;> rfl
theorem qdg_:CtOk Tryz.prog (fun _=>True) 347 ⟨qap_,qe9_⟩:=q7_ (q0_ q20_ (q0_ q1z_ (q0_ qk4_ (q0_ q1n_ (q0_ q1q_ q2_))))) q1ba_
@[reducible] def qcx_:Sh:=⟨[.d (.pr YTT6 (.sl .bool)),.d (.int .i64),.d (.int .i64)],[],[.pr YTT6 (.sl .bool),.int .i64,.int .i64],[.d (.bool)],[],0,[.bool]⟩
def qrh_ (t:List YTT9×List Bool) (at' many:Int):Option (As [.bool]) :=
 zC (qe7_ (t.1,at',many,())) fun y=>some (y.1,())
def q1k_ (x:As [.pr YTT6 (.sl .bool),.int .i64,.int .i64]):Option (As [.bool]):=qrh_ x.1 x.2.1 x.2.2.1
theorem qr4_:CtOk Tryz.prog (fun _=>True) 345 ⟨qcx_,q1k_⟩:=ctn (q0_ qdb_ (q0_ qd6_ (q0_ qde_ (q0_ qdg_ (q0_ q20_ q2_))))) 6 fun J x=>by kernel_rfl
@[reducible] def qcz_:Sh:=⟨[.d (.pr YTT6 (.sl .bool)),.d (.int .i64),.d (.int .i64)],[],[.pr YTT6 (.sl .bool),.int .i64,.int .i64],[.d (.bool)],[],0,[.bool]⟩
def qri_ (t:List YTT9×List Bool) (at' many:Int):Option (As [.bool]) :=
 zC (qeb_ (t.1,at',many,at',many,())) fun y=>some (y.1,())
def q1l_ (x:As [.pr YTT6 (.sl .bool),.int .i64,.int .i64]):Option (As [.bool]):=qri_ x.1 x.2.1 x.2.2.1
theorem qqr_:CtOk Tryz.prog (fun _=>True) 346 ⟨qcz_,q1l_⟩:=ctn (q0_ qdb_ (q0_ qd6_ (q0_ qde_ (q0_ qdg_ (q0_ q1z_ q2_))))) 6 fun J x=>by kernel_rfl
@[reducible] def qbc_:Sh:=⟨[.d (.pr YTT6 (.sl (.int .u16))),.d (.int .i64),.d (.int .i64)],[],[.pr YTT6 (.sl (.int .u16)),.int .i64,.int .i64],[.d (.bool)],[],0,[.bool]⟩
def qq0_ (t:List YTT9×List Int) (at' many:Int):Option (As [.bool]) :=
 zC (qec_ (t.1,at',many,())) fun y=>some (y.1,())
def q17_ (x:As [.pr YTT6 (.sl (.int .u16)),.int .i64,.int .i64]):Option (As [.bool]):=qq0_ x.1 x.2.1 x.2.2.1
theorem qnf_:CtOk Tryz.prog (fun _=>True) 351 ⟨qbc_,q17_⟩:=ctn (q0_ qdb_ (q0_ qd6_ (q0_ qde_ (q0_ qdg_ (q0_ q1n_ q2_))))) 6 fun J x=>by kernel_rfl
@[reducible] def qbd_:Sh:=⟨[.d (.pr YTT6 (.sl (.int .u16))),.d (.int .i64),.d (.int .i64)],[],[.pr YTT6 (.sl (.int .u16)),.int .i64,.int .i64],[.d (.bool)],[],0,[.bool]⟩
def qni_ (t:List YTT9×List Int) (at' many:Int):Option (As [.bool]) :=
 zC (qe9_ (t.1,at',many,at',many,())) fun y=>some (y.1,())
def qy_ (x:As [.pr YTT6 (.sl (.int .u16)),.int .i64,.int .i64]):Option (As [.bool]):=qni_ x.1 x.2.1 x.2.2.1
theorem qp8_:CtOk Tryz.prog (fun _=>True) 352 ⟨qbd_,qy_⟩:=ctn (q0_ qdb_ (q0_ qd6_ (q0_ qde_ (q0_ qdg_ (q0_ q1q_ q2_))))) 6 fun J x=>by kernel_rfl
@[reducible] def q77_:Sh:=⟨[.d (.pr YTT6 (.pr YTT6 (.pr YTT6 YTT6))),.d (.pr (.int .u8) YTT7)],[],[.pr YTT6 (.pr YTT6 (.pr YTT6 YTT6)),.pr (.int .u8) YTT7],[.d (.int .u8)],[],0,[.int .u8]⟩
def qkv_:Env:=(cts [(105,(⟨q69_,q5h_⟩:Ct)),(221,(⟨q15z_,qi5_⟩:Ct)),(222,(⟨qxx_,qif_⟩:Ct)),(224,(⟨qry_,q8q_⟩:Ct)),(345,(⟨qcx_,q1k_⟩:Ct)),(346,(⟨qcz_,q1l_⟩:Ct)),(351,(⟨qbc_,q17_⟩:Ct)),(352,(⟨qbd_,qy_⟩:Ct))])
def qle_:List (Nat×Hint):=[(509,⟨[],[60]⟩),(125,⟨[],[3,5,6,40,55,56,57,58,59]⟩)]
@[reducible] def zH5:Type:=(List YTT9×List Bool)×(List YTT9×List Bool)×(List YTT9×List Int)×List YTT9×List Int
def qrl_ (t40:Bool) (a:zH1) (v:zH5) (u:Int×Int):St:=⟨[(3,.pb 0 0),(5,.pb 1 0),(6,.pb 2 0),(40,dB t40)],61,[],[(0,.box 27 [d8 a.1,d6 a.2.1,d6 a.2.2.1,d6 a.2.2.2.1,dW a.2.2.2.2.1,.d (.sl .bool) a.2.2.2.2.2]),(1,.box 275 [.d YTT6 v.1.1,.d (.sl .bool) v.1.2,.d YTT6 v.2.1.1,.d (.sl .bool) v.2.1.2,.d YTT6 v.2.2.1.1,dW v.2.2.1.2,.d YTT6 v.2.2.2.1,dW v.2.2.2.2]),(2,.box 279 [dI u.1,dI u.2])],3,[],0⟩
def qqq_ (t60:Bool):St:=⟨[(60,dB t60)],61,[],[],0,[],0⟩
def q12y_ (j2:Bool->Option (As [.int .u8])) (t40:Bool) (a:zH1) (v:zH5) (u:Int×Int):Option (As [.int .u8]) :=
 if t40=true then some (2,()) else zC (q8q_ (a,())) fun y=>if eqi u.2 1=true then zC (q1l_ (v.1,y.1,y.2.1,())) fun y=>j2 !y.1 else if eqi u.2 2=true then zC (q1l_ (v.2.1,y.1,y.2.1,())) fun y=>j2 !y.1 else if eqi u.2 3=true then zC (qy_ (v.2.2.1,y.1,y.2.1,())) fun y=>j2 !y.1 else if eqi u.2 4=true then zC (qy_ (v.2.2.2,y.1,y.2.1,())) fun y=>j2 !y.1 else j2 false
def q11j_ (t60:Bool):Option (As [.int .u8]) :=
 if t60=true then some (2,()) else some (0,())
def qhv_ (j1:Bool->Int×Int×Int×Int×List Int×List Bool->(List YTT9×List Bool)×(List YTT9×List Bool)×(List YTT9×List Int)×List YTT9×List Int->Int×Int->Option (As [.int .u8])) (s:List YTT9×List YTT9×List YTT9×List YTT9) (a:zH1):Option (As [.int .u8]) :=
 zC (q5h_ (a,())) fun y=>if (!y.1)=true then some (3,()) else zC (qi5_ (s,([],[],[],[]),())) fun y=>zC (qif_ (a.1,())) fun y_1=>if eqi y_1.1.1 1=true then zC (q1k_ (y.1.1,cvt .i64 a.2.1,cvt .i64 a.2.2.1,())) fun y_2=>j1 (!y_2.1) a y.1 y_1.1 else if eqi y_1.1.1 2=true then zC (q1k_ (y.1.2.1,cvt .i64 a.2.1,cvt .i64 a.2.2.1,())) fun y_2=>j1 (!y_2.1) a y.1 y_1.1 else if eqi y_1.1.1 3=true then zC (q17_ (y.1.2.2.1,cvt .i64 a.2.1,cvt .i64 a.2.2.1,())) fun y_2=>j1 (!y_2.1) a y.1 y_1.1 else if eqi y_1.1.1 4=true then zC (q17_ (y.1.2.2.2,cvt .i64 a.2.1,cvt .i64 a.2.2.1,())) fun y_2=>j1 (!y_2.1) a y.1 y_1.1 else j1 false a y.1 y_1.1
def q4r_:=q11j_
def qz_:=q12y_ (q4r_)
def q7u_ (x:As [.pr YTT6 (.pr YTT6 (.pr YTT6 YTT6)),.pr (.int .u8) YTT7]):Option (As [.int .u8]):=qhv_ qz_ x.1 x.2.1
abbrev model_Check_P:=zp qkv_ qle_ 164 q77_
theorem q1cs_ {J a}:model_Check_P J 509 [] (qqq_ a)=q11j_ a:=by kernel_rfl
theorem q1de_ {J a b c d}:model_Check_P J 125 [] (qrl_ a b c d)=q12y_ (C (J 509 []) qqq_) a b c d:=by kernel_rfl
theorem q1dm_ (J:Orc (As [.int .u8])) (x:As [.pr YTT6 (.pr YTT6 (.pr YTT6 YTT6)),.pr (.int .u8) YTT7]):rfn Tryz.prog qkv_ 6 18446744073709551616 (Ev.get qle_) 164 q77_ J x=qhv_ (C (J 125 []) qrl_) x.1 x.2.1:=by kernel_rfl
abbrev model_Check_J:=zj qkv_ qle_ 164 q77_
theorem q1c8_:C (model_Check_J 509 []) qqq_=q4r_:=gNC (by decide) fun _=>q1cs_
theorem q1e1_:C (model_Check_J 125 []) qrl_=qz_:=gNC (by decide) fun _=>q1de_.trans (by rw [q1c8_] <;> kernel_rfl)
theorem q1gj_ (x:As [.pr YTT6 (.pr YTT6 (.pr YTT6 YTT6)),.pr (.int .u8) YTT7]):evT Tryz.prog qkv_ 6 18446744073709551616 (Ev.get qle_) 164 q77_ x=q7u_ x:=by
 rw [qb_,q1dm_,q1e1_] <;> rfl
theorem q11y_:CtOk Tryz.prog (fun _=>True) 164 ⟨q77_,q7u_⟩:=q7_ (q0_ qgg_ (q0_ q145_ (q0_ q13p_ (q0_ q10b_ (q0_ qr4_ (q0_ qqr_ (q0_ qnf_ (q0_ qp8_ q2_)))))))) q1gj_
@[reducible] def q75_:Sh:=⟨[],[],[],[.d (.pr YTT6 (.pr YTT6 (.pr YTT6 YTT6)))],[],0,[.pr YTT6 (.pr YTT6 (.pr YTT6 YTT6))]⟩
def ql6_:Env:=(cts [])
def qlo_:List (Nat×Hint):=[(7,⟨[],[0,1]⟩),(58,⟨[],[0,1,8]⟩)]
def qip_ (t8:Int) (words:List YTT9):St:=⟨[(0,.pb 0 0),(1,.row 1),(8,dI t8)],27,[],[(0,.box 189 [.k (zK zH 0 0),.k (zK zH 0 0),.k (zK zH 0 0),.k (zK zH 0 0)]),(1,.row (.pr (.int .i64) YTT16) 250 words)],2,[],0⟩
def qqu_ (words:List YTT9):St:=⟨[(0,.pb 0 0),(1,.row 1)],27,[],[(0,.box 189 [.k (zK zH 0 0),.k (zK zH 0 0),.k (zK zH 0 0),.k (zK zH 0 0)]),(1,.row (.pr (.int .i64) YTT16) 250 words)],2,[],0⟩
@[reducible] def zH6:Type:=Int->List YTT9->Option (As [.pr YTT6 (.pr YTT6 (.pr YTT6 YTT6))])
def q137_ (j2:List YTT9->Option (As [.pr YTT6 (.pr YTT6 (.pr YTT6 YTT6))])) (self1:zH6) (t8:Int) (words:List YTT9):Option (As [.pr YTT6 (.pr YTT6 (.pr YTT6 YTT6))]) :=
 if lt t8 8=true then need (small (zG words + Nat.succ 0)) (self1 (add .i64 t8 1) (words++[(add .i64 512 (mul .i64 t8 32),20,true,false,false)])) else j2 words
def q126_ (words:List YTT9):Option (As [.pr YTT6 (.pr YTT6 (.pr YTT6 YTT6))]) :=
 some (([(0,16,true,true,false)],[(0,8,true,false,false)],words,[(0,8,true,false,false)]),())
def q12d_ (j1:zH6):Option (As [.pr YTT6 (.pr YTT6 (.pr YTT6 YTT6))]) :=
 j1 0 [(0,64,true,false,false),(256,8,true,false,false),(272,8,false,true,true),(288,20,false,true,true)]
def q12n_:=q126_
def qro_ (t8:Int) (words:List YTT9):Option (As [.pr YTT6 (.pr YTT6 (.pr YTT6 YTT6))]) :=
 loopF (fun self s=>q137_ (q12n_) (fun t8 words=>self (t8,words)) s.1 s.2) 18446744073709551616 (t8,words)
def q3m_ (x:As []):Option (As [.pr YTT6 (.pr YTT6 (.pr YTT6 YTT6))]):=q12d_ qro_
abbrev slave_Space_P:=zp ql6_ qlo_ 165 q75_
theorem q1cy_ {J a}:slave_Space_P J 7 [] (qqu_ a)=q126_ a:=by kernel_rfl
theorem q1er_ {J w1 a b}:slave_Space_P J 58 [w1] (qip_ a b)=q137_ (C (J 7 []) qqu_) (C w1 qip_) a b:=by kernel_rfl
theorem q1ei_ (J:Orc (As [.pr YTT6 (.pr YTT6 (.pr YTT6 YTT6))])) (x:As []):rfn Tryz.prog ql6_ 6 18446744073709551616 (Ev.get qlo_) 165 q75_ J x=q12d_ (C (J 58 []) qip_):=by kernel_rfl
abbrev slave_Space_J:=zj ql6_ qlo_ 165 q75_
theorem q1co_:C (slave_Space_J 7 []) qqu_=q12n_:=gNC (by decide) fun _=>q1cy_
theorem q1ck_:C (slave_Space_J 58 []) qip_=qro_:=gLC (by decide) (by kernel_rfl) (fun _=>by unfold qro_; rfl) fun _ _=>q1er_.trans (by rw [q1co_] <;> kernel_rfl)
theorem q1fe_ (x:As []):evT Tryz.prog ql6_ 6 18446744073709551616 (Ev.get qlo_) 165 q75_ x=q3m_ x:=by
 rw [qb_,q1ei_,q1ck_] <;> rfl
theorem q12t_:CtOk Tryz.prog (fun _=>True) 165 ⟨q75_,q3m_⟩:=q7_ q2_ q1fe_
def q1k5_ (m:List Bool×List Bool×List Int×List Int):Option (As [.pr (.sl .bool) YTT15]) :=
 zC (q2m_ (m.1,())) fun y=>zC (q2m_ (m.2.1,())) fun y_1=>zC (qc_ (m.2.2.1,())) fun y_2=>zC (qc_ (m.2.2.2,())) fun y_3=>some ((y.1,y_1.1,y_2.1,y_3.1),())
def q1p8_ (x:As [.pr (.sl .bool) YTT15]):Option (As [.pr (.sl .bool) YTT15]):=q1k5_ x.1
end Go.Proofs.Lx
end
