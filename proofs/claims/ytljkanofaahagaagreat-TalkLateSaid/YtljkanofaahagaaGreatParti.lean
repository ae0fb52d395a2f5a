/- Proved in the last of these 15 parts (this is part 9): TalkLate. Conditions: those of the given statement, and no others. -/
import Derived.Test.YtljkanofaahagaaGreatPartd
import Derived.Test.YtljkanofaahagaaGreatParth
import Derived.Test.YtljkanofaahagaaGreatProg
import Derived.Test.YtljkanofaahagaaGreatParte
set_option linter.unusedVariables false
set_option linter.unusedSimpArgs false
set_option linter.unusedSectionVars false
open Option renaming bind → zC, none → zH
open List renaming replicate → zE, length → zG
open Int renaming ofNat → zF, toNat → zI
open Go.Value renaming slice → zK
noncomputable section
open Go Go.Proofs Ev Sx
set_option maxRecDepth 100000
namespace Go.Proofs.Lx
abbrev TaA5q0:Type:=List Int×(Int×Int)×Int×Int×Int×YTT12×Int
abbrev TaA5q1:Type:=Int×Int×Int×Int×List Int×List Bool
abbrev TaA5q2:Type:=Int×Int×YTT4×List Bool
@[reducible] def q3l_:Sh:=⟨[.d bK,.d (.bool)],[],[.pr YTT6 (.sl .bool),.bool],[.d (.bool)],[],0,[.bool]⟩
def q51_:Env:=(cts [])
def q52_:List (Nat×Hint):=[(122,⟨[],[1,2,5,13,14,15,24,25,26,27,28,29,32,33,34,37,38,39,40,41,42,43,44,45,49,50]⟩),(31334,⟨[.agd 50 .bool],[1,2,7,13,14,15,51]⟩),(15666,⟨[.agd 25 (.int .i64),.agd 27 (.sl .bool),.agd 28 (.int .i64),.agd 29 .bool,.agd 33 (.int .i64),.agd 34 .bool,.agd 38 (.int .i64),.agd 40 (.sl .bool),.agd 41 (.int .i64),.agd 43 (.int .i64),.agd 44 (.int .i64),.agd 45 .bool],[1,2,7,13,14,15,46]⟩)]
@[reducible] def zI0:Type:=List YTT9×List Bool
def q19_ (fixed:Bool) (endV:Int) (t13:List YTT9) (t14 t15:Int) (t:zI0):St:=⟨[(1,dB fixed),(2,.pb 0 0),(5,dI endV),(13,.d YTT6 t13),(14,dI t14),(15,dI t15)],58,[],[(0,.box 271 [.d YTT6 t.1,.d (.sl .bool) t.2])],1,[],0⟩
@[reducible] def zI1:Type:=Int×Int×Bool×Bool×Bool
def q7m_ (fixed:Bool) (t13:List YTT9) (t14 t15:Int) (t46:Bool) (t:zI0) (x:zI1):St:=⟨[(1,dB fixed),(2,.pb 0 0),(7,.pb 1 0),(13,.d YTT6 t13),(14,dI t14),(15,dI t15),(46,dB t46)],58,[],[(0,.box 271 [.d YTT6 t.1,.d (.sl .bool) t.2]),(1,.box 250 [dI x.1,dI x.2.1,dB x.2.2.1,dB x.2.2.2.1,dB x.2.2.2.2])],2,[],0⟩
def q7e_ (fixed:Bool) (t13:List YTT9) (t14 t15:Int) (t51:Bool) (t:zI0) (x:zI1):St:=⟨[(1,dB fixed),(2,.pb 0 0),(7,.pb 1 0),(13,.d YTT6 t13),(14,dI t14),(15,dI t15),(51,dB t51)],58,[],[(0,.box 271 [.d YTT6 t.1,.d (.sl .bool) t.2]),(1,.box 250 [dI x.1,dI x.2.1,dB x.2.2.1,dB x.2.2.2.1,dB x.2.2.2.2])],2,[],0⟩
@[reducible] def zI2:Type:=Bool->List YTT9->Int->Int->Bool->List YTT9×List Bool->Int×Int×Bool×Bool×Bool->Option aF
@[reducible] def zI3:Type:=Bool->Int->List YTT9->Int->Int->List YTT9×List Bool->Option aF
def q2z_ (j2:zI2) (self1:zI3) (fixed:Bool) (endV:Int) (t13:List YTT9) (t14 t15:Int) (t:zI0):Option aF :=
 if lt t15 t14=true then zC (at? t13 t15) fun y=>if lt y.1 endV=true then j2 fixed t13 t14 t15 true t y else if gt y.1 (zF (zG t.2))=true then j2 fixed t13 t14 t15 true t y else if lt y.2.1 1=true then j2 fixed t13 t14 t15 true t y else j2 fixed t13 t14 t15 (gt y.2.1 (Sx.sub .i64 (zF (zG t.2)) y.1)) t y else some (true,())
def q7n_ (j3:zI2) (self1:zI3) (fixed:Bool) (t13:List YTT9) (t14 t15:Int) (t46:Bool) (t:zI0) (x:zI1):Option aF :=
 if t46=true then some (false,()) else if fixed=true then j3 fixed t13 t14 t15 x.2.2.2.1 t x else j3 fixed t13 t14 t15 false t x
def q7i_ (self1:zI3) (fixed:Bool) (t13:List YTT9) (t14 t15:Int) (t51:Bool) (t:zI0) (x:zI1):Option aF :=
 if t51=true then some (false,()) else self1 fixed (add .i64 x.1 x.2.1) t13 t14 (add .i64 t15 1) t
def q4t_ (j1:zI3) (t:zI0) (fixed:Bool):Option aF :=
 if gt (zF (zG t.2)) 65536=true then some (false,()) else j1 fixed 0 t.1 (zF (zG t.1)) 0 t
def q4s_ (u1:zI3):=q7i_ u1
def q4u_ (u1:zI3):=q7n_ (q4s_ u1) u1
def q2d_ (fixed:Bool) (endV:Int) (t13:List YTT9) (t14 t15:Int) (t:zI0):Option aF :=
 loopF (fun self s=>q2z_ (q4u_ (fun fixed endV t13 t14 t15 t=>self (fixed,endV,t13,t14,t15,t))) (fun fixed endV t13 t14 t15 t=>self (fixed,endV,t13,t14,t15,t)) s.1 s.2.1 s.2.2.1 s.2.2.2.1 s.2.2.2.2.1 s.2.2.2.2.2) 18446744073709551616 (fixed,endV,t13,t14,t15,t)
def q45_ (x:As [.pr YTT6 (.sl .bool),.bool]):Option aF:=q4t_ q2d_ x.1 x.2.1
abbrev pCj:=zp q51_ q52_ 279 q3l_
theorem qww_ {J w1 a b c d e f g}:pCj J 31334 [w1] (q7e_ a b c d e f g)=q7i_ (C w1 q19_) a b c d e f g:=by kernel_rfl
theorem qwq_ {J w1 a b c d e f g}:pCj J 15666 [w1] (q7m_ a b c d e f g)=q7n_ (C (J 31334 [w1]) q7e_) (C w1 q19_) a b c d e f g:=by kernel_rfl
theorem qwf_ {J w1 a b c d e f}:pCj J 122 [w1] (q19_ a b c d e f)=q2z_ (C (J 15666 [w1]) q7m_) (C w1 q19_) a b c d e f:=by kernel_rfl
abbrev pCi:=zj q51_ q52_ 279 q3l_
theorem qwr_ {w1}:C (pCi 31334 [w1]) q7e_=q4s_ (C w1 q19_):=gNC (by decide) fun _=>qww_
theorem qws_ {w1}:C (pCi 15666 [w1]) q7m_=q4u_ (C w1 q19_):=gNC (by decide) fun _=>qwq_.trans (by rw [qwr_] <;> kernel_rfl)
theorem qx1_:C (pCi 122 []) q19_=q2d_:=gLC (by decide) (by kernel_rfl) (fun _=>by unfold q2d_; rfl) fun _ _=>qwf_.trans (by rw [qws_] <;> kernel_rfl)
theorem qwh_:CtOk Tryz.prog (fun _=>True) 279 ⟨q3l_,q45_⟩:=zcc (env:=q51_) (d:=6) (hs:=Ev.get q52_) q1_ (fun J x=>q4t_ (C (J 122 []) q19_) x.1 x.2.1) (fun _ _=>by kernel_rfl) fun _=>by rw [qx1_] <;> rfl
@[reducible] def q2r_:Sh:=⟨[.d cJ,.d (.bool)],[],[.pr YTT6 aC,.bool],[.d (.bool)],[],0,[.bool]⟩
def q4b_:Env:=(cts [])
def q4a_:List (Nat×Hint):=[(122,⟨[],[1,2,5,13,14,15,24,25,26,27,28,29,32,33,34,37,38,39,40,41,42,43,44,45,49,50]⟩),(31334,⟨[.agd 50 .bool],[1,2,7,13,14,15,51]⟩),(15666,⟨[.agd 25 (.int .i64),.agd 27 aC,.agd 28 (.int .i64),.agd 29 .bool,.agd 33 (.int .i64),.agd 34 .bool,.agd 38 (.int .i64),.agd 40 aC,.agd 41 (.int .i64),.agd 43 (.int .i64),.agd 44 (.int .i64),.agd 45 .bool],[1,2,7,13,14,15,46]⟩)]
@[reducible] def zI4:Type:=List YTT9×List Int
def q16_ (fixed:Bool) (endV:Int) (t13:List YTT9) (t14 t15:Int) (t:zI4):St:=⟨[(1,dB fixed),(2,.pb 0 0),(5,dI endV),(13,.d YTT6 t13),(14,dI t14),(15,dI t15)],58,[],[(0,.box 273 [.d YTT6 t.1,dW t.2])],1,[],0⟩
def q6k_ (fixed:Bool) (t13:List YTT9) (t14 t15:Int) (t46:Bool) (t:zI4) (x:zI1):St:=⟨[(1,dB fixed),(2,.pb 0 0),(7,.pb 1 0),(13,.d YTT6 t13),(14,dI t14),(15,dI t15),(46,dB t46)],58,[],[(0,.box 273 [.d YTT6 t.1,dW t.2]),(1,.box 250 [dI x.1,dI x.2.1,dB x.2.2.1,dB x.2.2.2.1,dB x.2.2.2.2])],2,[],0⟩
def q6h_ (fixed:Bool) (t13:List YTT9) (t14 t15:Int) (t51:Bool) (t:zI4) (x:zI1):St:=⟨[(1,dB fixed),(2,.pb 0 0),(7,.pb 1 0),(13,.d YTT6 t13),(14,dI t14),(15,dI t15),(51,dB t51)],58,[],[(0,.box 273 [.d YTT6 t.1,dW t.2]),(1,.box 250 [dI x.1,dI x.2.1,dB x.2.2.1,dB x.2.2.2.1,dB x.2.2.2.2])],2,[],0⟩
@[reducible] def zI5:Type:=Bool->List YTT9->Int->Int->Bool->List YTT9×List Int->Int×Int×Bool×Bool×Bool->Option aF
@[reducible] def zI6:Type:=Bool->Int->List YTT9->Int->Int->List YTT9×List Int->Option aF
def q2o_ (j2:zI5) (self1:zI6) (fixed:Bool) (endV:Int) (t13:List YTT9) (t14 t15:Int) (t:zI4):Option aF :=
 if lt t15 t14=true then zC (at? t13 t15) fun y=>if lt y.1 endV=true then j2 fixed t13 t14 t15 true t y else if gt y.1 (zF (zG t.2))=true then j2 fixed t13 t14 t15 true t y else if lt y.2.1 1=true then j2 fixed t13 t14 t15 true t y else j2 fixed t13 t14 t15 (gt y.2.1 (Sx.sub .i64 (zF (zG t.2)) y.1)) t y else some (true,())
def q6j_ (j3:zI5) (self1:zI6) (fixed:Bool) (t13:List YTT9) (t14 t15:Int) (t46:Bool) (t:zI4) (x:zI1):Option aF :=
 if t46=true then some (false,()) else if fixed=true then j3 fixed t13 t14 t15 x.2.2.2.1 t x else j3 fixed t13 t14 t15 false t x
def q6o_ (self1:zI6) (fixed:Bool) (t13:List YTT9) (t14 t15:Int) (t51:Bool) (t:zI4) (x:zI1):Option aF :=
 if t51=true then some (false,()) else self1 fixed (add .i64 x.1 x.2.1) t13 t14 (add .i64 t15 1) t
def q3x_ (j1:zI6) (t:zI4) (fixed:Bool):Option aF :=
 if gt (zF (zG t.2)) 65536=true then some (false,()) else j1 fixed 0 t.1 (zF (zG t.1)) 0 t
def q3y_ (u1:zI6):=q6o_ u1
def q3w_ (u1:zI6):=q6j_ (q3y_ u1) u1
def q1u_ (fixed:Bool) (endV:Int) (t13:List YTT9) (t14 t15:Int) (t:zI4):Option aF :=
 loopF (fun self s=>q2o_ (q3w_ (fun fixed endV t13 t14 t15 t=>self (fixed,endV,t13,t14,t15,t))) (fun fixed endV t13 t14 t15 t=>self (fixed,endV,t13,t14,t15,t)) s.1 s.2.1 s.2.2.1 s.2.2.2.1 s.2.2.2.2.1 s.2.2.2.2.2) 18446744073709551616 (fixed,endV,t13,t14,t15,t)
def q3h_ (x:As [.pr YTT6 aC,.bool]):Option aF:=q3x_ q1u_ x.1 x.2.1
abbrev pCl:=zp q4b_ q4a_ 280 q2r_
theorem qud_ {J w1 a b c d e f g}:pCl J 31334 [w1] (q6h_ a b c d e f g)=q6o_ (C w1 q16_) a b c d e f g:=by kernel_rfl
theorem quq_ {J w1 a b c d e f g}:pCl J 15666 [w1] (q6k_ a b c d e f g)=q6j_ (C (J 31334 [w1]) q6h_) (C w1 q16_) a b c d e f g:=by kernel_rfl
theorem quk_ {J w1 a b c d e f}:pCl J 122 [w1] (q16_ a b c d e f)=q2o_ (C (J 15666 [w1]) q6k_) (C w1 q16_) a b c d e f:=by kernel_rfl
abbrev pCk:=zj q4b_ q4a_ 280 q2r_
theorem qux_ {w1}:C (pCk 31334 [w1]) q6h_=q3y_ (C w1 q16_):=gNC (by decide) fun _=>qud_
theorem qul_ {w1}:C (pCk 15666 [w1]) q6k_=q3w_ (C w1 q16_):=gNC (by decide) fun _=>quq_.trans (by rw [qux_] <;> kernel_rfl)
theorem qug_:C (pCk 122 []) q16_=q1u_:=gLC (by decide) (by kernel_rfl) (fun _=>by unfold q1u_; rfl) fun _ _=>quk_.trans (by rw [qul_] <;> kernel_rfl)
theorem qup_:CtOk Tryz.prog (fun _=>True) 280 ⟨q2r_,q3h_⟩:=zcc (env:=q4b_) (d:=6) (hs:=Ev.get q4a_) q1_ (fun J x=>q3x_ (C (J 122 []) q16_) x.1 x.2.1) (fun _ _=>by kernel_rfl) fun _=>by rw [qug_] <;> rfl
@[reducible] def q145_:Sh:=⟨[.d (.pr YTT6 bB),.d eJ],[],dO,[.d (.bool)],[],0,[.bool]⟩
def qqs_ (s:List YTT9×List YTT9×List YTT9×List YTT9) (m:List Bool×List Bool×List Int×List Int):Option aF :=
 zC (qia_ (s,m,())) fun y=>zC (q45_ (y.1.1,false,())) fun y_1=>if y_1.1=true then zC (q45_ (y.1.2.1,true,())) fun y_2=>if y_2.1=true then zC (q3h_ (y.1.2.2.1,false,())) fun y_3=>if y_3.1=true then zC (q3h_ (y.1.2.2.2,true,())) fun y=>some (y.1,()) else some (false,()) else some (false,()) else some (false,())
def qtm_ (x:As dO):Option aF:=qqs_ x.1 x.2.1
theorem q1dd_:CtOk Tryz.prog (fun _=>True) 257 ⟨q145_,qtm_⟩:=ctn (q0_ q13t_ (q0_ qwh_ (q0_ qup_ q1_))) 6 fun J x=>by kernel_rfl
@[reducible] def qzj_:Sh:=⟨[.d bK,.d (.int .i64),.d (.int .i64),.d (.int .i64)],[],[.pr YTT6 (.sl .bool),.int .i64,.int .i64,.int .i64],[.d (.sl .bool)],[],0,[.sl .bool]⟩
def q8w_ (t:zI0) (at' many step:Int):Option cY :=
 need (nei step 0) (need (ge (mul .i64 (quo .i64 (Sx.sub .i64 (add .i64 many step) 1) step) step) 0) (need (Ev.capOk (mul .i64 (quo .i64 (Sx.sub .i64 (add .i64 many step) 1) step) step) (mul .i64 (quo .i64 (Sx.sub .i64 (add .i64 many step) 1) step) step)) (need (small (zI (mul .i64 (quo .i64 (Sx.sub .i64 (add .i64 many step) 1) step) step))) (zC (cut t.2 at' (add .i64 at' many)) fun y=>need (le (zF (0 + zG (zE (zI (mul .i64 (quo .i64 (Sx.sub .i64 (add .i64 many step) 1) step) step)) false))) (zF (zG (zE (zI (mul .i64 (quo .i64 (Sx.sub .i64 (add .i64 many step) 1) step) step)) false)))) (some (List.take (zI (zF (zG (zE (zI (mul .i64 (quo .i64 (Sx.sub .i64 (add .i64 many step) 1) step) step)) false)))) y++List.drop (0 + zG (List.take (zI (zF (zG (zE (zI (mul .i64 (quo .i64 (Sx.sub .i64 (add .i64 many step) 1) step) step)) false)))) y)) (zE (zI (mul .i64 (quo .i64 (Sx.sub .i64 (add .i64 many step) 1) step) step)) false),()))))))
def q6y_ (x:As [.pr YTT6 (.sl .bool),.int .i64,.int .i64,.int .i64]):Option cY:=q8w_ x.1 x.2.1 x.2.2.1 x.2.2.2.1
theorem qym_:CtOk Tryz.prog (fun _=>True) 281 ⟨qzj_,q6y_⟩:=ctn q1_ 6 fun J x=>by kernel_rfl
@[reducible] def qx6_:Sh:=⟨[.d cJ,.d (.int .i64),.d (.int .i64),.d (.int .i64)],[],[.pr YTT6 aC,.int .i64,.int .i64,.int .i64],[.d aC],[],0,aK⟩
def q74_ (t:zI4) (at' many step:Int):Option bL :=
 need (nei step 0) (need (ge (mul .i64 (quo .i64 (Sx.sub .i64 (add .i64 many step) 1) step) step) 0) (need (Ev.capOk (mul .i64 (quo .i64 (Sx.sub .i64 (add .i64 many step) 1) step) step) (mul .i64 (quo .i64 (Sx.sub .i64 (add .i64 many step) 1) step) step)) (need (small (zI (mul .i64 (quo .i64 (Sx.sub .i64 (add .i64 many step) 1) step) step))) (zC (cut t.2 at' (add .i64 at' many)) fun y=>need (le (zF (0 + zG (zE (α:=Int) (zI (mul .i64 (quo .i64 (Sx.sub .i64 (add .i64 many step) 1) step) step)) 0))) (zF (zG (zE (α:=Int) (zI (mul .i64 (quo .i64 (Sx.sub .i64 (add .i64 many step) 1) step) step)) 0)))) (some (List.take (zI (zF (zG (zE (α:=Int) (zI (mul .i64 (quo .i64 (Sx.sub .i64 (add .i64 many step) 1) step) step)) 0)))) y++List.drop (0 + zG (List.take (zI (zF (zG (zE (α:=Int) (zI (mul .i64 (quo .i64 (Sx.sub .i64 (add .i64 many step) 1) step) step)) 0)))) y)) (zE (zI (mul .i64 (quo .i64 (Sx.sub .i64 (add .i64 many step) 1) step) step)) 0),()))))))
def q5k_ (x:As [.pr YTT6 aC,.int .i64,.int .i64,.int .i64]):Option bL:=q74_ x.1 x.2.1 x.2.2.1 x.2.2.2.1
theorem qv6_:CtOk Tryz.prog (fun _=>True) 282 ⟨qx6_,q5k_⟩:=ctn q1_ 6 fun J x=>by kernel_rfl
@[reducible] def qmh_:Sh:=⟨[.d (.pr bK bG),.d (.int .i64),.d bC],[],[.pr bK bG,.int .i64,.pr (.int .u8) YTT7],[.d aP],[],0,aU⟩
def qap_ (v:dU×dU×(List YTT9×List Int)×List YTT9×List Int) (p:Int) (a:TaA5q1):Option cQ :=
 if eqi p 1=true then zC (q6y_ (v.1,cvt .i64 a.2.1,cvt .i64 a.2.2.1,8,())) fun y=>some ((a.1,0,y.1,[],0,0),()) else if eqi p 2=true then zC (q6y_ (v.2.1,cvt .i64 a.2.1,cvt .i64 a.2.2.1,8,())) fun y=>some ((a.1,0,y.1,[],0,0),()) else if eqi p 3=true then zC (q5k_ (v.2.2.1,cvt .i64 a.2.1,cvt .i64 a.2.2.1,1,())) fun y=>some ((a.1,0,[],y.1,0,0),()) else if eqi p 4=true then zC (q5k_ (v.2.2.2,cvt .i64 a.2.1,cvt .i64 a.2.2.1,1,())) fun y=>some ((a.1,0,[],y.1,0,0),()) else some ((a.1,0,[],[],0,0),())
def q5o_ (x:As [.pr bK bG,.int .i64,.pr (.int .u8) YTT7]):Option cQ:=qap_ x.1 x.2.1 x.2.2.1
theorem q10m_:CtOk Tryz.prog (fun _=>True) 260 ⟨qmh_,q5o_⟩:=ctn (q0_ qym_ (q0_ qv6_ q1_)) 6 fun J x=>by kernel_rfl
@[reducible] def cR:List Ty:=[.pr (.sl .bool) YTT15,.pr (.int .u8) YTT5]
@[reducible] def qi4_:Sh:=⟨[.d (.pr YTT6 bB),.d eJ,.d bC],[],[.pr YTT6 bB,.pr (.sl .bool) YTT15,.pr (.int .u8) YTT7],[.d eJ,.d aP],[],0,cR⟩
def qwg_:Env:=(cts [(45,(⟨q4x_,q2b_⟩:Ct)),(113,(⟨q69_,q2q_⟩:Ct)),(164,(⟨q75_,q7w_⟩:Ct)),(166,(⟨qvu_,qi_⟩:Ct)),(201,(⟨q6g_,q49_⟩:Ct)),(222,(⟨qxp_,qh9_⟩:Ct)),(224,(⟨qsc_,q8e_⟩:Ct)),(257,(⟨q145_,qtm_⟩:Ct)),(260,(⟨qmh_,q5o_⟩:Ct))])
def qwp_:List (Nat×Hint):=[(255,⟨[],[5,6,7,8,10,11]⟩)]
def q118_ (a:TaA5q1) (t7 t7_2 t7_3 t7_4:Int) (o o_2:List Bool) (o_3 o_4:List Int) (v v_2 v_3 v_4:List YTT9) (u:Int×Int):St:=⟨[(5,.pb 0 0),(6,.pb 1 0),(7,.pb 2 0),(8,.pb 3 0),(10,.pb 8 0),(11,.pb 9 0)],79,[],[(0,.box 27 [d8 a.1,d6 a.2.1,d6 a.2.2.1,d6 a.2.2.2.1,dW a.2.2.2.2.1,.d (.sl .bool) a.2.2.2.2.2]),(1,.box 196 [.k (zK zH 0 0),.k (zK zH 0 0),.k (zK zH 0 0),.k (zK zH 0 0)]),(2,.box 109 [d8 t7,d8 t7_2,.k (zK zH 0 0),.k (zK zH 0 0),d6 t7_3,d6 t7_4]),(3,.box 196 [.row 4,.row 5,.row 6,.row 7]),(4,.row .bool 4 o),(5,.row .bool 4 o_2),(6,.row (.int .u16) 25 o_3),(7,.row (.int .u16) 25 o_4),(8,.box 275 [.d YTT6 v,.row 4,.d YTT6 v_2,.row 5,.d YTT6 v_3,.row 6,.d YTT6 v_4,.row 7]),(9,.box 279 [dI u.1,dI u.2])],10,[],0⟩
def q18g_ (a:TaA5q1) (t7 t7_2 t7_3 t7_4:Int) (o o_2:List Bool) (o_3 o_4:List Int) (v v_2 v_3 v_4:List YTT9) (u:Int×Int):Option (As cR) :=
 zC (q49_ (a,())) fun y=>if y.2.1=true then some ((o,o_2,o_3,o_4),y.1,()) else zC (q5o_ (((v,o),(v_2,o_2),(v_3,o_3),v_4,o_4),u.1,a,())) fun y=>some ((o,o_2,o_3,o_4),y.1,())
def qse_ (j1:TaA5q1->Int->Int->Int->Int->List Bool->List Bool->List Int->List Int->List YTT9->List YTT9->List YTT9->List YTT9->Int×Int->Option (As cR)) (s:List YTT9×List YTT9×List YTT9×List YTT9) (m:List Bool×List Bool×List Int×List Int) (a:TaA5q1):Option (As cR) :=
 zC (q2q_ (m.1,())) fun y=>zC (q2q_ (m.2.1,())) fun y_1=>zC (q2b_ (m.2.2.1,())) fun y_2=>zC (q2b_ (m.2.2.2,())) fun y_3=>zC (q7w_ (s,a,())) fun y_4=>if nei y_4.1 0=true then zC (qi_ (a.1,y_4.1,())) fun y_5=>some ((y.1,y_1.1,y_2.1,y_3.1),y_5.1,()) else zC (qtm_ (s,m,())) fun y_5=>if (!y_5.1)=true then zC (qi_ (a.1,4,())) fun y_6=>some ((y.1,y_1.1,y_2.1,y_3.1),y_6.1,()) else zC (qh9_ (a.1,())) fun y_6=>zC (q8e_ (a,())) fun y_7=>if eqi y_6.1.2 1=true then need (ge y_7.1 0) (need (le y_7.1 (zF (zG y.1))) (need (le (zF (zG y.1)) (zF (zG y.1))) (need (le (y_7.1 + (zF (zG y.1) - y_7.1)) (zF (zG y.1))) (j1 a 0 0 0 0 (List.take (zI y_7.1) y.1++List.take (zI (zF (zG y.1) - y_7.1)) a.2.2.2.2.2++List.drop (zI y_7.1 + zG (List.take (zI (zF (zG y.1) - y_7.1)) a.2.2.2.2.2)) y.1) y_1.1 y_2.1 y_3.1 s.1 s.2.1 s.2.2.1 s.2.2.2 y_6.1)))) else if eqi y_6.1.2 3=true then need (ge y_7.1 0) (need (le y_7.1 (zF (zG y_2.1))) (need (le (zF (zG y_2.1)) (zF (zG y_2.1))) (need (le (y_7.1 + (zF (zG y_2.1) - y_7.1)) (zF (zG y_2.1))) (j1 a 0 0 0 0 y.1 y_1.1 (List.take (zI y_7.1) y_2.1++List.take (zI (zF (zG y_2.1) - y_7.1)) a.2.2.2.2.1++List.drop (zI y_7.1 + zG (List.take (zI (zF (zG y_2.1) - y_7.1)) a.2.2.2.2.1)) y_2.1) y_3.1 s.1 s.2.1 s.2.2.1 s.2.2.2 y_6.1)))) else j1 a 0 0 0 0 y.1 y_1.1 y_2.1 y_3.1 s.1 s.2.1 s.2.2.1 s.2.2.2 y_6.1
def qjm_:=q18g_
def q1j_ (x:As [.pr YTT6 bB,.pr (.sl .bool) YTT15,.pr (.int .u8) YTT7]):Option (As cR):=qse_ qjm_ x.1 x.2.1 x.2.2.1
abbrev pB7:=zp qwg_ qwp_ 227 qi4_
theorem q1mu_ {J a b c d e f g h i j k l m n}:pB7 J 255 [] (q118_ a b c d e f g h i j k l m n)=q18g_ a b c d e f g h i j k l m n:=by kernel_rfl
abbrev pB6:=zj qwg_ qwp_ 227 qi4_
theorem q1nl_:C (pB6 255 []) q118_=qjm_:=gNC (by decide) fun _=>q1mu_
theorem q1mn_:CtOk Tryz.prog (fun _=>True) 227 ⟨qi4_,q1j_⟩:=zcc (env:=qwg_) (d:=6) (hs:=Ev.get qwp_) (q0_ qfh_ (q0_ qiq_ (q0_ q11f_ (q0_ qin_ (q0_ qvi_ (q0_ q13l_ (q0_ q109_ (q0_ q1dd_ (q0_ q10m_ q1_))))))))) (fun J x=>qse_ (C (J 255 []) q118_) x.1 x.2.1 x.2.2.1) (fun _ _=>by kernel_rfl) fun _=>by rw [q1nl_] <;> rfl
@[reducible] def bU:List Ty:=[.pr (.int .u16) (.int .i64)]
@[reducible] def q16m_:Sh:=⟨[.d (.int .u16)],[],[.int .u16],[.d bP],[],0,bU⟩
def q1fl_ (owner:Int):Option (As bU) :=
 some ((owner,-1),())
def qcu_ (x:As [.int .u16]):Option (As bU):=q1fl_ x.1
theorem qw4_:CtOk Tryz.prog (fun _=>True) 229 ⟨q16m_,qcu_⟩:=ctn q1_ 6 fun J x=>by kernel_rfl
@[reducible] def q1fj_:Sh:=⟨[.d bP],[],bU,[.d (.bool)],[],0,[.bool]⟩
def qr2_ (l:Int×Int):Option aF :=
 if eqi l.1 0=true then some (eqi l.1 0 && (eqi l.2 0 && true),()) else if ge l.2 1=true then some (true,()) else zC (qcu_ (l.1,())) fun y=>some (eqi l.1 y.1.1 && (eqi l.2 y.1.2 && true),())
def q112_ (x:As bU):Option aF:=qr2_ x.1
theorem q1en_:CtOk Tryz.prog (fun _=>True) 240 ⟨q1fj_,q112_⟩:=ctn (q0_ qw4_ q1_) 6 fun J x=>by kernel_rfl
@[reducible] def qzk_:Sh:=⟨[.d bP],[],bU,[.d bP],[],0,bU⟩
def qlv_ (l:Int×Int):Option (As bU) :=
 zC (q112_ (l,())) fun y=>if (!y.1)=true then some ((0,0),()) else some (l,())
def q9s_ (x:As bU):Option (As bU):=qlv_ x.1
theorem qmg_:CtOk Tryz.prog (fun _=>True) 198 ⟨qzk_,q9s_⟩:=ctn (q0_ q1en_ q1_) 6 fun J x=>by kernel_rfl
@[reducible] def qgh_:Sh:=⟨[.d bP],[],bU,[.d (.bool)],[],0,[.bool]⟩
def qv4_ (l:Int×Int):Option aF :=
 zC (q9s_ (l,())) fun y=>some (eqi y.1.1 0 && (eqi y.1.2 0 && true),())
def q6e_ (x:As bU):Option aF:=qv4_ x.1
theorem qko_:CtOk Tryz.prog (fun _=>True) 150 ⟨qgh_,q6e_⟩:=ctn (q0_ qmg_ q1_) 6 fun J x=>by kernel_rfl
@[reducible] def q9q_:Sh:=⟨[.d (.pr (.int .u32) (.pr (.ar 8 .bool) (.ar 8 YTT8)))],[],[.pr (.int .u32) (.pr (.ar 8 .bool) (.ar 8 YTT8))],[.d (.int .i64)],[],0,[.int .i64]⟩
def qll_:Env:=(cts [(2000041,Ev.bxCt)])
def qkj_:List (Nat×Hint):=[(58,⟨[],[3,7,8]⟩)]
def qh7_ (n:Int) (t7:List Bool) (t8:Int):St:=⟨[(3,dI n),(7,.d (.ar 8 .bool) t7),(8,dI t8)],16,[],[],0,[],0⟩
def q85_ (self1:Int->List Bool->Int->Option cI) (n:Int) (t7:List Bool) (t8:Int):Option cI :=
 if lt t8 8=true then need (lt t8 8) (zC (at? t7 t8) fun y=>if y=true then self1 (add .i64 n 1) t7 (add .i64 t8 1) else self1 n t7 (add .i64 t8 1)) else some (n,())
@[reducible] def zI7:Type:=Int×List Bool×List (Int×List Int)
def q12l_ (j1:Int->List Bool->Int->Option cI) (s:zI7):Option cI :=
 j1 0 s.2.1 0
def qbl_ (n:Int) (t7:List Bool) (t8:Int):Option cI :=
 loopF (fun self s=>q85_ (fun n t7 t8=>self (n,t7,t8)) s.1 s.2.1 s.2.2) 18446744073709551616 (n,t7,t8)
def qjd_ (x:As [.pr (.int .u32) (.pr (.ar 8 .bool) (.ar 8 YTT8))]):Option cI:=q12l_ qbl_ x.1
abbrev pAl:=zp qll_ qkj_ 149 q9q_
theorem q1e4_ {J w1 a b c}:pAl J 58 [w1] (qh7_ a b c)=q85_ (C w1 qh7_) a b c:=by kernel_rfl
abbrev pAk:=zj qll_ qkj_ 149 q9q_
theorem q1dg_:C (pAk 58 []) qh7_=qbl_:=gLC (by decide) (by kernel_rfl) (fun _=>by unfold qbl_; rfl) fun _ _=>q1e4_.trans (by kernel_rfl)
theorem q1db_:CtOk Tryz.prog (fun _=>True) 149 ⟨q9q_,qjd_⟩:=zcc (env:=qll_) (d:=6) (hs:=Ev.get qkj_) (q0_ Ev.bx_ok q1_) (fun J x=>q12l_ (C (J 58 []) qh7_) x.1) (fun _ _=>by kernel_rfl) fun _=>by rw [q1dg_] <;> rfl
@[reducible] def bF:List Ty:=[.pr aC YTT1]
@[reducible] def q83_:Sh:=⟨[.d aG],[],bF,[.d aC],[],0,aK⟩
def qhr_:Env:=(cts [(2000043,Ev.bxCt),(149,(⟨q9q_,qjd_⟩:Ct)),(150,(⟨qgh_,q6e_⟩:Ct)),(269,(⟨q13j_,q7p_⟩:Ct))])
def qic_:List (Nat×Hint):=[(7,⟨[],[1,3]⟩)]
def qno_ (a:TaA5q0) (owner:Int):St:=⟨[(1,.pe aG a),(3,d6 owner)],39,[],[],0,[],0⟩
def qfj_ (a:TaA5q0) (owner:Int):Option bL :=
 zC (q7p_ (a.2.2.2.1,())) fun y=>zC (q7p_ (a.2.2.2.2.1,())) fun y_1=>zC (qjd_ (a.2.2.2.2.2.1,())) fun y_2=>some ([owner,cvt .u16 a.2.2.1,y.1,y.2.1,y_1.1,y_1.2.1,cvt .u16 y_2.1,0],())
def qfw_ (j1:TaA5q0->Int->Option bL) (a:TaA5q0):Option bL :=
 zC (q6e_ (a.2.1,())) fun y=>if y.1=true then j1 a 0 else j1 a a.2.1.1
def qfd_:=qfj_
def q6_ (x:As bF):Option bL:=qfw_ qfd_ x.1
abbrev pAf:=zp qhr_ qic_ 261 q83_
theorem q1aw_ {J a b}:pAf J 7 [] (qno_ a b)=qfj_ a b:=by kernel_rfl
abbrev pAe:=zj qhr_ qic_ 261 q83_
theorem q1bf_:C (pAe 7 []) qno_=qfd_:=gNC (by decide) fun _=>q1aw_
theorem q1bk_:CtOk Tryz.prog (fun _=>True) 261 ⟨q83_,q6_⟩:=zcc (env:=qhr_) (d:=6) (hs:=Ev.get qic_) (q0_ Ev.bx_ok (q0_ q1db_ (q0_ qko_ (q0_ qr1_ q1_)))) (fun J x=>qfw_ (C (J 7 []) qno_) x.1) (fun _ _=>by kernel_rfl) fun _=>by rw [q1bf_] <;> rfl
@[reducible] def qbs_:Sh:=⟨[.d (.pr (.int .u32) (.pr (.ar 8 .bool) (.ar 8 YTT8))),.d (.int .u16),.d (.int .i64)],[],[.pr (.int .u32) (.pr (.ar 8 .bool) (.ar 8 YTT8)),.int .u16,.int .i64],[.d aC],[],0,aK⟩
def qnw_:Env:=(cts [(2000041,Ev.bxCt),(283,(⟨qqw_,q8x_⟩:Ct)),(284,(⟨q11l_,qgb_⟩:Ct))])
def qow_:List (Nat×Hint):=[(6,⟨[],[1,2,3,16]⟩)]
def qvw_ (owner n:Int) (s:zI7) (t16:Bool):St:=⟨[(1,d6 owner),(2,dI n),(3,.pe (.pr (.int .u32) (.pr (.ar 8 .bool) (.ar 8 YTT8))) s),(16,dB t16)],27,[],[],0,[],0⟩
def qla_ (owner n:Int) (s:zI7) (t16:Bool):Option bL :=
 if t16=true then some ([0,0,0,0,0,0,0,0,0,0,0,0,0,0,0,0,0,0,0,0],()) else zC (at? s.2.2 n) fun y=>zC (qgb_ (owner,s.1,n,y,())) fun y=>some (y.1,())
def qjv_ (j1:Int->Int->Int×List Bool×List (Int×List Int)->Bool->Option bL) (s:zI7) (owner n:Int):Option bL :=
 zC (q8x_ (n,())) fun y=>if (!y.1)=true then j1 owner n s true else zC (at? s.2.1 n) fun y=>j1 owner n s !y
def qwa_:=qla_
def qpg_ (x:As [.pr (.int .u32) (.pr (.ar 8 .bool) (.ar 8 YTT8)),.int .u16,.int .i64]):Option bL:=qjv_ qwa_ x.1 x.2.1 x.2.2.1
abbrev pD5:=zp qnw_ qow_ 262 qbs_
theorem q1fw_ {J a b c d}:pD5 J 6 [] (qvw_ a b c d)=qla_ a b c d:=by kernel_rfl
abbrev pD4:=zj qnw_ qow_ 262 qbs_
theorem q1gj_:C (pD4 6 []) qvw_=qwa_:=gNC (by decide) fun _=>q1fw_
theorem q1fg_:CtOk Tryz.prog (fun _=>True) 262 ⟨qbs_,qpg_⟩:=zcc (env:=qnw_) (d:=6) (hs:=Ev.get qow_) (q0_ Ev.bx_ok (q0_ qos_ (q0_ qzq_ q1_))) (fun J x=>qjv_ (C (J 6 []) qvw_) x.1 x.2.1 x.2.2.1) (fun _ _=>by kernel_rfl) fun _=>by rw [q1gj_] <;> rfl
@[reducible] def q3_:Sh:=⟨[.d bA],[],cK,[.d eJ],[],0,cA⟩
def qsi_:Env:=(cts [(2000045,Ev.bxCt),(150,(⟨qgh_,q6e_⟩:Ct)),(199,(⟨q9b_,q37_⟩:Ct)),(261,(⟨q83_,q6_⟩:Ct)),(262,(⟨qbs_,qpg_⟩:Ct))])
def qsj_:List (Nat×Hint):=[(3,⟨[],[1,2,3]⟩),(15,⟨[],[1,2,3]⟩),(4090,⟨[],[1,2,3,57]⟩)]
def qz5_ (s:TaA5q2) (m:List Int) (o o_2:List Bool) (o_3:List Int):St:=⟨[(1,.pe bA s),(2,.pb 0 0),(3,.pb 1 0)],78,[],[(0,.box 196 [.k (zK zH 0 0),.k (zK zH 0 0),.k (zK zH 0 0),.k (zK zH 0 0)]),(1,.box 196 [.row 2,.row 3,.row 4,dW m]),(2,.row .bool 4 o),(3,.row .bool 4 o_2),(4,.row (.int .u16) 25 o_3)],5,[],0⟩
def qza_ (s:TaA5q2) (m:List Int) (o o_2:List Bool) (o_3:List Int):St:=⟨[(1,.pe bA s),(2,.pb 0 0),(3,.pb 1 0)],78,[],[(0,.box 196 [.k (zK zH 0 0),.k (zK zH 0 0),.k (zK zH 0 0),.k (zK zH 0 0)]),(1,.box 196 [.row 2,.row 3,.row 4,dW m]),(2,.row .bool 4 o),(3,.row .bool 4 o_2),(4,.row (.int .u16) 25 o_3)],5,[],0⟩
def qol_ (s:TaA5q2) (t57:Int) (m:List Int) (o o_2:List Bool) (o_3:List Int):St:=⟨[(1,.pe bA s),(2,.pb 0 0),(3,.pb 1 0),(57,dI t57)],78,[],[(0,.box 196 [.k (zK zH 0 0),.k (zK zH 0 0),.k (zK zH 0 0),.k (zK zH 0 0)]),(1,.box 196 [.row 2,.row 3,.row 4,dW m]),(2,.row .bool 4 o),(3,.row .bool 4 o_2),(4,.row (.int .u16) 25 o_3)],5,[],0⟩
def qo1_ (j2:TaA5q2->List Int->List Bool->List Bool->List Int->Option bX) (s:TaA5q2) (m:List Int) (o o_2:List Bool) (o_3:List Int):Option bX :=
 need (le (zF (0 + zG o)) (zF (zG o))) (if le s.2.2.1.2.2.1 2=true then zC (at? o_2 s.2.2.1.2.2.1) fun x=>zC (at? o_2 s.2.2.1.2.2.1) fun x=>j2 s m (List.take (zI (zF (zG o))) s.2.2.2++List.drop (0 + zG (List.take (zI (zF (zG o))) s.2.2.2)) o) (List.set o_2 (zI s.2.2.1.2.2.1) true) o_3 else j2 s m (List.take (zI (zF (zG o))) s.2.2.2++List.drop (0 + zG (List.take (zI (zF (zG o))) s.2.2.2)) o) o_2 o_3)
def qp7_ (j3:TaA5q2->Int->List Int->List Bool->List Bool->List Int->Option bX) (s:TaA5q2) (m:List Int) (o o_2:List Bool) (o_3:List Int):Option bX :=
 zC (q6e_ (s.2.2.1.2.1,())) fun y=>zC (at? o_2 4) fun x=>zC (at? o_2 4) fun x=>zC (q37_ (List.take 8 (List.drop 0 s.2.2.1.2.2.2.2.2.1.2.1),true,())) fun y_1=>zC (at? (List.set o_2 4 !y.1) 5) fun x=>zC (at? (List.set o_2 4 !y.1) 5) fun x=>need (le (zF (zG o_3)) (zF (zG o_3))) (need (le 64 (zF (zG o_3 + 0))) (need (le 64 (zF (zG o_3))) (need (le 256 (zF (zG (List.take 64 s.2.2.1.1++List.drop (0 + zG (List.take 64 s.2.2.1.1)) o_3)))) (need (le (zF (zG (List.take 64 s.2.2.1.1++List.drop (0 + zG (List.take 64 s.2.2.1.1)) o_3))) (zF (zG (List.take 64 s.2.2.1.1++List.drop (0 + zG (List.take 64 s.2.2.1.1)) o_3)))) (need (le (256 + (zF (zG (List.take 64 s.2.2.1.1++List.drop (0 + zG (List.take 64 s.2.2.1.1)) o_3)) - 256)) (zF (zG (List.take 64 s.2.2.1.1++List.drop (0 + zG (List.take 64 s.2.2.1.1)) o_3)))) (j3 s 0 m o (List.set (List.set o_2 4 !y.1) 5 y_1.1) (List.take 256 (List.take 64 s.2.2.1.1++List.drop (0 + zG (List.take 64 s.2.2.1.1)) o_3)++List.take (zI (zF (zG (List.take 64 s.2.2.1.1++List.drop (0 + zG (List.take 64 s.2.2.1.1)) o_3)) - 256)) m++List.drop (256 + zG (List.take (zI (zF (zG (List.take 64 s.2.2.1.1++List.drop (0 + zG (List.take 64 s.2.2.1.1)) o_3)) - 256)) m)) (List.take 64 s.2.2.1.1++List.drop (0 + zG (List.take 64 s.2.2.1.1)) o_3))))))))
def qoj_ (self3:TaA5q2->Int->List Int->List Bool->List Bool->List Int->Option bX) (s:TaA5q2) (t57:Int) (m:List Int) (o o_2:List Bool) (o_3:List Int):Option bX :=
 if lt t57 8=true then need (ge (add .i64 512 (mul .i64 t57 32)) 0) (need (le (add .i64 512 (mul .i64 t57 32)) (zF (zG o_3))) (need (le (zF (zG o_3)) (zF (zG o_3))) (zC (at? m 0) fun y=>zC (qpg_ (s.2.2.1.2.2.2.2.2.1,y,t57,())) fun y=>need (le (add .i64 512 (mul .i64 t57 32) + (zF (zG o_3) - add .i64 512 (mul .i64 t57 32))) (zF (zG o_3))) (self3 s (add .i64 t57 1) m o o_2 (List.take (zI (add .i64 512 (mul .i64 t57 32))) o_3++List.take (zI (zF (zG o_3) - add .i64 512 (mul .i64 t57 32))) y.1++List.drop (zI (add .i64 512 (mul .i64 t57 32)) + zG (List.take (zI (zF (zG o_3) - add .i64 512 (mul .i64 t57 32))) y.1)) o_3))))) else some ((o,o_2,o_3,m),())
def qpy_ (j1:TaA5q2->List Int->List Bool->List Bool->List Int->Option bX) (s:TaA5q2):Option bX :=
 amb (eqAs q3_.rs) [amb (eqAs q3_.rs) [amb (eqAs q3_.rs) [amb (eqAs q3_.rs) [zC (q6_ (s.2.2.1,())) fun y=>j1 s y.1 (zE 16 false) (zE 8 false) (zE 756 0),zC (q6_ (s.2.2.1,())) fun y=>j1 s y.1 (zE 16 false) (zE 8 false) (zE 756 0)],amb (eqAs q3_.rs) [zC (q6_ (s.2.2.1,())) fun y=>amb (eqAs q3_.rs) [j1 s y.1 (zE 16 false) (zE 8 false) (zE 756 0),j1 s y.1 (zE 16 false) (zE 8 false) (zE 756 0)],amb (eqAs q3_.rs) [zC (q6_ (s.2.2.1,())) fun y=>j1 s y.1 (zE 16 false) (zE 8 false) (zE 756 0),zC (q6_ (s.2.2.1,())) fun y=>j1 s y.1 (zE 16 false) (zE 8 false) (zE 756 0)]]],amb (eqAs q3_.rs) [amb (eqAs q3_.rs) [amb (eqAs q3_.rs) [zC (q6_ (s.2.2.1,())) fun y=>j1 s y.1 (zE 16 false) (zE 8 false) (zE 756 0),zC (q6_ (s.2.2.1,())) fun y=>j1 s y.1 (zE 16 false) (zE 8 false) (zE 756 0)],amb (eqAs q3_.rs) [zC (q6_ (s.2.2.1,())) fun y=>amb (eqAs q3_.rs) [j1 s y.1 (zE 16 false) (zE 8 false) (zE 756 0),j1 s y.1 (zE 16 false) (zE 8 false) (zE 756 0)],amb (eqAs q3_.rs) [zC (q6_ (s.2.2.1,())) fun y=>j1 s y.1 (zE 16 false) (zE 8 false) (zE 756 0),zC (q6_ (s.2.2.1,())) fun y=>j1 s y.1 (zE 16 false) (zE 8 false) (zE 756 0)]]],amb (eqAs q3_.rs) [zC (q6_ (s.2.2.1,())) fun y=>amb (eqAs q3_.rs) [amb (eqAs q3_.rs) [j1 s y.1 (zE 16 false) (zE 8 false) (zE 756 0),j1 s y.1 (zE 16 false) (zE 8 false) (zE 756 0)],amb (eqAs q3_.rs) [amb (eqAs q3_.rs) [j1 s y.1 (zE 16 false) (zE 8 false) (zE 756 0),j1 s y.1 (zE 16 false) (zE 8 false) (zE 756 0)],amb (eqAs q3_.rs) [j1 s y.1 (zE 16 false) (zE 8 false) (zE 756 0),j1 s y.1 (zE 16 false) (zE 8 false) (zE 756 0)]]],amb (eqAs q3_.rs) [amb (eqAs q3_.rs) [zC (q6_ (s.2.2.1,())) fun y=>j1 s y.1 (zE 16 false) (zE 8 false) (zE 756 0),zC (q6_ (s.2.2.1,())) fun y=>j1 s y.1 (zE 16 false) (zE 8 false) (zE 756 0)],amb (eqAs q3_.rs) [amb (eqAs q3_.rs) [zC (q6_ (s.2.2.1,())) fun y=>j1 s y.1 (zE 16 false) (zE 8 false) (zE 756 0),zC (q6_ (s.2.2.1,())) fun y=>j1 s y.1 (zE 16 false) (zE 8 false) (zE 756 0)],zC (q6_ (s.2.2.1,())) fun y=>amb (eqAs q3_.rs) [j1 s y.1 (zE 16 false) (zE 8 false) (zE 756 0),j1 s y.1 (zE 16 false) (zE 8 false) (zE 756 0)]]]]]],amb (eqAs q3_.rs) [amb (eqAs q3_.rs) [amb (eqAs q3_.rs) [amb (eqAs q3_.rs) [zC (q6_ (s.2.2.1,())) fun y=>j1 s y.1 (zE 16 false) (zE 8 false) (zE 756 0),zC (q6_ (s.2.2.1,())) fun y=>j1 s y.1 (zE 16 false) (zE 8 false) (zE 756 0)],amb (eqAs q3_.rs) [zC (q6_ (s.2.2.1,())) fun y=>amb (eqAs q3_.rs) [j1 s y.1 (zE 16 false) (zE 8 false) (zE 756 0),j1 s y.1 (zE 16 false) (zE 8 false) (zE 756 0)],amb (eqAs q3_.rs) [zC (q6_ (s.2.2.1,())) fun y=>j1 s y.1 (zE 16 false) (zE 8 false) (zE 756 0),zC (q6_ (s.2.2.1,())) fun y=>j1 s y.1 (zE 16 false) (zE 8 false) (zE 756 0)]]],amb (eqAs q3_.rs) [amb (eqAs q3_.rs) [amb (eqAs q3_.rs) [zC (q6_ (s.2.2.1,())) fun y=>j1 s y.1 (zE 16 false) (zE 8 false) (zE 756 0),zC (q6_ (s.2.2.1,())) fun y=>j1 s y.1 (zE 16 false) (zE 8 false) (zE 756 0)],amb (eqAs q3_.rs) [zC (q6_ (s.2.2.1,())) fun y=>amb (eqAs q3_.rs) [j1 s y.1 (zE 16 false) (zE 8 false) (zE 756 0),j1 s y.1 (zE 16 false) (zE 8 false) (zE 756 0)],amb (eqAs q3_.rs) [zC (q6_ (s.2.2.1,())) fun y=>j1 s y.1 (zE 16 false) (zE 8 false) (zE 756 0),zC (q6_ (s.2.2.1,())) fun y=>j1 s y.1 (zE 16 false) (zE 8 false) (zE 756 0)]]],amb (eqAs q3_.rs) [zC (q6_ (s.2.2.1,())) fun y=>amb (eqAs q3_.rs) [amb (eqAs q3_.rs) [j1 s y.1 (zE 16 false) (zE 8 false) (zE 756 0),j1 s y.1 (zE 16 false) (zE 8 false) (zE 756 0)],amb (eqAs q3_.rs) [amb (eqAs q3_.rs) [j1 s y.1 (zE 16 false) (zE 8 false) (zE 756 0),j1 s y.1 (zE 16 false) (zE 8 false) (zE 756 0)],amb (eqAs q3_.rs) [j1 s y.1 (zE 16 false) (zE 8 false) (zE 756 0),j1 s y.1 (zE 16 false) (zE 8 false) (zE 756 0)]]],amb (eqAs q3_.rs) [amb (eqAs q3_.rs) [zC (q6_ (s.2.2.1,())) fun y=>j1 s y.1 (zE 16 false) (zE 8 false) (zE 756 0),zC (q6_ (s.2.2.1,())) fun y=>j1 s y.1 (zE 16 false) (zE 8 false) (zE 756 0)],amb (eqAs q3_.rs) [amb (eqAs q3_.rs) [zC (q6_ (s.2.2.1,())) fun y=>j1 s y.1 (zE 16 false) (zE 8 false) (zE 756 0),zC (q6_ (s.2.2.1,())) fun y=>j1 s y.1 (zE 16 false) (zE 8 false) (zE 756 0)],zC (q6_ (s.2.2.1,())) fun y=>amb (eqAs q3_.rs) [j1 s y.1 (zE 16 false) (zE 8 false) (zE 756 0),j1 s y.1 (zE 16 false) (zE 8 false) (zE 756 0)]]]]]],amb (eqAs q3_.rs) [amb (eqAs q3_.rs) [amb (eqAs q3_.rs) [amb (eqAs q3_.rs) [zC (q6_ (s.2.2.1,())) fun y=>j1 s y.1 (zE 16 false) (zE 8 false) (zE 756 0),zC (q6_ (s.2.2.1,())) fun y=>j1 s y.1 (zE 16 false) (zE 8 false) (zE 756 0)],amb (eqAs q3_.rs) [zC (q6_ (s.2.2.1,())) fun y=>amb (eqAs q3_.rs) [j1 s y.1 (zE 16 false) (zE 8 false) (zE 756 0),j1 s y.1 (zE 16 false) (zE 8 false) (zE 756 0)],amb (eqAs q3_.rs) [zC (q6_ (s.2.2.1,())) fun y=>j1 s y.1 (zE 16 false) (zE 8 false) (zE 756 0),zC (q6_ (s.2.2.1,())) fun y=>j1 s y.1 (zE 16 false) (zE 8 false) (zE 756 0)]]],amb (eqAs q3_.rs) [amb (eqAs q3_.rs) [amb (eqAs q3_.rs) [zC (q6_ (s.2.2.1,())) fun y=>j1 s y.1 (zE 16 false) (zE 8 false) (zE 756 0),zC (q6_ (s.2.2.1,())) fun y=>j1 s y.1 (zE 16 false) (zE 8 false) (zE 756 0)],amb (eqAs q3_.rs) [zC (q6_ (s.2.2.1,())) fun y=>amb (eqAs q3_.rs) [j1 s y.1 (zE 16 false) (zE 8 false) (zE 756 0),j1 s y.1 (zE 16 false) (zE 8 false) (zE 756 0)],amb (eqAs q3_.rs) [zC (q6_ (s.2.2.1,())) fun y=>j1 s y.1 (zE 16 false) (zE 8 false) (zE 756 0),zC (q6_ (s.2.2.1,())) fun y=>j1 s y.1 (zE 16 false) (zE 8 false) (zE 756 0)]]],amb (eqAs q3_.rs) [zC (q6_ (s.2.2.1,())) fun y=>amb (eqAs q3_.rs) [amb (eqAs q3_.rs) [j1 s y.1 (zE 16 false) (zE 8 false) (zE 756 0),j1 s y.1 (zE 16 false) (zE 8 false) (zE 756 0)],amb (eqAs q3_.rs) [amb (eqAs q3_.rs) [j1 s y.1 (zE 16 false) (zE 8 false) (zE 756 0),j1 s y.1 (zE 16 false) (zE 8 false) (zE 756 0)],amb (eqAs q3_.rs) [j1 s y.1 (zE 16 false) (zE 8 false) (zE 756 0),j1 s y.1 (zE 16 false) (zE 8 false) (zE 756 0)]]],amb (eqAs q3_.rs) [amb (eqAs q3_.rs) [zC (q6_ (s.2.2.1,())) fun y=>j1 s y.1 (zE 16 false) (zE 8 false) (zE 756 0),zC (q6_ (s.2.2.1,())) fun y=>j1 s y.1 (zE 16 false) (zE 8 false) (zE 756 0)],amb (eqAs q3_.rs) [amb (eqAs q3_.rs) [zC (q6_ (s.2.2.1,())) fun y=>j1 s y.1 (zE 16 false) (zE 8 false) (zE 756 0),zC (q6_ (s.2.2.1,())) fun y=>j1 s y.1 (zE 16 false) (zE 8 false) (zE 756 0)],zC (q6_ (s.2.2.1,())) fun y=>amb (eqAs q3_.rs) [j1 s y.1 (zE 16 false) (zE 8 false) (zE 756 0),j1 s y.1 (zE 16 false) (zE 8 false) (zE 756 0)]]]]]],amb (eqAs q3_.rs) [zC (q6_ (s.2.2.1,())) fun y=>amb (eqAs q3_.rs) [amb (eqAs q3_.rs) [amb (eqAs q3_.rs) [j1 s y.1 (zE 16 false) (zE 8 false) (zE 756 0),j1 s y.1 (zE 16 false) (zE 8 false) (zE 756 0)],amb (eqAs q3_.rs) [amb (eqAs q3_.rs) [j1 s y.1 (zE 16 false) (zE 8 false) (zE 756 0),j1 s y.1 (zE 16 false) (zE 8 false) (zE 756 0)],amb (eqAs q3_.rs) [j1 s y.1 (zE 16 false) (zE 8 false) (zE 756 0),j1 s y.1 (zE 16 false) (zE 8 false) (zE 756 0)]]],amb (eqAs q3_.rs) [amb (eqAs q3_.rs) [amb (eqAs q3_.rs) [j1 s y.1 (zE 16 false) (zE 8 false) (zE 756 0),j1 s y.1 (zE 16 false) (zE 8 false) (zE 756 0)],amb (eqAs q3_.rs) [amb (eqAs q3_.rs) [j1 s y.1 (zE 16 false) (zE 8 false) (zE 756 0),j1 s y.1 (zE 16 false) (zE 8 false) (zE 756 0)],amb (eqAs q3_.rs) [j1 s y.1 (zE 16 false) (zE 8 false) (zE 756 0),j1 s y.1 (zE 16 false) (zE 8 false) (zE 756 0)]]],amb (eqAs q3_.rs) [amb (eqAs q3_.rs) [amb (eqAs q3_.rs) [j1 s y.1 (zE 16 false) (zE 8 false) (zE 756 0),j1 s y.1 (zE 16 false) (zE 8 false) (zE 756 0)],amb (eqAs q3_.rs) [amb (eqAs q3_.rs) [j1 s y.1 (zE 16 false) (zE 8 false) (zE 756 0),j1 s y.1 (zE 16 false) (zE 8 false) (zE 756 0)],amb (eqAs q3_.rs) [j1 s y.1 (zE 16 false) (zE 8 false) (zE 756 0),j1 s y.1 (zE 16 false) (zE 8 false) (zE 756 0)]]],amb (eqAs q3_.rs) [amb (eqAs q3_.rs) [j1 s y.1 (zE 16 false) (zE 8 false) (zE 756 0),j1 s y.1 (zE 16 false) (zE 8 false) (zE 756 0)],amb (eqAs q3_.rs) [amb (eqAs q3_.rs) [j1 s y.1 (zE 16 false) (zE 8 false) (zE 756 0),j1 s y.1 (zE 16 false) (zE 8 false) (zE 756 0)],amb (eqAs q3_.rs) [j1 s y.1 (zE 16 false) (zE 8 false) (zE 756 0),j1 s y.1 (zE 16 false) (zE 8 false) (zE 756 0)]]]]]],amb (eqAs q3_.rs) [amb (eqAs q3_.rs) [amb (eqAs q3_.rs) [zC (q6_ (s.2.2.1,())) fun y=>j1 s y.1 (zE 16 false) (zE 8 false) (zE 756 0),zC (q6_ (s.2.2.1,())) fun y=>j1 s y.1 (zE 16 false) (zE 8 false) (zE 756 0)],amb (eqAs q3_.rs) [amb (eqAs q3_.rs) [zC (q6_ (s.2.2.1,())) fun y=>j1 s y.1 (zE 16 false) (zE 8 false) (zE 756 0),zC (q6_ (s.2.2.1,())) fun y=>j1 s y.1 (zE 16 false) (zE 8 false) (zE 756 0)],zC (q6_ (s.2.2.1,())) fun y=>amb (eqAs q3_.rs) [j1 s y.1 (zE 16 false) (zE 8 false) (zE 756 0),j1 s y.1 (zE 16 false) (zE 8 false) (zE 756 0)]]],amb (eqAs q3_.rs) [amb (eqAs q3_.rs) [amb (eqAs q3_.rs) [zC (q6_ (s.2.2.1,())) fun y=>j1 s y.1 (zE 16 false) (zE 8 false) (zE 756 0),zC (q6_ (s.2.2.1,())) fun y=>j1 s y.1 (zE 16 false) (zE 8 false) (zE 756 0)],amb (eqAs q3_.rs) [amb (eqAs q3_.rs) [zC (q6_ (s.2.2.1,())) fun y=>j1 s y.1 (zE 16 false) (zE 8 false) (zE 756 0),zC (q6_ (s.2.2.1,())) fun y=>j1 s y.1 (zE 16 false) (zE 8 false) (zE 756 0)],zC (q6_ (s.2.2.1,())) fun y=>amb (eqAs q3_.rs) [j1 s y.1 (zE 16 false) (zE 8 false) (zE 756 0),j1 s y.1 (zE 16 false) (zE 8 false) (zE 756 0)]]],amb (eqAs q3_.rs) [amb (eqAs q3_.rs) [amb (eqAs q3_.rs) [zC (q6_ (s.2.2.1,())) fun y=>j1 s y.1 (zE 16 false) (zE 8 false) (zE 756 0),zC (q6_ (s.2.2.1,())) fun y=>j1 s y.1 (zE 16 false) (zE 8 false) (zE 756 0)],amb (eqAs q3_.rs) [amb (eqAs q3_.rs) [zC (q6_ (s.2.2.1,())) fun y=>j1 s y.1 (zE 16 false) (zE 8 false) (zE 756 0),zC (q6_ (s.2.2.1,())) fun y=>j1 s y.1 (zE 16 false) (zE 8 false) (zE 756 0)],zC (q6_ (s.2.2.1,())) fun y=>amb (eqAs q3_.rs) [j1 s y.1 (zE 16 false) (zE 8 false) (zE 756 0),j1 s y.1 (zE 16 false) (zE 8 false) (zE 756 0)]]],zC (q6_ (s.2.2.1,())) fun y=>amb (eqAs q3_.rs) [amb (eqAs q3_.rs) [j1 s y.1 (zE 16 false) (zE 8 false) (zE 756 0),j1 s y.1 (zE 16 false) (zE 8 false) (zE 756 0)],amb (eqAs q3_.rs) [amb (eqAs q3_.rs) [j1 s y.1 (zE 16 false) (zE 8 false) (zE 756 0),j1 s y.1 (zE 16 false) (zE 8 false) (zE 756 0)],amb (eqAs q3_.rs) [j1 s y.1 (zE 16 false) (zE 8 false) (zE 756 0),j1 s y.1 (zE 16 false) (zE 8 false) (zE 756 0)]]]]]]]]]]
def qcl_ (s:TaA5q2) (t57:Int) (m:List Int) (o o_2:List Bool) (o_3:List Int):Option bX :=
 loopF (fun self s=>qoj_ (fun s t57 m o o_2 o_3=>self (s,t57,m,o,o_2,o_3)) s.1 s.2.1 s.2.2.1 s.2.2.2.1 s.2.2.2.2.1 s.2.2.2.2.2) 18446744073709551616 (s,t57,m,o,o_2,o_3)
def qxy_:=qp7_ (qcl_)
def qxz_:=qo1_ (qxy_)
def q3g_ (x:As cK):Option bX:=qpy_ qxz_ x.1
abbrev pDj:=zp qsi_ qsj_ 228 q3_
theorem q1ik_ {J w3 a b c d e f}:pDj J 4090 [w3] (qol_ a b c d e f)=qoj_ (C w3 qol_) a b c d e f:=by kernel_rfl
theorem q1ig_ {J a b c d e}:pDj J 15 [] (qza_ a b c d e)=qp7_ (C (J 4090 []) qol_) a b c d e:=by kernel_rfl
theorem q1iz_ {J a b c d e}:pDj J 3 [] (qz5_ a b c d e)=qo1_ (C (J 15 []) qza_) a b c d e:=by kernel_rfl
abbrev pDi:=zj qsi_ qsj_ 228 q3_
theorem q1kr_:C (pDi 4090 []) qol_=qcl_:=gLC (by decide) (by kernel_rfl) (fun _=>by unfold qcl_; rfl) fun _ _=>q1ik_.trans (by kernel_rfl)
theorem q1kf_:C (pDi 15 []) qza_=qxy_:=gNC (by decide) fun _=>q1ig_.trans (by rw [q1kr_] <;> kernel_rfl)
theorem q1kb_:C (pDi 3 []) qz5_=qxz_:=gNC (by decide) fun _=>q1iz_.trans (by rw [q1kf_] <;> kernel_rfl)
theorem q1ki_:CtOk Tryz.prog (fun _=>True) 228 ⟨q3_,q3g_⟩:=zcc (env:=qsi_) (d:=6) (hs:=Ev.get qsj_) (q0_ Ev.bx_ok (q0_ qko_ (q0_ qgp_ (q0_ q1bk_ (q0_ q1fg_ q1_))))) (fun J x=>qpy_ (C (J 3 []) qz5_) x.1) (fun _ _=>by kernel_rfl) fun _=>by rw [q1kb_] <;> rfl
@[reducible] def qh_:Sh:=⟨[.d bA,.d bC],[],[.pr (.int .u8) aA,.pr (.int .u8) YTT7],[.d aP],[],0,aU⟩
def qh6_:Env:=(cts [(2000045,Ev.bxCt),(165,(⟨q71_,q3m_⟩:Ct)),(201,(⟨q6g_,q49_⟩:Ct)),(227,(⟨qi4_,q1j_⟩:Ct)),(228,(⟨q3_,q3g_⟩:Ct))])
def qh3_:List (Nat×Hint):=[(15,⟨[],[2,3,4,7]⟩),(31,⟨[],[3,4,9]⟩)]
def qpw_ (s:TaA5q2) (a:TaA5q1) (t4 t4_2 t4_3 t4_4 read read_2 read_3 read_4:Int):St:=⟨[(2,.pe bA s),(3,.pb 0 0),(4,.pb 1 0),(7,.pb 2 0)],40,[],[(0,.box 27 [d8 a.1,d6 a.2.1,d6 a.2.2.1,d6 a.2.2.2.1,dW a.2.2.2.2.1,.d (.sl .bool) a.2.2.2.2.2]),(1,.box 109 [d8 t4,d8 t4_2,.k (zK zH 0 0),.k (zK zH 0 0),d6 t4_3,d6 t4_4]),(2,.box 27 [d8 read,d6 read_2,d6 read_3,d6 read_4,.k (zK zH 0 0),.k (zK zH 0 0)])],3,[],0⟩
def qmz_ (a:TaA5q1) (t4 t4_2 t4_3 t4_4:Int) (r:Int×Int×List Bool×List Int×Int×Int):St:=⟨[(3,.pb 0 0),(4,.pb 1 0),(9,.pb 2 0)],40,[],[(0,.box 27 [d8 a.1,d6 a.2.1,d6 a.2.2.1,d6 a.2.2.2.1,dW a.2.2.2.2.1,.d (.sl .bool) a.2.2.2.2.2]),(1,.box 109 [d8 t4,d8 t4_2,.k (zK zH 0 0),.k (zK zH 0 0),d6 t4_3,d6 t4_4]),(2,.box 109 [d8 r.1,d8 r.2.1,.d (.sl .bool) r.2.2.1,dW r.2.2.2.1,d6 r.2.2.2.2.1,d6 r.2.2.2.2.2])],3,[],0⟩
def qf8_ (j2:TaA5q1->Int->Int->Int->Int->Int×Int×List Bool×List Int×Int×Int->Option cQ) (s:TaA5q2) (a:TaA5q1) (t4 t4_2 t4_3 t4_4 read read_2 read_3 read_4:Int):Option cQ :=
 amb (eqAs qh_.rs) [zC (q3m_ ()) fun y=>amb (eqAs qh_.rs) [zC (q3g_ (s,())) fun y_1=>amb (eqAs qh_.rs) [zC (q1j_ (y.1,y_1.1,(read,read_2,read_3,read_4,[],[]),())) fun y=>amb (eqAs qh_.rs) [j2 a t4 t4_2 t4_3 t4_4 y.2.1,j2 a t4 t4_2 t4_3 t4_4 y.2.1],amb (eqAs qh_.rs) [amb (eqAs qh_.rs) [zC (q1j_ (y.1,y_1.1,(read,read_2,read_3,read_4,[],[]),())) fun y=>j2 a t4 t4_2 t4_3 t4_4 y.2.1,zC (q1j_ (y.1,y_1.1,(read,read_2,read_3,read_4,[],[]),())) fun y=>j2 a t4 t4_2 t4_3 t4_4 y.2.1],amb (eqAs qh_.rs) [zC (q1j_ (y.1,y_1.1,(read,read_2,read_3,read_4,[],[]),())) fun y=>j2 a t4 t4_2 t4_3 t4_4 y.2.1,zC (q1j_ (y.1,y_1.1,(read,read_2,read_3,read_4,[],[]),())) fun y=>j2 a t4 t4_2 t4_3 t4_4 y.2.1]]],amb (eqAs qh_.rs) [amb (eqAs qh_.rs) [zC (q3g_ (s,())) fun y_1=>amb (eqAs qh_.rs) [zC (q1j_ (y.1,y_1.1,(read,read_2,read_3,read_4,[],[]),())) fun y=>j2 a t4 t4_2 t4_3 t4_4 y.2.1,zC (q1j_ (y.1,y_1.1,(read,read_2,read_3,read_4,[],[]),())) fun y=>j2 a t4 t4_2 t4_3 t4_4 y.2.1],zC (q3g_ (s,())) fun y_1=>zC (q1j_ (y.1,y_1.1,(read,read_2,read_3,read_4,[],[]),())) fun y=>j2 a t4 t4_2 t4_3 t4_4 y.2.1],amb (eqAs qh_.rs) [zC (q3g_ (s,())) fun y_1=>amb (eqAs qh_.rs) [zC (q1j_ (y.1,y_1.1,(read,read_2,read_3,read_4,[],[]),())) fun y=>j2 a t4 t4_2 t4_3 t4_4 y.2.1,zC (q1j_ (y.1,y_1.1,(read,read_2,read_3,read_4,[],[]),())) fun y=>j2 a t4 t4_2 t4_3 t4_4 y.2.1],zC (q3g_ (s,())) fun y_1=>zC (q1j_ (y.1,y_1.1,(read,read_2,read_3,read_4,[],[]),())) fun y=>j2 a t4 t4_2 t4_3 t4_4 y.2.1]]],amb (eqAs qh_.rs) [amb (eqAs qh_.rs) [zC (q3m_ ()) fun y=>amb (eqAs qh_.rs) [zC (q3g_ (s,())) fun y_1=>amb (eqAs qh_.rs) [zC (q1j_ (y.1,y_1.1,(read,read_2,read_3,read_4,[],[]),())) fun y=>j2 a t4 t4_2 t4_3 t4_4 y.2.1,zC (q1j_ (y.1,y_1.1,(read,read_2,read_3,read_4,[],[]),())) fun y=>j2 a t4 t4_2 t4_3 t4_4 y.2.1],zC (q3g_ (s,())) fun y_1=>zC (q1j_ (y.1,y_1.1,(read,read_2,read_3,read_4,[],[]),())) fun y=>j2 a t4 t4_2 t4_3 t4_4 y.2.1],zC (q3m_ ()) fun y=>zC (q3g_ (s,())) fun y_1=>zC (q1j_ (y.1,y_1.1,(read,read_2,read_3,read_4,[],[]),())) fun y=>j2 a t4 t4_2 t4_3 t4_4 y.2.1],amb (eqAs qh_.rs) [zC (q3m_ ()) fun y=>amb (eqAs qh_.rs) [zC (q3g_ (s,())) fun y_1=>amb (eqAs qh_.rs) [zC (q1j_ (y.1,y_1.1,(read,read_2,read_3,read_4,[],[]),())) fun y=>j2 a t4 t4_2 t4_3 t4_4 y.2.1,zC (q1j_ (y.1,y_1.1,(read,read_2,read_3,read_4,[],[]),())) fun y=>j2 a t4 t4_2 t4_3 t4_4 y.2.1],zC (q3g_ (s,())) fun y_1=>zC (q1j_ (y.1,y_1.1,(read,read_2,read_3,read_4,[],[]),())) fun y=>j2 a t4 t4_2 t4_3 t4_4 y.2.1],zC (q3m_ ()) fun y=>zC (q3g_ (s,())) fun y_1=>zC (q1j_ (y.1,y_1.1,(read,read_2,read_3,read_4,[],[]),())) fun y=>j2 a t4 t4_2 t4_3 t4_4 y.2.1]]]
def qzu_ (a:TaA5q1) (t4 t4_2 t4_3 t4_4:Int) (r:Int×Int×List Bool×List Int×Int×Int):Option cQ :=
 some ((a.1,r.2),())
def qff_ (j1:TaA5q2->TaA5q1->Int->Int->Int->Int->Int->Int->Int->Int->Option cQ) (s:TaA5q2) (a:TaA5q1):Option cQ :=
 zC (q49_ (a,())) fun y=>if y.2.1=true then some (y.1,()) else if eqi a.1 23=true then j1 s a 0 0 0 0 3 a.2.1 a.2.2.1 0 else j1 s a 0 0 0 0 a.1 a.2.1 a.2.2.1 0
def qom_:=qzu_
def qg1_:=qf8_ (qom_)
def qq_ (x:As [.pr (.int .u8) aA,.pr (.int .u8) YTT7]):Option cQ:=qff_ qg1_ x.1 x.2.1
abbrev pDp:=zp qh6_ qh3_ 168 qh_
theorem q1bh_ {J a b c d e f}:pDp J 31 [] (qmz_ a b c d e f)=qzu_ a b c d e f:=by kernel_rfl
theorem q1be_ {J a b c d e f g h i j}:pDp J 15 [] (qpw_ a b c d e f g h i j)=qf8_ (C (J 31 []) qmz_) a b c d e f g h i j:=by kernel_rfl
abbrev pDo:=zj qh6_ qh3_ 168 qh_
theorem q1b0_:C (pDo 31 []) qmz_=qom_:=gNC (by decide) fun _=>q1bh_
theorem q1as_:C (pDo 15 []) qpw_=qg1_:=gNC (by decide) fun _=>q1be_.trans (by rw [q1b0_] <;> kernel_rfl)
theorem q1b3_:CtOk Tryz.prog (fun _=>True) 168 ⟨qh_,qq_⟩:=zcc (env:=qh6_) (d:=6) (hs:=Ev.get qh3_) (q0_ Ev.bx_ok (q0_ q12s_ (q0_ qvi_ (q0_ q1mn_ (q0_ q1ki_ q1_))))) (fun J x=>qff_ (C (J 15 []) qpw_) x.1 x.2.1) (fun _ _=>by kernel_rfl) fun _=>by rw [q1as_] <;> rfl
@[reducible] def dD:List Ty:=[.pr (.int .u16) YTT11,.int .i64]
@[reducible] def qc4_:Sh:=⟨[.d aC],[],aK,[.d cE,.d (.int .i64)],[],0,dD⟩
def qq6_:Env:=(cts [(270,(⟨qq5_,q33_⟩:Ct))])
def qn6_:List (Nat×Hint):=[(6,⟨[],[0,2,18]⟩)]
@[reducible] def zI8:Type:=Int×Int×Int×Int×Int
def qw7_ (w:List Int) (t18:Bool) (t2:zI8):St:=⟨[(0,dW w),(2,.pb 0 0),(18,dB t18)],45,[],[(0,.box 104 [d6 t2.1,d8 t2.2.1,d2 t2.2.2.1,d6 t2.2.2.2.1,d2 t2.2.2.2.2])],1,[],0⟩
def qkp_ (w:List Int) (t18:Bool) (t2:zI8):Option (As dD) :=
 if t18=true then some ((0,0,0,0,0),2,()) else zC (at? w 0) fun y=>zC (at? w 1) fun y_1=>zC (at? w 2) fun y_2=>zC (at? w 3) fun y_3=>zC (at? w 4) fun y_4=>zC (at? w 5) fun y_5=>zC (at? w 6) fun y_6=>zC (q33_ (y_2,y_3,())) fun y_7=>zC (q33_ (y_5,y_6,())) fun y_8=>some ((y,cvt .u8 y_1,y_7.1,y_4,y_8.1),0,())
def ql5_ (j1:List Int->Bool->Int×Int×Int×Int×Int->Option (As dD)) (w:List Int):Option (As dD) :=
 if nei (zF (zG w)) 8=true then j1 w true (0,0,0,0,0) else zC (at? w 7) fun y=>if nei y 0=true then j1 w true (0,0,0,0,0) else zC (at? w 1) fun y=>j1 w (ge y 256) (0,0,0,0,0)
def qky_:=qkp_
def qdg_ (x:As aK):Option (As dD):=ql5_ qky_ x.1
abbrev pAd:=zp qq6_ qn6_ 252 qc4_
theorem q1fo_ {J a b c}:pAd J 6 [] (qw7_ a b c)=qkp_ a b c:=by kernel_rfl
abbrev pAc:=zj qq6_ qn6_ 252 qc4_
theorem q1g1_:C (pAc 6 []) qw7_=qky_:=gNC (by decide) fun _=>q1fo_
theorem q1gu_:CtOk Tryz.prog (fun _=>True) 252 ⟨qc4_,qdg_⟩:=zcc (env:=qq6_) (d:=6) (hs:=Ev.get qn6_) (q0_ qvg_ q1_) (fun J x=>ql5_ (C (J 6 []) qw7_) x.1) (fun _ _=>by kernel_rfl) fun _=>by rw [q1g1_] <;> rfl
@[reducible] def qej_:Sh:=⟨[.d aG],[],bF,[.d aG],[],0,bF⟩
def qsz_:Env:=(cts [(45,(⟨q2u_,qc_⟩:Ct))])
def qsu_:List (Nat×Hint):=[(58,⟨[],[1,2,12,13]⟩),(7475,⟨[.frb 5],[1,2,3,5,12,13]⟩)]
def qc1_ (a t2:Int) (t12:List Bool) (t13:Int) (a_2 t2_2:List YTT4):St:=⟨[(1,.prw 0 a 32 0),(2,.prw 1 t2 32 0),(12,.d (.ar 8 .bool) t12),(13,dI t13)],41,[],[(0,.row aG 43 a_2),(1,.row aG 43 t2_2)],2,[],0⟩
def qyc_ (a t2 i:Int) (t12:List Bool) (t13:Int) (a_2 t2_2:List YTT4) (x:Int×List Int):St:=⟨[(1,.prw 0 a 32 0),(2,.prw 1 t2 32 0),(3,dI i),(5,.pb 2 0),(12,.d (.ar 8 .bool) t12),(13,dI t13)],41,[],[(0,.row aG 43 a_2),(1,.row aG 43 t2_2),(2,.box 38 [dI x.1,dW x.2])],3,[],0⟩
@[reducible] def cT:Type:=As bF
@[reducible] def zI9:Type:=Int->Int->List Bool->Int->List YTT4->List YTT4->Option cT
def qbm_ (j2:Int->Int->Int->List Bool->Int->List YTT4->List YTT4->Int×List Int->Option cT) (self1:zI9) (a t2:Int) (t12:List Bool) (t13:Int) (a_2 t2_2:List YTT4):Option cT :=
 if lt t13 8=true then need (lt t13 8) (zC (at? t12 t13) fun y=>if y=true then need (ge t13 0) (need (lt t13 8) (zC (at? a_2 a) fun y=>zC (at? y.2.2.2.2.2.1.2.2 t13) fun z=>need (ge t13 0) (need (lt t13 8) (zC (at? a_2 a) fun y=>zC (at? y.2.2.2.2.2.1.2.2 t13) fun z_1=>zC (qc_ (z_1.2,())) fun y=>j2 a t2 t13 t12 t13 a_2 t2_2 (z.1,y.1))))) else j2 a t2 t13 t12 t13 a_2 t2_2 (0,[])) else zC (at? a_2 a) fun y=>zC (at? t2_2 t2) fun x=>zC (at? (List.set t2_2 (zI t2) y) t2) fun y_1=>zC (at? (List.set t2_2 (zI t2) y) t2) fun y=>some (y,())
def qok_ (self1:zI9) (a t2 i:Int) (t12:List Bool) (t13:Int) (a_2 t2_2:List YTT4) (x:Int×List Int):Option cT :=
 need (ge i 0) (need (lt i 8) (zC (at? a_2 a) fun x_1=>zC (at? x_1.2.2.2.2.2.1.2.2 i) fun z=>self1 a t2 t12 (add .i64 t13 1) (List.set a_2 (zI a) (x_1.1,x_1.2.1,x_1.2.2.1,x_1.2.2.2.1,x_1.2.2.2.2.1,(x_1.2.2.2.2.2.1.1,x_1.2.2.2.2.2.1.2.1,List.set x_1.2.2.2.2.2.1.2.2 (zI i) x),x_1.2.2.2.2.2.2)) t2_2))
def qpa_ (j1:zI9) (a:TaA5q0):Option cT :=
 zC (qc_ (a.1,())) fun y=>j1 0 0 a.2.2.2.2.2.1.2.1 0 [(y.1,a.2)] [zAg0]
def qge_ (u1:zI9):=qok_ u1
def qce_ (a t2:Int) (t12:List Bool) (t13:Int) (a_2 t2_2:List YTT4):Option cT :=
 loopF (fun self s=>qbm_ (qge_ (fun a t2 t12 t13 a_2 t2_2=>self (a,t2,t12,t13,a_2,t2_2))) (fun a t2 t12 t13 a_2 t2_2=>self (a,t2,t12,t13,a_2,t2_2)) s.1 s.2.1 s.2.2.1 s.2.2.2.1 s.2.2.2.2.1 s.2.2.2.2.2) 18446744073709551616 (a,t2,t12,t13,a_2,t2_2)
def qmm_ (x:As bF):Option cT:=qpa_ qce_ x.1
abbrev pAj:=zp qsz_ qsu_ 171 qej_
theorem q1l4_ {J w1 a b c d e f g h}:pAj J 7475 [w1] (qyc_ a b c d e f g h)=qok_ (C w1 qc1_) a b c d e f g h:=by kernel_rfl
theorem q1lk_ {J w1 a b c d e f}:pAj J 58 [w1] (qc1_ a b c d e f)=qbm_ (C (J 7475 [w1]) qyc_) (C w1 qc1_) a b c d e f:=by kernel_rfl
abbrev pAi:=zj qsz_ qsu_ 171 qej_
theorem q1jp_ {w1}:C (pAi 7475 [w1]) qyc_=qge_ (C w1 qc1_):=gNC (by decide) fun _=>q1l4_
theorem q1ih_:C (pAi 58 []) qc1_=qce_:=gLC (by decide) (by kernel_rfl) (fun _=>by unfold qce_; rfl) fun _ _=>q1lk_.trans (by rw [q1jp_] <;> kernel_rfl)
theorem q15s_:CtOk Tryz.prog (fun _=>True) 171 ⟨qej_,qmm_⟩:=zcc (env:=qsz_) (d:=6) (hs:=Ev.get qsu_) (q0_ q1g_ q1_) (fun J x=>qpa_ (C (J 58 []) qc1_) x.1) (fun _ _=>by kernel_rfl) fun _=>by rw [q1ih_] <;> rfl
@[reducible] def eS:List Ty:=[.pr aC YTT1,.int .u16]
@[reducible] def q11t_:Sh:=⟨[.d aG,.d (.int .u16)],[],eS,[.d (.bool)],[],0,[.bool]⟩
def q1d6_:Env:=(cts [(2000043,Ev.bxCt),(150,(⟨qgh_,q6e_⟩:Ct))])
def qn3_ (a:TaA5q0) (owner:Int):Option aF :=
 zC (q6e_ (a.2.1,())) fun y=>if (!y.1)=true then some (nei a.2.1.1 owner,()) else some (false,())
def q2s_ (x:As eS):Option aF:=qn3_ x.1 x.2.1
theorem qzl_:CtOk Tryz.prog (fun _=>True) 275 ⟨q11t_,q2s_⟩:=ctn (env:=q1d6_) (q0_ Ev.bx_ok (q0_ qko_ q1_)) 6 fun J x=>by kernel_rfl
@[reducible] def aW:List Ty:=[.pr aC YTT1,.pr (.int .u16) YTT11]
@[reducible] def q1at_:Sh:=⟨[.d aG,.d cE],[],aW,[.d (.bool)],[],0,[.bool]⟩
def q1av_:Env:=(cts [(2000043,Ev.bxCt)])
def qm1_ (a:TaA5q0) (c:zI8):Option aF :=
 if le c.2.2.1 a.2.2.2.2.1=true then some (true,()) else if nei a.2.2.1 0=true then some (lt c.2.2.1 a.2.2.2.1,()) else some (false,())
def ql0_ (x:As aW):Option aF:=qm1_ x.1 x.2.1
theorem q18k_:CtOk Tryz.prog (fun _=>True) 289 ⟨q1at_,ql0_⟩:=ctn (env:=q1av_) (q0_ Ev.bx_ok q1_) 6 fun J x=>by kernel_rfl
@[reducible] def q141_:Sh:=⟨[.d aG],[],bF,[.d aG],[],0,bF⟩
def q1dz_ (a:TaA5q0):Option cT :=
 some ((a.1,(0,0),0,0,a.2.2.2.2.1,zSt,a.2.2.2.2.2.2),())
def qel_ (x:As bF):Option cT:=q1dz_ x.1
theorem qrn_:CtOk Tryz.prog (fun _=>True) 173 ⟨q141_,qel_⟩:=ctn q1_ 6 fun J x=>by kernel_rfl
@[reducible] def bV:List Ty:=[.pr (.int .u16) (.int .i64),.int .i64]
@[reducible] def qgw_:Sh:=⟨[.d bP,.d (.int .u16),.d (.int .i64)],[],[.pr (.int .u16) (.int .i64),.int .u16,.int .i64],[.d bP,.d (.int .i64)],[],0,bV⟩
def qnb_:Env:=(cts [(150,(⟨qgh_,q6e_⟩:Ct)),(198,(⟨qzk_,q9s_⟩:Ct)),(229,(⟨q16m_,qcu_⟩:Ct))])
def qor_:List (Nat×Hint):=[(30,⟨[],[1,2,3,6,25]⟩),(14,⟨[],[1,2,3,6,15,21,22,23,24]⟩)]
def qvo_ (owner ticks:Int) (t15:Bool) (l t6:Int×Int):St:=⟨[(1,d6 owner),(2,dI ticks),(3,.pb 0 0),(6,.pb 1 0),(15,dB t15)],35,[],[(0,.box 35 [d6 l.1,dI l.2]),(1,.box 35 [d6 t6.1,dI t6.2])],2,[],0⟩
def qw3_ (owner ticks:Int) (t25:Bool) (l t6:Int×Int):St:=⟨[(1,d6 owner),(2,dI ticks),(3,.pb 0 0),(6,.pb 1 0),(25,dB t25)],35,[],[(0,.box 35 [d6 l.1,dI l.2]),(1,.box 35 [d6 t6.1,dI t6.2])],2,[],0⟩
@[reducible] def zI10:Type:=Int->Int->Bool->Int×Int->Int×Int->Option (As bV)
def qkk_ (j2:zI10) (owner ticks:Int) (t15:Bool) (l t6:Int×Int):Option (As bV) :=
 if t15=true then some (l,2,()) else zC (q6e_ (l,())) fun y=>if (!y.1)=true then j2 owner ticks (nei l.1 owner) l t6 else j2 owner ticks false l t6
def qjz_ (owner ticks:Int) (t25:Bool) (l t6:Int×Int):Option (As bV) :=
 if t25=true then some (l,22,()) else zC (qcu_ (owner,())) fun y=>if (eqi l.1 y.1.1 && (eqi l.2 y.1.2 && true))=true then some (l,0,()) else some ((owner,ticks),0,())
def qke_ (j1:zI10) (l:Int×Int) (owner ticks:Int):Option (As bV) :=
 zC (q9s_ (l,())) fun y=>if eqi owner 0=true then j1 owner ticks true y.1 (0,0) else j1 owner ticks (lt ticks 1) y.1 (0,0)
def qk9_:=qjz_
def qvc_:=qkk_ (qk9_)
def qwl_ (x:As [.pr (.int .u16) (.int .i64),.int .u16,.int .i64]):Option (As bV):=qke_ qvc_ x.1 x.2.1 x.2.2.1
abbrev pBr:=zp qnb_ qor_ 297 qgw_
theorem q1g4_ {J a b c d e}:pBr J 30 [] (qw3_ a b c d e)=qjz_ a b c d e:=by kernel_rfl
theorem q1gv_ {J a b c d e}:pBr J 14 [] (qvo_ a b c d e)=qkk_ (C (J 30 []) qw3_) a b c d e:=by kernel_rfl
abbrev pBq:=zj qnb_ qor_ 297 qgw_
theorem q1hc_:C (pBq 30 []) qw3_=qk9_:=gNC (by decide) fun _=>q1g4_
theorem q1gn_:C (pBq 14 []) qvo_=qvc_:=gNC (by decide) fun _=>q1gv_.trans (by rw [q1hc_] <;> kernel_rfl)
theorem q1h6_:CtOk Tryz.prog (fun _=>True) 297 ⟨qgw_,qwl_⟩:=zcc (env:=qnb_) (d:=6) (hs:=Ev.get qor_) (q0_ qko_ (q0_ qmg_ (q0_ qw4_ q1_))) (fun J x=>qke_ (C (J 14 []) qvo_) x.1 x.2.1 x.2.2.1) (fun _ _=>by kernel_rfl) fun _=>by rw [q1gn_] <;> rfl
@[reducible] def q13z_:Sh:=⟨[.d aG,.d (.int .u16)],[],eS,[.d aG],[],0,bF⟩
def qrh_ (a:TaA5q0) (owner:Int):Option cT :=
 zC (qwl_ (a.2.1,owner,a.2.2.2.2.2.2,())) fun y=>some ((a.1,y.1,a.2.2),())
def qat_ (x:As eS):Option cT:=qrh_ x.1 x.2.1
theorem q11m_:CtOk Tryz.prog (fun _=>True) 278 ⟨q13z_,qat_⟩:=ctn (q0_ q1h6_ q1_) 6 fun J x=>by kernel_rfl
@[reducible] def q1gg_:Sh:=⟨[.d aG,.d cE],[],aW,[.d aG],[],0,bF⟩
def qre_ (a:TaA5q0) (c:zI8):Option cT :=
 if eqi c.2.2.1 a.2.2.2.1=true then zC (qat_ (a,c.1,())) fun y=>some (y.1,()) else zC (qel_ (a,())) fun y=>zC (qat_ (y.1,c.1,())) fun y=>some ((y.1.1,y.1.2.1,1,c.2.2.1,y.1.2.2.2.2.1,(c.2.2.1,y.1.2.2.2.2.2.1.2),y.1.2.2.2.2.2.2),())
def qtd_ (x:As aW):Option cT:=qre_ x.1 x.2.1
theorem q1bz_:CtOk Tryz.prog (fun _=>True) 290 ⟨q1gg_,qtd_⟩:=ctn (q0_ qrn_ (q0_ q11m_ q1_)) 6 fun J x=>by kernel_rfl
@[reducible] def qx2_:Sh:=⟨[.d aG,.d (.int .u8),.d (.int .u32)],[],[.pr aC YTT1,.int .u8,.int .u32],[.d (.bool)],[],0,[.bool]⟩
def q1oc_:Env:=(cts [(2000043,Ev.bxCt)])
def q115_ (a:TaA5q0) (phase tx:Int):Option aF :=
 if eqi a.2.2.1 phase=true then some (eqi a.2.2.2.1 tx,()) else some (false,())
def qd1_ (x:As [.pr aC YTT1,.int .u8,.int .u32]):Option aF:=q115_ x.1 x.2.1 x.2.2.1
theorem q10l_:CtOk Tryz.prog (fun _=>True) 276 ⟨qx2_,qd1_⟩:=ctn (env:=q1oc_) (q0_ Ev.bx_ok q1_) 6 fun J x=>by kernel_rfl
@[reducible] def qsx_:Sh:=⟨[.d YTT8],[],bQ,[.d YTT8],[],0,bQ⟩
def qya_ (x:Int×List Int):Option (As bQ) :=
 zC (qc_ (x.2,())) fun y=>some ((x.1,y.1),())
def qcp_ (x:As bQ):Option (As bQ):=qya_ x.1
theorem qzc_:CtOk Tryz.prog (fun _=>True) 91 ⟨qsx_,qcp_⟩:=ctn (q0_ q1g_ q1_) 6 fun J x=>by kernel_rfl
@[reducible] def q5t_:Sh:=⟨[.d (.pr (.int .u32) (.pr (.ar 8 .bool) (.ar 8 YTT8)))],[],[.pr (.int .u32) (.pr (.ar 8 .bool) (.ar 8 YTT8))],[.d (.sl YTT8)],[],0,[.sl YTT8]⟩
def qio_:Env:=(cts [(2000041,Ev.bxCt),(91,(⟨qsx_,qcp_⟩:Ct))])
def qh2_:List (Nat×Hint):=[(58,⟨[.row 3 38],[1,3,7,8]⟩)]
def qf6_ (s:zI7) (t7:List Bool) (t8:Int) (l:List (Int×List Int)):St:=⟨[(1,.pe (.pr (.int .u32) (.pr (.ar 8 .bool) (.ar 8 YTT8))) s),(3,.row 0),(7,.d (.ar 8 .bool) t7),(8,dI t8)],23,[],[(0,.row YTT8 38 l)],1,[],0⟩
@[reducible] def zI11:Type:=Int×List Bool×List (Int×List Int)->List Bool->Int->List (Int×List Int)->Option cN
def q6s_ (self1:zI11) (s:zI7) (t7:List Bool) (t8:Int) (l:List (Int×List Int)):Option cN :=
 if lt t8 8=true then need (lt t8 8) (zC (at? t7 t8) fun y=>if y=true then zC (at? s.2.2 t8) fun y=>zC (qcp_ (y,())) fun y=>need (small (zG l + Nat.succ 0)) (self1 s t7 (add .i64 t8 1) (l++[y.1])) else self1 s t7 (add .i64 t8 1) l) else some (l,())
def qzo_ (j1:zI11) (s:zI7):Option cN :=
 j1 s s.2.1 0 []
def qa8_ (s:zI7) (t7:List Bool) (t8:Int) (l:List (Int×List Int)):Option cN :=
 loopF (fun self s=>q6s_ (fun s t7 t8 l=>self (s,t7,t8,l)) s.1 s.2.1 s.2.2.1 s.2.2.2) 18446744073709551616 (s,t7,t8,l)
def q50_ (x:As [.pr (.int .u32) (.pr (.ar 8 .bool) (.ar 8 YTT8))]):Option cN:=qzo_ qa8_ x.1
abbrev pD7:=zp qio_ qh2_ 41 q5t_
theorem q1ak_ {J w1 a b c d}:pD7 J 58 [w1] (qf6_ a b c d)=q6s_ (C w1 qf6_) a b c d:=by kernel_rfl
abbrev pD6:=zj qio_ qh2_ 41 q5t_
theorem q1b6_:C (pD6 58 []) qf6_=qa8_:=gLC (by decide) (by kernel_rfl) (fun _=>by unfold qa8_; rfl) fun _ _=>q1ak_.trans (by kernel_rfl)
theorem qna_:CtOk Tryz.prog (fun _=>True) 41 ⟨q5t_,q50_⟩:=zcc (env:=qio_) (d:=6) (hs:=Ev.get qh2_) (q0_ Ev.bx_ok (q0_ qzc_ q1_)) (fun J x=>qzo_ (C (J 58 []) qf6_) x.1) (fun _ _=>by kernel_rfl) fun _=>by rw [q1b6_] <;> rfl
@[reducible] def q9u_:Sh:=⟨[.d (.pr (.int .u32) (.pr (.ar 8 .bool) (.ar 8 YTT8))),.d (.int .i64),.d (.int .u32)],[],[.pr (.int .u32) (.pr (.ar 8 .bool) (.ar 8 YTT8)),.int .i64,.int .u32],[.d (.bool)],[],0,[.bool]⟩
def qlb_:Env:=(cts [(2000041,Ev.bxCt),(41,(⟨q5t_,q50_⟩:Ct)),(242,(⟨qar_,qgs_⟩:Ct))])
def qkb_:List (Nat×Hint):=[(7,⟨[],[2,3]⟩),(58,⟨[],[1,2,3,16,17]⟩),(6,⟨[],[1,2,3,14]⟩)]
def qrq_ (count check:Int) (s:zI7) (t14:Bool):St:=⟨[(1,dI count),(2,d2 check),(3,.pe (.pr (.int .u32) (.pr (.ar 8 .bool) (.ar 8 YTT8))) s),(14,dB t14)],32,[],[],0,[],0⟩
def qhy_ (count check:Int) (s:zI7) (t16:List Bool) (t17:Int):St:=⟨[(1,dI count),(2,d2 check),(3,.pe (.pr (.int .u32) (.pr (.ar 8 .bool) (.ar 8 YTT8))) s),(16,.d (.ar 8 .bool) t16),(17,dI t17)],32,[],[],0,[],0⟩
def qr0_ (check:Int) (s:zI7):St:=⟨[(2,d2 check),(3,.pe (.pr (.int .u32) (.pr (.ar 8 .bool) (.ar 8 YTT8))) s)],32,[],[],0,[],0⟩
@[reducible] def zI12:Type:=Int->Int->Int×List Bool×List (Int×List Int)->List Bool->Int->Option aF
def q11v_ (j2:zI12) (count check:Int) (s:zI7) (t14:Bool):Option aF :=
 if t14=true then some (false,()) else j2 count check s s.2.1 0
def q63_ (j3:Int->Int×List Bool×List (Int×List Int)->Option aF) (self2:zI12) (count check:Int) (s:zI7) (t16:List Bool) (t17:Int):Option aF :=
 if lt t17 8=true then need (lt t17 8) (zC (at? t16 t17) fun y=>if Sx.neb y (lt t17 count)=true then some (false,()) else self2 count check s t16 (add .i64 t17 1)) else j3 check s
def qhn_ (check:Int) (s:zI7):Option aF :=
 zC (q50_ (s,())) fun y=>zC (qgs_ (y.1,())) fun y=>some (eqi y.1 check,())
def qi2_ (j1:Int->Int->Int×List Bool×List (Int×List Int)->Bool->Option aF) (s:zI7) (count check:Int):Option aF :=
 if lt count 0=true then j1 count check s true else j1 count check s (gt count 8)
def q4m_:=qhn_
def qcb_ (count check:Int) (s:zI7) (t16:List Bool) (t17:Int):Option aF :=
 loopF (fun self s=>q63_ (q4m_) (fun count check s t16 t17=>self (count,check,s,t16,t17)) s.1 s.2.1 s.2.2.1 s.2.2.2.1 s.2.2.2.2) 18446744073709551616 (count,check,s,t16,t17)
def qij_:=q11v_ (qcb_)
def qj9_ (x:As [.pr (.int .u32) (.pr (.ar 8 .bool) (.ar 8 YTT8)),.int .i64,.int .u32]):Option aF:=qi2_ qij_ x.1 x.2.1 x.2.2.1
abbrev pEf:=zp qlb_ qkb_ 299 q9u_
theorem q1e1_ {J a b}:pEf J 7 [] (qr0_ a b)=qhn_ a b:=by kernel_rfl
theorem q1c2_ {J w2 a b c d e}:pEf J 58 [w2] (qhy_ a b c d e)=q63_ (C (J 7 []) qr0_) (C w2 qhy_) a b c d e:=by kernel_rfl
theorem q1ei_ {J a b c d}:pEf J 6 [] (qrq_ a b c d)=q11v_ (C (J 58 []) qhy_) a b c d:=by kernel_rfl
abbrev pEe:=zj qlb_ qkb_ 299 q9u_
theorem q1cr_:C (pEe 7 []) qr0_=q4m_:=gNC (by decide) fun _=>q1e1_
theorem q1d2_:C (pEe 58 []) qhy_=qcb_:=gLC (by decide) (by kernel_rfl) (fun _=>by unfold qcb_; rfl) fun _ _=>q1c2_.trans (by rw [q1cr_] <;> kernel_rfl)
theorem q1df_:C (pEe 6 []) qrq_=qij_:=gNC (by decide) fun _=>q1ei_.trans (by rw [q1d2_] <;> kernel_rfl)
theorem q1d1_:CtOk Tryz.prog (fun _=>True) 299 ⟨q9u_,qj9_⟩:=zcc (env:=qlb_) (d:=6) (hs:=Ev.get qkb_) (q0_ Ev.bx_ok (q0_ qna_ (q0_ q15z_ q1_))) (fun J x=>qi2_ (C (J 6 []) qrq_) x.1 x.2.1 x.2.2.1) (fun _ _=>by kernel_rfl) fun _=>by rw [q1df_] <;> rfl
@[reducible] def q17r_:Sh:=⟨[.d aG,.d cE],[],aW,[.d (.bool)],[],0,[.bool]⟩
def q186_:Env:=(cts [(2000043,Ev.bxCt),(276,(⟨qx2_,qd1_⟩:Ct)),(299,(⟨q9u_,qj9_⟩:Ct))])
def qgd_ (a:TaA5q0) (c:zI8):Option aF :=
 zC (qd1_ (a,2,c.2.2.1,())) fun y=>if y.1=true then some (false,()) else zC (qd1_ (a,1,c.2.2.1,())) fun y=>if (!y.1)=true then some (true,()) else zC (qj9_ (a.2.2.2.2.2.1,cvt .i64 c.2.2.2.1,c.2.2.2.2,())) fun y=>some (!y.1,())
def qft_ (x:As aW):Option aF:=qgd_ x.1 x.2.1
theorem q15h_:CtOk Tryz.prog (fun _=>True) 291 ⟨q17r_,qft_⟩:=ctn (env:=q186_) (q0_ Ev.bx_ok (q0_ q10l_ (q0_ q1d1_ q1_))) 6 fun J x=>by kernel_rfl
@[reducible] def q1if_:Sh:=⟨[.d bP,.d (.int .u16)],[],[.pr (.int .u16) (.int .i64),.int .u16],[.d bP,.d (.int .i64)],[],0,bV⟩
def qw6_ (l:Int×Int) (owner:Int):Option (As bV) :=
 zC (q9s_ (l,())) fun y=>if eqi owner 0=true then some (y.1,2,()) else if nei y.1.1 owner=true then some (y.1,22,()) else zC (qcu_ (owner,())) fun y=>some (y.1,0,())
def q13b_ (x:As [.pr (.int .u16) (.int .i64),.int .u16]):Option (As bV):=qw6_ x.1 x.2.1
theorem q1hb_:CtOk Tryz.prog (fun _=>True) 300 ⟨q1if_,q13b_⟩:=ctn (q0_ qmg_ (q0_ qw4_ q1_)) 6 fun J x=>by kernel_rfl
end Go.Proofs.Lx
end
