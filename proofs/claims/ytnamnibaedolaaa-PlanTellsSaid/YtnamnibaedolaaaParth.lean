/- Part 8 of 14: PlanTells returns true, whatever it is given. Conditions: those of the given statement, no others. -/
import Derived.Test.YtnamnibaedolaaaPartd
import Derived.Test.YtnamnibaedolaaaPartg
import Derived.Test.YtnamnibaedolaaaProg
import Derived.Test.YtnamnibaedolaaaParte
import Derived.Test.YtnamnibaedolaaaPartf
set_option linter.unusedVariables false
set_option linter.unusedSimpArgs false
section
open Go Go.Proofs Ev Sx
set_option maxRecDepth 100000
namespace Go.Proofs.Lx
@[reducible] def q5q_:Sh:=⟨[.d (.str)],[],[.str],[.d QVT9,.d (.bool)],[],0,[.pr (.int .i64) (.int .u8),.bool]⟩
def qd9_:Env:=(cts [(83,(⟨q8m_,q9u_⟩:Ct))])
def qd8_:List (Nat×Hint):=[(3,⟨[],[0,2,4,32,33,36,37,44,45,46,47,50,51,52,53,54,55,56,57,58,59,60,82,83,84,85,86,89,90]⟩),(7,⟨[],[0,2,4,32,33,36,37,44,45,46,47,50,51,52,53,54,55,56,57,58,59,60,82,83,84,85,86,89,90]⟩),(31,⟨[],[2,4,5,6,7,8,82,83,84,85,86,89,90]⟩),(127,⟨[],[2,5,7]⟩),(126,⟨[],[2,4,5,7,91]⟩),(250,⟨[],[0,2,4,5,6,7,8,9,32,33,36,37,44,45,46,47,50,51,52,53,54,55,56,57,58,59,60,82,83,84,85,86,89,90]⟩),(1001,⟨[],[0,2,4,5,6,7,8,9,32,33,36,37,44,45,46,47,50,51,52,53,54,55,56,57,58,59,60,82,83,84,85,86,89,90]⟩),(16018,⟨[.agd 44 .str,.agd 45 (.int .i64),.agd 46 (.int .u8),.agd 47 .bool,.agd 50 (.int .i64),.agd 51 .bool,.agd 52 .bool,.agd 53 .str,.agd 54 (.int .u8),.agd 55 .bool,.agd 56 .bool,.agd 57 .bool,.agd 58 .bool,.agd 59 .bool,.agd 60 .bool],[0,2,4,5,6,7,8,9,61]⟩),(8008,⟨[.agd 36 (.int .i64),.agd 37 .bool,.agd 32 .bool,.agd 33 .bool],[0,2,4,5,6,7,8,9,38]⟩)]
def qik_ (s:List UInt8) (below:Bool) (t2 t2_2:Int):St:=⟨[(0,dS s),(2,.pb 0 0),(4,dB below)],101,[],[(0,.box 75 [dI t2,d8 t2_2])],1,[],0⟩
def qhp_ (s:List UInt8) (below:Bool) (t2 t2_2:Int):St:=⟨[(0,dS s),(2,.pb 0 0),(4,dB below)],101,[],[(0,.box 75 [dI t2,d8 t2_2])],1,[],0⟩
def q18_ (s:List UInt8) (below:Bool) (n:Int) (point:Bool) (behind ahead i t2 t2_2:Int):St:=⟨[(0,dS s),(2,.pb 0 0),(4,dB below),(5,dI n),(6,dB point),(7,dI behind),(8,dI ahead),(9,dI i)],101,[],[(0,.box 75 [dI t2,d8 t2_2])],1,[],0⟩
def qi4_ (s:List UInt8) (below:Bool) (n:Int) (point:Bool) (behind ahead i:Int) (t38:Bool) (t2 t2_2:Int):St:=⟨[(0,dS s),(2,.pb 0 0),(4,dB below),(5,dI n),(6,dB point),(7,dI behind),(8,dI ahead),(9,dI i),(38,dB t38)],101,[],[(0,.box 75 [dI t2,d8 t2_2])],1,[],0⟩
def qhc_ (below:Bool) (n:Int) (point:Bool) (behind ahead t2 t2_2:Int):St:=⟨[(2,.pb 0 0),(4,dB below),(5,dI n),(6,dB point),(7,dI behind),(8,dI ahead)],101,[],[(0,.box 75 [dI t2,d8 t2_2])],1,[],0⟩
def qc1_ (s:List UInt8) (below:Bool) (n:Int) (point:Bool) (behind ahead i t2 t2_2:Int):St:=⟨[(0,dS s),(2,.pb 0 0),(4,dB below),(5,dI n),(6,dB point),(7,dI behind),(8,dI ahead),(9,dI i)],101,[],[(0,.box 75 [dI t2,d8 t2_2])],1,[],0⟩
def qh3_ (s:List UInt8) (below:Bool) (n:Int) (point:Bool) (behind ahead i:Int) (t61:Bool) (t2 t2_2:Int):St:=⟨[(0,dS s),(2,.pb 0 0),(4,dB below),(5,dI n),(6,dB point),(7,dI behind),(8,dI ahead),(9,dI i),(61,dB t61)],101,[],[(0,.box 75 [dI t2,d8 t2_2])],1,[],0⟩
def qi8_ (below:Bool) (n behind:Int) (t91:Bool) (t2 t2_2:Int):St:=⟨[(2,.pb 0 0),(4,dB below),(5,dI n),(7,dI behind),(91,dB t91)],101,[],[(0,.box 75 [dI t2,d8 t2_2])],1,[],0⟩
def qh9_ (n behind t2 t2_2:Int):St:=⟨[(2,.pb 0 0),(5,dI n),(7,dI behind)],101,[],[(0,.box 75 [dI t2,d8 t2_2])],1,[],0⟩
@[reducible] def zH0:Type:=List UInt8->Bool->Int->Int->Option (As [.pr (.int .i64) (.int .u8),.bool])
def qbw_ (j2:zH0) (s:List UInt8) (below:Bool) (t2 t2_2:Int):Option (As [.pr (.int .i64) (.int .u8),.bool]) :=
 if below=true then Option.bind (cut s 1 (Int.ofNat (List.length s))) fun y=>j2 y below t2 t2_2 else j2 s below t2 t2_2
@[reducible] def zH1:Type:=List UInt8->Bool->Int->Bool->Int->Int->Int->Int->Int->Option (As [.pr (.int .i64) (.int .u8),.bool])
def qob_ (j3:zH1) (s:List UInt8) (below:Bool) (t2 t2_2:Int):Option (As [.pr (.int .i64) (.int .u8),.bool]) :=
 j3 s below 0 false 0 0 0 t2 t2_2
@[reducible] def zH2:Type:=List UInt8->Bool->Int->Bool->Int->Int->Int->Bool->Int->Int->Option (As [.pr (.int .i64) (.int .u8),.bool])
def q7w_ (j4:zH2) (j5:Bool->Int->Bool->Int->Int->Int->Int->Option (As [.pr (.int .i64) (.int .u8),.bool])) (self3:zH1) (s:List UInt8) (below:Bool) (n:Int) (point:Bool) (behind ahead i t2 t2_2:Int):Option (As [.pr (.int .i64) (.int .u8),.bool]) :=
 if lt i (Int.ofNat (List.length s))=true then Option.bind (at? s i) fun c=>if eqi (Int.ofNat (UInt8.toNat c)) 46=true then if (!point)=true then j4 s below n point behind ahead i (gt ahead 0) t2 t2_2 else j4 s below n point behind ahead i false t2 t2_2 else j4 s below n point behind ahead i false t2 t2_2 else j5 below n point behind ahead t2 t2_2
def qbu_ (j6:zH1) (j7:zH2) (self3:zH1) (s:List UInt8) (below:Bool) (n:Int) (point:Bool) (behind ahead i:Int) (t38:Bool) (t2 t2_2:Int):Option (As [.pr (.int .i64) (.int .u8),.bool]) :=
 if t38=true then j6 s below n true behind ahead i t2 t2_2 else Option.bind (at? s i) fun c=>if lt (Int.ofNat (UInt8.toNat c)) 48=true then j7 s below n point behind ahead i true t2 t2_2 else Option.bind (at? s i) fun c=>if gt (Int.ofNat (UInt8.toNat c)) 57=true then j7 s below n point behind ahead i true t2 t2_2 else if eqi ahead 1=true then Option.bind (at? s 0) fun c=>if eqi (Int.ofNat (UInt8.toNat c)) 48=true then j7 s below n point behind ahead i (!point) t2 t2_2 else j7 s below n point behind ahead i false t2 t2_2 else j7 s below n point behind ahead i false t2 t2_2
def qhu_ (j8:Bool->Int->Int->Bool->Int->Int->Option (As [.pr (.int .i64) (.int .u8),.bool])) (below:Bool) (n:Int) (point:Bool) (behind ahead t2 t2_2:Int):Option (As [.pr (.int .i64) (.int .u8),.bool]) :=
 if eqi ahead 0=true then j8 below n behind true t2 t2_2 else if point=true then if eqi behind 0=true then j8 below n behind true t2 t2_2 else j8 below n behind (gt behind 6) t2 t2_2 else j8 below n behind (gt behind 6) t2 t2_2
def qb8_ (self3:zH1) (s:List UInt8) (below:Bool) (n:Int) (point:Bool) (behind ahead i t2 t2_2:Int):Option (As [.pr (.int .i64) (.int .u8),.bool]) :=
 self3 s below n point behind ahead (add .i64 i 1) t2 t2_2
def qiv_ (j6 self3:zH1) (s:List UInt8) (below:Bool) (n:Int) (point:Bool) (behind ahead i:Int) (t61:Bool) (t2 t2_2:Int):Option (As [.pr (.int .i64) (.int .u8),.bool]) :=
 if t61=true then some ((0,0),false,()) else if gt n 100000000000000000=true then some ((0,0),false,()) else Option.bind (at? s i) fun c=>if point=true then j6 s below (add .i64 (mul .i64 n 10) (cvt .i64 (Sx.sub .u8 (Int.ofNat (UInt8.toNat c)) 48))) point (add .i64 behind 1) ahead i t2 t2_2 else j6 s below (add .i64 (mul .i64 n 10) (cvt .i64 (Sx.sub .u8 (Int.ofNat (UInt8.toNat c)) 48))) point behind (add .i64 ahead 1) i t2 t2_2
def qck_ (j9:Int->Int->Int->Int->Option (As [.pr (.int .i64) (.int .u8),.bool])) (below:Bool) (n behind:Int) (t91:Bool) (t2 t2_2:Int):Option (As [.pr (.int .i64) (.int .u8),.bool]) :=
 if t91=true then some ((0,0),false,()) else if below=true then j9 (Sx.neg .i64 n) behind t2 t2_2 else j9 n behind t2 t2_2
def qbg_ (n behind t2 t2_2:Int):Option (As [.pr (.int .i64) (.int .u8),.bool]) :=
 Option.bind (q9u_ (n,behind,())) fun y=>some (y.1,y.2.1,())
def qc2_ (j1:zH0) (s:List UInt8):Option (As [.pr (.int .i64) (.int .u8),.bool]) :=
 if gt (Int.ofNat (List.length s)) 0=true then Option.bind (at? s 0) fun c=>j1 s (eqi (Int.ofNat (UInt8.toNat c)) 45) 0 0 else j1 s false 0 0
def q79_ (u3:zH1):=qb8_ u3
def q2y_ (u3:zH1):=qiv_ (q79_ u3) u3
def q4r_ (u3:zH1):=qbu_ (q79_ u3) (q2y_ u3) u3
def q76_:=qbg_
def qao_:=qck_ (q76_)
def qcd_:=qhu_ (qao_)
def qo1_ (s:List UInt8) (below:Bool) (n:Int) (point:Bool) (behind ahead i t2 t2_2:Int):Option (As [.pr (.int .i64) (.int .u8),.bool]) :=
 loopF (fun self s=>q7w_ (q4r_ (fun s below n point behind ahead i t2 t2_2=>self (s,below,n,point,behind,ahead,i,t2,t2_2))) (qcd_) (fun s below n point behind ahead i t2 t2_2=>self (s,below,n,point,behind,ahead,i,t2,t2_2)) s.1 s.2.1 s.2.2.1 s.2.2.2.1 s.2.2.2.2.1 s.2.2.2.2.2.1 s.2.2.2.2.2.2.1 s.2.2.2.2.2.2.2.1 s.2.2.2.2.2.2.2.2) 18446744073709551616 (s,below,n,point,behind,ahead,i,t2,t2_2)
def qij_:=qob_ (qo1_)
def q7y_:=qbw_ (qij_)
def qd4_ (x:As [.str]):Option (As [.pr (.int .i64) (.int .u8),.bool]):=qc2_ q7y_ x.1
noncomputable abbrev ref12_Parse_P:=pfn Try.prog qd9_ 6 18446744073709551616 (Ev.get qd8_) 81 q5q_
theorem qzz_ {J w3 s below n point behind ahead i t2 t2_2}:ref12_Parse_P J 1001 [w3] (qc1_ s below n point behind ahead i t2 t2_2)=qb8_ (fun s below n point behind ahead i t2 t2_2=>w3 (q18_ s below n point behind ahead i t2 t2_2)) s below n point behind ahead i t2 t2_2:=by kernel_rfl
theorem qxl_ {J w3 s below n point behind ahead i t61 t2 t2_2}:ref12_Parse_P J 16018 [w3] (qh3_ s below n point behind ahead i t61 t2 t2_2)=qiv_ (fun s below n point behind ahead i t2 t2_2=>J 1001 [w3] (qc1_ s below n point behind ahead i t2 t2_2)) (fun s below n point behind ahead i t2 t2_2=>w3 (q18_ s below n point behind ahead i t2 t2_2)) s below n point behind ahead i t61 t2 t2_2:=by kernel_rfl
theorem qv3_ {J w3 s below n point behind ahead i t38 t2 t2_2}:ref12_Parse_P J 8008 [w3] (qi4_ s below n point behind ahead i t38 t2 t2_2)=qbu_ (fun s below n point behind ahead i t2 t2_2=>J 1001 [w3] (qc1_ s below n point behind ahead i t2 t2_2)) (fun s below n point behind ahead i t61 t2 t2_2=>J 16018 [w3] (qh3_ s below n point behind ahead i t61 t2 t2_2)) (fun s below n point behind ahead i t2 t2_2=>w3 (q18_ s below n point behind ahead i t2 t2_2)) s below n point behind ahead i t38 t2 t2_2:=by kernel_rfl
theorem qx1_ {J n behind t2 t2_2}:ref12_Parse_P J 127 [] (qh9_ n behind t2 t2_2)=qbg_ n behind t2 t2_2:=by kernel_rfl
theorem qvk_ {J below n behind t91 t2 t2_2}:ref12_Parse_P J 126 [] (qi8_ below n behind t91 t2 t2_2)=qck_ (fun n behind t2 t2_2=>J 127 [] (qh9_ n behind t2 t2_2)) below n behind t91 t2 t2_2:=by kernel_rfl
theorem qzv_ {J below n point behind ahead t2 t2_2}:ref12_Parse_P J 31 [] (qhc_ below n point behind ahead t2 t2_2)=qhu_ (fun below n behind t91 t2 t2_2=>J 126 [] (qi8_ below n behind t91 t2 t2_2)) below n point behind ahead t2 t2_2:=by kernel_rfl
theorem qzn_ {J w3 s below n point behind ahead i t2 t2_2}:ref12_Parse_P J 250 [w3] (q18_ s below n point behind ahead i t2 t2_2)=q7w_ (fun s below n point behind ahead i t38 t2 t2_2=>J 8008 [w3] (qi4_ s below n point behind ahead i t38 t2 t2_2)) (fun below n point behind ahead t2 t2_2=>J 31 [] (qhc_ below n point behind ahead t2 t2_2)) (fun s below n point behind ahead i t2 t2_2=>w3 (q18_ s below n point behind ahead i t2 t2_2)) s below n point behind ahead i t2 t2_2:=by kernel_rfl
theorem qve_ {J s below t2 t2_2}:ref12_Parse_P J 7 [] (qhp_ s below t2 t2_2)=qob_ (fun s below n point behind ahead i t2 t2_2=>J 250 [] (q18_ s below n point behind ahead i t2 t2_2)) s below t2 t2_2:=by kernel_rfl
theorem qwv_ {J s below t2 t2_2}:ref12_Parse_P J 3 [] (qik_ s below t2 t2_2)=qbw_ (fun s below t2 t2_2=>J 7 [] (qhp_ s below t2 t2_2)) s below t2 t2_2:=by kernel_rfl
theorem qy8_ (J:Orc (As [.pr (.int .i64) (.int .u8),.bool])) (x:As [.str]):rfn Try.prog qd9_ 6 18446744073709551616 (Ev.get qd8_) 81 q5q_ J x=qc2_ (fun s below t2 t2_2=>J 3 [] (qik_ s below t2 t2_2)) x.1:=by kernel_rfl
noncomputable abbrev ref12_Parse_J:=jfn Try.prog qd9_ 6 18446744073709551616 (Ev.get qd8_) 81 q5q_
theorem qno_  (w3 s below n point behind ahead i t2 t2_2):ref12_Parse_J 1001 [w3] (qc1_ s below n point behind ahead i t2 t2_2)=q79_ (fun s below n point behind ahead i t2 t2_2=>w3 (q18_ s below n point behind ahead i t2 t2_2)) s below n point behind ahead i t2 t2_2:=gN (by decide) qzz_
theorem qv6_  (w3 s below n point behind ahead i t61 t2 t2_2):ref12_Parse_J 16018 [w3] (qh3_ s below n point behind ahead i t61 t2 t2_2)=q2y_ (fun s below n point behind ahead i t2 t2_2=>w3 (q18_ s below n point behind ahead i t2 t2_2)) s below n point behind ahead i t61 t2 t2_2:=gN (by decide) (qxl_.trans (by simp only [qno_]; rfl))
theorem qwr_  (w3 s below n point behind ahead i t38 t2 t2_2):ref12_Parse_J 8008 [w3] (qi4_ s below n point behind ahead i t38 t2 t2_2)=q4r_ (fun s below n point behind ahead i t2 t2_2=>w3 (q18_ s below n point behind ahead i t2 t2_2)) s below n point behind ahead i t38 t2 t2_2:=gN (by decide) (qv3_.trans (by simp only [qno_,qv6_]; rfl))
theorem qzt_  (n behind t2 t2_2):ref12_Parse_J 127 [] (qh9_ n behind t2 t2_2)=q76_ n behind t2 t2_2:=gN (by decide) qx1_
theorem quz_  (below n behind t91 t2 t2_2):ref12_Parse_J 126 [] (qi8_ below n behind t91 t2 t2_2)=qao_ below n behind t91 t2 t2_2:=gN (by decide) (qvk_.trans (by simp only [qzt_]; rfl))
theorem q10e_  (below n point behind ahead t2 t2_2):ref12_Parse_J 31 [] (qhc_ below n point behind ahead t2 t2_2)=qcd_ below n point behind ahead t2 t2_2:=gN (by decide) (qzv_.trans (by simp only [quz_]; rfl))
theorem qvr_  (s below n point behind ahead i t2 t2_2):ref12_Parse_J 250 [] (q18_ s below n point behind ahead i t2 t2_2)=qo1_ s below n point behind ahead i t2 t2_2:=gL (σ:=(List UInt8)×(Bool)×(Int)×(Bool)×(Int)×(Int)×(Int)×(Int)×(Int)) (mk:=fun s=>q18_ s.1 s.2.1 s.2.2.1 s.2.2.2.1 s.2.2.2.2.1 s.2.2.2.2.2.1 s.2.2.2.2.2.2.1 s.2.2.2.2.2.2.2.1 s.2.2.2.2.2.2.2.2) (by decide) (by kernel_rfl) (fun w3 s=>qzn_.trans (by simp only [qwr_,q10e_])) (s,below,n,point,behind,ahead,i,t2,t2_2)
theorem qv7_  (s below t2 t2_2):ref12_Parse_J 7 [] (qhp_ s below t2 t2_2)=qij_ s below t2 t2_2:=gN (by decide) (qve_.trans (by simp only [qvr_]; rfl))
theorem q101_  (s below t2 t2_2):ref12_Parse_J 3 [] (qik_ s below t2 t2_2)=q7y_ s below t2 t2_2:=gN (by decide) (qwv_.trans (by simp only [qv7_]; rfl))
theorem q10o_ (x:As [.str]):evT Try.prog qd9_ 6 18446744073709551616 (Ev.get qd8_) 81 q5q_ x=qd4_ x:=by
 rw [qi_,qy8_]
 simp only [q101_]
 rfl
theorem qyt_:CtOk Try.prog (fun _=>True) 81 ⟨q5q_,qd4_⟩:=qa_ (q2_ qsq_ q6_) q10o_
@[reducible] def qd2_:Sh:=⟨[.d (.str)],[],[.str],[.d (.sl QVT3),.d QVT8],[],0,[.sl QVT3,.pr (.int .i64) (.int .i64)]⟩
def qje_:Env:=(cts [(78,(⟨qnn_,q7o_⟩:Ct)),(79,(⟨qpm_,q70_⟩:Ct)),(80,(⟨qrw_,q66_⟩:Ct)),(81,(⟨q5q_,qd4_⟩:Ct))])
def qjg_:List (Nat×Hint):=[(63,⟨[],[3,4]⟩),(506,⟨[.row 4 123],[0,3,4,5,6,7]⟩),(2025,⟨[],[0,3,4,5,6,7,27,28,29,30,51,52,53,54,55,62,63,66,67,77,78,96,97,98,99,100,103,104,105,106,107,108,109,126,127,128,129]⟩),(32403,⟨[],[0,3,4,5,6,7,8,27,28,29,30,51,52,53,54,55,62,63,66,67,77,78,96,97,98,99,100,103,104,105,106,107,108,109,126,127,128,129]⟩),(259231,⟨[],[0,3,4,5,7,9,27,28,29,30,51,52,53,54,55,62,63,66,67,77,78,96,97,98,99,100,103,104,105,106,107,108,109,126,127,128,129]⟩),(1036927,⟨[],[0,3,4,5,7,9,27,28,29,30,51,52,53,54,55,62,63,66,67,77,78,96,97,98,99,100,103,104,105,106,107,108,109,126,127,128,129]⟩),(4147711,⟨[],[0,3,4,5,7,9,27,28,29,30,51,52,53,54,55,62,63,66,67,77,78,96,97,98,99,100,103,104,105,106,107,108,109,126,127,128,129]⟩),(4147710,⟨[.agd 127 .str,.agd 128 (.int .i64),.agd 129 .bool],[0,3,4,5,7,9,130]⟩),(4147708,⟨[],[0,3,4,5,7,9,27,28,29,30,51,52,53,54,55,62,63,66,67,77,78,96,97,98,99,100,103,104,105,106,107,108,109,126,127,128,129]⟩),(16590832,⟨[.agd 104 (.int .u8),.agd 105 .str,.agd 106 (.int .i64),.agd 107 (.int .i64),.agd 108 (.int .u8),.agd 109 .bool,.agd 96 (.int .i64),.agd 97 (.int .i64),.agd 98 .str,.agd 99 (.int .i64),.agd 100 .bool],[0,3,4,5,7,9,110]⟩),(2073851,⟨[.agd 77 (.int .u8),.agd 78 .bool],[0,3,4,5,7,8,9,79]⟩),(129614,⟨[.agd 62 (.int .u8),.agd 63 .bool,.agd 66 (.int .u8),.agd 67 .bool],[0,3,4,5,6,7,8,68]⟩),(1036904,⟨[],[0,3,4,5,6,7,27,28,29,30,51,52,53,54,55,62,63,66,67,77,78,96,97,98,99,100,103,104,105,106,107,108,109,126,127,128,129]⟩),(4147616,⟨[.agd 51 .str,.agd 52 (.int .i64),.agd 53 (.int .i64),.agd 54 (.int .u8),.agd 55 .bool],[0,3,4,5,6,7,56]⟩),(16200,⟨[.agd 27 .str,.agd 28 (.int .i64),.agd 29 (.int .u8),.agd 30 .bool],[0,3,4,5,6,7,31]⟩),(64802,⟨[.row 4 123],[0,3,4,5,7]⟩)]
def q8_ (text:List UInt8) (line:Int) (some':Bool) (i t3 t3_2:Int) (out:List QVT6):St:=⟨[(0,dS text),(3,.pb 0 0),(4,.row 1),(5,dI line),(6,dB some'),(7,dI i)],154,[],[(0,.box 50 [dI t3,dI t3_2]),(1,.row QVT3 123 out)],2,[],0⟩
def qlx_ (text:List UInt8) (line:Int) (some':Bool) (i:Int) (t31:Bool) (t3 t3_2:Int) (out:List QVT6):St:=⟨[(0,dS text),(3,.pb 0 0),(4,.row 1),(5,dI line),(6,dB some'),(7,dI i),(31,dB t31)],154,[],[(0,.box 50 [dI t3,dI t3_2]),(1,.row QVT3 123 out)],2,[],0⟩
def qm1_ (t3 t3_2:Int) (out:List QVT6):St:=⟨[(3,.pb 0 0),(4,.row 1)],154,[],[(0,.box 50 [dI t3,dI t3_2]),(1,.row QVT3 123 out)],2,[],0⟩
def qm8_ (text:List UInt8) (line i t3 t3_2:Int) (out:List QVT6):St:=⟨[(0,dS text),(3,.pb 0 0),(4,.row 1),(5,dI line),(7,dI i)],154,[],[(0,.box 50 [dI t3,dI t3_2]),(1,.row QVT3 123 out)],2,[],0⟩
def q54_ (text:List UInt8) (line:Int) (some':Bool) (i t3 t3_2:Int) (out:List QVT6):St:=⟨[(0,dS text),(3,.pb 0 0),(4,.row 1),(5,dI line),(6,dB some'),(7,dI i)],154,[],[(0,.box 50 [dI t3,dI t3_2]),(1,.row QVT3 123 out)],2,[],0⟩
def qlk_ (text:List UInt8) (line:Int) (some':Bool) (i c t3 t3_2:Int) (out:List QVT6):St:=⟨[(0,dS text),(3,.pb 0 0),(4,.row 1),(5,dI line),(6,dB some'),(7,dI i),(8,d8 c)],154,[],[(0,.box 50 [dI t3,dI t3_2]),(1,.row QVT3 123 out)],2,[],0⟩
def q7n_ (text:List UInt8) (line:Int) (some':Bool) (i t3 t3_2:Int) (out:List QVT6):St:=⟨[(0,dS text),(3,.pb 0 0),(4,.row 1),(5,dI line),(6,dB some'),(7,dI i)],154,[],[(0,.box 50 [dI t3,dI t3_2]),(1,.row QVT3 123 out)],2,[],0⟩
def qlu_ (text:List UInt8) (line:Int) (some':Bool) (i:Int) (t56:Bool) (t3 t3_2:Int) (out:List QVT6):St:=⟨[(0,dS text),(3,.pb 0 0),(4,.row 1),(5,dI line),(6,dB some'),(7,dI i),(56,dB t56)],154,[],[(0,.box 50 [dI t3,dI t3_2]),(1,.row QVT3 123 out)],2,[],0⟩
def qm4_ (text:List UInt8) (line:Int) (some':Bool) (i c:Int) (t68:Bool) (t3 t3_2:Int) (out:List QVT6):St:=⟨[(0,dS text),(3,.pb 0 0),(4,.row 1),(5,dI line),(6,dB some'),(7,dI i),(8,d8 c),(68,dB t68)],154,[],[(0,.box 50 [dI t3,dI t3_2]),(1,.row QVT3 123 out)],2,[],0⟩
def qei_ (text:List UInt8) (line i t3 t3_2:Int) (out:List QVT6) (t:Int) (t_2:List UInt8) (t_3 t_4 t_5:Int):St:=⟨[(0,dS text),(3,.pb 0 0),(4,.row 1),(5,dI line),(7,dI i),(9,.pb 2 0)],154,[],[(0,.box 50 [dI t3,dI t3_2]),(1,.row QVT3 123 out),(2,.box 123 [d8 t,dS t_2,dI t_3,d8 t_4,dI t_5])],3,[],0⟩
def qk5_ (text:List UInt8) (line i c:Int) (t79:Bool) (t3 t3_2:Int) (out:List QVT6) (t:Int) (t_2:List UInt8) (t_3 t_4 t_5:Int):St:=⟨[(0,dS text),(3,.pb 0 0),(4,.row 1),(5,dI line),(7,dI i),(8,d8 c),(9,.pb 2 0),(79,dB t79)],154,[],[(0,.box 50 [dI t3,dI t3_2]),(1,.row QVT3 123 out),(2,.box 123 [d8 t,dS t_2,dI t_3,d8 t_4,dI t_5])],3,[],0⟩
def q3p_ (text:List UInt8) (line i t3 t3_2:Int) (out:List QVT6) (t:Int) (t_2:List UInt8) (t_3 t_4 t_5:Int):St:=⟨[(0,dS text),(3,.pb 0 0),(4,.row 1),(5,dI line),(7,dI i),(9,.pb 2 0)],154,[],[(0,.box 50 [dI t3,dI t3_2]),(1,.row QVT3 123 out),(2,.box 123 [d8 t,dS t_2,dI t_3,d8 t_4,dI t_5])],3,[],0⟩
def qjo_ (text:List UInt8) (line i:Int) (t110:Bool) (t3 t3_2:Int) (out:List QVT6) (t:Int) (t_2:List UInt8) (t_3 t_4 t_5:Int):St:=⟨[(0,dS text),(3,.pb 0 0),(4,.row 1),(5,dI line),(7,dI i),(9,.pb 2 0),(110,dB t110)],154,[],[(0,.box 50 [dI t3,dI t3_2]),(1,.row QVT3 123 out),(2,.box 123 [d8 t,dS t_2,dI t_3,d8 t_4,dI t_5])],3,[],0⟩
def qjw_ (text:List UInt8) (line i t3 t3_2:Int) (out:List QVT6) (t:Int) (t_2:List UInt8) (t_3 t_4 t_5:Int):St:=⟨[(0,dS text),(3,.pb 0 0),(4,.row 1),(5,dI line),(7,dI i),(9,.pb 2 0)],154,[],[(0,.box 50 [dI t3,dI t3_2]),(1,.row QVT3 123 out),(2,.box 123 [d8 t,dS t_2,dI t_3,d8 t_4,dI t_5])],3,[],0⟩
def qkk_ (text:List UInt8) (line i:Int) (t130:Bool) (t3 t3_2:Int) (out:List QVT6) (t:Int) (t_2:List UInt8) (t_3 t_4 t_5:Int):St:=⟨[(0,dS text),(3,.pb 0 0),(4,.row 1),(5,dI line),(7,dI i),(9,.pb 2 0),(130,dB t130)],154,[],[(0,.box 50 [dI t3,dI t3_2]),(1,.row QVT3 123 out),(2,.box 123 [d8 t,dS t_2,dI t_3,d8 t_4,dI t_5])],3,[],0⟩
def qkl_ (text:List UInt8) (line i t3 t3_2:Int) (out:List QVT6) (t:Int) (t_2:List UInt8) (t_3 t_4 t_5:Int):St:=⟨[(0,dS text),(3,.pb 0 0),(4,.row 1),(5,dI line),(7,dI i),(9,.pb 2 0)],154,[],[(0,.box 50 [dI t3,dI t3_2]),(1,.row QVT3 123 out),(2,.box 123 [d8 t,dS t_2,dI t_3,d8 t_4,dI t_5])],3,[],0⟩
@[reducible] def zH3:Type:=List UInt8->Int->Bool->Int->Bool->Int->Int->List QVT6->Option (As [.sl QVT3,.pr (.int .i64) (.int .i64)])
@[reducible] def zH4:Type:=List UInt8->Int->Bool->Int->Int->Int->List QVT6->Option (As [.sl QVT3,.pr (.int .i64) (.int .i64)])
def q1z_ (j2:zH3) (j3:Int->Int->List QVT6->Option (As [.sl QVT3,.pr (.int .i64) (.int .i64)])) (self1:zH4) (text:List UInt8) (line:Int) (some':Bool) (i t3 t3_2:Int) (out:List QVT6):Option (As [.sl QVT3,.pr (.int .i64) (.int .i64)]) :=
 if le i (Int.ofNat (List.length text))=true then if eqi i (Int.ofNat (List.length text))=true then j2 text line some' i true t3 t3_2 out else Option.bind (at? text i) fun c=>j2 text line some' i (eqi (Int.ofNat (UInt8.toNat c)) 10) t3 t3_2 out else j3 t3 t3_2 out
def q4x_ (j4:List UInt8->Int->Int->Int->Int->List QVT6->Option (As [.sl QVT3,.pr (.int .i64) (.int .i64)])) (j5:zH4) (j6:List UInt8->Int->Bool->Int->Int->Int->Int->List QVT6->Option (As [.sl QVT3,.pr (.int .i64) (.int .i64)])) (self1:zH4) (text:List UInt8) (line:Int) (some':Bool) (i:Int) (t31:Bool) (t3 t3_2:Int) (out:List QVT6):Option (As [.sl QVT3,.pr (.int .i64) (.int .i64)]) :=
 if t31=true then if some'=true then need (small (List.length out + Nat.succ 0)) (j4 text line i t3 t3_2 (out++[(4,[],(0,0),line)])) else j4 text line i t3 t3_2 out else Option.bind (at? text i) fun c=>if eqi (Int.ofNat (UInt8.toNat c)) 35=true then j5 text line some' i t3 t3_2 out else j6 text line some' i (Int.ofNat (UInt8.toNat c)) t3 t3_2 out
def qqx_ (t3 t3_2:Int) (out:List QVT6):Option (As [.sl QVT3,.pr (.int .i64) (.int .i64)]) :=
 some (out,(0,0),())
def qr4_ (j7 self1:zH4) (text:List UInt8) (line i t3 t3_2:Int) (out:List QVT6):Option (As [.sl QVT3,.pr (.int .i64) (.int .i64)]) :=
 j7 text (add .i64 line 1) false i t3 t3_2 out
def qll_ (j8:zH3) (self1 self5:zH4) (text:List UInt8) (line:Int) (some':Bool) (i t3 t3_2:Int) (out:List QVT6):Option (As [.sl QVT3,.pr (.int .i64) (.int .i64)]) :=
 if lt (add .i64 i 1) (Int.ofNat (List.length text))=true then Option.bind (at? text (add .i64 i 1)) fun c=>j8 text line some' i (nei (Int.ofNat (UInt8.toNat c)) 10) t3 t3_2 out else j8 text line some' i false t3 t3_2 out
def q4w_ (j9:List UInt8->Int->Bool->Int->Int->Bool->Int->Int->List QVT6->Option (As [.sl QVT3,.pr (.int .i64) (.int .i64)])) (self1:zH4) (text:List UInt8) (line:Int) (some':Bool) (i c t3 t3_2:Int) (out:List QVT6):Option (As [.sl QVT3,.pr (.int .i64) (.int .i64)]) :=
 if eqi c 9=true then j9 text line some' i c true t3 t3_2 out else if eqi c 13=true then j9 text line some' i c true t3 t3_2 out else j9 text line some' i c (eqi c 32) t3 t3_2 out
def qrs_ (self1:zH4) (text:List UInt8) (line:Int) (some':Bool) (i t3 t3_2:Int) (out:List QVT6):Option (As [.sl QVT3,.pr (.int .i64) (.int .i64)]) :=
 self1 text line some' (add .i64 i 1) t3 t3_2 out
def qqq_ (j7 self1 self5:zH4) (text:List UInt8) (line:Int) (some':Bool) (i:Int) (t56:Bool) (t3 t3_2:Int) (out:List QVT6):Option (As [.sl QVT3,.pr (.int .i64) (.int .i64)]) :=
 if t56=true then self5 text line some' (add .i64 i 1) t3 t3_2 out else j7 text line some' i t3 t3_2 out
@[reducible] def zH5:Type:=List UInt8->Int->Int->Int->Int->List QVT6->Int->List UInt8->Int->Int->Int->Option (As [.sl QVT3,.pr (.int .i64) (.int .i64)])
def q7s_ (j7:zH4) (j10:zH5) (j11:List UInt8->Int->Int->Int->Bool->Int->Int->List QVT6->Int->List UInt8->Int->Int->Int->Option (As [.sl QVT3,.pr (.int .i64) (.int .i64)])) (self1:zH4) (text:List UInt8) (line:Int) (some':Bool) (i c:Int) (t68:Bool) (t3 t3_2:Int) (out:List QVT6):Option (As [.sl QVT3,.pr (.int .i64) (.int .i64)]) :=
 if t68=true then j7 text line some' i t3 t3_2 out else Option.bind (q7o_ (c,())) fun y=>if y.1=true then j10 text line i t3 t3_2 out 1 [] 0 0 line else Option.bind (q70_ (c,())) fun y=>if y.1=true then j11 text line i c true t3 t3_2 out 0 [] 0 0 line else j11 text line i c (eqi c 45) t3 t3_2 out 0 [] 0 0 line
def qp5_ (j12:zH5) (self1:zH4) (text:List UInt8) (line i t3 t3_2:Int) (out:List QVT6) (t:Int) (t_2:List UInt8) (t_3 t_4 t_5:Int):Option (As [.sl QVT3,.pr (.int .i64) (.int .i64)]) :=
 Option.bind (cut text i (add .i64 i 1)) fun y=>j12 text line i t3 t3_2 out t y t_3 t_4 t_5
def qpf_ (j10:zH5) (self1:zH4) (text:List UInt8) (line i c:Int) (t79:Bool) (t3 t3_2:Int) (out:List QVT6) (t:Int) (t_2:List UInt8) (t_3 t_4 t_5:Int):Option (As [.sl QVT3,.pr (.int .i64) (.int .i64)]) :=
 if t79=true then j10 text line i t3 t3_2 out 2 t_2 t_3 t_4 t_5 else if eqi c 61=true then j10 text line i t3 t3_2 out 3 t_2 t_3 t_4 t_5 else some ([],(131,line),())
@[reducible] def zH6:Type:=List UInt8->Int->Int->Bool->Int->Int->List QVT6->Int->List UInt8->Int->Int->Int->Option (As [.sl QVT3,.pr (.int .i64) (.int .i64)])
def qjp_ (j13:zH6) (self1:zH4) (self12:zH5) (text:List UInt8) (line i t3 t3_2:Int) (out:List QVT6) (t:Int) (t_2:List UInt8) (t_3 t_4 t_5:Int):Option (As [.sl QVT3,.pr (.int .i64) (.int .i64)]) :=
 if nei t 3=true then if lt (add .i64 i 1) (Int.ofNat (List.length text))=true then Option.bind (at? text (add .i64 i 1)) fun c=>Option.bind (q66_ (t,Int.ofNat (UInt8.toNat c),())) fun y=>j13 text line i y.1 t3 t3_2 out t t_2 t_3 t_4 t_5 else j13 text line i false t3 t3_2 out t t_2 t_3 t_4 t_5 else j13 text line i false t3 t3_2 out t t_2 t_3 t_4 t_5
def qpi_ (j14:zH5) (self1:zH4) (self12:zH5) (text:List UInt8) (line i:Int) (t110:Bool) (t3 t3_2:Int) (out:List QVT6) (t:Int) (t_2:List UInt8) (t_3 t_4 t_5:Int):Option (As [.sl QVT3,.pr (.int .i64) (.int .i64)]) :=
 if t110=true then Option.bind (cut text (add .i64 i 1) (add .i64 (add .i64 i 1) 1)) fun y=>need (small (List.length t_2 + List.length y)) (self12 text line (add .i64 i 1) t3 t3_2 out t (t_2++y) t_3 t_4 t_5) else j14 text line i t3 t3_2 out t t_2 t_3 t_4 t_5
def q8y_ (j15:zH6) (self1:zH4) (text:List UInt8) (line i t3 t3_2:Int) (out:List QVT6) (t:Int) (t_2:List UInt8) (t_3 t_4 t_5:Int):Option (As [.sl QVT3,.pr (.int .i64) (.int .i64)]) :=
 if eqi t 1=true then j15 text line i (gt (Int.ofNat (List.length t_2)) 20) t3 t3_2 out t t_2 t_3 t_4 t_5 else j15 text line i false t3 t3_2 out t t_2 t_3 t_4 t_5
def q95_ (j16:zH5) (self1:zH4) (text:List UInt8) (line i:Int) (t130:Bool) (t3 t3_2:Int) (out:List QVT6) (t:Int) (t_2:List UInt8) (t_3 t_4 t_5:Int):Option (As [.sl QVT3,.pr (.int .i64) (.int .i64)]) :=
 if t130=true then some ([],(133,line),()) else if eqi t 2=true then Option.bind (qd4_ (t_2,())) fun y=>if (!y.2.1)=true then some ([],(132,line),()) else j16 text line i t3 t3_2 out t t_2 y.1.1 y.1.2 t_5 else j16 text line i t3 t3_2 out t t_2 t_3 t_4 t_5
def qp3_ (j7 self1:zH4) (text:List UInt8) (line i t3 t3_2:Int) (out:List QVT6) (t:Int) (t_2:List UInt8) (t_3 t_4 t_5:Int):Option (As [.sl QVT3,.pr (.int .i64) (.int .i64)]) :=
 need (small (List.length out + Nat.succ 0)) (j7 text line true i t3 t3_2 (out++[(t,t_2,(t_3,t_4),t_5)]))
def q8h_ (j1:zH4) (text:List UInt8):Option (As [.sl QVT3,.pr (.int .i64) (.int .i64)]) :=
 if gt (Int.ofNat (List.length text)) 8192=true then some ([],(130,0),()) else j1 text 1 false 0 0 0 []
def q4y_ (u1:zH4):=qrs_ u1
def q4v_ (u1:zH4):=qr4_ (q4y_ u1) u1
def qgh_ (u1 u5:zH4):=qqq_ (q4y_ u1) u1 u5
def q56_ (u1:zH4) (text:List UInt8) (line:Int) (some':Bool) (i t3 t3_2:Int) (out:List QVT6):Option (As [.sl QVT3,.pr (.int .i64) (.int .i64)]) :=
 loopF (fun self s=>qll_ (qgh_ u1 (fun text line some' i t3 t3_2 out=>self (text,line,some',i,t3,t3_2,out))) u1 (fun text line some' i t3 t3_2 out=>self (text,line,some',i,t3,t3_2,out)) s.1 s.2.1 s.2.2.1 s.2.2.2.1 s.2.2.2.2.1 s.2.2.2.2.2.1 s.2.2.2.2.2.2) 18446744073709551616 (text,line,some',i,t3,t3_2,out)
def q8q_ (u1:zH4):=qp3_ (q4y_ u1) u1
def q3h_ (u1:zH4):=q95_ (q8q_ u1) u1
def q3o_ (u1:zH4):=q8y_ (q3h_ u1) u1
def qew_ (u1:zH4) (u12:zH5):=qpi_ (q3o_ u1) u1 u12
def q8s_ (u1:zH4) (text:List UInt8) (line i t3 t3_2:Int) (out:List QVT6) (t:Int) (t_2:List UInt8) (t_3 t_4 t_5:Int):Option (As [.sl QVT3,.pr (.int .i64) (.int .i64)]) :=
 loopF (fun self s=>qjp_ (qew_ u1 (fun text line i t3 t3_2 out t t_2 t_3 t_4 t_5=>self (text,line,i,t3,t3_2,out,t,t_2,t_3,t_4,t_5))) u1 (fun text line i t3 t3_2 out t t_2 t_3 t_4 t_5=>self (text,line,i,t3,t3_2,out,t,t_2,t_3,t_4,t_5)) s.1 s.2.1 s.2.2.1 s.2.2.2.1 s.2.2.2.2.1 s.2.2.2.2.2.1 s.2.2.2.2.2.2.1 s.2.2.2.2.2.2.2.1 s.2.2.2.2.2.2.2.2.1 s.2.2.2.2.2.2.2.2.2.1 s.2.2.2.2.2.2.2.2.2.2) 18446744073709551616 (text,line,i,t3,t3_2,out,t,t_2,t_3,t_4,t_5)
def qs_ (u1:zH4):=qp5_ (q8s_ u1) u1
def qdn_ (u1:zH4):=qpf_ (qs_ u1) u1
def q2b_ (u1:zH4):=q7s_ (q4y_ u1) (qs_ u1) (qdn_ u1) u1
def qa6_ (u1:zH4):=q4w_ (q2b_ u1) u1
def q4s_ (u1:zH4):=q4x_ (q4v_ u1) (q56_ u1) (qa6_ u1) u1
def q7k_:=qqx_
def q8e_ (text:List UInt8) (line:Int) (some':Bool) (i t3 t3_2:Int) (out:List QVT6):Option (As [.sl QVT3,.pr (.int .i64) (.int .i64)]) :=
 loopF (fun self s=>q1z_ (q4s_ (fun text line some' i t3 t3_2 out=>self (text,line,some',i,t3,t3_2,out))) (q7k_) (fun text line some' i t3 t3_2 out=>self (text,line,some',i,t3,t3_2,out)) s.1 s.2.1 s.2.2.1 s.2.2.2.1 s.2.2.2.2.1 s.2.2.2.2.2.1 s.2.2.2.2.2.2) 18446744073709551616 (text,line,some',i,t3,t3_2,out)
def qjm_ (x:As [.str]):Option (As [.sl QVT3,.pr (.int .i64) (.int .i64)]):=q8h_ q8e_ x.1
noncomputable abbrev ref13_Lex_P:=pfn Try.prog qje_ 6 18446744073709551616 (Ev.get qjg_) 66 qd2_
theorem q14y_ {J w1 text line some' i t3 t3_2 out}:ref13_Lex_P J 2025 [w1] (q7n_ text line some' i t3 t3_2 out)=qrs_ (fun text line some' i t3 t3_2 out=>w1 (q8_ text line some' i t3 t3_2 out)) text line some' i t3 t3_2 out:=by kernel_rfl
theorem q159_ {J w1 text line i t3 t3_2 out}:ref13_Lex_P J 64802 [w1] (qm8_ text line i t3 t3_2 out)=qr4_ (fun text line some' i t3 t3_2 out=>J 2025 [w1] (q7n_ text line some' i t3 t3_2 out)) (fun text line some' i t3 t3_2 out=>w1 (q8_ text line some' i t3 t3_2 out)) text line i t3 t3_2 out:=by kernel_rfl
theorem q14x_ {J w1 w5 text line some' i t56 t3 t3_2 out}:ref13_Lex_P J 4147616 [w1,w5] (qlu_ text line some' i t56 t3 t3_2 out)=qqq_ (fun text line some' i t3 t3_2 out=>J 2025 [w1] (q7n_ text line some' i t3 t3_2 out)) (fun text line some' i t3 t3_2 out=>w1 (q8_ text line some' i t3 t3_2 out)) (fun text line some' i t3 t3_2 out=>w5 (q54_ text line some' i t3 t3_2 out)) text line some' i t56 t3 t3_2 out:=by kernel_rfl
theorem q14u_ {J w1 w5 text line some' i t3 t3_2 out}:ref13_Lex_P J 1036904 [w1,w5] (q54_ text line some' i t3 t3_2 out)=qll_ (fun text line some' i t56 t3 t3_2 out=>J 4147616 [w1,w5] (qlu_ text line some' i t56 t3 t3_2 out)) (fun text line some' i t3 t3_2 out=>w1 (q8_ text line some' i t3 t3_2 out)) (fun text line some' i t3 t3_2 out=>w5 (q54_ text line some' i t3 t3_2 out)) text line some' i t3 t3_2 out:=by kernel_rfl
theorem q11h_ {J w1 text line i t3 t3_2 out t t_2 t_3 t_4 t_5}:ref13_Lex_P J 4147711 [w1] (qkl_ text line i t3 t3_2 out t t_2 t_3 t_4 t_5)=qp3_ (fun text line some' i t3 t3_2 out=>J 2025 [w1] (q7n_ text line some' i t3 t3_2 out)) (fun text line some' i t3 t3_2 out=>w1 (q8_ text line some' i t3 t3_2 out)) text line i t3 t3_2 out t t_2 t_3 t_4 t_5:=by kernel_rfl
theorem q13j_ {J w1 text line i t130 t3 t3_2 out t t_2 t_3 t_4 t_5}:ref13_Lex_P J 4147710 [w1] (qkk_ text line i t130 t3 t3_2 out t t_2 t_3 t_4 t_5)=q95_ (fun text line i t3 t3_2 out t t_2 t_3 t_4 t_5=>J 4147711 [w1] (qkl_ text line i t3 t3_2 out t t_2 t_3 t_4 t_5)) (fun text line some' i t3 t3_2 out=>w1 (q8_ text line some' i t3 t3_2 out)) text line i t130 t3 t3_2 out t t_2 t_3 t_4 t_5:=by kernel_rfl
theorem q11o_ {J w1 text line i t3 t3_2 out t t_2 t_3 t_4 t_5}:ref13_Lex_P J 1036927 [w1] (qjw_ text line i t3 t3_2 out t t_2 t_3 t_4 t_5)=q8y_ (fun text line i t130 t3 t3_2 out t t_2 t_3 t_4 t_5=>J 4147710 [w1] (qkk_ text line i t130 t3 t3_2 out t t_2 t_3 t_4 t_5)) (fun text line some' i t3 t3_2 out=>w1 (q8_ text line some' i t3 t3_2 out)) text line i t3 t3_2 out t t_2 t_3 t_4 t_5:=by kernel_rfl
theorem q12l_ {J w1 w12 text line i t110 t3 t3_2 out t t_2 t_3 t_4 t_5}:ref13_Lex_P J 16590832 [w1,w12] (qjo_ text line i t110 t3 t3_2 out t t_2 t_3 t_4 t_5)=qpi_ (fun text line i t3 t3_2 out t t_2 t_3 t_4 t_5=>J 1036927 [w1] (qjw_ text line i t3 t3_2 out t t_2 t_3 t_4 t_5)) (fun text line some' i t3 t3_2 out=>w1 (q8_ text line some' i t3 t3_2 out)) (fun text line i t3 t3_2 out t t_2 t_3 t_4 t_5=>w12 (q3p_ text line i t3 t3_2 out t t_2 t_3 t_4 t_5)) text line i t110 t3 t3_2 out t t_2 t_3 t_4 t_5:=by kernel_rfl
theorem q12w_ {J w1 w12 text line i t3 t3_2 out t t_2 t_3 t_4 t_5}:ref13_Lex_P J 4147708 [w1,w12] (q3p_ text line i t3 t3_2 out t t_2 t_3 t_4 t_5)=qjp_ (fun text line i t110 t3 t3_2 out t t_2 t_3 t_4 t_5=>J 16590832 [w1,w12] (qjo_ text line i t110 t3 t3_2 out t t_2 t_3 t_4 t_5)) (fun text line some' i t3 t3_2 out=>w1 (q8_ text line some' i t3 t3_2 out)) (fun text line i t3 t3_2 out t t_2 t_3 t_4 t_5=>w12 (q3p_ text line i t3 t3_2 out t t_2 t_3 t_4 t_5)) text line i t3 t3_2 out t t_2 t_3 t_4 t_5:=by kernel_rfl
theorem q12e_ {J w1 text line i t3 t3_2 out t t_2 t_3 t_4 t_5}:ref13_Lex_P J 259231 [w1] (qei_ text line i t3 t3_2 out t t_2 t_3 t_4 t_5)=qp5_ (fun text line i t3 t3_2 out t t_2 t_3 t_4 t_5=>J 4147708 [w1] (q3p_ text line i t3 t3_2 out t t_2 t_3 t_4 t_5)) (fun text line some' i t3 t3_2 out=>w1 (q8_ text line some' i t3 t3_2 out)) text line i t3 t3_2 out t t_2 t_3 t_4 t_5:=by kernel_rfl
theorem q12r_ {J w1 text line i c t79 t3 t3_2 out t t_2 t_3 t_4 t_5}:ref13_Lex_P J 2073851 [w1] (qk5_ text line i c t79 t3 t3_2 out t t_2 t_3 t_4 t_5)=qpf_ (fun text line i t3 t3_2 out t t_2 t_3 t_4 t_5=>J 259231 [w1] (qei_ text line i t3 t3_2 out t t_2 t_3 t_4 t_5)) (fun text line some' i t3 t3_2 out=>w1 (q8_ text line some' i t3 t3_2 out)) text line i c t79 t3 t3_2 out t t_2 t_3 t_4 t_5:=by kernel_rfl
theorem q14d_ {J w1 text line some' i c t68 t3 t3_2 out}:ref13_Lex_P J 129614 [w1] (qm4_ text line some' i c t68 t3 t3_2 out)=q7s_ (fun text line some' i t3 t3_2 out=>J 2025 [w1] (q7n_ text line some' i t3 t3_2 out)) (fun text line i t3 t3_2 out t t_2 t_3 t_4 t_5=>J 259231 [w1] (qei_ text line i t3 t3_2 out t t_2 t_3 t_4 t_5)) (fun text line i c t79 t3 t3_2 out t t_2 t_3 t_4 t_5=>J 2073851 [w1] (qk5_ text line i c t79 t3 t3_2 out t t_2 t_3 t_4 t_5)) (fun text line some' i t3 t3_2 out=>w1 (q8_ text line some' i t3 t3_2 out)) text line some' i c t68 t3 t3_2 out:=by kernel_rfl
theorem q14f_ {J w1 text line some' i c t3 t3_2 out}:ref13_Lex_P J 32403 [w1] (qlk_ text line some' i c t3 t3_2 out)=q4w_ (fun text line some' i c t68 t3 t3_2 out=>J 129614 [w1] (qm4_ text line some' i c t68 t3 t3_2 out)) (fun text line some' i t3 t3_2 out=>w1 (q8_ text line some' i t3 t3_2 out)) text line some' i c t3 t3_2 out:=by kernel_rfl
theorem q14b_ {J w1 text line some' i t31 t3 t3_2 out}:ref13_Lex_P J 16200 [w1] (qlx_ text line some' i t31 t3 t3_2 out)=q4x_ (fun text line i t3 t3_2 out=>J 64802 [w1] (qm8_ text line i t3 t3_2 out)) (fun text line some' i t3 t3_2 out=>J 1036904 [w1] (q54_ text line some' i t3 t3_2 out)) (fun text line some' i c t3 t3_2 out=>J 32403 [w1] (qlk_ text line some' i c t3 t3_2 out)) (fun text line some' i t3 t3_2 out=>w1 (q8_ text line some' i t3 t3_2 out)) text line some' i t31 t3 t3_2 out:=by kernel_rfl
theorem q148_ {J t3 t3_2 out}:ref13_Lex_P J 63 [] (qm1_ t3 t3_2 out)=qqx_ t3 t3_2 out:=by kernel_rfl
theorem q14v_ {J w1 text line some' i t3 t3_2 out}:ref13_Lex_P J 506 [w1] (q8_ text line some' i t3 t3_2 out)=q1z_ (fun text line some' i t31 t3 t3_2 out=>J 16200 [w1] (qlx_ text line some' i t31 t3 t3_2 out)) (fun t3 t3_2 out=>J 63 [] (qm1_ t3 t3_2 out)) (fun text line some' i t3 t3_2 out=>w1 (q8_ text line some' i t3 t3_2 out)) text line some' i t3 t3_2 out:=by kernel_rfl
theorem q14s_ (J:Orc (As [.sl QVT3,.pr (.int .i64) (.int .i64)])) (x:As [.str]):rfn Try.prog qje_ 6 18446744073709551616 (Ev.get qjg_) 66 qd2_ J x=q8h_ (fun text line some' i t3 t3_2 out=>J 506 [] (q8_ text line some' i t3 t3_2 out)) x.1:=by kernel_rfl
noncomputable abbrev ref13_Lex_J:=jfn Try.prog qje_ 6 18446744073709551616 (Ev.get qjg_) 66 qd2_
theorem qg5_  (w1 text line some' i t3 t3_2 out):ref13_Lex_J 2025 [w1] (q7n_ text line some' i t3 t3_2 out)=q4y_ (fun text line some' i t3 t3_2 out=>w1 (q8_ text line some' i t3 t3_2 out)) text line some' i t3 t3_2 out:=gN (by decide) q14y_
theorem q14e_  (w1 text line i t3 t3_2 out):ref13_Lex_J 64802 [w1] (qm8_ text line i t3 t3_2 out)=q4v_ (fun text line some' i t3 t3_2 out=>w1 (q8_ text line some' i t3 t3_2 out)) text line i t3 t3_2 out:=gN (by decide) (q159_.trans (by simp only [qg5_]; rfl))
theorem q14q_  (w1 w5 text line some' i t56 t3 t3_2 out):ref13_Lex_J 4147616 [w1,w5] (qlu_ text line some' i t56 t3 t3_2 out)=qgh_ (fun text line some' i t3 t3_2 out=>w1 (q8_ text line some' i t3 t3_2 out)) (fun text line some' i t3 t3_2 out=>w5 (q54_ text line some' i t3 t3_2 out)) text line some' i t56 t3 t3_2 out:=gN (by decide) (q14x_.trans (by simp only [qg5_]; rfl))
theorem q150_  (w1 text line some' i t3 t3_2 out):ref13_Lex_J 1036904 [w1] (q54_ text line some' i t3 t3_2 out)=q56_ (fun text line some' i t3 t3_2 out=>w1 (q8_ text line some' i t3 t3_2 out)) text line some' i t3 t3_2 out:=gL (σ:=(List UInt8)×(Int)×(Bool)×(Int)×(Int)×(Int)×(List QVT6)) (mk:=fun s=>q54_ s.1 s.2.1 s.2.2.1 s.2.2.2.1 s.2.2.2.2.1 s.2.2.2.2.2.1 s.2.2.2.2.2.2) (by decide) (by kernel_rfl) (fun w5 s=>q14u_.trans (by simp only [q14q_])) (text,line,some',i,t3,t3_2,out)
theorem q132_  (w1 text line i t3 t3_2 out t t_2 t_3 t_4 t_5):ref13_Lex_J 4147711 [w1] (qkl_ text line i t3 t3_2 out t t_2 t_3 t_4 t_5)=q8q_ (fun text line some' i t3 t3_2 out=>w1 (q8_ text line some' i t3 t3_2 out)) text line i t3 t3_2 out t t_2 t_3 t_4 t_5:=gN (by decide) (q11h_.trans (by simp only [qg5_]; rfl))
theorem q13m_  (w1 text line i t130 t3 t3_2 out t t_2 t_3 t_4 t_5):ref13_Lex_J 4147710 [w1] (qkk_ text line i t130 t3 t3_2 out t t_2 t_3 t_4 t_5)=q3h_ (fun text line some' i t3 t3_2 out=>w1 (q8_ text line some' i t3 t3_2 out)) text line i t130 t3 t3_2 out t t_2 t_3 t_4 t_5:=gN (by decide) (q13j_.trans (by simp only [q132_]; rfl))
theorem q12t_  (w1 text line i t3 t3_2 out t t_2 t_3 t_4 t_5):ref13_Lex_J 1036927 [w1] (qjw_ text line i t3 t3_2 out t t_2 t_3 t_4 t_5)=q3o_ (fun text line some' i t3 t3_2 out=>w1 (q8_ text line some' i t3 t3_2 out)) text line i t3 t3_2 out t t_2 t_3 t_4 t_5:=gN (by decide) (q11o_.trans (by simp only [q13m_]; rfl))
theorem q121_  (w1 w12 text line i t110 t3 t3_2 out t t_2 t_3 t_4 t_5):ref13_Lex_J 16590832 [w1,w12] (qjo_ text line i t110 t3 t3_2 out t t_2 t_3 t_4 t_5)=qew_ (fun text line some' i t3 t3_2 out=>w1 (q8_ text line some' i t3 t3_2 out)) (fun text line i t3 t3_2 out t t_2 t_3 t_4 t_5=>w12 (q3p_ text line i t3 t3_2 out t t_2 t_3 t_4 t_5)) text line i t110 t3 t3_2 out t t_2 t_3 t_4 t_5:=gN (by decide) (q12l_.trans (by simp only [q12t_]; rfl))
theorem q134_  (w1 text line i t3 t3_2 out t t_2 t_3 t_4 t_5):ref13_Lex_J 4147708 [w1] (q3p_ text line i t3 t3_2 out t t_2 t_3 t_4 t_5)=q8s_ (fun text line some' i t3 t3_2 out=>w1 (q8_ text line some' i t3 t3_2 out)) text line i t3 t3_2 out t t_2 t_3 t_4 t_5:=gL (σ:=(List UInt8)×(Int)×(Int)×(Int)×(Int)×(List QVT6)×(Int)×(List UInt8)×(Int)×(Int)×(Int)) (mk:=fun s=>q3p_ s.1 s.2.1 s.2.2.1 s.2.2.2.1 s.2.2.2.2.1 s.2.2.2.2.2.1 s.2.2.2.2.2.2.1 s.2.2.2.2.2.2.2.1 s.2.2.2.2.2.2.2.2.1 s.2.2.2.2.2.2.2.2.2.1 s.2.2.2.2.2.2.2.2.2.2) (by decide) (by kernel_rfl) (fun w12 s=>q12w_.trans (by simp only [q121_])) (text,line,i,t3,t3_2,out,t,t_2,t_3,t_4,t_5)
theorem qpg_  (w1 text line i t3 t3_2 out t t_2 t_3 t_4 t_5):ref13_Lex_J 259231 [w1] (qei_ text line i t3 t3_2 out t t_2 t_3 t_4 t_5)=qs_ (fun text line some' i t3 t3_2 out=>w1 (q8_ text line some' i t3 t3_2 out)) text line i t3 t3_2 out t t_2 t_3 t_4 t_5:=gN (by decide) (q12e_.trans (by simp only [q134_]; rfl))
theorem q13h_  (w1 text line i c t79 t3 t3_2 out t t_2 t_3 t_4 t_5):ref13_Lex_J 2073851 [w1] (qk5_ text line i c t79 t3 t3_2 out t t_2 t_3 t_4 t_5)=qdn_ (fun text line some' i t3 t3_2 out=>w1 (q8_ text line some' i t3 t3_2 out)) text line i c t79 t3 t3_2 out t t_2 t_3 t_4 t_5:=gN (by decide) (q12r_.trans (by simp only [qpg_]; rfl))
theorem q14j_  (w1 text line some' i c t68 t3 t3_2 out):ref13_Lex_J 129614 [w1] (qm4_ text line some' i c t68 t3 t3_2 out)=q2b_ (fun text line some' i t3 t3_2 out=>w1 (q8_ text line some' i t3 t3_2 out)) text line some' i c t68 t3 t3_2 out:=gN (by decide) (q14d_.trans (by simp only [qg5_,qpg_,q13h_]; rfl))
theorem q13t_  (w1 text line some' i c t3 t3_2 out):ref13_Lex_J 32403 [w1] (qlk_ text line some' i c t3 t3_2 out)=qa6_ (fun text line some' i t3 t3_2 out=>w1 (q8_ text line some' i t3 t3_2 out)) text line some' i c t3 t3_2 out:=gN (by decide) (q14f_.trans (by simp only [q14j_]; rfl))
theorem q15b_  (w1 text line some' i t31 t3 t3_2 out):ref13_Lex_J 16200 [w1] (qlx_ text line some' i t31 t3 t3_2 out)=q4s_ (fun text line some' i t3 t3_2 out=>w1 (q8_ text line some' i t3 t3_2 out)) text line some' i t31 t3 t3_2 out:=gN (by decide) (q14b_.trans (by simp only [q14e_,q150_,q13t_]; rfl))
theorem q14z_  (t3 t3_2 out):ref13_Lex_J 63 [] (qm1_ t3 t3_2 out)=q7k_ t3 t3_2 out:=gN (by decide) q148_
theorem q13w_  (text line some' i t3 t3_2 out):ref13_Lex_J 506 [] (q8_ text line some' i t3 t3_2 out)=q8e_ text line some' i t3 t3_2 out:=gL (σ:=(List UInt8)×(Int)×(Bool)×(Int)×(Int)×(Int)×(List QVT6)) (mk:=fun s=>q8_ s.1 s.2.1 s.2.2.1 s.2.2.2.1 s.2.2.2.2.1 s.2.2.2.2.2.1 s.2.2.2.2.2.2) (by decide) (by kernel_rfl) (fun w1 s=>q14v_.trans (by simp only [q15b_,q14z_])) (text,line,some',i,t3,t3_2,out)
theorem q162_ (x:As [.str]):evT Try.prog qje_ 6 18446744073709551616 (Ev.get qjg_) 66 qd2_ x=qjm_ x:=by
 rw [qi_,q14s_]
 simp only [q13w_]
 rfl
theorem q14p_:CtOk Try.prog (fun _=>True) 66 ⟨qd2_,qjm_⟩:=qa_ (q2_ qmc_ (q2_ qnx_ (q2_ q11a_ (q2_ qyt_ q6_)))) q162_
@[reducible] def qs3_:Sh:=⟨[.d (.str)],[],[.str],[.d (.bool)],[],0,[.bool]⟩
def qkm_ (s:List UInt8):Option (As [.bool]) :=
 Option.bind (qjm_ (s,())) fun y=>if eqi y.2.1.1 0=true then if eqi (Int.ofNat (List.length y.1)) 2=true then Option.bind (at? y.1 0) fun y_1=>if eqi y_1.1 1=true then Option.bind (at? y.1 0) fun y=>some (eqs y.2.1 s,()) else some (false,()) else some (false,()) else some (false,())
def qlg_ (x:As [.str]):Option (As [.bool]):=qkm_ x.1
theorem q12x_:CtOk Try.prog (fun _=>True) 49 ⟨qs3_,qlg_⟩:=ctn (q2_ q14p_ q6_) 6 fun J x=>by kernel_rfl
@[reducible] def q5x_:Sh:=⟨[.d (.pr .str QVT5)],[],[.pr .str QVT5],[.d (.bool)],[],0,[.bool]⟩
def qef_:Env:=(cts [(45,(⟨q52_,q33_⟩:Ct)),(47,(⟨q94_,q1a_⟩:Ct)),(49,(⟨qs3_,qlg_⟩:Ct))])
def qer_:List (Nat×Hint):=[(58,⟨[],[1,3,34,35,36,37,56,57,58,59,62,63,64,65,66,67,68,69,70]⟩),(233,⟨[],[1,3,34,35,36,37,56,57,58,59,62,63,64,65,66,67,68,69,70]⟩),(14926,⟨[],[1,3,4,5,34,35,36,37,56,57,58,59,62,63,64,65,66,67,68,69,70]⟩),(477641,⟨[.agd 57 QVT9,.agd 58 .bool,.agd 59 .bool,.agd 63 .str,.agd 64 .bool,.agd 65 .bool,.agd 67 .str,.agd 68 .bool,.agd 69 .bool,.agd 70 .bool],[1,3,4,5,71]⟩),(3730,⟨[.agd 35 (.sl (.pr .str QVT7)),.agd 36 (.int .i64),.agd 37 .bool],[1,3,4,38]⟩),(6,⟨[],[1,16,34,35,36,37,56,57,58,59,62,63,64,65,66,67,68,69,70]⟩)]
@[reducible] def zH7:Type:=List UInt8×List QVT1
def qih_ (t16:Bool) (r:zH7):St:=⟨[(1,.pb 0 0),(16,dB t16)],72,[],[(0,.box 42 [dS r.1,.d QVT5 r.2])],1,[],0⟩
def qv_ (i:Int) (r:zH7):St:=⟨[(1,.pb 0 0),(3,dI i)],72,[],[(0,.box 42 [dS r.1,.d QVT5 r.2])],1,[],0⟩
@[reducible] def zH8:Type:=List UInt8×Int×List QVT4
def qit_ (i:Int) (t38:Bool) (r:zH7) (p:zH8):St:=⟨[(1,.pb 0 0),(3,dI i),(4,.pb 1 0),(38,dB t38)],72,[],[(0,.box 42 [dS r.1,.d QVT5 r.2]),(1,.box 80 [dS p.1,dI p.2.1,.d (.sl (.pr .str QVT7)) p.2.2])],2,[],0⟩
def q2m_ (i k:Int) (r:zH7) (p:zH8):St:=⟨[(1,.pb 0 0),(3,dI i),(4,.pb 1 0),(5,dI k)],72,[],[(0,.box 42 [dS r.1,.d QVT5 r.2]),(1,.box 80 [dS p.1,dI p.2.1,.d (.sl (.pr .str QVT7)) p.2.2])],2,[],0⟩
def qi0_ (i k:Int) (t71:Bool) (r:zH7) (p:zH8):St:=⟨[(1,.pb 0 0),(3,dI i),(4,.pb 1 0),(5,dI k),(71,dB t71)],72,[],[(0,.box 42 [dS r.1,.d QVT5 r.2]),(1,.box 80 [dS p.1,dI p.2.1,.d (.sl (.pr .str QVT7)) p.2.2])],2,[],0⟩
def qho_ (i:Int) (r:zH7):St:=⟨[(1,.pb 0 0),(3,dI i)],72,[],[(0,.box 42 [dS r.1,.d QVT5 r.2])],1,[],0⟩
@[reducible] def zH9:Type:=Int->List UInt8×List QVT1->Option (As [.bool])
def qoa_ (j2:zH9) (t16:Bool) (r:zH7):Option (As [.bool]) :=
 if t16=true then some (false,()) else j2 0 r
def qcl_ (j3:Int->Bool->List UInt8×List QVT1->List UInt8×Int×List QVT4->Option (As [.bool])) (self2:zH9) (i:Int) (r:zH7):Option (As [.bool]) :=
 if lt i (Int.ofNat (List.length r.2))=true then Option.bind (at? r.2 i) fun y=>Option.bind (q33_ (y.1,())) fun y_1=>if (!y_1.1)=true then j3 i true r y else j3 i (gt (Int.ofNat (List.length y.2.2)) 64) r y else some (true,())
@[reducible] def zH10:Type:=Int->Int->List UInt8×List QVT1->List UInt8×Int×List QVT4->Option (As [.bool])
def qo0_ (j4:zH10) (self2:zH9) (i:Int) (t38:Bool) (r:zH7) (p:zH8):Option (As [.bool]) :=
 if t38=true then some (false,()) else j4 i 0 r p
def qax_ (j5:Int->Int->Bool->List UInt8×List QVT1->List UInt8×Int×List QVT4->Option (As [.bool])) (j6 self2:zH9) (self4:zH10) (i k:Int) (r:zH7) (p:zH8):Option (As [.bool]) :=
 if lt k (Int.ofNat (List.length p.2.2))=true then Option.bind (at? p.2.2 k) fun y=>Option.bind (q33_ (y.1,())) fun y_1=>if (!y_1.1)=true then j5 i k true r p else Option.bind (q1a_ (y.2.1,())) fun y_2=>if (!y_2.1)=true then j5 i k true r p else if nes y.2.2.1 []=true then Option.bind (qlg_ (y.2.2.1,())) fun y=>j5 i k (!y.1) r p else j5 i k false r p else j6 i r
def qnm_ (self2:zH9) (self4:zH10) (i k:Int) (t71:Bool) (r:zH7) (p:zH8):Option (As [.bool]) :=
 if t71=true then some (false,()) else self4 i (add .i64 k 1) r p
def qnh_ (self2:zH9) (i:Int) (r:zH7):Option (As [.bool]) :=
 self2 (add .i64 i 1) r
def qaw_ (j1:Bool->List UInt8×List QVT1->Option (As [.bool])) (r:zH7):Option (As [.bool]) :=
 Option.bind (q33_ (r.1,())) fun y=>if (!y.1)=true then j1 true r else j1 (gt (Int.ofNat (List.length r.2)) 8) r
def qh1_ (u2:zH9) (u4:zH10):=qnm_ u2 u4
def qok_ (u2:zH9):=qnh_ u2
def qbc_ (u2:zH9) (i k:Int) (r:zH7) (p:zH8):Option (As [.bool]) :=
 loopF (fun self s=>qax_ (qh1_ u2 (fun i k r p=>self (i,k,r,p))) (qok_ u2) u2 (fun i k r p=>self (i,k,r,p)) s.1 s.2.1 s.2.2.1 s.2.2.2) 18446744073709551616 (i,k,r,p)
def qie_ (u2:zH9):=qo0_ (qbc_ u2) u2
def qbl_ (i:Int) (r:zH7):Option (As [.bool]) :=
 loopF (fun self s=>qcl_ (qie_ (fun i r=>self (i,r))) (fun i r=>self (i,r)) s.1 s.2) 18446744073709551616 (i,r)
def qah_:=qoa_ (qbl_)
def qd0_ (x:As [.pr .str QVT5]):Option (As [.bool]):=qaw_ qah_ x.1
noncomputable abbrev ref14_Right_P:=pfn Try.prog qef_ 6 18446744073709551616 (Ev.get qer_) 31 q5x_
theorem qy5_ {J w2 w4 i k t71 r p}:ref14_Right_P J 477641 [w2,w4] (qi0_ i k t71 r p)=qnm_ (fun i r=>w2 (qv_ i r)) (fun i k r p=>w4 (q2m_ i k r p)) i k t71 r p:=by kernel_rfl
theorem qux_ {J w2 i r}:ref14_Right_P J 233 [w2] (qho_ i r)=qnh_ (fun i r=>w2 (qv_ i r)) i r:=by kernel_rfl
theorem qyv_ {J w2 w4 i k r p}:ref14_Right_P J 14926 [w2,w4] (q2m_ i k r p)=qax_ (fun i k t71 r p=>J 477641 [w2,w4] (qi0_ i k t71 r p)) (fun i r=>J 233 [w2] (qho_ i r)) (fun i r=>w2 (qv_ i r)) (fun i k r p=>w4 (q2m_ i k r p)) i k r p:=by kernel_rfl
theorem qvy_ {J w2 i t38 r p}:ref14_Right_P J 3730 [w2] (qit_ i t38 r p)=qo0_ (fun i k r p=>J 14926 [w2] (q2m_ i k r p)) (fun i r=>w2 (qv_ i r)) i t38 r p:=by kernel_rfl
theorem q10i_ {J w2 i r}:ref14_Right_P J 58 [w2] (qv_ i r)=qcl_ (fun i t38 r p=>J 3730 [w2] (qit_ i t38 r p)) (fun i r=>w2 (qv_ i r)) i r:=by kernel_rfl
theorem qyn_ {J t16 r}:ref14_Right_P J 6 [] (qih_ t16 r)=qoa_ (fun i r=>J 58 [] (qv_ i r)) t16 r:=by kernel_rfl
theorem qxy_ (J:Orc (As [.bool])) (x:As [.pr .str QVT5]):rfn Try.prog qef_ 6 18446744073709551616 (Ev.get qer_) 31 q5x_ J x=qaw_ (fun t16 r=>J 6 [] (qih_ t16 r)) x.1:=by kernel_rfl
noncomputable abbrev ref14_Right_J:=jfn Try.prog qef_ 6 18446744073709551616 (Ev.get qer_) 31 q5x_
theorem qup_  (w2 w4 i k t71 r p):ref14_Right_J 477641 [w2,w4] (qi0_ i k t71 r p)=qh1_ (fun i r=>w2 (qv_ i r)) (fun i k r p=>w4 (q2m_ i k r p)) i k t71 r p:=gN (by decide) qy5_
theorem qz6_  (w2 i r):ref14_Right_J 233 [w2] (qho_ i r)=qok_ (fun i r=>w2 (qv_ i r)) i r:=gN (by decide) qux_
theorem qwz_  (w2 i k r p):ref14_Right_J 14926 [w2] (q2m_ i k r p)=qbc_ (fun i r=>w2 (qv_ i r)) i k r p:=gL (σ:=(Int)×(Int)×(List UInt8×List QVT1)×QVT1) (mk:=fun s=>q2m_ s.1 s.2.1 s.2.2.1 s.2.2.2) (by decide) (by kernel_rfl) (fun w4 s=>qyv_.trans (by simp only [qup_,qz6_])) (i,k,r,p)
theorem qvx_  (w2 i t38 r p):ref14_Right_J 3730 [w2] (qit_ i t38 r p)=qie_ (fun i r=>w2 (qv_ i r)) i t38 r p:=gN (by decide) (qvy_.trans (by simp only [qwz_]; rfl))
theorem qxf_  (i r):ref14_Right_J 58 [] (qv_ i r)=qbl_ i r:=gL (σ:=(Int)×(List UInt8×List QVT1)) (mk:=fun s=>qv_ s.1 s.2) (by decide) (by kernel_rfl) (fun w2 s=>q10i_.trans (by simp only [qvx_])) (i,r)
theorem qv5_  (t16 r):ref14_Right_J 6 [] (qih_ t16 r)=qah_ t16 r:=gN (by decide) (qyn_.trans (by simp only [qxf_]; rfl))
theorem q11y_ (x:As [.pr .str QVT5]):evT Try.prog qef_ 6 18446744073709551616 (Ev.get qer_) 31 q5x_ x=qd0_ x:=by
 rw [qi_,qxy_]
 simp only [qv5_]
 rfl
theorem qzk_:CtOk Try.prog (fun _=>True) 31 ⟨q5x_,qd0_⟩:=qa_ (q2_ qpp_ (q2_ qap_ (q2_ q12x_ q6_))) q11y_
@[reducible] def q3k_:Sh:=⟨[.d (.pr .str (.sl (.pr .str QVT2))),.d (.str)],[],[.pr .str (.sl (.pr .str QVT2)),.str],[.d (.int .i64)],[],0,[.int .i64]⟩
def qez_:Env:=(cts [])
def qeo_:List (Nat×Hint):=[(26,⟨[],[1,2,5]⟩)]
@[reducible] def zH11:Type:=List UInt8×List QVT0
def q87_ (name:List UInt8) (i:Int) (d:zH11):St:=⟨[(1,dS name),(2,.pb 0 0),(5,dI i)],22,[],[(0,.box 67 [dS d.1,.d (.sl (.pr .str QVT2)) d.2])],1,[],0⟩
@[reducible] def zH12:Type:=List UInt8->Int->List UInt8×List QVT0->Option (As [.int .i64])
def qaf_ (self1:zH12) (name:List UInt8) (i:Int) (d:zH11):Option (As [.int .i64]) :=
 if lt i (Int.ofNat (List.length d.2))=true then Option.bind (at? d.2 i) fun y=>if eqs y.1 name=true then some (i,()) else self1 name (add .i64 i 1) d else some (-1,())
def qn8_ (j1:zH12) (d:zH11) (name:List UInt8):Option (As [.int .i64]) :=
 j1 name 0 d
def qae_ (name:List UInt8) (i:Int) (d:zH11):Option (As [.int .i64]) :=
 loopF (fun self s=>qaf_ (fun name i d=>self (name,i,d)) s.1 s.2.1 s.2.2) 18446744073709551616 (name,i,d)
def q41_ (x:As [.pr .str (.sl (.pr .str QVT2)),.str]):Option (As [.int .i64]):=qn8_ qae_ x.1 x.2.1
noncomputable abbrev ref15_Point_P:=pfn Try.prog qez_ 6 18446744073709551616 (Ev.get qeo_) 32 q3k_
theorem qye_ {J w1 name i d}:ref15_Point_P J 26 [w1] (q87_ name i d)=qaf_ (fun name i d=>w1 (q87_ name i d)) name i d:=by kernel_rfl
theorem qw6_ (J:Orc (As [.int .i64])) (x:As [.pr .str (.sl (.pr .str QVT2)),.str]):rfn Try.prog qez_ 6 18446744073709551616 (Ev.get qeo_) 32 q3k_ J x=qn8_ (fun name i d=>J 26 [] (q87_ name i d)) x.1 x.2.1:=by kernel_rfl
noncomputable abbrev ref15_Point_J:=jfn Try.prog qez_ 6 18446744073709551616 (Ev.get qeo_) 32 q3k_
theorem qvn_  (name i d):ref15_Point_J 26 [] (q87_ name i d)=qae_ name i d:=gL (σ:=(List UInt8)×(Int)×(List UInt8×List QVT0)) (mk:=fun s=>q87_ s.1 s.2.1 s.2.2) (by decide) (by kernel_rfl) (fun w1 s=>qye_) (name,i,d)
theorem q12j_ (x:As [.pr .str (.sl (.pr .str QVT2)),.str]):evT Try.prog qez_ 6 18446744073709551616 (Ev.get qeo_) 32 q3k_ x=q41_ x:=by
 rw [qi_,qw6_]
 simp only [qvn_]
 rfl
theorem qnr_:CtOk Try.prog (fun _=>True) 32 ⟨q3k_,q41_⟩:=qa_ q6_ q12j_
@[reducible] def q4f_:Sh:=⟨[.d (.int .i64),.d (.int .i64)],[],[.int .i64,.int .i64],[.d (.int .i64)],[],0,[.int .i64]⟩
def qcr_:Env:=(cts [])
def qau_:List (Nat×Hint):=[(12,⟨[],[0,1]⟩)]
def q6d_ (a b:Int):St:=⟨[(0,dI a),(1,dI b)],12,[],[],0,[],0⟩
def q6f_ (self1:Int->Int->Option (As [.int .i64])) (a b:Int):Option (As [.int .i64]) :=
 if nei b 0=true then need (nei b 0) (self1 b (rem a b)) else some (a,())
def qmq_ (j1:Int->Int->Option (As [.int .i64])) (a b:Int):Option (As [.int .i64]) :=
 j1 a b
def qmy_ (a b:Int):Option (As [.int .i64]) :=
 loopF (fun self s=>q6f_ (fun a b=>self (a,b)) s.1 s.2) 18446744073709551616 (a,b)
def q20_ (x:As [.int .i64,.int .i64]):Option (As [.int .i64]):=qmq_ qmy_ x.1 x.2.1
noncomputable abbrev ref12_common_P:=pfn Try.prog qcr_ 6 18446744073709551616 (Ev.get qau_) 82 q4f_
theorem qtl_ {J w1 a b}:ref12_common_P J 12 [w1] (q6d_ a b)=q6f_ (fun a b=>w1 (q6d_ a b)) a b:=by kernel_rfl
theorem qte_ (J:Orc (As [.int .i64])) (x:As [.int .i64,.int .i64]):rfn Try.prog qcr_ 6 18446744073709551616 (Ev.get qau_) 82 q4f_ J x=qmq_ (fun a b=>J 12 [] (q6d_ a b)) x.1 x.2.1:=by kernel_rfl
noncomputable abbrev ref12_common_J:=jfn Try.prog qcr_ 6 18446744073709551616 (Ev.get qau_) 82 q4f_
theorem qtj_  (a b):ref12_common_J 12 [] (q6d_ a b)=qmy_ a b:=gL (σ:=(Int)×(Int)) (mk:=fun s=>q6d_ s.1 s.2) (by decide) (by kernel_rfl) (fun w1 s=>qtl_) (a,b)
theorem qyr_ (x:As [.int .i64,.int .i64]):evT Try.prog qcr_ 6 18446744073709551616 (Ev.get qau_) 82 q4f_ x=q20_ x:=by
 rw [qi_,qte_]
 simp only [qtj_]
 rfl
theorem qu1_:CtOk Try.prog (fun _=>True) 82 ⟨q4f_,q20_⟩:=qa_ q6_ qyr_
@[reducible] def q5p_:Sh:=⟨[.d QVT9,.d (.int .i64),.d (.int .i64)],[],[.pr (.int .i64) (.int .u8),.int .i64,.int .i64],[.d QVT9,.d (.bool)],[],0,[.pr (.int .i64) (.int .u8),.bool]⟩
def qdw_:Env:=(cts [(47,(⟨q94_,q1a_⟩:Ct)),(82,(⟨q4f_,q20_⟩:Ct)),(83,(⟨q8m_,q9u_⟩:Ct))])
def qf3_:List (Nat×Hint):=[(15,⟨[],[1,2,3,6,8,9]⟩),(2047,⟨[],[1,2,6,8,9,11]⟩),(131071,⟨[],[6]⟩),(1048570,⟨[],[1,6,8,9,13,14]⟩),(16378,⟨[],[1,2,3,6,8,9,11,12]⟩),(6,⟨[],[1,2,3,6,33]⟩)]
def qh6_ (num den:Int) (t33:Bool) (d d_2 t6 t6_2:Int):St:=⟨[(1,dI num),(2,dI den),(3,.pb 0 0),(6,.pb 1 0),(33,dB t33)],128,[],[(0,.box 75 [dI d,d8 d_2]),(1,.box 75 [dI t6,d8 t6_2])],2,[],0⟩
def qia_ (num den n sign d d_2 t6 t6_2:Int):St:=⟨[(1,dI num),(2,dI den),(3,.pb 0 0),(6,.pb 1 0),(8,dI n),(9,dI sign)],128,[],[(0,.box 75 [dI d,d8 d_2]),(1,.box 75 [dI t6,d8 t6_2])],2,[],0⟩
def q85_ (num den n sign ten i d d_2 t6 t6_2:Int):St:=⟨[(1,dI num),(2,dI den),(3,.pb 0 0),(6,.pb 1 0),(8,dI n),(9,dI sign),(11,dI ten),(12,dI i)],128,[],[(0,.box 75 [dI d,d8 d_2]),(1,.box 75 [dI t6,d8 t6_2])],2,[],0⟩
def qi9_ (num den n sign ten t6 t6_2:Int):St:=⟨[(1,dI num),(2,dI den),(6,.pb 0 0),(8,dI n),(9,dI sign),(11,dI ten)],128,[],[(0,.box 75 [dI t6,d8 t6_2])],1,[],0⟩
def q86_ (num n sign below k t6 t6_2:Int):St:=⟨[(1,dI num),(6,.pb 0 0),(8,dI n),(9,dI sign),(13,dI below),(14,dI k)],128,[],[(0,.box 75 [dI t6,d8 t6_2])],1,[],0⟩
def qhn_ (t6 t6_2:Int):St:=⟨[(6,.pb 0 0)],128,[],[(0,.box 75 [dI t6,d8 t6_2])],1,[],0⟩
def qhh_ (j2:Int->Int->Int->Int->Int->Int->Int->Int->Option (As [.pr (.int .i64) (.int .u8),.bool])) (num den:Int) (t33:Bool) (d d_2 t6 t6_2:Int):Option (As [.pr (.int .i64) (.int .u8),.bool]) :=
 if t33=true then some ((0,0),false,()) else if lt d 0=true then j2 num den (Sx.neg .i64 d) (-1) d d_2 t6 t6_2 else j2 num den d 1 d d_2 t6 t6_2
@[reducible] def zH13:Type:=Int->Int->Int->Int->Int->Int->Int->Int->Int->Int->Option (As [.pr (.int .i64) (.int .u8),.bool])
def qhv_ (j3:zH13) (num den n sign d d_2 t6 t6_2:Int):Option (As [.pr (.int .i64) (.int .u8),.bool]) :=
 if eqi n 0=true then some ((0,0),true,()) else Option.bind (q20_ (n,den,())) fun y=>need (nei y.1 0) (need (nei y.1 0) (Option.bind (q20_ (num,quo .i64 den y.1,())) fun y_1=>need (nei y_1.1 0) (need (nei y_1.1 0) (j3 (quo .i64 num y_1.1) (quo .i64 (quo .i64 den y.1) y_1.1) (quo .i64 n y.1) sign 1 0 d d_2 t6 t6_2))))
@[reducible] def zH14:Type:=Int->Int->Int->Int->Int->Int->Int->Option (As [.pr (.int .i64) (.int .u8),.bool])
def q4p_ (j4:zH14) (self3:zH13) (num den n sign ten i d d_2 t6 t6_2:Int):Option (As [.pr (.int .i64) (.int .u8),.bool]) :=
 if lt i (cvt .i64 d_2)=true then self3 num den n sign (mul .i64 ten 10) (add .i64 i 1) d d_2 t6 t6_2 else j4 num den n sign ten t6 t6_2
def qhe_ (j5:zH14) (num den n sign ten t6 t6_2:Int):Option (As [.pr (.int .i64) (.int .u8),.bool]) :=
 Option.bind (q20_ (num,ten,())) fun y=>need (nei y.1 0) (need (nei y.1 0) (Option.bind (q20_ (n,quo .i64 ten y.1,())) fun y_1=>need (nei y_1.1 0) (need (nei y_1.1 0) (j5 (quo .i64 num y.1) (quo .i64 n y_1.1) sign (mul .i64 den (quo .i64 (quo .i64 ten y.1) y_1.1)) 0 t6 t6_2))))
def q4l_ (j6:Int->Int->Option (As [.pr (.int .i64) (.int .u8),.bool])) (self5:zH14) (num n sign below k t6 t6_2:Int):Option (As [.pr (.int .i64) (.int .u8),.bool]) :=
 if le k 6=true then if eqi below 1=true then need (nei num 0) (if gt n (quo .i64 4000000000000000000 num)=true then some ((0,0),false,()) else Option.bind (q9u_ (mul .i64 (mul .i64 sign n) num,k,())) fun y=>some (y.1,y.2.1,())) else Option.bind (q20_ (below,10,())) fun y=>need (nei y.1 0) (need (nei y.1 0) (need (nei (quo .i64 10 y.1) 0) (if gt n (quo .i64 4000000000000000000 (quo .i64 10 y.1))=true then some ((0,0),false,()) else need (nei y.1 0) (self5 num (mul .i64 n (quo .i64 10 y.1)) sign (quo .i64 below y.1) (add .i64 k 1) t6 t6_2)))) else j6 t6 t6_2
def qog_ (t6 t6_2:Int):Option (As [.pr (.int .i64) (.int .u8),.bool]) :=
 some ((0,0),false,())
def q49_ (j1:Int->Int->Bool->Int->Int->Int->Int->Option (As [.pr (.int .i64) (.int .u8),.bool])) (d:Int×Int) (num den:Int):Option (As [.pr (.int .i64) (.int .u8),.bool]) :=
 Option.bind (q1a_ (d,())) fun y=>if (!y.1)=true then j1 num den true d.1 d.2 0 0 else if lt num 1=true then j1 num den true d.1 d.2 0 0 else if gt num 1000000000=true then j1 num den true d.1 d.2 0 0 else if lt den 1=true then j1 num den true d.1 d.2 0 0 else j1 num den (gt den 1000000000) d.1 d.2 0 0
def qcb_:=qog_
def qj2_ (num n sign below k t6 t6_2:Int):Option (As [.pr (.int .i64) (.int .u8),.bool]) :=
 loopF (fun self s=>q4l_ (qcb_) (fun num n sign below k t6 t6_2=>self (num,n,sign,below,k,t6,t6_2)) s.1 s.2.1 s.2.2.1 s.2.2.2.1 s.2.2.2.2.1 s.2.2.2.2.2.1 s.2.2.2.2.2.2) 18446744073709551616 (num,n,sign,below,k,t6,t6_2)
def q2v_:=qhe_ (qj2_)
def qiq_ (num den n sign ten i d d_2 t6 t6_2:Int):Option (As [.pr (.int .i64) (.int .u8),.bool]) :=
 loopF (fun self s=>q4p_ (q2v_) (fun num den n sign ten i d d_2 t6 t6_2=>self (num,den,n,sign,ten,i,d,d_2,t6,t6_2)) s.1 s.2.1 s.2.2.1 s.2.2.2.1 s.2.2.2.2.1 s.2.2.2.2.2.1 s.2.2.2.2.2.2.1 s.2.2.2.2.2.2.2.1 s.2.2.2.2.2.2.2.2.1 s.2.2.2.2.2.2.2.2.2) 18446744073709551616 (num,den,n,sign,ten,i,d,d_2,t6,t6_2)
def q4q_:=qhv_ (qiq_)
def q78_:=qhh_ (q4q_)
def q6x_ (x:As [.pr (.int .i64) (.int .u8),.int .i64,.int .i64]):Option (As [.pr (.int .i64) (.int .u8),.bool]):=q49_ q78_ x.1 x.2.1 x.2.2.1
noncomputable abbrev ref12_Times_P:=pfn Try.prog qdw_ 6 18446744073709551616 (Ev.get qf3_) 67 q5p_
theorem qyp_ {J t6 t6_2}:ref12_Times_P J 131071 [] (qhn_ t6 t6_2)=qog_ t6 t6_2:=by kernel_rfl
theorem qvw_ {J w5 num n sign below k t6 t6_2}:ref12_Times_P J 1048570 [w5] (q86_ num n sign below k t6 t6_2)=q4l_ (fun t6 t6_2=>J 131071 [] (qhn_ t6 t6_2)) (fun num n sign below k t6 t6_2=>w5 (q86_ num n sign below k t6 t6_2)) num n sign below k t6 t6_2:=by kernel_rfl
theorem qui_ {J num den n sign ten t6 t6_2}:ref12_Times_P J 2047 [] (qi9_ num den n sign ten t6 t6_2)=qhe_ (fun num n sign below k t6 t6_2=>J 1048570 [] (q86_ num n sign below k t6 t6_2)) num den n sign ten t6 t6_2:=by kernel_rfl
theorem qwt_ {J w3 num den n sign ten i d d_2 t6 t6_2}:ref12_Times_P J 16378 [w3] (q85_ num den n sign ten i d d_2 t6 t6_2)=q4p_ (fun num den n sign ten t6 t6_2=>J 2047 [] (qi9_ num den n sign ten t6 t6_2)) (fun num den n sign ten i d d_2 t6 t6_2=>w3 (q85_ num den n sign ten i d d_2 t6 t6_2)) num den n sign ten i d d_2 t6 t6_2:=by kernel_rfl
theorem quv_ {J num den n sign d d_2 t6 t6_2}:ref12_Times_P J 15 [] (qia_ num den n sign d d_2 t6 t6_2)=qhv_ (fun num den n sign ten i d d_2 t6 t6_2=>J 16378 [] (q85_ num den n sign ten i d d_2 t6 t6_2)) num den n sign d d_2 t6 t6_2:=by kernel_rfl
theorem qvu_ {J num den t33 d d_2 t6 t6_2}:ref12_Times_P J 6 [] (qh6_ num den t33 d d_2 t6 t6_2)=qhh_ (fun num den n sign d d_2 t6 t6_2=>J 15 [] (qia_ num den n sign d d_2 t6 t6_2)) num den t33 d d_2 t6 t6_2:=by kernel_rfl
theorem qyz_ (J:Orc (As [.pr (.int .i64) (.int .u8),.bool])) (x:As [.pr (.int .i64) (.int .u8),.int .i64,.int .i64]):rfn Try.prog qdw_ 6 18446744073709551616 (Ev.get qf3_) 67 q5p_ J x=q49_ (fun num den t33 d d_2 t6 t6_2=>J 6 [] (qh6_ num den t33 d d_2 t6 t6_2)) x.1 x.2.1 x.2.2.1:=by kernel_rfl
noncomputable abbrev ref12_Times_J:=jfn Try.prog qdw_ 6 18446744073709551616 (Ev.get qf3_) 67 q5p_
theorem qwk_  (t6 t6_2):ref12_Times_J 131071 [] (qhn_ t6 t6_2)=qcb_ t6 t6_2:=gN (by decide) qyp_
theorem qx2_  (num n sign below k t6 t6_2):ref12_Times_J 1048570 [] (q86_ num n sign below k t6 t6_2)=qj2_ num n sign below k t6 t6_2:=gL (σ:=(Int)×(Int)×(Int)×(Int)×(Int)×(Int)×(Int)) (mk:=fun s=>q86_ s.1 s.2.1 s.2.2.1 s.2.2.2.1 s.2.2.2.2.1 s.2.2.2.2.2.1 s.2.2.2.2.2.2) (by decide) (by kernel_rfl) (fun w5 s=>qvw_.trans (by simp only [qwk_])) (num,n,sign,below,k,t6,t6_2)
theorem quq_  (num den n sign ten t6 t6_2):ref12_Times_J 2047 [] (qi9_ num den n sign ten t6 t6_2)=q2v_ num den n sign ten t6 t6_2:=gN (by decide) (qui_.trans (by simp only [qx2_]; rfl))
theorem qzp_  (num den n sign ten i d d_2 t6 t6_2):ref12_Times_J 16378 [] (q85_ num den n sign ten i d d_2 t6 t6_2)=qiq_ num den n sign ten i d d_2 t6 t6_2:=gL (σ:=(Int)×(Int)×(Int)×(Int)×(Int)×(Int)×(Int)×(Int)×(Int)×(Int)) (mk:=fun s=>q85_ s.1 s.2.1 s.2.2.1 s.2.2.2.1 s.2.2.2.2.1 s.2.2.2.2.2.1 s.2.2.2.2.2.2.1 s.2.2.2.2.2.2.2.1 s.2.2.2.2.2.2.2.2.1 s.2.2.2.2.2.2.2.2.2) (by decide) (by kernel_rfl) (fun w3 s=>qwt_.trans (by simp only [quq_])) (num,den,n,sign,ten,i,d,d_2,t6,t6_2)
theorem qx5_  (num den n sign d d_2 t6 t6_2):ref12_Times_J 15 [] (qia_ num den n sign d d_2 t6 t6_2)=q4q_ num den n sign d d_2 t6 t6_2:=gN (by decide) (quv_.trans (by simp only [qzp_]; rfl))
theorem qus_  (num den t33 d d_2 t6 t6_2):ref12_Times_J 6 [] (qh6_ num den t33 d d_2 t6 t6_2)=q78_ num den t33 d d_2 t6 t6_2:=gN (by decide) (qvu_.trans (by simp only [qx5_]; rfl))
theorem q11u_ (x:As [.pr (.int .i64) (.int .u8),.int .i64,.int .i64]):evT Try.prog qdw_ 6 18446744073709551616 (Ev.get qf3_) 67 q5p_ x=q6x_ x:=by
 rw [qi_,qyz_]
 simp only [qus_]
 rfl
theorem q102_:CtOk Try.prog (fun _=>True) 67 ⟨q5p_,q6x_⟩:=qa_ (q2_ qap_ (q2_ qu1_ (q2_ qsq_ q6_))) q11u_
@[reducible] def qbh_:Sh:=⟨[.d QVT9,.d (.str),.d (.str)],[],[.pr (.int .i64) (.int .u8),.str,.str],[.d QVT9,.d (.bool)],[],0,[.pr (.int .i64) (.int .u8),.bool]⟩
def qlb_:Env:=(cts [(46,(⟨q3j_,q45_⟩:Ct)),(67,(⟨q5p_,q6x_⟩:Ct))])
def qla_:List (Nat×Hint):=[(30,⟨[],[3,6,8,10,34]⟩)]
def qn1_ (t34:Bool) (d d_2 t6 t6_2:Int) (a:List UInt8) (a_2 a_3:Int) (b:List UInt8) (b_2 b_3:Int):St:=⟨[(3,.pb 0 0),(6,.pb 1 0),(8,.pb 2 0),(10,.pb 3 0),(34,dB t34)],50,[],[(0,.box 75 [dI d,d8 d_2]),(1,.box 75 [dI t6,d8 t6_2]),(2,.box 103 [dS a,dI a_2,dI a_3]),(3,.box 103 [dS b,dI b_2,dI b_3])],4,[],0⟩
def qn2_ (t34:Bool) (d d_2 t6 t6_2:Int) (a:List UInt8) (a_2 a_3:Int) (b:List UInt8) (b_2 b_3:Int):Option (As [.pr (.int .i64) (.int .u8),.bool]) :=
 if t34=true then some ((0,0),false,()) else Option.bind (q6x_ ((d,d_2),mul .i64 a_2 b_3,mul .i64 a_3 b_2,())) fun y=>some (y.1,y.2.1,())
def qj7_ (j1:Bool->Int->Int->Int->Int->List UInt8->Int->Int->List UInt8->Int->Int->Option (As [.pr (.int .i64) (.int .u8),.bool])) (d:Int×Int) (from' to':List UInt8):Option (As [.pr (.int .i64) (.int .u8),.bool]) :=
 Option.bind (q45_ (from',())) fun y=>Option.bind (q45_ (to',())) fun y_1=>if (!y.2.1)=true then j1 true d.1 d.2 0 0 y.1.1 y.1.2.1 y.1.2.2 y_1.1.1 y_1.1.2.1 y_1.1.2.2 else if (!y_1.2.1)=true then j1 true d.1 d.2 0 0 y.1.1 y.1.2.1 y.1.2.2 y_1.1.1 y_1.1.2.1 y_1.1.2.2 else j1 (nes y.1.1 y_1.1.1) d.1 d.2 0 0 y.1.1 y.1.2.1 y.1.2.2 y_1.1.1 y_1.1.2.1 y_1.1.2.2
def q44_:=qn2_
def qiz_ (x:As [.pr (.int .i64) (.int .u8),.str,.str]):Option (As [.pr (.int .i64) (.int .u8),.bool]):=qj7_ q44_ x.1 x.2.1 x.2.2.1
noncomputable abbrev ref12_To_P:=pfn Try.prog qlb_ 6 18446744073709551616 (Ev.get qla_) 50 qbh_
theorem q16a_ {J t34 d d_2 t6 t6_2 a a_2 a_3 b b_2 b_3}:ref12_To_P J 30 [] (qn1_ t34 d d_2 t6 t6_2 a a_2 a_3 b b_2 b_3)=qn2_ t34 d d_2 t6 t6_2 a a_2 a_3 b b_2 b_3:=by kernel_rfl
theorem q15z_ (J:Orc (As [.pr (.int .i64) (.int .u8),.bool])) (x:As [.pr (.int .i64) (.int .u8),.str,.str]):rfn Try.prog qlb_ 6 18446744073709551616 (Ev.get qla_) 50 qbh_ J x=qj7_ (fun t34 d d_2 t6 t6_2 a a_2 a_3 b b_2 b_3=>J 30 [] (qn1_ t34 d d_2 t6 t6_2 a a_2 a_3 b b_2 b_3)) x.1 x.2.1 x.2.2.1:=by kernel_rfl
noncomputable abbrev ref12_To_J:=jfn Try.prog qlb_ 6 18446744073709551616 (Ev.get qla_) 50 qbh_
theorem q169_  (t34 d d_2 t6 t6_2 a a_2 a_3 b b_2 b_3):ref12_To_J 30 [] (qn1_ t34 d d_2 t6 t6_2 a a_2 a_3 b b_2 b_3)=q44_ t34 d d_2 t6 t6_2 a a_2 a_3 b b_2 b_3:=gN (by decide) q16a_
theorem q16e_ (x:As [.pr (.int .i64) (.int .u8),.str,.str]):evT Try.prog qlb_ 6 18446744073709551616 (Ev.get qla_) 50 qbh_ x=qiz_ x:=by
 rw [qi_,q15z_]
 simp only [q169_]
 rfl
theorem q168_:CtOk Try.prog (fun _=>True) 50 ⟨qbh_,qiz_⟩:=qa_ (q2_ qnl_ (q2_ q102_ q6_)) q16e_
@[reducible] def q7d_:Sh:=⟨[.d QVT9,.d (.int .i64),.d (.bool)],[],[.pr (.int .i64) (.int .u8),.int .i64,.bool],[.d (.int .u16),.d (.bool)],[],0,[.int .u16,.bool]⟩
def qgb_:Env:=(cts [(47,(⟨q94_,q1a_⟩:Ct))])
def qfu_:List (Nat×Hint):=[(15,⟨[],[2,8,44,45,54,55]⟩),(31,⟨[],[8,54,55]⟩),(126,⟨[],[8,56]⟩),(500,⟨[],[8,46,54,55]⟩),(122,⟨[],[1,2,8,9,44,45,54,55]⟩),(6,⟨[],[1,2,3,27,44,45,54,55]⟩)]
def qjs_ (digits:Int) (signed t27:Bool) (d:Int×Int):St:=⟨[(1,dI digits),(2,dB signed),(3,.pb 0 0),(27,dB t27)],59,[],[(0,.box 75 [dI d.1,d8 d.2])],1,[],0⟩
def q8u_ (digits:Int) (signed:Bool) (n i:Int):St:=⟨[(1,dI digits),(2,dB signed),(8,dI n),(9,dI i)],59,[],[],0,[],0⟩
def qk3_ (signed:Bool) (n:Int):St:=⟨[(2,dB signed),(8,dI n)],59,[],[],0,[],0⟩
def qky_ (n:Int) (t46:Bool):St:=⟨[(8,dI n),(46,dB t46)],59,[],[],0,[],0⟩
def qe7_ (n:Int):St:=⟨[(8,dI n)],59,[],[],0,[],0⟩
def qk6_ (n:Int) (t56:Bool):St:=⟨[(8,dI n),(56,dB t56)],59,[],[],0,[],0⟩
def qjr_ (j2:Int->Bool->Int->Int->Option (As [.int .u16,.bool])) (digits:Int) (signed t27:Bool) (d:Int×Int):Option (As [.int .u16,.bool]) :=
 if t27=true then some (0,false,()) else j2 digits signed d.1 (cvt .i64 d.2)
def q5s_ (j3:Bool->Int->Option (As [.int .u16,.bool])) (self2:Int->Bool->Int->Int->Option (As [.int .u16,.bool])) (digits:Int) (signed:Bool) (n i:Int):Option (As [.int .u16,.bool]) :=
 if lt i digits=true then self2 digits signed (mul .i64 n 10) (add .i64 i 1) else j3 signed n
def qki_ (j4:Int->Bool->Option (As [.int .u16,.bool])) (j5:Int->Option (As [.int .u16,.bool])) (signed:Bool) (n:Int):Option (As [.int .u16,.bool]) :=
 if signed=true then if lt n (-32768)=true then j4 n true else j4 n (gt n 32767) else j5 n
def qk1_ (j5:Int->Option (As [.int .u16,.bool])) (n:Int) (t46:Bool):Option (As [.int .u16,.bool]) :=
 if t46=true then some (0,false,()) else if lt n 0=true then j5 (add .i64 n 65536) else j5 n
def qk0_ (j6:Int->Bool->Option (As [.int .u16,.bool])) (n:Int):Option (As [.int .u16,.bool]) :=
 if lt n 0=true then j6 n true else j6 n (gt n 65535)
def qkr_ (n:Int) (t56:Bool):Option (As [.int .u16,.bool]) :=
 if t56=true then some (0,false,()) else some (cvt .u16 n,true,())
def qe5_ (j1:Int->Bool->Bool->Int×Int->Option (As [.int .u16,.bool])) (d:Int×Int) (digits:Int) (signed:Bool):Option (As [.int .u16,.bool]) :=
 Option.bind (q1a_ (d,())) fun y=>if (!y.1)=true then j1 digits signed true d else if lt digits 0=true then j1 digits signed true d else if gt digits 6=true then j1 digits signed true d else j1 digits signed (gt (cvt .i64 d.2) digits) d
def qk7_:=qkr_
def q8w_:=qk0_ (qk7_)
def qjx_:=qk1_ (q8w_)
def q3i_:=qki_ (qjx_) (q8w_)
def qk8_ (digits:Int) (signed:Bool) (n i:Int):Option (As [.int .u16,.bool]) :=
 loopF (fun self s=>q5s_ (q3i_) (fun digits signed n i=>self (digits,signed,n,i)) s.1 s.2.1 s.2.2.1 s.2.2.2) 18446744073709551616 (digits,signed,n,i)
def q91_:=qjr_ (qk8_)
def qam_ (x:As [.pr (.int .i64) (.int .u8),.int .i64,.bool]):Option (As [.int .u16,.bool]):=qe5_ q91_ x.1 x.2.1 x.2.2.1
noncomputable abbrev ref12_Word_P:=pfn Try.prog qgb_ 6 18446744073709551616 (Ev.get qfu_) 51 q7d_
theorem q11g_ {J n t56}:ref12_Word_P J 126 [] (qk6_ n t56)=qkr_ n t56:=by kernel_rfl
theorem q128_ {J n}:ref12_Word_P J 31 [] (qe7_ n)=qk0_ (fun n t56=>J 126 [] (qk6_ n t56)) n:=by kernel_rfl
theorem q127_ {J n t46}:ref12_Word_P J 500 [] (qky_ n t46)=qk1_ (fun n=>J 31 [] (qe7_ n)) n t46:=by kernel_rfl
theorem q10w_ {J signed n}:ref12_Word_P J 15 [] (qk3_ signed n)=qki_ (fun n t46=>J 500 [] (qky_ n t46)) (fun n=>J 31 [] (qe7_ n)) signed n:=by kernel_rfl
theorem q117_ {J w2 digits signed n i}:ref12_Word_P J 122 [w2] (q8u_ digits signed n i)=q5s_ (fun signed n=>J 15 [] (qk3_ signed n)) (fun digits signed n i=>w2 (q8u_ digits signed n i)) digits signed n i:=by kernel_rfl
theorem q12m_ {J digits signed t27 d}:ref12_Word_P J 6 [] (qjs_ digits signed t27 d)=qjr_ (fun digits signed n i=>J 122 [] (q8u_ digits signed n i)) digits signed t27 d:=by kernel_rfl
theorem q13o_ (J:Orc (As [.int .u16,.bool])) (x:As [.pr (.int .i64) (.int .u8),.int .i64,.bool]):rfn Try.prog qgb_ 6 18446744073709551616 (Ev.get qfu_) 51 q7d_ J x=qe5_ (fun digits signed t27 d=>J 6 [] (qjs_ digits signed t27 d)) x.1 x.2.1 x.2.2.1:=by kernel_rfl
noncomputable abbrev ref12_Word_J:=jfn Try.prog qgb_ 6 18446744073709551616 (Ev.get qfu_) 51 q7d_
theorem q10y_  (n t56):ref12_Word_J 126 [] (qk6_ n t56)=qk7_ n t56:=gN (by decide) q11g_
theorem qp9_  (n):ref12_Word_J 31 [] (qe7_ n)=q8w_ n:=gN (by decide) (q128_.trans (by simp only [q10y_]; rfl))
theorem q11j_  (n t46):ref12_Word_J 500 [] (qky_ n t46)=qjx_ n t46:=gN (by decide) (q127_.trans (by simp only [qp9_]; rfl))
theorem q11r_  (signed n):ref12_Word_J 15 [] (qk3_ signed n)=q3i_ signed n:=gN (by decide) (q10w_.trans (by simp only [q11j_,qp9_]; rfl))
theorem q11x_  (digits signed n i):ref12_Word_J 122 [] (q8u_ digits signed n i)=qk8_ digits signed n i:=gL (σ:=(Int)×(Bool)×(Int)×(Int)) (mk:=fun s=>q8u_ s.1 s.2.1 s.2.2.1 s.2.2.2) (by decide) (by kernel_rfl) (fun w2 s=>q117_.trans (by simp only [q11r_])) (digits,signed,n,i)
theorem q13g_  (digits signed t27 d):ref12_Word_J 6 [] (qjs_ digits signed t27 d)=q91_ digits signed t27 d:=gN (by decide) (q12m_.trans (by simp only [q11x_]; rfl))
theorem q15d_ (x:As [.pr (.int .i64) (.int .u8),.int .i64,.bool]):evT Try.prog qgb_ 6 18446744073709551616 (Ev.get qfu_) 51 q7d_ x=qam_ x:=by
 rw [qi_,q13o_]
 simp only [q13g_]
 rfl
theorem q13i_:CtOk Try.prog (fun _=>True) 51 ⟨q7d_,qam_⟩:=qa_ (q2_ qap_ q6_) q15d_
end Go.Proofs.Lx
end
