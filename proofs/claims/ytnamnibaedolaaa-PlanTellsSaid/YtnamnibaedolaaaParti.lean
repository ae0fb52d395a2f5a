/- Part 9 of 14: PlanTells returns true, whatever it is given. Conditions: those of the given statement, no others. -/
import Derived.Test.YtnamnibaedolaaaPartd
import Derived.Test.YtnamnibaedolaaaParth
import Derived.Test.YtnamnibaedolaaaProg
import Derived.Test.YtnamnibaedolaaaParte
import Derived.Test.YtnamnibaedolaaaPartf
import Derived.Lib.ItoaNum
set_option linter.unusedVariables false
set_option linter.unusedSimpArgs false
section
open Go Go.Proofs Ev Sx
set_option maxRecDepth 100000
namespace Go.Proofs.Lx
@[reducible] def q4z_:Sh:=⟨[.d (.pr .str QVT2),.d (.pr .str QVT7)],[],[.pr .str QVT2,.pr .str QVT7],[.d (.int .u16),.d (.int .i64)],[],0,[.int .u16,.int .i64]⟩
def qg7_:Env:=(cts [(48,(⟨qn0_,q8i_⟩:Ct)),(50,(⟨qbh_,qiz_⟩:Ct)),(51,(⟨q7d_,qam_⟩:Ct))])
def qg2_:List (Nat×Hint):=[(62,⟨[],[8,46]⟩)]
def qkn_ (w:Int) (t46:Bool):St:=⟨[(8,d6 w),(46,dB t46)],48,[],[],0,[],0⟩
def qp2_ (w:Int) (t46:Bool):Option (As [.int .u16,.int .i64]) :=
 if t46=true then some (0,153,()) else some (w,0,())
@[reducible] def zI0:Type:=List UInt8×(Int×Int)×List UInt8×Int
def qet_ (j1:Int->Bool->Option (As [.int .u16,.int .i64])) (p:List UInt8×Int×Int×Bool×(Int×Int)×(Int×Int)×List UInt8) (s:zI0):Option (As [.int .u16,.int .i64]) :=
 Option.bind (qiz_ (s.2.1,s.2.2.1,p.2.2.2.2.2.2,())) fun y=>if (!y.2.1)=true then some (0,152,()) else Option.bind (qam_ (y.1,p.2.2.1,p.2.2.2.1,())) fun y_1=>Option.bind (q8i_ (y.1,p.2.2.2.2.1,())) fun y_2=>if lt y_2.1 0=true then j1 y_1.1 true else Option.bind (q8i_ (y.1,p.2.2.2.2.2.1,())) fun y=>if gt y.1 0=true then j1 y_1.1 true else j1 y_1.1 !y_1.2.1
def qed_:=qp2_
def q3y_ (x:As [.pr .str QVT2,.pr .str QVT7]):Option (As [.int .u16,.int .i64]):=qet_ qed_ x.1 x.2.1
noncomputable abbrev ref15_Word_P:=pfn Try.prog qg7_ 6 18446744073709551616 (Ev.get qg2_) 33 q4z_
theorem q12c_ {J w t46}:ref15_Word_P J 62 [] (qkn_ w t46)=qp2_ w t46:=by kernel_rfl
theorem q13f_ (J:Orc (As [.int .u16,.int .i64])) (x:As [.pr .str QVT2,.pr .str QVT7]):rfn Try.prog qg7_ 6 18446744073709551616 (Ev.get qg2_) 33 q4z_ J x=qet_ (fun w t46=>J 62 [] (qkn_ w t46)) x.1 x.2.1:=by kernel_rfl
noncomputable abbrev ref15_Word_J:=jfn Try.prog qg7_ 6 18446744073709551616 (Ev.get qg2_) 33 q4z_
theorem q12k_  (w t46):ref15_Word_J 62 [] (qkn_ w t46)=qed_ w t46:=gN (by decide) q12c_
theorem q154_ (x:As [.pr .str QVT2,.pr .str QVT7]):evT Try.prog qg7_ 6 18446744073709551616 (Ev.get qg2_) 33 q4z_ x=q3y_ x:=by
 rw [qi_,q13f_]
 simp only [q12k_]
 rfl
theorem qpr_:CtOk Try.prog (fun _=>True) 33 ⟨q4z_,q3y_⟩:=qa_ (q2_ qr0_ (q2_ q168_ (q2_ q13i_ q6_))) q154_
@[reducible] def q3q_:Sh:=⟨[.d (.sl (.pr .str (.sl (.pr .str QVT2)))),.d (.pr .str QVT5)],[],[.sl (.pr .str (.sl (.pr .str QVT2))),.pr .str QVT5],[.d QVT8],[],0,[.pr (.int .i64) (.int .i64)]⟩
def qeb_:Env:=(cts [(28,(⟨q55_,q8k_⟩:Ct)),(30,(⟨q5l_,qcy_⟩:Ct)),(31,(⟨q5x_,qd0_⟩:Ct)),(32,(⟨q3k_,q41_⟩:Ct)),(33,(⟨q4z_,q3y_⟩:Ct))])
def qdd_:List (Nat×Hint):=[(58,⟨[],[0,3,4,5]⟩),(233,⟨[],[0,3,4,5]⟩),(3731,⟨[],[0,3,4,5,6,7]⟩),(59710,⟨[],[0,3,4,5,6,7,9]⟩),(238841,⟨[],[0,3,4,5,6,7,9]⟩),(3821459,⟨[],[0,3,4,5,6,7,9,10,11]⟩),(30571674,⟨[],[0,3,4,5,6,7,9,10,11,12]⟩),(122286697,⟨[],[0,3,4,5,6,7,9,10,11,12]⟩),(29850,⟨[],[0,3,4,5,6,7,8]⟩),(119401,⟨[],[0,3,4,5,6,7,8]⟩),(6,⟨[],[0,3,4,22]⟩)]
@[reducible] def zI1:Type:=List (List UInt8×List QVT0)
@[reducible] def zI2:Type:=List UInt8×List QVT1
def qio_ (t:zI1) (t22:Bool) (r:zI2) (t4:Int×Int):St:=⟨[(0,.d (.sl (.pr .str (.sl (.pr .str QVT2)))) t),(3,.pb 0 0),(4,.pb 1 0),(22,dB t22)],117,[],[(0,.box 42 [dS r.1,.d QVT5 r.2]),(1,.box 50 [dI t4.1,dI t4.2])],2,[],0⟩
def qe_ (t:zI1) (i:Int) (r:zI2) (t4:Int×Int):St:=⟨[(0,.d (.sl (.pr .str (.sl (.pr .str QVT2)))) t),(3,.pb 0 0),(4,.pb 1 0),(5,dI i)],117,[],[(0,.box 42 [dS r.1,.d QVT5 r.2]),(1,.box 50 [dI t4.1,dI t4.2])],2,[],0⟩
@[reducible] def zI3:Type:=List UInt8×Int×List QVT4
def q2z_ (t:zI1) (i at' k:Int) (r:zI2) (t4:Int×Int) (p:zI3):St:=⟨[(0,.d (.sl (.pr .str (.sl (.pr .str QVT2)))) t),(3,.pb 0 0),(4,.pb 1 0),(5,dI i),(6,.pb 2 0),(7,dI at'),(8,dI k)],117,[],[(0,.box 42 [dS r.1,.d QVT5 r.2]),(1,.box 50 [dI t4.1,dI t4.2]),(2,.box 80 [dS p.1,dI p.2.1,.d (.sl (.pr .str QVT7)) p.2.2])],3,[],0⟩
def qil_ (t:zI1) (i at' k:Int) (r:zI2) (t4:Int×Int) (p:zI3):St:=⟨[(0,.d (.sl (.pr .str (.sl (.pr .str QVT2)))) t),(3,.pb 0 0),(4,.pb 1 0),(5,dI i),(6,.pb 2 0),(7,dI at'),(8,dI k)],117,[],[(0,.box 42 [dS r.1,.d QVT5 r.2]),(1,.box 50 [dI t4.1,dI t4.2]),(2,.box 80 [dS p.1,dI p.2.1,.d (.sl (.pr .str QVT7)) p.2.2])],3,[],0⟩
def qi7_ (t:zI1) (i at':Int) (r:zI2) (t4:Int×Int) (p:zI3):St:=⟨[(0,.d (.sl (.pr .str (.sl (.pr .str QVT2)))) t),(3,.pb 0 0),(4,.pb 1 0),(5,dI i),(6,.pb 2 0),(7,dI at')],117,[],[(0,.box 42 [dS r.1,.d QVT5 r.2]),(1,.box 50 [dI t4.1,dI t4.2]),(2,.box 80 [dS p.1,dI p.2.1,.d (.sl (.pr .str QVT7)) p.2.2])],3,[],0⟩
def qu_ (t:zI1) (i at' k:Int) (r:zI2) (t4:Int×Int) (p:zI3):St:=⟨[(0,.d (.sl (.pr .str (.sl (.pr .str QVT2)))) t),(3,.pb 0 0),(4,.pb 1 0),(5,dI i),(6,.pb 2 0),(7,dI at'),(9,dI k)],117,[],[(0,.box 42 [dS r.1,.d QVT5 r.2]),(1,.box 50 [dI t4.1,dI t4.2]),(2,.box 80 [dS p.1,dI p.2.1,.d (.sl (.pr .str QVT7)) p.2.2])],3,[],0⟩
def q30_ (t:zI1) (i at' k x j:Int) (r:zI2) (t4:Int×Int) (p:zI3) (s:zI0):St:=⟨[(0,.d (.sl (.pr .str (.sl (.pr .str QVT2)))) t),(3,.pb 0 0),(4,.pb 1 0),(5,dI i),(6,.pb 2 0),(7,dI at'),(9,dI k),(10,.pb 3 0),(11,dI x),(12,dI j)],117,[],[(0,.box 42 [dS r.1,.d QVT5 r.2]),(1,.box 50 [dI t4.1,dI t4.2]),(2,.box 80 [dS p.1,dI p.2.1,.d (.sl (.pr .str QVT7)) p.2.2]),(3,.box 82 [dS s.1,dI s.2.1.1,d8 s.2.1.2,dS s.2.2.1,dI s.2.2.2])],4,[],0⟩
def qi3_ (t:zI1) (i:Int) (r:zI2) (t4:Int×Int):St:=⟨[(0,.d (.sl (.pr .str (.sl (.pr .str QVT2)))) t),(3,.pb 0 0),(4,.pb 1 0),(5,dI i)],117,[],[(0,.box 42 [dS r.1,.d QVT5 r.2]),(1,.box 50 [dI t4.1,dI t4.2])],2,[],0⟩
def qhd_ (t:zI1) (i at' k x j:Int) (r:zI2) (t4:Int×Int) (p:zI3) (s:zI0):St:=⟨[(0,.d (.sl (.pr .str (.sl (.pr .str QVT2)))) t),(3,.pb 0 0),(4,.pb 1 0),(5,dI i),(6,.pb 2 0),(7,dI at'),(9,dI k),(10,.pb 3 0),(11,dI x),(12,dI j)],117,[],[(0,.box 42 [dS r.1,.d QVT5 r.2]),(1,.box 50 [dI t4.1,dI t4.2]),(2,.box 80 [dS p.1,dI p.2.1,.d (.sl (.pr .str QVT7)) p.2.2]),(3,.box 82 [dS s.1,dI s.2.1.1,d8 s.2.1.2,dS s.2.2.1,dI s.2.2.2])],4,[],0⟩
def qgd_ (t:zI1) (i at' k x:Int) (r:zI2) (t4:Int×Int) (p:zI3) (s:zI0):St:=⟨[(0,.d (.sl (.pr .str (.sl (.pr .str QVT2)))) t),(3,.pb 0 0),(4,.pb 1 0),(5,dI i),(6,.pb 2 0),(7,dI at'),(9,dI k),(10,.pb 3 0),(11,dI x)],117,[],[(0,.box 42 [dS r.1,.d QVT5 r.2]),(1,.box 50 [dI t4.1,dI t4.2]),(2,.box 80 [dS p.1,dI p.2.1,.d (.sl (.pr .str QVT7)) p.2.2]),(3,.box 82 [dS s.1,dI s.2.1.1,d8 s.2.1.2,dS s.2.2.1,dI s.2.2.2])],4,[],0⟩
def qg3_ (t:zI1) (i at' k:Int) (r:zI2) (t4:Int×Int) (p:zI3):St:=⟨[(0,.d (.sl (.pr .str (.sl (.pr .str QVT2)))) t),(3,.pb 0 0),(4,.pb 1 0),(5,dI i),(6,.pb 2 0),(7,dI at'),(9,dI k)],117,[],[(0,.box 42 [dS r.1,.d QVT5 r.2]),(1,.box 50 [dI t4.1,dI t4.2]),(2,.box 80 [dS p.1,dI p.2.1,.d (.sl (.pr .str QVT7)) p.2.2])],3,[],0⟩
@[reducible] def zI4:Type:=List (List UInt8×List QVT0)->Int->List UInt8×List QVT1->Int×Int->Option (As [.pr (.int .i64) (.int .i64)])
def qnk_ (j2:zI4) (t:zI1) (t22:Bool) (r:zI2) (t4:Int×Int):Option (As [.pr (.int .i64) (.int .i64)]) :=
 if t22=true then some ((2,0),()) else j2 t 0 r t4
@[reducible] def zI5:Type:=List (List UInt8×List QVT0)->Int->Int->Int->List UInt8×List QVT1->Int×Int->List UInt8×Int×List QVT4->Option (As [.pr (.int .i64) (.int .i64)])
def qbp_ (j3:zI5) (self2:zI4) (t:zI1) (i:Int) (r:zI2) (t4:Int×Int):Option (As [.pr (.int .i64) (.int .i64)]) :=
 if lt i (Int.ofNat (List.length r.2))=true then Option.bind (at? r.2 i) fun y=>Option.bind (q8k_ (t,y.1,())) fun y_1=>j3 t i y_1.1 0 r t4 y else some ((0,0),())
def qba_ (j4:zI5) (j5:List (List UInt8×List QVT0)->Int->Int->List UInt8×List QVT1->Int×Int->List UInt8×Int×List QVT4->Option (As [.pr (.int .i64) (.int .i64)])) (self2:zI4) (self3:zI5) (t:zI1) (i at' k:Int) (r:zI2) (t4:Int×Int) (p:zI3):Option (As [.pr (.int .i64) (.int .i64)]) :=
 if lt k i=true then Option.bind (at? r.2 k) fun y=>if eqs y.1 p.1=true then j4 t i (-1) k r t4 p else j4 t i at' k r t4 p else j5 t i at' r t4 p
def qns_ (self2:zI4) (self3:zI5) (t:zI1) (i at' k:Int) (r:zI2) (t4:Int×Int) (p:zI3):Option (As [.pr (.int .i64) (.int .i64)]) :=
 self3 t i at' (add .i64 k 1) r t4 p
def qc6_ (j6:zI5) (self2:zI4) (t:zI1) (i at':Int) (r:zI2) (t4:Int×Int) (p:zI3):Option (As [.pr (.int .i64) (.int .i64)]) :=
 if lt at' 0=true then some ((150,p.2.1),()) else j6 t i at' 0 r t4 p
@[reducible] def zI6:Type:=List (List UInt8×List QVT0)->Int->Int->Int->Int->Int->List UInt8×List QVT1->Int×Int->List UInt8×Int×List QVT4->List UInt8×(Int×Int)×List UInt8×Int->Option (As [.pr (.int .i64) (.int .i64)])
def qbq_ (j7:zI6) (j8 self2:zI4) (self6:zI5) (t:zI1) (i at' k:Int) (r:zI2) (t4:Int×Int) (p:zI3):Option (As [.pr (.int .i64) (.int .i64)]) :=
 if lt k (Int.ofNat (List.length p.2.2))=true then Option.bind (at? p.2.2 k) fun y=>Option.bind (at? t at') fun y_1=>Option.bind (q41_ (y_1,y.1,())) fun y_2=>j7 t i at' k y_2.1 0 r t4 p y else j8 t i r t4
def qc3_ (j9:zI6) (j10:List (List UInt8×List QVT0)->Int->Int->Int->Int->List UInt8×List QVT1->Int×Int->List UInt8×Int×List QVT4->List UInt8×(Int×Int)×List UInt8×Int->Option (As [.pr (.int .i64) (.int .i64)])) (self2:zI4) (self6:zI5) (self7:zI6) (t:zI1) (i at' k x j:Int) (r:zI2) (t4:Int×Int) (p:zI3) (s:zI0):Option (As [.pr (.int .i64) (.int .i64)]) :=
 if lt j k=true then Option.bind (at? p.2.2 j) fun y=>if eqs y.1 s.1=true then j9 t i at' k (-1) j r t4 p s else j9 t i at' k x j r t4 p s else j10 t i at' k x r t4 p s
def qna_ (self2:zI4) (t:zI1) (i:Int) (r:zI2) (t4:Int×Int):Option (As [.pr (.int .i64) (.int .i64)]) :=
 self2 t (add .i64 i 1) r t4
def qo3_ (self2:zI4) (self6:zI5) (self7:zI6) (t:zI1) (i at' k x j:Int) (r:zI2) (t4:Int×Int) (p:zI3) (s:zI0):Option (As [.pr (.int .i64) (.int .i64)]) :=
 self7 t i at' k x (add .i64 j 1) r t4 p s
def q9l_ (j11:zI5) (self2:zI4) (self6:zI5) (t:zI1) (i at' k x:Int) (r:zI2) (t4:Int×Int) (p:zI3) (s:zI0):Option (As [.pr (.int .i64) (.int .i64)]) :=
 if lt x 0=true then some ((151,s.2.2.2),()) else Option.bind (at? t at') fun y=>Option.bind (at? y.2 x) fun y=>Option.bind (q3y_ (y,s,())) fun y=>if nei y.2.1 0=true then some ((y.2.1,s.2.2.2),()) else j11 t i at' k r t4 p
def qmf_ (self2:zI4) (self6:zI5) (t:zI1) (i at' k:Int) (r:zI2) (t4:Int×Int) (p:zI3):Option (As [.pr (.int .i64) (.int .i64)]) :=
 self6 t i at' (add .i64 k 1) r t4 p
def qag_ (j1:List (List UInt8×List QVT0)->Bool->List UInt8×List QVT1->Int×Int->Option (As [.pr (.int .i64) (.int .i64)])) (t:zI1) (r:zI2):Option (As [.pr (.int .i64) (.int .i64)]) :=
 Option.bind (qcy_ (t,())) fun y=>if (!y.1)=true then j1 t true r (0,0) else Option.bind (qd0_ (r,())) fun y=>j1 t (!y.1) r (0,0)
def qne_ (u2:zI4) (u3:zI5):=qns_ u2 u3
def qo8_ (u2:zI4) (u6:zI5) (u7:zI6):=qo3_ u2 u6 u7
def qgr_ (u2:zI4) (u6:zI5):=qmf_ u2 u6
def q6c_ (u2:zI4) (u6:zI5):=q9l_ (qgr_ u2 u6) u2 u6
def q4n_ (u2:zI4) (u6:zI5) (t:zI1) (i at' k x j:Int) (r:zI2) (t4:Int×Int) (p:zI3) (s:zI0):Option (As [.pr (.int .i64) (.int .i64)]) :=
 loopF (fun self s=>qc3_ (qo8_ u2 u6 (fun t i at' k x j r t4 p s=>self (t,i,at',k,x,j,r,t4,p,s))) (q6c_ u2 u6) u2 u6 (fun t i at' k x j r t4 p s=>self (t,i,at',k,x,j,r,t4,p,s)) s.1 s.2.1 s.2.2.1 s.2.2.2.1 s.2.2.2.2.1 s.2.2.2.2.2.1 s.2.2.2.2.2.2.1 s.2.2.2.2.2.2.2.1 s.2.2.2.2.2.2.2.2.1 s.2.2.2.2.2.2.2.2.2) 18446744073709551616 (t,i,at',k,x,j,r,t4,p,s)
def qnb_ (u2:zI4):=qna_ u2
def q48_ (u2:zI4) (t:zI1) (i at' k:Int) (r:zI2) (t4:Int×Int) (p:zI3):Option (As [.pr (.int .i64) (.int .i64)]) :=
 loopF (fun self s=>qbq_ (q4n_ u2 (fun t i at' k r t4 p=>self (t,i,at',k,r,t4,p))) (qnb_ u2) u2 (fun t i at' k r t4 p=>self (t,i,at',k,r,t4,p)) s.1 s.2.1 s.2.2.1 s.2.2.2.1 s.2.2.2.2.1 s.2.2.2.2.2.1 s.2.2.2.2.2.2) 18446744073709551616 (t,i,at',k,r,t4,p)
def q7c_ (u2:zI4):=qc6_ (q48_ u2) u2
def q46_ (u2:zI4) (t:zI1) (i at' k:Int) (r:zI2) (t4:Int×Int) (p:zI3):Option (As [.pr (.int .i64) (.int .i64)]) :=
 loopF (fun self s=>qba_ (qne_ u2 (fun t i at' k r t4 p=>self (t,i,at',k,r,t4,p))) (q7c_ u2) u2 (fun t i at' k r t4 p=>self (t,i,at',k,r,t4,p)) s.1 s.2.1 s.2.2.1 s.2.2.2.1 s.2.2.2.2.1 s.2.2.2.2.2.1 s.2.2.2.2.2.2) 18446744073709551616 (t,i,at',k,r,t4,p)
def qbk_ (t:zI1) (i:Int) (r:zI2) (t4:Int×Int):Option (As [.pr (.int .i64) (.int .i64)]) :=
 loopF (fun self s=>qbp_ (q46_ (fun t i r t4=>self (t,i,r,t4))) (fun t i r t4=>self (t,i,r,t4)) s.1 s.2.1 s.2.2.1 s.2.2.2) 18446744073709551616 (t,i,r,t4)
def q2p_:=qnk_ (qbk_)
def q6u_ (x:As [.sl (.pr .str (.sl (.pr .str QVT2))),.pr .str QVT5]):Option (As [.pr (.int .i64) (.int .i64)]):=qag_ q2p_ x.1 x.2.1
noncomputable abbrev ref15_Check_P:=pfn Try.prog qeb_ 6 18446744073709551616 (Ev.get qdd_) 21 q3q_
theorem qwf_ {J w2 w3 t i at' k r t4 p}:ref15_Check_P J 119401 [w2,w3] (qil_ t i at' k r t4 p)=qns_ (fun t i r t4=>w2 (qe_ t i r t4)) (fun t i at' k r t4 p=>w3 (q2z_ t i at' k r t4 p)) t i at' k r t4 p:=by kernel_rfl
theorem qvs_ {J w2 w6 w7 t i at' k x j r t4 p s}:ref15_Check_P J 122286697 [w2,w6,w7] (qhd_ t i at' k x j r t4 p s)=qo3_ (fun t i r t4=>w2 (qe_ t i r t4)) (fun t i at' k r t4 p=>w6 (qu_ t i at' k r t4 p)) (fun t i at' k x j r t4 p s=>w7 (q30_ t i at' k x j r t4 p s)) t i at' k x j r t4 p s:=by kernel_rfl
theorem qt0_ {J w2 w6 t i at' k r t4 p}:ref15_Check_P J 238841 [w2,w6] (qg3_ t i at' k r t4 p)=qmf_ (fun t i r t4=>w2 (qe_ t i r t4)) (fun t i at' k r t4 p=>w6 (qu_ t i at' k r t4 p)) t i at' k r t4 p:=by kernel_rfl
theorem qtd_ {J w2 w6 t i at' k x r t4 p s}:ref15_Check_P J 3821459 [w2,w6] (qgd_ t i at' k x r t4 p s)=q9l_ (fun t i at' k r t4 p=>J 238841 [w2,w6] (qg3_ t i at' k r t4 p)) (fun t i r t4=>w2 (qe_ t i r t4)) (fun t i at' k r t4 p=>w6 (qu_ t i at' k r t4 p)) t i at' k x r t4 p s:=by kernel_rfl
theorem q109_ {J w2 w6 w7 t i at' k x j r t4 p s}:ref15_Check_P J 30571674 [w2,w6,w7] (q30_ t i at' k x j r t4 p s)=qc3_ (fun t i at' k x j r t4 p s=>J 122286697 [w2,w6,w7] (qhd_ t i at' k x j r t4 p s)) (fun t i at' k x r t4 p s=>J 3821459 [w2,w6] (qgd_ t i at' k x r t4 p s)) (fun t i r t4=>w2 (qe_ t i r t4)) (fun t i at' k r t4 p=>w6 (qu_ t i at' k r t4 p)) (fun t i at' k x j r t4 p s=>w7 (q30_ t i at' k x j r t4 p s)) t i at' k x j r t4 p s:=by kernel_rfl
theorem qvd_ {J w2 t i r t4}:ref15_Check_P J 233 [w2] (qi3_ t i r t4)=qna_ (fun t i r t4=>w2 (qe_ t i r t4)) t i r t4:=by kernel_rfl
theorem qyl_ {J w2 w6 t i at' k r t4 p}:ref15_Check_P J 59710 [w2,w6] (qu_ t i at' k r t4 p)=qbq_ (fun t i at' k x j r t4 p s=>J 30571674 [w2,w6] (q30_ t i at' k x j r t4 p s)) (fun t i r t4=>J 233 [w2] (qi3_ t i r t4)) (fun t i r t4=>w2 (qe_ t i r t4)) (fun t i at' k r t4 p=>w6 (qu_ t i at' k r t4 p)) t i at' k r t4 p:=by kernel_rfl
theorem qvt_ {J w2 t i at' r t4 p}:ref15_Check_P J 3731 [w2] (qi7_ t i at' r t4 p)=qc6_ (fun t i at' k r t4 p=>J 59710 [w2] (qu_ t i at' k r t4 p)) (fun t i r t4=>w2 (qe_ t i r t4)) t i at' r t4 p:=by kernel_rfl
theorem qv1_ {J w2 w3 t i at' k r t4 p}:ref15_Check_P J 29850 [w2,w3] (q2z_ t i at' k r t4 p)=qba_ (fun t i at' k r t4 p=>J 119401 [w2,w3] (qil_ t i at' k r t4 p)) (fun t i at' r t4 p=>J 3731 [w2] (qi7_ t i at' r t4 p)) (fun t i r t4=>w2 (qe_ t i r t4)) (fun t i at' k r t4 p=>w3 (q2z_ t i at' k r t4 p)) t i at' k r t4 p:=by kernel_rfl
theorem qwq_ {J w2 t i r t4}:ref15_Check_P J 58 [w2] (qe_ t i r t4)=qbp_ (fun t i at' k r t4 p=>J 29850 [w2] (q2z_ t i at' k r t4 p)) (fun t i r t4=>w2 (qe_ t i r t4)) t i r t4:=by kernel_rfl
theorem qyi_ {J t t22 r t4}:ref15_Check_P J 6 [] (qio_ t t22 r t4)=qnk_ (fun t i r t4=>J 58 [] (qe_ t i r t4)) t t22 r t4:=by kernel_rfl
theorem qwx_ (J:Orc (As [.pr (.int .i64) (.int .i64)])) (x:As [.sl (.pr .str (.sl (.pr .str QVT2))),.pr .str QVT5]):rfn Try.prog qeb_ 6 18446744073709551616 (Ev.get qdd_) 21 q3q_ J x=qag_ (fun t t22 r t4=>J 6 [] (qio_ t t22 r t4)) x.1 x.2.1:=by kernel_rfl
noncomputable abbrev ref15_Check_J:=jfn Try.prog qeb_ 6 18446744073709551616 (Ev.get qdd_) 21 q3q_
theorem qyk_  (w2 w3 t i at' k r t4 p):ref15_Check_J 119401 [w2,w3] (qil_ t i at' k r t4 p)=qne_ (fun t i r t4=>w2 (qe_ t i r t4)) (fun t i at' k r t4 p=>w3 (q2z_ t i at' k r t4 p)) t i at' k r t4 p:=gN (by decide) qwf_
theorem qv4_  (w2 w6 w7 t i at' k x j r t4 p s):ref15_Check_J 122286697 [w2,w6,w7] (qhd_ t i at' k x j r t4 p s)=qo8_ (fun t i r t4=>w2 (qe_ t i r t4)) (fun t i at' k r t4 p=>w6 (qu_ t i at' k r t4 p)) (fun t i at' k x j r t4 p s=>w7 (q30_ t i at' k x j r t4 p s)) t i at' k x j r t4 p s:=gN (by decide) qvs_
theorem qtv_  (w2 w6 t i at' k r t4 p):ref15_Check_J 238841 [w2,w6] (qg3_ t i at' k r t4 p)=qgr_ (fun t i r t4=>w2 (qe_ t i r t4)) (fun t i at' k r t4 p=>w6 (qu_ t i at' k r t4 p)) t i at' k r t4 p:=gN (by decide) qt0_
theorem qu0_  (w2 w6 t i at' k x r t4 p s):ref15_Check_J 3821459 [w2,w6] (qgd_ t i at' k x r t4 p s)=q6c_ (fun t i r t4=>w2 (qe_ t i r t4)) (fun t i at' k r t4 p=>w6 (qu_ t i at' k r t4 p)) t i at' k x r t4 p s:=gN (by decide) (qtd_.trans (by simp only [qtv_]; rfl))
theorem q10b_  (w2 w6 t i at' k x j r t4 p s):ref15_Check_J 30571674 [w2,w6] (q30_ t i at' k x j r t4 p s)=q4n_ (fun t i r t4=>w2 (qe_ t i r t4)) (fun t i at' k r t4 p=>w6 (qu_ t i at' k r t4 p)) t i at' k x j r t4 p s:=gL (σ:=(List (List UInt8×List QVT0))×(Int)×(Int)×(Int)×(Int)×(Int)×(List UInt8×List QVT1)×(Int×Int)×QVT1×QVT4) (mk:=fun s=>q30_ s.1 s.2.1 s.2.2.1 s.2.2.2.1 s.2.2.2.2.1 s.2.2.2.2.2.1 s.2.2.2.2.2.2.1 s.2.2.2.2.2.2.2.1 s.2.2.2.2.2.2.2.2.1 s.2.2.2.2.2.2.2.2.2) (by decide) (by kernel_rfl) (fun w7 s=>q109_.trans (by simp only [qv4_,qu0_])) (t,i,at',k,x,j,r,t4,p,s)
theorem qyo_  (w2 t i r t4):ref15_Check_J 233 [w2] (qi3_ t i r t4)=qnb_ (fun t i r t4=>w2 (qe_ t i r t4)) t i r t4:=gN (by decide) qvd_
theorem qxp_  (w2 t i at' k r t4 p):ref15_Check_J 59710 [w2] (qu_ t i at' k r t4 p)=q48_ (fun t i r t4=>w2 (qe_ t i r t4)) t i at' k r t4 p:=gL (σ:=(List (List UInt8×List QVT0))×(Int)×(Int)×(Int)×(List UInt8×List QVT1)×(Int×Int)×QVT1) (mk:=fun s=>qu_ s.1 s.2.1 s.2.2.1 s.2.2.2.1 s.2.2.2.2.1 s.2.2.2.2.2.1 s.2.2.2.2.2.2) (by decide) (by kernel_rfl) (fun w6 s=>qyl_.trans (by simp only [q10b_,qyo_])) (t,i,at',k,r,t4,p)
theorem qz2_  (w2 t i at' r t4 p):ref15_Check_J 3731 [w2] (qi7_ t i at' r t4 p)=q7c_ (fun t i r t4=>w2 (qe_ t i r t4)) t i at' r t4 p:=gN (by decide) (qvt_.trans (by simp only [qxp_]; rfl))
theorem qxb_  (w2 t i at' k r t4 p):ref15_Check_J 29850 [w2] (q2z_ t i at' k r t4 p)=q46_ (fun t i r t4=>w2 (qe_ t i r t4)) t i at' k r t4 p:=gL (σ:=(List (List UInt8×List QVT0))×(Int)×(Int)×(Int)×(List UInt8×List QVT1)×(Int×Int)×QVT1) (mk:=fun s=>q2z_ s.1 s.2.1 s.2.2.1 s.2.2.2.1 s.2.2.2.2.1 s.2.2.2.2.2.1 s.2.2.2.2.2.2) (by decide) (by kernel_rfl) (fun w3 s=>qv1_.trans (by simp only [qyk_,qz2_])) (t,i,at',k,r,t4,p)
theorem qz7_  (t i r t4):ref15_Check_J 58 [] (qe_ t i r t4)=qbk_ t i r t4:=gL (σ:=(List (List UInt8×List QVT0))×(Int)×(List UInt8×List QVT1)×(Int×Int)) (mk:=fun s=>qe_ s.1 s.2.1 s.2.2.1 s.2.2.2) (by decide) (by kernel_rfl) (fun w2 s=>qwq_.trans (by simp only [qxb_])) (t,i,r,t4)
theorem qxv_  (t t22 r t4):ref15_Check_J 6 [] (qio_ t t22 r t4)=q2p_ t t22 r t4:=gN (by decide) (qyi_.trans (by simp only [qz7_]; rfl))
theorem q130_ (x:As [.sl (.pr .str (.sl (.pr .str QVT2))),.pr .str QVT5]):evT Try.prog qeb_ 6 18446744073709551616 (Ev.get qdd_) 21 q3q_ x=q6u_ x:=by
 rw [qi_,qwx_]
 simp only [qxv_]
 rfl
theorem qo4_:CtOk Try.prog (fun _=>True) 21 ⟨q3q_,q6u_⟩:=qa_ (q2_ qp7_ (q2_ qz5_ (q2_ qzk_ (q2_ qnr_ (q2_ qpr_ q6_))))) q130_
@[reducible] def q5t_:Sh:=⟨[.d (.sl (.pr .str (.sl (.pr .str QVT2))))],[],[.sl (.pr .str (.sl (.pr .str QVT2)))],[.d (.bool)],[],0,[.bool]⟩
def qd6_:Env:=(cts [])
def qds_:List (Nat×Hint):=[(58,⟨[],[10,11,12,21,22,23,24,38,39,40,41]⟩),(29902,⟨[],[10,11,12,21,22,23,24,27,28,29,38,39,40,41]⟩),(1913753,⟨[.agd 39 .str,.agd 40 (.int .i64),.agd 41 .bool],[10,11,12,27,28,29,42]⟩),(7474,⟨[.agd 22 .str,.agd 23 (.int .i64),.agd 24 .bool],[4,10,11,12,25]⟩)]
def q19_ (t10:zI1) (t11 t12:Int):St:=⟨[(10,.d (.sl (.pr .str (.sl (.pr .str QVT2)))) t10),(11,dI t11),(12,dI t12)],45,[],[],0,[],0⟩
def qj0_ (t10:zI1) (t11 t12:Int) (t25:Bool) (d:List UInt8×List QVT0):St:=⟨[(4,.pb 0 0),(10,.d (.sl (.pr .str (.sl (.pr .str QVT2)))) t10),(11,dI t11),(12,dI t12),(25,dB t25)],45,[],[(0,.box 67 [dS d.1,.d (.sl (.pr .str QVT2)) d.2])],1,[],0⟩
def q2u_ (t10:zI1) (t11 t12:Int) (t27:List QVT0) (t28 t29:Int):St:=⟨[(10,.d (.sl (.pr .str (.sl (.pr .str QVT2)))) t10),(11,dI t11),(12,dI t12),(27,.d (.sl (.pr .str QVT2)) t27),(28,dI t28),(29,dI t29)],45,[],[],0,[],0⟩
def qii_ (t10:zI1) (t11 t12:Int) (t27:List QVT0) (t28 t29:Int) (t42:Bool):St:=⟨[(10,.d (.sl (.pr .str (.sl (.pr .str QVT2)))) t10),(11,dI t11),(12,dI t12),(27,.d (.sl (.pr .str QVT2)) t27),(28,dI t28),(29,dI t29),(42,dB t42)],45,[],[],0,[],0⟩
@[reducible] def zI7:Type:=List (List UInt8×List QVT0)->Int->Int->Option (As [.bool])
def q4d_ (j2:List (List UInt8×List QVT0)->Int->Int->Bool->List UInt8×List QVT0->Option (As [.bool])) (self1:zI7) (t10:zI1) (t11 t12:Int):Option (As [.bool]) :=
 if lt t12 t11=true then Option.bind (at? t10 t12) fun y=>if gt (Int.ofNat (List.length y.2)) 40=true then j2 t10 t11 t12 true y else j2 t10 t11 t12 (gt (Int.ofNat (List.length y.1)) 40) y else some (true,())
@[reducible] def zI8:Type:=List (List UInt8×List QVT0)->Int->Int->List QVT0->Int->Int->Option (As [.bool])
def qo2_ (j3:zI8) (self1:zI7) (t10:zI1) (t11 t12:Int) (t25:Bool) (d:List UInt8×List QVT0):Option (As [.bool]) :=
 if t25=true then some (false,()) else j3 t10 t11 t12 d.2 (Int.ofNat (List.length d.2)) 0
def q4j_ (j4:List (List UInt8×List QVT0)->Int->Int->List QVT0->Int->Int->Bool->Option (As [.bool])) (self1:zI7) (self3:zI8) (t10:zI1) (t11 t12:Int) (t27:List QVT0) (t28 t29:Int):Option (As [.bool]) :=
 if lt t29 t28=true then Option.bind (at? t27 t29) fun y=>if gt (Int.ofNat (List.length y.1)) 40=true then j4 t10 t11 t12 t27 t28 t29 true else j4 t10 t11 t12 t27 t28 t29 (gt (Int.ofNat (List.length y.2.2.2.2.2.2)) 40) else self1 t10 t11 (add .i64 t12 1)
def qas_ (self1:zI7) (self3:zI8) (t10:zI1) (t11 t12:Int) (t27:List QVT0) (t28 t29:Int) (t42:Bool):Option (As [.bool]) :=
 if t42=true then some (false,()) else self3 t10 t11 t12 t27 t28 (add .i64 t29 1)
def qcp_ (j1:zI7) (t:zI1):Option (As [.bool]) :=
 if gt (Int.ofNat (List.length t)) 10=true then some (false,()) else j1 t (Int.ofNat (List.length t)) 0
def q7q_ (u1:zI7) (u3:zI8):=qas_ u1 u3
def q7x_ (u1:zI7) (t10:zI1) (t11 t12:Int) (t27:List QVT0) (t28 t29:Int):Option (As [.bool]) :=
 loopF (fun self s=>q4j_ (q7q_ u1 (fun t10 t11 t12 t27 t28 t29=>self (t10,t11,t12,t27,t28,t29))) u1 (fun t10 t11 t12 t27 t28 t29=>self (t10,t11,t12,t27,t28,t29)) s.1 s.2.1 s.2.2.1 s.2.2.2.1 s.2.2.2.2.1 s.2.2.2.2.2) 18446744073709551616 (t10,t11,t12,t27,t28,t29)
def q88_ (u1:zI7):=qo2_ (q7x_ u1) u1
def qbt_ (t10:zI1) (t11 t12:Int):Option (As [.bool]) :=
 loopF (fun self s=>q4d_ (q88_ (fun t10 t11 t12=>self (t10,t11,t12))) (fun t10 t11 t12=>self (t10,t11,t12)) s.1 s.2.1 s.2.2) 18446744073709551616 (t10,t11,t12)
def q9b_ (x:As [.sl (.pr .str (.sl (.pr .str QVT2)))]):Option (As [.bool]):=qcp_ qbt_ x.1
noncomputable abbrev law15_Small_P:=pfn Try.prog qd6_ 6 18446744073709551616 (Ev.get qds_) 12 q5t_
theorem qxu_ {J w1 w3 t10 t11 t12 t27 t28 t29 t42}:law15_Small_P J 1913753 [w1,w3] (qii_ t10 t11 t12 t27 t28 t29 t42)=qas_ (fun t10 t11 t12=>w1 (q19_ t10 t11 t12)) (fun t10 t11 t12 t27 t28 t29=>w3 (q2u_ t10 t11 t12 t27 t28 t29)) t10 t11 t12 t27 t28 t29 t42:=by kernel_rfl
theorem qw0_ {J w1 w3 t10 t11 t12 t27 t28 t29}:law15_Small_P J 29902 [w1,w3] (q2u_ t10 t11 t12 t27 t28 t29)=q4j_ (fun t10 t11 t12 t27 t28 t29 t42=>J 1913753 [w1,w3] (qii_ t10 t11 t12 t27 t28 t29 t42)) (fun t10 t11 t12=>w1 (q19_ t10 t11 t12)) (fun t10 t11 t12 t27 t28 t29=>w3 (q2u_ t10 t11 t12 t27 t28 t29)) t10 t11 t12 t27 t28 t29:=by kernel_rfl
theorem qy3_ {J w1 t10 t11 t12 t25 d}:law15_Small_P J 7474 [w1] (qj0_ t10 t11 t12 t25 d)=qo2_ (fun t10 t11 t12 t27 t28 t29=>J 29902 [w1] (q2u_ t10 t11 t12 t27 t28 t29)) (fun t10 t11 t12=>w1 (q19_ t10 t11 t12)) t10 t11 t12 t25 d:=by kernel_rfl
theorem quc_ {J w1 t10 t11 t12}:law15_Small_P J 58 [w1] (q19_ t10 t11 t12)=q4d_ (fun t10 t11 t12 t25 d=>J 7474 [w1] (qj0_ t10 t11 t12 t25 d)) (fun t10 t11 t12=>w1 (q19_ t10 t11 t12)) t10 t11 t12:=by kernel_rfl
theorem qu8_ (J:Orc (As [.bool])) (x:As [.sl (.pr .str (.sl (.pr .str QVT2)))]):rfn Try.prog qd6_ 6 18446744073709551616 (Ev.get qds_) 12 q5t_ J x=qcp_ (fun t10 t11 t12=>J 58 [] (q19_ t10 t11 t12)) x.1:=by kernel_rfl
noncomputable abbrev law15_Small_J:=jfn Try.prog qd6_ 6 18446744073709551616 (Ev.get qds_) 12 q5t_
theorem qyy_  (w1 w3 t10 t11 t12 t27 t28 t29 t42):law15_Small_J 1913753 [w1,w3] (qii_ t10 t11 t12 t27 t28 t29 t42)=q7q_ (fun t10 t11 t12=>w1 (q19_ t10 t11 t12)) (fun t10 t11 t12 t27 t28 t29=>w3 (q2u_ t10 t11 t12 t27 t28 t29)) t10 t11 t12 t27 t28 t29 t42:=gN (by decide) qxu_
theorem qxo_  (w1 t10 t11 t12 t27 t28 t29):law15_Small_J 29902 [w1] (q2u_ t10 t11 t12 t27 t28 t29)=q7x_ (fun t10 t11 t12=>w1 (q19_ t10 t11 t12)) t10 t11 t12 t27 t28 t29:=gL (σ:=(List (List UInt8×List QVT0))×(Int)×(Int)×(List QVT0)×(Int)×(Int)) (mk:=fun s=>q2u_ s.1 s.2.1 s.2.2.1 s.2.2.2.1 s.2.2.2.2.1 s.2.2.2.2.2) (by decide) (by kernel_rfl) (fun w3 s=>qw0_.trans (by simp only [qyy_])) (t10,t11,t12,t27,t28,t29)
theorem qzg_  (w1 t10 t11 t12 t25 d):law15_Small_J 7474 [w1] (qj0_ t10 t11 t12 t25 d)=q88_ (fun t10 t11 t12=>w1 (q19_ t10 t11 t12)) t10 t11 t12 t25 d:=gN (by decide) (qy3_.trans (by simp only [qxo_]; rfl))
theorem qy9_  (t10 t11 t12):law15_Small_J 58 [] (q19_ t10 t11 t12)=qbt_ t10 t11 t12:=gL (σ:=(List (List UInt8×List QVT0))×(Int)×(Int)) (mk:=fun s=>q19_ s.1 s.2.1 s.2.2) (by decide) (by kernel_rfl) (fun w1 s=>quc_.trans (by simp only [qzg_])) (t10,t11,t12)
theorem q114_ (x:As [.sl (.pr .str (.sl (.pr .str QVT2)))]):evT Try.prog qd6_ 6 18446744073709551616 (Ev.get qds_) 12 q5t_ x=q9b_ x:=by
 rw [qi_,qu8_]
 simp only [qy9_]
 rfl
theorem qvl_:CtOk Try.prog (fun _=>True) 12 ⟨q5t_,q9b_⟩:=qa_ q6_ q114_
@[reducible] def q96_:Sh:=⟨[.d (.pr .str QVT5)],[],[.pr .str QVT5],[.d (.bool)],[],0,[.bool]⟩
def qji_:Env:=(cts [])
def qjj_:List (Nat×Hint):=[(58,⟨[],[18,19,20,29,30,31,32,46,47,48,49]⟩),(29902,⟨[],[18,19,20,29,30,31,32,35,36,37,46,47,48,49]⟩),(1913753,⟨[.agd 47 .str,.agd 48 (.int .i64),.agd 49 .bool],[18,19,20,35,36,37,50]⟩),(7474,⟨[.agd 30 .str,.agd 31 (.int .i64),.agd 32 .bool],[4,18,19,20,33]⟩),(6,⟨[],[1,16,29,30,31,32,46,47,48,49]⟩)]
def qm5_ (t16:Bool) (r:zI2):St:=⟨[(1,.pb 0 0),(16,dB t16)],53,[],[(0,.box 42 [dS r.1,.d QVT5 r.2])],1,[],0⟩
def q1p_ (t18:List QVT1) (t19 t20:Int):St:=⟨[(18,.d QVT5 t18),(19,dI t19),(20,dI t20)],53,[],[],0,[],0⟩
def qlq_ (t18:List QVT1) (t19 t20:Int) (t33:Bool) (p:zI3):St:=⟨[(4,.pb 0 0),(18,.d QVT5 t18),(19,dI t19),(20,dI t20),(33,dB t33)],53,[],[(0,.box 80 [dS p.1,dI p.2.1,.d (.sl (.pr .str QVT7)) p.2.2])],1,[],0⟩
def q58_ (t18:List QVT1) (t19 t20:Int) (t35:List QVT4) (t36 t37:Int):St:=⟨[(18,.d QVT5 t18),(19,dI t19),(20,dI t20),(35,.d (.sl (.pr .str QVT7)) t35),(36,dI t36),(37,dI t37)],53,[],[],0,[],0⟩
def qm0_ (t18:List QVT1) (t19 t20:Int) (t35:List QVT4) (t36 t37:Int) (t50:Bool):St:=⟨[(18,.d QVT5 t18),(19,dI t19),(20,dI t20),(35,.d (.sl (.pr .str QVT7)) t35),(36,dI t36),(37,dI t37),(50,dB t50)],53,[],[],0,[],0⟩
@[reducible] def zI9:Type:=List QVT1->Int->Int->Option (As [.bool])
def qr9_ (j2:zI9) (t16:Bool) (r:zI2):Option (As [.bool]) :=
 if t16=true then some (false,()) else j2 r.2 (Int.ofNat (List.length r.2)) 0
def q7m_ (j3:List QVT1->Int->Int->Bool->List UInt8×Int×List QVT4->Option (As [.bool])) (self2:zI9) (t18:List QVT1) (t19 t20:Int):Option (As [.bool]) :=
 if lt t20 t19=true then Option.bind (at? t18 t20) fun y=>if gt (Int.ofNat (List.length y.2.2)) 70=true then j3 t18 t19 t20 true y else j3 t18 t19 t20 (gt (Int.ofNat (List.length y.1)) 40) y else some (true,())
@[reducible] def zI10:Type:=List QVT1->Int->Int->List QVT4->Int->Int->Option (As [.bool])
def qrl_ (j4:zI10) (self2:zI9) (t18:List QVT1) (t19 t20:Int) (t33:Bool) (p:zI3):Option (As [.bool]) :=
 if t33=true then some (false,()) else j4 t18 t19 t20 p.2.2 (Int.ofNat (List.length p.2.2)) 0
def q80_ (j5:List QVT1->Int->Int->List QVT4->Int->Int->Bool->Option (As [.bool])) (self2:zI9) (self4:zI10) (t18:List QVT1) (t19 t20:Int) (t35:List QVT4) (t36 t37:Int):Option (As [.bool]) :=
 if lt t37 t36=true then Option.bind (at? t35 t37) fun y=>if gt (Int.ofNat (List.length y.1)) 40=true then j5 t18 t19 t20 t35 t36 t37 true else j5 t18 t19 t20 t35 t36 t37 (gt (Int.ofNat (List.length y.2.2.1)) 40) else self2 t18 t19 (add .i64 t20 1)
def qfy_ (self2:zI9) (self4:zI10) (t18:List QVT1) (t19 t20:Int) (t35:List QVT4) (t36 t37:Int) (t50:Bool):Option (As [.bool]) :=
 if t50=true then some (false,()) else self4 t18 t19 t20 t35 t36 (add .i64 t37 1)
def qg8_ (j1:Bool->List UInt8×List QVT1->Option (As [.bool])) (r:zI2):Option (As [.bool]) :=
 if gt (Int.ofNat (List.length r.2)) 12=true then j1 true r else j1 (gt (Int.ofNat (List.length r.1)) 40) r
def q9v_ (u2:zI9) (u4:zI10):=qfy_ u2 u4
def qa8_ (u2:zI9) (t18:List QVT1) (t19 t20:Int) (t35:List QVT4) (t36 t37:Int):Option (As [.bool]) :=
 loopF (fun self s=>q80_ (q9v_ u2 (fun t18 t19 t20 t35 t36 t37=>self (t18,t19,t20,t35,t36,t37))) u2 (fun t18 t19 t20 t35 t36 t37=>self (t18,t19,t20,t35,t36,t37)) s.1 s.2.1 s.2.2.1 s.2.2.2.1 s.2.2.2.2.1 s.2.2.2.2.2) 18446744073709551616 (t18,t19,t20,t35,t36,t37)
def qa4_ (u2:zI9):=qrl_ (qa8_ u2) u2
def qa3_ (t18:List QVT1) (t19 t20:Int):Option (As [.bool]) :=
 loopF (fun self s=>q7m_ (qa4_ (fun t18 t19 t20=>self (t18,t19,t20))) (fun t18 t19 t20=>self (t18,t19,t20)) s.1 s.2.1 s.2.2) 18446744073709551616 (t18,t19,t20)
def qgn_:=qr9_ (qa3_)
def qfb_ (x:As [.pr .str QVT5]):Option (As [.bool]):=qg8_ qgn_ x.1
noncomputable abbrev law14_Few_P:=pfn Try.prog qji_ 6 18446744073709551616 (Ev.get qjj_) 13 q96_
theorem q13q_ {J w2 w4 t18 t19 t20 t35 t36 t37 t50}:law14_Few_P J 1913753 [w2,w4] (qm0_ t18 t19 t20 t35 t36 t37 t50)=qfy_ (fun t18 t19 t20=>w2 (q1p_ t18 t19 t20)) (fun t18 t19 t20 t35 t36 t37=>w4 (q58_ t18 t19 t20 t35 t36 t37)) t18 t19 t20 t35 t36 t37 t50:=by kernel_rfl
theorem q157_ {J w2 w4 t18 t19 t20 t35 t36 t37}:law14_Few_P J 29902 [w2,w4] (q58_ t18 t19 t20 t35 t36 t37)=q80_ (fun t18 t19 t20 t35 t36 t37 t50=>J 1913753 [w2,w4] (qm0_ t18 t19 t20 t35 t36 t37 t50)) (fun t18 t19 t20=>w2 (q1p_ t18 t19 t20)) (fun t18 t19 t20 t35 t36 t37=>w4 (q58_ t18 t19 t20 t35 t36 t37)) t18 t19 t20 t35 t36 t37:=by kernel_rfl
theorem q15c_ {J w2 t18 t19 t20 t33 p}:law14_Few_P J 7474 [w2] (qlq_ t18 t19 t20 t33 p)=qrl_ (fun t18 t19 t20 t35 t36 t37=>J 29902 [w2] (q58_ t18 t19 t20 t35 t36 t37)) (fun t18 t19 t20=>w2 (q1p_ t18 t19 t20)) t18 t19 t20 t33 p:=by kernel_rfl
theorem q155_ {J w2 t18 t19 t20}:law14_Few_P J 58 [w2] (q1p_ t18 t19 t20)=q7m_ (fun t18 t19 t20 t33 p=>J 7474 [w2] (qlq_ t18 t19 t20 t33 p)) (fun t18 t19 t20=>w2 (q1p_ t18 t19 t20)) t18 t19 t20:=by kernel_rfl
theorem q15i_ {J t16 r}:law14_Few_P J 6 [] (qm5_ t16 r)=qr9_ (fun t18 t19 t20=>J 58 [] (q1p_ t18 t19 t20)) t16 r:=by kernel_rfl
theorem q13s_ (J:Orc (As [.bool])) (x:As [.pr .str QVT5]):rfn Try.prog qji_ 6 18446744073709551616 (Ev.get qjj_) 13 q96_ J x=qg8_ (fun t16 r=>J 6 [] (qm5_ t16 r)) x.1:=by kernel_rfl
noncomputable abbrev law14_Few_J:=jfn Try.prog qji_ 6 18446744073709551616 (Ev.get qjj_) 13 q96_
theorem q145_  (w2 w4 t18 t19 t20 t35 t36 t37 t50):law14_Few_J 1913753 [w2,w4] (qm0_ t18 t19 t20 t35 t36 t37 t50)=q9v_ (fun t18 t19 t20=>w2 (q1p_ t18 t19 t20)) (fun t18 t19 t20 t35 t36 t37=>w4 (q58_ t18 t19 t20 t35 t36 t37)) t18 t19 t20 t35 t36 t37 t50:=gN (by decide) q13q_
theorem q153_  (w2 t18 t19 t20 t35 t36 t37):law14_Few_J 29902 [w2] (q58_ t18 t19 t20 t35 t36 t37)=qa8_ (fun t18 t19 t20=>w2 (q1p_ t18 t19 t20)) t18 t19 t20 t35 t36 t37:=gL (σ:=(List QVT1)×(Int)×(Int)×(List QVT4)×(Int)×(Int)) (mk:=fun s=>q58_ s.1 s.2.1 s.2.2.1 s.2.2.2.1 s.2.2.2.2.1 s.2.2.2.2.2) (by decide) (by kernel_rfl) (fun w4 s=>q157_.trans (by simp only [q145_])) (t18,t19,t20,t35,t36,t37)
theorem q14w_  (w2 t18 t19 t20 t33 p):law14_Few_J 7474 [w2] (qlq_ t18 t19 t20 t33 p)=qa4_ (fun t18 t19 t20=>w2 (q1p_ t18 t19 t20)) t18 t19 t20 t33 p:=gN (by decide) (q15c_.trans (by simp only [q153_]; rfl))
theorem q13z_  (t18 t19 t20):law14_Few_J 58 [] (q1p_ t18 t19 t20)=qa3_ t18 t19 t20:=gL (σ:=(List QVT1)×(Int)×(Int)) (mk:=fun s=>q1p_ s.1 s.2.1 s.2.2) (by decide) (by kernel_rfl) (fun w2 s=>q155_.trans (by simp only [q14w_])) (t18,t19,t20)
theorem q14n_  (t16 r):law14_Few_J 6 [] (qm5_ t16 r)=qgn_ t16 r:=gN (by decide) (q15i_.trans (by simp only [q13z_]; rfl))
theorem q16b_ (x:As [.pr .str QVT5]):evT Try.prog qji_ 6 18446744073709551616 (Ev.get qjj_) 13 q96_ x=qfb_ x:=by
 rw [qi_,q13s_]
 simp only [q14n_]
 rfl
theorem q14k_:CtOk Try.prog (fun _=>True) 13 ⟨q96_,qfb_⟩:=qa_ q6_ q16b_
def qt9_ (x:Int):Option (As [.int .i64]) :=
 some (cvt .i64 (cvt .i16 x),())
def q14l_ (x:As [.int .u16]):Option (As [.int .i64]):=qt9_ x.1
@[reducible] def zI11:Type:=Int->Int->Int×Int->Option (As [.pr (.int .i64) (.int .u8),.bool])
def qww_ (j2:zI11) (w digits:Int) (signed t14:Bool) (t6:Int×Int):Option (As [.pr (.int .i64) (.int .u8),.bool]) :=
 if t14=true then some ((0,0),false,()) else if signed=true then Option.bind (q14l_ (w,())) fun y=>j2 digits y.1 t6 else j2 digits (cvt .i64 w) t6
def qvq_ (j3:zI11) (digits n:Int) (t6:Int×Int):Option (As [.pr (.int .i64) (.int .u8),.bool]) :=
 j3 digits n t6
def qv8_ (j4:Int->Int->Bool->Int×Int->Option (As [.pr (.int .i64) (.int .u8),.bool])) (self3:zI11) (digits n:Int) (t6:Int×Int):Option (As [.pr (.int .i64) (.int .u8),.bool]) :=
 if gt digits 0=true then j4 digits n (eqi (rem n 10) 0) t6 else j4 digits n false t6
def qw8_ (j5 self3:zI11) (digits n:Int) (t27:Bool) (t6:Int×Int):Option (As [.pr (.int .i64) (.int .u8),.bool]) :=
 if t27=true then self3 (Sx.sub .i64 digits 1) (quo .i64 n 10) t6 else j5 digits n t6
def qz1_ (digits n:Int) (t6:Int×Int):Option (As [.pr (.int .i64) (.int .u8),.bool]) :=
 some ((n,cvt .u8 digits),true,())
def qxs_ (j1:Int->Int->Bool->Bool->Int×Int->Option (As [.pr (.int .i64) (.int .u8),.bool])) (w digits:Int) (signed:Bool):Option (As [.pr (.int .i64) (.int .u8),.bool]) :=
 if lt digits 0=true then j1 w digits signed true (0,0) else j1 w digits signed (gt digits 6) (0,0)
def qua_:=qz1_
def qxh_ (u3:zI11):=qw8_ (qua_) u3
def qzm_ (digits n:Int) (t6:Int×Int):Option (As [.pr (.int .i64) (.int .u8),.bool]) :=
 loopF (fun self s=>qv8_ (qxh_ (fun digits n t6=>self (digits,n,t6))) (fun digits n t6=>self (digits,n,t6)) s.1 s.2.1 s.2.2) 18446744073709551616 (digits,n,t6)
def qw9_:=qvq_ (qzm_)
def qx4_:=qww_ (qw9_)
def qsr_ (x:As [.int .u16,.int .i64,.bool]):Option (As [.pr (.int .i64) (.int .u8),.bool]):=qxs_ qx4_ x.1 x.2.1 x.2.2.1
end Go.Proofs.Lx
end
section
namespace Go.Proofs.Lx
open Go Ev Sx Pl
set_option maxRecDepth 10000
def isD (n:Nat):Bool:=decide (48≤n) && decide (n≤57)
def dg (c:UInt8):Bool:=isD c.toNat
def digs (s:List UInt8):Bool:=s.all dg && s != []
def dvn (n:Int) (q:List UInt8):Int:=q.foldl (fun n c=>10 * n + ((c.toNat:Int) - 48)) n
theorem dvn_nil (n:Int):dvn n []=n:=rfl
theorem dvn_cons (n:Int) (c:UInt8) (q:List UInt8):dvn n (c::q)=dvn (10 * n + ((c.toNat:Int) - 48)) q:=rfl
theorem dvn_app (n:Int) (p q:List UInt8):dvn n (p++q)=dvn (dvn n p) q:=List.foldl_append ..
theorem dg_iff {c:UInt8}:dg c=true ↔ 48≤c.toNat∧c.toNat≤57:=by simp [dg,isD]
theorem dvn_ge:∀ {q:List UInt8} {n:Int},(∀ c ∈ q,dg c=true)->0≤n->n≤dvn n q
 | [],n,_,_=>Int.le_refl _
 | c::q,n,h,hn=>by
  have hc:=dg_iff.1 (h c (List.mem_cons_self ..))
  have:=dvn_ge (q:=q) (n:=10 * n + ((c.toNat:Int) - 48)) (fun x hx=>h x (List.mem_cons_of_mem _ hx)) (by omega)
  rw [dvn_cons]
  omega
def qf_:List UInt8->List UInt8
 | []=>[]
 | c::q=>match qf_ q with
  | []=>if c=48 then [] else [c]
  | r=>c::r
theorem stripz_snoc0 (q:List UInt8):qf_ (q++[48])=qf_ q:=by
 induction q with
 | nil=>rfl
 | cons c q ih=>show (match qf_ (q++[48]) with | []=>_ | r=>_)=_; rw [ih]; rfl
theorem stripz_snoc {c:UInt8} (q:List UInt8) (h:c ≠ 48):qf_ (q++[c])=q++[c]:=by
 induction q with
 | nil=>show (if c=48 then [] else [c])=_; rw [if_neg h]; rfl
 | cons a q ih =>
  show (match qf_ (q++[c]) with | []=>_ | r=>_)=_
  rw [ih]
  cases q <;> rfl
theorem snoc_cases {α:Type} (q:List α):q=[]∨∃ p c,q=p++[c]:=by
 rcases List.eq_nil_or_concat q with h | ⟨p,c,h⟩
 ·exact .inl h
 ·exact .inr ⟨p,c,by simpa using h⟩
abbrev PR:=(Int×Int)×Bool
def parsePieces (neg:Bool) (w r:List UInt8) (pt:Bool):PR :=
 if digs w=false∨(1 < w.length∧w[0]? = some 48) then ((0,0),false)
 else if pt=true∧(digs r=false∨6 < r.length) then ((0,0),false)
 else if 1000000000000 < dvn (dvn 0 w) (qf_ r) then ((0,0),false)
 else ((if neg then -(dvn (dvn 0 w) (qf_ r)) else dvn (dvn 0 w) (qf_ r),((qf_ r).length:Int)),true)
theorem byte_val {c:UInt8} (h:dg c=true):cvt .i64 (sub .u8 (Int.ofNat c.toNat) 48)=(c.toNat:Int) - 48:=by
 have:=dg_iff.1 h
 have e:sub .u8 (Int.ofNat c.toNat) 48=(c.toNat:Int) - 48:=by unfold sub; rw [q0_,wu8 (by omega) (by omega)]
 rw [e,cvt64 (by omega) (by omega)]
theorem stripz_len:∀ r:List UInt8,(qf_ r).length≤r.length
 | []=>Nat.le_refl _
 | c::q=>by
  have ih:=stripz_len q
  show (match qf_ q with | []=>_ | r=>_:List UInt8).length≤_
  cases h:qf_ q with
  | nil=>dsimp only; split <;> simp
  | cons a b=>rw [h] at ih; simp at ih ⊢; omega
theorem stripz_mem:∀ {r:List UInt8} {c:UInt8},c ∈ qf_ r->c ∈ r
 | a::q,c,h=>by
  have ih:=@stripz_mem q c
  change c ∈ (match qf_ q with | []=>_ | r=>_:List UInt8) at h
  cases hq:qf_ q with
  | nil =>
   rw [hq] at h
   dsimp only at h
   split at h
   ·cases h
   ·simp at h; simp [h]
  | cons x y =>
   rw [hq] at h ih
   rcases List.mem_cons.1 h with h | h
   ·simp [h]
   ·exact List.mem_cons_of_mem _ (ih h)
theorem digs_iff {s:List UInt8}:digs s=true ↔ (∀ c ∈ s,dg c=true)∧s ≠ []:=by simp [digs,List.all_eq_true]
def parseT (neg:Bool) (t:List UInt8):PR:=parsePieces neg (t.takeWhile (·!= 46)) ((t.dropWhile (·!= 46)).drop 1) (t.contains 46)
def parseS (s:List UInt8):PR:=if s.head? = some 45 then parseT true (s.drop 1) else parseT false s
theorem tw_no {c:UInt8} {s:List UInt8} (h:c ∉ s):s.takeWhile (·!= c)=s∧s.dropWhile (·!= c)=[]∧s.contains c=false:=by
 induction s with
 | nil=>exact ⟨rfl,rfl,rfl⟩
 | cons b q ih =>
  have hb:b ≠ c:=fun e=>h (by simp [e])
  obtain ⟨h1,h2,h3⟩:=ih (fun hm=>h (List.mem_cons_of_mem _ hm))
  have hb':(b != c)=true:=by simp [hb]
  refine ⟨by simp [hb',h1],by simp [hb',h2],?_⟩
  simp only [List.contains_cons,h3,Bool.or_false]
  simp
  exact fun e=>hb e.symm
theorem tw_yes {c:UInt8} {p q:List UInt8} (h:c ∉ p):(p++c::q).takeWhile (·!= c)=p∧(p++c::q).dropWhile (·!= c)=c::q∧(p++c::q).contains c=true:=by
 induction p with
 | nil=>simp
 | cons b r ih =>
  have hb:b ≠ c:=fun e=>h (by simp [e])
  obtain ⟨h1,h2,h3⟩:=ih (fun hm=>h (List.mem_cons_of_mem _ hm))
  have hb':(b != c)=true:=by simp [hb]
  refine ⟨by simp [hb',h1],by simp [hb',h2],?_⟩
  simp
theorem parseT_no {neg:Bool} {t:List UInt8} (h:(46:UInt8) ∉ t):parseT neg t=parsePieces neg t [] false:=by
 obtain ⟨h1,h2,h3⟩:=tw_no h
 unfold parseT
 rw [h1,h2,h3]
 rfl
theorem parseT_yes {neg:Bool} {p q:List UInt8} (h:(46:UInt8) ∉ p):parseT neg (p++46::q)=parsePieces neg p q true:=by
 obtain ⟨h1,h2,h3⟩:=tw_yes (q:=q) h
 simp only [parseT,h1,h2,h3]
 simp
end Go.Proofs.Lx
end
section
namespace Go.Proofs.Lx
open Go Ev Sx Pl
set_option maxRecDepth 100000
abbrev dd (n:Nat):List UInt8:=Lib.decDigits n
end Go.Proofs.Lx
end
section
namespace Go.Proofs.Lx
open Go Ev Sx Pl
set_option maxRecDepth 100000
structure RtD (d:Int×Int) (sg:Bool) (n D:Nat):Prop where
 e1:d.1=if sg then -(n:Int) else (n:Int)
 e2:d.2=(D:Int)
 nz:sg=true->n ≠ 0
 le:n≤1000000000000
 d6:D≤6
 tz:D ≠ 0->n % 10 ≠ 0
end Go.Proofs.Lx
end
section
namespace Go.Proofs.Lx
open Go Ev Sx Pl
set_option maxRecDepth 100000
theorem power_eq:∀ {D:Nat},D≤6->q27_ ((D:Int),())=some (((10 ^ D:Nat):Int),())
 | 0,_=>by kernel_rfl
 | 1,_=>by kernel_rfl
 | 2,_=>by kernel_rfl
 | 3,_=>by kernel_rfl
 | 4,_=>by kernel_rfl
 | 5,_=>by kernel_rfl
 | 6,_=>by kernel_rfl
 | _ + 7,h=>by omega
theorem RtD.right {d:Int×Int} {sg:Bool} {n D:Nat} (h:RtD d sg n D):qq_ (d,())=some (true,()):=by
 obtain ⟨x,y⟩:=d
 have e1:x=if sg then -(n:Int) else (n:Int):=h.e1
 have e2:y=(D:Int):=h.e2
 have hle:=h.le
 have h6:=h.d6
 show q7e_ (x,y)=_
 unfold q7e_
 dsimp only
 have b1:-1000000000000≤x∧x≤1000000000000:=by
  rw [e1]
  split <;> omega
 rw [if_pos (ge_iff.2 b1.1),if_pos (le_iff.2 b1.2),if_pos (by rw [le_iff]; omega)]
 by_cases h0:D=0
 ·rw [if_pos (by rw [qb_]; omega)]
 ·rw [if_neg (by rw [qb_]; omega)]
  have hz:=h.tz h0
  have:nei (rem x 10) 0=true:=by
   rw [qh_]
   unfold rem
   rw [e1]
   cases sg with
   | true =>
    rw [if_pos rfl,Int.neg_tmod]
    show -((n % 10:Nat):Int) ≠ 0
    omega
   | false =>
    show ((n % 10:Nat):Int) ≠ 0
    omega
  rw [this]
theorem rtd_of {x:Int} {D:Nat} (hx:-1000000000000≤x∧x≤1000000000000) (h6:D≤6) (hz:D ≠ 0->x.tmod 10 ≠ 0):∃ sg n,RtD (x,(D:Int)) sg n D:=by
 rcases Int.lt_or_le x 0 with h | h
 ·obtain ⟨n,rfl⟩:∃ n:Nat,x=-(n:Int):=⟨x.natAbs,by omega⟩
  refine ⟨true,n,rfl,rfl,fun _=>by omega,by omega,h6,fun h0 e=>hz h0 ?_⟩
  rw [Int.neg_tmod]
  show -((n % 10:Nat):Int)=0
  omega
 ·obtain ⟨n,rfl⟩:=Int.eq_ofNat_of_zero_le h
  refine ⟨false,n,rfl,rfl,fun e=>(by cases e),by omega,h6,fun h0 e=>hz h0 ?_⟩
  show ((n % 10:Nat):Int)=0
  omega
end Go.Proofs.Lx
end
section
namespace Rw
open Go Ev Sx Go.RowKit
end Rw
end
section
namespace Go.Proofs.Lx
open Go Ev Sx Pl
set_option maxRecDepth 100000
theorem RtD.eq {d:Int×Int} {sg:Bool} {n D:Nat} (h:RtD d sg n D):(if sg then -(n:Int) else (n:Int),(D:Int))=d:=by
 obtain ⟨x,y⟩:=d
 have e1:x=if sg then -(n:Int) else (n:Int):=h.e1
 have e2:y=(D:Int):=h.e2
 rw [e1,e2]
end Go.Proofs.Lx
end
section
namespace Go.Proofs.Lx
def stN:Nat->Nat->Nat×Nat
 | 0,v=>(0,v)
 | k + 1,v=>if v % 10=0 then stN k (v / 10) else (k + 1,v)
theorem stN_pow (k:Nat):∀ (i W:Nat),stN (k + i) (W * 10 ^ i)=stN k W
 | 0,W=>by rw [Nat.pow_zero,Nat.mul_one]; rfl
 | i + 1,W=>by
  show stN ((k + i) + 1) (W * 10 ^ (i + 1))=_
  have e:W * 10 ^ (i + 1)=(W * 10 ^ i) * 10:=by rw [Nat.pow_succ,Nat.mul_assoc]
  rw [stN,e,if_pos (by omega),Nat.mul_div_cancel _ (by omega),stN_pow k i W]
theorem stN_spec:∀ (k v:Nat),(stN k v).1≤k∧v=(stN k v).2 * 10 ^ (k - (stN k v).1)
 | 0,v=>⟨Nat.le_refl _,by show v=v * 10 ^ (0 - 0); simp⟩
 | k + 1,v=>by
  rw [stN]
  by_cases h:v % 10=0
  ·rw [if_pos h]
   obtain ⟨h1,h2⟩:=stN_spec k (v / 10)
   refine ⟨by omega,?_⟩
   have e:k + 1 - (stN k (v / 10)).1=(k - (stN k (v / 10)).1) + 1:=by omega
   rw [e,Nat.pow_succ,<- Nat.mul_assoc,<- h2]
   omega
  ·rw [if_neg h]
   refine ⟨Nat.le_refl _,?_⟩
   show v=v * 10 ^ (k + 1 - (k + 1))
   simp
def okN (p:Nat×Nat):Option (Nat×Nat):=if p.2≤1000000000000 then some (p.2,p.1) else none
def timesN (a b:Nat):Option (Nat×Nat):=if a * 1000000 % b=0 then okN (stN 6 (a * 1000000 / b)) else none
def refL (num:Nat):Nat->Nat->Nat->Nat->Option (Nat×Nat)
 | 0,_,_,_=>none
 | f + 1,k,nn,below=>if below=1 then (if 4000000000000000000 / num < nn then none else okN (stN k (nn * num)))
  else if 4000000000000000000 / (10 / Nat.gcd below 10) < nn then none else refL num f (k + 1) (nn * (10 / Nat.gcd below 10)) (below / Nat.gcd below 10)
theorem big_mul {c n x:Nat} (hn:0 < n) (h:c / n < x):c < x * n:=by
 have:=Nat.lt_mul_of_div_lt h hn
 first | exact this | (rw [Nat.mul_comm]; exact this)
theorem cop_one {x y:Nat} (h:y ∣ x) (hc:Nat.Coprime x y):y=1:=by
 have h2:y ∣ Nat.gcd x y:=Nat.dvd_gcd h (Nat.dvd_refl _)
 rw [hc] at h2
 exact Nat.dvd_one.1 h2
theorem refL_eq {num a b:Nat} (hnum:0 < num) (hb:0 < b):∀ (f k nn below:Nat),k + f=7->0 < below->0 < nn->Nat.Coprime (nn * num) below->nn * num * b=a * 10 ^ k * below->0 < f->refL num f k nn below=timesN a b
 | 0,_,_,_,_,_,_,_,_,hf=>by omega
 | f + 1,k,nn,below,hk,hbel,hnn,hco,he,_=>by
  rw [refL]
  by_cases h1:below=1
  ·subst h1
   rw [if_pos rfl,Nat.mul_one] at *
   have hk6:k≤6:=by omega
   have e6:a * 1000000=nn * num * 10 ^ (6 - k) * b:=by
    have:(1000000:Nat)=10 ^ k * 10 ^ (6 - k):=by rw [<- Nat.pow_add,show k + (6 - k)=6 by omega]
    rw [this,<- Nat.mul_assoc,<- he]
    ac_rfl
   have hst:stN 6 (a * 1000000 / b)=stN k (nn * num):=by
    rw [e6,Nat.mul_div_cancel _ hb]
    have:=stN_pow k (6 - k) (nn * num)
    rw [show k + (6 - k)=6 by omega] at this
    exact this
   have ht:timesN a b=okN (stN k (nn * num)):=by
    unfold timesN
    rw [if_pos (by rw [e6]; exact Nat.mul_mod_left _ _),hst]
   rw [ht]
   by_cases h2:4000000000000000000 / num < nn
   ·rw [if_pos h2]
    have hbig:=big_mul hnum h2
    obtain ⟨g1,g2⟩:=stN_spec k (nn * num)
    unfold okN
    rw [if_neg]
    intro hle
    have hp:10 ^ (k - (stN k (nn * num)).1)≤10 ^ 6:=Nat.pow_le_pow_right (by omega) (by omega)
    have:=Nat.mul_le_mul hle hp
    rw [<- g2] at this
    omega
   ·rw [if_neg h2]
  ·rw [if_neg h1]
   have hg:0 < Nat.gcd below 10:=Nat.gcd_pos_of_pos_left _ hbel
   obtain ⟨c,hc⟩:=Nat.gcd_dvd_left below 10
   obtain ⟨d,hd⟩:=Nat.gcd_dvd_right below 10
   have hcd:below / Nat.gcd below 10=c:=Nat.div_eq_of_eq_mul_right hg hc
   have hdd:10 / Nat.gcd below 10=d:=Nat.div_eq_of_eq_mul_right hg hd
   rw [hcd,hdd]
   have key:∀ j w:Nat,j≤6->a * 1000000=w * 10 ^ (6 - j) * b->nn≤w:=by
    intro j w hj hw
    have e1:a * 10 ^ j=w * b:=by
     have h6:(1000000:Nat)=10 ^ j * 10 ^ (6 - j):=by rw [<- Nat.pow_add,show j + (6 - j)=6 by omega]
     have hp:0 < 10 ^ (6 - j):=Nat.pow_pos (by omega)
     rw [h6] at hw
     have:a * 10 ^ j * 10 ^ (6 - j)=w * b * 10 ^ (6 - j):=by
      rw [Nat.mul_assoc,hw]
      ac_rfl
     exact Nat.eq_of_mul_eq_mul_right hp this
    by_cases hjk:j≤k
    ·exfalso
     have e2:a * 10 ^ k=w * 10 ^ (k - j) * b:=by
      have hp:10 ^ k=10 ^ j * 10 ^ (k - j):=by rw [<- Nat.pow_add,show j + (k - j)=k by omega]
      rw [hp,<- Nat.mul_assoc,e1]
      ac_rfl
     rw [e2] at he
     have e3:nn * num=w * 10 ^ (k - j) * below:=by
      have:nn * num * b=w * 10 ^ (k - j) * below * b:=by rw [he]; ac_rfl
      exact Nat.eq_of_mul_eq_mul_right hb this
     have hdv:below ∣ nn * num:=⟨_,by rw [e3,Nat.mul_comm]⟩
     exact h1 (cop_one hdv hco)
    ·have e3:nn * num * 10 ^ (j - k)=w * below:=by
      have:nn * num * 10 ^ (j - k) * b=w * below * b:=by
       have hp:10 ^ j=10 ^ k * 10 ^ (j - k):=by rw [<- Nat.pow_add,show k + (j - k)=j by omega]
       rw [hp] at e1
       have e4:nn * num * 10 ^ (j - k) * b=nn * num * b * 10 ^ (j - k):=by ac_rfl
       have e5:a * 10 ^ k * below * 10 ^ (j - k)=a * (10 ^ k * 10 ^ (j - k)) * below:=by ac_rfl
       rw [e4,he,e5,e1]
       ac_rfl
      exact Nat.eq_of_mul_eq_mul_right hb this
     have hdv:below ∣ 10 ^ (j - k):=by
      have:below ∣ nn * num * 10 ^ (j - k):=⟨w,by rw [e3,Nat.mul_comm]⟩
      exact (Nat.Coprime.symm hco).dvd_of_dvd_mul_left this
     obtain ⟨t,ht⟩:=hdv
     have hw2:w=nn * num * t:=by
      rw [ht] at e3
      have:w * below=nn * num * t * below:=by rw [<- e3]; ac_rfl
      exact Nat.eq_of_mul_eq_mul_right hbel this
     have htp:0 < t:=by
      rcases Nat.eq_zero_or_pos t with e | e
      ·subst e
       have:0 < 10 ^ (j - k):=Nat.pow_pos (by omega)
       omega
      ·exact e
     rw [hw2,Nat.mul_assoc]
     exact Nat.le_mul_of_pos_right _ (Nat.mul_pos hnum htp)
   by_cases h2:4000000000000000000 / d < nn
   ·rw [if_pos h2]
    have hd10:d≤10:=Nat.le_of_dvd (by omega) ⟨_,by rw [Nat.mul_comm]; exact hd⟩
    have hdp:0 < d:=by
     rcases Nat.eq_zero_or_pos d with e | e
     ·subst e; omega
     ·exact e
    have hbig:=big_mul hdp h2
    have hnn17:1000000000000 < nn:=by
     have:nn * d≤nn * 10:=Nat.mul_le_mul_left _ hd10
     omega
    unfold timesN
    by_cases hdiv:a * 1000000 % b=0
    ·rw [if_pos hdiv]
     obtain ⟨g1,g2⟩:=stN_spec 6 (a * 1000000 / b)
     have hq:a * 1000000=a * 1000000 / b * b:=(Nat.div_mul_cancel (Nat.dvd_of_mod_eq_zero hdiv)).symm
     have:=key (stN 6 (a * 1000000 / b)).1 (stN 6 (a * 1000000 / b)).2 g1 (by rw [<- g2]; exact hq)
     unfold okN
     rw [if_neg (by omega)]
    ·rw [if_neg hdiv]
   ·rw [if_neg h2]
    have hcp:0 < c:=by
     rcases Nat.eq_zero_or_pos c with e | e
     ·subst e; omega
     ·exact e
    have hdp:0 < d:=by
     rcases Nat.eq_zero_or_pos d with e | e
     ·subst e; omega
     ·exact e
    rcases Nat.eq_zero_or_pos f with hf0 | hf0
    ·subst hf0
     have hk6:k=6:=by omega
     subst hk6
     show none=timesN a b
     unfold timesN
     rw [if_neg]
     intro hdiv
     have hq:a * 1000000=a * 1000000 / b * b:=(Nat.div_mul_cancel (Nat.dvd_of_mod_eq_zero hdiv)).symm
     have he':nn * num * b=a * 1000000 * below:=he
     rw [hq] at he'
     have e3:nn * num=a * 1000000 / b * below:=by
      have:nn * num * b=a * 1000000 / b * below * b:=by rw [he']; ac_rfl
      exact Nat.eq_of_mul_eq_mul_right hb this
     have hdv:below ∣ nn * num:=⟨_,by rw [e3,Nat.mul_comm]⟩
     exact h1 (cop_one hdv hco)
    ·refine refL_eq hnum hb f (k + 1) (nn * d) c (by omega) hcp (Nat.mul_pos hnn hdp) ?_ ?_ hf0
     ·have hcd1:Nat.Coprime d c:=by
       have:=Nat.gcd_div_gcd_div_gcd_of_pos_left (n:=below) (m:=10) hbel
       rw [hcd,hdd] at this
       exact (Nat.Coprime.symm this)
      have hnc:Nat.Coprime (nn * num) c:=Nat.Coprime.coprime_dvd_right ⟨_,by rw [Nat.mul_comm]; exact hc⟩ hco
      rw [show nn * d * num=nn * num * d by ac_rfl]
      exact Nat.Coprime.mul_left hnc hcd1
     ·rw [show nn * d * num * b=nn * num * b * d by ac_rfl,he,Nat.pow_succ]
      have e7:a * 10 ^ k * below * d=a * 10 ^ k * (Nat.gcd below 10 * c) * d:=by rw [<- hc]
      have e8:a * 10 ^ k * (Nat.gcd below 10 * c) * d=a * 10 ^ k * (Nat.gcd below 10 * d) * c:=by ac_rfl
      rw [e7,e8,<- hd]
      ac_rfl
theorem gcd_parts {x y:Nat} (hx:0 < x):∃ g x' y',0 < g∧Nat.gcd x y=g∧x=x' * g∧y=y' * g∧x / Nat.gcd x y=x'∧y / Nat.gcd x y=y'∧Nat.Coprime x' y':=by
 have hg:0 < Nat.gcd x y:=Nat.gcd_pos_of_pos_left _ hx
 have h:=Nat.gcd_div_gcd_div_gcd_of_pos_left (n:=x) (m:=y) hx
 exact ⟨Nat.gcd x y,x / Nat.gcd x y,y / Nat.gcd x y,hg,rfl,(Nat.div_mul_cancel (Nat.gcd_dvd_left _ _)).symm,(Nat.div_mul_cancel (Nat.gcd_dvd_right _ _)).symm,rfl,rfl,h⟩
theorem red_eq {n num den ten:Nat} (hn:0 < n) (hnum:0 < num) (hden:0 < den) (hten:0 < ten) :
  refL (num / Nat.gcd num (den / Nat.gcd n den) / Nat.gcd (num / Nat.gcd num (den / Nat.gcd n den)) ten) 7 0
   (n / Nat.gcd n den / Nat.gcd (n / Nat.gcd n den) (ten / Nat.gcd (num / Nat.gcd num (den / Nat.gcd n den)) ten))
   (den / Nat.gcd n den / Nat.gcd num (den / Nat.gcd n den) * (ten / Nat.gcd (num / Nat.gcd num (den / Nat.gcd n den)) ten / Nat.gcd (n / Nat.gcd n den) (ten / Nat.gcd (num / Nat.gcd num (den / Nat.gcd n den)) ten)))=timesN (n * num) (den * ten):=by
 obtain ⟨g1,n1,d1,p1,_,a1,b1,c1,e1,f1⟩:=gcd_parts (y:=den) hn
 rw [c1,e1]
 obtain ⟨g2,m2,d2,p2,_,a2,b2,c2,e2,f2⟩:=gcd_parts (y:=d1) hnum
 rw [c2,e2]
 have hm2:0 < m2:=by
  rcases Nat.eq_zero_or_pos m2 with e | e
  ·subst e; omega
  ·exact e
 obtain ⟨g3,m3,t3,p3,_,a3,b3,c3,e3,f3⟩:=gcd_parts (y:=ten) hm2
 rw [c3,e3]
 have hn1:0 < n1:=by
  rcases Nat.eq_zero_or_pos n1 with e | e
  ·subst e; omega
  ·exact e
 obtain ⟨g4,n4,t4,p4,_,a4,b4,c4,e4,f4⟩:=gcd_parts (y:=t3) hn1
 rw [c4,e4]
 have pos:∀ {x y z:Nat},0 < x->x=y * z->0 < y:=by
  intro x y z hx h
  rcases Nat.eq_zero_or_pos y with e | e
  ·subst e; omega
  ·exact e
 have hn4:0 < n4:=pos hn1 a4
 have hm3:0 < m3:=pos hm2 a3
 have hd1:0 < d1:=pos hden b1
 have hd2:0 < d2:=pos hd1 b2
 have ht3:0 < t3:=pos hten b3
 have ht4:0 < t4:=pos ht3 b4
 refine refL_eq hm3 (Nat.mul_pos hden hten) 7 0 n4 (d2 * t4) rfl (Nat.mul_pos hd2 ht4) hn4 ?_ ?_ (by decide)
 ·have q1:Nat.Coprime n4 d2:=Nat.Coprime.coprime_dvd_left ⟨g4,a4⟩ (Nat.Coprime.coprime_dvd_right ⟨g2,b2⟩ f1)
  have q2:Nat.Coprime m3 d2:=Nat.Coprime.coprime_dvd_left ⟨g3,a3⟩ f2
  have q3:Nat.Coprime m3 t4:=Nat.Coprime.coprime_dvd_right ⟨g4,b4⟩ f3
  exact Nat.Coprime.mul_right (Nat.Coprime.mul_left q1 q2) (Nat.Coprime.mul_left f4 q3)
 ·rw [a1,a2,b1,b2,b3,b4,a3,a4,Nat.pow_zero,Nat.mul_one]
  ac_rfl
end Go.Proofs.Lx
end
section
namespace Go.Proofs.Lx
open Go Ev Sx Pl
set_option maxRecDepth 100000
theorem uwM (x:Int):IntKind.u64.wrap x=x % 18446744073709551616:=by
 rfl
theorem uwB {x:Int} (h1:0≤x) (h2:x < 18446744073709551616):IntKind.u64.wrap x=x:=by grind [uwM]
theorem band_lo {x:Int} (h1:0≤x) (h2:x < 18446744073709551616):band .u64 x 4294967295=x % 4294967296:=by
 obtain ⟨n,rfl⟩:=Int.eq_ofNat_of_zero_le h1
 have e:(BitVec.ofInt 64 (n:Int) &&& BitVec.ofInt 64 4294967295).toNat=n % 4294967296:=by
  rw [BitVec.toNat_and]
  have a1:(BitVec.ofInt 64 (n:Int)).toNat=n:=by grind
  have a2:(BitVec.ofInt 64 4294967295).toNat=2 ^ 32 - 1:=by decide
  rw [a1,a2,Nat.and_two_pow_sub_one_eq_mod]
 show IntKind.u64.wrap ((BitVec.ofInt 64 (n:Int) &&& BitVec.ofInt 64 4294967295).toNat:Int)=_
 grind [uwB]
theorem shr_k {x:Int} (k:Nat) (hk:k≤64):shr .u64 x (k:Int)=x / 2 ^ k:=by
 grind [shr,IntKind.bits,Int.toNat_natCast,Nat.min_eq_left,Int.fdiv_eq_ediv_of_nonneg,Int.le_of_lt,Int.pow_pos]
theorem shr_32 {x:Int} (_:0≤x):shr .u64 x 32=x / 4294967296:=shr_k 32 (by decide)
theorem mul_b {a b:Int} (A B C:Int) (hC:A * B=C) (ha:0≤a∧a≤A) (hb:0≤b∧b≤B):0≤a * b∧a * b≤C:=by
 subst hC
 exact ⟨Int.mul_nonneg ha.1 hb.1,Int.mul_le_mul ha.2 hb.2 hb.1 (by omega)⟩
theorem mul64_eq {x y:Int} (hx:0≤x) (hx':x < 18446744073709551616) (hy:0≤y) (hy':y < 18446744073709551616) :
  bits_Mul64 (x,y,())=some (x * y / 18446744073709551616,x * y % 18446744073709551616,()):=by
 show bits_Mul64_m0 x y=_
 unfold bits_Mul64_m0
 simp only [band_lo hx hx',band_lo hy hy',shr_32 hx,shr_32 hy]
 have bA:=mul_b (a:=x % 4294967296) (b:=y % 4294967296) 4294967295 4294967295 18446744065119617025 (by decide) (by omega) (by omega)
 have bB:=mul_b (a:=x / 4294967296) (b:=y % 4294967296) 4294967295 4294967295 18446744065119617025 (by decide) (by omega) (by omega)
 have bC:=mul_b (a:=x % 4294967296) (b:=y / 4294967296) 4294967295 4294967295 18446744065119617025 (by decide) (by omega) (by omega)
 have bD:=mul_b (a:=x / 4294967296) (b:=y / 4294967296) 4294967295 4294967295 18446744065119617025 (by decide) (by omega) (by omega)
 have hxy:x * y=(x / 4294967296 * (y / 4294967296)) * 18446744073709551616 + (x / 4294967296 * (y % 4294967296) + x % 4294967296 * (y / 4294967296)) * 4294967296 + x % 4294967296 * (y % 4294967296):=by
  grind
 unfold add mul
 rw [hxy]
 generalize x % 4294967296 * (y % 4294967296)=A at *
 generalize x / 4294967296 * (y % 4294967296)=B at *
 generalize x % 4294967296 * (y / 4294967296)=C at *
 generalize x / 4294967296 * (y / 4294967296)=D at *
 rw [uwB (x:=A) (by omega) (by omega),uwB (x:=B) (by omega) (by omega),uwB (x:=C) (by omega) (by omega),uwB (x:=D) (by omega) (by omega)]
 rw [shr_32 (x:=A) (by omega)]
 rw [uwB (x:=B + A / 4294967296) (by omega) (by omega),band_lo (by omega) (by omega),shr_32 (by omega)]
 rw [uwB (x:=(B + A / 4294967296) % 4294967296 + C) (by omega) (by omega),shr_32 (by omega)]
 rw [uwB (x:=D + (B + A / 4294967296) / 4294967296) (by omega) (by omega)]
 rw [uwB (x:=D + (B + A / 4294967296) / 4294967296 + _) (by omega) (by omega),uwM]
 refine congrArg some (Prod.ext ?_ rfl)
 show @Eq Int _ _
 omega
def len8:List UInt8:=[0,1,2,2,3,3,3,3,4,4,4,4,4,4,4,4,5,5,5,5,5,5,5,5,5,5,5,5,5,5,5,5,6,6,6,6,6,6,6,6,6,6,6,6,6,6,6,6,6,6,6,6,6,6,6,6,6,6,6,6,6,6,6,6,7,7,7,7,7,7,7,7,7,7,7,7,7,7,7,7,7,7,7,7,7,7,7,7,7,7,7,7,7,7,7,7,7,7,7,7,7,7,7,7,7,7,7,7,7,7,7,7,7,7,7,7,7,7,7,7,7,7,7,7,7,7,7,7,8,8,8,8,8,8,8,8,8,8,8,8,8,8,8,8,8,8,8,8,8,8,8,8,8,8,8,8,8,8,8,8,8,8,8,8,8,8,8,8,8,8,8,8,8,8,8,8,8,8,8,8,8,8,8,8,8,8,8,8,8,8,8,8,8,8,8,8,8,8,8,8,8,8,8,8,8,8,8,8,8,8,8,8,8,8,8,8,8,8,8,8,8,8,8,8,8,8,8,8,8,8,8,8,8,8,8,8,8,8,8,8,8,8,8,8,8,8,8,8,8,8,8,8,8,8,8,8]
set_option maxRecDepth 10000 in
theorem len8_spec:∀ x:Fin 256,∃ c,len8[x.val]? = some c∧c.toNat≤8∧x.val < 2 ^ c.toNat∧(x.val=0∨2 ^ c.toNat≤2 * x.val):=by
 have h:(List.finRange 256).all (fun x=>match len8[x.val]? with | some c=>decide (c.toNat≤8∧x.val < 2 ^ c.toNat∧(x.val=0∨2 ^ c.toNat≤2 * x.val)) | none=>false)=true:=by decide +kernel
 grind
theorem tab_eq {x n:Int} (h1:0≤x) (h2:x < 256) (hn:0≤n) (hn':n≤56):∃ c:Nat,(Option.bind (at? len8 (cvt .u8 x)) fun c=>(some (Sx.sub .i64 64 (add .i64 n (cvt .i64 (Int.ofNat (UInt8.toNat c)))),()):Option (As [.int .i64])))=some (64 - (n + c),())∧c≤8∧x < 2 ^ c∧(x=0∨(2:Int) ^ c≤2 * x):=by
 obtain ⟨m,rfl⟩:=Int.eq_ofNat_of_zero_le h1
 obtain ⟨c,h3,h4,h5,h6⟩:=len8_spec ⟨m,by omega⟩
 refine ⟨c.toNat,?_,h4,?_,?_⟩
 ·have e1:cvt .u8 (m:Int)=m:=wu8 (by omega) (by omega)
  grind [at?,len8,Int,q4_,q0_,cvt64,add64,sub64]
 ·grind
 grind
theorem m61_eq {y:Int} (h1:1≤y) (h2:y < 4294967296):∃ n:Nat,q5g_ (y,())=some (((64 - n:Nat):Int),())∧n≤32∧y < 2 ^ n∧(2:Int) ^ n≤2 * y:=by
 have e0:ge y 4294967296=false:=decide_eq_false (by omega)
 show ∃ n:Nat,q71_ y=_∧_
 unfold q71_
 simp only [e0,Bool.false_eq_true,if_false]
 have p8:(2:Int) ^ 8=256:=by decide
 have p16:(2:Int) ^ 16=65536:=by decide
 by_cases q1:65536≤y
 ·have e1:ge y 65536=true:=decide_eq_true (by omega)
  have e2:shr .u64 y 16=y / 65536:=by have:=shr_k (x:=y) 16 (by decide); simp_all
  simp only [e1,if_true,e2]
  by_cases q2:256≤y / 65536
  ·have e4:ge (y / 65536) 256=true:=decide_eq_true (by omega)
   have e5:shr .u64 (y / 65536) 8=y / 65536 / 256:=by have:=shr_k (x:=y / 65536) 8 (by decide); simp_all
   simp only [e4,if_true,e5]
   obtain ⟨c,h3,h4,h5,h6⟩:=tab_eq (x:=y / 65536 / 256) (n:=24) (by omega) (by omega) (by omega) (by omega)
   refine ⟨24 + c,h3.trans (by grind),by omega,?_,?_⟩
   ·grind
   grind
  ·have e4:ge (y / 65536) 256=false:=decide_eq_false (by omega)
   simp only [e4,Bool.false_eq_true,if_false]
   obtain ⟨c,h3,h4,h5,h6⟩:=tab_eq (x:=y / 65536) (n:=16) (by omega) (by omega) (by omega) (by omega)
   refine ⟨16 + c,h3.trans (by grind),by omega,?_,?_⟩
   ·grind
   grind
 ·have e1:ge y 65536=false:=decide_eq_false (by omega)
  simp only [e1,Bool.false_eq_true,if_false]
  by_cases q2:256≤y
  ·have e4:ge y 256=true:=decide_eq_true (by omega)
   have e5:shr .u64 y 8=y / 256:=by have:=shr_k (x:=y) 8 (by decide); simp_all
   simp only [e4,if_true,e5]
   obtain ⟨c,h3,h4,h5,h6⟩:=tab_eq (x:=y / 256) (n:=8) (by omega) (by omega) (by omega) (by omega)
   refine ⟨8 + c,h3.trans (by grind),by omega,?_,?_⟩
   ·grind
   grind
  ·have e4:ge y 256=false:=decide_eq_false (by omega)
   simp only [e4,Bool.false_eq_true,if_false]
   obtain ⟨c,h3,h4,h5,h6⟩:=tab_eq (x:=y) (n:=0) (by omega) (by omega) (by omega) (by omega)
   refine ⟨c,h3.trans (by grind),by omega,h5,?_⟩
   omega
theorem shl_k {x:Int} (k:Nat) (hk:k≤64):shl .u64 x (k:Int)=(x * 2 ^ k) % 18446744073709551616:=by
 simp_all [shl,IntKind.bits,Int.toNat_natCast,Nat.min_eq_left,uwM]
theorem cvtu (x:Int):cvt .u64 x=x % 18446744073709551616:=uwM x
theorem ofInt_nat {N:Nat} (h:(N:Int) < 18446744073709551616):(BitVec.ofInt 64 (N:Int)).toNat=N:=by grind
theorem bor_add {a b:Int} (k:Nat) (ha:0≤a) (hb:0≤b) (hb':b < 2 ^ k) (hs:a * 2 ^ k + b < 18446744073709551616):bor .u64 (a * 2 ^ k) b=a * 2 ^ k + b:=by
 obtain ⟨m,rfl⟩:=Int.eq_ofNat_of_zero_le ha
 obtain ⟨n,rfl⟩:=Int.eq_ofNat_of_zero_le hb
 have hc:((m:Int) * 2 ^ k)=((m * 2 ^ k:Nat):Int):=by simp
 have hn:n < 2 ^ k:=by grind
 have hs':((m * 2 ^ k:Nat):Int) + (n:Int) < 18446744073709551616:=by omega
 have e:(BitVec.ofInt 64 ((m * 2 ^ k:Nat):Int) ||| BitVec.ofInt 64 (n:Int)).toNat=m * 2 ^ k + n:=by
  rw [BitVec.toNat_or]
  have a1:=ofInt_nat (N:=m * 2 ^ k) (by omega)
  have a2:=ofInt_nat (N:=n) (by omega)
  rw [a1,a2,<- Nat.shiftLeft_eq,Nat.shiftLeft_add_eq_or_of_lt hn]
 rw [hc]
 show IntKind.u64.wrap ((BitVec.ofInt 64 ((m * 2 ^ k:Nat):Int) ||| BitVec.ofInt 64 (n:Int)).toNat:Int)=_
 grind [uwB]
theorem quou {a b:Int} (ha:0≤a) (ha':a < 18446744073709551616) (hb:0 < b):quo .u64 a b=a / b:=by
 unfold quo
 rw [Int.tdiv_eq_ediv_of_nonneg ha,uwB (Int.ediv_nonneg ha (by omega))]
 exact Int.lt_of_le_of_lt (Int.ediv_le_self b ha) ha'
theorem remu {a b:Int} (ha:0≤a):rem a b=a % b:=by
 simp_all [rem,Int.tmod_eq_emod_of_nonneg]
theorem loopF64 {σ R:Type} (F:(σ->Option R)->σ->Option R) (s:σ):loopF F 18446744073709551616 s=F (loopF F 18446744073709551615) s:=rfl
set_option maxHeartbeats 4000000 in
theorem div64_eq {hi lo y:Int} (h1:1≤y) (h2:y < 4294967296) (hh:0≤hi) (hhy:hi < y) (hl:0≤lo) (hl':lo < 18446744073709551616) :
  bits_Div64 (hi,lo,y,())=some ((hi * 18446744073709551616 + lo) / y,(hi * 18446744073709551616 + lo) % y,()):=by
 have e0:eqi y 0=false:=by simp [eqi]; omega
 have e1:le y hi=false:=decide_eq_false (by omega)
 have e2:nei y 0=true:=by simp [nei]; omega
 show bits_Div64_m0 bits_Div64_K1 hi lo y=_
 simp only [bits_Div64_m0,e0,Bool.false_eq_true,if_false,bits_Div64_K1,bits_Div64_m1,e1,bits_Div64_K2,bits_Div64_m2]
 by_cases hz:hi=0
 ·subst hz
  have e3:eqi 0 0=true:=rfl
  simp only [e3,if_true,need,e2,quou hl hl' (by omega:0 < y),remu hl]
  simp
 ·have e3:eqi hi 0=false:=by simp [eqi]; omega
  obtain ⟨n,hs,hn,hy1,hy2⟩:=m61_eq h1 h2
  simp only [e3,Bool.false_eq_true,if_false,hs,Option.bind_some]
  have es:cvt .u64 (((64 - n:Nat)):Int)=((64 - n:Nat):Int):=by rw [cvtu]; omega
  have et:sub .u64 64 ((64 - n:Nat):Int)=((n:Nat):Int):=by
   unfold sub
   rw [uwB (by omega) (by omega)]
   omega
  have g1:ge ((64 - n:Nat):Int) 0=true:=decide_eq_true (by omega)
  have g2:ge ((n:Nat):Int) 0=true:=decide_eq_true (by omega)
  simp only [es,et,g1,g2,need,if_true]
  obtain ⟨T,hT⟩:∃ T:Int,T=2 ^ n:=⟨_,rfl⟩
  obtain ⟨K,hK⟩:∃ K:Int,K=2 ^ (32 - n):=⟨_,rfl⟩
  have hT0:0 < T:=by rw [hT]; exact Int.pow_pos (by decide)
  have hK0:0 < K:=by rw [hK]; exact Int.pow_pos (by decide)
  have hTK:T * K=4294967296:=by
   rw [hT,hK,<- Int.pow_add,show n + (32 - n)=32 by omega]; decide
  have hP:(2:Int) ^ (64 - n)=K * 4294967296:=by
   rw [hK,show (4294967296:Int)=2 ^ 32 by decide,<- Int.pow_add,show 32 - n + 32=64 - n by omega]
  rw [<- hT] at hy1 hy2
  have hTP:T * (K * 4294967296)=18446744073709551616:=by grind
  have hYK1:y * K < 4294967296:=by rw [<- hTK]; exact Int.mul_lt_mul_of_pos_right hy1 hK0
  have hYK2:2147483648≤y * K:=by
   have:T * K≤2 * y * K:=Int.mul_le_mul_of_nonneg_right hy2 (by omega)
   rw [hTK] at this
   grind
  have eY:shl .u64 y ((64 - n:Nat):Int)=(y * K) * 4294967296:=by
   rw [shl_k _ (by omega),hP,<- Int.mul_assoc]
   omega
  obtain ⟨Z,hZ⟩:∃ Z:Int,Z=y * K:=⟨_,rfl⟩
  rw [<- hZ] at hYK1 hYK2 eY
  have eYn1:shr .u64 (Z * 4294967296) 32=Z:=by rw [shr_32 (by omega)]; omega
  have eYn0:band .u64 (Z * 4294967296) 4294967295=0:=by rw [band_lo (by omega) (by omega)]; omega
  have eLo1:shr .u64 lo ((n:Nat):Int)=lo / T:=by rw [shr_k n (by omega),<- hT]
  have eLo2:shl .u64 lo ((64 - n:Nat):Int)=(lo % T) * (K * 4294967296):=by
   rw [shl_k _ (by omega),hP,<- hTP,Int.mul_comm lo,Int.mul_comm T,Int.mul_emod_mul_of_pos _ _ (by omega:0 < K * 4294967296),Int.mul_comm]
  have bLo1:0≤lo / T:=Int.ediv_nonneg hl (by omega)
  have bLo1':lo / T < K * 4294967296:=Int.ediv_lt_of_lt_mul hT0 (by rw [Int.mul_comm,hTP]; exact hl')
  have bHi:hi * (K * 4294967296) + lo / T < Z * 4294967296:=by
   have:(hi + 1) * (K * 4294967296)≤y * (K * 4294967296):=Int.mul_le_mul_of_nonneg_right (by omega) (by omega)
   rw [hZ]
   grind
  have eHi:shl .u64 hi ((64 - n:Nat):Int)=hi * (K * 4294967296):=by
   rw [shl_k _ (by omega),hP]
   have:0≤hi * (K * 4294967296):=Int.mul_nonneg hh (by omega)
   omega
  have eU:bor .u64 (shl .u64 hi ((64 - n:Nat):Int)) (shr .u64 lo ((n:Nat):Int))=hi * (K * 4294967296) + lo / T:=by
   rw [eHi,eLo1,<- hP]
   rw [<- hP] at bLo1' bHi
   exact bor_add _ hh bLo1 bLo1' (by omega)
  have bU0:0≤hi * (K * 4294967296) + lo / T:=Int.add_nonneg (Int.mul_nonneg hh (by omega)) bLo1
  have bV0:0≤(lo % T) * (K * 4294967296):=Int.mul_nonneg (Int.emod_nonneg _ (by omega)) (by omega)
  have bV1:(lo % T) * (K * 4294967296) < 18446744073709551616:=by
   rw [<- hTP]
   exact Int.mul_lt_mul_of_pos_right (Int.emod_lt_of_pos _ hT0) (by omega)
  obtain ⟨V,hV⟩:∃ V:Int,V=(lo % T) * (K * 4294967296):=⟨_,rfl⟩
  obtain ⟨U,hU⟩:∃ U:Int,U=hi * (K * 4294967296) + lo / T:=⟨_,rfl⟩
  rw [<- hV] at eLo2 bV0 bV1
  rw [<- hU] at eU bHi bU0
  have hsum:(hi * 18446744073709551616 + lo) * (K * 4294967296)=U * 18446744073709551616 + V:=by
   have:lo=T * (lo / T) + lo % T:=by have:=Int.mul_ediv_add_emod lo T; omega
   rw [hU,hV]
   generalize lo / T=a at *
   generalize lo % T=b at *
   subst this
   rw [<- hTP]
   grind
  have hq1:U=Z * (U / Z) + U % Z:=by have:=Int.mul_ediv_add_emod U Z; omega
  have hr1:0≤U % Z∧U % Z < Z:=⟨Int.emod_nonneg _ (by omega),Int.emod_lt_of_pos _ (by omega)⟩
  have hq1':0≤U / Z∧U / Z < 4294967296:=⟨Int.ediv_nonneg bU0 (by omega),Int.ediv_lt_of_lt_mul (by omega) (by rw [Int.mul_comm]; exact bHi)⟩
  have en:nei Z 0=true:=by simp [nei]; omega
  have eq1:quo .u64 U Z=U / Z:=quou bU0 (by omega) (by omega)
  simp only [eU,eY,eYn1,eYn0,eLo2,en,eq1,if_true,Option.bind_some]
  obtain ⟨q1,hq1d⟩:∃ q,q=U / Z:=⟨_,rfl⟩
  obtain ⟨r1,hr1d⟩:∃ r,r=U % Z:=⟨_,rfl⟩
  rw [<- hq1d,<- hr1d] at hq1
  rw [<- hr1d] at hr1
  rw [<- hq1d] at hq1'
  simp only [<- hq1d]
  have bZq1:0≤Z * q1:=Int.mul_nonneg (by omega) hq1'.1
  have c1:q1 * Z=Z * q1:=Int.mul_comm _ _
  have m1:mul .u64 q1 Z=Z * q1:=by unfold mul; rw [c1,uwB (by omega) (by omega)]
  have s1:sub .u64 U (Z * q1)=r1:=by unfold sub; rw [uwB (by omega) (by omega)]; omega
  have lg1:ge q1 4294967296=false:=decide_eq_false (by omega)
  have m0:mul .u64 q1 0=0:=by unfold mul; rw [Int.mul_zero]; rfl
  have eV1:shr .u64 V 32=V / 4294967296:=shr_32 bV0
  have eV0:band .u64 V 4294967295=V % 4294967296:=band_lo bV0 bV1
  have lz:∀ x:Int,gt 0 (add .u64 (mul .u64 4294967296 x) (V / 4294967296))=false:=fun x=>by
   apply decide_eq_false
   unfold add
   rw [uwM]
   omega
  rw [m1,s1]
  simp only [bits_Div64_K3,loopF64,es,bits_Div64_m3,lg1,Bool.false_eq_true,if_false,eYn0,m0,eV1,Option.bind_some,lz,bits_Div64_K4,bits_Div64_m4,bits_Div64_K5,bits_Div64_m5,en,need,if_true,eYn1,eLo2,eY]
  have mY1:mul .u64 q1 (Z * 4294967296)=(Z * q1 * 4294967296) % 18446744073709551616:=by
   unfold mul; rw [uwM,<- Int.mul_assoc,c1]
  have mU:mul .u64 U 4294967296=(U * 4294967296) % 18446744073709551616:=by unfold mul; rw [uwM]
  have hW:sub .u64 (add .u64 (mul .u64 U 4294967296) (V / 4294967296)) (mul .u64 q1 (Z * 4294967296))=r1 * 4294967296 + V / 4294967296:=by
   rw [mY1,mU]
   unfold sub add
   rw [uwM,uwM]
   generalize Z * q1=A at *
   omega
  obtain ⟨W,hWd⟩:∃ W:Int,W=r1 * 4294967296 + V / 4294967296:=⟨_,rfl⟩
  rw [<- hWd] at hW
  have bW:0≤W∧W < Z * 4294967296:=by omega
  rw [hW]
  have eq0:quo .u64 W Z=W / Z:=quou (by omega) (by omega) (by omega)
  simp only [eq0]
  have hq0:W=Z * (W / Z) + W % Z:=by have:=Int.mul_ediv_add_emod W Z; omega
  have hr0:0≤W % Z∧W % Z < Z:=⟨Int.emod_nonneg _ (by omega),Int.emod_lt_of_pos _ (by omega)⟩
  have hq0':0≤W / Z∧W / Z < 4294967296:=⟨Int.ediv_nonneg bW.1 (by omega),Int.ediv_lt_of_lt_mul (by omega) (by rw [Int.mul_comm]; exact bW.2)⟩
  obtain ⟨q0,hq0d⟩:∃ q,q=W / Z:=⟨_,rfl⟩
  obtain ⟨r0,hr0d⟩:∃ r,r=W % Z:=⟨_,rfl⟩
  rw [<- hq0d,<- hr0d] at hq0
  rw [<- hr0d] at hr0
  rw [<- hq0d] at hq0'
  simp only [<- hq0d]
  have bZq0:0≤Z * q0:=Int.mul_nonneg (by omega) hq0'.1
  have c0:q0 * Z=Z * q0:=Int.mul_comm _ _
  have lg0:ge q0 4294967296=false:=decide_eq_false (by omega)
  have m00:mul .u64 q0 0=0:=by unfold mul; rw [Int.mul_zero]; rfl
  have lz0:∀ x:Int,gt 0 (add .u64 (mul .u64 4294967296 x) (V % 4294967296))=false:=fun x=>by
   apply decide_eq_false
   unfold add
   rw [uwM]
   omega
  simp only [bits_Div64_K6,loopF64,es,bits_Div64_m6,lg0,Bool.false_eq_true,if_false,eYn0,m00,eV0,eLo2,eY,Option.bind_some,lz0,bits_Div64_K7,bits_Div64_m7,bits_Div64_K8,bits_Div64_m8,es,g1,need,if_true]
  have mY0:mul .u64 q0 (Z * 4294967296)=(Z * q0 * 4294967296) % 18446744073709551616:=by
   unfold mul; rw [uwM,<- Int.mul_assoc,c0]
  have mW:mul .u64 W 4294967296=(W * 4294967296) % 18446744073709551616:=by unfold mul; rw [uwM]
  have hR:sub .u64 (add .u64 (mul .u64 W 4294967296) (V % 4294967296)) (mul .u64 q0 (Z * 4294967296))=r0 * 4294967296 + V % 4294967296:=by
   rw [mY0,mW]
   unfold sub add
   rw [uwM,uwM]
   generalize Z * q0=A at *
   omega
  have hQ:add .u64 (mul .u64 q1 4294967296) q0=q1 * 4294967296 + q0:=by
   unfold add mul
   rw [uwB (x:=q1 * 4294967296) (by omega) (by omega),uwB (by omega) (by omega)]
  rw [hR,hQ,shr_k (64 - n) (by omega),hP]
  have hall:(hi * 18446744073709551616 + lo) * (K * 4294967296)=y * (q1 * 4294967296 + q0) * (K * 4294967296) + (r0 * 4294967296 + V % 4294967296):=by
   rw [hsum]
   have eV:V=4294967296 * (V / 4294967296) + V % 4294967296:=by omega
   generalize V / 4294967296=V1 at *
   generalize V % 4294967296=V0 at *
   rw [eV,hq1]
   have:U=Z * q1 + r1:=hq1
   have h3:r1 * 4294967296 + V1=Z * q0 + r0:=by omega
   have h4:Z * q1 + r1=Z * q1 + r1:=rfl
   subst hZ
   have h5:r1 * 18446744073709551616 + 4294967296 * V1=(y * K * q0 + r0) * 4294967296:=by omega
   grind
  have hdiv:r0 * 4294967296 + V % 4294967296=(hi * 18446744073709551616 + lo - y * (q1 * 4294967296 + q0)) * (K * 4294967296):=by
   rw [Int.sub_mul,hall]; omega
  have hquot:(r0 * 4294967296 + V % 4294967296) / (K * 4294967296)=hi * 18446744073709551616 + lo - y * (q1 * 4294967296 + q0):=by
   rw [hdiv,Int.mul_ediv_cancel _ (by omega:K * 4294967296 ≠ 0)]
  have hb:0≤r0 * 4294967296 + V % 4294967296∧r0 * 4294967296 + V % 4294967296 < y * (K * 4294967296):=by
   rw [<- Int.mul_assoc,<- hZ]; omega
  rw [hquot]
  have hlt:hi * 18446744073709551616 + lo - y * (q1 * 4294967296 + q0) < y:=by
   rw [hdiv] at hb
   exact Int.lt_of_mul_lt_mul_right hb.2 (by omega)
  have hge:0≤hi * 18446744073709551616 + lo - y * (q1 * 4294967296 + q0):=by
   rw [<- hquot]
   exact Int.ediv_nonneg hb.1 (by omega)
  generalize hi * 18446744073709551616 + lo=X at *
  generalize q1 * 4294967296 + q0=q at *
  have hX:X=(X - y * q) + y * q:=by omega
  refine congrArg some (Prod.ext ?_ (Prod.ext ?_ rfl))
  ·show @Eq Int _ _
   dsimp only
   have:X / y=(X - y * q) / y + q:=by
    conv=>lhs; rw [hX]
    rw [Int.add_mul_ediv_left _ _ (by omega:y ≠ 0)]
   rw [this,Int.ediv_eq_zero_of_lt hge hlt]
   omega
  ·show @Eq Int _ _
   dsimp only
   have:X % y=(X - y * q) % y:=by
    conv=>lhs; rw [hX]
    rw [Int.add_mul_emod_self_left]
   rw [this,Int.emod_eq_of_lt hge hlt]
end Go.Proofs.Lx
end
section
namespace Go.Proofs.Lx
open Go Ev Sx Pl
@[reducible] def zI12:Type:=(Int)×(Int)×(Int)×(Int)×(Int)×(Int)->Option (As [.pr (.int .i64) (.int .u8),.bool])
def qf7_ :=(fun (self:zI12) (s:(Int)×(Int)×(Int)×(Int)×(Int)×(Int))=>q4k_ (q4o_ (fun q places d d_2 t6 t6_2=>self (q,places,d,d_2,t6,t6_2))) (fun q places d d_2 t6 t6_2=>self (q,places,d,d_2,t6,t6_2)) s.1 s.2.1 s.2.2.1 s.2.2.2.1 s.2.2.2.2.1 s.2.2.2.2.2)
theorem ql5_  (self:zI12) (q:Int) (places:Int) (d:Int) (d_2:Int) (t6:Int) (t6_2:Int):qf7_ self (q,places,d,d_2,t6,t6_2)=q4k_ (q4o_ (fun q places d d_2 t6 t6_2=>self (q,places,d,d_2,t6,t6_2))) (fun q places d d_2 t6 t6_2=>self (q,places,d,d_2,t6,t6_2)) q places d d_2 t6 t6_2:=rfl
theorem qsd_  (q:Int) (places:Int) (d:Int) (d_2:Int) (t6:Int) (t6_2:Int):qh5_ q places d d_2 t6 t6_2=loopF (qf7_) 18446744073709551616 (q,places,d,d_2,t6,t6_2):=rfl
@[reducible] def zI13:Type:=(Int)×(Int)×(Int)×(Int)->Option (As [.pr (.int .i64) (.int .u8),.bool])
def qps_ :=(fun (self:zI13) (s:(Int)×(Int)×(Int)×(Int))=>q42_ (q26_ (fun n digits t4 t4_2=>self (n,digits,t4,t4_2))) (fun n digits t4 t4_2=>self (n,digits,t4,t4_2)) s.1 s.2.1 s.2.2.1 s.2.2.2)
theorem qnc_  (self:zI13) (n:Int) (digits:Int) (t4:Int) (t4_2:Int):qps_ self (n,digits,t4,t4_2)=q42_ (q26_ (fun n digits t4 t4_2=>self (n,digits,t4,t4_2))) (fun n digits t4 t4_2=>self (n,digits,t4,t4_2)) n digits t4 t4_2:=rfl
@[reducible] def zI14:Type:=(Int)×(Int)->Option (As [.int .i64])
def ql8_ :=(fun (self:zI14) (s:(Int)×(Int))=>q6f_ (fun a b=>self (a,b)) s.1 s.2)
theorem qr8_  (self:zI14) (a:Int) (b:Int):ql8_ self (a,b)=q6f_ (fun a b=>self (a,b)) a b:=rfl
@[reducible] def zI15:Type:=(Int)×(Int)×(Int)×(Int)×(Int)×(Int)×(Int)×(Int)×(Int)×(Int)->Option (As [.pr (.int .i64) (.int .u8),.bool])
def qf6_ :=(fun (self:zI15) (s:(Int)×(Int)×(Int)×(Int)×(Int)×(Int)×(Int)×(Int)×(Int)×(Int))=>q4p_ (q2v_) (fun num den n sign ten i d d_2 t6 t6_2=>self (num,den,n,sign,ten,i,d,d_2,t6,t6_2)) s.1 s.2.1 s.2.2.1 s.2.2.2.1 s.2.2.2.2.1 s.2.2.2.2.2.1 s.2.2.2.2.2.2.1 s.2.2.2.2.2.2.2.1 s.2.2.2.2.2.2.2.2.1 s.2.2.2.2.2.2.2.2.2)
theorem qkz_  (self:zI15) (num:Int) (den:Int) (n:Int) (sign:Int) (ten:Int) (i:Int) (d:Int) (d_2:Int) (t6:Int) (t6_2:Int):qf6_ self (num,den,n,sign,ten,i,d,d_2,t6,t6_2)=q4p_ (q2v_) (fun num den n sign ten i d d_2 t6 t6_2=>self (num,den,n,sign,ten,i,d,d_2,t6,t6_2)) num den n sign ten i d d_2 t6 t6_2:=rfl
theorem qsh_  (num:Int) (den:Int) (n:Int) (sign:Int) (ten:Int) (i:Int) (d:Int) (d_2:Int) (t6:Int) (t6_2:Int):qiq_ num den n sign ten i d d_2 t6 t6_2=loopF (qf6_) 18446744073709551616 (num,den,n,sign,ten,i,d,d_2,t6,t6_2):=rfl
@[reducible] def zI16:Type:=(Int)×(Int)×(Int)×(Int)×(Int)×(Int)×(Int)->Option (As [.pr (.int .i64) (.int .u8),.bool])
def qf5_ :=(fun (self:zI16) (s:(Int)×(Int)×(Int)×(Int)×(Int)×(Int)×(Int))=>q4l_ (qcb_) (fun num n sign below k t6 t6_2=>self (num,n,sign,below,k,t6,t6_2)) s.1 s.2.1 s.2.2.1 s.2.2.2.1 s.2.2.2.2.1 s.2.2.2.2.2.1 s.2.2.2.2.2.2)
theorem ql0_  (self:zI16) (num:Int) (n:Int) (sign:Int) (below:Int) (k:Int) (t6:Int) (t6_2:Int):qf5_ self (num,n,sign,below,k,t6,t6_2)=q4l_ (qcb_) (fun num n sign below k t6 t6_2=>self (num,n,sign,below,k,t6,t6_2)) num n sign below k t6 t6_2:=rfl
theorem qsf_  (num:Int) (n:Int) (sign:Int) (below:Int) (k:Int) (t6:Int) (t6_2:Int):qj2_ num n sign below k t6 t6_2=loopF (qf5_) 18446744073709551616 (num,n,sign,below,k,t6,t6_2):=rfl
def q8n_ :=(fun (self:zI14) (s:(Int)×(Int))=>q25_ (fun n i=>self (n,i)) s.1 s.2)
theorem qf9_  (self:zI14) (n:Int) (i:Int):q8n_ self (n,i)=q25_ (fun n i=>self (n,i)) n i:=rfl
theorem qoe_  (n:Int) (i:Int):q6e_ n i=loopF (q8n_) 18446744073709551616 (n,i):=rfl
@[reducible] def zI17:Type:=(Int)×(Bool)×(Int)×(Int)->Option (As [.int .u16,.bool])
def qfs_ :=(fun (self:zI17) (s:(Int)×(Bool)×(Int)×(Int))=>q5s_ (q3i_) (fun digits signed n i=>self (digits,signed,n,i)) s.1 s.2.1 s.2.2.1 s.2.2.2)
theorem qm6_  (self:zI17) (digits:Int) (signed:Bool) (n:Int) (i:Int):qfs_ self (digits,signed,n,i)=q5s_ (q3i_) (fun digits signed n i=>self (digits,signed,n,i)) digits signed n i:=rfl
theorem qsv_  (digits:Int) (signed:Bool) (n:Int) (i:Int):qk8_ digits signed n i=loopF (qfs_) 18446744073709551616 (digits,signed,n,i):=rfl
end Go.Proofs.Lx
end
section
namespace Go.Proofs.Lx
open Go Ev Sx Pl
set_option maxRecDepth 100000
def sgn (sg:Bool) (n:Nat):Int:=if sg then -(n:Int) else (n:Int)
def tmS (sg:Bool):Option (Nat×Nat)->(Int×Int)×Bool
 | some (w,k)=>((sgn sg w,(k:Int)),true)
 | none=>((0,0),false)
def timesQ (P den:Nat):Option (Nat×Nat):=if P % den=0 then okN (stN 6 (P / den)) else none
theorem timesN_Q {n num den D:Nat} (hden:0 < den) (h6:D≤6):timesN (n * num) (den * 10 ^ D)=timesQ (n * 10 ^ (6 - D) * num) den:=by
 have hp:0 < 10 ^ D:=Nat.pow_pos (by omega)
 have e:n * num * 1000000=n * 10 ^ (6 - D) * num * 10 ^ D:=by
  have:(1000000:Nat)=10 ^ (6 - D) * 10 ^ D:=by rw [<- Nat.pow_add,show 6 - D + D=6 by omega]
  rw [this]
  ac_rfl
 unfold timesN timesQ
 rw [e,Nat.mul_mod_mul_right,Nat.mul_div_mul_right _ _ hp]
 generalize n * 10 ^ (6 - D) * num % den=r
 by_cases hr:r=0
 ·rw [if_pos hr,if_pos (by rw [hr,Nat.zero_mul])]
 ·rw [if_neg hr,if_neg]
  intro h
  rcases Nat.mul_eq_zero.1 h with h | h
  ·exact hr h
  ·omega
theorem stN_le (k v:Nat):(stN k v).2≤v:=by
 obtain ⟨_,h⟩:=stN_spec k v
 have hp:0 < 10 ^ (k - (stN k v).1):=Nat.pow_pos (by omega)
 rw [show v=(stN k v).2 * 10 ^ (k - (stN k v).1) from h]
 have:=Nat.le_mul_of_pos_right (stN k v).2 hp
 rw [<- h]
 rw [<- h] at this
 exact this
theorem times_loop (d d2 a b:Int):∀ (p v N:Nat),p≤6->v < 18446744073709551616 ->
  loopF qf7_ (N + p + 1) ((v:Int),(p:Int),d,d2,a,b)=q7g_ ((stN p v).2:Int) ((stN p v).1:Int) d d2 a b
 | 0,v,N,_,_=>by
  rw [q5_,ql5_]
  unfold q4k_
  rw [if_neg (by rw [q7_]; omega)]
  unfold q4o_ qav_
  rw [if_neg (by decide)]
  rfl
 | p + 1,v,N,h6,hv=>by
  rw [q5_,ql5_]
  unfold q4k_
  rw [if_pos (by rw [q7_]; omega)]
  unfold q4o_ qav_ stN
  have hr:rem (v:Int) 10=((v % 10:Nat):Int):=rfl
  by_cases hz:v % 10=0
  ·rw [if_pos (by rw [qb_,hr]; omega),if_pos hz]
   have e1:quo .u64 (v:Int) 10=((v / 10:Nat):Int):=by
    rw [quou (by omega) (by omega) (by decide)]
    omega
   have e2:sub .u8 ((p + 1:Nat):Int) 1=(p:Int):=by
    unfold sub
    rw [wu8 (by omega) (by omega)]
    omega
   rw [e1,e2]
   exact times_loop d d2 a b p (v / 10) N (by omega) (by omega)
  ·rw [if_neg (by rw [qb_,hr]; omega),if_neg hz]
theorem times_K5 {sg:Bool} {n:Nat} {d:Int} (d2 a b:Int) (hd:d=sgn sg n) (hn:sg=true->n ≠ 0) {q k:Nat} (hq:q≤18446744073709551615) (hk:k≤6) :
  q7g_ (q:Int) (k:Int) d d2 a b=some ((tmS sg (okN (k,q))).1,(tmS sg (okN (k,q))).2,()):=by
 unfold q7g_ qin_ okN
 by_cases h:q≤1000000000000
 ·rw [if_neg (by rw [q7_]; omega)]
  dsimp only
  rw [if_pos h,cvt64 (by omega) (by omega)]
  cases sg with
  | true =>
   have:=hn rfl
   have e:d=-(n:Int):=hd
   rw [if_pos (by rw [q1_]; omega),neg64 (by omega) (by omega)]
   rfl
  | false =>
   have e:d=(n:Int):=hd
   rw [if_neg (by rw [q1_]; omega)]
   rfl
 ·rw [if_pos (by rw [q7_]; omega)]
  dsimp only
  rw [if_neg h]
  rfl
theorem times_K1 {sg:Bool} {n D num den:Nat} {d:Int} (hd:d=sgn sg n) (hn:sg=true->n ≠ 0) (hle:n≤1000000000000) (h6:D≤6) (h1:1≤num∧num≤1000000000) (h2:1≤den∧den≤1000000000) (a b:Int) :
  q2o_ (num:Int) (den:Int) false d (D:Int) a b=some ((tmS sg (timesQ (n * 10 ^ (6 - D) * num) den)).1,(tmS sg (timesQ (n * 10 ^ (6 - D) * num) den)).2,()):=by
 have eK:q2o_ (num:Int) (den:Int) false d (D:Int) a b=qbj_ (num:Int) (den:Int) (n:Int) d (D:Int) a b:=by
  unfold q2o_ qib_
  rw [if_neg (by decide)]
  cases sg with
  | true =>
   have:=hn rfl
   have e:d=-(n:Int):=hd
   rw [if_pos (by rw [q1_]; omega),neg64 (by omega) (by omega),e,Int.neg_neg]
  | false =>
   have e:d=(n:Int):=hd
   rw [if_neg (by rw [q1_]; omega)]
   rw [e]
 rw [eK]
 unfold qbj_ qh2_
 have e6:sub .i64 6 (cvt .i64 (D:Int))=((6 - D:Nat):Int):=by
  rw [cvt64 (by omega) (by omega),sub64 (by omega) (by omega)]
  omega
 have hpow:10 ^ (6 - D)≤10 ^ 6:=Nat.pow_le_pow_right (by omega) (by omega)
 have hX:n * 10 ^ (6 - D)≤1000000000000 * 10 ^ 6:=Nat.mul_le_mul hle hpow
 have emul:mul .i64 (n:Int) ((10 ^ (6 - D):Nat):Int)=((n * 10 ^ (6 - D):Nat):Int):=by
  rw [mul64 (by rw [<- Int.natCast_mul]; omega) (by rw [<- Int.natCast_mul]; omega)]
  simp
 rw [e6,power_eq (by omega),Option.bind_some]
 dsimp only
 rw [emul]
 generalize n * 10 ^ (6 - D)=X at hX
 have hPb:X * num≤1000000000000 * 10 ^ 6 * 1000000000:=Nat.mul_le_mul hX h1.2
 have c1:cvt .u64 (X:Int)=(X:Int):=by rw [cvtu]; omega
 have c2:cvt .u64 (num:Int)=(num:Int):=by rw [cvtu]; omega
 have c3:cvt .u64 (den:Int)=(den:Int):=by rw [cvtu]; omega
 rw [c1,c2,c3,mul64_eq (by omega) (by omega) (by omega) (by omega),Option.bind_some]
 dsimp only
 have hcast:(X:Int) * (num:Int)=((X * num:Nat):Int):=by simp
 rw [hcast]
 generalize hP:X * num=P at hPb
 unfold timesQ
 by_cases q1:(den:Int)≤(P:Int) / 18446744073709551616
 ·rw [if_pos (by rw [ge_iff]; exact q1)]
  have hQ:18446744073709551616≤P / den:=by
   rw [Nat.le_div_iff_mul_le (by omega)]
   omega
  have hnone:okN (stN 6 (P / den))=none:=by
   unfold okN
   rw [if_neg]
   intro hw
   obtain ⟨g1,g2⟩:=stN_spec 6 (P / den)
   have hp:10 ^ (6 - (stN 6 (P / den)).1)≤10 ^ 6:=Nat.pow_le_pow_right (by omega) (by omega)
   have:=Nat.mul_le_mul hw hp
   rw [<- g2] at this
   omega
  rw [hnone,ite_self]
  rfl
 ·rw [if_neg (by rw [ge_iff]; exact q1)]
  rw [div64_eq (hi:=(P:Int) / 18446744073709551616) (lo:=(P:Int) % 18446744073709551616) (by omega) (by omega) (by omega) (by omega) (by omega) (by omega)]
  have eP:(P:Int) / 18446744073709551616 * 18446744073709551616 + (P:Int) % 18446744073709551616=(P:Int):=by omega
  rw [eP,Option.bind_some]
  dsimp only
  have eq:(P:Int) / (den:Int)=((P / den:Nat):Int):=rfl
  have er:(P:Int) % (den:Int)=((P % den:Nat):Int):=rfl
  rw [eq,er]
  by_cases q2:P % den=0
  ·rw [if_neg (by rw [qh_]; omega),if_pos q2]
   have hQ1:P / den < 18446744073709551616:=by
    rw [Nat.div_lt_iff_lt_mul (by omega)]
    omega
   obtain ⟨g1,_⟩:=stN_spec 6 (P / den)
   have g2:=stN_le 6 (P / den)
   rw [qsd_]
   have:=times_loop d (D:Int) a b 6 (P / den) 18446744073709551609 (by omega) hQ1
   refine Eq.trans this ?_
   exact times_K5 _ _ _ hd hn (by omega) g1
  ·rw [if_pos (by rw [qh_]; omega),if_neg q2]
   rfl
theorem times_eq {d:Int×Int} {sg:Bool} {n D num den:Nat} (hd:RtD d sg n D) (h1:1≤num∧num≤1000000000) (h2:1≤den∧den≤1000000000) :
  q43_ (d,(num:Int),(den:Int),())=some ((tmS sg (timesN (n * num) (den * 10 ^ D))).1,(tmS sg (timesN (n * num) (den * 10 ^ D))).2,()):=by
 rw [timesN_Q (by omega) hd.d6]
 show q4c_ q2o_ d (num:Int) (den:Int)=_
 unfold q4c_
 rw [hd.right,Option.bind_some]
 dsimp only
 rw [if_neg (by decide),if_neg (by rw [q1_]; omega),if_neg (by rw [q7_]; omega),if_neg (by rw [q1_]; omega)]
 have:gt (den:Int) 1000000000=false:=by
  rw [gt_dec,decide_eq_false]; omega
 rw [this,hd.e2]
 exact times_K1 hd.e1 hd.nz hd.le hd.d6 h1 h2 _ _
theorem times_bad {d:Int×Int} {num den:Int} (h:qq_ (d,())=some (false,())∨(qq_ (d,())=some (true,())∧¬ (1≤num∧num≤1000000000∧1≤den∧den≤1000000000))) :
  q43_ (d,num,den,())=some ((0,0),false,()):=by
 show q4c_ q2o_ d num den=_
 unfold q4c_
 rcases h with h | ⟨h,hb⟩
 ·rw [h,Option.bind_some]
  dsimp only
  rw [if_pos (by decide)]
  rfl
 ·rw [h,Option.bind_some]
  dsimp only
  rw [if_neg (by decide)]
  by_cases b1:num < 1
  ·rw [if_pos (q1_.2 b1)]; rfl
  rw [if_neg (fun e=>b1 (q1_.1 e))]
  by_cases b2:1000000000 < num
  ·rw [if_pos (q7_.2 b2)]; rfl
  rw [if_neg (fun e=>b2 (q7_.1 e))]
  by_cases b3:den < 1
  ·rw [if_pos (q1_.2 b3)]; rfl
  rw [if_neg (fun e=>b3 (q1_.1 e)),q7_.2 (show 1000000000 < den by omega)]
  rfl
end Go.Proofs.Lx
end
section
namespace Go.Proofs.Lx
open Go Ev Sx Pl
set_option maxRecDepth 100000
theorem quon {a b:Nat} (ha:a≤9223372036854775807):quo .i64 (a:Int) (b:Int)=((a / b:Nat):Int):=by
 have e:((a:Int)).tdiv (b:Int)=((a / b:Nat):Int):=rfl
 have h:=Nat.div_le_self a b
 unfold quo
 rw [e]
 generalize a / b=q at h ⊢
 exact w64 (by omega) (by omega)
theorem mulnn {a b:Nat} (h:a * b≤9223372036854775807):mul .i64 (a:Int) (b:Int)=((a * b:Nat):Int):=by
 rw [mul64 (by rw [<- Int.natCast_mul]; omega) (by rw [<- Int.natCast_mul]; omega)]
 simp
theorem common_loop:∀ (b N a:Nat),b≤N->loopF ql8_ (N + 1) ((a:Int),(b:Int))=some (((Nat.gcd a b:Nat):Int),())
 | b,N,a,h=>by
  rw [q5_,qr8_]
  unfold q6f_
  by_cases hb:b=0
  ·subst hb
   rw [if_neg (by rw [qh_]; simp)]
   simp
  ·have hnb:nei (b:Int) 0=true:=by rw [qh_]; omega
   rw [if_pos hnb,qp_ hnb]
   have er:rem (a:Int) (b:Int)=((a % b:Nat):Int):=rfl
   rw [er]
   have hlt:=Nat.mod_lt a (Nat.pos_of_ne_zero hb)
   match N,h with
   | 0,h=>omega
   | N + 1,h =>
    have ih:=common_loop (a % b) N b (by omega)
    refine Eq.trans ih ?_
    rw [Nat.gcd_comm b,<- Nat.gcd_rec,Nat.gcd_comm]
termination_by b=>b
theorem common_eq {a b:Nat} (hb:b≤9223372036854775807):q20_ ((a:Int),(b:Int),())=some (((Nat.gcd a b:Nat):Int),()) :=
 common_loop b 18446744073709551615 a (by omega)
theorem sgn_mod (sg:Bool) (v:Nat):rem (sgn sg v) 10=0 ↔ v % 10=0:=by
 unfold rem sgn
 cases sg with
 | true =>
  rw [if_pos rfl,Int.neg_tmod]
  show -((v % 10:Nat):Int)=0 ↔ _
  omega
 | false =>
  show ((v % 10:Nat):Int)=0 ↔ _
  omega
theorem sgn_div (sg:Bool) {v:Nat} (h:v≤9223372036854775807):quo .i64 (sgn sg v) 10=sgn sg (v / 10):=by
 unfold quo sgn
 cases sg with
 | true =>
  rw [if_pos rfl,if_pos rfl,Int.neg_tdiv]
  show IntKind.i64.wrap (-((v / 10:Nat):Int))=_
  exact w64 (by omega) (by omega)
 | false =>
  show IntKind.i64.wrap ((v / 10:Nat):Int)=((v / 10:Nat):Int)
  exact w64 (by omega) (by omega)
theorem of_K3 (sg:Bool) {k v:Nat} (hk:k≤6) (a b:Int):qd3_ (sgn sg v) (k:Int) a b=some ((tmS sg (okN (k,v))).1,(tmS sg (okN (k,v))).2,()):=by
 unfold qd3_ qj6_ qcz_ qjb_ okN
 rw [if_neg (by rw [q7_]; omega)]
 dsimp only
 by_cases h:v≤1000000000000
 ·have b1:-1000000000000≤sgn sg v∧sgn sg v≤1000000000000:=by
   unfold sgn
   split <;> omega
  rw [if_neg (by rw [q7_]; omega),if_pos h,if_neg (by rw [q1_]; omega)]
  have:cvt .u8 (k:Int)=(k:Int):=wu8 (by omega) (by omega)
  rw [this]
  rfl
 ·rw [if_neg h]
  cases sg with
  | true =>
   have e:sgn true v=-(v:Int):=rfl
   rw [if_neg (by rw [q7_]; omega),if_pos (by rw [q1_]; omega)]
   rfl
  | false =>
   have e:sgn false v=(v:Int):=rfl
   rw [if_pos (by rw [q7_]; omega),if_pos rfl]
   rfl
theorem ofN_loop (sg:Bool) (a b:Int):∀ (k v N:Nat),k≤6->v≤9223372036854775807 ->
  loopF qps_ (N + k + 1) (sgn sg v,(k:Int),a,b)=some ((tmS sg (okN (stN k v))).1,(tmS sg (okN (stN k v))).2,())
 | 0,v,N,_,_=>by
  rw [q5_,qnc_]
  unfold q42_
  rw [if_neg (by rw [q7_]; omega)]
  unfold q26_ q9a_
  rw [if_neg (by decide)]
  exact of_K3 sg (by omega) a b
 | k + 1,v,N,h6,hv=>by
  rw [q5_,qnc_]
  unfold q42_
  rw [if_pos (by rw [q7_]; omega)]
  unfold q26_ q9a_ stN
  by_cases hz:v % 10=0
  ·rw [if_pos (by rw [qb_]; exact (sgn_mod sg v).2 hz),if_pos hz,sgn_div sg hv]
   have e2:Sx.sub .i64 ((k + 1:Nat):Int) 1=(k:Int):=by
    rw [sub64 (by omega) (by omega)]
    omega
   rw [e2]
   exact ofN_loop sg a b k (v / 10) N (by omega) (by omega)
  ·rw [if_neg (by rw [qb_]; exact fun e=>hz ((sgn_mod sg v).1 e)),if_neg hz]
   exact of_K3 sg h6 a b
theorem ofN_eq (sg:Bool) {k v:Nat} (hk:k≤6) (hv:v≤9223372036854775807):q9u_ (sgn sg v,(k:Int),())=some ((tmS sg (okN (stN k v))).1,(tmS sg (okN (stN k v))).2,()):=by
 have:=ofN_loop sg 0 0 k v (18446744073709551615 - k) hk hv
 rw [show 18446744073709551615 - k + k + 1=18446744073709551616 by omega] at this
 exact this
def sgI (sg:Bool):Int:=if sg then -1 else 1
theorem sgI_mul {sg:Bool} {v:Nat} (h:v≤9223372036854775807):mul .i64 (sgI sg) (v:Int)=sgn sg v:=by
 unfold sgI sgn
 cases sg with
 | true =>
  rw [if_pos rfl,if_pos rfl,mul64 (by omega) (by omega)]
  omega
 | false =>
  show mul .i64 1 (v:Int)=(v:Int)
  rw [mul64 (by omega) (by omega)]
  omega
theorem sgn_mul {sg:Bool} {v w:Nat} (h:v * w≤9223372036854775807):mul .i64 (sgn sg v) (w:Int)=sgn sg (v * w):=by
 unfold sgn
 cases sg with
 | true =>
  rw [if_pos rfl,if_pos rfl]
  have:-(v:Int) * (w:Int)=-((v * w:Nat):Int):=by rw [Int.neg_mul]; simp
  rw [mul64 (by rw [this]; omega) (by rw [this]; omega),this]
 | false =>
  show mul .i64 (v:Int) (w:Int)=((v * w:Nat):Int)
  exact mulnn h
theorem ten_loop (num den n sign d a b:Int) (D:Nat) (h6:D≤6):∀ (r i N:Nat),i + r=D ->
  loopF qf6_ (N + r + 1) (num,den,n,sign,((10 ^ i:Nat):Int),(i:Int),d,(D:Int),a,b)=q2v_ num den n sign ((10 ^ D:Nat):Int) a b
 | 0,i,N,h=>by
  rw [q5_,qkz_]
  unfold q4p_
  rw [cvt64 (by omega) (by omega),if_neg (by rw [q1_]; omega)]
  rw [show i=D by omega]
 | r + 1,i,N,h=>by
  rw [q5_,qkz_]
  unfold q4p_
  rw [cvt64 (by omega) (by omega),if_pos (by rw [q1_]; omega)]
  have hp:10 ^ i≤10 ^ 6:=Nat.pow_le_pow_right (by omega) (by omega)
  have e1:mul .i64 ((10 ^ i:Nat):Int) 10=((10 ^ (i + 1):Nat):Int):=by
   have:mul .i64 ((10 ^ i:Nat):Int) ((10:Nat):Int)=_:=mulnn (by omega)
   rw [Nat.pow_succ]
   exact this
  rw [e1,q9_ (by omega)]
  exact ten_loop num den n sign d a b D h6 r (i + 1) N (by omega)
theorem gcd10_pos {b:Nat}:0 < Nat.gcd b 10:=Nat.gcd_pos_of_pos_right _ (by decide)
theorem gcd10_le {b:Nat}:Nat.gcd b 10≤10:=Nat.gcd_le_right _ (by decide)
theorem refN_loop (sg:Bool) (num:Nat) (hnum:1≤num∧num≤1000000000) (a b:Int):∀ (f k nn below N:Nat),k + f=7->0 < below->below≤9000000000000000->nn≤4000000000000000000 ->
  loopF qf5_ (N + f + 1) ((num:Int),(nn:Int),sgI sg,(below:Int),(k:Int),a,b)=some ((tmS sg (refL num f k nn below)).1,(tmS sg (refL num f k nn below)).2,())
 | 0,k,nn,below,N,hk,_,_,_=>by
  rw [q5_,ql0_]
  unfold q4l_
  rw [if_neg (by rw [le_iff]; omega)]
  rfl
 | f + 1,k,nn,below,N,hk,hb0,hb1,hnn=>by
  rw [q5_,ql0_]
  unfold q4l_ refL
  rw [if_pos (by rw [le_iff]; omega)]
  by_cases h1:below=1
  ·rw [if_pos (by rw [qb_]; omega),if_pos h1,qp_ (by rw [qh_]; omega)]
   have e4:quo .i64 4000000000000000000 (num:Int)=((4000000000000000000 / num:Nat):Int):=quon (a:=4000000000000000000) (by omega)
   rw [e4]
   by_cases h2:4000000000000000000 / num < nn
   ·rw [if_pos (by rw [q7_]; omega),if_pos h2]
    rfl
   ·rw [if_neg (by rw [q7_]; omega),if_neg h2]
    have hm:nn * num≤4000000000000000000:=by
     have h3:nn≤4000000000000000000 / num:=by omega
     exact (Nat.le_div_iff_mul_le (by omega)).1 h3
    rw [sgI_mul (by omega),sgn_mul (by omega),ofN_eq sg (by omega) (by omega),Option.bind_some]
  ·rw [if_neg (by rw [qb_]; omega),if_neg h1]
   have ec:q20_ ((below:Int),10,())=some (((Nat.gcd below 10:Nat):Int),()):=common_eq (b:=10) (by omega)
   rw [ec,Option.bind_some]
   dsimp only
   have hg:=gcd10_pos (b:=below)
   have hg10:=gcd10_le (b:=below)
   obtain ⟨d,hd⟩:=Nat.gcd_dvd_right below 10
   have hdd:10 / Nat.gcd below 10=d:=Nat.div_eq_of_eq_mul_right hg hd
   have hdp:0 < d:=by
    rcases Nat.eq_zero_or_pos d with e | e
    ·subst e; omega
    ·exact e
   have hdle:d≤10:=Nat.le_of_dvd (by omega) ⟨_,by rw [Nat.mul_comm]; exact hd⟩
   have ng:nei ((Nat.gcd below 10:Nat):Int) 0=true:=by rw [qh_]; omega
   have e10:quo .i64 10 ((Nat.gcd below 10:Nat):Int)=((10 / Nat.gcd below 10:Nat):Int):=quon (a:=10) (by omega)
   rw [qp_ ng,qp_ ng,e10,hdd,qp_ (by rw [qh_]; omega)]
   have e4:quo .i64 4000000000000000000 (d:Int)=((4000000000000000000 / d:Nat):Int):=quon (a:=4000000000000000000) (by omega)
   rw [e4]
   by_cases h2:4000000000000000000 / d < nn
   ·rw [if_pos (by rw [q7_]; omega),if_pos h2]
    rfl
   ·rw [if_neg (by rw [q7_]; omega),if_neg h2,qp_ ng]
    have hm:nn * d≤4000000000000000000:=by
     have h3:nn≤4000000000000000000 / d:=by omega
     exact (Nat.le_div_iff_mul_le (by omega)).1 h3
    rw [mulnn (by omega),quon (by omega),q9_ (by omega)]
    have hq1:0 < below / Nat.gcd below 10:=Nat.div_pos (Nat.le_of_dvd hb0 (Nat.gcd_dvd_left _ _)) hg
    have hq2:=Nat.div_le_self below (Nat.gcd below 10)
    exact refN_loop sg num hnum a b f (k + 1) (nn * d) (below / Nat.gcd below 10) N (by omega) hq1 (by omega) hm
theorem rtimes_K4 (sg:Bool) {num den n ten:Nat} (h1:1≤num∧num≤1000000000) (h2:1≤den∧den≤1000000000) (hn:1≤n∧n≤1000000000000) (ht:1≤ten∧ten≤1000000) (a b:Int) :
  q2v_ (num:Int) (den:Int) (n:Int) (sgI sg) (ten:Int) a b=some ((tmS sg (refL (num / Nat.gcd num ten) 7 0 (n / Nat.gcd n (ten / Nat.gcd num ten)) (den * (ten / Nat.gcd num ten / Nat.gcd n (ten / Nat.gcd num ten))))).1,(tmS sg (refL (num / Nat.gcd num ten) 7 0 (n / Nat.gcd n (ten / Nat.gcd num ten)) (den * (ten / Nat.gcd num ten / Nat.gcd n (ten / Nat.gcd num ten))))).2,()):=by
 have g1:0 < Nat.gcd num ten:=Nat.gcd_pos_of_pos_left _ (by omega)
 have l1:Nat.gcd num ten≤num:=Nat.gcd_le_left _ (by omega)
 have l2:Nat.gcd num ten≤ten:=Nat.gcd_le_right _ (by omega)
 have q1:0 < ten / Nat.gcd num ten:=Nat.div_pos l2 g1
 have q1':=Nat.div_le_self ten (Nat.gcd num ten)
 have r1:0 < num / Nat.gcd num ten:=Nat.div_pos l1 g1
 have r1':=Nat.div_le_self num (Nat.gcd num ten)
 unfold q2v_ qhe_
 rw [common_eq (by omega),Option.bind_some]
 dsimp only
 have ng:nei ((Nat.gcd num ten:Nat):Int) 0=true:=by rw [qh_]; omega
 rw [qp_ ng,qp_ ng,quon (by omega),quon (by omega)]
 generalize ten / Nat.gcd num ten=t at q1 q1' ⊢
 generalize num / Nat.gcd num ten=m at r1 r1' ⊢
 have g2:0 < Nat.gcd n t:=Nat.gcd_pos_of_pos_left _ (by omega)
 have k1:Nat.gcd n t≤n:=Nat.gcd_le_left _ (by omega)
 have k2:Nat.gcd n t≤t:=Nat.gcd_le_right _ (by omega)
 rw [common_eq (by omega),Option.bind_some]
 dsimp only
 have ng2:nei ((Nat.gcd n t:Nat):Int) 0=true:=by rw [qh_]; omega
 rw [qp_ ng2,qp_ ng2,quon (by omega),quon (by omega)]
 have q2:0 < t / Nat.gcd n t:=Nat.div_pos k2 g2
 have q2':=Nat.div_le_self t (Nat.gcd n t)
 have r2':=Nat.div_le_self n (Nat.gcd n t)
 generalize t / Nat.gcd n t=u at q2 q2' ⊢
 generalize n / Nat.gcd n t=v at r2' ⊢
 have hb:den * u≤1000000000 * 1000000:=Nat.mul_le_mul h2.2 (by omega)
 have hb0:0 < den * u:=Nat.mul_pos (by omega) q2
 rw [mulnn (by omega),qsf_]
 have:=refN_loop sg m ⟨by omega,by omega⟩ a b 7 0 v (den * u) 18446744073709551608 rfl hb0 (by omega) (by omega)
 exact this
theorem rtimes_eq {d:Int×Int} {sg:Bool} {n D num den:Nat} (hd:RtD d sg n D) (h1:1≤num∧num≤1000000000) (h2:1≤den∧den≤1000000000) :
  q6x_ (d,(num:Int),(den:Int),())=some ((tmS sg (timesN (n * num) (den * 10 ^ D))).1,(tmS sg (timesN (n * num) (den * 10 ^ D))).2,()):=by
 have hle:=hd.le
 have h6:=hd.d6
 have hr:q1a_ (d,())=some (true,()):=hd.right
 show q49_ q78_ d (num:Int) (den:Int)=_
 unfold q49_
 rw [hr,Option.bind_some]
 dsimp only
 rw [if_neg (by decide),if_neg (by rw [q1_]; omega),if_neg (by rw [q7_]; omega),if_neg (by rw [q1_]; omega)]
 have:gt (den:Int) 1000000000=false:=by
  rw [gt_dec,decide_eq_false]; omega
 rw [this,hd.e2]
 unfold q78_ qhh_
 rw [if_neg (by decide)]
 have eK:(if lt d.1 0=true then q4q_ (num:Int) (den:Int) (neg .i64 d.1) (-1) d.1 (D:Int) 0 0 else q4q_ (num:Int) (den:Int) d.1 1 d.1 (D:Int) 0 0)=q4q_ (num:Int) (den:Int) (n:Int) (sgI sg) d.1 (D:Int) 0 0:=by
  have e1:=hd.e1
  cases sg with
  | true =>
   have:=hd.nz rfl
   have e:d.1=-(n:Int):=e1
   rw [if_pos (by rw [q1_]; omega),neg64 (by omega) (by omega)]
   have:-d.1=(n:Int):=by omega
   rw [this]
   rfl
  | false =>
   have e:d.1=(n:Int):=e1
   rw [if_neg (by rw [q1_]; omega),e]
   rfl
 refine Eq.trans eK ?_
 unfold q4q_ qhv_
 by_cases h0:n=0
 ·subst h0
  rw [if_pos (by rw [qb_]; rfl),Nat.zero_mul]
  have hs:sg=false:=by
   cases sg with
   | true=>exact absurd rfl (hd.nz rfl)
   | false=>rfl
  subst hs
  have:timesN 0 (den * 10 ^ D)=some (0,0):=by
   unfold timesN
   rw [Nat.zero_mul,Nat.zero_mod,if_pos rfl,Nat.zero_div]
   rfl
  rw [this]
  rfl
 ·rw [if_neg (by rw [qb_]; omega)]
  have hp:0 < 10 ^ D:=Nat.pow_pos (by omega)
  have hp':10 ^ D≤10 ^ 6:=Nat.pow_le_pow_right (by omega) h6
  rw [<- red_eq (by omega) (by omega) (by omega) hp]
  have g1:0 < Nat.gcd n den:=Nat.gcd_pos_of_pos_left _ (by omega)
  have l1:Nat.gcd n den≤n:=Nat.gcd_le_left _ (by omega)
  have l2:Nat.gcd n den≤den:=Nat.gcd_le_right _ (by omega)
  have ng:nei ((Nat.gcd n den:Nat):Int) 0=true:=by rw [qh_]; omega
  rw [common_eq (by omega),Option.bind_some]
  dsimp only
  rw [qp_ ng,qp_ ng,quon (by omega),quon (by omega)]
  have q1:0 < den / Nat.gcd n den:=Nat.div_pos l2 g1
  have q1':=Nat.div_le_self den (Nat.gcd n den)
  have r1:0 < n / Nat.gcd n den:=Nat.div_pos l1 g1
  have r1':=Nat.div_le_self n (Nat.gcd n den)
  generalize den / Nat.gcd n den=dn at q1 q1' ⊢
  generalize n / Nat.gcd n den=nn at r1 r1' ⊢
  have g2:0 < Nat.gcd num dn:=Nat.gcd_pos_of_pos_left _ (by omega)
  have k1:Nat.gcd num dn≤num:=Nat.gcd_le_left _ (by omega)
  have k2:Nat.gcd num dn≤dn:=Nat.gcd_le_right _ (by omega)
  have ng2:nei ((Nat.gcd num dn:Nat):Int) 0=true:=by rw [qh_]; omega
  rw [common_eq (by omega),Option.bind_some]
  dsimp only
  rw [qp_ ng2,qp_ ng2,quon (by omega),quon (by omega)]
  have q2:0 < dn / Nat.gcd num dn:=Nat.div_pos k2 g2
  have q2':=Nat.div_le_self dn (Nat.gcd num dn)
  have r2:0 < num / Nat.gcd num dn:=Nat.div_pos k1 g2
  have r2':=Nat.div_le_self num (Nat.gcd num dn)
  generalize dn / Nat.gcd num dn=dd2 at q2 q2' ⊢
  generalize num / Nat.gcd num dn=nm at r2 r2' ⊢
  rw [qsh_]
  have:=ten_loop (nm:Int) (dd2:Int) (nn:Int) (sgI sg) d.1 0 0 D h6 D 0 (18446744073709551615 - D) (by omega)
  rw [show 18446744073709551615 - D + D + 1=18446744073709551616 by omega] at this
  refine Eq.trans this ?_
  exact rtimes_K4 sg (by omega) (by omega) (by omega) (by omega) 0 0
theorem rtimes_bad {d:Int×Int} {num den:Int} (h:qq_ (d,())=some (false,())∨(qq_ (d,())=some (true,())∧¬ (1≤num∧num≤1000000000∧1≤den∧den≤1000000000))) :
  q6x_ (d,num,den,())=some ((0,0),false,()):=by
 show q49_ q78_ d num den=_
 unfold q49_
 rcases h with h | ⟨h,hb⟩
 ·have h:q1a_ (d,())=some (false,()):=h
  rw [h,Option.bind_some]
  dsimp only
  rw [if_pos (by decide)]
  rfl
 ·have h:q1a_ (d,())=some (true,()):=h
  rw [h,Option.bind_some]
  dsimp only
  rw [if_neg (by decide)]
  by_cases b1:num < 1
  ·rw [if_pos (q1_.2 b1)]; rfl
  rw [if_neg (fun e=>b1 (q1_.1 e))]
  by_cases b2:1000000000 < num
  ·rw [if_pos (q7_.2 b2)]; rfl
  rw [if_neg (fun e=>b2 (q7_.1 e))]
  by_cases b3:den < 1
  ·rw [if_pos (q1_.2 b3)]; rfl
  rw [if_neg (fun e=>b3 (q1_.1 e)),q7_.2 (show 1000000000 < den by omega)]
  rfl
end Go.Proofs.Lx
end
section
namespace Go.Proofs.Lx
open Go Ev Sx Pl
set_option maxRecDepth 10000
def rf (z:Bool):List UInt8->Int->Bool->Nat->Nat->Option (Int×Nat)
 | [],n,pt,bh,ah=>if ah=0∨(pt=true∧bh=0)∨6 < bh then none else some (n,bh)
 | c::q,n,pt,bh,ah =>
  if c=46∧pt=false∧0 < ah then rf z q n true bh ah
  else if dg c=false∨(ah=1∧z=true∧pt=false)∨100000000000000000 < n then none
  else rf z q (10 * n + ((c.toNat:Int) - 48)) pt (if pt then bh + 1 else bh) (if pt then ah else ah + 1)
def refEnd (below:Bool):Option (Int×Nat)->Option (As [.pr (.int .i64) (.int .u8),.bool])
 | none=>some ((0,0),false,())
 | some (n,b)=>qao_ below n (b:Int) false 0 0
theorem eqi_byte {c:UInt8} (k:UInt8) {m:Int} (hm:m=(k.toNat:Int):=by rfl):eqi (Int.ofNat c.toNat) m=true ↔ c=k:=by
 subst hm
 simp only [eqi,beq_iff_eq,q0_]
 constructor
 ·intro h; apply UInt8.toNat_inj.1; omega
 ·rintro rfl; rfl
abbrev R3:=List UInt8×Bool×Int×Bool×Int×Int×Int×Int×Int
abbrev RP:=As [.pr (.int .i64) (.int .u8),.bool]
abbrev refB (self:R3->Option RP) (s:R3):Option RP:=q7w_ (q4r_ (fun s below n point behind ahead i t2 t2_2=>self (s,below,n,point,behind,ahead,i,t2,t2_2))) (qcd_) (fun s below n point behind ahead i t2 t2_2=>self (s,below,n,point,behind,ahead,i,t2,t2_2)) s.1 s.2.1 s.2.2.1 s.2.2.2.1 s.2.2.2.2.1 s.2.2.2.2.2.1 s.2.2.2.2.2.2.1 s.2.2.2.2.2.2.2.1 s.2.2.2.2.2.2.2.2
theorem ref_K7 (self:R3->Option RP) (s:List UInt8) (below:Bool) (n:Int) (pt:Bool) (bh ah i:Nat) (c:UInt8) (hc:dg c=true) (hi:at? s (i:Int)=some c) (h0:0≤n) (hl:i < 1000000) (hb:bh < 1000000) (ha:ah < 1000000) :
  q2y_ (fun s below n point behind ahead i t2 t2_2=>self (s,below,n,point,behind,ahead,i,t2,t2_2)) s below n pt (bh:Int) (ah:Int) (i:Int) false 0 0 =
   if 100000000000000000 < n then some ((0,0),false,()) else self (s,below,10 * n + ((c.toNat:Int) - 48),pt,((if pt then bh + 1 else bh:Nat):Int),((if pt then ah else ah + 1:Nat):Int),((i + 1:Nat):Int),0,0):=by
 unfold q2y_ qiv_
 rw [if_neg (by decide)]
 by_cases hn:100000000000000000 < n
 ·rw [if_pos (by rw [q7_]; exact hn),if_pos hn]
 ·have:=dg_iff.1 hc
  rw [if_neg (by rw [q7_]; exact hn),if_neg hn,hi,Option.bind_some,byte_val hc,mul64 (by omega) (by omega),add64 (by omega) (by omega),q9_ (by omega),q9_ (by omega)]
  unfold q79_ qb8_
  rw [q9_ (by omega),show n * 10=10 * n by omega]
  cases pt <;> rfl
theorem ref_loop (s:List UInt8) (below:Bool) (hs:s.length < 1000000):∀ (k:Nat) (st:R3),
  (∃ (n:Int) (pt:Bool) (bh ah i:Nat),st=(s,below,n,pt,(bh:Int),(ah:Int),(i:Int),0,0)∧i≤s.length∧bh≤i∧ah≤i∧0≤n)->s.length - st.2.2.2.2.2.2.1.toNat < k ->
   loopF refB k st=refEnd below (rf (decide (s[0]? = some 48)) (s.drop st.2.2.2.2.2.2.1.toNat) st.2.2.1 st.2.2.2.1 st.2.2.2.2.1.toNat st.2.2.2.2.2.1.toNat):=by
 refine loopF_eq (σ:=R3) (μ:=fun st=>s.length - st.2.2.2.2.2.2.1.toNat) (G:=fun st=>refEnd below (rf (decide (s[0]? = some 48)) (s.drop st.2.2.2.2.2.2.1.toNat) st.2.2.1 st.2.2.2.1 st.2.2.2.2.1.toNat st.2.2.2.2.2.1.toNat)) ?_
 rintro self st ⟨n,pt,bh,ah,i,rfl,hi,hb,ha,hn⟩ ih
 simp only [Int.toNat_natCast] at ih ⊢
 show q7w_ _ _ _ s below n pt (bh:Int) (ah:Int) (i:Int) 0 0=_
 unfold q7w_
 cases hd:s.drop i with
 | nil =>
  have:=drop_nil hd
  rw [if_neg (by rw [q1_,q0_]; omega)]
  unfold qcd_ qhu_ rf
  by_cases h0:ah=0
  ·subst h0
   rw [if_pos (by decide),if_pos (.inl rfl)]
   rfl
  ·rw [if_neg (by rw [qb_]; omega)]
   have h6:qao_ below n (bh:Int) (gt (bh:Int) 6) 0 0=refEnd below (if 6 < bh then none else some (n,bh)):=by
    by_cases h:6 < bh
    ·rw [if_pos h,show gt (bh:Int) 6=true by rw [q7_]; omega]; rfl
    ·rw [if_neg h,show gt (bh:Int) 6=false by simp [gt]; omega]; rfl
   cases pt
   ·rw [if_neg (by decide),h6]
    congr 1
    simp [h0]
   ·rw [if_pos rfl]
    by_cases hb0:bh=0
    ·subst hb0
     rw [if_pos (by decide),if_pos (by simp)]
     rfl
    ·rw [if_neg (by rw [qb_]; omega),h6]
     congr 1
     simp [h0,hb0]
 | cons c r =>
  obtain ⟨h1,h2,h3⟩:=drop_succ hd
  have hat:=at_drop hd
  rw [if_pos (by rw [q1_,q0_]; omega),hat,Option.bind_some]
  have next:∀ (n':Int) (pt':Bool) (bh' ah':Nat),bh'≤i + 1->ah'≤i + 1->0≤n'->self (s,below,n',pt',(bh':Int),(ah':Int),((i + 1:Nat):Int),0,0)=refEnd below (rf (decide (s[0]? = some 48)) r n' pt' bh' ah'):=fun n' pt' bh' ah' x1 x2 x3=>by
   have:=ih (s,below,n',pt',(bh':Int),(ah':Int),((i + 1:Nat):Int),0,0) ⟨n',pt',bh',ah',i + 1,rfl,by omega,x1,x2,x3⟩ (by simp; omega)
   refine this.trans ?_
   simp [h1]
  have dig:¬ (c=46∧pt=false∧0 < ah)->q4r_ (fun s below n point behind ahead i t2 t2_2=>self (s,below,n,point,behind,ahead,i,t2,t2_2)) s below n pt (bh:Int) (ah:Int) (i:Int) false 0 0=refEnd below (rf (decide (s[0]? = some 48)) (c::r) n pt bh ah):=fun hno=>by
   unfold q4r_ qbu_
   rw [if_neg (by decide),hat,Option.bind_some,Option.bind_some]
   unfold rf
   rw [if_neg hno]
   have bad:q2y_ (fun s below n point behind ahead i t2 t2_2=>self (s,below,n,point,behind,ahead,i,t2,t2_2)) s below n pt (bh:Int) (ah:Int) (i:Int) true 0 0=some ((0,0),false,()):=rfl
   by_cases hc:dg c=true
   ·have hcv:=dg_iff.1 hc
    rw [if_neg (by rw [q1_,q0_]; omega),if_neg (by rw [q7_,q0_]; omega)]
    have good:=ref_K7 self s below n pt bh ah i c hc hat hn (by omega) (by omega) (by omega)
    have fine:¬ (ah=1∧s[0]? = some 48∧pt=false)->(if 100000000000000000 < n then some ((0,0),false,()) else self (s,below,10 * n + ((c.toNat:Int) - 48),pt,((if pt then bh + 1 else bh:Nat):Int),((if pt then ah else ah + 1:Nat):Int),((i + 1:Nat):Int),0,0)) =
      refEnd below (if dg c=false∨(ah=1∧(decide (s[0]? = some 48))=true∧pt=false)∨100000000000000000 < n then none else rf (decide (s[0]? = some 48)) r (10 * n + ((c.toNat:Int) - 48)) pt (if pt then bh + 1 else bh) (if pt then ah else ah + 1)):=fun hz=>by
     by_cases hn1:100000000000000000 < n
     ·rw [if_pos hn1,if_pos (.inr (.inr hn1))]
      rfl
     ·have hno2:¬ (dg c=false∨(ah=1∧(decide (s[0]? = some 48))=true∧pt=false)∨100000000000000000 < n):=by
       rintro (h | h | h)
       ·rw [hc] at h; cases h
       ·exact hz ⟨h.1,of_decide_eq_true h.2.1,h.2.2⟩
       ·exact hn1 h
      rw [if_neg hn1,if_neg hno2]
      exact next _ pt (if pt then bh + 1 else bh) (if pt then ah else ah + 1) (by split <;> omega) (by split <;> omega) (by omega)
    by_cases ha1:ah=1
    ·rw [if_pos (by rw [qb_]; omega)]
     obtain ⟨c0,q0,hs0⟩:∃ c0 q0,s=c0::q0:=by
      cases s with
      | nil=>simp at h2
      | cons c0 q0=>exact ⟨c0,q0,rfl⟩
     have hz0:s[0]? = some c0:=by rw [hs0]; rfl
     rw [show at? s 0=some c0 by rw [hs0]; rfl,Option.bind_some]
     by_cases h48:c0=48
     ·rw [if_pos ((eqi_byte 48).2 h48)]
      cases pt
      ·show q2y_ _ s below n false _ _ _ true 0 0=_
       rw [bad,if_pos (.inr (.inl ⟨ha1,by rw [hz0,h48]; decide,rfl⟩))]
       rfl
      ·show q2y_ _ s below n true _ _ _ false 0 0=_
       rw [good]
       exact fine (by simp)
     ·rw [if_neg (fun h=>h48 ((eqi_byte 48).1 h)),good]
      exact fine (fun h=>by rw [hz0] at h; exact h48 (Option.some.inj h.2.1))
    ·rw [if_neg (by rw [qb_]; omega),good]
     exact fine (fun h=>ha1 h.1)
   ·have hc':dg c=false:=by simpa using hc
    have h4:¬ (48≤c.toNat∧c.toNat≤57):=fun h=>hc (dg_iff.2 h)
    have hyes:dg c=false∨(ah=1∧(decide (s[0]? = some 48))=true∧pt=false)∨100000000000000000 < n:=.inl hc'
    rw [if_pos hyes]
    by_cases h5:c.toNat < 48
    ·rw [if_pos (by rw [q1_,q0_]; omega),bad]
     rfl
    ·rw [if_neg (by rw [q1_,q0_]; omega),if_pos (by rw [q7_,q0_]; omega),bad]
     rfl
  by_cases h46:c=46
  ·rw [if_pos ((eqi_byte 46).2 h46)]
   cases pt
   ·rw [if_pos (by decide)]
    by_cases h0:0 < ah
    ·rw [show gt (ah:Int) 0=true by rw [q7_]; omega]
     unfold q4r_ qbu_
     rw [if_pos rfl]
     unfold q79_ qb8_ rf
     rw [if_pos ⟨h46,rfl,h0⟩,q9_ (by omega)]
     exact next _ _ _ _ (by omega) (by omega) hn
    ·rw [show gt (ah:Int) 0=false by simp [gt]; omega]
     exact dig (fun h=>h0 h.2.2)
   ·rw [if_neg (by decide)]
    exact dig (by simp)
  ·rw [if_neg (fun h=>h46 ((eqi_byte 46).1 h))]
   exact dig (fun h=>h46 h.1)
end Go.Proofs.Lx
end
