/- Proved in the last of these 13 parts (this is part 9): PlanMeans: whatever the table, the recipe and the bank, the law returns true.. Conditions: those of the given statement, and no others. -/
import Derived.Test.YtnamnibaedolaaaParte
import Derived.Test.YtnamnibaedolaaaParth
import Derived.Test.YtnamnibaedolaaaProg
import Derived.Test.YtnamnibaedolaaaPartf
import Derived.Lib.ItoaNum
set_option linter.unusedVariables false
set_option linter.unusedSimpArgs false
set_option linter.unusedSectionVars false
section
open Go Go.Proofs Ev Sx
set_option maxRecDepth 100000
namespace Go.Proofs.Lx
def qpb_ (w:Int) (t46:Bool):Option (As [.int .u16,.int .i64]) :=
 if t46=true then some (0,153,()) else some (w,0,())
@[reducible] def zI0:Type:=List UInt8×(Int×Int)×List UInt8×Int
def qpy_ (j1:Int->Bool->Option (As [.int .u16,.int .i64])) (p:List UInt8×Int×Int×Bool×(Int×Int)×(Int×Int)×List UInt8) (s:zI0):Option (As [.int .u16,.int .i64]) :=
 Option.bind (qik_ (s.2.1,s.2.2.1,p.2.2.2.2.2.2,())) fun y=>if (!y.2.1)=true then some (0,152,()) else Option.bind (qfl_ (y.1,p.2.2.1,p.2.2.2.1,())) fun y_1=>Option.bind (qhk_ (y.1,p.2.2.2.2.1,())) fun y_2=>if lt y_2.1 0=true then j1 y_1.1 true else Option.bind (qhk_ (y.1,p.2.2.2.2.2.1,())) fun y=>if gt y.1 0=true then j1 y_1.1 true else j1 y_1.1 !y_1.2.1
def qp8_ (w:Int) (t46:Bool):Option (As [.int .u16,.int .i64]):=qpb_ w t46
def qsu_ (x:As [.pr .str QVT2,.pr .str QVT7]):Option (As [.int .u16,.int .i64]):=qpy_ qp8_ x.1 x.2.1
@[reducible] def zI1:Type:=List (List UInt8×List QVT0)->Int->List UInt8×List QVT1->Int×Int->Option (As [.pr (.int .i64) (.int .i64)])
@[reducible] def zI2:Type:=List (List UInt8×List QVT0)
@[reducible] def zI3:Type:=List UInt8×List QVT1
def qnw_ (j2:zI1) (t:zI2) (t22:Bool) (r:zI3) (t4:Int×Int):Option (As [.pr (.int .i64) (.int .i64)]) :=
 if t22=true then some ((2,0),()) else j2 t 0 r t4
@[reducible] def zI4:Type:=List (List UInt8×List QVT0)->Int->Int->Int->List UInt8×List QVT1->Int×Int->List UInt8×Int×List QVT4->Option (As [.pr (.int .i64) (.int .i64)])
def qog_ (j3:zI4) (self2:zI1) (t:zI2) (i:Int) (r:zI3) (t4:Int×Int):Option (As [.pr (.int .i64) (.int .i64)]) :=
 if lt i (Int.ofNat (List.length r.2))=true then Option.bind (at? r.2 i) fun y=>Option.bind (qsr_ (t,y.1,())) fun y_1=>j3 t i y_1.1 0 r t4 y else some ((0,0),())
@[reducible] def zI5:Type:=List UInt8×Int×List QVT4
def ql4_ (j4:zI4) (j5:List (List UInt8×List QVT0)->Int->Int->List UInt8×List QVT1->Int×Int->List UInt8×Int×List QVT4->Option (As [.pr (.int .i64) (.int .i64)])) (self2:zI1) (self3:zI4) (t:zI2) (i at' k:Int) (r:zI3) (t4:Int×Int) (p:zI5):Option (As [.pr (.int .i64) (.int .i64)]) :=
 if lt k i=true then Option.bind (at? r.2 k) fun y=>if eqs y.1 p.1=true then j4 t i (-1) k r t4 p else j4 t i at' k r t4 p else j5 t i at' r t4 p
def qlo_ (self2:zI1) (self3:zI4) (t:zI2) (i at' k:Int) (r:zI3) (t4:Int×Int) (p:zI5):Option (As [.pr (.int .i64) (.int .i64)]) :=
 self3 t i at' (add .i64 k 1) r t4 p
def qoo_ (j6:zI4) (self2:zI1) (t:zI2) (i at':Int) (r:zI3) (t4:Int×Int) (p:zI5):Option (As [.pr (.int .i64) (.int .i64)]) :=
 if lt at' 0=true then some ((150,p.2.1),()) else j6 t i at' 0 r t4 p
@[reducible] def zI6:Type:=List (List UInt8×List QVT0)->Int->Int->Int->Int->Int->List UInt8×List QVT1->Int×Int->List UInt8×Int×List QVT4->List UInt8×(Int×Int)×List UInt8×Int->Option (As [.pr (.int .i64) (.int .i64)])
def qjr_ (j7:zI6) (j8 self2:zI1) (self6:zI4) (t:zI2) (i at' k:Int) (r:zI3) (t4:Int×Int) (p:zI5):Option (As [.pr (.int .i64) (.int .i64)]) :=
 if lt k (Int.ofNat (List.length p.2.2))=true then Option.bind (at? p.2.2 k) fun y=>Option.bind (at? t at') fun y_1=>Option.bind (qsq_ (y_1,y.1,())) fun y_2=>j7 t i at' k y_2.1 0 r t4 p y else j8 t i r t4
def qju_ (j9:zI6) (j10:List (List UInt8×List QVT0)->Int->Int->Int->Int->List UInt8×List QVT1->Int×Int->List UInt8×Int×List QVT4->List UInt8×(Int×Int)×List UInt8×Int->Option (As [.pr (.int .i64) (.int .i64)])) (self2:zI1) (self6:zI4) (self7:zI6) (t:zI2) (i at' k x j:Int) (r:zI3) (t4:Int×Int) (p:zI5) (s:zI0):Option (As [.pr (.int .i64) (.int .i64)]) :=
 if lt j k=true then Option.bind (at? p.2.2 j) fun y=>if eqs y.1 s.1=true then j9 t i at' k (-1) j r t4 p s else j9 t i at' k x j r t4 p s else j10 t i at' k x r t4 p s
def qns_ (self2:zI1) (t:zI2) (i:Int) (r:zI3) (t4:Int×Int):Option (As [.pr (.int .i64) (.int .i64)]) :=
 self2 t (add .i64 i 1) r t4
def qn7_ (self2:zI1) (self6:zI4) (self7:zI6) (t:zI2) (i at' k x j:Int) (r:zI3) (t4:Int×Int) (p:zI5) (s:zI0):Option (As [.pr (.int .i64) (.int .i64)]) :=
 self7 t i at' k x (add .i64 j 1) r t4 p s
def qj5_ (j11:zI4) (self2:zI1) (self6:zI4) (t:zI2) (i at' k x:Int) (r:zI3) (t4:Int×Int) (p:zI5) (s:zI0):Option (As [.pr (.int .i64) (.int .i64)]) :=
 if lt x 0=true then some ((151,s.2.2.2),()) else Option.bind (at? t at') fun y=>Option.bind (at? y.2 x) fun y=>Option.bind (qsu_ (y,s,())) fun y=>if nei y.2.1 0=true then some ((y.2.1,s.2.2.2),()) else j11 t i at' k r t4 p
def qjc_ (self2:zI1) (self6:zI4) (t:zI2) (i at' k:Int) (r:zI3) (t4:Int×Int) (p:zI5):Option (As [.pr (.int .i64) (.int .i64)]) :=
 self6 t i at' (add .i64 k 1) r t4 p
def qk8_ (j1:List (List UInt8×List QVT0)->Bool->List UInt8×List QVT1->Int×Int->Option (As [.pr (.int .i64) (.int .i64)])) (t:zI2) (r:zI3):Option (As [.pr (.int .i64) (.int .i64)]) :=
 Option.bind (qsh_ (t,())) fun y=>if (!y.1)=true then j1 t true r (0,0) else Option.bind (qsm_ (r,())) fun y=>j1 t (!y.1) r (0,0)
def qnq_ (u2:zI1) (u3:zI4) (t:zI2) (i at' k:Int) (r:zI3) (t4:Int×Int) (p:zI5):Option (As [.pr (.int .i64) (.int .i64)]):=qlo_ u2 u3 t i at' k r t4 p
def ql9_ (u2:zI1) (u6:zI4) (u7:zI6) (t:zI2) (i at' k x j:Int) (r:zI3) (t4:Int×Int) (p:zI5) (s:zI0):Option (As [.pr (.int .i64) (.int .i64)]):=qn7_ u2 u6 u7 t i at' k x j r t4 p s
def qjl_ (u2:zI1) (u6:zI4) (t:zI2) (i at' k:Int) (r:zI3) (t4:Int×Int) (p:zI5):Option (As [.pr (.int .i64) (.int .i64)]):=qjc_ u2 u6 t i at' k r t4 p
def qjk_ (u2:zI1) (u6:zI4) (t:zI2) (i at' k x:Int) (r:zI3) (t4:Int×Int) (p:zI5) (s:zI0):Option (As [.pr (.int .i64) (.int .i64)]):=qj5_ (qjl_ u2 u6) u2 u6 t i at' k x r t4 p s
def qkj_ (u2:zI1) (u6:zI4) (t:zI2) (i at' k x j:Int) (r:zI3) (t4:Int×Int) (p:zI5) (s:zI0):Option (As [.pr (.int .i64) (.int .i64)]) :=
 loopF (fun (self:(List (List UInt8×List QVT0))×(Int)×(Int)×(Int)×(Int)×(Int)×(List UInt8×List QVT1)×(Int×Int)×QVT1×QVT4->Option (As [.pr (.int .i64) (.int .i64)])) (s:(List (List UInt8×List QVT0))×(Int)×(Int)×(Int)×(Int)×(Int)×(List UInt8×List QVT1)×(Int×Int)×QVT1×QVT4)=>qju_ (ql9_ u2 u6 (fun t i at' k x j r t4 p s=>self (t,i,at',k,x,j,r,t4,p,s))) (qjk_ u2 u6) u2 u6 (fun t i at' k x j r t4 p s=>self (t,i,at',k,x,j,r,t4,p,s)) s.1 s.2.1 s.2.2.1 s.2.2.2.1 s.2.2.2.2.1 s.2.2.2.2.2.1 s.2.2.2.2.2.2.1 s.2.2.2.2.2.2.2.1 s.2.2.2.2.2.2.2.2.1 s.2.2.2.2.2.2.2.2.2) 18446744073709551616 (t,i,at',k,x,j,r,t4,p,s)
def qlg_ (u2:zI1) (t:zI2) (i:Int) (r:zI3) (t4:Int×Int):Option (As [.pr (.int .i64) (.int .i64)]):=qns_ u2 t i r t4
@[reducible] def zI7:Type:=(List (List UInt8×List QVT0))×(Int)×(Int)×(Int)×(List UInt8×List QVT1)×(Int×Int)×QVT1->Option (As [.pr (.int .i64) (.int .i64)])
@[reducible] def zI8:Type:=(List (List UInt8×List QVT0))×(Int)×(Int)×(Int)×(List UInt8×List QVT1)×(Int×Int)×QVT1
def qke_ (u2:zI1) (t:zI2) (i at' k:Int) (r:zI3) (t4:Int×Int) (p:zI5):Option (As [.pr (.int .i64) (.int .i64)]) :=
 loopF (fun (self:zI7) (s:zI8)=>qjr_ (qkj_ u2 (fun t i at' k r t4 p=>self (t,i,at',k,r,t4,p))) (qlg_ u2) u2 (fun t i at' k r t4 p=>self (t,i,at',k,r,t4,p)) s.1 s.2.1 s.2.2.1 s.2.2.2.1 s.2.2.2.2.1 s.2.2.2.2.2.1 s.2.2.2.2.2.2) 18446744073709551616 (t,i,at',k,r,t4,p)
def qnl_ (u2:zI1) (t:zI2) (i at':Int) (r:zI3) (t4:Int×Int) (p:zI5):Option (As [.pr (.int .i64) (.int .i64)]):=qoo_ (qke_ u2) u2 t i at' r t4 p
def qos_ (u2:zI1) (t:zI2) (i at' k:Int) (r:zI3) (t4:Int×Int) (p:zI5):Option (As [.pr (.int .i64) (.int .i64)]) :=
 loopF (fun (self:zI7) (s:zI8)=>ql4_ (qnq_ u2 (fun t i at' k r t4 p=>self (t,i,at',k,r,t4,p))) (qnl_ u2) u2 (fun t i at' k r t4 p=>self (t,i,at',k,r,t4,p)) s.1 s.2.1 s.2.2.1 s.2.2.2.1 s.2.2.2.2.1 s.2.2.2.2.2.1 s.2.2.2.2.2.2) 18446744073709551616 (t,i,at',k,r,t4,p)
def qo0_ (t:zI2) (i:Int) (r:zI3) (t4:Int×Int):Option (As [.pr (.int .i64) (.int .i64)]) :=
 loopF (fun (self:(List (List UInt8×List QVT0))×(Int)×(List UInt8×List QVT1)×(Int×Int)->Option (As [.pr (.int .i64) (.int .i64)])) (s:(List (List UInt8×List QVT0))×(Int)×(List UInt8×List QVT1)×(Int×Int))=>qog_ (qos_ (fun t i r t4=>self (t,i,r,t4))) (fun t i r t4=>self (t,i,r,t4)) s.1 s.2.1 s.2.2.1 s.2.2.2) 18446744073709551616 (t,i,r,t4)
def qkb_ (t:zI2) (t22:Bool) (r:zI3) (t4:Int×Int):Option (As [.pr (.int .i64) (.int .i64)]):=qnw_ (qo0_) t t22 r t4
def qt0_ (x:As [.sl (.pr .str (.sl (.pr .str QVT2))),.pr .str QVT5]):Option (As [.pr (.int .i64) (.int .i64)]):=qk8_ qkb_ x.1 x.2.1
@[reducible] def q4a_:Sh:=⟨[.d (.sl (.pr .str (.sl (.pr .str QVT2))))],[],[.sl (.pr .str (.sl (.pr .str QVT2)))],[.d (.bool)],[],0,[.bool]⟩
def q9c_:Env:=(cts [])
def q9f_:List (Nat×Hint):=[(58,⟨[],[10,11,12,21,22,23,24,38,39,40,41]⟩),(29902,⟨[],[10,11,12,21,22,23,24,27,28,29,38,39,40,41]⟩),(1913753,⟨[.agd 39 .str,.agd 40 (.int .i64),.agd 41 .bool],[10,11,12,27,28,29,42]⟩),(7474,⟨[.agd 22 .str,.agd 23 (.int .i64),.agd 24 .bool],[4,10,11,12,25]⟩)]
def qy_ (t10:zI2) (t11 t12:Int):St:=⟨[(10,.d (.sl (.pr .str (.sl (.pr .str QVT2)))) t10),(11,dI t11),(12,dI t12)],45,[],[],0,[],0⟩
def qbs_ (t10:zI2) (t11 t12:Int) (t25:Bool) (d:List UInt8×List QVT0):St:=⟨[(4,.pb 0 0),(10,.d (.sl (.pr .str (.sl (.pr .str QVT2)))) t10),(11,dI t11),(12,dI t12),(25,dB t25)],45,[],[(0,.box 67 [dS d.1,.d (.sl (.pr .str QVT2)) d.2])],1,[],0⟩
def q2e_ (t10:zI2) (t11 t12:Int) (t27:List QVT0) (t28 t29:Int):St:=⟨[(10,.d (.sl (.pr .str (.sl (.pr .str QVT2)))) t10),(11,dI t11),(12,dI t12),(27,.d (.sl (.pr .str QVT2)) t27),(28,dI t28),(29,dI t29)],45,[],[],0,[],0⟩
def qb8_ (t10:zI2) (t11 t12:Int) (t27:List QVT0) (t28 t29:Int) (t42:Bool):St:=⟨[(10,.d (.sl (.pr .str (.sl (.pr .str QVT2)))) t10),(11,dI t11),(12,dI t12),(27,.d (.sl (.pr .str QVT2)) t27),(28,dI t28),(29,dI t29),(42,dB t42)],45,[],[],0,[],0⟩
@[reducible] def zI9:Type:=List (List UInt8×List QVT0)->Int->Int->Option (As [.bool])
def q3l_ (j2:List (List UInt8×List QVT0)->Int->Int->Bool->List UInt8×List QVT0->Option (As [.bool])) (self1:zI9) (t10:zI2) (t11 t12:Int):Option (As [.bool]) :=
 if lt t12 t11=true then Option.bind (at? t10 t12) fun y=>if gt (Int.ofNat (List.length y.2)) 40=true then j2 t10 t11 t12 true y else j2 t10 t11 t12 (gt (Int.ofNat (List.length y.1)) 40) y else some (true,())
@[reducible] def zI10:Type:=List (List UInt8×List QVT0)->Int->Int->List QVT0->Int->Int->Option (As [.bool])
def qfd_ (j3:zI10) (self1:zI9) (t10:zI2) (t11 t12:Int) (t25:Bool) (d:List UInt8×List QVT0):Option (As [.bool]) :=
 if t25=true then some (false,()) else j3 t10 t11 t12 d.2 (Int.ofNat (List.length d.2)) 0
def q3g_ (j4:List (List UInt8×List QVT0)->Int->Int->List QVT0->Int->Int->Bool->Option (As [.bool])) (self1:zI9) (self3:zI10) (t10:zI2) (t11 t12:Int) (t27:List QVT0) (t28 t29:Int):Option (As [.bool]) :=
 if lt t29 t28=true then Option.bind (at? t27 t29) fun y=>if gt (Int.ofNat (List.length y.1)) 40=true then j4 t10 t11 t12 t27 t28 t29 true else j4 t10 t11 t12 t27 t28 t29 (gt (Int.ofNat (List.length y.2.2.2.2.2.2)) 40) else self1 t10 t11 (add .i64 t12 1)
def q81_ (self1:zI9) (self3:zI10) (t10:zI2) (t11 t12:Int) (t27:List QVT0) (t28 t29:Int) (t42:Bool):Option (As [.bool]) :=
 if t42=true then some (false,()) else self3 t10 t11 t12 t27 t28 (add .i64 t29 1)
def q8e_ (j1:zI9) (t:zI2):Option (As [.bool]) :=
 if gt (Int.ofNat (List.length t)) 10=true then some (false,()) else j1 t (Int.ofNat (List.length t)) 0
def q5y_ (u1:zI9) (u3:zI10) (t10:zI2) (t11 t12:Int) (t27:List QVT0) (t28 t29:Int) (t42:Bool):Option (As [.bool]):=q81_ u1 u3 t10 t11 t12 t27 t28 t29 t42
def q5a_ (u1:zI9) (t10:zI2) (t11 t12:Int) (t27:List QVT0) (t28 t29:Int):Option (As [.bool]) :=
 loopF (fun (self:(List (List UInt8×List QVT0))×(Int)×(Int)×(List QVT0)×(Int)×(Int)->Option (As [.bool])) (s:(List (List UInt8×List QVT0))×(Int)×(Int)×(List QVT0)×(Int)×(Int))=>q3g_ (q5y_ u1 (fun t10 t11 t12 t27 t28 t29=>self (t10,t11,t12,t27,t28,t29))) u1 (fun t10 t11 t12 t27 t28 t29=>self (t10,t11,t12,t27,t28,t29)) s.1 s.2.1 s.2.2.1 s.2.2.2.1 s.2.2.2.2.1 s.2.2.2.2.2) 18446744073709551616 (t10,t11,t12,t27,t28,t29)
def q5u_ (u1:zI9) (t10:zI2) (t11 t12:Int) (t25:Bool) (d:List UInt8×List QVT0):Option (As [.bool]):=qfd_ (q5a_ u1) u1 t10 t11 t12 t25 d
def q7o_ (t10:zI2) (t11 t12:Int):Option (As [.bool]) :=
 loopF (fun (self:(List (List UInt8×List QVT0))×(Int)×(Int)->Option (As [.bool])) (s:(List (List UInt8×List QVT0))×(Int)×(Int))=>q3l_ (q5u_ (fun t10 t11 t12=>self (t10,t11,t12))) (fun t10 t11 t12=>self (t10,t11,t12)) s.1 s.2.1 s.2.2) 18446744073709551616 (t10,t11,t12)
def q8m_ (x:As [.sl (.pr .str (.sl (.pr .str QVT2)))]):Option (As [.bool]):=q8e_ q7o_ x.1
noncomputable abbrev law15_Small_P:=pfn Try.prog q9c_ 6 18446744073709551616 (Ev.get q9f_) 12 q4a_
theorem qkf_ {J w1 w3 t10 t11 t12 t27 t28 t29 t42}:law15_Small_P J 1913753 [w1,w3] (qb8_ t10 t11 t12 t27 t28 t29 t42)=q81_ (fun t10 t11 t12=>w1 (qy_ t10 t11 t12)) (fun t10 t11 t12 t27 t28 t29=>w3 (q2e_ t10 t11 t12 t27 t28 t29)) t10 t11 t12 t27 t28 t29 t42:=by kernel_rfl
theorem qn1_ {J w1 w3 t10 t11 t12 t27 t28 t29}:law15_Small_P J 29902 [w1,w3] (q2e_ t10 t11 t12 t27 t28 t29)=q3g_ (fun t10 t11 t12 t27 t28 t29 t42=>J 1913753 [w1,w3] (qb8_ t10 t11 t12 t27 t28 t29 t42)) (fun t10 t11 t12=>w1 (qy_ t10 t11 t12)) (fun t10 t11 t12 t27 t28 t29=>w3 (q2e_ t10 t11 t12 t27 t28 t29)) t10 t11 t12 t27 t28 t29:=by kernel_rfl
theorem qm7_ {J w1 t10 t11 t12 t25 d}:law15_Small_P J 7474 [w1] (qbs_ t10 t11 t12 t25 d)=qfd_ (fun t10 t11 t12 t27 t28 t29=>J 29902 [w1] (q2e_ t10 t11 t12 t27 t28 t29)) (fun t10 t11 t12=>w1 (qy_ t10 t11 t12)) t10 t11 t12 t25 d:=by kernel_rfl
theorem qmp_ {J w1 t10 t11 t12}:law15_Small_P J 58 [w1] (qy_ t10 t11 t12)=q3l_ (fun t10 t11 t12 t25 d=>J 7474 [w1] (qbs_ t10 t11 t12 t25 d)) (fun t10 t11 t12=>w1 (qy_ t10 t11 t12)) t10 t11 t12:=by kernel_rfl
theorem qla_ (J:Orc (As [.bool])) (x:As [.sl (.pr .str (.sl (.pr .str QVT2)))]):rfn Try.prog q9c_ 6 18446744073709551616 (Ev.get q9f_) 12 q4a_ J x=q8e_ (fun t10 t11 t12=>J 58 [] (qy_ t10 t11 t12)) x.1:=by kernel_rfl
noncomputable abbrev law15_Small_J:=jfn Try.prog q9c_ 6 18446744073709551616 (Ev.get q9f_) 12 q4a_
theorem qki_  (w1 w3 t10 t11 t12 t27 t28 t29 t42):law15_Small_J 1913753 [w1,w3] (qb8_ t10 t11 t12 t27 t28 t29 t42)=q5y_ (fun t10 t11 t12=>w1 (qy_ t10 t11 t12)) (fun t10 t11 t12 t27 t28 t29=>w3 (q2e_ t10 t11 t12 t27 t28 t29)) t10 t11 t12 t27 t28 t29 t42:=gN (by decide) qkf_
theorem qlw_  (w1 t10 t11 t12 t27 t28 t29):law15_Small_J 29902 [w1] (q2e_ t10 t11 t12 t27 t28 t29)=q5a_ (fun t10 t11 t12=>w1 (qy_ t10 t11 t12)) t10 t11 t12 t27 t28 t29:=gL (σ:=(List (List UInt8×List QVT0))×(Int)×(Int)×(List QVT0)×(Int)×(Int)) (mk:=fun s=>q2e_ s.1 s.2.1 s.2.2.1 s.2.2.2.1 s.2.2.2.2.1 s.2.2.2.2.2) (by decide) (by kernel_rfl) (fun w3 s=>qn1_.trans (by simp only [qki_])) (t10,t11,t12,t27,t28,t29)
theorem qkv_  (w1 t10 t11 t12 t25 d):law15_Small_J 7474 [w1] (qbs_ t10 t11 t12 t25 d)=q5u_ (fun t10 t11 t12=>w1 (qy_ t10 t11 t12)) t10 t11 t12 t25 d:=gN (by decide) (qm7_.trans (by simp only [qlw_]; rfl))
theorem qmw_  (t10 t11 t12):law15_Small_J 58 [] (qy_ t10 t11 t12)=q7o_ t10 t11 t12:=gL (σ:=(List (List UInt8×List QVT0))×(Int)×(Int)) (mk:=fun s=>qy_ s.1 s.2.1 s.2.2) (by decide) (by kernel_rfl) (fun w1 s=>qmp_.trans (by simp only [qkv_])) (t10,t11,t12)
theorem qp6_ (x:As [.sl (.pr .str (.sl (.pr .str QVT2)))]):evT Try.prog q9c_ 6 18446744073709551616 (Ev.get q9f_) 12 q4a_ x=q8m_ x:=by
 rw [rfn_eq,qla_]
 simp only [qmw_]
 rfl
theorem qjz_:CtOk Try.prog (fun _=>True) 12 ⟨q4a_,q8m_⟩:=qh_ qc_ qp6_
@[reducible] def q6i_:Sh:=⟨[.d (.pr .str QVT5)],[],[.pr .str QVT5],[.d (.bool)],[],0,[.bool]⟩
def qc8_:Env:=(cts [])
def qcd_:List (Nat×Hint):=[(58,⟨[],[18,19,20,29,30,31,32,46,47,48,49]⟩),(29902,⟨[],[18,19,20,29,30,31,32,35,36,37,46,47,48,49]⟩),(1913753,⟨[.agd 47 .str,.agd 48 (.int .i64),.agd 49 .bool],[18,19,20,35,36,37,50]⟩),(7474,⟨[.agd 30 .str,.agd 31 (.int .i64),.agd 32 .bool],[4,18,19,20,33]⟩),(6,⟨[],[1,16,29,30,31,32,46,47,48,49]⟩)]
def qdv_ (t16:Bool) (r:zI3):St:=⟨[(1,.pb 0 0),(16,dB t16)],53,[],[(0,.box 42 [dS r.1,.d QVT5 r.2])],1,[],0⟩
def q1b_ (t18:List QVT1) (t19 t20:Int):St:=⟨[(18,.d QVT5 t18),(19,dI t19),(20,dI t20)],53,[],[],0,[],0⟩
def qdj_ (t18:List QVT1) (t19 t20:Int) (t33:Bool) (p:zI5):St:=⟨[(4,.pb 0 0),(18,.d QVT5 t18),(19,dI t19),(20,dI t20),(33,dB t33)],53,[],[(0,.box 80 [dS p.1,dI p.2.1,.d (.sl (.pr .str QVT7)) p.2.2])],1,[],0⟩
def q3v_ (t18:List QVT1) (t19 t20:Int) (t35:List QVT4) (t36 t37:Int):St:=⟨[(18,.d QVT5 t18),(19,dI t19),(20,dI t20),(35,.d (.sl (.pr .str QVT7)) t35),(36,dI t36),(37,dI t37)],53,[],[],0,[],0⟩
def qdt_ (t18:List QVT1) (t19 t20:Int) (t35:List QVT4) (t36 t37:Int) (t50:Bool):St:=⟨[(18,.d QVT5 t18),(19,dI t19),(20,dI t20),(35,.d (.sl (.pr .str QVT7)) t35),(36,dI t36),(37,dI t37),(50,dB t50)],53,[],[],0,[],0⟩
@[reducible] def zI11:Type:=List QVT1->Int->Int->Option (As [.bool])
def qho_ (j2:zI11) (t16:Bool) (r:zI3):Option (As [.bool]) :=
 if t16=true then some (false,()) else j2 r.2 (Int.ofNat (List.length r.2)) 0
def q62_ (j3:List QVT1->Int->Int->Bool->List UInt8×Int×List QVT4->Option (As [.bool])) (self2:zI11) (t18:List QVT1) (t19 t20:Int):Option (As [.bool]) :=
 if lt t20 t19=true then Option.bind (at? t18 t20) fun y=>if gt (Int.ofNat (List.length y.2.2)) 70=true then j3 t18 t19 t20 true y else j3 t18 t19 t20 (gt (Int.ofNat (List.length y.1)) 40) y else some (true,())
@[reducible] def zI12:Type:=List QVT1->Int->Int->List QVT4->Int->Int->Option (As [.bool])
def qhh_ (j4:zI12) (self2:zI11) (t18:List QVT1) (t19 t20:Int) (t33:Bool) (p:zI5):Option (As [.bool]) :=
 if t33=true then some (false,()) else j4 t18 t19 t20 p.2.2 (Int.ofNat (List.length p.2.2)) 0
def q5l_ (j5:List QVT1->Int->Int->List QVT4->Int->Int->Bool->Option (As [.bool])) (self2:zI11) (self4:zI12) (t18:List QVT1) (t19 t20:Int) (t35:List QVT4) (t36 t37:Int):Option (As [.bool]) :=
 if lt t37 t36=true then Option.bind (at? t35 t37) fun y=>if gt (Int.ofNat (List.length y.1)) 40=true then j5 t18 t19 t20 t35 t36 t37 true else j5 t18 t19 t20 t35 t36 t37 (gt (Int.ofNat (List.length y.2.2.1)) 40) else self2 t18 t19 (add .i64 t20 1)
def qae_ (self2:zI11) (self4:zI12) (t18:List QVT1) (t19 t20:Int) (t35:List QVT4) (t36 t37:Int) (t50:Bool):Option (As [.bool]) :=
 if t50=true then some (false,()) else self4 t18 t19 t20 t35 t36 (add .i64 t37 1)
def qar_ (j1:Bool->List UInt8×List QVT1->Option (As [.bool])) (r:zI3):Option (As [.bool]) :=
 if gt (Int.ofNat (List.length r.2)) 12=true then j1 true r else j1 (gt (Int.ofNat (List.length r.1)) 40) r
def q6x_ (u2:zI11) (u4:zI12) (t18:List QVT1) (t19 t20:Int) (t35:List QVT4) (t36 t37:Int) (t50:Bool):Option (As [.bool]):=qae_ u2 u4 t18 t19 t20 t35 t36 t37 t50
def q6y_ (u2:zI11) (t18:List QVT1) (t19 t20:Int) (t35:List QVT4) (t36 t37:Int):Option (As [.bool]) :=
 loopF (fun (self:(List QVT1)×(Int)×(Int)×(List QVT4)×(Int)×(Int)->Option (As [.bool])) (s:(List QVT1)×(Int)×(Int)×(List QVT4)×(Int)×(Int))=>q5l_ (q6x_ u2 (fun t18 t19 t20 t35 t36 t37=>self (t18,t19,t20,t35,t36,t37))) u2 (fun t18 t19 t20 t35 t36 t37=>self (t18,t19,t20,t35,t36,t37)) s.1 s.2.1 s.2.2.1 s.2.2.2.1 s.2.2.2.2.1 s.2.2.2.2.2) 18446744073709551616 (t18,t19,t20,t35,t36,t37)
def q6w_ (u2:zI11) (t18:List QVT1) (t19 t20:Int) (t33:Bool) (p:zI5):Option (As [.bool]):=qhh_ (q6y_ u2) u2 t18 t19 t20 t33 p
def q78_ (t18:List QVT1) (t19 t20:Int):Option (As [.bool]) :=
 loopF (fun (self:(List QVT1)×(Int)×(Int)->Option (As [.bool])) (s:(List QVT1)×(Int)×(Int))=>q62_ (q6w_ (fun t18 t19 t20=>self (t18,t19,t20))) (fun t18 t19 t20=>self (t18,t19,t20)) s.1 s.2.1 s.2.2) 18446744073709551616 (t18,t19,t20)
def qa1_ (t16:Bool) (r:zI3):Option (As [.bool]):=qho_ (q78_) t16 r
def qck_ (x:As [.pr .str QVT5]):Option (As [.bool]):=qar_ qa1_ x.1
noncomputable abbrev law14_Few_P:=pfn Try.prog qc8_ 6 18446744073709551616 (Ev.get qcd_) 13 q6i_
theorem qrd_ {J w2 w4 t18 t19 t20 t35 t36 t37 t50}:law14_Few_P J 1913753 [w2,w4] (qdt_ t18 t19 t20 t35 t36 t37 t50)=qae_ (fun t18 t19 t20=>w2 (q1b_ t18 t19 t20)) (fun t18 t19 t20 t35 t36 t37=>w4 (q3v_ t18 t19 t20 t35 t36 t37)) t18 t19 t20 t35 t36 t37 t50:=by kernel_rfl
theorem qs8_ {J w2 w4 t18 t19 t20 t35 t36 t37}:law14_Few_P J 29902 [w2,w4] (q3v_ t18 t19 t20 t35 t36 t37)=q5l_ (fun t18 t19 t20 t35 t36 t37 t50=>J 1913753 [w2,w4] (qdt_ t18 t19 t20 t35 t36 t37 t50)) (fun t18 t19 t20=>w2 (q1b_ t18 t19 t20)) (fun t18 t19 t20 t35 t36 t37=>w4 (q3v_ t18 t19 t20 t35 t36 t37)) t18 t19 t20 t35 t36 t37:=by kernel_rfl
theorem qqy_ {J w2 t18 t19 t20 t33 p}:law14_Few_P J 7474 [w2] (qdj_ t18 t19 t20 t33 p)=qhh_ (fun t18 t19 t20 t35 t36 t37=>J 29902 [w2] (q3v_ t18 t19 t20 t35 t36 t37)) (fun t18 t19 t20=>w2 (q1b_ t18 t19 t20)) t18 t19 t20 t33 p:=by kernel_rfl
theorem qri_ {J w2 t18 t19 t20}:law14_Few_P J 58 [w2] (q1b_ t18 t19 t20)=q62_ (fun t18 t19 t20 t33 p=>J 7474 [w2] (qdj_ t18 t19 t20 t33 p)) (fun t18 t19 t20=>w2 (q1b_ t18 t19 t20)) t18 t19 t20:=by kernel_rfl
theorem qrj_ {J t16 r}:law14_Few_P J 6 [] (qdv_ t16 r)=qho_ (fun t18 t19 t20=>J 58 [] (q1b_ t18 t19 t20)) t16 r:=by kernel_rfl
theorem qrp_ (J:Orc (As [.bool])) (x:As [.pr .str QVT5]):rfn Try.prog qc8_ 6 18446744073709551616 (Ev.get qcd_) 13 q6i_ J x=qar_ (fun t16 r=>J 6 [] (qdv_ t16 r)) x.1:=by kernel_rfl
noncomputable abbrev law14_Few_J:=jfn Try.prog qc8_ 6 18446744073709551616 (Ev.get qcd_) 13 q6i_
theorem qry_  (w2 w4 t18 t19 t20 t35 t36 t37 t50):law14_Few_J 1913753 [w2,w4] (qdt_ t18 t19 t20 t35 t36 t37 t50)=q6x_ (fun t18 t19 t20=>w2 (q1b_ t18 t19 t20)) (fun t18 t19 t20 t35 t36 t37=>w4 (q3v_ t18 t19 t20 t35 t36 t37)) t18 t19 t20 t35 t36 t37 t50:=gN (by decide) qrd_
theorem qro_  (w2 t18 t19 t20 t35 t36 t37):law14_Few_J 29902 [w2] (q3v_ t18 t19 t20 t35 t36 t37)=q6y_ (fun t18 t19 t20=>w2 (q1b_ t18 t19 t20)) t18 t19 t20 t35 t36 t37:=gL (σ:=(List QVT1)×(Int)×(Int)×(List QVT4)×(Int)×(Int)) (mk:=fun s=>q3v_ s.1 s.2.1 s.2.2.1 s.2.2.2.1 s.2.2.2.2.1 s.2.2.2.2.2) (by decide) (by kernel_rfl) (fun w4 s=>qs8_.trans (by simp only [qry_])) (t18,t19,t20,t35,t36,t37)
theorem qrs_  (w2 t18 t19 t20 t33 p):law14_Few_J 7474 [w2] (qdj_ t18 t19 t20 t33 p)=q6w_ (fun t18 t19 t20=>w2 (q1b_ t18 t19 t20)) t18 t19 t20 t33 p:=gN (by decide) (qqy_.trans (by simp only [qro_]; rfl))
theorem qr5_  (t18 t19 t20):law14_Few_J 58 [] (q1b_ t18 t19 t20)=q78_ t18 t19 t20:=gL (σ:=(List QVT1)×(Int)×(Int)) (mk:=fun s=>q1b_ s.1 s.2.1 s.2.2) (by decide) (by kernel_rfl) (fun w2 s=>qri_.trans (by simp only [qrs_])) (t18,t19,t20)
theorem qs4_  (t16 r):law14_Few_J 6 [] (qdv_ t16 r)=qa1_ t16 r:=gN (by decide) (qrj_.trans (by simp only [qr5_]; rfl))
theorem qsk_ (x:As [.pr .str QVT5]):evT Try.prog qc8_ 6 18446744073709551616 (Ev.get qcd_) 13 q6i_ x=qck_ x:=by
 rw [rfn_eq,qrp_]
 simp only [qs4_]
 rfl
theorem qrf_:CtOk Try.prog (fun _=>True) 13 ⟨q6i_,qck_⟩:=qh_ qc_ qsk_
@[reducible] def qff_:Sh:=⟨[.d (.int .u16)],[],[.int .u16],[.d (.int .i64)],[],0,[.int .i64]⟩
def qiu_ (x:Int):Option (As [.int .i64]) :=
 some (cvt .i64 (cvt .i16 x),())
def qdp_ (x:As [.int .u16]):Option (As [.int .i64]):=qiu_ x.1
theorem qj0_:CtOk Try.prog (fun _=>True) 59 ⟨qff_,qdp_⟩:=ctn qc_ 6 fun J x=>by kernel_rfl
@[reducible] def q4g_:Sh:=⟨[.d (.int .u16),.d (.int .i64),.d (.bool)],[],[.int .u16,.int .i64,.bool],[.d QVT9,.d (.bool)],[],0,[.pr (.int .i64) (.int .u8),.bool]⟩
def q90_:Env:=(cts [(59,(⟨qff_,qdp_⟩:Ct))])
def q9d_:List (Nat×Hint):=[(15,⟨[],[1,6,8,24,25,26]⟩),(31,⟨[],[1,6,8]⟩),(124,⟨[],[1,6,8,24,25,26]⟩),(496,⟨[.agd 24 (.int .i64),.agd 25 (.int .i64),.agd 26 .bool],[1,6,8,27]⟩),(6,⟨[],[0,1,2,6,14,24,25,26]⟩)]
def qbr_ (w digits:Int) (signed t14:Bool) (t6:Int×Int):St:=⟨[(0,d6 w),(1,dI digits),(2,dB signed),(6,.pb 0 0),(14,dB t14)],36,[],[(0,.box 75 [dI t6.1,d8 t6.2])],1,[],0⟩
def qb5_ (digits n:Int) (t6:Int×Int):St:=⟨[(1,dI digits),(6,.pb 0 0),(8,dI n)],36,[],[(0,.box 75 [dI t6.1,d8 t6.2])],1,[],0⟩
def q2c_ (digits n:Int) (t6:Int×Int):St:=⟨[(1,dI digits),(6,.pb 0 0),(8,dI n)],36,[],[(0,.box 75 [dI t6.1,d8 t6.2])],1,[],0⟩
def qc1_ (digits n:Int) (t27:Bool) (t6:Int×Int):St:=⟨[(1,dI digits),(6,.pb 0 0),(8,dI n),(27,dB t27)],36,[],[(0,.box 75 [dI t6.1,d8 t6.2])],1,[],0⟩
def qb1_ (digits n:Int) (t6:Int×Int):St:=⟨[(1,dI digits),(6,.pb 0 0),(8,dI n)],36,[],[(0,.box 75 [dI t6.1,d8 t6.2])],1,[],0⟩
@[reducible] def zI13:Type:=Int->Int->Int×Int->Option (As [.pr (.int .i64) (.int .u8),.bool])
def qbo_ (j2:zI13) (w digits:Int) (signed t14:Bool) (t6:Int×Int):Option (As [.pr (.int .i64) (.int .u8),.bool]) :=
 if t14=true then some ((0,0),false,()) else if signed=true then Option.bind (qdp_ (w,())) fun y=>j2 digits y.1 t6 else j2 digits (cvt .i64 w) t6
def qbj_ (j3:zI13) (digits n:Int) (t6:Int×Int):Option (As [.pr (.int .i64) (.int .u8),.bool]) :=
 j3 digits n t6
def q39_ (j4:Int->Int->Bool->Int×Int->Option (As [.pr (.int .i64) (.int .u8),.bool])) (self3:zI13) (digits n:Int) (t6:Int×Int):Option (As [.pr (.int .i64) (.int .u8),.bool]) :=
 if gt digits 0=true then j4 digits n (eqi (rem n 10) 0) t6 else j4 digits n false t6
def qc6_ (j5 self3:zI13) (digits n:Int) (t27:Bool) (t6:Int×Int):Option (As [.pr (.int .i64) (.int .u8),.bool]) :=
 if t27=true then self3 (Sx.sub .i64 digits 1) (quo .i64 n 10) t6 else j5 digits n t6
def qbv_ (digits n:Int) (t6:Int×Int):Option (As [.pr (.int .i64) (.int .u8),.bool]) :=
 some ((n,cvt .u8 digits),true,())
def q7u_ (j1:Int->Int->Bool->Bool->Int×Int->Option (As [.pr (.int .i64) (.int .u8),.bool])) (w digits:Int) (signed:Bool):Option (As [.pr (.int .i64) (.int .u8),.bool]) :=
 if lt digits 0=true then j1 w digits signed true (0,0) else j1 w digits signed (gt digits 6) (0,0)
def qbb_ (digits n:Int) (t6:Int×Int):Option (As [.pr (.int .i64) (.int .u8),.bool]):=qbv_ digits n t6
def q59_ (u3:zI13) (digits n:Int) (t27:Bool) (t6:Int×Int):Option (As [.pr (.int .i64) (.int .u8),.bool]):=qc6_ (qbb_) u3 digits n t27 t6
@[reducible] def zI14:Type:=(Int)×(Int)×(Int×Int)->Option (As [.pr (.int .i64) (.int .u8),.bool])
def q3e_ (digits n:Int) (t6:Int×Int):Option (As [.pr (.int .i64) (.int .u8),.bool]) :=
 loopF (fun (self:zI14) (s:(Int)×(Int)×(Int×Int))=>q39_ (q59_ (fun digits n t6=>self (digits,n,t6))) (fun digits n t6=>self (digits,n,t6)) s.1 s.2.1 s.2.2) 18446744073709551616 (digits,n,t6)
def qc7_ (digits n:Int) (t6:Int×Int):Option (As [.pr (.int .i64) (.int .u8),.bool]):=qbj_ (q3e_) digits n t6
def q5g_ (w digits:Int) (signed t14:Bool) (t6:Int×Int):Option (As [.pr (.int .i64) (.int .u8),.bool]):=qbo_ (qc7_) w digits signed t14 t6
def q1w_ (x:As [.int .u16,.int .i64,.bool]):Option (As [.pr (.int .i64) (.int .u8),.bool]):=q7u_ q5g_ x.1 x.2.1 x.2.2.1
noncomputable abbrev units_Worth_P:=pfn Try.prog q90_ 6 18446744073709551616 (Ev.get q9d_) 39 q4g_
theorem qor_ {J digits n t6}:units_Worth_P J 31 [] (qb1_ digits n t6)=qbv_ digits n t6:=by kernel_rfl
theorem qlx_ {J w3 digits n t27 t6}:units_Worth_P J 496 [w3] (qc1_ digits n t27 t6)=qc6_ (fun digits n t6=>J 31 [] (qb1_ digits n t6)) (fun digits n t6=>w3 (q2c_ digits n t6)) digits n t27 t6:=by kernel_rfl
theorem qm6_ {J w3 digits n t6}:units_Worth_P J 124 [w3] (q2c_ digits n t6)=q39_ (fun digits n t27 t6=>J 496 [w3] (qc1_ digits n t27 t6)) (fun digits n t6=>w3 (q2c_ digits n t6)) digits n t6:=by kernel_rfl
theorem qk2_ {J digits n t6}:units_Worth_P J 15 [] (qb5_ digits n t6)=qbj_ (fun digits n t6=>J 124 [] (q2c_ digits n t6)) digits n t6:=by kernel_rfl
theorem qmn_ {J w digits signed t14 t6}:units_Worth_P J 6 [] (qbr_ w digits signed t14 t6)=qbo_ (fun digits n t6=>J 15 [] (qb5_ digits n t6)) w digits signed t14 t6:=by kernel_rfl
theorem qmc_ (J:Orc (As [.pr (.int .i64) (.int .u8),.bool])) (x:As [.int .u16,.int .i64,.bool]):rfn Try.prog q90_ 6 18446744073709551616 (Ev.get q9d_) 39 q4g_ J x=q7u_ (fun w digits signed t14 t6=>J 6 [] (qbr_ w digits signed t14 t6)) x.1 x.2.1 x.2.2.1:=by kernel_rfl
noncomputable abbrev units_Worth_J:=jfn Try.prog q90_ 6 18446744073709551616 (Ev.get q9d_) 39 q4g_
theorem qka_  (digits n t6):units_Worth_J 31 [] (qb1_ digits n t6)=qbb_ digits n t6:=gN (by decide) qor_
theorem qon_  (w3 digits n t27 t6):units_Worth_J 496 [w3] (qc1_ digits n t27 t6)=q59_ (fun digits n t6=>w3 (q2c_ digits n t6)) digits n t27 t6:=gN (by decide) (qlx_.trans (by simp only [qka_]; rfl))
theorem qny_  (digits n t6):units_Worth_J 124 [] (q2c_ digits n t6)=q3e_ digits n t6:=gL (σ:=(Int)×(Int)×(Int×Int)) (mk:=fun s=>q2c_ s.1 s.2.1 s.2.2) (by decide) (by kernel_rfl) (fun w3 s=>qm6_.trans (by simp only [qon_])) (digits,n,t6)
theorem qo8_  (digits n t6):units_Worth_J 15 [] (qb5_ digits n t6)=qc7_ digits n t6:=gN (by decide) (qk2_.trans (by simp only [qny_]; rfl))
theorem qmq_  (w digits signed t14 t6):units_Worth_J 6 [] (qbr_ w digits signed t14 t6)=q5g_ w digits signed t14 t6:=gN (by decide) (qmn_.trans (by simp only [qo8_]; rfl))
theorem qqg_ (x:As [.int .u16,.int .i64,.bool]):evT Try.prog q90_ 6 18446744073709551616 (Ev.get q9d_) 39 q4g_ x=q1w_ x:=by
 rw [rfn_eq,qmc_]
 simp only [qmq_]
 rfl
theorem qk4_:CtOk Try.prog (fun _=>True) 39 ⟨q4g_,q1w_⟩:=qh_ (q3_ qj0_ qc_) qqg_
end Go.Proofs.Lx
end
section
namespace Go.Proofs.Lx
open Go Ev Sx Pl
set_option maxRecDepth 10000
def isD (n:Nat):Bool:=decide (48≤n) && decide (n≤57)
end Go.Proofs.Lx
end
section
namespace Go.Proofs.Lx
open Go Ev Sx Pl
set_option maxRecDepth 100000
abbrev dd (n:Nat):List UInt8:=Lib.decDigits n
end Go.Proofs.Lx
end
section
namespace Go.Proofs.Lx
open Go Ev Sx Pl
set_option maxRecDepth 100000
structure RtD (d:Int×Int) (sg:Bool) (n D:Nat):Prop where
 e1:d.1=if sg then -(n:Int) else (n:Int)
 e2:d.2=(D:Int)
 nz:sg=true->n ≠ 0
 le:n≤1000000000000
 d6:D≤6
 tz:D ≠ 0->n % 10 ≠ 0
end Go.Proofs.Lx
end
section
namespace Go.Proofs.Lx
open Go Ev Sx Pl
set_option maxRecDepth 100000
theorem power_eq:∀ {D:Nat},D≤6->q1x_ ((D:Int),())=some (((10 ^ D:Nat):Int),())
 | 0,_=>by kernel_rfl
 | 1,_=>by kernel_rfl
 | 2,_=>by kernel_rfl
 | 3,_=>by kernel_rfl
 | 4,_=>by kernel_rfl
 | 5,_=>by kernel_rfl
 | 6,_=>by kernel_rfl
 | _ + 7,h=>by omega
theorem RtD.right {d:Int×Int} {sg:Bool} {n D:Nat} (h:RtD d sg n D):qj_ (d,())=some (true,()):=by
 obtain ⟨x,y⟩:=d
 have e1:x=if sg then -(n:Int) else (n:Int):=h.e1
 have e2:y=(D:Int):=h.e2
 have hle:=h.le
 have h6:=h.d6
 show q5d_ (x,y)=_
 unfold q5d_
 dsimp only
 have b1:-1000000000000≤x∧x≤1000000000000:=by
  rw [e1]
  split <;> omega
 rw [if_pos (ge_iff.2 b1.1),if_pos (le_iff.2 b1.2),if_pos (by rw [le_iff]; omega)]
 by_cases h0:D=0
 ·rw [if_pos (by rw [q9_]; omega)]
 ·rw [if_neg (by rw [q9_]; omega)]
  have hz:=h.tz h0
  have:nei (rem x 10) 0=true:=by
   rw [qe_]
   unfold rem
   rw [e1]
   cases sg with
   | true =>
    rw [if_pos rfl,Int.neg_tmod]
    show -((n % 10:Nat):Int) ≠ 0
    omega
   | false =>
    show ((n % 10:Nat):Int) ≠ 0
    omega
  rw [this]
theorem rtd_of {x:Int} {D:Nat} (hx:-1000000000000≤x∧x≤1000000000000) (h6:D≤6) (hz:D ≠ 0->x.tmod 10 ≠ 0):∃ sg n,RtD (x,(D:Int)) sg n D:=by
 rcases Int.lt_or_le x 0 with h | h
 ·obtain ⟨n,rfl⟩:∃ n:Nat,x=-(n:Int):=⟨x.natAbs,by omega⟩
  refine ⟨true,n,rfl,rfl,fun _=>by omega,by omega,h6,fun h0 e=>hz h0 ?_⟩
  rw [Int.neg_tmod]
  show -((n % 10:Nat):Int)=0
  omega
 ·obtain ⟨n,rfl⟩:=Int.eq_ofNat_of_zero_le h
  refine ⟨false,n,rfl,rfl,fun e=>(by cases e),by omega,h6,fun h0 e=>hz h0 ?_⟩
  show ((n % 10:Nat):Int)=0
  omega
end Go.Proofs.Lx
end
section
namespace Rw
open Go Ev Sx Go.RowKit
end Rw
end
section
namespace Go.Proofs.Lx
open Go Ev Sx Pl
set_option maxRecDepth 100000
theorem RtD.eq {d:Int×Int} {sg:Bool} {n D:Nat} (h:RtD d sg n D):(if sg then -(n:Int) else (n:Int),(D:Int))=d:=by
 obtain ⟨x,y⟩:=d
 have e1:x=if sg then -(n:Int) else (n:Int):=h.e1
 have e2:y=(D:Int):=h.e2
 rw [e1,e2]
end Go.Proofs.Lx
end
section
namespace Go.Proofs.Lx
def stN:Nat->Nat->Nat×Nat
 | 0,v=>(0,v)
 | k + 1,v=>if v % 10=0 then stN k (v / 10) else (k + 1,v)
theorem stN_pow (k:Nat):∀ (i W:Nat),stN (k + i) (W * 10 ^ i)=stN k W
 | 0,W=>by rw [Nat.pow_zero,Nat.mul_one]; rfl
 | i + 1,W=>by
  show stN ((k + i) + 1) (W * 10 ^ (i + 1))=_
  have e:W * 10 ^ (i + 1)=(W * 10 ^ i) * 10:=by rw [Nat.pow_succ,Nat.mul_assoc]
  rw [stN,e,if_pos (by omega),Nat.mul_div_cancel _ (by omega),stN_pow k i W]
theorem stN_spec:∀ (k v:Nat),(stN k v).1≤k∧v=(stN k v).2 * 10 ^ (k - (stN k v).1)
 | 0,v=>⟨Nat.le_refl _,by show v=v * 10 ^ (0 - 0); simp⟩
 | k + 1,v=>by
  rw [stN]
  by_cases h:v % 10=0
  ·rw [if_pos h]
   obtain ⟨h1,h2⟩:=stN_spec k (v / 10)
   refine ⟨by omega,?_⟩
   have e:k + 1 - (stN k (v / 10)).1=(k - (stN k (v / 10)).1) + 1:=by omega
   rw [e,Nat.pow_succ,<- Nat.mul_assoc,<- h2]
   omega
  ·rw [if_neg h]
   refine ⟨Nat.le_refl _,?_⟩
   show v=v * 10 ^ (k + 1 - (k + 1))
   simp
def okN (p:Nat×Nat):Option (Nat×Nat):=if p.2≤1000000000000 then some (p.2,p.1) else none
def timesN (a b:Nat):Option (Nat×Nat):=if a * 1000000 % b=0 then okN (stN 6 (a * 1000000 / b)) else none
def refL (num:Nat):Nat->Nat->Nat->Nat->Option (Nat×Nat)
 | 0,_,_,_=>none
 | f + 1,k,nn,below=>if below=1 then (if 4000000000000000000 / num < nn then none else okN (stN k (nn * num)))
  else if 4000000000000000000 / (10 / Nat.gcd below 10) < nn then none else refL num f (k + 1) (nn * (10 / Nat.gcd below 10)) (below / Nat.gcd below 10)
theorem big_mul {c n x:Nat} (hn:0 < n) (h:c / n < x):c < x * n:=by
 have:=Nat.lt_mul_of_div_lt h hn
 first | exact this | (rw [Nat.mul_comm]; exact this)
theorem cop_one {x y:Nat} (h:y ∣ x) (hc:Nat.Coprime x y):y=1:=by
 have h2:y ∣ Nat.gcd x y:=Nat.dvd_gcd h (Nat.dvd_refl _)
 rw [hc] at h2
 exact Nat.dvd_one.1 h2
theorem refL_eq {num a b:Nat} (hnum:0 < num) (hb:0 < b):∀ (f k nn below:Nat),k + f=7->0 < below->0 < nn->Nat.Coprime (nn * num) below->nn * num * b=a * 10 ^ k * below->0 < f->refL num f k nn below=timesN a b
 | 0,_,_,_,_,_,_,_,_,hf=>by omega
 | f + 1,k,nn,below,hk,hbel,hnn,hco,he,_=>by
  rw [refL]
  by_cases h1:below=1
  ·subst h1
   rw [if_pos rfl,Nat.mul_one] at *
   have hk6:k≤6:=by omega
   have e6:a * 1000000=nn * num * 10 ^ (6 - k) * b:=by
    have:(1000000:Nat)=10 ^ k * 10 ^ (6 - k):=by rw [<- Nat.pow_add,show k + (6 - k)=6 by omega]
    rw [this,<- Nat.mul_assoc,<- he]
    ac_rfl
   have hst:stN 6 (a * 1000000 / b)=stN k (nn * num):=by
    rw [e6,Nat.mul_div_cancel _ hb]
    have:=stN_pow k (6 - k) (nn * num)
    rw [show k + (6 - k)=6 by omega] at this
    exact this
   have ht:timesN a b=okN (stN k (nn * num)):=by
    unfold timesN
    rw [if_pos (by rw [e6]; exact Nat.mul_mod_left _ _),hst]
   rw [ht]
   by_cases h2:4000000000000000000 / num < nn
   ·rw [if_pos h2]
    have hbig:=big_mul hnum h2
    obtain ⟨g1,g2⟩:=stN_spec k (nn * num)
    unfold okN
    rw [if_neg]
    intro hle
    have hp:10 ^ (k - (stN k (nn * num)).1)≤10 ^ 6:=Nat.pow_le_pow_right (by omega) (by omega)
    have:=Nat.mul_le_mul hle hp
    rw [<- g2] at this
    omega
   ·rw [if_neg h2]
  ·rw [if_neg h1]
   have hg:0 < Nat.gcd below 10:=Nat.gcd_pos_of_pos_left _ hbel
   obtain ⟨c,hc⟩:=Nat.gcd_dvd_left below 10
   obtain ⟨d,hd⟩:=Nat.gcd_dvd_right below 10
   have hcd:below / Nat.gcd below 10=c:=Nat.div_eq_of_eq_mul_right hg hc
   have hdd:10 / Nat.gcd below 10=d:=Nat.div_eq_of_eq_mul_right hg hd
   rw [hcd,hdd]
   have key:∀ j w:Nat,j≤6->a * 1000000=w * 10 ^ (6 - j) * b->nn≤w:=by
    intro j w hj hw
    have e1:a * 10 ^ j=w * b:=by
     have h6:(1000000:Nat)=10 ^ j * 10 ^ (6 - j):=by rw [<- Nat.pow_add,show j + (6 - j)=6 by omega]
     have hp:0 < 10 ^ (6 - j):=Nat.pow_pos (by omega)
     rw [h6] at hw
     have:a * 10 ^ j * 10 ^ (6 - j)=w * b * 10 ^ (6 - j):=by
      rw [Nat.mul_assoc,hw]
      ac_rfl
     exact Nat.eq_of_mul_eq_mul_right hp this
    by_cases hjk:j≤k
    ·exfalso
     have e2:a * 10 ^ k=w * 10 ^ (k - j) * b:=by
      have hp:10 ^ k=10 ^ j * 10 ^ (k - j):=by rw [<- Nat.pow_add,show j + (k - j)=k by omega]
      rw [hp,<- Nat.mul_assoc,e1]
      ac_rfl
     rw [e2] at he
     have e3:nn * num=w * 10 ^ (k - j) * below:=by
      have:nn * num * b=w * 10 ^ (k - j) * below * b:=by rw [he]; ac_rfl
      exact Nat.eq_of_mul_eq_mul_right hb this
     have hdv:below ∣ nn * num:=⟨_,by rw [e3,Nat.mul_comm]⟩
     exact h1 (cop_one hdv hco)
    ·have e3:nn * num * 10 ^ (j - k)=w * below:=by
      have:nn * num * 10 ^ (j - k) * b=w * below * b:=by
       have hp:10 ^ j=10 ^ k * 10 ^ (j - k):=by rw [<- Nat.pow_add,show k + (j - k)=j by omega]
       rw [hp] at e1
       have e4:nn * num * 10 ^ (j - k) * b=nn * num * b * 10 ^ (j - k):=by ac_rfl
       have e5:a * 10 ^ k * below * 10 ^ (j - k)=a * (10 ^ k * 10 ^ (j - k)) * below:=by ac_rfl
       rw [e4,he,e5,e1]
       ac_rfl
      exact Nat.eq_of_mul_eq_mul_right hb this
     have hdv:below ∣ 10 ^ (j - k):=by
      have:below ∣ nn * num * 10 ^ (j - k):=⟨w,by rw [e3,Nat.mul_comm]⟩
      exact (Nat.Coprime.symm hco).dvd_of_dvd_mul_left this
     obtain ⟨t,ht⟩:=hdv
     have hw2:w=nn * num * t:=by
      rw [ht] at e3
      have:w * below=nn * num * t * below:=by rw [<- e3]; ac_rfl
      exact Nat.eq_of_mul_eq_mul_right hbel this
     have htp:0 < t:=by
      rcases Nat.eq_zero_or_pos t with e | e
      ·subst e
       have:0 < 10 ^ (j - k):=Nat.pow_pos (by omega)
       omega
      ·exact e
     rw [hw2,Nat.mul_assoc]
     exact Nat.le_mul_of_pos_right _ (Nat.mul_pos hnum htp)
   by_cases h2:4000000000000000000 / d < nn
   ·rw [if_pos h2]
    have hd10:d≤10:=Nat.le_of_dvd (by omega) ⟨_,by rw [Nat.mul_comm]; exact hd⟩
    have hdp:0 < d:=by
     rcases Nat.eq_zero_or_pos d with e | e
     ·subst e; omega
     ·exact e
    have hbig:=big_mul hdp h2
    have hnn17:1000000000000 < nn:=by
     have:nn * d≤nn * 10:=Nat.mul_le_mul_left _ hd10
     omega
    unfold timesN
    by_cases hdiv:a * 1000000 % b=0
    ·rw [if_pos hdiv]
     obtain ⟨g1,g2⟩:=stN_spec 6 (a * 1000000 / b)
     have hq:a * 1000000=a * 1000000 / b * b:=(Nat.div_mul_cancel (Nat.dvd_of_mod_eq_zero hdiv)).symm
     have:=key (stN 6 (a * 1000000 / b)).1 (stN 6 (a * 1000000 / b)).2 g1 (by rw [<- g2]; exact hq)
     unfold okN
     rw [if_neg (by omega)]
    ·rw [if_neg hdiv]
   ·rw [if_neg h2]
    have hcp:0 < c:=by
     rcases Nat.eq_zero_or_pos c with e | e
     ·subst e; omega
     ·exact e
    have hdp:0 < d:=by
     rcases Nat.eq_zero_or_pos d with e | e
     ·subst e; omega
     ·exact e
    rcases Nat.eq_zero_or_pos f with hf0 | hf0
    ·subst hf0
     have hk6:k=6:=by omega
     subst hk6
     show none=timesN a b
     unfold timesN
     rw [if_neg]
     intro hdiv
     have hq:a * 1000000=a * 1000000 / b * b:=(Nat.div_mul_cancel (Nat.dvd_of_mod_eq_zero hdiv)).symm
     have he':nn * num * b=a * 1000000 * below:=he
     rw [hq] at he'
     have e3:nn * num=a * 1000000 / b * below:=by
      have:nn * num * b=a * 1000000 / b * below * b:=by rw [he']; ac_rfl
      exact Nat.eq_of_mul_eq_mul_right hb this
     have hdv:below ∣ nn * num:=⟨_,by rw [e3,Nat.mul_comm]⟩
     exact h1 (cop_one hdv hco)
    ·refine refL_eq hnum hb f (k + 1) (nn * d) c (by omega) hcp (Nat.mul_pos hnn hdp) ?_ ?_ hf0
     ·have hcd1:Nat.Coprime d c:=by
       have:=Nat.gcd_div_gcd_div_gcd_of_pos_left (n:=below) (m:=10) hbel
       rw [hcd,hdd] at this
       exact (Nat.Coprime.symm this)
      have hnc:Nat.Coprime (nn * num) c:=Nat.Coprime.coprime_dvd_right ⟨_,by rw [Nat.mul_comm]; exact hc⟩ hco
      rw [show nn * d * num=nn * num * d by ac_rfl]
      exact Nat.Coprime.mul_left hnc hcd1
     ·rw [show nn * d * num * b=nn * num * b * d by ac_rfl,he,Nat.pow_succ]
      have e7:a * 10 ^ k * below * d=a * 10 ^ k * (Nat.gcd below 10 * c) * d:=by rw [<- hc]
      have e8:a * 10 ^ k * (Nat.gcd below 10 * c) * d=a * 10 ^ k * (Nat.gcd below 10 * d) * c:=by ac_rfl
      rw [e7,e8,<- hd]
      ac_rfl
theorem gcd_parts {x y:Nat} (hx:0 < x):∃ g x' y',0 < g∧Nat.gcd x y=g∧x=x' * g∧y=y' * g∧x / Nat.gcd x y=x'∧y / Nat.gcd x y=y'∧Nat.Coprime x' y':=by
 have hg:0 < Nat.gcd x y:=Nat.gcd_pos_of_pos_left _ hx
 have h:=Nat.gcd_div_gcd_div_gcd_of_pos_left (n:=x) (m:=y) hx
 exact ⟨Nat.gcd x y,x / Nat.gcd x y,y / Nat.gcd x y,hg,rfl,(Nat.div_mul_cancel (Nat.gcd_dvd_left _ _)).symm,(Nat.div_mul_cancel (Nat.gcd_dvd_right _ _)).symm,rfl,rfl,h⟩
theorem red_eq {n num den ten:Nat} (hn:0 < n) (hnum:0 < num) (hden:0 < den) (hten:0 < ten) :
  refL (num / Nat.gcd num (den / Nat.gcd n den) / Nat.gcd (num / Nat.gcd num (den / Nat.gcd n den)) ten) 7 0
   (n / Nat.gcd n den / Nat.gcd (n / Nat.gcd n den) (ten / Nat.gcd (num / Nat.gcd num (den / Nat.gcd n den)) ten))
   (den / Nat.gcd n den / Nat.gcd num (den / Nat.gcd n den) * (ten / Nat.gcd (num / Nat.gcd num (den / Nat.gcd n den)) ten / Nat.gcd (n / Nat.gcd n den) (ten / Nat.gcd (num / Nat.gcd num (den / Nat.gcd n den)) ten)))=timesN (n * num) (den * ten):=by
 obtain ⟨g1,n1,d1,p1,_,a1,b1,c1,e1,f1⟩:=gcd_parts (y:=den) hn
 rw [c1,e1]
 obtain ⟨g2,m2,d2,p2,_,a2,b2,c2,e2,f2⟩:=gcd_parts (y:=d1) hnum
 rw [c2,e2]
 have hm2:0 < m2:=by
  rcases Nat.eq_zero_or_pos m2 with e | e
  ·subst e; omega
  ·exact e
 obtain ⟨g3,m3,t3,p3,_,a3,b3,c3,e3,f3⟩:=gcd_parts (y:=ten) hm2
 rw [c3,e3]
 have hn1:0 < n1:=by
  rcases Nat.eq_zero_or_pos n1 with e | e
  ·subst e; omega
  ·exact e
 obtain ⟨g4,n4,t4,p4,_,a4,b4,c4,e4,f4⟩:=gcd_parts (y:=t3) hn1
 rw [c4,e4]
 have pos:∀ {x y z:Nat},0 < x->x=y * z->0 < y:=by
  intro x y z hx h
  rcases Nat.eq_zero_or_pos y with e | e
  ·subst e; omega
  ·exact e
 have hn4:0 < n4:=pos hn1 a4
 have hm3:0 < m3:=pos hm2 a3
 have hd1:0 < d1:=pos hden b1
 have hd2:0 < d2:=pos hd1 b2
 have ht3:0 < t3:=pos hten b3
 have ht4:0 < t4:=pos ht3 b4
 refine refL_eq hm3 (Nat.mul_pos hden hten) 7 0 n4 (d2 * t4) rfl (Nat.mul_pos hd2 ht4) hn4 ?_ ?_ (by decide)
 ·have q1:Nat.Coprime n4 d2:=Nat.Coprime.coprime_dvd_left ⟨g4,a4⟩ (Nat.Coprime.coprime_dvd_right ⟨g2,b2⟩ f1)
  have q2:Nat.Coprime m3 d2:=Nat.Coprime.coprime_dvd_left ⟨g3,a3⟩ f2
  have q3:Nat.Coprime m3 t4:=Nat.Coprime.coprime_dvd_right ⟨g4,b4⟩ f3
  exact Nat.Coprime.mul_right (Nat.Coprime.mul_left q1 q2) (Nat.Coprime.mul_left f4 q3)
 ·rw [a1,a2,b1,b2,b3,b4,a3,a4,Nat.pow_zero,Nat.mul_one]
  ac_rfl
end Go.Proofs.Lx
end
section
namespace Go.Proofs.Lx
open Go Ev Sx Pl
set_option maxRecDepth 100000
theorem uwM (x:Int):IntKind.u64.wrap x=x % 18446744073709551616:=by
 simp only [IntKind.wrap,IntKind.signed,IntKind.bits]
 simp
theorem uwB {x:Int} (h1:0≤x) (h2:x < 18446744073709551616):IntKind.u64.wrap x=x:=by rw [uwM]; omega
theorem band_lo {x:Int} (h1:0≤x) (h2:x < 18446744073709551616):band .u64 x 4294967295=x % 4294967296:=by
 obtain ⟨n,rfl⟩:=Int.eq_ofNat_of_zero_le h1
 have e:(BitVec.ofInt 64 (n:Int) &&& BitVec.ofInt 64 4294967295).toNat=n % 4294967296:=by
  rw [BitVec.toNat_and]
  have a1:(BitVec.ofInt 64 (n:Int)).toNat=n:=by simp [BitVec.toNat_ofInt]; omega
  have a2:(BitVec.ofInt 64 4294967295).toNat=2 ^ 32 - 1:=by decide
  rw [a1,a2,Nat.and_two_pow_sub_one_eq_mod]
 show IntKind.u64.wrap ((BitVec.ofInt 64 (n:Int) &&& BitVec.ofInt 64 4294967295).toNat:Int)=_
 rw [e,uwB (by omega) (by omega)]
 omega
theorem shr_k {x:Int} (k:Nat) (hk:k≤64):shr .u64 x (k:Int)=x / 2 ^ k:=by
 unfold shr
 simp only [IntKind.bits,Int.toNat_natCast,Nat.min_eq_left hk]
 rw [Int.fdiv_eq_ediv_of_nonneg _ (Int.le_of_lt (Int.pow_pos (by decide)))]
theorem shr_32 {x:Int} (_:0≤x):shr .u64 x 32=x / 4294967296:=shr_k 32 (by decide)
theorem mul_b {a b:Int} (A B C:Int) (hC:A * B=C) (ha:0≤a∧a≤A) (hb:0≤b∧b≤B):0≤a * b∧a * b≤C:=by
 subst hC
 exact ⟨Int.mul_nonneg ha.1 hb.1,Int.mul_le_mul ha.2 hb.2 hb.1 (by omega)⟩
theorem mul64_eq {x y:Int} (hx:0≤x) (hx':x < 18446744073709551616) (hy:0≤y) (hy':y < 18446744073709551616) :
  bits_Mul64 (x,y,())=some (x * y / 18446744073709551616,x * y % 18446744073709551616,()):=by
 show bits_Mul64_m0 x y=_
 unfold bits_Mul64_m0
 simp only [band_lo hx hx',band_lo hy hy',shr_32 hx,shr_32 hy]
 have bA:=mul_b (a:=x % 4294967296) (b:=y % 4294967296) 4294967295 4294967295 18446744065119617025 (by decide) (by omega) (by omega)
 have bB:=mul_b (a:=x / 4294967296) (b:=y % 4294967296) 4294967295 4294967295 18446744065119617025 (by decide) (by omega) (by omega)
 have bC:=mul_b (a:=x % 4294967296) (b:=y / 4294967296) 4294967295 4294967295 18446744065119617025 (by decide) (by omega) (by omega)
 have bD:=mul_b (a:=x / 4294967296) (b:=y / 4294967296) 4294967295 4294967295 18446744065119617025 (by decide) (by omega) (by omega)
 have hxy:x * y=(x / 4294967296 * (y / 4294967296)) * 18446744073709551616 + (x / 4294967296 * (y % 4294967296) + x % 4294967296 * (y / 4294967296)) * 4294967296 + x % 4294967296 * (y % 4294967296):=by
  have e1:x=4294967296 * (x / 4294967296) + x % 4294967296:=by omega
  have e2:y=4294967296 * (y / 4294967296) + y % 4294967296:=by omega
  generalize x / 4294967296=x1 at *
  generalize x % 4294967296=x0 at *
  generalize y / 4294967296=y1 at *
  generalize y % 4294967296=y0 at *
  subst e1 e2
  grind
 unfold add mul
 rw [hxy]
 generalize x % 4294967296 * (y % 4294967296)=A at *
 generalize x / 4294967296 * (y % 4294967296)=B at *
 generalize x % 4294967296 * (y / 4294967296)=C at *
 generalize x / 4294967296 * (y / 4294967296)=D at *
 rw [uwB (x:=A) (by omega) (by omega),uwB (x:=B) (by omega) (by omega),uwB (x:=C) (by omega) (by omega),uwB (x:=D) (by omega) (by omega)]
 rw [shr_32 (x:=A) (by omega)]
 rw [uwB (x:=B + A / 4294967296) (by omega) (by omega),band_lo (by omega) (by omega),shr_32 (by omega)]
 rw [uwB (x:=(B + A / 4294967296) % 4294967296 + C) (by omega) (by omega),shr_32 (by omega)]
 rw [uwB (x:=D + (B + A / 4294967296) / 4294967296) (by omega) (by omega)]
 rw [uwB (x:=D + (B + A / 4294967296) / 4294967296 + _) (by omega) (by omega),uwM]
 refine congrArg some (Prod.ext ?_ rfl)
 show @Eq Int _ _
 dsimp only
 omega
def len8:List UInt8:=[0,1,2,2,3,3,3,3,4,4,4,4,4,4,4,4,5,5,5,5,5,5,5,5,5,5,5,5,5,5,5,5,6,6,6,6,6,6,6,6,6,6,6,6,6,6,6,6,6,6,6,6,6,6,6,6,6,6,6,6,6,6,6,6,7,7,7,7,7,7,7,7,7,7,7,7,7,7,7,7,7,7,7,7,7,7,7,7,7,7,7,7,7,7,7,7,7,7,7,7,7,7,7,7,7,7,7,7,7,7,7,7,7,7,7,7,7,7,7,7,7,7,7,7,7,7,7,7,8,8,8,8,8,8,8,8,8,8,8,8,8,8,8,8,8,8,8,8,8,8,8,8,8,8,8,8,8,8,8,8,8,8,8,8,8,8,8,8,8,8,8,8,8,8,8,8,8,8,8,8,8,8,8,8,8,8,8,8,8,8,8,8,8,8,8,8,8,8,8,8,8,8,8,8,8,8,8,8,8,8,8,8,8,8,8,8,8,8,8,8,8,8,8,8,8,8,8,8,8,8,8,8,8,8,8,8,8,8,8,8,8,8,8,8,8,8,8,8,8,8,8,8,8,8,8,8]
set_option maxRecDepth 10000 in
theorem len8_spec:∀ x:Fin 256,∃ c,len8[x.val]? = some c∧c.toNat≤8∧x.val < 2 ^ c.toNat∧(x.val=0∨2 ^ c.toNat≤2 * x.val):=by
 have h:(List.finRange 256).all (fun x=>match len8[x.val]? with | some c=>decide (c.toNat≤8∧x.val < 2 ^ c.toNat∧(x.val=0∨2 ^ c.toNat≤2 * x.val)) | none=>false)=true:=by decide +kernel
 intro x
 have hx:=List.all_eq_true.1 h x (List.mem_finRange x)
 split at hx
 ·rename_i c hc
  exact ⟨c,hc,of_decide_eq_true hx⟩
 ·cases hx
theorem tab_eq {x n:Int} (h1:0≤x) (h2:x < 256) (hn:0≤n) (hn':n≤56):∃ c:Nat,(Option.bind (at? len8 (cvt .u8 x)) fun c=>(some (Sx.sub .i64 64 (add .i64 n (cvt .i64 (Int.ofNat (UInt8.toNat c)))),()):Option (As [.int .i64])))=some (64 - (n + c),())∧c≤8∧x < 2 ^ c∧(x=0∨(2:Int) ^ c≤2 * x):=by
 obtain ⟨m,rfl⟩:=Int.eq_ofNat_of_zero_le h1
 obtain ⟨c,h3,h4,h5,h6⟩:=len8_spec ⟨m,by omega⟩
 refine ⟨c.toNat,?_,h4,?_,?_⟩
 ·have e1:cvt .u8 (m:Int)=m:=wu8 (by omega) (by omega)
  have e2:at? len8 (m:Int)=some c:=qg_ h3
  rw [e1,e2,Option.bind_some,q1_,cvt64 (by omega) (by omega),add64 (by omega) (by omega),sub64 (by omega) (by omega)]
 ·have:((m:Nat):Int) < ((2 ^ c.toNat:Nat):Int):=by exact_mod_cast h5
  simpa using this
 ·rcases h6 with h6 | h6
  ·left; simp at h6; omega
  ·right
   have:((2 ^ c.toNat:Nat):Int)≤((2 * m:Nat):Int):=by exact_mod_cast h6
   simpa using this
theorem m61_eq {y:Int} (h1:1≤y) (h2:y < 4294967296):∃ n:Nat,q49_ (y,())=some (((64 - n:Nat):Int),())∧n≤32∧y < 2 ^ n∧(2:Int) ^ n≤2 * y:=by
 have e0:ge y 4294967296=false:=decide_eq_false (by omega)
 show ∃ n:Nat,q55_ y=_∧_
 unfold q55_
 simp only [e0,Bool.false_eq_true,if_false]
 have p8:(2:Int) ^ 8=256:=by decide
 have p16:(2:Int) ^ 16=65536:=by decide
 by_cases q1:65536≤y
 ·have e1:ge y 65536=true:=decide_eq_true (by omega)
  have e2:shr .u64 y 16=y / 65536:=by have:=shr_k (x:=y) 16 (by decide); rw [p16] at this; exact this
  simp only [e1,if_true,e2]
  by_cases q2:256≤y / 65536
  ·have e4:ge (y / 65536) 256=true:=decide_eq_true (by omega)
   have e5:shr .u64 (y / 65536) 8=y / 65536 / 256:=by have:=shr_k (x:=y / 65536) 8 (by decide); rw [p8] at this; exact this
   simp only [e4,if_true,e5]
   obtain ⟨c,h3,h4,h5,h6⟩:=tab_eq (x:=y / 65536 / 256) (n:=24) (by omega) (by omega) (by omega) (by omega)
   refine ⟨24 + c,h3.trans (by congr 2; omega),by omega,?_,?_⟩
   ·rw [Int.pow_add,show (2:Int) ^ 24=16777216 by decide]; omega
   ·rw [Int.pow_add,show (2:Int) ^ 24=16777216 by decide]; omega
  ·have e4:ge (y / 65536) 256=false:=decide_eq_false (by omega)
   simp only [e4,Bool.false_eq_true,if_false]
   obtain ⟨c,h3,h4,h5,h6⟩:=tab_eq (x:=y / 65536) (n:=16) (by omega) (by omega) (by omega) (by omega)
   refine ⟨16 + c,h3.trans (by congr 2; omega),by omega,?_,?_⟩
   ·rw [Int.pow_add,p16]; omega
   ·rw [Int.pow_add,p16]; omega
 ·have e1:ge y 65536=false:=decide_eq_false (by omega)
  simp only [e1,Bool.false_eq_true,if_false]
  by_cases q2:256≤y
  ·have e4:ge y 256=true:=decide_eq_true (by omega)
   have e5:shr .u64 y 8=y / 256:=by have:=shr_k (x:=y) 8 (by decide); rw [p8] at this; exact this
   simp only [e4,if_true,e5]
   obtain ⟨c,h3,h4,h5,h6⟩:=tab_eq (x:=y / 256) (n:=8) (by omega) (by omega) (by omega) (by omega)
   refine ⟨8 + c,h3.trans (by congr 2; omega),by omega,?_,?_⟩
   ·rw [Int.pow_add,p8]; omega
   ·rw [Int.pow_add,p8]; omega
  ·have e4:ge y 256=false:=decide_eq_false (by omega)
   simp only [e4,Bool.false_eq_true,if_false]
   obtain ⟨c,h3,h4,h5,h6⟩:=tab_eq (x:=y) (n:=0) (by omega) (by omega) (by omega) (by omega)
   refine ⟨c,h3.trans (by congr 2; omega),by omega,h5,?_⟩
   omega
theorem shl_k {x:Int} (k:Nat) (hk:k≤64):shl .u64 x (k:Int)=(x * 2 ^ k) % 18446744073709551616:=by
 unfold shl
 simp only [IntKind.bits,Int.toNat_natCast,Nat.min_eq_left hk]
 exact uwM _
theorem cvtu (x:Int):cvt .u64 x=x % 18446744073709551616:=uwM x
theorem ofInt_nat {N:Nat} (h:(N:Int) < 18446744073709551616):(BitVec.ofInt 64 (N:Int)).toNat=N:=by simp; omega
theorem bor_add {a b:Int} (k:Nat) (ha:0≤a) (hb:0≤b) (hb':b < 2 ^ k) (hs:a * 2 ^ k + b < 18446744073709551616):bor .u64 (a * 2 ^ k) b=a * 2 ^ k + b:=by
 obtain ⟨m,rfl⟩:=Int.eq_ofNat_of_zero_le ha
 obtain ⟨n,rfl⟩:=Int.eq_ofNat_of_zero_le hb
 have hc:((m:Int) * 2 ^ k)=((m * 2 ^ k:Nat):Int):=by simp
 have hn:n < 2 ^ k:=by exact_mod_cast hb'
 have hs':((m * 2 ^ k:Nat):Int) + (n:Int) < 18446744073709551616:=by rw [<- hc]; exact hs
 have e:(BitVec.ofInt 64 ((m * 2 ^ k:Nat):Int) ||| BitVec.ofInt 64 (n:Int)).toNat=m * 2 ^ k + n:=by
  rw [BitVec.toNat_or]
  have a1:=ofInt_nat (N:=m * 2 ^ k) (by omega)
  have a2:=ofInt_nat (N:=n) (by omega)
  rw [a1,a2,<- Nat.shiftLeft_eq,Nat.shiftLeft_add_eq_or_of_lt hn]
 rw [hc]
 show IntKind.u64.wrap ((BitVec.ofInt 64 ((m * 2 ^ k:Nat):Int) ||| BitVec.ofInt 64 (n:Int)).toNat:Int)=_
 rw [e,uwB (by omega) (by omega)]
 simp
theorem quou {a b:Int} (ha:0≤a) (ha':a < 18446744073709551616) (hb:0 < b):quo .u64 a b=a / b:=by
 unfold quo
 rw [Int.tdiv_eq_ediv_of_nonneg ha,uwB (Int.ediv_nonneg ha (by omega))]
 exact Int.lt_of_le_of_lt (Int.ediv_le_self b ha) ha'
theorem remu {a b:Int} (ha:0≤a):rem a b=a % b:=by
 unfold rem
 rw [Int.tmod_eq_emod_of_nonneg ha]
theorem loopF64 {σ R:Type} (F:(σ->Option R)->σ->Option R) (s:σ):loopF F 18446744073709551616 s=F (loopF F 18446744073709551615) s:=rfl
set_option maxHeartbeats 4000000 in
theorem div64_eq {hi lo y:Int} (h1:1≤y) (h2:y < 4294967296) (hh:0≤hi) (hhy:hi < y) (hl:0≤lo) (hl':lo < 18446744073709551616) :
  bits_Div64 (hi,lo,y,())=some ((hi * 18446744073709551616 + lo) / y,(hi * 18446744073709551616 + lo) % y,()):=by
 have e0:eqi y 0=false:=by simp [eqi]; omega
 have e1:le y hi=false:=decide_eq_false (by omega)
 have e2:nei y 0=true:=by simp [nei]; omega
 show bits_Div64_m0 bits_Div64_K1 hi lo y=_
 simp only [bits_Div64_m0,e0,Bool.false_eq_true,if_false,bits_Div64_K1,bits_Div64_m1,e1,bits_Div64_K2,bits_Div64_m2]
 by_cases hz:hi=0
 ·subst hz
  have e3:eqi 0 0=true:=rfl
  simp only [e3,if_true,need,e2,quou hl hl' (by omega:0 < y),remu hl]
  simp
 ·have e3:eqi hi 0=false:=by simp [eqi]; omega
  obtain ⟨n,hs,hn,hy1,hy2⟩:=m61_eq h1 h2
  simp only [e3,Bool.false_eq_true,if_false,hs,Option.bind_some]
  have es:cvt .u64 (((64 - n:Nat)):Int)=((64 - n:Nat):Int):=by rw [cvtu]; omega
  have et:sub .u64 64 ((64 - n:Nat):Int)=((n:Nat):Int):=by
   unfold sub
   rw [uwB (by omega) (by omega)]
   omega
  have g1:ge ((64 - n:Nat):Int) 0=true:=decide_eq_true (by omega)
  have g2:ge ((n:Nat):Int) 0=true:=decide_eq_true (by omega)
  simp only [es,et,g1,g2,need,if_true]
  obtain ⟨T,hT⟩:∃ T:Int,T=2 ^ n:=⟨_,rfl⟩
  obtain ⟨K,hK⟩:∃ K:Int,K=2 ^ (32 - n):=⟨_,rfl⟩
  have hT0:0 < T:=by rw [hT]; exact Int.pow_pos (by decide)
  have hK0:0 < K:=by rw [hK]; exact Int.pow_pos (by decide)
  have hTK:T * K=4294967296:=by
   rw [hT,hK,<- Int.pow_add,show n + (32 - n)=32 by omega]; decide
  have hP:(2:Int) ^ (64 - n)=K * 4294967296:=by
   rw [hK,show (4294967296:Int)=2 ^ 32 by decide,<- Int.pow_add,show 32 - n + 32=64 - n by omega]
  rw [<- hT] at hy1 hy2
  have hTP:T * (K * 4294967296)=18446744073709551616:=by grind
  have hYK1:y * K < 4294967296:=by rw [<- hTK]; exact Int.mul_lt_mul_of_pos_right hy1 hK0
  have hYK2:2147483648≤y * K:=by
   have:T * K≤2 * y * K:=Int.mul_le_mul_of_nonneg_right hy2 (by omega)
   rw [hTK] at this
   grind
  have eY:shl .u64 y ((64 - n:Nat):Int)=(y * K) * 4294967296:=by
   rw [shl_k _ (by omega),hP,<- Int.mul_assoc]
   omega
  obtain ⟨Z,hZ⟩:∃ Z:Int,Z=y * K:=⟨_,rfl⟩
  rw [<- hZ] at hYK1 hYK2 eY
  have eYn1:shr .u64 (Z * 4294967296) 32=Z:=by rw [shr_32 (by omega)]; omega
  have eYn0:band .u64 (Z * 4294967296) 4294967295=0:=by rw [band_lo (by omega) (by omega)]; omega
  have eLo1:shr .u64 lo ((n:Nat):Int)=lo / T:=by rw [shr_k n (by omega),<- hT]
  have eLo2:shl .u64 lo ((64 - n:Nat):Int)=(lo % T) * (K * 4294967296):=by
   rw [shl_k _ (by omega),hP,<- hTP,Int.mul_comm lo,Int.mul_comm T,Int.mul_emod_mul_of_pos _ _ (by omega:0 < K * 4294967296),Int.mul_comm]
  have bLo1:0≤lo / T:=Int.ediv_nonneg hl (by omega)
  have bLo1':lo / T < K * 4294967296:=Int.ediv_lt_of_lt_mul hT0 (by rw [Int.mul_comm,hTP]; exact hl')
  have bHi:hi * (K * 4294967296) + lo / T < Z * 4294967296:=by
   have:(hi + 1) * (K * 4294967296)≤y * (K * 4294967296):=Int.mul_le_mul_of_nonneg_right (by omega) (by omega)
   rw [hZ]
   grind
  have eHi:shl .u64 hi ((64 - n:Nat):Int)=hi * (K * 4294967296):=by
   rw [shl_k _ (by omega),hP]
   have:0≤hi * (K * 4294967296):=Int.mul_nonneg hh (by omega)
   omega
  have eU:bor .u64 (shl .u64 hi ((64 - n:Nat):Int)) (shr .u64 lo ((n:Nat):Int))=hi * (K * 4294967296) + lo / T:=by
   rw [eHi,eLo1,<- hP]
   rw [<- hP] at bLo1' bHi
   exact bor_add _ hh bLo1 bLo1' (by omega)
  have bU0:0≤hi * (K * 4294967296) + lo / T:=Int.add_nonneg (Int.mul_nonneg hh (by omega)) bLo1
  have bV0:0≤(lo % T) * (K * 4294967296):=Int.mul_nonneg (Int.emod_nonneg _ (by omega)) (by omega)
  have bV1:(lo % T) * (K * 4294967296) < 18446744073709551616:=by
   rw [<- hTP]
   exact Int.mul_lt_mul_of_pos_right (Int.emod_lt_of_pos _ hT0) (by omega)
  obtain ⟨V,hV⟩:∃ V:Int,V=(lo % T) * (K * 4294967296):=⟨_,rfl⟩
  obtain ⟨U,hU⟩:∃ U:Int,U=hi * (K * 4294967296) + lo / T:=⟨_,rfl⟩
  rw [<- hV] at eLo2 bV0 bV1
  rw [<- hU] at eU bHi bU0
  have hsum:(hi * 18446744073709551616 + lo) * (K * 4294967296)=U * 18446744073709551616 + V:=by
   have:lo=T * (lo / T) + lo % T:=by have:=Int.mul_ediv_add_emod lo T; omega
   rw [hU,hV]
   generalize lo / T=a at *
   generalize lo % T=b at *
   subst this
   rw [<- hTP]
   grind
  have hq1:U=Z * (U / Z) + U % Z:=by have:=Int.mul_ediv_add_emod U Z; omega
  have hr1:0≤U % Z∧U % Z < Z:=⟨Int.emod_nonneg _ (by omega),Int.emod_lt_of_pos _ (by omega)⟩
  have hq1':0≤U / Z∧U / Z < 4294967296:=⟨Int.ediv_nonneg bU0 (by omega),Int.ediv_lt_of_lt_mul (by omega) (by rw [Int.mul_comm]; exact bHi)⟩
  have en:nei Z 0=true:=by simp [nei]; omega
  have eq1:quo .u64 U Z=U / Z:=quou bU0 (by omega) (by omega)
  simp only [eU,eY,eYn1,eYn0,eLo2,en,eq1,if_true,Option.bind_some]
  obtain ⟨q1,hq1d⟩:∃ q,q=U / Z:=⟨_,rfl⟩
  obtain ⟨r1,hr1d⟩:∃ r,r=U % Z:=⟨_,rfl⟩
  rw [<- hq1d,<- hr1d] at hq1
  rw [<- hr1d] at hr1
  rw [<- hq1d] at hq1'
  simp only [<- hq1d]
  have bZq1:0≤Z * q1:=Int.mul_nonneg (by omega) hq1'.1
  have c1:q1 * Z=Z * q1:=Int.mul_comm _ _
  have m1:mul .u64 q1 Z=Z * q1:=by unfold mul; rw [c1,uwB (by omega) (by omega)]
  have s1:sub .u64 U (Z * q1)=r1:=by unfold sub; rw [uwB (by omega) (by omega)]; omega
  have lg1:ge q1 4294967296=false:=decide_eq_false (by omega)
  have m0:mul .u64 q1 0=0:=by unfold mul; rw [Int.mul_zero]; rfl
  have eV1:shr .u64 V 32=V / 4294967296:=shr_32 bV0
  have eV0:band .u64 V 4294967295=V % 4294967296:=band_lo bV0 bV1
  have lz:∀ x:Int,gt 0 (add .u64 (mul .u64 4294967296 x) (V / 4294967296))=false:=fun x=>by
   apply decide_eq_false
   unfold add
   rw [uwM]
   omega
  rw [m1,s1]
  simp only [bits_Div64_K3,loopF64,es,bits_Div64_m3,lg1,Bool.false_eq_true,if_false,eYn0,m0,eV1,Option.bind_some,lz,bits_Div64_K4,bits_Div64_m4,bits_Div64_K5,bits_Div64_m5,en,need,if_true,eYn1,eLo2,eY]
  have mY1:mul .u64 q1 (Z * 4294967296)=(Z * q1 * 4294967296) % 18446744073709551616:=by
   unfold mul; rw [uwM,<- Int.mul_assoc,c1]
  have mU:mul .u64 U 4294967296=(U * 4294967296) % 18446744073709551616:=by unfold mul; rw [uwM]
  have hW:sub .u64 (add .u64 (mul .u64 U 4294967296) (V / 4294967296)) (mul .u64 q1 (Z * 4294967296))=r1 * 4294967296 + V / 4294967296:=by
   rw [mY1,mU]
   unfold sub add
   rw [uwM,uwM]
   generalize Z * q1=A at *
   omega
  obtain ⟨W,hWd⟩:∃ W:Int,W=r1 * 4294967296 + V / 4294967296:=⟨_,rfl⟩
  rw [<- hWd] at hW
  have bW:0≤W∧W < Z * 4294967296:=by omega
  rw [hW]
  have eq0:quo .u64 W Z=W / Z:=quou (by omega) (by omega) (by omega)
  simp only [eq0]
  have hq0:W=Z * (W / Z) + W % Z:=by have:=Int.mul_ediv_add_emod W Z; omega
  have hr0:0≤W % Z∧W % Z < Z:=⟨Int.emod_nonneg _ (by omega),Int.emod_lt_of_pos _ (by omega)⟩
  have hq0':0≤W / Z∧W / Z < 4294967296:=⟨Int.ediv_nonneg bW.1 (by omega),Int.ediv_lt_of_lt_mul (by omega) (by rw [Int.mul_comm]; exact bW.2)⟩
  obtain ⟨q0,hq0d⟩:∃ q,q=W / Z:=⟨_,rfl⟩
  obtain ⟨r0,hr0d⟩:∃ r,r=W % Z:=⟨_,rfl⟩
  rw [<- hq0d,<- hr0d] at hq0
  rw [<- hr0d] at hr0
  rw [<- hq0d] at hq0'
  simp only [<- hq0d]
  have bZq0:0≤Z * q0:=Int.mul_nonneg (by omega) hq0'.1
  have c0:q0 * Z=Z * q0:=Int.mul_comm _ _
  have lg0:ge q0 4294967296=false:=decide_eq_false (by omega)
  have m00:mul .u64 q0 0=0:=by unfold mul; rw [Int.mul_zero]; rfl
  have lz0:∀ x:Int,gt 0 (add .u64 (mul .u64 4294967296 x) (V % 4294967296))=false:=fun x=>by
   apply decide_eq_false
   unfold add
   rw [uwM]
   omega
  simp only [bits_Div64_K6,loopF64,es,bits_Div64_m6,lg0,Bool.false_eq_true,if_false,eYn0,m00,eV0,eLo2,eY,Option.bind_some,lz0,bits_Div64_K7,bits_Div64_m7,bits_Div64_K8,bits_Div64_m8,es,g1,need,if_true]
  have mY0:mul .u64 q0 (Z * 4294967296)=(Z * q0 * 4294967296) % 18446744073709551616:=by
   unfold mul; rw [uwM,<- Int.mul_assoc,c0]
  have mW:mul .u64 W 4294967296=(W * 4294967296) % 18446744073709551616:=by unfold mul; rw [uwM]
  have hR:sub .u64 (add .u64 (mul .u64 W 4294967296) (V % 4294967296)) (mul .u64 q0 (Z * 4294967296))=r0 * 4294967296 + V % 4294967296:=by
   rw [mY0,mW]
   unfold sub add
   rw [uwM,uwM]
   generalize Z * q0=A at *
   omega
  have hQ:add .u64 (mul .u64 q1 4294967296) q0=q1 * 4294967296 + q0:=by
   unfold add mul
   rw [uwB (x:=q1 * 4294967296) (by omega) (by omega),uwB (by omega) (by omega)]
  rw [hR,hQ,shr_k (64 - n) (by omega),hP]
  have hall:(hi * 18446744073709551616 + lo) * (K * 4294967296)=y * (q1 * 4294967296 + q0) * (K * 4294967296) + (r0 * 4294967296 + V % 4294967296):=by
   rw [hsum]
   have eV:V=4294967296 * (V / 4294967296) + V % 4294967296:=by omega
   generalize V / 4294967296=V1 at *
   generalize V % 4294967296=V0 at *
   rw [eV,hq1]
   have:U=Z * q1 + r1:=hq1
   have h3:r1 * 4294967296 + V1=Z * q0 + r0:=by omega
   have h4:Z * q1 + r1=Z * q1 + r1:=rfl
   subst hZ
   have h5:r1 * 18446744073709551616 + 4294967296 * V1=(y * K * q0 + r0) * 4294967296:=by omega
   grind
  have hdiv:r0 * 4294967296 + V % 4294967296=(hi * 18446744073709551616 + lo - y * (q1 * 4294967296 + q0)) * (K * 4294967296):=by
   rw [Int.sub_mul,hall]; omega
  have hquot:(r0 * 4294967296 + V % 4294967296) / (K * 4294967296)=hi * 18446744073709551616 + lo - y * (q1 * 4294967296 + q0):=by
   rw [hdiv,Int.mul_ediv_cancel _ (by omega:K * 4294967296 ≠ 0)]
  have hb:0≤r0 * 4294967296 + V % 4294967296∧r0 * 4294967296 + V % 4294967296 < y * (K * 4294967296):=by
   rw [<- Int.mul_assoc,<- hZ]; omega
  rw [hquot]
  have hlt:hi * 18446744073709551616 + lo - y * (q1 * 4294967296 + q0) < y:=by
   rw [hdiv] at hb
   exact Int.lt_of_mul_lt_mul_right hb.2 (by omega)
  have hge:0≤hi * 18446744073709551616 + lo - y * (q1 * 4294967296 + q0):=by
   rw [<- hquot]
   exact Int.ediv_nonneg hb.1 (by omega)
  generalize hi * 18446744073709551616 + lo=X at *
  generalize q1 * 4294967296 + q0=q at *
  have hX:X=(X - y * q) + y * q:=by omega
  refine congrArg some (Prod.ext ?_ (Prod.ext ?_ rfl))
  ·show @Eq Int _ _
   dsimp only
   have:X / y=(X - y * q) / y + q:=by
    conv=>lhs; rw [hX]
    rw [Int.add_mul_ediv_left _ _ (by omega:y ≠ 0)]
   rw [this,Int.ediv_eq_zero_of_lt hge hlt]
   omega
  ·show @Eq Int _ _
   dsimp only
   have:X % y=(X - y * q) % y:=by
    conv=>lhs; rw [hX]
    rw [Int.add_mul_emod_self_left]
   rw [this,Int.emod_eq_of_lt hge hlt]
end Go.Proofs.Lx
end
section
namespace Go.Proofs.Lx
open Go Ev Sx Pl
@[reducible] def zI15:Type:=(Int)×(Int)×(Int)×(Int)×(Int)×(Int)->Option (As [.pr (.int .i64) (.int .u8),.bool])
def q9p_ :=(fun (self:zI15) (s:(Int)×(Int)×(Int)×(Int)×(Int)×(Int))=>q3r_ (q3o_ (fun q places d d_2 t6 t6_2=>self (q,places,d,d_2,t6,t6_2))) (fun q places d d_2 t6 t6_2=>self (q,places,d,d_2,t6,t6_2)) s.1 s.2.1 s.2.2.1 s.2.2.2.1 s.2.2.2.2.1 s.2.2.2.2.2)
theorem qd8_  (self:zI15) (q:Int) (places:Int) (d:Int) (d_2:Int) (t6:Int) (t6_2:Int):q9p_ self (q,places,d,d_2,t6,t6_2)=q3r_ (q3o_ (fun q places d d_2 t6 t6_2=>self (q,places,d,d_2,t6,t6_2))) (fun q places d d_2 t6 t6_2=>self (q,places,d,d_2,t6,t6_2)) q places d d_2 t6 t6_2:=rfl
theorem qi7_  (q:Int) (places:Int) (d:Int) (d_2:Int) (t6:Int) (t6_2:Int):qb4_ q places d d_2 t6 t6_2=loopF (q9p_) 18446744073709551616 (q,places,d,d_2,t6,t6_2):=rfl
def q9s_ :=(fun (self:zI14) (s:(Int)×(Int)×(Int×Int))=>q39_ (q59_ (fun digits n t6=>self (digits,n,t6))) (fun digits n t6=>self (digits,n,t6)) s.1 s.2.1 s.2.2)
theorem qd6_  (self:zI14) (digits:Int) (n:Int) (t6:Int×Int):q9s_ self (digits,n,t6)=q39_ (q59_ (fun digits n t6=>self (digits,n,t6))) (fun digits n t6=>self (digits,n,t6)) digits n t6:=rfl
theorem qi4_  (digits:Int) (n:Int) (t6:Int×Int):q3e_ digits n t6=loopF (q9s_) 18446744073709551616 (digits,n,t6):=rfl
@[reducible] def zI16:Type:=(Int)×(Int)×(Int)×(Int)->Option (As [.pr (.int .i64) (.int .u8),.bool])
def qfy_ :=(fun (self:zI16) (s:(Int)×(Int)×(Int)×(Int))=>q8l_ (q8i_ (fun n digits t4 t4_2=>self (n,digits,t4,t4_2))) (fun n digits t4 t4_2=>self (n,digits,t4,t4_2)) s.1 s.2.1 s.2.2.1 s.2.2.2)
theorem qev_  (self:zI16) (n:Int) (digits:Int) (t4:Int) (t4_2:Int):qfy_ self (n,digits,t4,t4_2)=q8l_ (q8i_ (fun n digits t4 t4_2=>self (n,digits,t4,t4_2))) (fun n digits t4 t4_2=>self (n,digits,t4,t4_2)) n digits t4 t4_2:=rfl
def qda_ :=(fun (self:(Int)×(Int)->Option (As [.int .i64])) (s:(Int)×(Int))=>q6u_ (fun a b=>self (a,b)) s.1 s.2)
theorem qhj_  (self:(Int)×(Int)->Option (As [.int .i64])) (a:Int) (b:Int):qda_ self (a,b)=q6u_ (fun a b=>self (a,b)) a b:=rfl
@[reducible] def zI17:Type:=(Int)×(Int)×(Int)×(Int)×(Int)×(Int)×(Int)×(Int)×(Int)×(Int)->Option (As [.pr (.int .i64) (.int .u8),.bool])
def q9r_ :=(fun (self:zI17) (s:(Int)×(Int)×(Int)×(Int)×(Int)×(Int)×(Int)×(Int)×(Int)×(Int))=>q63_ (q3m_) (fun num den n sign ten i d d_2 t6 t6_2=>self (num,den,n,sign,ten,i,d,d_2,t6,t6_2)) s.1 s.2.1 s.2.2.1 s.2.2.2.1 s.2.2.2.2.1 s.2.2.2.2.2.1 s.2.2.2.2.2.2.1 s.2.2.2.2.2.2.2.1 s.2.2.2.2.2.2.2.2.1 s.2.2.2.2.2.2.2.2.2)
theorem qcy_  (self:zI17) (num:Int) (den:Int) (n:Int) (sign:Int) (ten:Int) (i:Int) (d:Int) (d_2:Int) (t6:Int) (t6_2:Int):q9r_ self (num,den,n,sign,ten,i,d,d_2,t6,t6_2)=q63_ (q3m_) (fun num den n sign ten i d d_2 t6 t6_2=>self (num,den,n,sign,ten,i,d,d_2,t6,t6_2)) num den n sign ten i d d_2 t6 t6_2:=rfl
theorem qi1_  (num:Int) (den:Int) (n:Int) (sign:Int) (ten:Int) (i:Int) (d:Int) (d_2:Int) (t6:Int) (t6_2:Int):qfc_ num den n sign ten i d d_2 t6 t6_2=loopF (q9r_) 18446744073709551616 (num,den,n,sign,ten,i,d,d_2,t6,t6_2):=rfl
@[reducible] def zI18:Type:=(Int)×(Int)×(Int)×(Int)×(Int)×(Int)×(Int)->Option (As [.pr (.int .i64) (.int .u8),.bool])
def q9q_ :=(fun (self:zI18) (s:(Int)×(Int)×(Int)×(Int)×(Int)×(Int)×(Int))=>q5j_ (qbl_) (fun num n sign below k t6 t6_2=>self (num,n,sign,below,k,t6,t6_2)) s.1 s.2.1 s.2.2.1 s.2.2.2.1 s.2.2.2.2.1 s.2.2.2.2.2.1 s.2.2.2.2.2.2)
theorem qd0_  (self:zI18) (num:Int) (n:Int) (sign:Int) (below:Int) (k:Int) (t6:Int) (t6_2:Int):q9q_ self (num,n,sign,below,k,t6,t6_2)=q5j_ (qbl_) (fun num n sign below k t6 t6_2=>self (num,n,sign,below,k,t6,t6_2)) num n sign below k t6 t6_2:=rfl
theorem qi6_  (num:Int) (n:Int) (sign:Int) (below:Int) (k:Int) (t6:Int) (t6_2:Int):qfa_ num n sign below k t6 t6_2=loopF (q9q_) 18446744073709551616 (num,n,sign,below,k,t6,t6_2):=rfl
@[reducible] def zI19:Type:=(Int)×(Bool)×(Int)×(Int)->Option (As [.int .u16,.bool])
def qad_ :=(fun (self:zI19) (s:(Int)×(Bool)×(Int)×(Int))=>q6d_ (q4e_) (fun digits signed n i=>self (digits,signed,n,i)) s.1 s.2.1 s.2.2.1 s.2.2.2)
theorem qdh_  (self:zI19) (digits:Int) (signed:Bool) (n:Int) (i:Int):qad_ self (digits,signed,n,i)=q6d_ (q4e_) (fun digits signed n i=>self (digits,signed,n,i)) digits signed n i:=rfl
theorem qil_  (digits:Int) (signed:Bool) (n:Int) (i:Int):qg6_ digits signed n i=loopF (qad_) 18446744073709551616 (digits,signed,n,i):=rfl
end Go.Proofs.Lx
end
section
namespace Go.Proofs.Lx
open Go Ev Sx Pl
set_option maxRecDepth 100000
def sgn (sg:Bool) (n:Nat):Int:=if sg then -(n:Int) else (n:Int)
def tmS (sg:Bool):Option (Nat×Nat)->(Int×Int)×Bool
 | some (w,k)=>((sgn sg w,(k:Int)),true)
 | none=>((0,0),false)
def timesQ (P den:Nat):Option (Nat×Nat):=if P % den=0 then okN (stN 6 (P / den)) else none
theorem timesN_Q {n num den D:Nat} (hden:0 < den) (h6:D≤6):timesN (n * num) (den * 10 ^ D)=timesQ (n * 10 ^ (6 - D) * num) den:=by
 have hp:0 < 10 ^ D:=Nat.pow_pos (by omega)
 have e:n * num * 1000000=n * 10 ^ (6 - D) * num * 10 ^ D:=by
  have:(1000000:Nat)=10 ^ (6 - D) * 10 ^ D:=by rw [<- Nat.pow_add,show 6 - D + D=6 by omega]
  rw [this]
  ac_rfl
 unfold timesN timesQ
 rw [e,Nat.mul_mod_mul_right,Nat.mul_div_mul_right _ _ hp]
 generalize n * 10 ^ (6 - D) * num % den=r
 by_cases hr:r=0
 ·rw [if_pos hr,if_pos (by rw [hr,Nat.zero_mul])]
 ·rw [if_neg hr,if_neg]
  intro h
  rcases Nat.mul_eq_zero.1 h with h | h
  ·exact hr h
  ·omega
theorem stN_le (k v:Nat):(stN k v).2≤v:=by
 obtain ⟨_,h⟩:=stN_spec k v
 have hp:0 < 10 ^ (k - (stN k v).1):=Nat.pow_pos (by omega)
 rw [show v=(stN k v).2 * 10 ^ (k - (stN k v).1) from h]
 have:=Nat.le_mul_of_pos_right (stN k v).2 hp
 rw [<- h]
 rw [<- h] at this
 exact this
theorem times_loop (d d2 a b:Int):∀ (p v N:Nat),p≤6->v < 18446744073709551616 ->
  loopF q9p_ (N + p + 1) ((v:Int),(p:Int),d,d2,a,b)=q5x_ ((stN p v).2:Int) ((stN p v).1:Int) d d2 a b
 | 0,v,N,_,_=>by
  rw [q6_,qd8_]
  unfold q3r_
  rw [if_neg (by rw [qb_]; omega)]
  unfold q3o_ q7d_
  rw [if_neg (by decide)]
  rfl
 | p + 1,v,N,h6,hv=>by
  rw [q6_,qd8_]
  unfold q3r_
  rw [if_pos (by rw [qb_]; omega)]
  unfold q3o_ q7d_ stN
  have hr:rem (v:Int) 10=((v % 10:Nat):Int):=rfl
  by_cases hz:v % 10=0
  ·rw [if_pos (by rw [q9_,hr]; omega),if_pos hz]
   have e1:quo .u64 (v:Int) 10=((v / 10:Nat):Int):=by
    rw [quou (by omega) (by omega) (by decide)]
    omega
   have e2:sub .u8 ((p + 1:Nat):Int) 1=(p:Int):=by
    unfold sub
    rw [wu8 (by omega) (by omega)]
    omega
   rw [e1,e2]
   exact times_loop d d2 a b p (v / 10) N (by omega) (by omega)
  ·rw [if_neg (by rw [q9_,hr]; omega),if_neg hz]
theorem times_K5 {sg:Bool} {n:Nat} {d:Int} (d2 a b:Int) (hd:d=sgn sg n) (hn:sg=true->n ≠ 0) {q k:Nat} (hq:q≤18446744073709551615) (hk:k≤6) :
  q5x_ (q:Int) (k:Int) d d2 a b=some ((tmS sg (okN (k,q))).1,(tmS sg (okN (k,q))).2,()):=by
 unfold q5x_ qb3_ okN
 by_cases h:q≤1000000000000
 ·rw [if_neg (by rw [qb_]; omega)]
  dsimp only
  rw [if_pos h,cvt64 (by omega) (by omega)]
  cases sg with
  | true =>
   have:=hn rfl
   have e:d=-(n:Int):=hd
   rw [if_pos (by rw [q0_]; omega),neg64 (by omega) (by omega)]
   rfl
  | false =>
   have e:d=(n:Int):=hd
   rw [if_neg (by rw [q0_]; omega)]
   rfl
 ·rw [if_pos (by rw [qb_]; omega)]
  dsimp only
  rw [if_neg h]
  rfl
theorem times_K1 {sg:Bool} {n D num den:Nat} {d:Int} (hd:d=sgn sg n) (hn:sg=true->n ≠ 0) (hle:n≤1000000000000) (h6:D≤6) (h1:1≤num∧num≤1000000000) (h2:1≤den∧den≤1000000000) (a b:Int) :
  q27_ (num:Int) (den:Int) false d (D:Int) a b=some ((tmS sg (timesQ (n * 10 ^ (6 - D) * num) den)).1,(tmS sg (timesQ (n * 10 ^ (6 - D) * num) den)).2,()):=by
 have eK:q27_ (num:Int) (den:Int) false d (D:Int) a b=q7m_ (num:Int) (den:Int) (n:Int) d (D:Int) a b:=by
  unfold q27_ qbu_
  rw [if_neg (by decide)]
  cases sg with
  | true =>
   have:=hn rfl
   have e:d=-(n:Int):=hd
   rw [if_pos (by rw [q0_]; omega),neg64 (by omega) (by omega),e,Int.neg_neg]
  | false =>
   have e:d=(n:Int):=hd
   rw [if_neg (by rw [q0_]; omega)]
   rw [e]
 rw [eK]
 unfold q7m_ qb2_
 have e6:sub .i64 6 (cvt .i64 (D:Int))=((6 - D:Nat):Int):=by
  rw [cvt64 (by omega) (by omega),sub64 (by omega) (by omega)]
  omega
 have hpow:10 ^ (6 - D)≤10 ^ 6:=Nat.pow_le_pow_right (by omega) (by omega)
 have hX:n * 10 ^ (6 - D)≤1000000000000 * 10 ^ 6:=Nat.mul_le_mul hle hpow
 have emul:mul .i64 (n:Int) ((10 ^ (6 - D):Nat):Int)=((n * 10 ^ (6 - D):Nat):Int):=by
  rw [mul64 (by rw [<- Int.natCast_mul]; omega) (by rw [<- Int.natCast_mul]; omega)]
  simp
 rw [e6,power_eq (by omega),Option.bind_some]
 dsimp only
 rw [emul]
 generalize n * 10 ^ (6 - D)=X at hX
 have hPb:X * num≤1000000000000 * 10 ^ 6 * 1000000000:=Nat.mul_le_mul hX h1.2
 have c1:cvt .u64 (X:Int)=(X:Int):=by rw [cvtu]; omega
 have c2:cvt .u64 (num:Int)=(num:Int):=by rw [cvtu]; omega
 have c3:cvt .u64 (den:Int)=(den:Int):=by rw [cvtu]; omega
 rw [c1,c2,c3,mul64_eq (by omega) (by omega) (by omega) (by omega),Option.bind_some]
 dsimp only
 have hcast:(X:Int) * (num:Int)=((X * num:Nat):Int):=by simp
 rw [hcast]
 generalize hP:X * num=P at hPb
 unfold timesQ
 by_cases q1:(den:Int)≤(P:Int) / 18446744073709551616
 ·rw [if_pos (by rw [ge_iff]; exact q1)]
  have hQ:18446744073709551616≤P / den:=by
   rw [Nat.le_div_iff_mul_le (by omega)]
   omega
  have hnone:okN (stN 6 (P / den))=none:=by
   unfold okN
   rw [if_neg]
   intro hw
   obtain ⟨g1,g2⟩:=stN_spec 6 (P / den)
   have hp:10 ^ (6 - (stN 6 (P / den)).1)≤10 ^ 6:=Nat.pow_le_pow_right (by omega) (by omega)
   have:=Nat.mul_le_mul hw hp
   rw [<- g2] at this
   omega
  rw [hnone,ite_self]
  rfl
 ·rw [if_neg (by rw [ge_iff]; exact q1)]
  rw [div64_eq (hi:=(P:Int) / 18446744073709551616) (lo:=(P:Int) % 18446744073709551616) (by omega) (by omega) (by omega) (by omega) (by omega) (by omega)]
  have eP:(P:Int) / 18446744073709551616 * 18446744073709551616 + (P:Int) % 18446744073709551616=(P:Int):=by omega
  rw [eP,Option.bind_some]
  dsimp only
  have eq:(P:Int) / (den:Int)=((P / den:Nat):Int):=rfl
  have er:(P:Int) % (den:Int)=((P % den:Nat):Int):=rfl
  rw [eq,er]
  by_cases q2:P % den=0
  ·rw [if_neg (by rw [qe_]; omega),if_pos q2]
   have hQ1:P / den < 18446744073709551616:=by
    rw [Nat.div_lt_iff_lt_mul (by omega)]
    omega
   obtain ⟨g1,_⟩:=stN_spec 6 (P / den)
   have g2:=stN_le 6 (P / den)
   rw [qi7_]
   have:=times_loop d (D:Int) a b 6 (P / den) 18446744073709551609 (by omega) hQ1
   refine Eq.trans this ?_
   exact times_K5 _ _ _ hd hn (by omega) g1
  ·rw [if_pos (by rw [qe_]; omega),if_neg q2]
   rfl
theorem times_eq {d:Int×Int} {sg:Bool} {n D num den:Nat} (hd:RtD d sg n D) (h1:1≤num∧num≤1000000000) (h2:1≤den∧den≤1000000000) :
  q38_ (d,(num:Int),(den:Int),())=some ((tmS sg (timesN (n * num) (den * 10 ^ D))).1,(tmS sg (timesN (n * num) (den * 10 ^ D))).2,()):=by
 rw [timesN_Q (by omega) hd.d6]
 show q3p_ q27_ d (num:Int) (den:Int)=_
 unfold q3p_
 rw [hd.right,Option.bind_some]
 dsimp only
 rw [if_neg (by decide),if_neg (by rw [q0_]; omega),if_neg (by rw [qb_]; omega),if_neg (by rw [q0_]; omega)]
 have:gt (den:Int) 1000000000=false:=by
  rw [gt_dec,decide_eq_false]; omega
 rw [this,hd.e2]
 exact times_K1 hd.e1 hd.nz hd.le hd.d6 h1 h2 _ _
theorem times_bad {d:Int×Int} {num den:Int} (h:qj_ (d,())=some (false,())∨(qj_ (d,())=some (true,())∧¬ (1≤num∧num≤1000000000∧1≤den∧den≤1000000000))) :
  q38_ (d,num,den,())=some ((0,0),false,()):=by
 show q3p_ q27_ d num den=_
 unfold q3p_
 rcases h with h | ⟨h,hb⟩
 ·rw [h,Option.bind_some]
  dsimp only
  rw [if_pos (by decide)]
  rfl
 ·rw [h,Option.bind_some]
  dsimp only
  rw [if_neg (by decide)]
  by_cases b1:num < 1
  ·rw [if_pos (q0_.2 b1)]; rfl
  rw [if_neg (fun e=>b1 (q0_.1 e))]
  by_cases b2:1000000000 < num
  ·rw [if_pos (qb_.2 b2)]; rfl
  rw [if_neg (fun e=>b2 (qb_.1 e))]
  by_cases b3:den < 1
  ·rw [if_pos (q0_.2 b3)]; rfl
  rw [if_neg (fun e=>b3 (q0_.1 e)),qb_.2 (show 1000000000 < den by omega)]
  rfl
end Go.Proofs.Lx
end
section
namespace Go.Proofs.Lx
open Go Ev Sx Pl
set_option maxRecDepth 100000
theorem quon {a b:Nat} (ha:a≤9223372036854775807):quo .i64 (a:Int) (b:Int)=((a / b:Nat):Int):=by
 have e:((a:Int)).tdiv (b:Int)=((a / b:Nat):Int):=rfl
 have h:=Nat.div_le_self a b
 unfold quo
 rw [e]
 generalize a / b=q at h ⊢
 exact w64 (by omega) (by omega)
theorem mulnn {a b:Nat} (h:a * b≤9223372036854775807):mul .i64 (a:Int) (b:Int)=((a * b:Nat):Int):=by
 rw [mul64 (by rw [<- Int.natCast_mul]; omega) (by rw [<- Int.natCast_mul]; omega)]
 simp
theorem common_loop:∀ (b N a:Nat),b≤N->loopF qda_ (N + 1) ((a:Int),(b:Int))=some (((Nat.gcd a b:Nat):Int),())
 | b,N,a,h=>by
  rw [q6_,qhj_]
  unfold q6u_
  by_cases hb:b=0
  ·subst hb
   rw [if_neg (by rw [qe_]; simp)]
   simp
  ·have hnb:nei (b:Int) 0=true:=by rw [qe_]; omega
   rw [if_pos hnb,qk_ hnb]
   have er:rem (a:Int) (b:Int)=((a % b:Nat):Int):=rfl
   rw [er]
   have hlt:=Nat.mod_lt a (Nat.pos_of_ne_zero hb)
   match N,h with
   | 0,h=>omega
   | N + 1,h =>
    have ih:=common_loop (a % b) N b (by omega)
    refine Eq.trans ih ?_
    rw [Nat.gcd_comm b,<- Nat.gcd_rec,Nat.gcd_comm]
termination_by b=>b
theorem common_eq {a b:Nat} (hb:b≤9223372036854775807):q3z_ ((a:Int),(b:Int),())=some (((Nat.gcd a b:Nat):Int),()) :=
 common_loop b 18446744073709551615 a (by omega)
theorem sgn_mod (sg:Bool) (v:Nat):rem (sgn sg v) 10=0 ↔ v % 10=0:=by
 unfold rem sgn
 cases sg with
 | true =>
  rw [if_pos rfl,Int.neg_tmod]
  show -((v % 10:Nat):Int)=0 ↔ _
  omega
 | false =>
  show ((v % 10:Nat):Int)=0 ↔ _
  omega
theorem sgn_div (sg:Bool) {v:Nat} (h:v≤9223372036854775807):quo .i64 (sgn sg v) 10=sgn sg (v / 10):=by
 unfold quo sgn
 cases sg with
 | true =>
  rw [if_pos rfl,if_pos rfl,Int.neg_tdiv]
  show IntKind.i64.wrap (-((v / 10:Nat):Int))=_
  exact w64 (by omega) (by omega)
 | false =>
  show IntKind.i64.wrap ((v / 10:Nat):Int)=((v / 10:Nat):Int)
  exact w64 (by omega) (by omega)
theorem of_K3 (sg:Bool) {k v:Nat} (hk:k≤6) (a b:Int):qel_ (sgn sg v) (k:Int) a b=some ((tmS sg (okN (k,v))).1,(tmS sg (okN (k,v))).2,()):=by
 unfold qel_ qie_ qig_ qih_ okN
 rw [if_neg (by rw [qb_]; omega)]
 dsimp only
 by_cases h:v≤1000000000000
 ·have b1:-1000000000000≤sgn sg v∧sgn sg v≤1000000000000:=by
   unfold sgn
   split <;> omega
  rw [if_neg (by rw [qb_]; omega),if_pos h,if_neg (by rw [q0_]; omega)]
  have:cvt .u8 (k:Int)=(k:Int):=wu8 (by omega) (by omega)
  rw [this]
  rfl
 ·rw [if_neg h]
  cases sg with
  | true =>
   have e:sgn true v=-(v:Int):=rfl
   rw [if_neg (by rw [qb_]; omega),if_pos (by rw [q0_]; omega)]
   rfl
  | false =>
   have e:sgn false v=(v:Int):=rfl
   rw [if_pos (by rw [qb_]; omega),if_pos rfl]
   rfl
theorem ofN_loop (sg:Bool) (a b:Int):∀ (k v N:Nat),k≤6->v≤9223372036854775807 ->
  loopF qfy_ (N + k + 1) (sgn sg v,(k:Int),a,b)=some ((tmS sg (okN (stN k v))).1,(tmS sg (okN (stN k v))).2,())
 | 0,v,N,_,_=>by
  rw [q6_,qev_]
  unfold q8l_
  rw [if_neg (by rw [qb_]; omega)]
  unfold q8i_ qei_
  rw [if_neg (by decide)]
  exact of_K3 sg (by omega) a b
 | k + 1,v,N,h6,hv=>by
  rw [q6_,qev_]
  unfold q8l_
  rw [if_pos (by rw [qb_]; omega)]
  unfold q8i_ qei_ stN
  by_cases hz:v % 10=0
  ·rw [if_pos (by rw [q9_]; exact (sgn_mod sg v).2 hz),if_pos hz,sgn_div sg hv]
   have e2:Sx.sub .i64 ((k + 1:Nat):Int) 1=(k:Int):=by
    rw [sub64 (by omega) (by omega)]
    omega
   rw [e2]
   exact ofN_loop sg a b k (v / 10) N (by omega) (by omega)
  ·rw [if_neg (by rw [q9_]; exact fun e=>hz ((sgn_mod sg v).1 e)),if_neg hz]
   exact of_K3 sg h6 a b
theorem ofN_eq (sg:Bool) {k v:Nat} (hk:k≤6) (hv:v≤9223372036854775807):qin_ (sgn sg v,(k:Int),())=some ((tmS sg (okN (stN k v))).1,(tmS sg (okN (stN k v))).2,()):=by
 have:=ofN_loop sg 0 0 k v (18446744073709551615 - k) hk hv
 rw [show 18446744073709551615 - k + k + 1=18446744073709551616 by omega] at this
 exact this
def sgI (sg:Bool):Int:=if sg then -1 else 1
theorem sgI_mul {sg:Bool} {v:Nat} (h:v≤9223372036854775807):mul .i64 (sgI sg) (v:Int)=sgn sg v:=by
 unfold sgI sgn
 cases sg with
 | true =>
  rw [if_pos rfl,if_pos rfl,mul64 (by omega) (by omega)]
  omega
 | false =>
  show mul .i64 1 (v:Int)=(v:Int)
  rw [mul64 (by omega) (by omega)]
  omega
theorem sgn_mul {sg:Bool} {v w:Nat} (h:v * w≤9223372036854775807):mul .i64 (sgn sg v) (w:Int)=sgn sg (v * w):=by
 unfold sgn
 cases sg with
 | true =>
  rw [if_pos rfl,if_pos rfl]
  have:-(v:Int) * (w:Int)=-((v * w:Nat):Int):=by rw [Int.neg_mul]; simp
  rw [mul64 (by rw [this]; omega) (by rw [this]; omega),this]
 | false =>
  show mul .i64 (v:Int) (w:Int)=((v * w:Nat):Int)
  exact mulnn h
theorem ten_loop (num den n sign d a b:Int) (D:Nat) (h6:D≤6):∀ (r i N:Nat),i + r=D ->
  loopF q9r_ (N + r + 1) (num,den,n,sign,((10 ^ i:Nat):Int),(i:Int),d,(D:Int),a,b)=q3m_ num den n sign ((10 ^ D:Nat):Int) a b
 | 0,i,N,h=>by
  rw [q6_,qcy_]
  unfold q63_
  rw [cvt64 (by omega) (by omega),if_neg (by rw [q0_]; omega)]
  rw [show i=D by omega]
 | r + 1,i,N,h=>by
  rw [q6_,qcy_]
  unfold q63_
  rw [cvt64 (by omega) (by omega),if_pos (by rw [q0_]; omega)]
  have hp:10 ^ i≤10 ^ 6:=Nat.pow_le_pow_right (by omega) (by omega)
  have e1:mul .i64 ((10 ^ i:Nat):Int) 10=((10 ^ (i + 1):Nat):Int):=by
   have:mul .i64 ((10 ^ i:Nat):Int) ((10:Nat):Int)=_:=mulnn (by omega)
   rw [Nat.pow_succ]
   exact this
  rw [e1,ql_ (by omega)]
  exact ten_loop num den n sign d a b D h6 r (i + 1) N (by omega)
theorem gcd10_pos {b:Nat}:0 < Nat.gcd b 10:=Nat.gcd_pos_of_pos_right _ (by decide)
theorem gcd10_le {b:Nat}:Nat.gcd b 10≤10:=Nat.gcd_le_right _ (by decide)
theorem refN_loop (sg:Bool) (num:Nat) (hnum:1≤num∧num≤1000000000) (a b:Int):∀ (f k nn below N:Nat),k + f=7->0 < below->below≤9000000000000000->nn≤4000000000000000000 ->
  loopF q9q_ (N + f + 1) ((num:Int),(nn:Int),sgI sg,(below:Int),(k:Int),a,b)=some ((tmS sg (refL num f k nn below)).1,(tmS sg (refL num f k nn below)).2,())
 | 0,k,nn,below,N,hk,_,_,_=>by
  rw [q6_,qd0_]
  unfold q5j_
  rw [if_neg (by rw [le_iff]; omega)]
  rfl
 | f + 1,k,nn,below,N,hk,hb0,hb1,hnn=>by
  rw [q6_,qd0_]
  unfold q5j_ refL
  rw [if_pos (by rw [le_iff]; omega)]
  by_cases h1:below=1
  ·rw [if_pos (by rw [q9_]; omega),if_pos h1,qk_ (by rw [qe_]; omega)]
   have e4:quo .i64 4000000000000000000 (num:Int)=((4000000000000000000 / num:Nat):Int):=quon (a:=4000000000000000000) (by omega)
   rw [e4]
   by_cases h2:4000000000000000000 / num < nn
   ·rw [if_pos (by rw [qb_]; omega),if_pos h2]
    rfl
   ·rw [if_neg (by rw [qb_]; omega),if_neg h2]
    have hm:nn * num≤4000000000000000000:=by
     have h3:nn≤4000000000000000000 / num:=by omega
     exact (Nat.le_div_iff_mul_le (by omega)).1 h3
    rw [sgI_mul (by omega),sgn_mul (by omega),ofN_eq sg (by omega) (by omega),Option.bind_some]
  ·rw [if_neg (by rw [q9_]; omega),if_neg h1]
   have ec:q3z_ ((below:Int),10,())=some (((Nat.gcd below 10:Nat):Int),()):=common_eq (b:=10) (by omega)
   rw [ec,Option.bind_some]
   dsimp only
   have hg:=gcd10_pos (b:=below)
   have hg10:=gcd10_le (b:=below)
   obtain ⟨d,hd⟩:=Nat.gcd_dvd_right below 10
   have hdd:10 / Nat.gcd below 10=d:=Nat.div_eq_of_eq_mul_right hg hd
   have hdp:0 < d:=by
    rcases Nat.eq_zero_or_pos d with e | e
    ·subst e; omega
    ·exact e
   have hdle:d≤10:=Nat.le_of_dvd (by omega) ⟨_,by rw [Nat.mul_comm]; exact hd⟩
   have ng:nei ((Nat.gcd below 10:Nat):Int) 0=true:=by rw [qe_]; omega
   have e10:quo .i64 10 ((Nat.gcd below 10:Nat):Int)=((10 / Nat.gcd below 10:Nat):Int):=quon (a:=10) (by omega)
   rw [qk_ ng,qk_ ng,e10,hdd,qk_ (by rw [qe_]; omega)]
   have e4:quo .i64 4000000000000000000 (d:Int)=((4000000000000000000 / d:Nat):Int):=quon (a:=4000000000000000000) (by omega)
   rw [e4]
   by_cases h2:4000000000000000000 / d < nn
   ·rw [if_pos (by rw [qb_]; omega),if_pos h2]
    rfl
   ·rw [if_neg (by rw [qb_]; omega),if_neg h2,qk_ ng]
    have hm:nn * d≤4000000000000000000:=by
     have h3:nn≤4000000000000000000 / d:=by omega
     exact (Nat.le_div_iff_mul_le (by omega)).1 h3
    rw [mulnn (by omega),quon (by omega),ql_ (by omega)]
    have hq1:0 < below / Nat.gcd below 10:=Nat.div_pos (Nat.le_of_dvd hb0 (Nat.gcd_dvd_left _ _)) hg
    have hq2:=Nat.div_le_self below (Nat.gcd below 10)
    exact refN_loop sg num hnum a b f (k + 1) (nn * d) (below / Nat.gcd below 10) N (by omega) hq1 (by omega) hm
theorem rtimes_K4 (sg:Bool) {num den n ten:Nat} (h1:1≤num∧num≤1000000000) (h2:1≤den∧den≤1000000000) (hn:1≤n∧n≤1000000000000) (ht:1≤ten∧ten≤1000000) (a b:Int) :
  q3m_ (num:Int) (den:Int) (n:Int) (sgI sg) (ten:Int) a b=some ((tmS sg (refL (num / Nat.gcd num ten) 7 0 (n / Nat.gcd n (ten / Nat.gcd num ten)) (den * (ten / Nat.gcd num ten / Nat.gcd n (ten / Nat.gcd num ten))))).1,(tmS sg (refL (num / Nat.gcd num ten) 7 0 (n / Nat.gcd n (ten / Nat.gcd num ten)) (den * (ten / Nat.gcd num ten / Nat.gcd n (ten / Nat.gcd num ten))))).2,()):=by
 have g1:0 < Nat.gcd num ten:=Nat.gcd_pos_of_pos_left _ (by omega)
 have l1:Nat.gcd num ten≤num:=Nat.gcd_le_left _ (by omega)
 have l2:Nat.gcd num ten≤ten:=Nat.gcd_le_right _ (by omega)
 have q1:0 < ten / Nat.gcd num ten:=Nat.div_pos l2 g1
 have q1':=Nat.div_le_self ten (Nat.gcd num ten)
 have r1:0 < num / Nat.gcd num ten:=Nat.div_pos l1 g1
 have r1':=Nat.div_le_self num (Nat.gcd num ten)
 unfold q3m_ qf8_
 rw [common_eq (by omega),Option.bind_some]
 dsimp only
 have ng:nei ((Nat.gcd num ten:Nat):Int) 0=true:=by rw [qe_]; omega
 rw [qk_ ng,qk_ ng,quon (by omega),quon (by omega)]
 generalize ten / Nat.gcd num ten=t at q1 q1' ⊢
 generalize num / Nat.gcd num ten=m at r1 r1' ⊢
 have g2:0 < Nat.gcd n t:=Nat.gcd_pos_of_pos_left _ (by omega)
 have k1:Nat.gcd n t≤n:=Nat.gcd_le_left _ (by omega)
 have k2:Nat.gcd n t≤t:=Nat.gcd_le_right _ (by omega)
 rw [common_eq (by omega),Option.bind_some]
 dsimp only
 have ng2:nei ((Nat.gcd n t:Nat):Int) 0=true:=by rw [qe_]; omega
 rw [qk_ ng2,qk_ ng2,quon (by omega),quon (by omega)]
 have q2:0 < t / Nat.gcd n t:=Nat.div_pos k2 g2
 have q2':=Nat.div_le_self t (Nat.gcd n t)
 have r2':=Nat.div_le_self n (Nat.gcd n t)
 generalize t / Nat.gcd n t=u at q2 q2' ⊢
 generalize n / Nat.gcd n t=v at r2' ⊢
 have hb:den * u≤1000000000 * 1000000:=Nat.mul_le_mul h2.2 (by omega)
 have hb0:0 < den * u:=Nat.mul_pos (by omega) q2
 rw [mulnn (by omega),qi6_]
 have:=refN_loop sg m ⟨by omega,by omega⟩ a b 7 0 v (den * u) 18446744073709551608 rfl hb0 (by omega) (by omega)
 exact this
theorem rtimes_eq {d:Int×Int} {sg:Bool} {n D num den:Nat} (hd:RtD d sg n D) (h1:1≤num∧num≤1000000000) (h2:1≤den∧den≤1000000000) :
  qcf_ (d,(num:Int),(den:Int),())=some ((tmS sg (timesN (n * num) (den * 10 ^ D))).1,(tmS sg (timesN (n * num) (den * 10 ^ D))).2,()):=by
 have hle:=hd.le
 have h6:=hd.d6
 have hr:q2j_ (d,())=some (true,()):=hd.right
 show q5m_ q7j_ d (num:Int) (den:Int)=_
 unfold q5m_
 rw [hr,Option.bind_some]
 dsimp only
 rw [if_neg (by decide),if_neg (by rw [q0_]; omega),if_neg (by rw [qb_]; omega),if_neg (by rw [q0_]; omega)]
 have:gt (den:Int) 1000000000=false:=by
  rw [gt_dec,decide_eq_false]; omega
 rw [this,hd.e2]
 unfold q7j_ qer_
 rw [if_neg (by decide)]
 have eK:(if lt d.1 0=true then q5b_ (num:Int) (den:Int) (neg .i64 d.1) (-1) d.1 (D:Int) 0 0 else q5b_ (num:Int) (den:Int) d.1 1 d.1 (D:Int) 0 0)=q5b_ (num:Int) (den:Int) (n:Int) (sgI sg) d.1 (D:Int) 0 0:=by
  have e1:=hd.e1
  cases sg with
  | true =>
   have:=hd.nz rfl
   have e:d.1=-(n:Int):=e1
   rw [if_pos (by rw [q0_]; omega),neg64 (by omega) (by omega)]
   have:-d.1=(n:Int):=by omega
   rw [this]
   rfl
  | false =>
   have e:d.1=(n:Int):=e1
   rw [if_neg (by rw [q0_]; omega),e]
   rfl
 refine Eq.trans eK ?_
 unfold q5b_ qeo_
 by_cases h0:n=0
 ·subst h0
  rw [if_pos (by rw [q9_]; rfl),Nat.zero_mul]
  have hs:sg=false:=by
   cases sg with
   | true=>exact absurd rfl (hd.nz rfl)
   | false=>rfl
  subst hs
  have:timesN 0 (den * 10 ^ D)=some (0,0):=by
   unfold timesN
   rw [Nat.zero_mul,Nat.zero_mod,if_pos rfl,Nat.zero_div]
   rfl
  rw [this]
  rfl
 ·rw [if_neg (by rw [q9_]; omega)]
  have hp:0 < 10 ^ D:=Nat.pow_pos (by omega)
  have hp':10 ^ D≤10 ^ 6:=Nat.pow_le_pow_right (by omega) h6
  rw [<- red_eq (by omega) (by omega) (by omega) hp]
  have g1:0 < Nat.gcd n den:=Nat.gcd_pos_of_pos_left _ (by omega)
  have l1:Nat.gcd n den≤n:=Nat.gcd_le_left _ (by omega)
  have l2:Nat.gcd n den≤den:=Nat.gcd_le_right _ (by omega)
  have ng:nei ((Nat.gcd n den:Nat):Int) 0=true:=by rw [qe_]; omega
  rw [common_eq (by omega),Option.bind_some]
  dsimp only
  rw [qk_ ng,qk_ ng,quon (by omega),quon (by omega)]
  have q1:0 < den / Nat.gcd n den:=Nat.div_pos l2 g1
  have q1':=Nat.div_le_self den (Nat.gcd n den)
  have r1:0 < n / Nat.gcd n den:=Nat.div_pos l1 g1
  have r1':=Nat.div_le_self n (Nat.gcd n den)
  generalize den / Nat.gcd n den=dn at q1 q1' ⊢
  generalize n / Nat.gcd n den=nn at r1 r1' ⊢
  have g2:0 < Nat.gcd num dn:=Nat.gcd_pos_of_pos_left _ (by omega)
  have k1:Nat.gcd num dn≤num:=Nat.gcd_le_left _ (by omega)
  have k2:Nat.gcd num dn≤dn:=Nat.gcd_le_right _ (by omega)
  have ng2:nei ((Nat.gcd num dn:Nat):Int) 0=true:=by rw [qe_]; omega
  rw [common_eq (by omega),Option.bind_some]
  dsimp only
  rw [qk_ ng2,qk_ ng2,quon (by omega),quon (by omega)]
  have q2:0 < dn / Nat.gcd num dn:=Nat.div_pos k2 g2
  have q2':=Nat.div_le_self dn (Nat.gcd num dn)
  have r2:0 < num / Nat.gcd num dn:=Nat.div_pos k1 g2
  have r2':=Nat.div_le_self num (Nat.gcd num dn)
  generalize dn / Nat.gcd num dn=dd2 at q2 q2' ⊢
  generalize num / Nat.gcd num dn=nm at r2 r2' ⊢
  rw [qi1_]
  have:=ten_loop (nm:Int) (dd2:Int) (nn:Int) (sgI sg) d.1 0 0 D h6 D 0 (18446744073709551615 - D) (by omega)
  rw [show 18446744073709551615 - D + D + 1=18446744073709551616 by omega] at this
  refine Eq.trans this ?_
  exact rtimes_K4 sg (by omega) (by omega) (by omega) (by omega) 0 0
theorem rtimes_bad {d:Int×Int} {num den:Int} (h:qj_ (d,())=some (false,())∨(qj_ (d,())=some (true,())∧¬ (1≤num∧num≤1000000000∧1≤den∧den≤1000000000))) :
  qcf_ (d,num,den,())=some ((0,0),false,()):=by
 show q5m_ q7j_ d num den=_
 unfold q5m_
 rcases h with h | ⟨h,hb⟩
 ·have h:q2j_ (d,())=some (false,()):=h
  rw [h,Option.bind_some]
  dsimp only
  rw [if_pos (by decide)]
  rfl
 ·have h:q2j_ (d,())=some (true,()):=h
  rw [h,Option.bind_some]
  dsimp only
  rw [if_neg (by decide)]
  by_cases b1:num < 1
  ·rw [if_pos (q0_.2 b1)]; rfl
  rw [if_neg (fun e=>b1 (q0_.1 e))]
  by_cases b2:1000000000 < num
  ·rw [if_pos (qb_.2 b2)]; rfl
  rw [if_neg (fun e=>b2 (qb_.1 e))]
  by_cases b3:den < 1
  ·rw [if_pos (q0_.2 b3)]; rfl
  rw [if_neg (fun e=>b3 (q0_.1 e)),qb_.2 (show 1000000000 < den by omega)]
  rfl
end Go.Proofs.Lx
end
section
namespace Go.Proofs.Lx
open Go Ev Sx Pl
set_option maxRecDepth 10000
end Go.Proofs.Lx
end
section
namespace Go.Proofs.Lx
open Go Ev Sx Pl
set_option maxRecDepth 10000
end Go.Proofs.Lx
end
section
namespace Go.Proofs.Lx
open Go Ev Sx Pl
set_option maxRecDepth 100000
theorem pow6 {D n:Nat} (hle:n≤1000000000000):n * 10 ^ (6 - D)≤1000000000000000000:=by
 have hpow:10 ^ (6 - D)≤10 ^ 6:=Nat.pow_le_pow_right (by omega) (by omega)
 have:n * 10 ^ (6 - D)≤1000000000000 * 10 ^ 6:=Nat.mul_le_mul hle hpow
 omega
def cmI (x y:Int):Int:=if lt x y then -1 else if gt x y then 1 else 0
theorem ucmp_eq {a b:Int×Int} {s1 s2:Bool} {n1 n2 D1 D2:Nat} (ha:RtD a s1 n1 D1) (hb:RtD b s2 n2 D2) :
  q2o_ (a,b,())=some (cmI (sgn s1 (n1 * 10 ^ (6 - D1))) (sgn s2 (n2 * 10 ^ (6 - D2))),()):=by
 have h1:=ha.d6
 have h2:=hb.d6
 have e1:a.1=sgn s1 n1:=ha.e1
 have e2:b.1=sgn s2 n2:=hb.e1
 have l1:=pow6 (D:=D1) ha.le
 have l2:=pow6 (D:=D2) hb.le
 show qac_ q9z_ a b=_
 unfold qac_
 rw [ha.right,Option.bind_some]
 dsimp only
 rw [if_neg (by decide),hb.right,Option.bind_some]
 dsimp only
 unfold q9z_ qdr_ cmI
 rw [if_neg (by decide),ha.e2,hb.e2,cvt64 (by omega) (by omega),cvt64 (by omega) (by omega)]
 have q1:Sx.sub .i64 6 (D1:Int)=((6 - D1:Nat):Int):=by
  rw [sub64 (by omega) (by omega)]
  omega
 have q2:Sx.sub .i64 6 (D2:Int)=((6 - D2:Nat):Int):=by
  rw [sub64 (by omega) (by omega)]
  omega
 rw [q1,q2,power_eq (by omega),Option.bind_some,power_eq (by omega),Option.bind_some]
 dsimp only
 rw [e1,e2,sgn_mul (by omega),sgn_mul (by omega)]
 split
 ·rfl
 ·split <;> rfl
end Go.Proofs.Lx
end
section
namespace Go.Proofs.Lx
open Go Ev Sx Pl
set_option maxRecDepth 100000
def knS (name:List UInt8):Option (List UInt8×Int×Int) :=
 if eqs [] name=true then some ([],1,1) else if eqs [37] name=true then some ([],1,1) else if eqs [109] name=true then some ([109],1,1) else if eqs [99,109] name=true then some ([109],1,100) else if eqs [109,109] name=true then some ([109],1,1000) else if eqs [115] name=true then some ([115],1,1) else if eqs [109,115] name=true then some ([115],1,1000) else if eqs [109,105,110] name=true then some ([115],60,1) else if eqs [104] name=true then some ([115],3600,1) else if eqs [98,97,114] name=true then some ([98,97,114],1,1) else if eqs [109,98,97,114] name=true then some ([98,97,114],1,1000) else if eqs [107,80,97] name=true then some ([98,97,114],1,100) else if eqs [107,103] name=true then some ([107,103],1,1) else if eqs [103] name=true then some ([107,103],1,1000) else if eqs [116] name=true then some ([107,103],1000,1) else if eqs [108] name=true then some ([108],1,1) else if eqs [109,108] name=true then some ([108],1,1000) else if eqs [67] name=true then some ([67],1,1) else none
theorem uknown_eq (x:List UInt8):q8j_ (x,())=some ((knS x).getD ([],0,0),(knS x).isSome,()):=rfl
theorem eqs_f {a b:List UInt8} (h:¬ a=b):eqs a b=false:=by
 cases e:eqs a b with
 | true=>exact absurd (eqs_iff.1 e) h
 | false=>rfl
theorem known_same (x:List UInt8):qce_ (x,())=q8j_ (x,()):=by
 by_cases h:x=[]; ·subst h; kernel_rfl
 by_cases h1:x=[37]; ·subst h1; kernel_rfl
 by_cases h2:x=[109]; ·subst h2; kernel_rfl
 by_cases h3:x=[99,109]; ·subst h3; kernel_rfl
 by_cases h4:x=[109,109]; ·subst h4; kernel_rfl
 by_cases h5:x=[115]; ·subst h5; kernel_rfl
 by_cases h6:x=[109,115]; ·subst h6; kernel_rfl
 by_cases h7:x=[109,105,110]; ·subst h7; kernel_rfl
 by_cases h8:x=[104]; ·subst h8; kernel_rfl
 by_cases h9:x=[98,97,114]; ·subst h9; kernel_rfl
 by_cases h10:x=[109,98,97,114]; ·subst h10; kernel_rfl
 by_cases h11:x=[107,80,97]; ·subst h11; kernel_rfl
 by_cases h12:x=[107,103]; ·subst h12; kernel_rfl
 by_cases h13:x=[103]; ·subst h13; kernel_rfl
 by_cases h14:x=[116]; ·subst h14; kernel_rfl
 by_cases h15:x=[108]; ·subst h15; kernel_rfl
 by_cases h16:x=[109,108]; ·subst h16; kernel_rfl
 by_cases h17:x=[67]; ·subst h17; kernel_rfl
 rw [uknown_eq]
 show qbw_ qba_ x=_
 unfold qbw_ qba_ qf4_ qex_ qep_ knS
 rw [eqs_f h,eqs_f h1,eqs_f h2,eqs_f h3,eqs_f h4,eqs_f h5,eqs_f h6,eqs_f h7,eqs_f h8,eqs_f h9,eqs_f h10,eqs_f h11,eqs_f h12,eqs_f h13,eqs_f h14,eqs_f h15,eqs_f h16,eqs_f h17]
 rw [eqs_f (Ne.symm h),eqs_f (Ne.symm h1),eqs_f (Ne.symm h2),eqs_f (Ne.symm h3),eqs_f (Ne.symm h4),eqs_f (Ne.symm h5),eqs_f (Ne.symm h6),eqs_f (Ne.symm h7),eqs_f (Ne.symm h8),eqs_f (Ne.symm h9),eqs_f (Ne.symm h10),eqs_f (Ne.symm h11),eqs_f (Ne.symm h12),eqs_f (Ne.symm h13),eqs_f (Ne.symm h14),eqs_f (Ne.symm h15),eqs_f (Ne.symm h16),eqs_f (Ne.symm h17)]
 rfl
def rgt (d:Int×Int):Bool:=decide (-1000000000000≤d.1∧d.1≤1000000000000∧d.2≤6∧(d.2=0∨d.1.tmod 10 ≠ 0))
theorem right_eq (d:Int×Int):qj_ (d,())=some (rgt d,()):=by
 obtain ⟨x,y⟩:=d
 show q5d_ (x,y)=_
 unfold q5d_ rgt
 dsimp only
 by_cases h1:-1000000000000≤x
 ·rw [if_pos (ge_iff.2 h1)]
  by_cases h2:x≤1000000000000
  ·rw [if_pos (le_iff.2 h2)]
   by_cases h3:y≤6
   ·rw [if_pos (le_iff.2 h3)]
    by_cases h4:y=0
    ·rw [if_pos (q9_.2 h4),decide_eq_true ⟨h1,h2,h3,Or.inl h4⟩]
    ·rw [if_neg (fun e=>h4 (q9_.1 e))]
     by_cases h5:x.tmod 10=0
     ·have e:nei (rem x 10) 0=false:=by
       cases q:nei (rem x 10) 0 with
       | true=>exact absurd h5 (qe_.1 q)
       | false=>rfl
      rw [e,decide_eq_false]
      rintro ⟨_,_,_,h | h⟩
      ·exact h4 h
      ·exact h h5
     ·rw [qe_.2 (show rem x 10 ≠ 0 from h5),decide_eq_true ⟨h1,h2,h3,Or.inr h5⟩]
   ·rw [if_neg (fun e=>h3 (le_iff.1 e)),decide_eq_false (fun h=>h3 h.2.2.1)]
  ·rw [if_neg (fun e=>h2 (le_iff.1 e)),decide_eq_false (fun h=>h2 h.2.1)]
 ·rw [if_neg (fun e=>h1 (ge_iff.1 e)),decide_eq_false (fun h=>h1 h.1)]
theorem rright_eq (d:Int×Int):q2j_ (d,())=some (rgt d,()):=right_eq d
theorem rgt_rt {d:Int×Int} (h:rgt d=true) (h0:0≤d.2):∃ sg n D,RtD d sg n D:=by
 obtain ⟨x,y⟩:=d
 obtain ⟨h1,h2,h3,h4⟩:=of_decide_eq_true h
 have h0:0≤y:=h0
 have h3:y≤6:=h3
 obtain ⟨sg,n,hr⟩:=rtd_of (D:=y.toNat) ⟨h1,h2⟩ (by omega) (fun e=>by
  rcases h4 with h4 | h4
  ·have h4:y=0:=h4
   omega
  ·exact h4)
 rw [Int.toNat_of_nonneg h0] at hr
 exact ⟨sg,n,_,hr⟩
theorem times_same {d:Int×Int} (h0:0≤d.2) (num den:Int):∃ r:(Int×Int)×Bool,q38_ (d,num,den,())=some (r.1,r.2,())∧qcf_ (d,num,den,())=some (r.1,r.2,()):=by
 have hr:=right_eq d
 cases hg:rgt d with
 | false =>
  rw [hg] at hr
  exact ⟨((0,0),false),times_bad (.inl hr),rtimes_bad (.inl hr)⟩
 | true =>
  rw [hg] at hr
  by_cases hb:1≤num∧num≤1000000000∧1≤den∧den≤1000000000
  ·obtain ⟨sg,n,D,hd⟩:=rgt_rt hg h0
   have e1:num=(num.toNat:Int):=by omega
   have e2:den=(den.toNat:Int):=by omega
   rw [e1,e2]
   exact ⟨_,times_eq hd (by omega) (by omega),rtimes_eq hd (by omega) (by omega)⟩
  ·exact ⟨((0,0),false),times_bad (.inr ⟨hr,hb⟩),rtimes_bad (.inr ⟨hr,hb⟩)⟩
theorem to_end {d:Int×Int} (h0:0≤d.2) (t:Bool) (a b:Int) (x y:List UInt8×Int×Int) :
  ∃ r:(Int×Int)×Bool,q1d_ t d.1 d.2 a b x.1 x.2.1 x.2.2 y.1 y.2.1 y.2.2=some (r.1,r.2,())∧q50_ t d.1 d.2 a b x.1 x.2.1 x.2.2 y.1 y.2.1 y.2.2=some (r.1,r.2,()):=by
 unfold q1d_ qci_ q50_ qif_
 cases t with
 | true=>exact ⟨((0,0),false),rfl,rfl⟩
 | false =>
  rw [if_neg (by decide),if_neg (by decide)]
  obtain ⟨r,h1,h2⟩:=times_same (d:=(d.1,d.2)) h0 (mul .i64 x.2.1 y.2.2) (mul .i64 x.2.2 y.2.1)
  rw [h1,h2]
  exact ⟨r,rfl,rfl⟩
theorem to_same {d:Int×Int} (h0:0≤d.2) (f t:List UInt8):∃ r:(Int×Int)×Bool,q2a_ (d,f,t,())=some (r.1,r.2,())∧qik_ (d,f,t,())=some (r.1,r.2,()):=by
 have e1:q2a_ (d,f,t,())=(if (!(knS f).isSome)=true then q1d_ true d.1 d.2 0 0 ((knS f).getD ([],0,0)).1 ((knS f).getD ([],0,0)).2.1 ((knS f).getD ([],0,0)).2.2 ((knS t).getD ([],0,0)).1 ((knS t).getD ([],0,0)).2.1 ((knS t).getD ([],0,0)).2.2 else if (!(knS t).isSome)=true then q1d_ true d.1 d.2 0 0 ((knS f).getD ([],0,0)).1 ((knS f).getD ([],0,0)).2.1 ((knS f).getD ([],0,0)).2.2 ((knS t).getD ([],0,0)).1 ((knS t).getD ([],0,0)).2.1 ((knS t).getD ([],0,0)).2.2 else q1d_ (nes ((knS f).getD ([],0,0)).1 ((knS t).getD ([],0,0)).1) d.1 d.2 0 0 ((knS f).getD ([],0,0)).1 ((knS f).getD ([],0,0)).2.1 ((knS f).getD ([],0,0)).2.2 ((knS t).getD ([],0,0)).1 ((knS t).getD ([],0,0)).2.1 ((knS t).getD ([],0,0)).2.2):=rfl
 have e2:qik_ (d,f,t,())=(if (!(knS f).isSome)=true then q50_ true d.1 d.2 0 0 ((knS f).getD ([],0,0)).1 ((knS f).getD ([],0,0)).2.1 ((knS f).getD ([],0,0)).2.2 ((knS t).getD ([],0,0)).1 ((knS t).getD ([],0,0)).2.1 ((knS t).getD ([],0,0)).2.2 else if (!(knS t).isSome)=true then q50_ true d.1 d.2 0 0 ((knS f).getD ([],0,0)).1 ((knS f).getD ([],0,0)).2.1 ((knS f).getD ([],0,0)).2.2 ((knS t).getD ([],0,0)).1 ((knS t).getD ([],0,0)).2.1 ((knS t).getD ([],0,0)).2.2 else q50_ (nes ((knS f).getD ([],0,0)).1 ((knS t).getD ([],0,0)).1) d.1 d.2 0 0 ((knS f).getD ([],0,0)).1 ((knS f).getD ([],0,0)).2.1 ((knS f).getD ([],0,0)).2.2 ((knS t).getD ([],0,0)).1 ((knS t).getD ([],0,0)).2.1 ((knS t).getD ([],0,0)).2.2):=by
  show qek_ q50_ d f t=_
  unfold qek_
  rw [known_same f,known_same t,uknown_eq f,uknown_eq t,Option.bind_some,Option.bind_some]
 rw [e1,e2]
 generalize (knS f).getD ([],0,0)=x
 generalize (knS t).getD ([],0,0)=y
 split
 ·exact to_end h0 _ _ _ x y
 ·split
  ·exact to_end h0 _ _ _ x y
  ·exact to_end h0 _ _ _ x y
end Go.Proofs.Lx
end
section
namespace Go.Proofs.Lx
open Go Ev Sx Pl
set_option maxRecDepth 100000
theorem u16w (x:Int):IntKind.u16.wrap x=x % 65536:=by
 simp only [IntKind.wrap,IntKind.signed,IntKind.bits]
 simp
def wdSg (signed:Bool) (X:Int):Int×Bool:=if signed then (if -32768≤X∧X≤32767 then (X % 65536,true) else (0,false)) else if 0≤X∧X≤65535 then (X,true) else (0,false)
theorem uword_K2 (signed:Bool) (X:Int) (t:Bool) (ht:t=true ↔ (X < -32768∨65536≤X)):q8z_ signed X t=some ((wdSg signed X).1,(wdSg signed X).2,()):=by
 unfold q8z_ qcm_ wdSg
 by_cases h:t=true
 ·have hX:=ht.1 h
  rw [if_pos h]
  cases signed with
  | true=>rw [if_pos rfl,if_neg (by omega)]
  | false=>rw [if_neg (show ¬ (false=true) by decide),if_neg (by omega)]
 ·have hX:¬ (X < -32768∨65536≤X):=fun e=>h (ht.2 e)
  rw [if_neg h]
  cases signed with
  | true =>
   rw [if_pos (show (true=true) from rfl),if_pos (show (true=true) from rfl)]
   show Option.bind (q8q_ q8n_ X) _=_
   unfold q8q_ q8n_ qcs_
   rw [if_neg (by rw [q0_]; omega)]
   by_cases h2:X≤32767
   ·rw [if_neg (by rw [ge_iff]; omega),if_pos ⟨by omega,h2⟩]
    show some (IntKind.u16.wrap X,true,())=_
    rw [u16w]
   ·rw [if_pos (by rw [ge_iff]; omega),if_neg (by omega)]
    rfl
  | false =>
   rw [if_neg (show ¬ (false=true) by decide),if_neg (show ¬ (false=true) by decide)]
   by_cases h2:X < 0
   ·rw [if_pos (q0_.2 h2),if_neg (by omega)]
   ·rw [if_neg (fun e=>h2 (q0_.1 e)),if_pos ⟨by omega,by omega⟩]
    show some (IntKind.u16.wrap X,true,())=_
    rw [u16w,Int.emod_eq_of_lt (by omega) (by omega)]
theorem rword_K3 (signed:Bool) {X:Int} (hX:-1000000000000000000≤X∧X≤1000000000000000000):q4e_ signed X=some ((wdSg signed X).1,(wdSg signed X).2,()):=by
 have k5:∀ Y:Int,q98_ Y=if 0≤Y∧Y≤65535 then some (Y,true,()) else some (0,false,()):=by
  intro Y
  unfold q98_ qg3_ qg8_ qg9_
  by_cases h:Y < 0
  ·rw [if_pos (q0_.2 h),if_pos (show (true=true) from rfl),if_neg (by omega)]
  ·rw [if_neg (fun e=>h (q0_.1 e))]
   by_cases h2:65535 < Y
   ·rw [if_pos (qb_.2 h2),if_neg (by omega)]
   ·rw [if_neg (fun e=>h2 (qb_.1 e)),if_pos ⟨by omega,by omega⟩]
    show some (IntKind.u16.wrap Y,true,())=_
    rw [u16w,Int.emod_eq_of_lt (by omega) (by omega)]
 unfold q4e_ qfw_ wdSg
 cases signed with
 | false =>
  rw [if_neg (show ¬ (false=true) by decide),if_neg (show ¬ (false=true) by decide),k5]
  split <;> rfl
 | true =>
  rw [if_pos (show (true=true) from rfl),if_pos (show (true=true) from rfl)]
  unfold qg7_ qg5_
  by_cases h:X < -32768
  ·rw [if_pos (q0_.2 h),if_pos (show (true=true) from rfl),if_neg (by omega)]
  ·rw [if_neg (fun e=>h (q0_.1 e))]
   by_cases h2:32767 < X
   ·rw [if_pos (qb_.2 h2),if_neg (by omega)]
   ·rw [if_neg (fun e=>h2 (qb_.1 e)),if_pos (show -32768≤X∧X≤32767 from ⟨by omega,by omega⟩)]
    by_cases h3:X < 0
    ·rw [if_pos (q0_.2 h3),add64 (by omega) (by omega),k5,if_pos ⟨by omega,by omega⟩]
     have:X % 65536=X + 65536:=by omega
     rw [this]
    ·rw [if_neg (fun e=>h3 (q0_.1 e)),k5,if_pos ⟨by omega,by omega⟩]
     have:X % 65536=X:=by omega
     rw [this]
theorem rword_loop (sg signed:Bool) (g:Nat) (hg:g≤6):∀ (r i v N:Nat),i + r=g->v * 10 ^ r≤1000000000000000000 ->
  loopF qad_ (N + r + 1) ((g:Int),signed,sgn sg v,(i:Int))=q4e_ signed (sgn sg (v * 10 ^ r))
 | 0,i,v,N,h,hv=>by
  rw [q6_,qdh_]
  unfold q6d_
  rw [if_neg (by rw [q0_]; omega),Nat.pow_zero,Nat.mul_one]
 | r + 1,i,v,N,h,hv=>by
  rw [q6_,qdh_]
  unfold q6d_
  have hp:0 < 10 ^ r:=Nat.pow_pos (by omega)
  have e:v * 10 ^ (r + 1)=v * 10 * 10 ^ r:=by rw [Nat.pow_succ]; ac_rfl
  rw [e] at hv ⊢
  have hv10:v * 10≤1000000000000000000:=Nat.le_trans (Nat.le_mul_of_pos_right _ hp) hv
  rw [if_pos (by rw [q0_]; omega),ql_ (by omega)]
  have:mul .i64 (sgn sg v) 10=sgn sg (v * 10):=sgn_mul (w:=10) (by omega)
  rw [this]
  exact rword_loop sg signed g hg r (i + 1) (v * 10) N (by omega) hv
theorem sgn_b {sg:Bool} {v:Nat} (h:v≤1000000000000000000):-1000000000000000000≤sgn sg v∧sgn sg v≤1000000000000000000:=by
 unfold sgn
 split <;> omega
theorem word_same {d:Int×Int} (h0:0≤d.2) (digits:Int) (signed:Bool):∃ r:Int×Bool,q2k_ (d,digits,signed,())=some (r.1,r.2,())∧qfl_ (d,digits,signed,())=some (r.1,r.2,()):=by
 have e1:q2k_ (d,digits,signed,())=q4h_ q1l_ d digits signed:=rfl
 have e2:qfl_ (d,digits,signed,())=qcu_ q9m_ d digits signed:=rfl
 have bad1:q1l_ digits signed true d=some (0,false,()):=rfl
 have bad2:q9m_ digits signed true d=some (0,false,()):=rfl
 rw [e1,e2]
 unfold q4h_ qcu_
 rw [right_eq,rright_eq,Option.bind_some,Option.bind_some]
 dsimp only
 cases hg:rgt d with
 | false=>exact ⟨(0,false),by rw [if_pos (show ((!false)=true) from rfl),bad1],by rw [if_pos (show ((!false)=true) from rfl),bad2]⟩
 | true =>
  obtain ⟨sg,n,D,hd⟩:=rgt_rt hg h0
  have hD:=hd.d6
  rw [if_neg (show ¬ ((!true)=true) by decide),if_neg (show ¬ ((!true)=true) by decide),hd.e2,cvt64 (by omega) (by omega)]
  by_cases q:(D:Int)≤digits∧digits≤6
  ·obtain ⟨g,rfl⟩:∃ g:Nat,digits=(g:Int):=⟨digits.toNat,by omega⟩
   have hX:n * 10 ^ (g - D)≤1000000000000000000:=by
    have hpow:10 ^ (g - D)≤10 ^ 6:=Nat.pow_le_pow_right (by omega) (by omega)
    have:=Nat.mul_le_mul hd.le hpow
    omega
   have hb:=sgn_b (sg:=sg) hX
   refine ⟨wdSg signed (sgn sg (n * 10 ^ (g - D))),?_,?_⟩
   ·rw [if_neg (by rw [q0_]; omega)]
    have:gt (g:Int) 6=false:=by rw [gt_dec,decide_eq_false]; omega
    rw [this]
    unfold q1l_ q8o_
    rw [if_neg (show ¬ (false=true) by decide),hd.e2,cvt64 (by omega) (by omega)]
    have e3:Sx.sub .i64 (g:Int) (D:Int)=((g - D:Nat):Int):=by
     rw [sub64 (by omega) (by omega)]
     omega
    have e4:d.1=sgn sg n:=hd.e1
    rw [e3,power_eq (by omega),Option.bind_some]
    dsimp only
    rw [e4,sgn_mul (by omega)]
    generalize sgn sg (n * 10 ^ (g - D))=X at hb ⊢
    by_cases h1:X < -32768
    ·rw [if_pos (q0_.2 h1)]
     exact uword_K2 signed X true (by simp [h1])
    ·rw [if_neg (fun e=>h1 (q0_.1 e))]
     refine uword_K2 signed X _ ?_
     rw [ge_iff]
     omega
   ·rw [if_neg (by rw [q0_]; omega),if_neg (by rw [qb_]; omega)]
    have:gt (D:Int) (g:Int)=false:=by rw [gt_dec,decide_eq_false]; omega
    rw [this]
    unfold q9m_ qg0_
    rw [if_neg (show ¬ (false=true) by decide),hd.e2,cvt64 (by omega) (by omega)]
    have e4:d.1=sgn sg n:=hd.e1
    rw [e4,qil_]
    have:=rword_loop sg signed g (by omega) (g - D) D n (18446744073709551615 - (g - D)) (by omega) hX
    rw [show 18446744073709551615 - (g - D) + (g - D) + 1=18446744073709551616 by omega] at this
    refine Eq.trans this ?_
    exact rword_K3 signed hb
  ·refine ⟨(0,false),?_,?_⟩
   ·by_cases h1:digits < (D:Int)
    ·rw [if_pos (q0_.2 h1)]
     exact bad1
    ·rw [if_neg (fun e=>h1 (q0_.1 e)),qb_.2 (show 6 < digits by omega)]
     exact bad1
   ·by_cases h1:digits < 0
    ·rw [if_pos (q0_.2 h1)]
     exact bad2
    ·rw [if_neg (fun e=>h1 (q0_.1 e))]
     by_cases h2:6 < digits
     ·rw [if_pos (qb_.2 h2)]
      exact bad2
     ·rw [if_neg (fun e=>h2 (qb_.1 e)),qb_.2 (show digits < (D:Int) by omega)]
      exact bad2
theorem uworth_loop (sg:Bool) (t:Int×Int):∀ (k v N:Nat),k≤6->v≤1000000000000 ->
  loopF q9s_ (N + k + 1) ((k:Int),sgn sg v,t)=some ((sgn sg (stN k v).2,((stN k v).1:Int)),true,())
 | 0,v,N,_,_=>by
  rw [q6_,qd6_]
  unfold q39_
  rw [if_neg (by rw [qb_]; omega)]
  rfl
 | k + 1,v,N,h6,hv=>by
  rw [q6_,qd6_]
  unfold q39_
  rw [if_pos (by rw [qb_]; omega)]
  unfold q59_ qc6_ stN
  by_cases hz:v % 10=0
  ·rw [if_pos (by rw [q9_]; exact (sgn_mod sg v).2 hz),if_pos hz,sgn_div sg (by omega)]
   have e2:Sx.sub .i64 ((k + 1:Nat):Int) 1=(k:Int):=by
    rw [sub64 (by omega) (by omega)]
    omega
   rw [e2]
   exact uworth_loop sg t k (v / 10) N (by omega) (by omega)
  ·rw [if_neg (by rw [q9_]; exact fun e=>hz ((sgn_mod sg v).1 e)),if_neg hz]
   unfold qbb_ qbv_
   have:cvt .u8 ((k + 1:Nat):Int)=((k + 1:Nat):Int):=wu8 (by omega) (by omega)
   rw [this]
theorem uworth_K3 (sg:Bool) {k v:Nat} (hk:k≤6) (hv:v≤1000000000000) (t:Int×Int):q3e_ (k:Int) (sgn sg v) t=some ((tmS sg (okN (stN k v))).1,(tmS sg (okN (stN k v))).2,()):=by
 have h:=uworth_loop sg t k v (18446744073709551615 - k) hk hv
 rw [show 18446744073709551615 - k + k + 1=18446744073709551616 by omega] at h
 rw [qi4_]
 refine Eq.trans h ?_
 have hl:=stN_le k v
 unfold okN
 rw [if_pos (by omega)]
 rfl
def wval (signed:Bool) (w:Int):Int:=if signed then (if 32768≤w then w - 65536 else w) else w
theorem i16w (x:Int) (h:0≤x∧x≤65535):IntKind.i16.wrap x=if 32768≤x then x - 65536 else x:=by
 show (if (true && decide (x % 65536 ≥ 32768))=true then x % 65536 - 65536 else x % 65536)=_
 have e:x % 65536=x:=by omega
 rw [e]
 by_cases q:32768≤x
 ·rw [if_pos q,if_pos (by simp; omega)]
 ·rw [if_neg q,if_neg (by simp; omega)]
theorem wval_b {signed:Bool} {w:Int} (h:0≤w∧w≤65535):-65536≤wval signed w∧wval signed w≤65535:=by
 unfold wval
 split
 ·split <;> omega
 ·omega
end Go.Proofs.Lx
end
section
namespace Pl
open Go Ev Sx
theorem loop_idx {σ R α β:Type} {F:(σ->Option R)->σ->Option R} {mk:Nat->β->σ} {xs:List α} {stp:β->α->β} {fin:β->Option R} (Inv:Nat->β->Prop)
  (hs:∀ self i acc x,xs[i]? = some x->Inv i acc->F self (mk i acc)=self (mk (i + 1) (stp acc x)))
  (hi:∀ i acc x,xs[i]? = some x->Inv i acc->Inv (i + 1) (stp acc x))
  (he:∀ self acc,Inv xs.length acc->F self (mk xs.length acc)=fin acc) :
  ∀ (k i:Nat) (acc:β) (n:Nat),i + k=xs.length->k < n->Inv i acc->loopF F n (mk i acc)=fin ((xs.drop i).foldl stp acc)
 | _,_,_,0,_,hn,_=>by omega
 | 0,i,acc,n + 1,h,_,hI=>by
  have:i=xs.length:=by omega
  subst this
  rw [q6_,he _ _ hI,List.drop_length]
  rfl
 | k + 1,i,acc,n + 1,h,hn,hI=>by
  have hx:xs[i]? = some (xs[i]'(by omega)):=List.getElem?_eq_getElem (by omega)
  rw [q6_,hs _ _ _ _ hx hI,loop_idx Inv hs hi he k (i + 1) _ n (by omega) (by omega) (hi _ _ _ hx hI),List.drop_eq_getElem_cons (show i < xs.length by omega)]
  rfl
def goL {α β R:Type} (body:β->α->(β->Option R)->Option R) (fin:β->Option R):List α->β->Option R
 | [],acc=>fin acc
 | x::r,acc=>body acc x (goL body fin r)
theorem loop_go {σ R α β:Type} {F:(σ->Option R)->σ->Option R} {mk:Nat->β->σ} {xs:List α} {body:β->α->(β->Option R)->Option R} {fin:β->Option R}
  (hs:∀ self i acc x,xs[i]? = some x->F self (mk i acc)=body acc x fun a=>self (mk (i + 1) a))
  (he:∀ self acc,F self (mk xs.length acc)=fin acc) :
  ∀ (k i:Nat) (acc:β) (n:Nat),i + k=xs.length->k < n->loopF F n (mk i acc)=goL body fin (xs.drop i) acc
 | _,_,_,0,_,hn=>by omega
 | 0,i,acc,n + 1,h,_=>by
  have:i=xs.length:=by omega
  subst this
  rw [q6_,he,List.drop_length]
  rfl
 | k + 1,i,acc,n + 1,h,hn=>by
  have hx:xs[i]? = some (xs[i]'(by omega)):=List.getElem?_eq_getElem (by omega)
  rw [q6_,hs _ _ _ _ hx,List.drop_eq_getElem_cons (show i < xs.length by omega)]
  show _=body acc _ (goL body fin (xs.drop (i + 1)))
  congr 1
  funext a
  exact loop_go hs he k (i + 1) a n (by omega) (by omega)
end Pl
end
section
namespace Pl
open Go Ev Sx
def goI {α β R:Type} (body:Nat->β->α->(β->Option R)->Option R) (fin:β->Option R):Nat->List α->β->Option R
 | _,[],acc=>fin acc
 | i,x::r,acc=>body i acc x (goI body fin (i + 1) r)
theorem loop_goi {σ R α β:Type} {F:(σ->Option R)->σ->Option R} {mk:Nat->β->σ} {xs:List α} {body:Nat->β->α->(β->Option R)->Option R} {fin:β->Option R}
  (hs:∀ self i acc x,xs[i]? = some x->F self (mk i acc)=body i acc x fun a=>self (mk (i + 1) a))
  (he:∀ self acc,F self (mk xs.length acc)=fin acc) :
  ∀ (k i:Nat) (acc:β) (n:Nat),i + k=xs.length->k < n->loopF F n (mk i acc)=goI body fin i (xs.drop i) acc
 | _,_,_,0,_,hn=>by omega
 | 0,i,acc,n + 1,h,_=>by
  have:i=xs.length:=by omega
  subst this
  rw [q6_,he,List.drop_length]
  rfl
 | k + 1,i,acc,n + 1,h,hn=>by
  have hx:xs[i]? = some (xs[i]'(by omega)):=List.getElem?_eq_getElem (by omega)
  rw [q6_,hs _ _ _ _ hx,List.drop_eq_getElem_cons (show i < xs.length by omega)]
  show _=body i acc _ (goI body fin (i + 1) (xs.drop (i + 1)))
  congr 1
  funext a
  exact loop_goi hs he k (i + 1) a n (by omega) (by omega)
end Pl
end
section
set_option maxRecDepth 100000
namespace Go.Proofs.Lx
open Go Ev Sx Pl
def isL (n:Nat):Bool:=(decide (97≤n) && decide (n≤122)) || (decide (65≤n) && decide (n≤90))
def w1 (n:Nat):Bool:=isL n || n == 37
def e1 (n:Nat):Bool:=n == 61
def wm (n:Nat):Bool:=isL n || isD n || n == 95 || n == 37
theorem tab {f:Int×Unit->Option (Bool×Unit)} {g:Nat->Bool} (h:((List.range 256).all fun n=>match f (Int.ofNat n,()) with
  | some y=>y.1 == g n
  | none=>false)=true) (c:UInt8):f (Int.ofNat c.toNat,())=some (g c.toNat,()):=by
 have:=all8 h c
 split at this
 ·rename_i y hy
  rw [hy]
  have:y.1=g c.toNat:=by simpa using this
  rw [<- this]
 ·cases this
def lowN (n:Nat):Bool:=decide (97≤n) && decide (n≤122)
def namN (n:Nat):Bool:=lowN n || isD n || n == 95
theorem lower_eq (c:UInt8):q2q_ (Int.ofNat c.toNat,())=some (lowN c.toNat,()):=tab (f:=q2q_) (g:=lowN) (by kernel_rfl) c
theorem rdigit_eq (c:UInt8):q3x_ (Int.ofNat c.toNat,())=some (isD c.toNat,()):=tab (f:=q3x_) (g:=isD) (by kernel_rfl) c
abbrev sRec:List UInt8:=[114,101,99,105,112,101]
abbrev sSlv:List UInt8:=[115,108,97,118,101]
abbrev sEnd:List UInt8:=[101,110,100]
def nameB (s:List UInt8):Bool:=s != [] && decide (s.length≤20) && lowN (s.headD 0).toNat && s.all (fun c=>namN c.toNat) && s != sRec && s != sSlv && s != sEnd
theorem goL_all {α R:Type} {p:α->Bool} {r0:Option R} {fin:Unit->Option R}:∀ xs:List α,goL (fun a c k=>if p c=true then k a else r0) fin xs ()=if xs.all p=true then fin () else r0
 | []=>rfl
 | x::q=>by
  show (if p x=true then goL _ fin q () else r0)=_
  rw [goL_all q,List.all_cons]
  cases p x <;> simp
theorem nes_val (a b:List UInt8):nes a b=(a != b):=by
 by_cases h:a=b
 ·subst h
  simp [nes]
 ·rw [nes_iff.2 h]
  simp [h]
theorem at_head {α:Type} {s:List α} (h:s ≠ []) (z:α):at? s 0=some (s.headD z):=by
 cases s with
 | nil=>exact absurd rfl h
 | cons a q=>rfl
theorem name_eq {s:List UInt8}:q54_ (s,())=some (nameB s,()):=by
 show q7t_ q7w_ s=_
 unfold q7t_
 have K1t:q7w_ s true=some (false,()):=rfl
 by_cases h0:s=[]
 ·rw [if_pos (eqs_iff.2 h0),K1t,h0]
  rfl
 ·rw [if_neg (fun e=>h0 (eqs_iff.1 e))]
  by_cases h1:20 < s.length
  ·rw [if_pos (qb_.2 (by rw [q1_]; omega)),K1t]
   have:nameB s=false:=by unfold nameB; rw [decide_eq_false (show ¬ s.length≤20 by omega)]; simp
   rw [this]
  ·rw [if_neg (fun e=>h1 (by have:=qb_.1 e; rw [q1_] at this; omega)),at_head h0 0,Option.bind_some,lower_eq,Option.bind_some]
   cases h2:lowN (s.headD 0).toNat with
   | false =>
    rw [show (!(false,()).1)=true from rfl,K1t]
    have:nameB s=false:=by unfold nameB; rw [h2]; simp
    rw [this]
   | true =>
    show q7g_ s (Int.ofNat s.length) 0=_
    unfold q7g_
    refine (loop_go (xs:=s) (mk:=fun i (_:Unit)=>(s,Int.ofNat s.length,(i:Int))) (body:=fun a c k=>if namN c.toNat=true then k a else some (false,())) (fin:=fun _=>q5q_ s) ?_ ?_ s.length 0 () _ (by omega) (by omega)).trans ?_
    ·intro self i acc c hc
     have hi:=(List.getElem?_eq_some_iff.1 hc).1
     show q3b_ (q58_ fun s t18 t19=>self (s,t18,t19)) q5q_ _ s (Int.ofNat s.length) (i:Int)=_
     unfold q3b_
     have K3f:q58_ (fun s t18 t19=>self (s,t18,t19)) s (Int.ofNat s.length) (i:Int) false=self (s,Int.ofNat s.length,((i + 1:Nat):Int)):=by
      show q7v_ _ s (Int.ofNat s.length) (i:Int) false=_
      unfold q7v_
      rw [if_neg Bool.false_ne_true,ql_ (by omega)]
     rw [if_pos (by rw [q0_,q1_]; omega),qg_ hc,Option.bind_some,lower_eq,Option.bind_some]
     unfold namN
     cases e1:lowN c.toNat with
     | true=>rw [if_neg (by decide),K3f]; rfl
     | false =>
      rw [if_pos (by rfl),Option.bind_some,rdigit_eq,Option.bind_some]
      cases e2:isD c.toNat with
      | true=>rw [if_neg (by decide),K3f]; rfl
      | false =>
       rw [if_pos (by rfl),Option.bind_some]
       by_cases e3:c.toNat=95
       ·have:nei (Int.ofNat c.toNat) 95=false:=by rw [Bool.eq_false_iff]; exact fun e=>qe_.1 e (by rw [e3]; rfl)
        rw [this,K3f,if_pos (by simp [e3])]
       ·have:nei (Int.ofNat c.toNat) 95=true:=qe_.2 (fun e=>e3 (by have e:(c.toNat:Int)=95:=e; omega))
        rw [this,if_neg (by simp [e3])]
        rfl
    ·intro self acc
     show q3b_ (q58_ fun s t18 t19=>self (s,t18,t19)) q5q_ _ s (Int.ofNat s.length) (s.length:Int)=_
     unfold q3b_
     rw [if_neg (by rw [q0_,q1_]; omega)]
    ·rw [List.drop_zero,goL_all]
     show (if (s.all fun c=>namN c.toNat)=true then q7z_ s else some (false,()))=_
     unfold q7z_ nameB
     rw [h2,decide_eq_true (show s.length≤20 by omega),nes_val,nes_val,nes_val]
     have e0:(s != [])=true:=by simpa using h0
     rw [e0]
     cases (s.all fun c=>namN c.toNat) <;> cases (s != sRec) <;> cases (s != sSlv) <;> rfl
def unitB (s:List UInt8):Bool:=decide (s.length≤20) && match s with
 | []=>true
 | c::q=>w1 c.toNat && q.all (fun c=>wm c.toNat)
theorem unit_eq {s:List UInt8}:q8g_ (s,())=some (unitB s,()):=by
 show q7n_ q5n_ s=_
 unfold q7n_
 by_cases h1:20 < s.length
 ·rw [if_pos (qb_.2 (by rw [q1_]; omega))]
  have:unitB s=false:=by unfold unitB; rw [decide_eq_false (show ¬ s.length≤20 by omega)]; rfl
  rw [this]
 ·rw [if_neg (fun e=>h1 (by have:=qb_.1 e; rw [q1_] at this; omega))]
  have stp:∀ (self:(List UInt8)×(Int)×(Int)->Option (As [.bool])) (i:Nat) (c:UInt8),s[i]? = some c ->
    q3d_ (q64_ fun s t10 t11=>self (s,t10,t11)) (fun s t10 t11=>self (s,t10,t11)) s (Int.ofNat s.length) (i:Int) =
    if (if i=0 then w1 c.toNat else wm c.toNat)=true then self (s,Int.ofNat s.length,((i + 1:Nat):Int)) else some (false,()):=fun self i c hc=>by
   have hi:=(List.getElem?_eq_some_iff.1 hc).1
   unfold q3d_
   have K3:∀ b,q7h_ (fun s t10 t11=>self (s,t10,t11)) s (Int.ofNat s.length) (i:Int) b=if b=true then some (false,()) else self (s,Int.ofNat s.length,((i + 1:Nat):Int)):=fun b=>by
    show q7k_ _ s (Int.ofNat s.length) (i:Int) b=_
    unfold q7k_
    rw [ql_ (by omega)]
   have K2:∀ b,q64_ (fun s t10 t11=>self (s,t10,t11)) s (i:Int) (Int.ofNat c.toNat) b (Int.ofNat s.length) (i:Int)=if (b || (decide (i ≠ 0) && (isD c.toNat || c.toNat == 95)))=true then self (s,Int.ofNat s.length,((i + 1:Nat):Int)) else some (false,()):=fun b=>by
    show q7e_ (q7h_ fun s t10 t11=>self (s,t10,t11)) _ s (i:Int) (Int.ofNat c.toNat) b (Int.ofNat s.length) (i:Int)=_
    unfold q7e_
    simp only [K3]
    cases b with
    | true=>rfl
    | false =>
     rw [if_pos (by rfl)]
     by_cases h0:i=0
     ·rw [if_pos (q9_.2 (by omega)),decide_eq_false (show ¬ i ≠ 0 by omega)]
      rfl
     ·rw [if_neg (fun e=>h0 (by have:=q9_.1 e; omega)),decide_eq_true h0,rdigit_eq,Option.bind_some]
      cases e2:isD c.toNat with
      | true=>rfl
      | false =>
       rw [if_pos (by rfl)]
       have g3:nei (Int.ofNat c.toNat) 95=!(c.toNat == 95):=by
        apply Bool.eq_iff_iff.2
        rw [qe_]
        simp
        omega
       rw [g3]
       cases (c.toNat == 95) <;> rfl
   rw [if_pos (by rw [q0_,q1_]; omega),qg_ hc,Option.bind_some,lower_eq,Option.bind_some]
   simp only [K2]
   have g1:ge (Int.ofNat c.toNat) 65=decide (65≤c.toNat):=by
    show decide ((65:Int)≤(c.toNat:Int))=_
    apply Bool.eq_iff_iff.2; simp; omega
   have g2:le (Int.ofNat c.toNat) 90=decide (c.toNat≤90):=by
    show decide ((c.toNat:Int)≤90)=_
    apply Bool.eq_iff_iff.2; simp; omega
   have g3:eqi (Int.ofNat c.toNat) 37=(c.toNat == 37):=by
    apply Bool.eq_iff_iff.2
    rw [q9_]
    simp
    omega
   rw [g1,g2,g3]
   have hw:w1 c.toNat=(lowN c.toNat || (decide (65≤c.toNat) && decide (c.toNat≤90)) || c.toNat == 37):=by unfold w1 isL lowN; rfl
   have hm:wm c.toNat=(w1 c.toNat || isD c.toNat || c.toNat == 95):=by
    unfold wm w1
    cases isL c.toNat <;> cases isD c.toNat <;> cases (c.toNat == 95) <;> cases (c.toNat == 37) <;> rfl
   rw [hm,hw]
   by_cases h0:i=0
   ·rw [if_pos h0,decide_eq_false (show ¬ i ≠ 0 by omega)]
    cases lowN c.toNat <;> cases decide (65≤c.toNat) <;> cases decide (c.toNat≤90) <;> cases (c.toNat == 37) <;> rfl
   ·rw [if_neg h0,decide_eq_true h0]
    cases lowN c.toNat <;> cases decide (65≤c.toNat) <;> cases decide (c.toNat≤90) <;> cases (c.toNat == 37) <;> cases isD c.toNat <;> cases (c.toNat == 95) <;> rfl
  have fin:∀ (self:(List UInt8)×(Int)×(Int)->Option (As [.bool])),q3d_ (q64_ fun s t10 t11=>self (s,t10,t11)) (fun s t10 t11=>self (s,t10,t11)) s (Int.ofNat s.length) (s.length:Int)=some (true,()):=fun self=>by
   unfold q3d_
   rw [if_neg (by rw [q0_,q1_]; omega)]
  show q5n_ s (Int.ofNat s.length) 0=_
  unfold q5n_
  match s,h1,stp,fin with
  | [],_,stp,fin=>rfl
  | c::q,h1,stp,fin =>
   rw [show (18446744073709551616:Nat)=18446744073709551615 + 1 from rfl,q6_]
   refine (stp _ 0 c rfl).trans ?_
   rw [if_pos rfl]
   have hu:unitB (c::q)=(w1 c.toNat && q.all (fun c=>wm c.toNat)):=by
    unfold unitB
    rw [decide_eq_true (show (c::q).length≤20 by omega)]
    rfl
   rw [hu]
   cases hc:w1 c.toNat with
   | false=>rfl
   | true =>
    rw [if_pos rfl]
    refine (loop_go (xs:=q) (mk:=fun i (_:Unit)=>(c::q,Int.ofNat (c::q).length,((i + 1:Nat):Int))) (body:=fun a x k=>if wm x.toNat=true then k a else some (false,())) (fin:=fun _=>some (true,())) ?_ ?_ q.length 0 () _ (by omega) (by rw [List.length_cons] at h1; omega)).trans ?_
    ·intro self i acc x hx
     have:=stp self (i + 1) x (by simpa using hx)
     rw [if_neg (show ¬ i + 1=0 by omega)] at this
     exact this
    ·intro self acc
     exact fin self
    ·rw [List.drop_zero,goL_all]
     cases (q.all fun c=>wm c.toNat) <;> rfl
abbrev TSet:=List UInt8×(Int×Int)×List UInt8×Int
abbrev TPart:=List UInt8×Int×List TSet
abbrev TRec:=List UInt8×List TPart
def setB (s:TSet):Bool:=nameB s.1 && (rgt s.2.1 && unitB s.2.2.1)
def partB (p:TPart):Bool:=nameB p.1 && (decide (p.2.2.length≤64) && p.2.2.all setB)
def rightB (r:TRec):Bool:=nameB r.1 && (decide (r.2.length≤8) && r.2.all partB)
theorem loop_all {σ R α:Type} {F:(σ->Option R)->σ->Option R} {mk:Nat->σ} {xs:List α} {p:α->Bool} {r0 fin:Option R}
  (hs:∀ self i x,xs[i]? = some x->F self (mk i)=if p x=true then self (mk (i + 1)) else r0) (he:∀ self,F self (mk xs.length)=fin) {n:Nat} (h:xs.length < n) :
  loopF F n (mk 0)=if xs.all p=true then fin else r0:=by
 have:=loop_go (xs:=xs) (mk:=fun i (_:Unit)=>mk i) (body:=fun a x k=>if p x=true then k a else r0) (fin:=fun _=>fin) (fun self i acc x hx=>hs self i x hx) (fun self _=>he self) xs.length 0 () n (by omega) h
 rw [List.drop_zero,goL_all] at this
 exact this
theorem gtn {n k:Nat}:gt (Int.ofNat n) (k:Int)=!decide (n≤k):=by
 apply Bool.eq_iff_iff.2
 rw [qb_,q1_]
 simp
theorem right_eq' {r:TRec} (h1:r.2.length≤1000000) (h2:∀ p ∈ r.2,p.2.2.length≤1000000):q3w_ (r,())=some (rightB r,()):=by
 show q6t_ q6m_ r=_
 unfold q6t_
 have K1:∀ b,q6m_ b r=if b=true then some (false,()) else q4r_ r.2 (Int.ofNat r.2.length) 0:=fun b=>rfl
 rw [name_eq,Option.bind_some]
 have e8:gt (Int.ofNat r.2.length) 8=!decide (r.2.length≤8):=gtn (k:=8)
 simp only [K1,e8]
 have K2:q4r_ r.2 (Int.ofNat r.2.length) 0=if r.2.all partB=true then some (true,()) else some (false,()):=by
  unfold q4r_
  refine loop_all (xs:=r.2) (mk:=fun i=>(r.2,Int.ofNat r.2.length,(i:Int))) (p:=partB) ?_ ?_ (by omega)
  ·intro self i p hp
   have hi:=(List.getElem?_eq_some_iff.1 hp).1
   have hps:=h2 p (List.mem_of_getElem? hp)
   show q2t_ (q6p_ fun t18 t19 t20=>self (t18,t19,t20)) _ r.2 (Int.ofNat r.2.length) (i:Int)=_
   unfold q2t_
   rw [if_pos (by rw [q0_,q1_]; omega),qg_ hp,Option.bind_some,name_eq,Option.bind_some]
   have K4:q4s_ (fun t18 t19 t20=>self (t18,t19,t20)) r.2 (Int.ofNat r.2.length) (i:Int) p.2.2 (Int.ofNat p.2.2.length) 0=if p.2.2.all setB=true then self (r.2,Int.ofNat r.2.length,((i + 1:Nat):Int)) else some (false,()):=by
    unfold q4s_
    refine loop_all (xs:=p.2.2) (mk:=fun k=>(r.2,Int.ofNat r.2.length,(i:Int),p.2.2,Int.ofNat p.2.2.length,(k:Int))) (p:=setB) ?_ ?_ (by omega)
    ·intro self4 k s hs
     have hk:=(List.getElem?_eq_some_iff.1 hs).1
     show q2u_ (q6o_ (fun t18 t19 t20=>self (t18,t19,t20)) fun t18 t19 t20 t35 t36 t37=>self4 (t18,t19,t20,t35,t36,t37)) _ _ r.2 (Int.ofNat r.2.length) (i:Int) p.2.2 (Int.ofNat p.2.2.length) (k:Int)=_
     unfold q2u_
     have K5:∀ b,q6o_ (fun t18 t19 t20=>self (t18,t19,t20)) (fun t18 t19 t20 t35 t36 t37=>self4 (t18,t19,t20,t35,t36,t37)) r.2 (Int.ofNat r.2.length) (i:Int) p.2.2 (Int.ofNat p.2.2.length) (k:Int) b=if b=true then some (false,()) else self4 (r.2,Int.ofNat r.2.length,(i:Int),p.2.2,Int.ofNat p.2.2.length,((k + 1:Nat):Int)):=fun b=>by
      show q6q_ _ _ r.2 (Int.ofNat r.2.length) (i:Int) p.2.2 (Int.ofNat p.2.2.length) (k:Int) b=_
      unfold q6q_
      rw [ql_ (by omega)]
     rw [if_pos (by rw [q0_,q1_]; omega),qg_ hs,Option.bind_some,name_eq,Option.bind_some,right_eq,Option.bind_some,unit_eq,Option.bind_some]
     simp only [K5]
     unfold setB
     cases nameB s.1 <;> cases rgt s.2.1 <;> cases unitB s.2.2.1 <;> rfl
    ·intro self4
     show q2u_ _ _ _ r.2 (Int.ofNat r.2.length) (i:Int) p.2.2 (Int.ofNat p.2.2.length) (p.2.2.length:Int)=_
     unfold q2u_
     rw [if_neg (by rw [q0_,q1_]; omega),ql_ (by omega)]
   have K3:∀ b,q6p_ (fun t18 t19 t20=>self (t18,t19,t20)) r.2 (Int.ofNat r.2.length) (i:Int) b p=if b=true then some (false,()) else if p.2.2.all setB=true then self (r.2,Int.ofNat r.2.length,((i + 1:Nat):Int)) else some (false,()):=fun b=>by
    show q6n_ (q4s_ fun t18 t19 t20=>self (t18,t19,t20)) _ r.2 (Int.ofNat r.2.length) (i:Int) b p=_
    unfold q6n_
    rw [K4]
   have e64:gt (Int.ofNat p.2.2.length) 64=!decide (p.2.2.length≤64):=gtn (k:=64)
   simp only [K3,e64]
   unfold partB
   cases nameB p.1 <;> cases decide (p.2.2.length≤64) <;> cases p.2.2.all setB <;> rfl
  ·intro self
   show q2t_ _ _ r.2 (Int.ofNat r.2.length) (r.2.length:Int)=_
   unfold q2t_
   rw [if_neg (by rw [q0_,q1_]; omega)]
 rw [K2]
 unfold rightB
 cases nameB r.1 <;> cases decide (r.2.length≤8) <;> cases r.2.all partB <;> rfl
end Go.Proofs.Lx
end
