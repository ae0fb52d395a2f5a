/- Part 7 of 14: PlanTells returns true, whatever it is given. Conditions: those of the given statement, no others. -/
import Derived.Test.YtnamnibaedolaaaPartd
import Derived.Test.YtnamnibaedolaaaPartf
import Derived.Test.YtnamnibaedolaaaProg
import Derived.Test.YtnamnibaedolaaaParte
set_option linter.unusedVariables false
set_option linter.unusedSimpArgs false
section
open Go Go.Proofs Ev Sx
set_option maxRecDepth 100000
namespace Go.Proofs.Lx
@[reducible] def q1y_:Sh:=⟨[.d (.pr .str (.sl (.pr .str QVT2)))],[],[.pr .str (.sl (.pr .str QVT2))],[.d (.bool)],[],0,[.bool]⟩
def q5c_:Env:=(cts [(68,(⟨qli_,qb6_⟩:Ct)),(70,(⟨q24_,q1o_⟩:Ct))])
def q5e_:List (Nat×Hint):=[(122,⟨[],[3,4,20,21,22,30,31,32,33,34,37,38,39,40,41]⟩),(7833,⟨[.agd 32 .str,.agd 33 .bool,.agd 34 .bool,.agd 39 (.int .i64),.agd 40 .bool,.agd 41 .bool],[3,4,20,21,22,42]⟩),(6,⟨[],[1,16,30,31,32,33,34,37,38,39,40,41]⟩)]
@[reducible] def zG0:Type:=List UInt8×List QVT0
def q8l_ (t16:Bool) (d:zG0):St:=⟨[(1,.pb 0 0),(16,dB t16)],44,[],[(0,.box 67 [dS d.1,.d (.sl (.pr .str QVT2)) d.2])],1,[],0⟩
@[reducible] def zG1:Type:=List (List UInt8×Unit)
def q1e_ (t20:List QVT0) (t21 t22:Int) (o:zG1) (o_2:List (Int×Unit)):St:=⟨[(3,.fn (.func 56) [] [.pb 0 0]),(4,.fn (.func 84) [] [.pb 2 0]),(20,.d (.sl (.pr .str QVT2)) t20),(21,dI t21),(22,dI t22)],44,[],[(0,.box 108 [.mp 1]),(1,.dm .str .un o),(2,.box 140 [.mp 3]),(3,.dm (.int .i64) .un o_2)],4,[],0⟩
def q8j_ (t20:List QVT0) (t21 t22:Int) (t42:Bool) (o:zG1) (o_2:List (Int×Unit)):St:=⟨[(3,.fn (.func 56) [] [.pb 0 0]),(4,.fn (.func 84) [] [.pb 2 0]),(20,.d (.sl (.pr .str QVT2)) t20),(21,dI t21),(22,dI t22),(42,dB t42)],44,[],[(0,.box 108 [.mp 1]),(1,.dm .str .un o),(2,.box 140 [.mp 3]),(3,.dm (.int .i64) .un o_2)],4,[],0⟩
@[reducible] def zG2:Type:=List QVT0->Int->Int->List (List UInt8×Unit)->List (Int×Unit)->Option (As [.bool])
def qfr_ (j2:zG2) (t16:Bool) (d:zG0):Option (As [.bool]) :=
 if t16=true then some (false,()) else j2 d.2 (Int.ofNat (List.length d.2)) 0 [] []
def q1t_ (j3:List QVT0->Int->Int->Bool->List (List UInt8×Unit)->List (Int×Unit)->Option (As [.bool])) (self2:zG2) (t20:List QVT0) (t21 t22:Int) (o:zG1) (o_2:List (Int×Unit)):Option (As [.bool]) :=
 if lt t22 t21=true then Option.bind (at? t20 t22) fun y=>Option.bind (q1o_ (y,())) fun y_1=>if (!y_1.1)=true then j3 t20 t21 t22 true o o_2 else if (!!Ev.isV .un (Ev.dget .str o y.1))=true then j3 t20 t21 t22 true (Ev.dput .str o y.1 ()) o_2 else j3 t20 t21 t22 (!!Ev.isV .un (Ev.dget (.int .i64) o_2 y.2.1)) (Ev.dput .str o y.1 ()) (Ev.dput (.int .i64) o_2 y.2.1 ()) else some (true,())
def q3z_ (self2:zG2) (t20:List QVT0) (t21 t22:Int) (t42:Bool) (o:zG1) (o_2:List (Int×Unit)):Option (As [.bool]) :=
 if t42=true then some (false,()) else self2 t20 t21 (add .i64 t22 1) o o_2
def q3x_ (j1:Bool->List UInt8×List QVT0->Option (As [.bool])) (d:zG0):Option (As [.bool]) :=
 Option.bind (qb6_ (d.1,())) fun y=>if (!y.1)=true then j1 true d else j1 (gt (Int.ofNat (List.length d.2)) 64) d
def q2e_ (u2:zG2):=q3z_ u2
def q3w_ (t20:List QVT0) (t21 t22:Int) (o:zG1) (o_2:List (Int×Unit)):Option (As [.bool]) :=
 loopF (fun self s=>q1t_ (q2e_ (fun t20 t21 t22 o o_2=>self (t20,t21,t22,o,o_2))) (fun t20 t21 t22 o o_2=>self (t20,t21,t22,o,o_2)) s.1 s.2.1 s.2.2.1 s.2.2.2.1 s.2.2.2.2) 18446744073709551616 (t20,t21,t22,o,o_2)
def q1f_:=qfr_ (q3w_)
def q1i_ (x:As [.pr .str (.sl (.pr .str QVT2))]):Option (As [.bool]):=q3x_ q1f_ x.1
noncomputable abbrev valid_rightDevice_P:=pfn Try.prog q5c_ 6 18446744073709551616 (Ev.get q5e_) 52 q1y_
theorem qox_ {J w2 t20 t21 t22 t42 o o_2}:valid_rightDevice_P J 7833 [w2] (q8j_ t20 t21 t22 t42 o o_2)=q3z_ (fun t20 t21 t22 o o_2=>w2 (q1e_ t20 t21 t22 o o_2)) t20 t21 t22 t42 o o_2:=by kernel_rfl
theorem qow_ {J w2 t20 t21 t22 o o_2}:valid_rightDevice_P J 122 [w2] (q1e_ t20 t21 t22 o o_2)=q1t_ (fun t20 t21 t22 t42 o o_2=>J 7833 [w2] (q8j_ t20 t21 t22 t42 o o_2)) (fun t20 t21 t22 o o_2=>w2 (q1e_ t20 t21 t22 o o_2)) t20 t21 t22 o o_2:=by kernel_rfl
theorem qp0_ {J t16 d}:valid_rightDevice_P J 6 [] (q8l_ t16 d)=qfr_ (fun t20 t21 t22 o o_2=>J 122 [] (q1e_ t20 t21 t22 o o_2)) t16 d:=by kernel_rfl
theorem qov_ (J:Orc (As [.bool])) (x:As [.pr .str (.sl (.pr .str QVT2))]):rfn Try.prog q5c_ 6 18446744073709551616 (Ev.get q5e_) 52 q1y_ J x=q3x_ (fun t16 d=>J 6 [] (q8l_ t16 d)) x.1:=by kernel_rfl
noncomputable abbrev valid_rightDevice_J:=jfn Try.prog q5c_ 6 18446744073709551616 (Ev.get q5e_) 52 q1y_
theorem qoz_  (w2 t20 t21 t22 t42 o o_2):valid_rightDevice_J 7833 [w2] (q8j_ t20 t21 t22 t42 o o_2)=q2e_ (fun t20 t21 t22 o o_2=>w2 (q1e_ t20 t21 t22 o o_2)) t20 t21 t22 t42 o o_2:=gN (by decide) qox_
theorem qot_  (t20 t21 t22 o o_2):valid_rightDevice_J 122 [] (q1e_ t20 t21 t22 o o_2)=q3w_ t20 t21 t22 o o_2:=gL (σ:=(List QVT0)×(Int)×(Int)×(List (List UInt8×Unit))×(List (Int×Unit))) (mk:=fun s=>q1e_ s.1 s.2.1 s.2.2.1 s.2.2.2.1 s.2.2.2.2) (by decide) (by kernel_rfl) (fun w2 s=>qow_.trans (by simp only [qoz_])) (t20,t21,t22,o,o_2)
theorem qoq_  (t16 d):valid_rightDevice_J 6 [] (q8l_ t16 d)=q1f_ t16 d:=gN (by decide) (qp0_.trans (by simp only [qot_]; rfl))
theorem qqb_ (x:As [.pr .str (.sl (.pr .str QVT2))]):evT Try.prog q5c_ 6 18446744073709551616 (Ev.get q5e_) 52 q1y_ x=q1i_ x:=by
 rw [qi_,qov_]
 simp only [qoq_]
 rfl
theorem qp1_:CtOk Try.prog (fun _=>True) 52 ⟨q1y_,q1i_⟩:=qa_ (q2_ qpa_ (q2_ qqj_ q6_)) qqb_
@[reducible] def q5k_:Sh:=⟨[.d (.sl (.pr .str (.sl (.pr .str QVT2))))],[],[.sl (.pr .str (.sl (.pr .str QVT2)))],[.d (.bool)],[],0,[.bool]⟩
def qf2_:Env:=(cts [(52,(⟨q1y_,q1i_⟩:Ct))])
def qek_:List (Nat×Hint):=[(122,⟨[],[3,15,16,17,25,26,27,28,29]⟩),(7833,⟨[.agd 27 .str,.agd 28 .bool,.agd 29 .bool],[3,15,16,17,30]⟩),(6,⟨[],[0,13,25,26,27,28,29]⟩)]
@[reducible] def zG3:Type:=List (List UInt8×List QVT0)
def qht_ (t:zG3) (t13:Bool):St:=⟨[(0,.d (.sl (.pr .str (.sl (.pr .str QVT2)))) t),(13,dB t13)],32,[],[],0,[],0⟩
def q2l_ (t15:zG3) (t16 t17:Int) (o:zG1):St:=⟨[(3,.fn (.func 56) [] [.pb 0 0]),(15,.d (.sl (.pr .str (.sl (.pr .str QVT2)))) t15),(16,dI t16),(17,dI t17)],32,[],[(0,.box 108 [.mp 1]),(1,.dm .str .un o)],2,[],0⟩
def qj3_ (t15:zG3) (t16 t17:Int) (t30:Bool) (o:zG1):St:=⟨[(3,.fn (.func 56) [] [.pb 0 0]),(15,.d (.sl (.pr .str (.sl (.pr .str QVT2)))) t15),(16,dI t16),(17,dI t17),(30,dB t30)],32,[],[(0,.box 108 [.mp 1]),(1,.dm .str .un o)],2,[],0⟩
@[reducible] def zG4:Type:=List (List UInt8×List QVT0)->Int->Int->List (List UInt8×Unit)->Option (As [.bool])
def qni_ (j2:zG4) (t:zG3) (t13:Bool):Option (As [.bool]) :=
 if t13=true then some (false,()) else j2 t (Int.ofNat (List.length t)) 0 []
def q47_ (j3:List (List UInt8×List QVT0)->Int->Int->Bool->List (List UInt8×Unit)->Option (As [.bool])) (self2:zG4) (t15:zG3) (t16 t17:Int) (o:zG1):Option (As [.bool]) :=
 if lt t17 t16=true then Option.bind (at? t15 t17) fun y=>Option.bind (q1i_ (y,())) fun y_1=>if (!y_1.1)=true then j3 t15 t16 t17 true o else j3 t15 t16 t17 (!!Ev.isV .un (Ev.dget .str o y.1)) (Ev.dput .str o y.1 ()) else some (true,())
def qaz_ (self2:zG4) (t15:zG3) (t16 t17:Int) (t30:Bool) (o:zG1):Option (As [.bool]) :=
 if t30=true then some (false,()) else self2 t15 t16 (add .i64 t17 1) o
@[reducible] def zG5:Type:=List (List UInt8×List QVT0)->Bool->Option (As [.bool])
def qby_ (j1:zG5) (t:zG3):Option (As [.bool]) :=
 if lt (Int.ofNat (List.length t)) 1=true then j1 t true else j1 t (gt (Int.ofNat (List.length t)) 8)
def q8b_ (u2:zG4):=qaz_ u2
def qcq_ (t15:zG3) (t16 t17:Int) (o:zG1):Option (As [.bool]) :=
 loopF (fun self s=>q47_ (q8b_ (fun t15 t16 t17 o=>self (t15,t16,t17,o))) (fun t15 t16 t17 o=>self (t15,t16,t17,o)) s.1 s.2.1 s.2.2.1 s.2.2.2) 18446744073709551616 (t15,t16,t17,o)
def q2w_:=qni_ (qcq_)
def qcw_ (x:As [.sl (.pr .str (.sl (.pr .str QVT2)))]):Option (As [.bool]):=qby_ q2w_ x.1
noncomputable abbrev valid_Right_P:=pfn Try.prog qf2_ 6 18446744073709551616 (Ev.get qek_) 34 q5k_
theorem qy6_ {J w2 t15 t16 t17 t30 o}:valid_Right_P J 7833 [w2] (qj3_ t15 t16 t17 t30 o)=qaz_ (fun t15 t16 t17 o=>w2 (q2l_ t15 t16 t17 o)) t15 t16 t17 t30 o:=by kernel_rfl
theorem qx7_ {J w2 t15 t16 t17 o}:valid_Right_P J 122 [w2] (q2l_ t15 t16 t17 o)=q47_ (fun t15 t16 t17 t30 o=>J 7833 [w2] (qj3_ t15 t16 t17 t30 o)) (fun t15 t16 t17 o=>w2 (q2l_ t15 t16 t17 o)) t15 t16 t17 o:=by kernel_rfl
theorem qzs_ {J t t13}:valid_Right_P J 6 [] (qht_ t t13)=qni_ (fun t15 t16 t17 o=>J 122 [] (q2l_ t15 t16 t17 o)) t t13:=by kernel_rfl
theorem quf_ (J:Orc (As [.bool])) (x:As [.sl (.pr .str (.sl (.pr .str QVT2)))]):rfn Try.prog qf2_ 6 18446744073709551616 (Ev.get qek_) 34 q5k_ J x=qby_ (fun t t13=>J 6 [] (qht_ t t13)) x.1:=by kernel_rfl
noncomputable abbrev valid_Right_J:=jfn Try.prog qf2_ 6 18446744073709551616 (Ev.get qek_) 34 q5k_
theorem qy1_  (w2 t15 t16 t17 t30 o):valid_Right_J 7833 [w2] (qj3_ t15 t16 t17 t30 o)=q8b_ (fun t15 t16 t17 o=>w2 (q2l_ t15 t16 t17 o)) t15 t16 t17 t30 o:=gN (by decide) qy6_
theorem qy4_  (t15 t16 t17 o):valid_Right_J 122 [] (q2l_ t15 t16 t17 o)=qcq_ t15 t16 t17 o:=gL (σ:=(List (List UInt8×List QVT0))×(Int)×(Int)×(List (List UInt8×Unit))) (mk:=fun s=>q2l_ s.1 s.2.1 s.2.2.1 s.2.2.2) (by decide) (by kernel_rfl) (fun w2 s=>qx7_.trans (by simp only [qy1_])) (t15,t16,t17,o)
theorem qxn_  (t t13):valid_Right_J 6 [] (qht_ t t13)=q2w_ t t13:=gN (by decide) (qzs_.trans (by simp only [qy4_]; rfl))
theorem q111_ (x:As [.sl (.pr .str (.sl (.pr .str QVT2)))]):evT Try.prog qf2_ 6 18446744073709551616 (Ev.get qek_) 34 q5k_ x=qcw_ x:=by
 rw [qi_,quf_]
 simp only [qxn_]
 rfl
theorem qyw_:CtOk Try.prog (fun _=>True) 34 ⟨q5k_,qcw_⟩:=qa_ (q2_ qp1_ q6_) q111_
@[reducible] def q3l_:Sh:=⟨[.d (.pr .str (.sl (.pr .str QVT2))),.d (.str)],[],[.pr .str (.sl (.pr .str QVT2)),.str],[.d (.pr .str QVT2),.d (.bool)],[],0,[.pr .str QVT2,.bool]⟩
def qe6_:Env:=(cts [])
def qep_:List (Nat×Hint):=[(3,⟨[],[4]⟩),(26,⟨[],[1,4,9,10,11]⟩)]
@[reducible] def zG6:Type:=List UInt8×Int×Int×Bool×(Int×Int)×(Int×Int)×List UInt8
def q7z_ (name:List UInt8) (t9:List QVT0) (t10 t11:Int) (t4:zG6):St:=⟨[(1,dS name),(4,.pb 0 0),(9,.d (.sl (.pr .str QVT2)) t9),(10,dI t10),(11,dI t11)],22,[],[(0,.box 77 [dS t4.1,dI t4.2.1,dI t4.2.2.1,dB t4.2.2.2.1,dI t4.2.2.2.2.1.1,d8 t4.2.2.2.2.1.2,dI t4.2.2.2.2.2.1.1,d8 t4.2.2.2.2.2.1.2,dS t4.2.2.2.2.2.2])],1,[],0⟩
def qh0_ (t4:zG6):St:=⟨[(4,.pb 0 0)],22,[],[(0,.box 77 [dS t4.1,dI t4.2.1,dI t4.2.2.1,dB t4.2.2.2.1,dI t4.2.2.2.2.1.1,d8 t4.2.2.2.2.1.2,dI t4.2.2.2.2.2.1.1,d8 t4.2.2.2.2.2.1.2,dS t4.2.2.2.2.2.2])],1,[],0⟩
@[reducible] def zG7:Type:=List UInt8->List QVT0->Int->Int->List UInt8×Int×Int×Bool×(Int×Int)×(Int×Int)×List UInt8->Option (As [.pr .str QVT2,.bool])
def q4m_ (j2:List UInt8×Int×Int×Bool×(Int×Int)×(Int×Int)×List UInt8->Option (As [.pr .str QVT2,.bool])) (self1:zG7) (name:List UInt8) (t9:List QVT0) (t10 t11:Int) (t4:zG6):Option (As [.pr .str QVT2,.bool]) :=
 if lt t11 t10=true then Option.bind (at? t9 t11) fun y=>if eqs y.1 name=true then some (y,true,()) else self1 name t9 t10 (add .i64 t11 1) t4 else j2 t4
def qo5_ (t4:zG6):Option (As [.pr .str QVT2,.bool]) :=
 some (([],0,0,false,(0,0),(0,0),[]),false,())
def qoh_ (j1:zG7) (d:zG0) (name:List UInt8):Option (As [.pr .str QVT2,.bool]) :=
 j1 name d.2 (Int.ofNat (List.length d.2)) 0 ([],0,0,false,(0,0),(0,0),[])
def qak_:=qo5_
def qcn_ (name:List UInt8) (t9:List QVT0) (t10 t11:Int) (t4:zG6):Option (As [.pr .str QVT2,.bool]) :=
 loopF (fun self s=>q4m_ (qak_) (fun name t9 t10 t11 t4=>self (name,t9,t10,t11,t4)) s.1 s.2.1 s.2.2.1 s.2.2.2.1 s.2.2.2.2) 18446744073709551616 (name,t9,t10,t11,t4)
def q34_ (x:As [.pr .str (.sl (.pr .str QVT2)),.str]):Option (As [.pr .str QVT2,.bool]):=qoh_ qcn_ x.1 x.2.1
noncomputable abbrev valid_point_P:=pfn Try.prog qe6_ 6 18446744073709551616 (Ev.get qep_) 37 q3l_
theorem qzh_ {J t4}:valid_point_P J 3 [] (qh0_ t4)=qo5_ t4:=by kernel_rfl
theorem qv9_ {J w1 name t9 t10 t11 t4}:valid_point_P J 26 [w1] (q7z_ name t9 t10 t11 t4)=q4m_ (fun t4=>J 3 [] (qh0_ t4)) (fun name t9 t10 t11 t4=>w1 (q7z_ name t9 t10 t11 t4)) name t9 t10 t11 t4:=by kernel_rfl
theorem qza_ (J:Orc (As [.pr .str QVT2,.bool])) (x:As [.pr .str (.sl (.pr .str QVT2)),.str]):rfn Try.prog qe6_ 6 18446744073709551616 (Ev.get qep_) 37 q3l_ J x=qoh_ (fun name t9 t10 t11 t4=>J 26 [] (q7z_ name t9 t10 t11 t4)) x.1 x.2.1:=by kernel_rfl
noncomputable abbrev valid_point_J:=jfn Try.prog qe6_ 6 18446744073709551616 (Ev.get qep_) 37 q3l_
theorem qwg_  (t4):valid_point_J 3 [] (qh0_ t4)=qak_ t4:=gN (by decide) qzh_
theorem qyj_  (name t9 t10 t11 t4):valid_point_J 26 [] (q7z_ name t9 t10 t11 t4)=qcn_ name t9 t10 t11 t4:=gL (σ:=(List UInt8)×(List QVT0)×(Int)×(Int)×QVT0) (mk:=fun s=>q7z_ s.1 s.2.1 s.2.2.1 s.2.2.2.1 s.2.2.2.2) (by decide) (by kernel_rfl) (fun w1 s=>qv9_.trans (by simp only [qwg_])) (name,t9,t10,t11,t4)
theorem q12f_ (x:As [.pr .str (.sl (.pr .str QVT2)),.str]):evT Try.prog qe6_ 6 18446744073709551616 (Ev.get qep_) 37 q3l_ x=q34_ x:=by
 rw [qi_,qza_]
 simp only [qyj_]
 rfl
theorem qur_:CtOk Try.prog (fun _=>True) 37 ⟨q3l_,q34_⟩:=qa_ q6_ q12f_
@[reducible] def q5w_:Sh:=⟨[.d (.sl (.pr .str (.sl (.pr .str QVT2)))),.d (.pr .str QVT5)],[],[.sl (.pr .str (.sl (.pr .str QVT2))),.pr .str QVT5],[.d QVT8],[],0,[.pr (.int .i64) (.int .i64)]⟩
def qf1_:Env:=(cts [(27,(⟨q50_,q22_⟩:Ct)),(29,(⟨q8d_,q13_⟩:Ct)),(34,(⟨q5k_,qcw_⟩:Ct)),(35,(⟨q4e_,q57_⟩:Ct)),(37,(⟨q3l_,q34_⟩:Ct))])
def qdy_:List (Nat×Hint):=[(122,⟨[],[0,4,5,28,29,30,44,45,46,47,48,74,75,76,77,78]⟩),(250686,⟨[],[0,4,5,8,10,28,29,30,44,45,46,47,48,55,56,57,74,75,76,77,78]⟩),(16043929,⟨[],[0,4,5,8,10,12,13,14,28,29,30,44,45,46,47,48,55,56,57,74,75,76,77,78]⟩),(64175718,⟨[.agd 76 .str,.agd 77 .bool,.agd 78 .bool],[0,4,5,8,10,12,13,28,29,30,55,56,57,79]⟩),(31334,⟨[.agd 46 .str,.agd 47 .bool,.agd 48 .bool],[0,4,5,7,8,28,29,30,49]⟩),(6,⟨[],[0,3,4,24,44,45,46,47,48,74,75,76,77,78]⟩)]
def qhy_ (t:zG3) (t24:Bool) (r:List UInt8×List QVT1) (t4:Int×Int):St:=⟨[(0,.d (.sl (.pr .str (.sl (.pr .str QVT2)))) t),(3,.pb 0 0),(4,.pb 1 0),(24,dB t24)],98,[],[(0,.box 42 [dS r.1,.d QVT5 r.2]),(1,.box 50 [dI t4.1,dI t4.2])],2,[],0⟩
def qw_ (t:zG3) (t28:List QVT1) (t29 t30:Int) (t4:Int×Int) (o:zG1):St:=⟨[(0,.d (.sl (.pr .str (.sl (.pr .str QVT2)))) t),(4,.pb 0 0),(5,.fn (.func 56) [] [.pb 1 0]),(28,.d QVT5 t28),(29,dI t29),(30,dI t30)],98,[],[(0,.box 50 [dI t4.1,dI t4.2]),(1,.box 108 [.mp 2]),(2,.dm .str .un o)],3,[],0⟩
def qi1_ (t:zG3) (i:Int) (t28:List QVT1) (t29 t30:Int) (t49:Bool) (t4:Int×Int) (o:zG1) (part:List UInt8×Int×List QVT4):St:=⟨[(0,.d (.sl (.pr .str (.sl (.pr .str QVT2)))) t),(4,.pb 0 0),(5,.fn (.func 56) [] [.pb 1 0]),(7,.pb 3 0),(8,dI i),(28,.d QVT5 t28),(29,dI t29),(30,dI t30),(49,dB t49)],98,[],[(0,.box 50 [dI t4.1,dI t4.2]),(1,.box 108 [.mp 2]),(2,.dm .str .un o),(3,.box 80 [dS part.1,dI part.2.1,.d (.sl (.pr .str QVT7)) part.2.2])],4,[],0⟩
def q1u_ (t:zG3) (i:Int) (t28:List QVT1) (t29 t30:Int) (t55:List QVT4) (t56 t57:Int) (t4:Int×Int) (o o_2:zG1):St:=⟨[(0,.d (.sl (.pr .str (.sl (.pr .str QVT2)))) t),(4,.pb 0 0),(5,.fn (.func 56) [] [.pb 1 0]),(8,dI i),(10,.fn (.func 56) [] [.pb 3 0]),(28,.d QVT5 t28),(29,dI t29),(30,dI t30),(55,.d (.sl (.pr .str QVT7)) t55),(56,dI t56),(57,dI t57)],98,[],[(0,.box 50 [dI t4.1,dI t4.2]),(1,.box 108 [.mp 2]),(2,.dm .str .un o),(3,.box 108 [.mp 4]),(4,.dm .str .un o_2)],5,[],0⟩
@[reducible] def zG8:Type:=List UInt8×(Int×Int)×List UInt8×Int
def qhj_ (t:zG3) (i:Int) (ok:Bool) (t28:List QVT1) (t29 t30:Int) (t55:List QVT4) (t56 t57:Int) (t4:Int×Int) (o o_2:zG1) (s:zG8) (p:zG6):St:=⟨[(0,.d (.sl (.pr .str (.sl (.pr .str QVT2)))) t),(4,.pb 0 0),(5,.fn (.func 56) [] [.pb 1 0]),(8,dI i),(10,.fn (.func 56) [] [.pb 3 0]),(12,.pb 5 0),(13,.pb 6 0),(14,dB ok),(28,.d QVT5 t28),(29,dI t29),(30,dI t30),(55,.d (.sl (.pr .str QVT7)) t55),(56,dI t56),(57,dI t57)],98,[],[(0,.box 50 [dI t4.1,dI t4.2]),(1,.box 108 [.mp 2]),(2,.dm .str .un o),(3,.box 108 [.mp 4]),(4,.dm .str .un o_2),(5,.box 82 [dS s.1,dI s.2.1.1,d8 s.2.1.2,dS s.2.2.1,dI s.2.2.2]),(6,.box 77 [dS p.1,dI p.2.1,dI p.2.2.1,dB p.2.2.2.1,dI p.2.2.2.2.1.1,d8 p.2.2.2.2.1.2,dI p.2.2.2.2.2.1.1,d8 p.2.2.2.2.2.1.2,dS p.2.2.2.2.2.2])],7,[],0⟩
def qh4_ (t:zG3) (i:Int) (t28:List QVT1) (t29 t30:Int) (t55:List QVT4) (t56 t57:Int) (t79:Bool) (t4:Int×Int) (o o_2:zG1) (s:zG8) (p:zG6):St:=⟨[(0,.d (.sl (.pr .str (.sl (.pr .str QVT2)))) t),(4,.pb 0 0),(5,.fn (.func 56) [] [.pb 1 0]),(8,dI i),(10,.fn (.func 56) [] [.pb 3 0]),(12,.pb 5 0),(13,.pb 6 0),(28,.d QVT5 t28),(29,dI t29),(30,dI t30),(55,.d (.sl (.pr .str QVT7)) t55),(56,dI t56),(57,dI t57),(79,dB t79)],98,[],[(0,.box 50 [dI t4.1,dI t4.2]),(1,.box 108 [.mp 2]),(2,.dm .str .un o),(3,.box 108 [.mp 4]),(4,.dm .str .un o_2),(5,.box 82 [dS s.1,dI s.2.1.1,d8 s.2.1.2,dS s.2.2.1,dI s.2.2.2]),(6,.box 77 [dS p.1,dI p.2.1,dI p.2.2.1,dB p.2.2.2.1,dI p.2.2.2.2.1.1,d8 p.2.2.2.2.1.2,dI p.2.2.2.2.2.1.1,d8 p.2.2.2.2.2.1.2,dS p.2.2.2.2.2.2])],7,[],0⟩
@[reducible] def zG9:Type:=List (List UInt8×List QVT0)->List QVT1->Int->Int->Int×Int->List (List UInt8×Unit)->Option (As [.pr (.int .i64) (.int .i64)])
def qof_ (j2:zG9) (t:zG3) (t24:Bool) (r:List UInt8×List QVT1) (t4:Int×Int):Option (As [.pr (.int .i64) (.int .i64)]) :=
 if t24=true then some ((2,0),()) else j2 t r.2 (Int.ofNat (List.length r.2)) 0 t4 []
def q4a_ (j3:List (List UInt8×List QVT0)->Int->List QVT1->Int->Int->Bool->Int×Int->List (List UInt8×Unit)->List UInt8×Int×List QVT4->Option (As [.pr (.int .i64) (.int .i64)])) (self2:zG9) (t:zG3) (t28:List QVT1) (t29 t30:Int) (t4:Int×Int) (o:zG1):Option (As [.pr (.int .i64) (.int .i64)]) :=
 if lt t30 t29=true then Option.bind (at? t28 t30) fun y=>Option.bind (q22_ (t,y.1,())) fun y_1=>if (!y_1.2.1)=true then j3 t y_1.1 t28 t29 t30 true t4 o y else j3 t y_1.1 t28 t29 t30 (!!Ev.isV .un (Ev.dget .str o y.1)) t4 (Ev.dput .str o y.1 ()) y else some ((0,0),())
@[reducible] def zG10:Type:=List (List UInt8×List QVT0)->Int->List QVT1->Int->Int->List QVT4->Int->Int->Int×Int->List (List UInt8×Unit)->List (List UInt8×Unit)->Option (As [.pr (.int .i64) (.int .i64)])
def qch_ (j4:zG10) (self2:zG9) (t:zG3) (i:Int) (t28:List QVT1) (t29 t30:Int) (t49:Bool) (t4:Int×Int) (o:zG1) (part:List UInt8×Int×List QVT4):Option (As [.pr (.int .i64) (.int .i64)]) :=
 if t49=true then some ((150,part.2.1),()) else j4 t i t28 t29 t30 part.2.2 (Int.ofNat (List.length part.2.2)) 0 t4 o []
def q4i_ (j5:List (List UInt8×List QVT0)->Int->Bool->List QVT1->Int->Int->List QVT4->Int->Int->Int×Int->List (List UInt8×Unit)->List (List UInt8×Unit)->List UInt8×(Int×Int)×List UInt8×Int->List UInt8×Int×Int×Bool×(Int×Int)×(Int×Int)×List UInt8->Option (As [.pr (.int .i64) (.int .i64)])) (self2:zG9) (self4:zG10) (t:zG3) (i:Int) (t28:List QVT1) (t29 t30:Int) (t55:List QVT4) (t56 t57:Int) (t4:Int×Int) (o o_2:zG1):Option (As [.pr (.int .i64) (.int .i64)]) :=
 if lt t57 t56=true then Option.bind (at? t55 t57) fun y=>Option.bind (at? t i) fun y_1=>amb (eqAs q5w_.rs) [Option.bind (q34_ (y_1,y.1,())) fun y_2=>j5 t i y_2.2.1 t28 t29 t30 t55 t56 t57 t4 o o_2 y y_2.1,Option.bind (q34_ (y_1,y.1,())) fun y_2=>j5 t i y_2.2.1 t28 t29 t30 t55 t56 t57 t4 o o_2 y y_2.1] else self2 t t28 t29 (add .i64 t30 1) t4 o
def qbn_ (j6:List (List UInt8×List QVT0)->Int->List QVT1->Int->Int->List QVT4->Int->Int->Bool->Int×Int->List (List UInt8×Unit)->List (List UInt8×Unit)->List UInt8×(Int×Int)×List UInt8×Int->List UInt8×Int×Int×Bool×(Int×Int)×(Int×Int)×List UInt8->Option (As [.pr (.int .i64) (.int .i64)])) (self2:zG9) (self4:zG10) (t:zG3) (i:Int) (ok:Bool) (t28:List QVT1) (t29 t30:Int) (t55:List QVT4) (t56 t57:Int) (t4:Int×Int) (o o_2:zG1) (s:zG8) (p:zG6):Option (As [.pr (.int .i64) (.int .i64)]) :=
 if (!ok)=true then j6 t i t28 t29 t30 t55 t56 t57 true t4 o o_2 s p else j6 t i t28 t29 t30 t55 t56 t57 (!!Ev.isV .un (Ev.dget .str o_2 s.1)) t4 o (Ev.dput .str o_2 s.1 ()) s p
def qco_ (self2:zG9) (self4:zG10) (t:zG3) (i:Int) (t28:List QVT1) (t29 t30:Int) (t55:List QVT4) (t56 t57:Int) (t79:Bool) (t4:Int×Int) (o o_2:zG1) (s:zG8) (p:zG6):Option (As [.pr (.int .i64) (.int .i64)]) :=
 if t79=true then some ((151,s.2.2.2),()) else Option.bind (q13_ (p,s,())) fun y=>if nei y.2.1 0=true then some ((y.2.1,s.2.2.2),()) else self4 t i t28 t29 t30 t55 t56 (add .i64 t57 1) t4 o o_2
def qcf_ (j1:List (List UInt8×List QVT0)->Bool->List UInt8×List QVT1->Int×Int->Option (As [.pr (.int .i64) (.int .i64)])) (t:zG3) (r:List UInt8×List QVT1):Option (As [.pr (.int .i64) (.int .i64)]) :=
 Option.bind (qcw_ (t,())) fun y=>if (!y.1)=true then j1 t true r (0,0) else Option.bind (q57_ (r,())) fun y=>j1 t (!y.1) r (0,0)
def qct_ (u2:zG9) (u4:zG10):=qco_ u2 u4
def q7l_ (u2:zG9) (u4:zG10):=qbn_ (qct_ u2 u4) u2 u4
def q7b_ (u2:zG9) (t:zG3) (i:Int) (t28:List QVT1) (t29 t30:Int) (t55:List QVT4) (t56 t57:Int) (t4:Int×Int) (o o_2:zG1):Option (As [.pr (.int .i64) (.int .i64)]) :=
 loopF (fun self s=>q4i_ (q7l_ u2 (fun t i t28 t29 t30 t55 t56 t57 t4 o o_2=>self (t,i,t28,t29,t30,t55,t56,t57,t4,o,o_2))) u2 (fun t i t28 t29 t30 t55 t56 t57 t4 o o_2=>self (t,i,t28,t29,t30,t55,t56,t57,t4,o,o_2)) s.1 s.2.1 s.2.2.1 s.2.2.2.1 s.2.2.2.2.1 s.2.2.2.2.2.1 s.2.2.2.2.2.2.1 s.2.2.2.2.2.2.2.1 s.2.2.2.2.2.2.2.2.1 s.2.2.2.2.2.2.2.2.2.1 s.2.2.2.2.2.2.2.2.2.2) 18446744073709551616 (t,i,t28,t29,t30,t55,t56,t57,t4,o,o_2)
def qal_ (u2:zG9):=qch_ (q7b_ u2) u2
def qbx_ (t:zG3) (t28:List QVT1) (t29 t30:Int) (t4:Int×Int) (o:zG1):Option (As [.pr (.int .i64) (.int .i64)]) :=
 loopF (fun self s=>q4a_ (qal_ (fun t t28 t29 t30 t4 o=>self (t,t28,t29,t30,t4,o))) (fun t t28 t29 t30 t4 o=>self (t,t28,t29,t30,t4,o)) s.1 s.2.1 s.2.2.1 s.2.2.2.1 s.2.2.2.2.1 s.2.2.2.2.2) 18446744073709551616 (t,t28,t29,t30,t4,o)
def q2x_:=qof_ (qbx_)
def q99_ (x:As [.sl (.pr .str (.sl (.pr .str QVT2))),.pr .str QVT5]):Option (As [.pr (.int .i64) (.int .i64)]):=qcf_ q2x_ x.1 x.2.1
noncomputable abbrev valid_Check_P:=pfn Try.prog qf1_ 6 18446744073709551616 (Ev.get qdy_) 23 q5w_
theorem qy0_ {J w2 w4 t i t28 t29 t30 t55 t56 t57 t79 t4 o o_2 s p}:valid_Check_P J 64175718 [w2,w4] (qh4_ t i t28 t29 t30 t55 t56 t57 t79 t4 o o_2 s p)=qco_ (fun t t28 t29 t30 t4 o=>w2 (qw_ t t28 t29 t30 t4 o)) (fun t i t28 t29 t30 t55 t56 t57 t4 o o_2=>w4 (q1u_ t i t28 t29 t30 t55 t56 t57 t4 o o_2)) t i t28 t29 t30 t55 t56 t57 t79 t4 o o_2 s p:=by kernel_rfl
theorem qx6_ {J w2 w4 t i ok t28 t29 t30 t55 t56 t57 t4 o o_2 s p}:valid_Check_P J 16043929 [w2,w4] (qhj_ t i ok t28 t29 t30 t55 t56 t57 t4 o o_2 s p)=qbn_ (fun t i t28 t29 t30 t55 t56 t57 t79 t4 o o_2 s p=>J 64175718 [w2,w4] (qh4_ t i t28 t29 t30 t55 t56 t57 t79 t4 o o_2 s p)) (fun t t28 t29 t30 t4 o=>w2 (qw_ t t28 t29 t30 t4 o)) (fun t i t28 t29 t30 t55 t56 t57 t4 o o_2=>w4 (q1u_ t i t28 t29 t30 t55 t56 t57 t4 o o_2)) t i ok t28 t29 t30 t55 t56 t57 t4 o o_2 s p:=by kernel_rfl
theorem qvb_ {J w2 w4 t i t28 t29 t30 t55 t56 t57 t4 o o_2}:valid_Check_P J 250686 [w2,w4] (q1u_ t i t28 t29 t30 t55 t56 t57 t4 o o_2)=q4i_ (fun t i ok t28 t29 t30 t55 t56 t57 t4 o o_2 s p=>J 16043929 [w2,w4] (qhj_ t i ok t28 t29 t30 t55 t56 t57 t4 o o_2 s p)) (fun t t28 t29 t30 t4 o=>w2 (qw_ t t28 t29 t30 t4 o)) (fun t i t28 t29 t30 t55 t56 t57 t4 o o_2=>w4 (q1u_ t i t28 t29 t30 t55 t56 t57 t4 o o_2)) t i t28 t29 t30 t55 t56 t57 t4 o o_2:=by kernel_rfl
theorem qzj_ {J w2 t i t28 t29 t30 t49 t4 o part}:valid_Check_P J 31334 [w2] (qi1_ t i t28 t29 t30 t49 t4 o part)=qch_ (fun t i t28 t29 t30 t55 t56 t57 t4 o o_2=>J 250686 [w2] (q1u_ t i t28 t29 t30 t55 t56 t57 t4 o o_2)) (fun t t28 t29 t30 t4 o=>w2 (qw_ t t28 t29 t30 t4 o)) t i t28 t29 t30 t49 t4 o part:=by kernel_rfl
theorem qzw_ {J w2 t t28 t29 t30 t4 o}:valid_Check_P J 122 [w2] (qw_ t t28 t29 t30 t4 o)=q4a_ (fun t i t28 t29 t30 t49 t4 o part=>J 31334 [w2] (qi1_ t i t28 t29 t30 t49 t4 o part)) (fun t t28 t29 t30 t4 o=>w2 (qw_ t t28 t29 t30 t4 o)) t t28 t29 t30 t4 o:=by kernel_rfl
theorem qwy_ {J t t24 r t4}:valid_Check_P J 6 [] (qhy_ t t24 r t4)=qof_ (fun t t28 t29 t30 t4 o=>J 122 [] (qw_ t t28 t29 t30 t4 o)) t t24 r t4:=by kernel_rfl
theorem qyu_ (J:Orc (As [.pr (.int .i64) (.int .i64)])) (x:As [.sl (.pr .str (.sl (.pr .str QVT2))),.pr .str QVT5]):rfn Try.prog qf1_ 6 18446744073709551616 (Ev.get qdy_) 23 q5w_ J x=qcf_ (fun t t24 r t4=>J 6 [] (qhy_ t t24 r t4)) x.1 x.2.1:=by kernel_rfl
noncomputable abbrev valid_Check_J:=jfn Try.prog qf1_ 6 18446744073709551616 (Ev.get qdy_) 23 q5w_
theorem qz0_  (w2 w4 t i t28 t29 t30 t55 t56 t57 t79 t4 o o_2 s p):valid_Check_J 64175718 [w2,w4] (qh4_ t i t28 t29 t30 t55 t56 t57 t79 t4 o o_2 s p)=qct_ (fun t t28 t29 t30 t4 o=>w2 (qw_ t t28 t29 t30 t4 o)) (fun t i t28 t29 t30 t55 t56 t57 t4 o o_2=>w4 (q1u_ t i t28 t29 t30 t55 t56 t57 t4 o o_2)) t i t28 t29 t30 t55 t56 t57 t79 t4 o o_2 s p:=gN (by decide) qy0_
theorem quj_  (w2 w4 t i ok t28 t29 t30 t55 t56 t57 t4 o o_2 s p):valid_Check_J 16043929 [w2,w4] (qhj_ t i ok t28 t29 t30 t55 t56 t57 t4 o o_2 s p)=q7l_ (fun t t28 t29 t30 t4 o=>w2 (qw_ t t28 t29 t30 t4 o)) (fun t i t28 t29 t30 t55 t56 t57 t4 o o_2=>w4 (q1u_ t i t28 t29 t30 t55 t56 t57 t4 o o_2)) t i ok t28 t29 t30 t55 t56 t57 t4 o o_2 s p:=gN (by decide) (qx6_.trans (by simp only [qz0_]; rfl))
theorem qwh_  (w2 t i t28 t29 t30 t55 t56 t57 t4 o o_2):valid_Check_J 250686 [w2] (q1u_ t i t28 t29 t30 t55 t56 t57 t4 o o_2)=q7b_ (fun t t28 t29 t30 t4 o=>w2 (qw_ t t28 t29 t30 t4 o)) t i t28 t29 t30 t55 t56 t57 t4 o o_2:=gL (σ:=(List (List UInt8×List QVT0))×(Int)×(List QVT1)×(Int)×(Int)×(List QVT4)×(Int)×(Int)×(Int×Int)×(List (List UInt8×Unit))×(List (List UInt8×Unit))) (mk:=fun s=>q1u_ s.1 s.2.1 s.2.2.1 s.2.2.2.1 s.2.2.2.2.1 s.2.2.2.2.2.1 s.2.2.2.2.2.2.1 s.2.2.2.2.2.2.2.1 s.2.2.2.2.2.2.2.2.1 s.2.2.2.2.2.2.2.2.2.1 s.2.2.2.2.2.2.2.2.2.2) (by decide) (by kernel_rfl) (fun w4 s=>qvb_.trans (by simp only [quj_])) (t,i,t28,t29,t30,t55,t56,t57,t4,o,o_2)
theorem qw5_  (w2 t i t28 t29 t30 t49 t4 o part):valid_Check_J 31334 [w2] (qi1_ t i t28 t29 t30 t49 t4 o part)=qal_ (fun t t28 t29 t30 t4 o=>w2 (qw_ t t28 t29 t30 t4 o)) t i t28 t29 t30 t49 t4 o part:=gN (by decide) (qzj_.trans (by simp only [qwh_]; rfl))
theorem qxj_  (t t28 t29 t30 t4 o):valid_Check_J 122 [] (qw_ t t28 t29 t30 t4 o)=qbx_ t t28 t29 t30 t4 o:=gL (σ:=(List (List UInt8×List QVT0))×(List QVT1)×(Int)×(Int)×(Int×Int)×(List (List UInt8×Unit))) (mk:=fun s=>qw_ s.1 s.2.1 s.2.2.1 s.2.2.2.1 s.2.2.2.2.1 s.2.2.2.2.2) (by decide) (by kernel_rfl) (fun w2 s=>qzw_.trans (by simp only [qw5_])) (t,t28,t29,t30,t4,o)
theorem quo_  (t t24 r t4):valid_Check_J 6 [] (qhy_ t t24 r t4)=q2x_ t t24 r t4:=gN (by decide) (qwy_.trans (by simp only [qxj_]; rfl))
theorem q135_ (x:As [.sl (.pr .str (.sl (.pr .str QVT2))),.pr .str QVT5]):evT Try.prog qf1_ 6 18446744073709551616 (Ev.get qdy_) 23 q5w_ x=q99_ x:=by
 rw [qi_,qyu_]
 simp only [quo_]
 rfl
theorem qw2_:CtOk Try.prog (fun _=>True) 23 ⟨q5w_,q99_⟩:=qa_ (q2_ qkg_ (q2_ qpn_ (q2_ qyw_ (q2_ qmp_ (q2_ qur_ q6_))))) q135_
@[reducible] def q55_:Sh:=⟨[.d (.sl (.pr .str (.sl (.pr .str QVT2)))),.d (.str)],[],[.sl (.pr .str (.sl (.pr .str QVT2))),.str],[.d (.int .i64)],[],0,[.int .i64]⟩
def qfh_:Env:=(cts [])
def qg0_:List (Nat×Hint):=[(26,⟨[],[0,1,5]⟩)]
def q8r_ (t:zG3) (slave:List UInt8) (i:Int):St:=⟨[(0,.d (.sl (.pr .str (.sl (.pr .str QVT2)))) t),(1,dS slave),(5,dI i)],20,[],[],0,[],0⟩
@[reducible] def zG11:Type:=List (List UInt8×List QVT0)->List UInt8->Int->Option (As [.int .i64])
def qeu_ (self1:zG11) (t:zG3) (slave:List UInt8) (i:Int):Option (As [.int .i64]) :=
 if lt i (Int.ofNat (List.length t))=true then Option.bind (at? t i) fun y=>if eqs y.1 slave=true then some (i,()) else self1 t slave (add .i64 i 1) else some (-1,())
def qpk_ (j1:zG11) (t:zG3) (slave:List UInt8):Option (As [.int .i64]) :=
 j1 t slave 0
def qeg_ (t:zG3) (slave:List UInt8) (i:Int):Option (As [.int .i64]) :=
 loopF (fun self s=>qeu_ (fun t slave i=>self (t,slave,i)) s.1 s.2.1 s.2.2) 18446744073709551616 (t,slave,i)
def q8k_ (x:As [.sl (.pr .str (.sl (.pr .str QVT2))),.str]):Option (As [.int .i64]):=qpk_ qeg_ x.1 x.2.1
noncomputable abbrev ref15_Find_P:=pfn Try.prog qfh_ 6 18446744073709551616 (Ev.get qg0_) 28 q55_
theorem q129_ {J w1 t slave i}:ref15_Find_P J 26 [w1] (q8r_ t slave i)=qeu_ (fun t slave i=>w1 (q8r_ t slave i)) t slave i:=by kernel_rfl
theorem q11z_ (J:Orc (As [.int .i64])) (x:As [.sl (.pr .str (.sl (.pr .str QVT2))),.str]):rfn Try.prog qfh_ 6 18446744073709551616 (Ev.get qg0_) 28 q55_ J x=qpk_ (fun t slave i=>J 26 [] (q8r_ t slave i)) x.1 x.2.1:=by kernel_rfl
noncomputable abbrev ref15_Find_J:=jfn Try.prog qfh_ 6 18446744073709551616 (Ev.get qg0_) 28 q55_
theorem q11b_  (t slave i):ref15_Find_J 26 [] (q8r_ t slave i)=qeg_ t slave i:=gL (σ:=(List (List UInt8×List QVT0))×(List UInt8)×(Int)) (mk:=fun s=>q8r_ s.1 s.2.1 s.2.2) (by decide) (by kernel_rfl) (fun w1 s=>q129_) (t,slave,i)
theorem q14o_ (x:As [.sl (.pr .str (.sl (.pr .str QVT2))),.str]):evT Try.prog qfh_ 6 18446744073709551616 (Ev.get qg0_) 28 q55_ x=q8k_ x:=by
 rw [qi_,q11z_]
 simp only [q11b_]
 rfl
theorem qp7_:CtOk Try.prog (fun _=>True) 28 ⟨q55_,q8k_⟩:=qa_ q6_ q14o_
@[reducible] def q52_:Sh:=⟨[.d (.str)],[],[.str],[.d (.bool)],[],0,[.bool]⟩
def qgu_:Env:=(cts [])
def qge_:List (Nat×Hint):=[(58,⟨[],[0,3,47,48,52,53,54,55,56,57,58,61,62]⟩),(1865,⟨[.agd 61 (.int .u8),.agd 62 .bool,.agd 55 (.int .u8),.agd 56 .bool,.agd 52 (.int .u8),.agd 53 .bool,.agd 54 .bool,.agd 57 .bool,.agd 58 .bool,.agd 47 (.int .u8),.agd 48 .bool],[0,3,63]⟩),(6,⟨[],[0,34,47,48,52,53,54,55,56,57,58,61,62]⟩)]
def qko_ (s:List UInt8) (t34:Bool):St:=⟨[(0,dS s),(34,dB t34)],64,[],[],0,[],0⟩
def q3m_ (s:List UInt8) (i:Int):St:=⟨[(0,dS s),(3,dI i)],64,[],[],0,[],0⟩
def qjy_ (s:List UInt8) (i:Int) (t63:Bool):St:=⟨[(0,dS s),(3,dI i),(63,dB t63)],64,[],[],0,[],0⟩
@[reducible] def zG12:Type:=List UInt8->Int->Option (As [.bool])
def qpd_ (j2:zG12) (s:List UInt8) (t34:Bool):Option (As [.bool]) :=
 if t34=true then some (false,()) else j2 s 0
def qdz_ (j3:List UInt8->Int->Bool->Option (As [.bool])) (self2:zG12) (s:List UInt8) (i:Int):Option (As [.bool]) :=
 if lt i (Int.ofNat (List.length s))=true then Option.bind (at? s i) fun c=>if ge (Int.ofNat (UInt8.toNat c)) 97=true then if (!le (Int.ofNat (UInt8.toNat c)) 122)=true then if ge (Int.ofNat (UInt8.toNat c)) 48=true then if (!le (Int.ofNat (UInt8.toNat c)) 57)=true then j3 s i (nei (Int.ofNat (UInt8.toNat c)) 95) else j3 s i false else j3 s i (nei (Int.ofNat (UInt8.toNat c)) 95) else j3 s i false else if ge (Int.ofNat (UInt8.toNat c)) 48=true then if (!le (Int.ofNat (UInt8.toNat c)) 57)=true then j3 s i (nei (Int.ofNat (UInt8.toNat c)) 95) else j3 s i false else j3 s i (nei (Int.ofNat (UInt8.toNat c)) 95) else some (true,())
def qph_ (self2:zG12) (s:List UInt8) (i:Int) (t63:Bool):Option (As [.bool]) :=
 if t63=true then some (false,()) else self2 s (add .i64 i 1)
def qe8_ (j1:List UInt8->Bool->Option (As [.bool])) (s:List UInt8):Option (As [.bool]) :=
 if lt (Int.ofNat (List.length s)) 1=true then j1 s true else if gt (Int.ofNat (List.length s)) 20=true then j1 s true else if eqs s [114,101,99,105,112,101]=true then j1 s true else if eqs s [115,108,97,118,101]=true then j1 s true else if eqs s [101,110,100]=true then j1 s true else Option.bind (at? s 0) fun c=>if lt (Int.ofNat (UInt8.toNat c)) 97=true then j1 s true else Option.bind (at? s 0) fun c=>j1 s (gt (Int.ofNat (UInt8.toNat c)) 122)
def qkv_ (u2:zG12):=qph_ u2
def qdr_ (s:List UInt8) (i:Int):Option (As [.bool]) :=
 loopF (fun self s=>qdz_ (qkv_ (fun s i=>self (s,i))) (fun s i=>self (s,i)) s.1 s.2) 18446744073709551616 (s,i)
def q5u_:=qpd_ (qdr_)
def q33_ (x:As [.str]):Option (As [.bool]):=qe8_ q5u_ x.1
noncomputable abbrev ref14_Name_P:=pfn Try.prog qgu_ 6 18446744073709551616 (Ev.get qge_) 45 q52_
theorem q11k_ {J w2 s i t63}:ref14_Name_P J 1865 [w2] (qjy_ s i t63)=qph_ (fun s i=>w2 (q3m_ s i)) s i t63:=by kernel_rfl
theorem q10x_ {J w2 s i}:ref14_Name_P J 58 [w2] (q3m_ s i)=qdz_ (fun s i t63=>J 1865 [w2] (qjy_ s i t63)) (fun s i=>w2 (q3m_ s i)) s i:=by kernel_rfl
theorem q10p_ {J s t34}:ref14_Name_P J 6 [] (qko_ s t34)=qpd_ (fun s i=>J 58 [] (q3m_ s i)) s t34:=by kernel_rfl
theorem q10t_ (J:Orc (As [.bool])) (x:As [.str]):rfn Try.prog qgu_ 6 18446744073709551616 (Ev.get qge_) 45 q52_ J x=qe8_ (fun s t34=>J 6 [] (qko_ s t34)) x.1:=by kernel_rfl
noncomputable abbrev ref14_Name_J:=jfn Try.prog qgu_ 6 18446744073709551616 (Ev.get qge_) 45 q52_
theorem q110_  (w2 s i t63):ref14_Name_J 1865 [w2] (qjy_ s i t63)=qkv_ (fun s i=>w2 (q3m_ s i)) s i t63:=gN (by decide) q11k_
theorem q13e_  (s i):ref14_Name_J 58 [] (q3m_ s i)=qdr_ s i:=gL (σ:=(List UInt8)×(Int)) (mk:=fun s=>q3m_ s.1 s.2) (by decide) (by kernel_rfl) (fun w2 s=>q10x_.trans (by simp only [q110_])) (s,i)
theorem q12v_  (s t34):ref14_Name_J 6 [] (qko_ s t34)=q5u_ s t34:=gN (by decide) (q10p_.trans (by simp only [q13e_]; rfl))
theorem q15n_ (x:As [.str]):evT Try.prog qgu_ 6 18446744073709551616 (Ev.get qge_) 45 q52_ x=q33_ x:=by
 rw [qi_,q10t_]
 simp only [q12v_]
 rfl
theorem qpp_:CtOk Try.prog (fun _=>True) 45 ⟨q52_,q33_⟩:=qa_ q6_ q15n_
@[reducible] def q3j_:Sh:=⟨[.d (.str)],[],[.str],[.d (.pr .str QVT8),.d (.bool)],[],0,[.pr .str QVT8,.bool]⟩
def qdf_:Env:=(cts [])
def qe0_:List (Nat×Hint):=[(26,⟨[],[0,2,4,5]⟩),(107,⟨[],[0,2,4,9]⟩)]
def qiu_ (name t4:List UInt8) (t5:Bool) (t2:List UInt8×Int×Int):St:=⟨[(0,dS name),(2,.pb 0 0),(4,dS t4),(5,dB t5)],49,[],[(0,.box 103 [dS t2.1,dI t2.2.1,dI t2.2.2])],1,[],0⟩
def qhs_ (name t4:List UInt8) (t9:Bool) (t2:List UInt8×Int×Int):St:=⟨[(0,dS name),(2,.pb 0 0),(4,dS t4),(9,dB t9)],49,[],[(0,.box 103 [dS t2.1,dI t2.2.1,dI t2.2.2])],1,[],0⟩
@[reducible] def zG13:Type:=List UInt8->List UInt8->Bool->List UInt8×Int×Int->Option (As [.pr .str QVT8,.bool])
def qi5_ (j2:zG13) (name t4:List UInt8) (t5:Bool) (t2:List UInt8×Int×Int):Option (As [.pr .str QVT8,.bool]) :=
 if t5=true then some (([],1,1),true,()) else if eqs t4 [109]=true then j2 name t4 true t2 else if eqs t4 [115]=true then j2 name t4 true t2 else if eqs t4 [98,97,114]=true then j2 name t4 true t2 else if eqs t4 [107,103]=true then j2 name t4 true t2 else if eqs t4 [108]=true then j2 name t4 true t2 else j2 name t4 (eqs t4 [67]) t2
def qhz_ (name t4:List UInt8) (t9:Bool) (t2:List UInt8×Int×Int):Option (As [.pr .str QVT8,.bool]) :=
 if t9=true then some ((name,1,1),true,()) else if eqs t4 [99,109]=true then some (([109],1,100),true,()) else if eqs t4 [109,109]=true then some (([109],1,1000),true,()) else if eqs t4 [109,115]=true then some (([115],1,1000),true,()) else if eqs t4 [109,105,110]=true then some (([115],60,1),true,()) else if eqs t4 [104]=true then some (([115],3600,1),true,()) else if eqs t4 [109,98,97,114]=true then some (([98,97,114],1,1000),true,()) else if eqs t4 [107,80,97]=true then some (([98,97,114],1,100),true,()) else if eqs t4 [103]=true then some (([107,103],1,1000),true,()) else if eqs t4 [116]=true then some (([107,103],1000,1),true,()) else if eqs t4 [109,108]=true then some (([108],1,1000),true,()) else some (([],0,0),false,())
def qbv_ (j1:zG13) (name:List UInt8):Option (As [.pr .str QVT8,.bool]) :=
 if eqs name []=true then j1 name name true ([],0,0) else j1 name name (eqs name [37]) ([],0,0)
def qhg_:=qhz_
def qc5_:=qi5_ (qhg_)
def q45_ (x:As [.str]):Option (As [.pr .str QVT8,.bool]):=qbv_ qc5_ x.1
noncomputable abbrev ref12_Known_P:=pfn Try.prog qdf_ 6 18446744073709551616 (Ev.get qe0_) 46 q3j_
theorem qwl_ {J name t4 t9 t2}:ref12_Known_P J 107 [] (qhs_ name t4 t9 t2)=qhz_ name t4 t9 t2:=by kernel_rfl
theorem qwe_ {J name t4 t5 t2}:ref12_Known_P J 26 [] (qiu_ name t4 t5 t2)=qi5_ (fun name t4 t9 t2=>J 107 [] (qhs_ name t4 t9 t2)) name t4 t5 t2:=by kernel_rfl
theorem qvo_ (J:Orc (As [.pr .str QVT8,.bool])) (x:As [.str]):rfn Try.prog qdf_ 6 18446744073709551616 (Ev.get qe0_) 46 q3j_ J x=qbv_ (fun name t4 t5 t2=>J 26 [] (qiu_ name t4 t5 t2)) x.1:=by kernel_rfl
noncomputable abbrev ref12_Known_J:=jfn Try.prog qdf_ 6 18446744073709551616 (Ev.get qe0_) 46 q3j_
theorem qym_  (name t4 t9 t2):ref12_Known_J 107 [] (qhs_ name t4 t9 t2)=qhg_ name t4 t9 t2:=gN (by decide) qwl_
theorem qxq_  (name t4 t5 t2):ref12_Known_J 26 [] (qiu_ name t4 t5 t2)=qc5_ name t4 t5 t2:=gN (by decide) (qwe_.trans (by simp only [qym_]; rfl))
theorem q13l_ (x:As [.str]):evT Try.prog qdf_ 6 18446744073709551616 (Ev.get qe0_) 46 q3j_ x=q45_ x:=by
 rw [qi_,qvo_]
 simp only [qxq_]
 rfl
theorem qnl_:CtOk Try.prog (fun _=>True) 46 ⟨q3j_,q45_⟩:=qa_ q6_ q13l_
@[reducible] def q94_:Sh:=⟨[.d QVT9],[],[.pr (.int .i64) (.int .u8)],[.d (.bool)],[],0,[.bool]⟩
def qys_ (d:Int×Int):Option (As [.bool]) :=
 if ge d.1 (-1000000000000)=true then if le d.1 1000000000000=true then if le d.2 6=true then if eqi d.2 0=true then some (true,()) else some (nei (rem d.1 10) 0,()) else some (false,()) else some (false,()) else some (false,())
def q1a_ (x:As [.pr (.int .i64) (.int .u8)]):Option (As [.bool]):=qys_ x.1
theorem qap_:CtOk Try.prog (fun _=>True) 47 ⟨q94_,q1a_⟩:=ctn q6_ 6 fun J x=>by kernel_rfl
@[reducible] def q3v_:Sh:=⟨[.d QVT9],[],[.pr (.int .i64) (.int .u8)],[.d (.int .i64)],[],0,[.int .i64]⟩
def q75_:Env:=(cts [])
def q73_:List (Nat×Hint):=[(58,⟨[],[3,4]⟩)]
def q3a_ (n i:Int):St:=⟨[(3,dI n),(4,dI i)],17,[],[],0,[],0⟩
def q25_ (self1:Int->Int->Option (As [.int .i64])) (n i:Int):Option (As [.int .i64]) :=
 if lt i 6=true then self1 (mul .i64 n 10) (add .i64 i 1) else some (n,())
def q6r_ (j1:Int->Int->Option (As [.int .i64])) (d:Int×Int):Option (As [.int .i64]) :=
 j1 d.1 (cvt .i64 d.2)
def q6e_ (n i:Int):Option (As [.int .i64]) :=
 loopF (fun self s=>q25_ (fun n i=>self (n,i)) s.1 s.2) 18446744073709551616 (n,i)
def q65_ (x:As [.pr (.int .i64) (.int .u8)]):Option (As [.int .i64]):=q6r_ q6e_ x.1
noncomputable abbrev ref12_millionth_P:=pfn Try.prog q75_ 6 18446744073709551616 (Ev.get q73_) 65 q3v_
theorem qrr_ {J w1 n i}:ref12_millionth_P J 58 [w1] (q3a_ n i)=q25_ (fun n i=>w1 (q3a_ n i)) n i:=by kernel_rfl
theorem qs8_ (J:Orc (As [.int .i64])) (x:As [.pr (.int .i64) (.int .u8)]):rfn Try.prog q75_ 6 18446744073709551616 (Ev.get q73_) 65 q3v_ J x=q6r_ (fun n i=>J 58 [] (q3a_ n i)) x.1:=by kernel_rfl
noncomputable abbrev ref12_millionth_J:=jfn Try.prog q75_ 6 18446744073709551616 (Ev.get q73_) 65 q3v_
theorem qrx_  (n i):ref12_millionth_J 58 [] (q3a_ n i)=q6e_ n i:=gL (σ:=(Int)×(Int)) (mk:=fun s=>q3a_ s.1 s.2) (by decide) (by kernel_rfl) (fun w1 s=>qrr_) (n,i)
theorem qsg_ (x:As [.pr (.int .i64) (.int .u8)]):evT Try.prog q75_ 6 18446744073709551616 (Ev.get q73_) 65 q3v_ x=q65_ x:=by
 rw [qi_,qs8_]
 simp only [qrx_]
 rfl
theorem qrc_:CtOk Try.prog (fun _=>True) 65 ⟨q3v_,q65_⟩:=qa_ q6_ qsg_
@[reducible] def qn0_:Sh:=⟨[.d QVT9,.d QVT9],[],[.pr (.int .i64) (.int .u8),.pr (.int .i64) (.int .u8)],[.d (.int .i64)],[],0,[.int .i64]⟩
def qlm_ (a b:Int×Int):Option (As [.int .i64]) :=
 Option.bind (q65_ (a,())) fun y=>Option.bind (q65_ (b,())) fun y_1=>if lt y.1 y_1.1=true then some (-1,()) else if gt y.1 y_1.1=true then some (1,()) else some (0,())
def q8i_ (x:As [.pr (.int .i64) (.int .u8),.pr (.int .i64) (.int .u8)]):Option (As [.int .i64]):=qlm_ x.1 x.2.1
theorem qr0_:CtOk Try.prog (fun _=>True) 48 ⟨qn0_,q8i_⟩:=ctn (q2_ qrc_ q6_) 6 fun J x=>by kernel_rfl
@[reducible] def q5l_:Sh:=⟨[.d (.sl (.pr .str (.sl (.pr .str QVT2))))],[],[.sl (.pr .str (.sl (.pr .str QVT2)))],[.d (.bool)],[],0,[.bool]⟩
def qe4_:Env:=(cts [(45,(⟨q52_,q33_⟩:Ct)),(46,(⟨q3j_,q45_⟩:Ct)),(47,(⟨q94_,q1a_⟩:Ct)),(48,(⟨qn0_,q8i_⟩:Ct))])
def qdq_:List (Nat×Hint):=[(58,⟨[],[0,3,74,75,76,79,80,81,84,85,86,89,90,91,94,95,96,97,100,101,102,103,106,107,129,130,131,132,133,134,135,136]⟩),(233,⟨[],[0,3,74,75,76,79,80,81,84,85,86,89,90,91,94,95,96,97,100,101,102,103,106,107,129,130,131,132,133,134,135,136]⟩),(932,⟨[],[0,3,74,75,76,79,80,81,84,85,86,89,90,91,94,95,96,97,100,101,102,103,106,107,129,130,131,132,133,134,135,136]⟩),(29854,⟨[],[0,3,5,6,74,75,76,79,80,81,84,85,86,89,90,91,94,95,96,97,100,101,102,103,106,107,129,130,131,132,133,134,135,136]⟩),(119417,⟨[],[0,3,5,6,74,75,76,79,80,81,84,85,86,89,90,91,94,95,96,97,100,101,102,103,106,107,129,130,131,132,133,134,135,136]⟩),(30570814,⟨[],[0,3,5,6,7,10,74,75,76,79,80,81,84,85,86,89,90,91,94,95,96,97,100,101,102,103,106,107,129,130,131,132,133,134,135,136]⟩),(489133028,⟨[.agd 129 (.sl (.pr .str QVT2)),.agd 130 (.int .i64),.agd 133 (.int .i64),.agd 135 (.int .i64),.agd 136 .bool],[0,3,5,6,7,10,137]⟩),(3821350,⟨[.agd 75 (.int .i64),.agd 76 .bool,.agd 80 (.int .i64),.agd 81 .bool,.agd 85 (.int .i64),.agd 86 .bool,.agd 90 (.int .i64),.agd 91 .bool,.agd 95 QVT9,.agd 96 .bool,.agd 97 .bool,.agd 101 QVT9,.agd 102 .bool,.agd 103 .bool,.agd 106 .bool,.agd 107 .bool],[0,3,5,6,7,108]⟩),(7458,⟨[],[0,3,4,74,75,76,79,80,81,84,85,86,89,90,91,94,95,96,97,100,101,102,103,106,107,129,130,131,132,133,134,135,136]⟩),(6,⟨[],[0,18,74,75,76,79,80,81,84,85,86,89,90,91,94,95,96,97,100,101,102,103,106,107,129,130,131,132,133,134,135,136]⟩)]
def qif_ (t:zG3) (t18:Bool):St:=⟨[(0,.d (.sl (.pr .str (.sl (.pr .str QVT2)))) t),(18,dB t18)],138,[],[],0,[],0⟩
def qg_ (t:zG3) (i:Int):St:=⟨[(0,.d (.sl (.pr .str (.sl (.pr .str QVT2)))) t),(3,dI i)],138,[],[],0,[],0⟩
def q82_ (t:zG3) (i k:Int):St:=⟨[(0,.d (.sl (.pr .str (.sl (.pr .str QVT2)))) t),(3,dI i),(4,dI k)],138,[],[],0,[],0⟩
def qhr_ (t:zG3) (i:Int):St:=⟨[(0,.d (.sl (.pr .str (.sl (.pr .str QVT2)))) t),(3,dI i)],138,[],[],0,[],0⟩
def qt_ (t:zG3) (i:Int) (l:List QVT0) (k:Int):St:=⟨[(0,.d (.sl (.pr .str (.sl (.pr .str QVT2)))) t),(3,dI i),(5,.d (.sl (.pr .str QVT2)) l),(6,dI k)],138,[],[],0,[],0⟩
def qis_ (t:zG3) (i:Int) (l:List QVT0) (k:Int) (t108:Bool) (p:zG6):St:=⟨[(0,.d (.sl (.pr .str (.sl (.pr .str QVT2)))) t),(3,dI i),(5,.d (.sl (.pr .str QVT2)) l),(6,dI k),(7,.pb 0 0),(108,dB t108)],138,[],[(0,.box 77 [dS p.1,dI p.2.1,dI p.2.2.1,dB p.2.2.2.1,dI p.2.2.2.2.1.1,d8 p.2.2.2.2.1.2,dI p.2.2.2.2.2.1.1,d8 p.2.2.2.2.2.1.2,dS p.2.2.2.2.2.2])],1,[],0⟩
def qip_ (t:zG3) (i:Int):St:=⟨[(0,.d (.sl (.pr .str (.sl (.pr .str QVT2)))) t),(3,dI i)],138,[],[],0,[],0⟩
def q2t_ (t:zG3) (i:Int) (l:List QVT0) (k j:Int) (p:zG6):St:=⟨[(0,.d (.sl (.pr .str (.sl (.pr .str QVT2)))) t),(3,dI i),(5,.d (.sl (.pr .str QVT2)) l),(6,dI k),(7,.pb 0 0),(10,dI j)],138,[],[(0,.box 77 [dS p.1,dI p.2.1,dI p.2.2.1,dB p.2.2.2.1,dI p.2.2.2.2.1.1,d8 p.2.2.2.2.1.2,dI p.2.2.2.2.2.1.1,d8 p.2.2.2.2.2.1.2,dS p.2.2.2.2.2.2])],1,[],0⟩
def qj1_ (t:zG3) (i:Int) (l:List QVT0) (k j:Int) (t137:Bool) (p:zG6):St:=⟨[(0,.d (.sl (.pr .str (.sl (.pr .str QVT2)))) t),(3,dI i),(5,.d (.sl (.pr .str QVT2)) l),(6,dI k),(7,.pb 0 0),(10,dI j),(137,dB t137)],138,[],[(0,.box 77 [dS p.1,dI p.2.1,dI p.2.2.1,dB p.2.2.2.1,dI p.2.2.2.2.1.1,d8 p.2.2.2.2.1.2,dI p.2.2.2.2.2.1.1,d8 p.2.2.2.2.2.1.2,dS p.2.2.2.2.2.2])],1,[],0⟩
def qfn_ (t:zG3) (i:Int) (l:List QVT0) (k:Int):St:=⟨[(0,.d (.sl (.pr .str (.sl (.pr .str QVT2)))) t),(3,dI i),(5,.d (.sl (.pr .str QVT2)) l),(6,dI k)],138,[],[],0,[],0⟩
@[reducible] def zG14:Type:=List (List UInt8×List QVT0)->Int->Option (As [.bool])
def qng_ (j2:zG14) (t:zG3) (t18:Bool):Option (As [.bool]) :=
 if t18=true then some (false,()) else j2 t 0
@[reducible] def zG15:Type:=List (List UInt8×List QVT0)->Int->Int->Option (As [.bool])
def qcj_ (j3:zG15) (self2:zG14) (t:zG3) (i:Int):Option (As [.bool]) :=
 if lt i (Int.ofNat (List.length t))=true then j3 t i 0 else some (true,())
def qbr_ (j4 self2:zG14) (self3:zG15) (t:zG3) (i k:Int):Option (As [.bool]) :=
 if lt k i=true then Option.bind (at? t k) fun y=>Option.bind (at? t i) fun y_1=>if eqs y.1 y_1.1=true then some (false,()) else self3 t i (add .i64 k 1) else j4 t i
@[reducible] def zG16:Type:=List (List UInt8×List QVT0)->Int->List QVT0->Int->Option (As [.bool])
def qbe_ (j5:zG16) (self2:zG14) (t:zG3) (i:Int):Option (As [.bool]) :=
 Option.bind (at? t i) fun y=>Option.bind (at? t i) fun y_1=>Option.bind (q33_ (y_1.1,())) fun y_2=>if (!y_2.1)=true then some (false,()) else j5 t i y.2 0
def qc0_ (j6:List (List UInt8×List QVT0)->Int->List QVT0->Int->Bool->List UInt8×Int×Int×Bool×(Int×Int)×(Int×Int)×List UInt8->Option (As [.bool])) (j7 self2:zG14) (self5:zG16) (t:zG3) (i:Int) (l:List QVT0) (k:Int):Option (As [.bool]) :=
 if lt k (Int.ofNat (List.length l))=true then Option.bind (at? l k) fun y=>Option.bind (q45_ (y.2.2.2.2.2.2,())) fun y_1=>Option.bind (q33_ (y.1,())) fun y_2=>if (!y_2.1)=true then j6 t i l k true y else if lt y.2.1 0=true then j6 t i l k true y else if gt y.2.1 63=true then j6 t i l k true y else if lt y.2.2.1 0=true then j6 t i l k true y else if gt y.2.2.1 6=true then j6 t i l k true y else Option.bind (q1a_ (y.2.2.2.2.1,())) fun y_3=>if (!y_3.1)=true then j6 t i l k true y else Option.bind (q1a_ (y.2.2.2.2.2.1,())) fun y_4=>if (!y_4.1)=true then j6 t i l k true y else j6 t i l k (!y_1.2.1) y else j7 t i
@[reducible] def zG17:Type:=List (List UInt8×List QVT0)->Int->List QVT0->Int->Int->List UInt8×Int×Int×Bool×(Int×Int)×(Int×Int)×List UInt8->Option (As [.bool])
def qcc_ (j8:zG17) (self2:zG14) (self5:zG16) (t:zG3) (i:Int) (l:List QVT0) (k:Int) (t108:Bool) (p:zG6):Option (As [.bool]) :=
 if t108=true then some (false,()) else Option.bind (q8i_ (p.2.2.2.2.1,p.2.2.2.2.2.1,())) fun y=>if gt y.1 0=true then some (false,()) else j8 t i l k 0 p
def qn7_ (self2:zG14) (t:zG3) (i:Int):Option (As [.bool]) :=
 self2 t (add .i64 i 1)
def qan_ (j9:List (List UInt8×List QVT0)->Int->List QVT0->Int->Int->Bool->List UInt8×Int×Int×Bool×(Int×Int)×(Int×Int)×List UInt8->Option (As [.bool])) (j10:zG16) (self2:zG14) (self5:zG16) (self8:zG17) (t:zG3) (i:Int) (l:List QVT0) (k j:Int) (p:zG6):Option (As [.bool]) :=
 if lt j k=true then Option.bind (at? l j) fun y=>if eqs y.1 p.1=true then j9 t i l k j true p else Option.bind (at? l j) fun y=>j9 t i l k j (eqi y.2.1 p.2.1) p else j10 t i l k
def qny_ (self2:zG14) (self5:zG16) (self8:zG17) (t:zG3) (i:Int) (l:List QVT0) (k j:Int) (t137:Bool) (p:zG6):Option (As [.bool]) :=
 if t137=true then some (false,()) else self8 t i l k (add .i64 j 1) p
def qmd_ (self2:zG14) (self5:zG16) (t:zG3) (i:Int) (l:List QVT0) (k:Int):Option (As [.bool]) :=
 self5 t i l (add .i64 k 1)
def qb3_ (j1:zG5) (t:zG3):Option (As [.bool]) :=
 if lt (Int.ofNat (List.length t)) 1=true then j1 t true else j1 t (gt (Int.ofNat (List.length t)) 8)
def qhi_ (u2:zG14) (u5:zG16) (u8:zG17):=qny_ u2 u5 u8
def qmj_ (u2:zG14) (u5:zG16):=qmd_ u2 u5
def q83_ (u2:zG14) (u5:zG16) (t:zG3) (i:Int) (l:List QVT0) (k j:Int) (p:zG6):Option (As [.bool]) :=
 loopF (fun self s=>qan_ (qhi_ u2 u5 (fun t i l k j p=>self (t,i,l,k,j,p))) (qmj_ u2 u5) u2 u5 (fun t i l k j p=>self (t,i,l,k,j,p)) s.1 s.2.1 s.2.2.1 s.2.2.2.1 s.2.2.2.2.1 s.2.2.2.2.2) 18446744073709551616 (t,i,l,k,j,p)
def qiw_ (u2:zG14) (u5:zG16):=qcc_ (q83_ u2 u5) u2 u5
def qh7_ (u2:zG14):=qn7_ u2
def q8g_ (u2:zG14) (t:zG3) (i:Int) (l:List QVT0) (k:Int):Option (As [.bool]) :=
 loopF (fun self s=>qc0_ (qiw_ u2 (fun t i l k=>self (t,i,l,k))) (qh7_ u2) u2 (fun t i l k=>self (t,i,l,k)) s.1 s.2.1 s.2.2.1 s.2.2.2) 18446744073709551616 (t,i,l,k)
def qaj_ (u2:zG14):=qbe_ (q8g_ u2) u2
def qar_ (u2:zG14) (t:zG3) (i k:Int):Option (As [.bool]) :=
 loopF (fun self s=>qbr_ (qaj_ u2) u2 (fun t i k=>self (t,i,k)) s.1 s.2.1 s.2.2) 18446744073709551616 (t,i,k)
def qbz_ (t:zG3) (i:Int):Option (As [.bool]) :=
 loopF (fun self s=>qcj_ (qar_ (fun t i=>self (t,i))) (fun t i=>self (t,i)) s.1 s.2) 18446744073709551616 (t,i)
def q2s_:=qng_ (qbz_)
def qcy_ (x:As [.sl (.pr .str (.sl (.pr .str QVT2)))]):Option (As [.bool]):=qb3_ q2s_ x.1
noncomputable abbrev ref15_Right_P:=pfn Try.prog qe4_ 6 18446744073709551616 (Ev.get qdq_) 30 q5l_
theorem qxt_ {J w2 w5 w8 t i l k j t137 p}:ref15_Right_P J 489133028 [w2,w5,w8] (qj1_ t i l k j t137 p)=qny_ (fun t i=>w2 (qg_ t i)) (fun t i l k=>w5 (qt_ t i l k)) (fun t i l k j p=>w8 (q2t_ t i l k j p)) t i l k j t137 p:=by kernel_rfl
theorem qt2_ {J w2 w5 t i l k}:ref15_Right_P J 119417 [w2,w5] (qfn_ t i l k)=qmd_ (fun t i=>w2 (qg_ t i)) (fun t i l k=>w5 (qt_ t i l k)) t i l k:=by kernel_rfl
theorem qzd_ {J w2 w5 w8 t i l k j p}:ref15_Right_P J 30570814 [w2,w5,w8] (q2t_ t i l k j p)=qan_ (fun t i l k j t137 p=>J 489133028 [w2,w5,w8] (qj1_ t i l k j t137 p)) (fun t i l k=>J 119417 [w2,w5] (qfn_ t i l k)) (fun t i=>w2 (qg_ t i)) (fun t i l k=>w5 (qt_ t i l k)) (fun t i l k j p=>w8 (q2t_ t i l k j p)) t i l k j p:=by kernel_rfl
theorem q103_ {J w2 w5 t i l k t108 p}:ref15_Right_P J 3821350 [w2,w5] (qis_ t i l k t108 p)=qcc_ (fun t i l k j p=>J 30570814 [w2,w5] (q2t_ t i l k j p)) (fun t i=>w2 (qg_ t i)) (fun t i l k=>w5 (qt_ t i l k)) t i l k t108 p:=by kernel_rfl
theorem qzq_ {J w2 t i}:ref15_Right_P J 233 [w2] (qip_ t i)=qn7_ (fun t i=>w2 (qg_ t i)) t i:=by kernel_rfl
theorem qws_ {J w2 w5 t i l k}:ref15_Right_P J 29854 [w2,w5] (qt_ t i l k)=qc0_ (fun t i l k t108 p=>J 3821350 [w2,w5] (qis_ t i l k t108 p)) (fun t i=>J 233 [w2] (qip_ t i)) (fun t i=>w2 (qg_ t i)) (fun t i l k=>w5 (qt_ t i l k)) t i l k:=by kernel_rfl
theorem qz8_ {J w2 t i}:ref15_Right_P J 932 [w2] (qhr_ t i)=qbe_ (fun t i l k=>J 29854 [w2] (qt_ t i l k)) (fun t i=>w2 (qg_ t i)) t i:=by kernel_rfl
theorem qxa_ {J w2 w3 t i k}:ref15_Right_P J 7458 [w2,w3] (q82_ t i k)=qbr_ (fun t i=>J 932 [w2] (qhr_ t i)) (fun t i=>w2 (qg_ t i)) (fun t i k=>w3 (q82_ t i k)) t i k:=by kernel_rfl
theorem qvz_ {J w2 t i}:ref15_Right_P J 58 [w2] (qg_ t i)=qcj_ (fun t i k=>J 7458 [w2] (q82_ t i k)) (fun t i=>w2 (qg_ t i)) t i:=by kernel_rfl
theorem q104_ {J t t18}:ref15_Right_P J 6 [] (qif_ t t18)=qng_ (fun t i=>J 58 [] (qg_ t i)) t t18:=by kernel_rfl
theorem quy_ (J:Orc (As [.bool])) (x:As [.sl (.pr .str (.sl (.pr .str QVT2)))]):rfn Try.prog qe4_ 6 18446744073709551616 (Ev.get qdq_) 30 q5l_ J x=qb3_ (fun t t18=>J 6 [] (qif_ t t18)) x.1:=by kernel_rfl
noncomputable abbrev ref15_Right_J:=jfn Try.prog qe4_ 6 18446744073709551616 (Ev.get qdq_) 30 q5l_
theorem qwj_  (w2 w5 w8 t i l k j t137 p):ref15_Right_J 489133028 [w2,w5,w8] (qj1_ t i l k j t137 p)=qhi_ (fun t i=>w2 (qg_ t i)) (fun t i l k=>w5 (qt_ t i l k)) (fun t i l k j p=>w8 (q2t_ t i l k j p)) t i l k j t137 p:=gN (by decide) qxt_
theorem qtn_  (w2 w5 t i l k):ref15_Right_J 119417 [w2,w5] (qfn_ t i l k)=qmj_ (fun t i=>w2 (qg_ t i)) (fun t i l k=>w5 (qt_ t i l k)) t i l k:=gN (by decide) qt2_
theorem quk_  (w2 w5 t i l k j p):ref15_Right_J 30570814 [w2,w5] (q2t_ t i l k j p)=q83_ (fun t i=>w2 (qg_ t i)) (fun t i l k=>w5 (qt_ t i l k)) t i l k j p:=gL (σ:=(List (List UInt8×List QVT0))×(Int)×(List QVT0)×(Int)×(Int)×QVT0) (mk:=fun s=>q2t_ s.1 s.2.1 s.2.2.1 s.2.2.2.1 s.2.2.2.2.1 s.2.2.2.2.2) (by decide) (by kernel_rfl) (fun w8 s=>qzd_.trans (by simp only [qwj_,qtn_])) (t,i,l,k,j,p)
theorem qut_  (w2 w5 t i l k t108 p):ref15_Right_J 3821350 [w2,w5] (qis_ t i l k t108 p)=qiw_ (fun t i=>w2 (qg_ t i)) (fun t i l k=>w5 (qt_ t i l k)) t i l k t108 p:=gN (by decide) (q103_.trans (by simp only [quk_]; rfl))
theorem qyh_  (w2 t i):ref15_Right_J 233 [w2] (qip_ t i)=qh7_ (fun t i=>w2 (qg_ t i)) t i:=gN (by decide) qzq_
theorem qx0_  (w2 t i l k):ref15_Right_J 29854 [w2] (qt_ t i l k)=q8g_ (fun t i=>w2 (qg_ t i)) t i l k:=gL (σ:=(List (List UInt8×List QVT0))×(Int)×(List QVT0)×(Int)) (mk:=fun s=>qt_ s.1 s.2.1 s.2.2.1 s.2.2.2) (by decide) (by kernel_rfl) (fun w5 s=>qws_.trans (by simp only [qut_,qyh_])) (t,i,l,k)
theorem qwb_  (w2 t i):ref15_Right_J 932 [w2] (qhr_ t i)=qaj_ (fun t i=>w2 (qg_ t i)) t i:=gN (by decide) (qz8_.trans (by simp only [qx0_]; rfl))
theorem qwu_  (w2 t i k):ref15_Right_J 7458 [w2] (q82_ t i k)=qar_ (fun t i=>w2 (qg_ t i)) t i k:=gL (σ:=(List (List UInt8×List QVT0))×(Int)×(Int)) (mk:=fun s=>q82_ s.1 s.2.1 s.2.2) (by decide) (by kernel_rfl) (fun w3 s=>qxa_.trans (by simp only [qwb_])) (t,i,k)
theorem qxi_  (t i):ref15_Right_J 58 [] (qg_ t i)=qbz_ t i:=gL (σ:=(List (List UInt8×List QVT0))×(Int)) (mk:=fun s=>qg_ s.1 s.2) (by decide) (by kernel_rfl) (fun w2 s=>qvz_.trans (by simp only [qwu_])) (t,i)
theorem qw3_  (t t18):ref15_Right_J 6 [] (qif_ t t18)=q2s_ t t18:=gN (by decide) (q104_.trans (by simp only [qxi_]; rfl))
theorem q12g_ (x:As [.sl (.pr .str (.sl (.pr .str QVT2)))]):evT Try.prog qe4_ 6 18446744073709551616 (Ev.get qdq_) 30 q5l_ x=qcy_ x:=by
 rw [qi_,quy_]
 simp only [qw3_]
 rfl
theorem qz5_:CtOk Try.prog (fun _=>True) 30 ⟨q5l_,qcy_⟩:=qa_ (q2_ qpp_ (q2_ qnl_ (q2_ qap_ (q2_ qr0_ q6_)))) q12g_
@[reducible] def qnn_:Sh:=⟨[.d (.int .u8)],[],[.int .u8],[.d (.bool)],[],0,[.bool]⟩
def qto_ (c:Int):Option (As [.bool]) :=
 if ge c 97=true then if le c 122=true then some (true,()) else if ge c 65=true then if le c 90=true then some (true,()) else some (eqi c 37,()) else some (eqi c 37,()) else if ge c 65=true then if le c 90=true then some (true,()) else some (eqi c 37,()) else some (eqi c 37,())
def q7o_ (x:As [.int .u8]):Option (As [.bool]):=qto_ x.1
theorem qmc_:CtOk Try.prog (fun _=>True) 78 ⟨qnn_,q7o_⟩:=ctn q6_ 6 fun J x=>by kernel_rfl
@[reducible] def qpm_:Sh:=⟨[.d (.int .u8)],[],[.int .u8],[.d (.bool)],[],0,[.bool]⟩
def qwd_ (c:Int):Option (As [.bool]) :=
 if ge c 48=true then some (le c 57,()) else some (false,())
def q70_ (x:As [.int .u8]):Option (As [.bool]):=qwd_ x.1
theorem qnx_:CtOk Try.prog (fun _=>True) 79 ⟨qpm_,q70_⟩:=ctn q6_ 6 fun J x=>by kernel_rfl
@[reducible] def qrw_:Sh:=⟨[.d (.int .u8),.d (.int .u8)],[],[.int .u8,.int .u8],[.d (.bool)],[],0,[.bool]⟩
def q12q_ (kind c:Int):Option (As [.bool]) :=
 if eqi kind 1=true then Option.bind (q7o_ (c,())) fun y=>if y.1=true then some (true,()) else Option.bind (q70_ (c,())) fun y=>if y.1=true then some (true,()) else some (eqi c 95,()) else Option.bind (q70_ (c,())) fun y=>if y.1=true then some (true,()) else if eqi c 46=true then some (true,()) else some (eqi c 45,())
def q66_ (x:As [.int .u8,.int .u8]):Option (As [.bool]):=q12q_ x.1 x.2.1
theorem q11a_:CtOk Try.prog (fun _=>True) 80 ⟨qrw_,q66_⟩:=ctn (q2_ qmc_ (q2_ qnx_ q6_)) 6 fun J x=>by kernel_rfl
@[reducible] def q8m_:Sh:=⟨[.d (.int .i64),.d (.int .i64)],[],[.int .i64,.int .i64],[.d QVT9,.d (.bool)],[],0,[.pr (.int .i64) (.int .u8),.bool]⟩
def qld_:Env:=(cts [])
def qlc_:List (Nat×Hint):=[(3,⟨[],[0,1,4,20,21,24,25]⟩),(14,⟨[],[0,1,4,26]⟩),(12,⟨[],[0,1,4,9,10,11,20,21,24,25]⟩),(48,⟨[.agd 9 (.int .i64),.agd 10 (.int .i64),.agd 11 .bool],[0,1,4,12]⟩)]
def q6y_ (n digits t4 t4_2:Int):St:=⟨[(0,dI n),(1,dI digits),(4,.pb 0 0)],32,[],[(0,.box 75 [dI t4,d8 t4_2])],1,[],0⟩
def qn3_ (n digits:Int) (t12:Bool) (t4 t4_2:Int):St:=⟨[(0,dI n),(1,dI digits),(4,.pb 0 0),(12,dB t12)],32,[],[(0,.box 75 [dI t4,d8 t4_2])],1,[],0⟩
def qn5_ (n digits t4 t4_2:Int):St:=⟨[(0,dI n),(1,dI digits),(4,.pb 0 0)],32,[],[(0,.box 75 [dI t4,d8 t4_2])],1,[],0⟩
def qmz_ (n digits:Int) (t26:Bool) (t4 t4_2:Int):St:=⟨[(0,dI n),(1,dI digits),(4,.pb 0 0),(26,dB t26)],32,[],[(0,.box 75 [dI t4,d8 t4_2])],1,[],0⟩
@[reducible] def zG18:Type:=Int->Int->Bool->Int->Int->Option (As [.pr (.int .i64) (.int .u8),.bool])
@[reducible] def zG19:Type:=Int->Int->Int->Int->Option (As [.pr (.int .i64) (.int .u8),.bool])
def q42_ (j2:zG18) (self1:zG19) (n digits t4 t4_2:Int):Option (As [.pr (.int .i64) (.int .u8),.bool]) :=
 if gt digits 0=true then j2 n digits (eqi (rem n 10) 0) t4 t4_2 else j2 n digits false t4 t4_2
def q9a_ (j3 self1:zG19) (n digits:Int) (t12:Bool) (t4 t4_2:Int):Option (As [.pr (.int .i64) (.int .u8),.bool]) :=
 if t12=true then self1 (quo .i64 n 10) (Sx.sub .i64 digits 1) t4 t4_2 else j3 n digits t4 t4_2
def qj6_ (j4:zG18) (n digits t4 t4_2:Int):Option (As [.pr (.int .i64) (.int .u8),.bool]) :=
 if gt digits 6=true then j4 n digits true t4 t4_2 else if gt n 1000000000000=true then j4 n digits true t4 t4_2 else j4 n digits (lt n (-1000000000000)) t4 t4_2
def qjb_ (n digits:Int) (t26:Bool) (t4 t4_2:Int):Option (As [.pr (.int .i64) (.int .u8),.bool]) :=
 if t26=true then some ((0,0),false,()) else some ((n,cvt .u8 digits),true,())
def qso_ (j1:zG19) (n digits:Int):Option (As [.pr (.int .i64) (.int .u8),.bool]) :=
 j1 n digits 0 0
def qcz_:=qjb_
def qd3_:=qj6_ (qcz_)
def q26_ (u1:zG19):=q9a_ (qd3_) u1
def qsp_ (n digits t4 t4_2:Int):Option (As [.pr (.int .i64) (.int .u8),.bool]) :=
 loopF (fun self s=>q42_ (q26_ (fun n digits t4 t4_2=>self (n,digits,t4,t4_2))) (fun n digits t4 t4_2=>self (n,digits,t4,t4_2)) s.1 s.2.1 s.2.2.1 s.2.2.2) 18446744073709551616 (n,digits,t4,t4_2)
def q9u_ (x:As [.int .i64,.int .i64]):Option (As [.pr (.int .i64) (.int .u8),.bool]):=qso_ qsp_ x.1 x.2.1
noncomputable abbrev ref12_Of_P:=pfn Try.prog qld_ 6 18446744073709551616 (Ev.get qlc_) 83 q8m_
theorem q165_ {J n digits t26 t4 t4_2}:ref12_Of_P J 14 [] (qmz_ n digits t26 t4 t4_2)=qjb_ n digits t26 t4 t4_2:=by kernel_rfl
theorem q15p_ {J n digits t4 t4_2}:ref12_Of_P J 3 [] (qn5_ n digits t4 t4_2)=qj6_ (fun n digits t26 t4 t4_2=>J 14 [] (qmz_ n digits t26 t4 t4_2)) n digits t4 t4_2:=by kernel_rfl
theorem q15y_ {J w1 n digits t12 t4 t4_2}:ref12_Of_P J 48 [w1] (qn3_ n digits t12 t4 t4_2)=q9a_ (fun n digits t4 t4_2=>J 3 [] (qn5_ n digits t4 t4_2)) (fun n digits t4 t4_2=>w1 (q6y_ n digits t4 t4_2)) n digits t12 t4 t4_2:=by kernel_rfl
theorem q163_ {J w1 n digits t4 t4_2}:ref12_Of_P J 12 [w1] (q6y_ n digits t4 t4_2)=q42_ (fun n digits t12 t4 t4_2=>J 48 [w1] (qn3_ n digits t12 t4 t4_2)) (fun n digits t4 t4_2=>w1 (q6y_ n digits t4 t4_2)) n digits t4 t4_2:=by kernel_rfl
theorem q160_ (J:Orc (As [.pr (.int .i64) (.int .u8),.bool])) (x:As [.int .i64,.int .i64]):rfn Try.prog qld_ 6 18446744073709551616 (Ev.get qlc_) 83 q8m_ J x=qso_ (fun n digits t4 t4_2=>J 12 [] (q6y_ n digits t4 t4_2)) x.1 x.2.1:=by kernel_rfl
noncomputable abbrev ref12_Of_J:=jfn Try.prog qld_ 6 18446744073709551616 (Ev.get qlc_) 83 q8m_
theorem q16c_  (n digits t26 t4 t4_2):ref12_Of_J 14 [] (qmz_ n digits t26 t4 t4_2)=qcz_ n digits t26 t4 t4_2:=gN (by decide) q165_
theorem q161_  (n digits t4 t4_2):ref12_Of_J 3 [] (qn5_ n digits t4 t4_2)=qd3_ n digits t4 t4_2:=gN (by decide) (q15p_.trans (by simp only [q16c_]; rfl))
theorem q15q_  (w1 n digits t12 t4 t4_2):ref12_Of_J 48 [w1] (qn3_ n digits t12 t4 t4_2)=q26_ (fun n digits t4 t4_2=>w1 (q6y_ n digits t4 t4_2)) n digits t12 t4 t4_2:=gN (by decide) (q15y_.trans (by simp only [q161_]; rfl))
theorem q15t_  (n digits t4 t4_2):ref12_Of_J 12 [] (q6y_ n digits t4 t4_2)=qsp_ n digits t4 t4_2:=gL (σ:=(Int)×(Int)×(Int)×(Int)) (mk:=fun s=>q6y_ s.1 s.2.1 s.2.2.1 s.2.2.2) (by decide) (by kernel_rfl) (fun w1 s=>q163_.trans (by simp only [q15q_])) (n,digits,t4,t4_2)
theorem q16d_ (x:As [.int .i64,.int .i64]):evT Try.prog qld_ 6 18446744073709551616 (Ev.get qlc_) 83 q8m_ x=q9u_ x:=by
 rw [qi_,q160_]
 simp only [q15t_]
 rfl
theorem qsq_:CtOk Try.prog (fun _=>True) 83 ⟨q8m_,q9u_⟩:=qa_ q6_ q16d_
end Go.Proofs.Lx
end
