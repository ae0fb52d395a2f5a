/- Proved in the last of these 13 parts (this is part 8): PlanMeans: whatever the table, the recipe and the bank, the law returns true.. Conditions: those of the given statement, and no others. -/
import Derived.Test.YtnamnibaedolaaaParte
import Derived.Test.YtnamnibaedolaaaPartg
import Derived.Test.YtnamnibaedolaaaProg
import Derived.Test.YtnamnibaedolaaaPartf
set_option linter.unusedVariables false
set_option linter.unusedSimpArgs false
set_option linter.unusedSectionVars false
section
open Go Go.Proofs Ev Sx
set_option maxRecDepth 100000
namespace Go.Proofs.Lx
@[reducible] def q1j_:Sh:=⟨[.d (.pr .str (.sl (.pr .str QVT2)))],[],[.pr .str (.sl (.pr .str QVT2))],[.d (.bool)],[],0,[.bool]⟩
def q43_:Env:=(cts [(68,(⟨qds_,q8a_⟩:Ct)),(70,(⟨q1q_,q1a_⟩:Ct))])
def q48_:List (Nat×Hint):=[(122,⟨[],[3,4,20,21,22,30,31,32,33,34,37,38,39,40,41]⟩),(7833,⟨[.agd 32 .str,.agd 33 .bool,.agd 34 .bool,.agd 39 (.int .i64),.agd 40 .bool,.agd 41 .bool],[3,4,20,21,22,42]⟩),(6,⟨[],[1,16,30,31,32,33,34,37,38,39,40,41]⟩)]
@[reducible] def zH0:Type:=List UInt8×List QVT0
def q69_ (t16:Bool) (d:zH0):St:=⟨[(1,.pb 0 0),(16,dB t16)],44,[],[(0,.box 67 [dS d.1,.d (.sl (.pr .str QVT2)) d.2])],1,[],0⟩
@[reducible] def zH1:Type:=List (List UInt8×Unit)
@[reducible] def zH2:Type:=List (Int×Unit)
def q13_ (t20:List QVT0) (t21 t22:Int) (o:zH1) (o_2:zH2):St:=⟨[(3,.fn (.func 56) [] [.pb 0 0]),(4,.fn (.func 84) [] [.pb 2 0]),(20,.d (.sl (.pr .str QVT2)) t20),(21,dI t21),(22,dI t22)],44,[],[(0,.box 108 [.mp 1]),(1,.dm .str .un o),(2,.box 140 [.mp 3]),(3,.dm (.int .i64) .un o_2)],4,[],0⟩
def q68_ (t20:List QVT0) (t21 t22:Int) (t42:Bool) (o:zH1) (o_2:zH2):St:=⟨[(3,.fn (.func 56) [] [.pb 0 0]),(4,.fn (.func 84) [] [.pb 2 0]),(20,.d (.sl (.pr .str QVT2)) t20),(21,dI t21),(22,dI t22),(42,dB t42)],44,[],[(0,.box 108 [.mp 1]),(1,.dm .str .un o),(2,.box 140 [.mp 3]),(3,.dm (.int .i64) .un o_2)],4,[],0⟩
@[reducible] def zH3:Type:=List QVT0->Int->Int->List (List UInt8×Unit)->List (Int×Unit)->Option (As [.bool])
def qal_ (j2:zH3) (t16:Bool) (d:zH0):Option (As [.bool]) :=
 if t16=true then some (false,()) else j2 d.2 (Int.ofNat (List.length d.2)) 0 [] []
def q1e_ (j3:List QVT0->Int->Int->Bool->List (List UInt8×Unit)->List (Int×Unit)->Option (As [.bool])) (self2:zH3) (t20:List QVT0) (t21 t22:Int) (o:zH1) (o_2:zH2):Option (As [.bool]) :=
 if lt t22 t21=true then Option.bind (at? t20 t22) fun y=>Option.bind (q1a_ (y,())) fun y_1=>if (!y_1.1)=true then j3 t20 t21 t22 true o o_2 else if (!!Ev.isV .un (Ev.dget .str o y.1))=true then j3 t20 t21 t22 true (Ev.dput .str o y.1 ()) o_2 else j3 t20 t21 t22 (!!Ev.isV .un (Ev.dget (.int .i64) o_2 y.2.1)) (Ev.dput .str o y.1 ()) (Ev.dput (.int .i64) o_2 y.2.1 ()) else some (true,())
def q37_ (self2:zH3) (t20:List QVT0) (t21 t22:Int) (t42:Bool) (o:zH1) (o_2:zH2):Option (As [.bool]) :=
 if t42=true then some (false,()) else self2 t20 t21 (add .i64 t22 1) o o_2
def q34_ (j1:Bool->List UInt8×List QVT0->Option (As [.bool])) (d:zH0):Option (As [.bool]) :=
 Option.bind (q8a_ (d.1,())) fun y=>if (!y.1)=true then j1 true d else j1 (gt (Int.ofNat (List.length d.2)) 64) d
def q23_ (u2:zH3) (t20:List QVT0) (t21 t22:Int) (t42:Bool) (o:zH1) (o_2:zH2):Option (As [.bool]):=q37_ u2 t20 t21 t22 t42 o o_2
def q33_ (t20:List QVT0) (t21 t22:Int) (o:zH1) (o_2:zH2):Option (As [.bool]) :=
 loopF (fun (self:(List QVT0)×(Int)×(Int)×(List (List UInt8×Unit))×(List (Int×Unit))->Option (As [.bool])) (s:(List QVT0)×(Int)×(Int)×(List (List UInt8×Unit))×(List (Int×Unit)))=>q1e_ (q23_ (fun t20 t21 t22 o o_2=>self (t20,t21,t22,o,o_2))) (fun t20 t21 t22 o o_2=>self (t20,t21,t22,o,o_2)) s.1 s.2.1 s.2.2.1 s.2.2.2.1 s.2.2.2.2) 18446744073709551616 (t20,t21,t22,o,o_2)
def q14_ (t16:Bool) (d:zH0):Option (As [.bool]):=qal_ (q33_) t16 d
def q18_ (x:As [.pr .str (.sl (.pr .str QVT2))]):Option (As [.bool]):=q34_ q14_ x.1
noncomputable abbrev valid_rightDevice_P:=pfn Try.prog q43_ 6 18446744073709551616 (Ev.get q48_) 52 q1j_
theorem qfj_ {J w2 t20 t21 t22 t42 o o_2}:valid_rightDevice_P J 7833 [w2] (q68_ t20 t21 t22 t42 o o_2)=q37_ (fun t20 t21 t22 o o_2=>w2 (q13_ t20 t21 t22 o o_2)) t20 t21 t22 t42 o o_2:=by kernel_rfl
theorem qfk_ {J w2 t20 t21 t22 o o_2}:valid_rightDevice_P J 122 [w2] (q13_ t20 t21 t22 o o_2)=q1e_ (fun t20 t21 t22 t42 o o_2=>J 7833 [w2] (q68_ t20 t21 t22 t42 o o_2)) (fun t20 t21 t22 o o_2=>w2 (q13_ t20 t21 t22 o o_2)) t20 t21 t22 o o_2:=by kernel_rfl
theorem qfv_ {J t16 d}:valid_rightDevice_P J 6 [] (q69_ t16 d)=qal_ (fun t20 t21 t22 o o_2=>J 122 [] (q13_ t20 t21 t22 o o_2)) t16 d:=by kernel_rfl
theorem qfp_ (J:Orc (As [.bool])) (x:As [.pr .str (.sl (.pr .str QVT2))]):rfn Try.prog q43_ 6 18446744073709551616 (Ev.get q48_) 52 q1j_ J x=q34_ (fun t16 d=>J 6 [] (q69_ t16 d)) x.1:=by kernel_rfl
noncomputable abbrev valid_rightDevice_J:=jfn Try.prog q43_ 6 18446744073709551616 (Ev.get q48_) 52 q1j_
theorem qfs_  (w2 t20 t21 t22 t42 o o_2):valid_rightDevice_J 7833 [w2] (q68_ t20 t21 t22 t42 o o_2)=q23_ (fun t20 t21 t22 o o_2=>w2 (q13_ t20 t21 t22 o o_2)) t20 t21 t22 t42 o o_2:=gN (by decide) qfj_
theorem qfn_  (t20 t21 t22 o o_2):valid_rightDevice_J 122 [] (q13_ t20 t21 t22 o o_2)=q33_ t20 t21 t22 o o_2:=gL (σ:=(List QVT0)×(Int)×(Int)×(List (List UInt8×Unit))×(List (Int×Unit))) (mk:=fun s=>q13_ s.1 s.2.1 s.2.2.1 s.2.2.2.1 s.2.2.2.2) (by decide) (by kernel_rfl) (fun w2 s=>qfk_.trans (by simp only [qfs_])) (t20,t21,t22,o,o_2)
theorem qfq_  (t16 d):valid_rightDevice_J 6 [] (q69_ t16 d)=q14_ t16 d:=gN (by decide) (qfv_.trans (by simp only [qfn_]; rfl))
theorem qgp_ (x:As [.pr .str (.sl (.pr .str QVT2))]):evT Try.prog q43_ 6 18446744073709551616 (Ev.get q48_) 52 q1j_ x=q18_ x:=by
 rw [rfn_eq,qfp_]
 simp only [qfq_]
 rfl
theorem qft_:CtOk Try.prog (fun _=>True) 52 ⟨q1j_,q18_⟩:=qh_ (q3_ qg2_ (q3_ qgl_ qc_)) qgp_
@[reducible] def q4f_:Sh:=⟨[.d (.sl (.pr .str (.sl (.pr .str QVT2))))],[],[.sl (.pr .str (.sl (.pr .str QVT2)))],[.d (.bool)],[],0,[.bool]⟩
def q97_:Env:=(cts [(52,(⟨q1j_,q18_⟩:Ct))])
def q91_:List (Nat×Hint):=[(122,⟨[],[3,15,16,17,25,26,27,28,29]⟩),(7833,⟨[.agd 27 .str,.agd 28 .bool,.agd 29 .bool],[3,15,16,17,30]⟩),(6,⟨[],[0,13,25,26,27,28,29]⟩)]
@[reducible] def zH4:Type:=List (List UInt8×List QVT0)
def qbx_ (t:zH4) (t13:Bool):St:=⟨[(0,.d (.sl (.pr .str (.sl (.pr .str QVT2)))) t),(13,dB t13)],32,[],[],0,[],0⟩
def q29_ (t15:zH4) (t16 t17:Int) (o:zH1):St:=⟨[(3,.fn (.func 56) [] [.pb 0 0]),(15,.d (.sl (.pr .str (.sl (.pr .str QVT2)))) t15),(16,dI t16),(17,dI t17)],32,[],[(0,.box 108 [.mp 1]),(1,.dm .str .un o)],2,[],0⟩
def qbt_ (t15:zH4) (t16 t17:Int) (t30:Bool) (o:zH1):St:=⟨[(3,.fn (.func 56) [] [.pb 0 0]),(15,.d (.sl (.pr .str (.sl (.pr .str QVT2)))) t15),(16,dI t16),(17,dI t17),(30,dB t30)],32,[],[(0,.box 108 [.mp 1]),(1,.dm .str .un o)],2,[],0⟩
@[reducible] def zH5:Type:=List (List UInt8×List QVT0)->Int->Int->List (List UInt8×Unit)->Option (As [.bool])
def qfi_ (j2:zH5) (t:zH4) (t13:Bool):Option (As [.bool]) :=
 if t13=true then some (false,()) else j2 t (Int.ofNat (List.length t)) 0 []
def q3s_ (j3:List (List UInt8×List QVT0)->Int->Int->Bool->List (List UInt8×Unit)->Option (As [.bool])) (self2:zH5) (t15:zH4) (t16 t17:Int) (o:zH1):Option (As [.bool]) :=
 if lt t17 t16=true then Option.bind (at? t15 t17) fun y=>Option.bind (q18_ (y,())) fun y_1=>if (!y_1.1)=true then j3 t15 t16 t17 true o else j3 t15 t16 t17 (!!Ev.isV .un (Ev.dget .str o y.1)) (Ev.dput .str o y.1 ()) else some (true,())
def q7l_ (self2:zH5) (t15:zH4) (t16 t17:Int) (t30:Bool) (o:zH1):Option (As [.bool]) :=
 if t30=true then some (false,()) else self2 t15 t16 (add .i64 t17 1) o
@[reducible] def zH6:Type:=List (List UInt8×List QVT0)->Bool->Option (As [.bool])
def q8d_ (j1:zH6) (t:zH4):Option (As [.bool]) :=
 if lt (Int.ofNat (List.length t)) 1=true then j1 t true else j1 t (gt (Int.ofNat (List.length t)) 8)
def q5k_ (u2:zH5) (t15:zH4) (t16 t17:Int) (t30:Bool) (o:zH1):Option (As [.bool]):=q7l_ u2 t15 t16 t17 t30 o
def q7i_ (t15:zH4) (t16 t17:Int) (o:zH1):Option (As [.bool]) :=
 loopF (fun (self:(List (List UInt8×List QVT0))×(Int)×(Int)×(List (List UInt8×Unit))->Option (As [.bool])) (s:(List (List UInt8×List QVT0))×(Int)×(Int)×(List (List UInt8×Unit)))=>q3s_ (q5k_ (fun t15 t16 t17 o=>self (t15,t16,t17,o))) (fun t15 t16 t17 o=>self (t15,t16,t17,o)) s.1 s.2.1 s.2.2.1 s.2.2.2) 18446744073709551616 (t15,t16,t17,o)
def q28_ (t:zH4) (t13:Bool):Option (As [.bool]):=qfi_ (q7i_) t t13
def q8h_ (x:As [.sl (.pr .str (.sl (.pr .str QVT2)))]):Option (As [.bool]):=q8d_ q28_ x.1
noncomputable abbrev valid_Right_P:=pfn Try.prog q97_ 6 18446744073709551616 (Ev.get q91_) 34 q4f_
theorem qmo_ {J w2 t15 t16 t17 t30 o}:valid_Right_P J 7833 [w2] (qbt_ t15 t16 t17 t30 o)=q7l_ (fun t15 t16 t17 o=>w2 (q29_ t15 t16 t17 o)) t15 t16 t17 t30 o:=by kernel_rfl
theorem qma_ {J w2 t15 t16 t17 o}:valid_Right_P J 122 [w2] (q29_ t15 t16 t17 o)=q3s_ (fun t15 t16 t17 t30 o=>J 7833 [w2] (qbt_ t15 t16 t17 t30 o)) (fun t15 t16 t17 o=>w2 (q29_ t15 t16 t17 o)) t15 t16 t17 o:=by kernel_rfl
theorem qkk_ {J t t13}:valid_Right_P J 6 [] (qbx_ t t13)=qfi_ (fun t15 t16 t17 o=>J 122 [] (q29_ t15 t16 t17 o)) t t13:=by kernel_rfl
theorem qlk_ (J:Orc (As [.bool])) (x:As [.sl (.pr .str (.sl (.pr .str QVT2)))]):rfn Try.prog q97_ 6 18446744073709551616 (Ev.get q91_) 34 q4f_ J x=q8d_ (fun t t13=>J 6 [] (qbx_ t t13)) x.1:=by kernel_rfl
noncomputable abbrev valid_Right_J:=jfn Try.prog q97_ 6 18446744073709551616 (Ev.get q91_) 34 q4f_
theorem qk1_  (w2 t15 t16 t17 t30 o):valid_Right_J 7833 [w2] (qbt_ t15 t16 t17 t30 o)=q5k_ (fun t15 t16 t17 o=>w2 (q29_ t15 t16 t17 o)) t15 t16 t17 t30 o:=gN (by decide) qmo_
theorem qmm_  (t15 t16 t17 o):valid_Right_J 122 [] (q29_ t15 t16 t17 o)=q7i_ t15 t16 t17 o:=gL (σ:=(List (List UInt8×List QVT0))×(Int)×(Int)×(List (List UInt8×Unit))) (mk:=fun s=>q29_ s.1 s.2.1 s.2.2.1 s.2.2.2) (by decide) (by kernel_rfl) (fun w2 s=>qma_.trans (by simp only [qk1_])) (t15,t16,t17,o)
theorem qn4_  (t t13):valid_Right_J 6 [] (qbx_ t t13)=q28_ t t13:=gN (by decide) (qkk_.trans (by simp only [qmm_]; rfl))
theorem qql_ (x:As [.sl (.pr .str (.sl (.pr .str QVT2)))]):evT Try.prog q97_ 6 18446744073709551616 (Ev.get q91_) 34 q4f_ x=q8h_ x:=by
 rw [rfn_eq,qlk_]
 simp only [qn4_]
 rfl
theorem qkz_:CtOk Try.prog (fun _=>True) 34 ⟨q4f_,q8h_⟩:=qh_ (q3_ qft_ qc_) qql_
@[reducible] def q2y_:Sh:=⟨[.d (.pr .str (.sl (.pr .str QVT2))),.d (.str)],[],[.pr .str (.sl (.pr .str QVT2)),.str],[.d (.pr .str QVT2),.d (.bool)],[],0,[.pr .str QVT2,.bool]⟩
def q9n_:Env:=(cts [])
def q8t_:List (Nat×Hint):=[(3,⟨[],[4]⟩),(26,⟨[],[1,4,9,10,11]⟩)]
@[reducible] def zH7:Type:=List UInt8×Int×Int×Bool×(Int×Int)×(Int×Int)×List UInt8
def q5e_ (name:List UInt8) (t9:List QVT0) (t10 t11:Int) (t4:zH7):St:=⟨[(1,dS name),(4,.pb 0 0),(9,.d (.sl (.pr .str QVT2)) t9),(10,dI t10),(11,dI t11)],22,[],[(0,.box 77 [dS t4.1,dI t4.2.1,dI t4.2.2.1,dB t4.2.2.2.1,dI t4.2.2.2.2.1.1,d8 t4.2.2.2.2.1.2,dI t4.2.2.2.2.2.1.1,d8 t4.2.2.2.2.2.1.2,dS t4.2.2.2.2.2.2])],1,[],0⟩
def qc4_ (t4:zH7):St:=⟨[(4,.pb 0 0)],22,[],[(0,.box 77 [dS t4.1,dI t4.2.1,dI t4.2.2.1,dB t4.2.2.2.1,dI t4.2.2.2.2.1.1,d8 t4.2.2.2.2.1.2,dI t4.2.2.2.2.2.1.1,d8 t4.2.2.2.2.2.1.2,dS t4.2.2.2.2.2.2])],1,[],0⟩
@[reducible] def zH8:Type:=List UInt8->List QVT0->Int->Int->List UInt8×Int×Int×Bool×(Int×Int)×(Int×Int)×List UInt8->Option (As [.pr .str QVT2,.bool])
def q3i_ (j2:List UInt8×Int×Int×Bool×(Int×Int)×(Int×Int)×List UInt8->Option (As [.pr .str QVT2,.bool])) (self1:zH8) (name:List UInt8) (t9:List QVT0) (t10 t11:Int) (t4:zH7):Option (As [.pr .str QVT2,.bool]) :=
 if lt t11 t10=true then Option.bind (at? t9 t11) fun y=>if eqs y.1 name=true then some (y,true,()) else self1 name t9 t10 (add .i64 t11 1) t4 else j2 t4
def qem_ (t4:zH7):Option (As [.pr .str QVT2,.bool]) :=
 some (([],0,0,false,(0,0),(0,0),[]),false,())
def qf3_ (j1:zH8) (d:zH0) (name:List UInt8):Option (As [.pr .str QVT2,.bool]) :=
 j1 name d.2 (Int.ofNat (List.length d.2)) 0 ([],0,0,false,(0,0),(0,0),[])
def q85_ (t4:zH7):Option (As [.pr .str QVT2,.bool]):=qem_ t4
def q7c_ (name:List UInt8) (t9:List QVT0) (t10 t11:Int) (t4:zH7):Option (As [.pr .str QVT2,.bool]) :=
 loopF (fun (self:(List UInt8)×(List QVT0)×(Int)×(Int)×QVT0->Option (As [.pr .str QVT2,.bool])) (s:(List UInt8)×(List QVT0)×(Int)×(Int)×QVT0)=>q3i_ (q85_) (fun name t9 t10 t11 t4=>self (name,t9,t10,t11,t4)) s.1 s.2.1 s.2.2.1 s.2.2.2.1 s.2.2.2.2) 18446744073709551616 (name,t9,t10,t11,t4)
def q2h_ (x:As [.pr .str (.sl (.pr .str QVT2)),.str]):Option (As [.pr .str QVT2,.bool]):=qf3_ q7c_ x.1 x.2.1
noncomputable abbrev valid_point_P:=pfn Try.prog q9n_ 6 18446744073709551616 (Ev.get q8t_) 37 q2y_
theorem qkw_ {J t4}:valid_point_P J 3 [] (qc4_ t4)=qem_ t4:=by kernel_rfl
theorem qjv_ {J w1 name t9 t10 t11 t4}:valid_point_P J 26 [w1] (q5e_ name t9 t10 t11 t4)=q3i_ (fun t4=>J 3 [] (qc4_ t4)) (fun name t9 t10 t11 t4=>w1 (q5e_ name t9 t10 t11 t4)) name t9 t10 t11 t4:=by kernel_rfl
theorem qjp_ (J:Orc (As [.pr .str QVT2,.bool])) (x:As [.pr .str (.sl (.pr .str QVT2)),.str]):rfn Try.prog q9n_ 6 18446744073709551616 (Ev.get q8t_) 37 q2y_ J x=qf3_ (fun name t9 t10 t11 t4=>J 26 [] (q5e_ name t9 t10 t11 t4)) x.1 x.2.1:=by kernel_rfl
noncomputable abbrev valid_point_J:=jfn Try.prog q9n_ 6 18446744073709551616 (Ev.get q8t_) 37 q2y_
theorem qnm_  (t4):valid_point_J 3 [] (qc4_ t4)=q85_ t4:=gN (by decide) qkw_
theorem qkl_  (name t9 t10 t11 t4):valid_point_J 26 [] (q5e_ name t9 t10 t11 t4)=q7c_ name t9 t10 t11 t4:=gL (σ:=(List UInt8)×(List QVT0)×(Int)×(Int)×QVT0) (mk:=fun s=>q5e_ s.1 s.2.1 s.2.2.1 s.2.2.2.1 s.2.2.2.2) (by decide) (by kernel_rfl) (fun w1 s=>qjv_.trans (by simp only [qnm_])) (name,t9,t10,t11,t4)
theorem qq0_ (x:As [.pr .str (.sl (.pr .str QVT2)),.str]):evT Try.prog q9n_ 6 18446744073709551616 (Ev.get q8t_) 37 q2y_ x=q2h_ x:=by
 rw [rfn_eq,qjp_]
 simp only [qkl_]
 rfl
theorem qmg_:CtOk Try.prog (fun _=>True) 37 ⟨q2y_,q2h_⟩:=qh_ qc_ qq0_
@[reducible] def q2z_:Sh:=⟨[.d (.sl (.pr .str (.sl (.pr .str QVT2)))),.d (.pr .str QVT5)],[],[.sl (.pr .str (.sl (.pr .str QVT2))),.pr .str QVT5],[.d QVT8],[],0,[.pr (.int .i64) (.int .i64)]⟩
def q94_:Env:=(cts [(27,(⟨q40_,q1k_⟩:Ct)),(29,(⟨q61_,qv_⟩:Ct)),(34,(⟨q4f_,q8h_⟩:Ct)),(35,(⟨q3u_,q3w_⟩:Ct)),(37,(⟨q2y_,q2h_⟩:Ct))])
def q9b_:List (Nat×Hint):=[(122,⟨[],[0,4,5,28,29,30,44,45,46,47,48,74,75,76,77,78]⟩),(250686,⟨[],[0,4,5,8,10,28,29,30,44,45,46,47,48,55,56,57,74,75,76,77,78]⟩),(16043929,⟨[],[0,4,5,8,10,12,13,14,28,29,30,44,45,46,47,48,55,56,57,74,75,76,77,78]⟩),(64175718,⟨[.agd 76 .str,.agd 77 .bool,.agd 78 .bool],[0,4,5,8,10,12,13,28,29,30,55,56,57,79]⟩),(31334,⟨[.agd 46 .str,.agd 47 .bool,.agd 48 .bool],[0,4,5,7,8,28,29,30,49]⟩),(6,⟨[],[0,3,4,24,44,45,46,47,48,74,75,76,77,78]⟩)]
@[reducible] def zH9:Type:=List UInt8×List QVT1
def qc3_ (t:zH4) (t24:Bool) (r:zH9) (t4:Int×Int):St:=⟨[(0,.d (.sl (.pr .str (.sl (.pr .str QVT2)))) t),(3,.pb 0 0),(4,.pb 1 0),(24,dB t24)],98,[],[(0,.box 42 [dS r.1,.d QVT5 r.2]),(1,.box 50 [dI t4.1,dI t4.2])],2,[],0⟩
def qo_ (t:zH4) (t28:List QVT1) (t29 t30:Int) (t4:Int×Int) (o:zH1):St:=⟨[(0,.d (.sl (.pr .str (.sl (.pr .str QVT2)))) t),(4,.pb 0 0),(5,.fn (.func 56) [] [.pb 1 0]),(28,.d QVT5 t28),(29,dI t29),(30,dI t30)],98,[],[(0,.box 50 [dI t4.1,dI t4.2]),(1,.box 108 [.mp 2]),(2,.dm .str .un o)],3,[],0⟩
@[reducible] def zH10:Type:=List UInt8×Int×List QVT4
def qbg_ (t:zH4) (i:Int) (t28:List QVT1) (t29 t30:Int) (t49:Bool) (t4:Int×Int) (o:zH1) (part:zH10):St:=⟨[(0,.d (.sl (.pr .str (.sl (.pr .str QVT2)))) t),(4,.pb 0 0),(5,.fn (.func 56) [] [.pb 1 0]),(7,.pb 3 0),(8,dI i),(28,.d QVT5 t28),(29,dI t29),(30,dI t30),(49,dB t49)],98,[],[(0,.box 50 [dI t4.1,dI t4.2]),(1,.box 108 [.mp 2]),(2,.dm .str .un o),(3,.box 80 [dS part.1,dI part.2.1,.d (.sl (.pr .str QVT7)) part.2.2])],4,[],0⟩
def q1g_ (t:zH4) (i:Int) (t28:List QVT1) (t29 t30:Int) (t55:List QVT4) (t56 t57:Int) (t4:Int×Int) (o o_2:zH1):St:=⟨[(0,.d (.sl (.pr .str (.sl (.pr .str QVT2)))) t),(4,.pb 0 0),(5,.fn (.func 56) [] [.pb 1 0]),(8,dI i),(10,.fn (.func 56) [] [.pb 3 0]),(28,.d QVT5 t28),(29,dI t29),(30,dI t30),(55,.d (.sl (.pr .str QVT7)) t55),(56,dI t56),(57,dI t57)],98,[],[(0,.box 50 [dI t4.1,dI t4.2]),(1,.box 108 [.mp 2]),(2,.dm .str .un o),(3,.box 108 [.mp 4]),(4,.dm .str .un o_2)],5,[],0⟩
@[reducible] def zH11:Type:=List UInt8×(Int×Int)×List UInt8×Int
def qbm_ (t:zH4) (i:Int) (ok:Bool) (t28:List QVT1) (t29 t30:Int) (t55:List QVT4) (t56 t57:Int) (t4:Int×Int) (o o_2:zH1) (s:zH11) (p:zH7):St:=⟨[(0,.d (.sl (.pr .str (.sl (.pr .str QVT2)))) t),(4,.pb 0 0),(5,.fn (.func 56) [] [.pb 1 0]),(8,dI i),(10,.fn (.func 56) [] [.pb 3 0]),(12,.pb 5 0),(13,.pb 6 0),(14,dB ok),(28,.d QVT5 t28),(29,dI t29),(30,dI t30),(55,.d (.sl (.pr .str QVT7)) t55),(56,dI t56),(57,dI t57)],98,[],[(0,.box 50 [dI t4.1,dI t4.2]),(1,.box 108 [.mp 2]),(2,.dm .str .un o),(3,.box 108 [.mp 4]),(4,.dm .str .un o_2),(5,.box 82 [dS s.1,dI s.2.1.1,d8 s.2.1.2,dS s.2.2.1,dI s.2.2.2]),(6,.box 77 [dS p.1,dI p.2.1,dI p.2.2.1,dB p.2.2.2.1,dI p.2.2.2.2.1.1,d8 p.2.2.2.2.1.2,dI p.2.2.2.2.2.1.1,d8 p.2.2.2.2.2.1.2,dS p.2.2.2.2.2.2])],7,[],0⟩
def qbz_ (t:zH4) (i:Int) (t28:List QVT1) (t29 t30:Int) (t55:List QVT4) (t56 t57:Int) (t79:Bool) (t4:Int×Int) (o o_2:zH1) (s:zH11) (p:zH7):St:=⟨[(0,.d (.sl (.pr .str (.sl (.pr .str QVT2)))) t),(4,.pb 0 0),(5,.fn (.func 56) [] [.pb 1 0]),(8,dI i),(10,.fn (.func 56) [] [.pb 3 0]),(12,.pb 5 0),(13,.pb 6 0),(28,.d QVT5 t28),(29,dI t29),(30,dI t30),(55,.d (.sl (.pr .str QVT7)) t55),(56,dI t56),(57,dI t57),(79,dB t79)],98,[],[(0,.box 50 [dI t4.1,dI t4.2]),(1,.box 108 [.mp 2]),(2,.dm .str .un o),(3,.box 108 [.mp 4]),(4,.dm .str .un o_2),(5,.box 82 [dS s.1,dI s.2.1.1,d8 s.2.1.2,dS s.2.2.1,dI s.2.2.2]),(6,.box 77 [dS p.1,dI p.2.1,dI p.2.2.1,dB p.2.2.2.1,dI p.2.2.2.2.1.1,d8 p.2.2.2.2.1.2,dI p.2.2.2.2.2.1.1,d8 p.2.2.2.2.2.1.2,dS p.2.2.2.2.2.2])],7,[],0⟩
@[reducible] def zH12:Type:=List (List UInt8×List QVT0)->List QVT1->Int->Int->Int×Int->List (List UInt8×Unit)->Option (As [.pr (.int .i64) (.int .i64)])
def qes_ (j2:zH12) (t:zH4) (t24:Bool) (r:zH9) (t4:Int×Int):Option (As [.pr (.int .i64) (.int .i64)]) :=
 if t24=true then some ((2,0),()) else j2 t r.2 (Int.ofNat (List.length r.2)) 0 t4 []
def q3k_ (j3:List (List UInt8×List QVT0)->Int->List QVT1->Int->Int->Bool->Int×Int->List (List UInt8×Unit)->List UInt8×Int×List QVT4->Option (As [.pr (.int .i64) (.int .i64)])) (self2:zH12) (t:zH4) (t28:List QVT1) (t29 t30:Int) (t4:Int×Int) (o:zH1):Option (As [.pr (.int .i64) (.int .i64)]) :=
 if lt t30 t29=true then Option.bind (at? t28 t30) fun y=>Option.bind (q1k_ (t,y.1,())) fun y_1=>if (!y_1.2.1)=true then j3 t y_1.1 t28 t29 t30 true t4 o y else j3 t y_1.1 t28 t29 t30 (!!Ev.isV .un (Ev.dget .str o y.1)) t4 (Ev.dput .str o y.1 ()) y else some ((0,0),())
@[reducible] def zH13:Type:=List (List UInt8×List QVT0)->Int->List QVT1->Int->Int->List QVT4->Int->Int->Int×Int->List (List UInt8×Unit)->List (List UInt8×Unit)->Option (As [.pr (.int .i64) (.int .i64)])
def q7q_ (j4:zH13) (self2:zH12) (t:zH4) (i:Int) (t28:List QVT1) (t29 t30:Int) (t49:Bool) (t4:Int×Int) (o:zH1) (part:zH10):Option (As [.pr (.int .i64) (.int .i64)]) :=
 if t49=true then some ((150,part.2.1),()) else j4 t i t28 t29 t30 part.2.2 (Int.ofNat (List.length part.2.2)) 0 t4 o []
def q3a_ (j5:List (List UInt8×List QVT0)->Int->Bool->List QVT1->Int->Int->List QVT4->Int->Int->Int×Int->List (List UInt8×Unit)->List (List UInt8×Unit)->List UInt8×(Int×Int)×List UInt8×Int->List UInt8×Int×Int×Bool×(Int×Int)×(Int×Int)×List UInt8->Option (As [.pr (.int .i64) (.int .i64)])) (self2:zH12) (self4:zH13) (t:zH4) (i:Int) (t28:List QVT1) (t29 t30:Int) (t55:List QVT4) (t56 t57:Int) (t4:Int×Int) (o o_2:zH1):Option (As [.pr (.int .i64) (.int .i64)]) :=
 if lt t57 t56=true then Option.bind (at? t55 t57) fun y=>Option.bind (at? t i) fun y_1=>amb (eqAs q2z_.rs) [Option.bind (q2h_ (y_1,y.1,())) fun y_2=>j5 t i y_2.2.1 t28 t29 t30 t55 t56 t57 t4 o o_2 y y_2.1,Option.bind (q2h_ (y_1,y.1,())) fun y_2=>j5 t i y_2.2.1 t28 t29 t30 t55 t56 t57 t4 o o_2 y y_2.1] else self2 t t28 t29 (add .i64 t30 1) t4 o
def q89_ (j6:List (List UInt8×List QVT0)->Int->List QVT1->Int->Int->List QVT4->Int->Int->Bool->Int×Int->List (List UInt8×Unit)->List (List UInt8×Unit)->List UInt8×(Int×Int)×List UInt8×Int->List UInt8×Int×Int×Bool×(Int×Int)×(Int×Int)×List UInt8->Option (As [.pr (.int .i64) (.int .i64)])) (self2:zH12) (self4:zH13) (t:zH4) (i:Int) (ok:Bool) (t28:List QVT1) (t29 t30:Int) (t55:List QVT4) (t56 t57:Int) (t4:Int×Int) (o o_2:zH1) (s:zH11) (p:zH7):Option (As [.pr (.int .i64) (.int .i64)]) :=
 if (!ok)=true then j6 t i t28 t29 t30 t55 t56 t57 true t4 o o_2 s p else j6 t i t28 t29 t30 t55 t56 t57 (!!Ev.isV .un (Ev.dget .str o_2 s.1)) t4 o (Ev.dput .str o_2 s.1 ()) s p
def q84_ (self2:zH12) (self4:zH13) (t:zH4) (i:Int) (t28:List QVT1) (t29 t30:Int) (t55:List QVT4) (t56 t57:Int) (t79:Bool) (t4:Int×Int) (o o_2:zH1) (s:zH11) (p:zH7):Option (As [.pr (.int .i64) (.int .i64)]) :=
 if t79=true then some ((151,s.2.2.2),()) else Option.bind (qv_ (p,s,())) fun y=>if nei y.2.1 0=true then some ((y.2.1,s.2.2.2),()) else self4 t i t28 t29 t30 t55 t56 (add .i64 t57 1) t4 o o_2
def q7p_ (j1:List (List UInt8×List QVT0)->Bool->List UInt8×List QVT1->Int×Int->Option (As [.pr (.int .i64) (.int .i64)])) (t:zH4) (r:zH9):Option (As [.pr (.int .i64) (.int .i64)]) :=
 Option.bind (q8h_ (t,())) fun y=>if (!y.1)=true then j1 t true r (0,0) else Option.bind (q3w_ (r,())) fun y=>j1 t (!y.1) r (0,0)
def q80_ (u2:zH12) (u4:zH13) (t:zH4) (i:Int) (t28:List QVT1) (t29 t30:Int) (t55:List QVT4) (t56 t57:Int) (t79:Bool) (t4:Int×Int) (o o_2:zH1) (s:zH11) (p:zH7):Option (As [.pr (.int .i64) (.int .i64)]):=q84_ u2 u4 t i t28 t29 t30 t55 t56 t57 t79 t4 o o_2 s p
def q5c_ (u2:zH12) (u4:zH13) (t:zH4) (i:Int) (ok:Bool) (t28:List QVT1) (t29 t30:Int) (t55:List QVT4) (t56 t57:Int) (t4:Int×Int) (o o_2:zH1) (s:zH11) (p:zH7):Option (As [.pr (.int .i64) (.int .i64)]):=q89_ (q80_ u2 u4) u2 u4 t i ok t28 t29 t30 t55 t56 t57 t4 o o_2 s p
def q5f_ (u2:zH12) (t:zH4) (i:Int) (t28:List QVT1) (t29 t30:Int) (t55:List QVT4) (t56 t57:Int) (t4:Int×Int) (o o_2:zH1):Option (As [.pr (.int .i64) (.int .i64)]) :=
 loopF (fun (self:(List (List UInt8×List QVT0))×(Int)×(List QVT1)×(Int)×(Int)×(List QVT4)×(Int)×(Int)×(Int×Int)×(List (List UInt8×Unit))×(List (List UInt8×Unit))->Option (As [.pr (.int .i64) (.int .i64)])) (s:(List (List UInt8×List QVT0))×(Int)×(List QVT1)×(Int)×(Int)×(List QVT4)×(Int)×(Int)×(Int×Int)×(List (List UInt8×Unit))×(List (List UInt8×Unit)))=>q3a_ (q5c_ u2 (fun t i t28 t29 t30 t55 t56 t57 t4 o o_2=>self (t,i,t28,t29,t30,t55,t56,t57,t4,o,o_2))) u2 (fun t i t28 t29 t30 t55 t56 t57 t4 o o_2=>self (t,i,t28,t29,t30,t55,t56,t57,t4,o,o_2)) s.1 s.2.1 s.2.2.1 s.2.2.2.1 s.2.2.2.2.1 s.2.2.2.2.2.1 s.2.2.2.2.2.2.1 s.2.2.2.2.2.2.2.1 s.2.2.2.2.2.2.2.2.1 s.2.2.2.2.2.2.2.2.2.1 s.2.2.2.2.2.2.2.2.2.2) 18446744073709551616 (t,i,t28,t29,t30,t55,t56,t57,t4,o,o_2)
def q88_ (u2:zH12) (t:zH4) (i:Int) (t28:List QVT1) (t29 t30:Int) (t49:Bool) (t4:Int×Int) (o:zH1) (part:zH10):Option (As [.pr (.int .i64) (.int .i64)]):=q7q_ (q5f_ u2) u2 t i t28 t29 t30 t49 t4 o part
def q8b_ (t:zH4) (t28:List QVT1) (t29 t30:Int) (t4:Int×Int) (o:zH1):Option (As [.pr (.int .i64) (.int .i64)]) :=
 loopF (fun (self:(List (List UInt8×List QVT0))×(List QVT1)×(Int)×(Int)×(Int×Int)×(List (List UInt8×Unit))->Option (As [.pr (.int .i64) (.int .i64)])) (s:(List (List UInt8×List QVT0))×(List QVT1)×(Int)×(Int)×(Int×Int)×(List (List UInt8×Unit)))=>q3k_ (q88_ (fun t t28 t29 t30 t4 o=>self (t,t28,t29,t30,t4,o))) (fun t t28 t29 t30 t4 o=>self (t,t28,t29,t30,t4,o)) s.1 s.2.1 s.2.2.1 s.2.2.2.1 s.2.2.2.2.1 s.2.2.2.2.2) 18446744073709551616 (t,t28,t29,t30,t4,o)
def q2d_ (t:zH4) (t24:Bool) (r:zH9) (t4:Int×Int):Option (As [.pr (.int .i64) (.int .i64)]):=qes_ (q8b_) t t24 r t4
def q51_ (x:As [.sl (.pr .str (.sl (.pr .str QVT2))),.pr .str QVT5]):Option (As [.pr (.int .i64) (.int .i64)]):=q7p_ q2d_ x.1 x.2.1
noncomputable abbrev valid_Check_P:=pfn Try.prog q94_ 6 18446744073709551616 (Ev.get q9b_) 23 q2z_
theorem qms_ {J w2 w4 t i t28 t29 t30 t55 t56 t57 t79 t4 o o_2 s p}:valid_Check_P J 64175718 [w2,w4] (qbz_ t i t28 t29 t30 t55 t56 t57 t79 t4 o o_2 s p)=q84_ (fun t t28 t29 t30 t4 o=>w2 (qo_ t t28 t29 t30 t4 o)) (fun t i t28 t29 t30 t55 t56 t57 t4 o o_2=>w4 (q1g_ t i t28 t29 t30 t55 t56 t57 t4 o o_2)) t i t28 t29 t30 t55 t56 t57 t79 t4 o o_2 s p:=by kernel_rfl
theorem qmk_ {J w2 w4 t i ok t28 t29 t30 t55 t56 t57 t4 o o_2 s p}:valid_Check_P J 16043929 [w2,w4] (qbm_ t i ok t28 t29 t30 t55 t56 t57 t4 o o_2 s p)=q89_ (fun t i t28 t29 t30 t55 t56 t57 t79 t4 o o_2 s p=>J 64175718 [w2,w4] (qbz_ t i t28 t29 t30 t55 t56 t57 t79 t4 o o_2 s p)) (fun t t28 t29 t30 t4 o=>w2 (qo_ t t28 t29 t30 t4 o)) (fun t i t28 t29 t30 t55 t56 t57 t4 o o_2=>w4 (q1g_ t i t28 t29 t30 t55 t56 t57 t4 o o_2)) t i ok t28 t29 t30 t55 t56 t57 t4 o o_2 s p:=by kernel_rfl
theorem qnf_ {J w2 w4 t i t28 t29 t30 t55 t56 t57 t4 o o_2}:valid_Check_P J 250686 [w2,w4] (q1g_ t i t28 t29 t30 t55 t56 t57 t4 o o_2)=q3a_ (fun t i ok t28 t29 t30 t55 t56 t57 t4 o o_2 s p=>J 16043929 [w2,w4] (qbm_ t i ok t28 t29 t30 t55 t56 t57 t4 o o_2 s p)) (fun t t28 t29 t30 t4 o=>w2 (qo_ t t28 t29 t30 t4 o)) (fun t i t28 t29 t30 t55 t56 t57 t4 o o_2=>w4 (q1g_ t i t28 t29 t30 t55 t56 t57 t4 o o_2)) t i t28 t29 t30 t55 t56 t57 t4 o o_2:=by kernel_rfl
theorem qll_ {J w2 t i t28 t29 t30 t49 t4 o part}:valid_Check_P J 31334 [w2] (qbg_ t i t28 t29 t30 t49 t4 o part)=q7q_ (fun t i t28 t29 t30 t55 t56 t57 t4 o o_2=>J 250686 [w2] (q1g_ t i t28 t29 t30 t55 t56 t57 t4 o o_2)) (fun t t28 t29 t30 t4 o=>w2 (qo_ t t28 t29 t30 t4 o)) t i t28 t29 t30 t49 t4 o part:=by kernel_rfl
theorem qnr_ {J w2 t t28 t29 t30 t4 o}:valid_Check_P J 122 [w2] (qo_ t t28 t29 t30 t4 o)=q3k_ (fun t i t28 t29 t30 t49 t4 o part=>J 31334 [w2] (qbg_ t i t28 t29 t30 t49 t4 o part)) (fun t t28 t29 t30 t4 o=>w2 (qo_ t t28 t29 t30 t4 o)) t t28 t29 t30 t4 o:=by kernel_rfl
theorem qjs_ {J t t24 r t4}:valid_Check_P J 6 [] (qc3_ t t24 r t4)=qes_ (fun t t28 t29 t30 t4 o=>J 122 [] (qo_ t t28 t29 t30 t4 o)) t t24 r t4:=by kernel_rfl
theorem qnc_ (J:Orc (As [.pr (.int .i64) (.int .i64)])) (x:As [.sl (.pr .str (.sl (.pr .str QVT2))),.pr .str QVT5]):rfn Try.prog q94_ 6 18446744073709551616 (Ev.get q9b_) 23 q2z_ J x=q7p_ (fun t t24 r t4=>J 6 [] (qc3_ t t24 r t4)) x.1 x.2.1:=by kernel_rfl
noncomputable abbrev valid_Check_J:=jfn Try.prog q94_ 6 18446744073709551616 (Ev.get q9b_) 23 q2z_
theorem qnt_  (w2 w4 t i t28 t29 t30 t55 t56 t57 t79 t4 o o_2 s p):valid_Check_J 64175718 [w2,w4] (qbz_ t i t28 t29 t30 t55 t56 t57 t79 t4 o o_2 s p)=q80_ (fun t t28 t29 t30 t4 o=>w2 (qo_ t t28 t29 t30 t4 o)) (fun t i t28 t29 t30 t55 t56 t57 t4 o o_2=>w4 (q1g_ t i t28 t29 t30 t55 t56 t57 t4 o o_2)) t i t28 t29 t30 t55 t56 t57 t79 t4 o o_2 s p:=gN (by decide) qms_
theorem qlv_  (w2 w4 t i ok t28 t29 t30 t55 t56 t57 t4 o o_2 s p):valid_Check_J 16043929 [w2,w4] (qbm_ t i ok t28 t29 t30 t55 t56 t57 t4 o o_2 s p)=q5c_ (fun t t28 t29 t30 t4 o=>w2 (qo_ t t28 t29 t30 t4 o)) (fun t i t28 t29 t30 t55 t56 t57 t4 o o_2=>w4 (q1g_ t i t28 t29 t30 t55 t56 t57 t4 o o_2)) t i ok t28 t29 t30 t55 t56 t57 t4 o o_2 s p:=gN (by decide) (qmk_.trans (by simp only [qnt_]; rfl))
theorem qoc_  (w2 t i t28 t29 t30 t55 t56 t57 t4 o o_2):valid_Check_J 250686 [w2] (q1g_ t i t28 t29 t30 t55 t56 t57 t4 o o_2)=q5f_ (fun t t28 t29 t30 t4 o=>w2 (qo_ t t28 t29 t30 t4 o)) t i t28 t29 t30 t55 t56 t57 t4 o o_2:=gL (σ:=(List (List UInt8×List QVT0))×(Int)×(List QVT1)×(Int)×(Int)×(List QVT4)×(Int)×(Int)×(Int×Int)×(List (List UInt8×Unit))×(List (List UInt8×Unit))) (mk:=fun s=>q1g_ s.1 s.2.1 s.2.2.1 s.2.2.2.1 s.2.2.2.2.1 s.2.2.2.2.2.1 s.2.2.2.2.2.2.1 s.2.2.2.2.2.2.2.1 s.2.2.2.2.2.2.2.2.1 s.2.2.2.2.2.2.2.2.2.1 s.2.2.2.2.2.2.2.2.2.2) (by decide) (by kernel_rfl) (fun w4 s=>qnf_.trans (by simp only [qlv_])) (t,i,t28,t29,t30,t55,t56,t57,t4,o,o_2)
theorem qmr_  (w2 t i t28 t29 t30 t49 t4 o part):valid_Check_J 31334 [w2] (qbg_ t i t28 t29 t30 t49 t4 o part)=q88_ (fun t t28 t29 t30 t4 o=>w2 (qo_ t t28 t29 t30 t4 o)) t i t28 t29 t30 t49 t4 o part:=gN (by decide) (qll_.trans (by simp only [qoc_]; rfl))
theorem qmi_  (t t28 t29 t30 t4 o):valid_Check_J 122 [] (qo_ t t28 t29 t30 t4 o)=q8b_ t t28 t29 t30 t4 o:=gL (σ:=(List (List UInt8×List QVT0))×(List QVT1)×(Int)×(Int)×(Int×Int)×(List (List UInt8×Unit))) (mk:=fun s=>qo_ s.1 s.2.1 s.2.2.1 s.2.2.2.1 s.2.2.2.2.1 s.2.2.2.2.2) (by decide) (by kernel_rfl) (fun w2 s=>qnr_.trans (by simp only [qmr_])) (t,t28,t29,t30,t4,o)
theorem qld_  (t t24 r t4):valid_Check_J 6 [] (qc3_ t t24 r t4)=q2d_ t t24 r t4:=gN (by decide) (qjs_.trans (by simp only [qmi_]; rfl))
theorem qq9_ (x:As [.sl (.pr .str (.sl (.pr .str QVT2))),.pr .str QVT5]):evT Try.prog q94_ 6 18446744073709551616 (Ev.get q9b_) 23 q2z_ x=q51_ x:=by
 rw [rfn_eq,qnc_]
 simp only [qld_]
 rfl
theorem qfh_:CtOk Try.prog (fun _=>True) 23 ⟨q2z_,q51_⟩:=qh_ (q3_ qct_ (q3_ qfx_ (q3_ qkz_ (q3_ qe9_ (q3_ qmg_ qc_))))) qq9_
@[reducible] def zH14:Type:=List (List UInt8×List QVT0)->List UInt8->Int->Option (As [.int .i64])
def qpz_ (self1:zH14) (t:zH4) (slave:List UInt8) (i:Int):Option (As [.int .i64]) :=
 if lt i (Int.ofNat (List.length t))=true then Option.bind (at? t i) fun y=>if eqs y.1 slave=true then some (i,()) else self1 t slave (add .i64 i 1) else some (-1,())
def qqe_ (j1:zH14) (t:zH4) (slave:List UInt8):Option (As [.int .i64]) :=
 j1 t slave 0
def qq2_ (t:zH4) (slave:List UInt8) (i:Int):Option (As [.int .i64]) :=
 loopF (fun (self:(List (List UInt8×List QVT0))×(List UInt8)×(Int)->Option (As [.int .i64])) (s:(List (List UInt8×List QVT0))×(List UInt8)×(Int))=>qpz_ (fun t slave i=>self (t,slave,i)) s.1 s.2.1 s.2.2) 18446744073709551616 (t,slave,i)
def qsr_ (x:As [.sl (.pr .str (.sl (.pr .str QVT2))),.str]):Option (As [.int .i64]):=qqe_ qq2_ x.1 x.2.1
@[reducible] def zH15:Type:=List UInt8->Int->Option (As [.bool])
def qpe_ (j2:zH15) (s:List UInt8) (t34:Bool):Option (As [.bool]) :=
 if t34=true then some (false,()) else j2 s 0
def qq4_ (j3:List UInt8->Int->Bool->Option (As [.bool])) (self2:zH15) (s:List UInt8) (i:Int):Option (As [.bool]) :=
 if lt i (Int.ofNat (List.length s))=true then Option.bind (at? s i) fun c=>if ge (Int.ofNat (UInt8.toNat c)) 97=true then if (!le (Int.ofNat (UInt8.toNat c)) 122)=true then if ge (Int.ofNat (UInt8.toNat c)) 48=true then if (!le (Int.ofNat (UInt8.toNat c)) 57)=true then j3 s i (nei (Int.ofNat (UInt8.toNat c)) 95) else j3 s i false else j3 s i (nei (Int.ofNat (UInt8.toNat c)) 95) else j3 s i false else if ge (Int.ofNat (UInt8.toNat c)) 48=true then if (!le (Int.ofNat (UInt8.toNat c)) 57)=true then j3 s i (nei (Int.ofNat (UInt8.toNat c)) 95) else j3 s i false else j3 s i (nei (Int.ofNat (UInt8.toNat c)) 95) else some (true,())
def qow_ (self2:zH15) (s:List UInt8) (i:Int) (t63:Bool):Option (As [.bool]) :=
 if t63=true then some (false,()) else self2 s (add .i64 i 1)
def qpj_ (j1:List UInt8->Bool->Option (As [.bool])) (s:List UInt8):Option (As [.bool]) :=
 if lt (Int.ofNat (List.length s)) 1=true then j1 s true else if gt (Int.ofNat (List.length s)) 20=true then j1 s true else if eqs s [114,101,99,105,112,101]=true then j1 s true else if eqs s [115,108,97,118,101]=true then j1 s true else if eqs s [101,110,100]=true then j1 s true else Option.bind (at? s 0) fun c=>if lt (Int.ofNat (UInt8.toNat c)) 97=true then j1 s true else Option.bind (at? s 0) fun c=>j1 s (gt (Int.ofNat (UInt8.toNat c)) 122)
def qpx_ (u2:zH15) (s:List UInt8) (i:Int) (t63:Bool):Option (As [.bool]):=qow_ u2 s i t63
def qpl_ (s:List UInt8) (i:Int):Option (As [.bool]) :=
 loopF (fun (self:(List UInt8)×(Int)->Option (As [.bool])) (s:(List UInt8)×(Int))=>qq4_ (qpx_ (fun s i=>self (s,i))) (fun s i=>self (s,i)) s.1 s.2) 18446744073709551616 (s,i)
def qp4_ (s:List UInt8) (t34:Bool):Option (As [.bool]):=qpe_ (qpl_) s t34
def qa2_ (x:As [.str]):Option (As [.bool]):=qpj_ qp4_ x.1
@[reducible] def zH16:Type:=List UInt8->List UInt8->Bool->List UInt8×Int×Int->Option (As [.pr .str QVT8,.bool])
def qf4_ (j2:zH16) (name t4:List UInt8) (t5:Bool) (t2:List UInt8×Int×Int):Option (As [.pr .str QVT8,.bool]) :=
 if t5=true then some (([],1,1),true,()) else if eqs t4 [109]=true then j2 name t4 true t2 else if eqs t4 [115]=true then j2 name t4 true t2 else if eqs t4 [98,97,114]=true then j2 name t4 true t2 else if eqs t4 [107,103]=true then j2 name t4 true t2 else if eqs t4 [108]=true then j2 name t4 true t2 else j2 name t4 (eqs t4 [67]) t2
def qep_ (name t4:List UInt8) (t9:Bool) (t2:List UInt8×Int×Int):Option (As [.pr .str QVT8,.bool]) :=
 if t9=true then some ((name,1,1),true,()) else if eqs t4 [99,109]=true then some (([109],1,100),true,()) else if eqs t4 [109,109]=true then some (([109],1,1000),true,()) else if eqs t4 [109,115]=true then some (([115],1,1000),true,()) else if eqs t4 [109,105,110]=true then some (([115],60,1),true,()) else if eqs t4 [104]=true then some (([115],3600,1),true,()) else if eqs t4 [109,98,97,114]=true then some (([98,97,114],1,1000),true,()) else if eqs t4 [107,80,97]=true then some (([98,97,114],1,100),true,()) else if eqs t4 [103]=true then some (([107,103],1,1000),true,()) else if eqs t4 [116]=true then some (([107,103],1000,1),true,()) else if eqs t4 [109,108]=true then some (([108],1,1000),true,()) else some (([],0,0),false,())
def qbw_ (j1:zH16) (name:List UInt8):Option (As [.pr .str QVT8,.bool]) :=
 if eqs name []=true then j1 name name true ([],0,0) else j1 name name (eqs name [37]) ([],0,0)
def qex_ (name t4:List UInt8) (t9:Bool) (t2:List UInt8×Int×Int):Option (As [.pr .str QVT8,.bool]):=qep_ name t4 t9 t2
def qba_ (name t4:List UInt8) (t5:Bool) (t2:List UInt8×Int×Int):Option (As [.pr .str QVT8,.bool]):=qf4_ (qex_) name t4 t5 t2
def qce_ (x:As [.str]):Option (As [.pr .str QVT8,.bool]):=qbw_ qba_ x.1
def qni_ (d:Int×Int):Option (As [.bool]) :=
 if ge d.1 (-1000000000000)=true then if le d.1 1000000000000=true then if le d.2 6=true then if eqi d.2 0=true then some (true,()) else some (nei (rem d.1 10) 0,()) else some (false,()) else some (false,()) else some (false,())
def q2j_ (x:As [.pr (.int .i64) (.int .u8)]):Option (As [.bool]):=qni_ x.1
@[reducible] def zH17:Type:=Int->Int->Option (As [.int .i64])
def qhy_ (self1:zH17) (n i:Int):Option (As [.int .i64]) :=
 if lt i 6=true then self1 (mul .i64 n 10) (add .i64 i 1) else some (n,())
def qhl_ (j1:zH17) (d:Int×Int):Option (As [.int .i64]) :=
 j1 d.1 (cvt .i64 d.2)
def qhw_ (n i:Int):Option (As [.int .i64]) :=
 loopF (fun (self:(Int)×(Int)->Option (As [.int .i64])) (s:(Int)×(Int))=>qhy_ (fun n i=>self (n,i)) s.1 s.2) 18446744073709551616 (n,i)
def qe8_ (x:As [.pr (.int .i64) (.int .u8)]):Option (As [.int .i64]):=qhl_ qhw_ x.1
def qr4_ (a b:Int×Int):Option (As [.int .i64]) :=
 Option.bind (qe8_ (a,())) fun y=>Option.bind (qe8_ (b,())) fun y_1=>if lt y.1 y_1.1=true then some (-1,()) else if gt y.1 y_1.1=true then some (1,()) else some (0,())
def qhk_ (x:As [.pr (.int .i64) (.int .u8),.pr (.int .i64) (.int .u8)]):Option (As [.int .i64]):=qr4_ x.1 x.2.1
@[reducible] def zH18:Type:=List (List UInt8×List QVT0)->Int->Option (As [.bool])
def qjt_ (j2:zH18) (t:zH4) (t18:Bool):Option (As [.bool]) :=
 if t18=true then some (false,()) else j2 t 0
@[reducible] def zH19:Type:=List (List UInt8×List QVT0)->Int->Int->Option (As [.bool])
def ql3_ (j3:zH19) (self2:zH18) (t:zH4) (i:Int):Option (As [.bool]) :=
 if lt i (Int.ofNat (List.length t))=true then j3 t i 0 else some (true,())
def qlb_ (j4 self2:zH18) (self3:zH19) (t:zH4) (i k:Int):Option (As [.bool]) :=
 if lt k i=true then Option.bind (at? t k) fun y=>Option.bind (at? t i) fun y_1=>if eqs y.1 y_1.1=true then some (false,()) else self3 t i (add .i64 k 1) else j4 t i
@[reducible] def zH20:Type:=List (List UInt8×List QVT0)->Int->List QVT0->Int->Option (As [.bool])
def qkx_ (j5:zH20) (self2:zH18) (t:zH4) (i:Int):Option (As [.bool]) :=
 Option.bind (at? t i) fun y=>Option.bind (at? t i) fun y_1=>Option.bind (qa2_ (y_1.1,())) fun y_2=>if (!y_2.1)=true then some (false,()) else j5 t i y.2 0
def ql7_ (j6:List (List UInt8×List QVT0)->Int->List QVT0->Int->Bool->List UInt8×Int×Int×Bool×(Int×Int)×(Int×Int)×List UInt8->Option (As [.bool])) (j7 self2:zH18) (self5:zH20) (t:zH4) (i:Int) (l:List QVT0) (k:Int):Option (As [.bool]) :=
 if lt k (Int.ofNat (List.length l))=true then Option.bind (at? l k) fun y=>Option.bind (qce_ (y.2.2.2.2.2.2,())) fun y_1=>Option.bind (qa2_ (y.1,())) fun y_2=>if (!y_2.1)=true then j6 t i l k true y else if lt y.2.1 0=true then j6 t i l k true y else if gt y.2.1 63=true then j6 t i l k true y else if lt y.2.2.1 0=true then j6 t i l k true y else if gt y.2.2.1 6=true then j6 t i l k true y else Option.bind (q2j_ (y.2.2.2.2.1,())) fun y_3=>if (!y_3.1)=true then j6 t i l k true y else Option.bind (q2j_ (y.2.2.2.2.2.1,())) fun y_4=>if (!y_4.1)=true then j6 t i l k true y else j6 t i l k (!y_1.2.1) y else j7 t i
@[reducible] def zH21:Type:=List (List UInt8×List QVT0)->Int->List QVT0->Int->Int->List UInt8×Int×Int×Bool×(Int×Int)×(Int×Int)×List UInt8->Option (As [.bool])
def qnz_ (j8:zH21) (self2:zH18) (self5:zH20) (t:zH4) (i:Int) (l:List QVT0) (k:Int) (t108:Bool) (p:zH7):Option (As [.bool]) :=
 if t108=true then some (false,()) else Option.bind (qhk_ (p.2.2.2.2.1,p.2.2.2.2.2.1,())) fun y=>if gt y.1 0=true then some (false,()) else j8 t i l k 0 p
def qm8_ (self2:zH18) (t:zH4) (i:Int):Option (As [.bool]) :=
 self2 t (add .i64 i 1)
def qo1_ (j9:List (List UInt8×List QVT0)->Int->List QVT0->Int->Int->Bool->List UInt8×Int×Int×Bool×(Int×Int)×(Int×Int)×List UInt8->Option (As [.bool])) (j10:zH20) (self2:zH18) (self5:zH20) (self8:zH21) (t:zH4) (i:Int) (l:List QVT0) (k j:Int) (p:zH7):Option (As [.bool]) :=
 if lt j k=true then Option.bind (at? l j) fun y=>if eqs y.1 p.1=true then j9 t i l k j true p else Option.bind (at? l j) fun y=>j9 t i l k j (eqi y.2.1 p.2.1) p else j10 t i l k
def qo7_ (self2:zH18) (self5:zH20) (self8:zH21) (t:zH4) (i:Int) (l:List QVT0) (k j:Int) (t137:Bool) (p:zH7):Option (As [.bool]) :=
 if t137=true then some (false,()) else self8 t i l k (add .i64 j 1) p
def qjb_ (self2:zH18) (self5:zH20) (t:zH4) (i:Int) (l:List QVT0) (k:Int):Option (As [.bool]) :=
 self5 t i l (add .i64 k 1)
def qng_ (j1:zH6) (t:zH4):Option (As [.bool]) :=
 if lt (Int.ofNat (List.length t)) 1=true then j1 t true else j1 t (gt (Int.ofNat (List.length t)) 8)
def ql8_ (u2:zH18) (u5:zH20) (u8:zH21) (t:zH4) (i:Int) (l:List QVT0) (k j:Int) (t137:Bool) (p:zH7):Option (As [.bool]):=qo7_ u2 u5 u8 t i l k j t137 p
def qjj_ (u2:zH18) (u5:zH20) (t:zH4) (i:Int) (l:List QVT0) (k:Int):Option (As [.bool]):=qjb_ u2 u5 t i l k
def qmj_ (u2:zH18) (u5:zH20) (t:zH4) (i:Int) (l:List QVT0) (k j:Int) (p:zH7):Option (As [.bool]) :=
 loopF (fun (self:(List (List UInt8×List QVT0))×(Int)×(List QVT0)×(Int)×(Int)×QVT0->Option (As [.bool])) (s:(List (List UInt8×List QVT0))×(Int)×(List QVT0)×(Int)×(Int)×QVT0)=>qo1_ (ql8_ u2 u5 (fun t i l k j p=>self (t,i,l,k,j,p))) (qjj_ u2 u5) u2 u5 (fun t i l k j p=>self (t,i,l,k,j,p)) s.1 s.2.1 s.2.2.1 s.2.2.2.1 s.2.2.2.2.1 s.2.2.2.2.2) 18446744073709551616 (t,i,l,k,j,p)
def qnn_ (u2:zH18) (u5:zH20) (t:zH4) (i:Int) (l:List QVT0) (k:Int) (t108:Bool) (p:zH7):Option (As [.bool]):=qnz_ (qmj_ u2 u5) u2 u5 t i l k t108 p
def qk3_ (u2:zH18) (t:zH4) (i:Int):Option (As [.bool]):=qm8_ u2 t i
def qmy_ (u2:zH18) (t:zH4) (i:Int) (l:List QVT0) (k:Int):Option (As [.bool]) :=
 loopF (fun (self:(List (List UInt8×List QVT0))×(Int)×(List QVT0)×(Int)->Option (As [.bool])) (s:(List (List UInt8×List QVT0))×(Int)×(List QVT0)×(Int))=>ql7_ (qnn_ u2 (fun t i l k=>self (t,i,l,k))) (qk3_ u2) u2 (fun t i l k=>self (t,i,l,k)) s.1 s.2.1 s.2.2.1 s.2.2.2) 18446744073709551616 (t,i,l,k)
def qkm_ (u2:zH18) (t:zH4) (i:Int):Option (As [.bool]):=qkx_ (qmy_ u2) u2 t i
def qn3_ (u2:zH18) (t:zH4) (i k:Int):Option (As [.bool]) :=
 loopF (fun (self:(List (List UInt8×List QVT0))×(Int)×(Int)->Option (As [.bool])) (s:(List (List UInt8×List QVT0))×(Int)×(Int))=>qlb_ (qkm_ u2) u2 (fun t i k=>self (t,i,k)) s.1 s.2.1 s.2.2) 18446744073709551616 (t,i,k)
def qjq_ (t:zH4) (i:Int):Option (As [.bool]) :=
 loopF (fun (self:(List (List UInt8×List QVT0))×(Int)->Option (As [.bool])) (s:(List (List UInt8×List QVT0))×(Int))=>ql3_ (qn3_ (fun t i=>self (t,i))) (fun t i=>self (t,i)) s.1 s.2) 18446744073709551616 (t,i)
def qot_ (t:zH4) (t18:Bool):Option (As [.bool]):=qjt_ (qjq_) t t18
def qsh_ (x:As [.sl (.pr .str (.sl (.pr .str QVT2)))]):Option (As [.bool]):=qng_ qot_ x.1
def qjh_ (c:Int):Option (As [.bool]) :=
 if ge c 97=true then if le c 122=true then some (true,()) else if ge c 65=true then if le c 90=true then some (true,()) else some (eqi c 37,()) else some (eqi c 37,()) else if ge c 65=true then if le c 90=true then some (true,()) else some (eqi c 37,()) else some (eqi c 37,())
def qhb_ (x:As [.int .u8]):Option (As [.bool]):=qjh_ x.1
def qkr_ (c:Int):Option (As [.bool]) :=
 if ge c 48=true then some (le c 57,()) else some (false,())
def qeh_ (x:As [.int .u8]):Option (As [.bool]):=qkr_ x.1
def qq1_ (kind c:Int):Option (As [.bool]) :=
 if eqi kind 1=true then Option.bind (qhb_ (c,())) fun y=>if y.1=true then some (true,()) else Option.bind (qeh_ (c,())) fun y=>if y.1=true then some (true,()) else some (eqi c 95,()) else Option.bind (qeh_ (c,())) fun y=>if y.1=true then some (true,()) else if eqi c 46=true then some (true,()) else some (eqi c 45,())
def qst_ (x:As [.int .u8,.int .u8]):Option (As [.bool]):=qq1_ x.1 x.2.1
@[reducible] def zH22:Type:=Int->Int->Bool->Int->Int->Option (As [.pr (.int .i64) (.int .u8),.bool])
@[reducible] def zH23:Type:=Int->Int->Int->Int->Option (As [.pr (.int .i64) (.int .u8),.bool])
def q8l_ (j2:zH22) (self1:zH23) (n digits t4 t4_2:Int):Option (As [.pr (.int .i64) (.int .u8),.bool]) :=
 if gt digits 0=true then j2 n digits (eqi (rem n 10) 0) t4 t4_2 else j2 n digits false t4 t4_2
def qei_ (j3 self1:zH23) (n digits:Int) (t12:Bool) (t4 t4_2:Int):Option (As [.pr (.int .i64) (.int .u8),.bool]) :=
 if t12=true then self1 (quo .i64 n 10) (Sx.sub .i64 digits 1) t4 t4_2 else j3 n digits t4 t4_2
def qie_ (j4:zH22) (n digits t4 t4_2:Int):Option (As [.pr (.int .i64) (.int .u8),.bool]) :=
 if gt digits 6=true then j4 n digits true t4 t4_2 else if gt n 1000000000000=true then j4 n digits true t4 t4_2 else j4 n digits (lt n (-1000000000000)) t4 t4_2
def qih_ (n digits:Int) (t26:Bool) (t4 t4_2:Int):Option (As [.pr (.int .i64) (.int .u8),.bool]) :=
 if t26=true then some ((0,0),false,()) else some ((n,cvt .u8 digits),true,())
def qso_ (j1:zH23) (n digits:Int):Option (As [.pr (.int .i64) (.int .u8),.bool]) :=
 j1 n digits 0 0
def qig_ (n digits:Int) (t26:Bool) (t4 t4_2:Int):Option (As [.pr (.int .i64) (.int .u8),.bool]):=qih_ n digits t26 t4 t4_2
def qel_ (n digits t4 t4_2:Int):Option (As [.pr (.int .i64) (.int .u8),.bool]):=qie_ (qig_) n digits t4 t4_2
def q8i_ (u1:zH23) (n digits:Int) (t12:Bool) (t4 t4_2:Int):Option (As [.pr (.int .i64) (.int .u8),.bool]):=qei_ (qel_) u1 n digits t12 t4 t4_2
def qsj_ (n digits t4 t4_2:Int):Option (As [.pr (.int .i64) (.int .u8),.bool]) :=
 loopF (fun (self:(Int)×(Int)×(Int)×(Int)->Option (As [.pr (.int .i64) (.int .u8),.bool])) (s:(Int)×(Int)×(Int)×(Int))=>q8l_ (q8i_ (fun n digits t4 t4_2=>self (n,digits,t4,t4_2))) (fun n digits t4 t4_2=>self (n,digits,t4,t4_2)) s.1 s.2.1 s.2.2.1 s.2.2.2) 18446744073709551616 (n,digits,t4,t4_2)
def qin_ (x:As [.int .i64,.int .i64]):Option (As [.pr (.int .i64) (.int .u8),.bool]):=qso_ qsj_ x.1 x.2.1
end Go.Proofs.Lx
end
section
open Go Go.Proofs Ev Sx
set_option maxRecDepth 100000
namespace Go.Proofs.Lx
@[reducible] def zH24:Type:=List UInt8->Bool->Int->Int->Option (As [.pr (.int .i64) (.int .u8),.bool])
def qo6_ (j2:zH24) (s:List UInt8) (below:Bool) (t2 t2_2:Int):Option (As [.pr (.int .i64) (.int .u8),.bool]) :=
 if below=true then Option.bind (cut s 1 (Int.ofNat (List.length s))) fun y=>j2 y below t2 t2_2 else j2 s below t2 t2_2
@[reducible] def zH25:Type:=List UInt8->Bool->Int->Bool->Int->Int->Int->Int->Int->Option (As [.pr (.int .i64) (.int .u8),.bool])
def qle_ (j3:zH25) (s:List UInt8) (below:Bool) (t2 t2_2:Int):Option (As [.pr (.int .i64) (.int .u8),.bool]) :=
 j3 s below 0 false 0 0 0 t2 t2_2
@[reducible] def zH26:Type:=List UInt8->Bool->Int->Bool->Int->Int->Int->Bool->Int->Int->Option (As [.pr (.int .i64) (.int .u8),.bool])
def qo5_ (j4:zH26) (j5:Bool->Int->Bool->Int->Int->Int->Int->Option (As [.pr (.int .i64) (.int .u8),.bool])) (self3:zH25) (s:List UInt8) (below:Bool) (n:Int) (point:Bool) (behind ahead i t2 t2_2:Int):Option (As [.pr (.int .i64) (.int .u8),.bool]) :=
 if lt i (Int.ofNat (List.length s))=true then Option.bind (at? s i) fun c=>if eqi (Int.ofNat (UInt8.toNat c)) 46=true then if (!point)=true then j4 s below n point behind ahead i (gt ahead 0) t2 t2_2 else j4 s below n point behind ahead i false t2 t2_2 else j4 s below n point behind ahead i false t2 t2_2 else j5 below n point behind ahead t2 t2_2
def qo9_ (j6:zH25) (j7:zH26) (self3:zH25) (s:List UInt8) (below:Bool) (n:Int) (point:Bool) (behind ahead i:Int) (t38:Bool) (t2 t2_2:Int):Option (As [.pr (.int .i64) (.int .u8),.bool]) :=
 if t38=true then j6 s below n true behind ahead i t2 t2_2 else Option.bind (at? s i) fun c=>if lt (Int.ofNat (UInt8.toNat c)) 48=true then j7 s below n point behind ahead i true t2 t2_2 else Option.bind (at? s i) fun c=>if gt (Int.ofNat (UInt8.toNat c)) 57=true then j7 s below n point behind ahead i true t2 t2_2 else if eqi ahead 1=true then Option.bind (at? s 0) fun c=>if eqi (Int.ofNat (UInt8.toNat c)) 48=true then j7 s below n point behind ahead i (!point) t2 t2_2 else j7 s below n point behind ahead i false t2 t2_2 else j7 s below n point behind ahead i false t2 t2_2
def qme_ (j8:Bool->Int->Int->Bool->Int->Int->Option (As [.pr (.int .i64) (.int .u8),.bool])) (below:Bool) (n:Int) (point:Bool) (behind ahead t2 t2_2:Int):Option (As [.pr (.int .i64) (.int .u8),.bool]) :=
 if eqi ahead 0=true then j8 below n behind true t2 t2_2 else if point=true then if eqi behind 0=true then j8 below n behind true t2 t2_2 else j8 below n behind (gt behind 6) t2 t2_2 else j8 below n behind (gt behind 6) t2 t2_2
def qna_ (self3:zH25) (s:List UInt8) (below:Bool) (n:Int) (point:Bool) (behind ahead i t2 t2_2:Int):Option (As [.pr (.int .i64) (.int .u8),.bool]) :=
 self3 s below n point behind ahead (add .i64 i 1) t2 t2_2
def qkn_ (j6 self3:zH25) (s:List UInt8) (below:Bool) (n:Int) (point:Bool) (behind ahead i:Int) (t61:Bool) (t2 t2_2:Int):Option (As [.pr (.int .i64) (.int .u8),.bool]) :=
 if t61=true then some ((0,0),false,()) else if gt n 100000000000000000=true then some ((0,0),false,()) else Option.bind (at? s i) fun c=>if point=true then j6 s below (add .i64 (mul .i64 n 10) (cvt .i64 (Sx.sub .u8 (Int.ofNat (UInt8.toNat c)) 48))) point (add .i64 behind 1) ahead i t2 t2_2 else j6 s below (add .i64 (mul .i64 n 10) (cvt .i64 (Sx.sub .u8 (Int.ofNat (UInt8.toNat c)) 48))) point behind (add .i64 ahead 1) i t2 t2_2
def qnb_ (j9:zH23) (below:Bool) (n behind:Int) (t91:Bool) (t2 t2_2:Int):Option (As [.pr (.int .i64) (.int .u8),.bool]) :=
 if t91=true then some ((0,0),false,()) else if below=true then j9 (Sx.neg .i64 n) behind t2 t2_2 else j9 n behind t2 t2_2
def qo4_ (n behind t2 t2_2:Int):Option (As [.pr (.int .i64) (.int .u8),.bool]) :=
 Option.bind (qin_ (n,behind,())) fun y=>some (y.1,y.2.1,())
def qkd_ (j1:zH24) (s:List UInt8):Option (As [.pr (.int .i64) (.int .u8),.bool]) :=
 if gt (Int.ofNat (List.length s)) 0=true then Option.bind (at? s 0) fun c=>j1 s (eqi (Int.ofNat (UInt8.toNat c)) 45) 0 0 else j1 s false 0 0
def qen_ (u3:zH25) (s:List UInt8) (below:Bool) (n:Int) (point:Bool) (behind ahead i t2 t2_2:Int):Option (As [.pr (.int .i64) (.int .u8),.bool]):=qna_ u3 s below n point behind ahead i t2 t2_2
def qob_ (u3:zH25) (s:List UInt8) (below:Bool) (n:Int) (point:Bool) (behind ahead i:Int) (t61:Bool) (t2 t2_2:Int):Option (As [.pr (.int .i64) (.int .u8),.bool]):=qkn_ (qen_ u3) u3 s below n point behind ahead i t61 t2 t2_2
def qn0_ (u3:zH25) (s:List UInt8) (below:Bool) (n:Int) (point:Bool) (behind ahead i:Int) (t38:Bool) (t2 t2_2:Int):Option (As [.pr (.int .i64) (.int .u8),.bool]):=qo9_ (qen_ u3) (qob_ u3) u3 s below n point behind ahead i t38 t2 t2_2
def qol_ (n behind t2 t2_2:Int):Option (As [.pr (.int .i64) (.int .u8),.bool]):=qo4_ n behind t2 t2_2
def qoj_ (below:Bool) (n behind:Int) (t91:Bool) (t2 t2_2:Int):Option (As [.pr (.int .i64) (.int .u8),.bool]):=qnb_ (qol_) below n behind t91 t2 t2_2
def qmd_ (below:Bool) (n:Int) (point:Bool) (behind ahead t2 t2_2:Int):Option (As [.pr (.int .i64) (.int .u8),.bool]):=qme_ (qoj_) below n point behind ahead t2 t2_2
def qnd_ (s:List UInt8) (below:Bool) (n:Int) (point:Bool) (behind ahead i t2 t2_2:Int):Option (As [.pr (.int .i64) (.int .u8),.bool]) :=
 loopF (fun (self:(List UInt8)×(Bool)×(Int)×(Bool)×(Int)×(Int)×(Int)×(Int)×(Int)->Option (As [.pr (.int .i64) (.int .u8),.bool])) (s:(List UInt8)×(Bool)×(Int)×(Bool)×(Int)×(Int)×(Int)×(Int)×(Int))=>qo5_ (qn0_ (fun s below n point behind ahead i t2 t2_2=>self (s,below,n,point,behind,ahead,i,t2,t2_2))) (qmd_) (fun s below n point behind ahead i t2 t2_2=>self (s,below,n,point,behind,ahead,i,t2,t2_2)) s.1 s.2.1 s.2.2.1 s.2.2.2.1 s.2.2.2.2.1 s.2.2.2.2.2.1 s.2.2.2.2.2.2.1 s.2.2.2.2.2.2.2.1 s.2.2.2.2.2.2.2.2) 18446744073709551616 (s,below,n,point,behind,ahead,i,t2,t2_2)
def qnu_ (s:List UInt8) (below:Bool) (t2 t2_2:Int):Option (As [.pr (.int .i64) (.int .u8),.bool]):=qle_ (qnd_) s below t2 t2_2
def qnp_ (s:List UInt8) (below:Bool) (t2 t2_2:Int):Option (As [.pr (.int .i64) (.int .u8),.bool]):=qo6_ (qnu_) s below t2 t2_2
def qsg_ (x:As [.str]):Option (As [.pr (.int .i64) (.int .u8),.bool]):=qkd_ qnp_ x.1
@[reducible] def zH27:Type:=List UInt8->Int->Bool->Int->Bool->Int->Int->List QVT6->Option (As [.sl QVT3,.pr (.int .i64) (.int .i64)])
@[reducible] def zH28:Type:=List UInt8->Int->Bool->Int->Int->Int->List QVT6->Option (As [.sl QVT3,.pr (.int .i64) (.int .i64)])
def qrv_ (j2:zH27) (j3:Int->Int->List QVT6->Option (As [.sl QVT3,.pr (.int .i64) (.int .i64)])) (self1:zH28) (text:List UInt8) (line:Int) (some':Bool) (i t3 t3_2:Int) (out:List QVT6):Option (As [.sl QVT3,.pr (.int .i64) (.int .i64)]) :=
 if le i (Int.ofNat (List.length text))=true then if eqi i (Int.ofNat (List.length text))=true then j2 text line some' i true t3 t3_2 out else Option.bind (at? text i) fun c=>j2 text line some' i (eqi (Int.ofNat (UInt8.toNat c)) 10) t3 t3_2 out else j3 t3 t3_2 out
def qrt_ (j4:List UInt8->Int->Int->Int->Int->List QVT6->Option (As [.sl QVT3,.pr (.int .i64) (.int .i64)])) (j5:zH28) (j6:List UInt8->Int->Bool->Int->Int->Int->Int->List QVT6->Option (As [.sl QVT3,.pr (.int .i64) (.int .i64)])) (self1:zH28) (text:List UInt8) (line:Int) (some':Bool) (i:Int) (t31:Bool) (t3 t3_2:Int) (out:List QVT6):Option (As [.sl QVT3,.pr (.int .i64) (.int .i64)]) :=
 if t31=true then if some'=true then need (small (List.length out + Nat.succ 0)) (j4 text line i t3 t3_2 (out++[(4,[],(0,0),line)])) else j4 text line i t3 t3_2 out else Option.bind (at? text i) fun c=>if eqi (Int.ofNat (UInt8.toNat c)) 35=true then j5 text line some' i t3 t3_2 out else j6 text line some' i (Int.ofNat (UInt8.toNat c)) t3 t3_2 out
def qrb_ (t3 t3_2:Int) (out:List QVT6):Option (As [.sl QVT3,.pr (.int .i64) (.int .i64)]) :=
 some (out,(0,0),())
def qs3_ (j7 self1:zH28) (text:List UInt8) (line i t3 t3_2:Int) (out:List QVT6):Option (As [.sl QVT3,.pr (.int .i64) (.int .i64)]) :=
 j7 text (add .i64 line 1) false i t3 t3_2 out
def qr9_ (j8:zH27) (self1 self5:zH28) (text:List UInt8) (line:Int) (some':Bool) (i t3 t3_2:Int) (out:List QVT6):Option (As [.sl QVT3,.pr (.int .i64) (.int .i64)]) :=
 if lt (add .i64 i 1) (Int.ofNat (List.length text))=true then Option.bind (at? text (add .i64 i 1)) fun c=>j8 text line some' i (nei (Int.ofNat (UInt8.toNat c)) 10) t3 t3_2 out else j8 text line some' i false t3 t3_2 out
def qrq_ (j9:List UInt8->Int->Bool->Int->Int->Bool->Int->Int->List QVT6->Option (As [.sl QVT3,.pr (.int .i64) (.int .i64)])) (self1:zH28) (text:List UInt8) (line:Int) (some':Bool) (i c t3 t3_2:Int) (out:List QVT6):Option (As [.sl QVT3,.pr (.int .i64) (.int .i64)]) :=
 if eqi c 9=true then j9 text line some' i c true t3 t3_2 out else if eqi c 13=true then j9 text line some' i c true t3 t3_2 out else j9 text line some' i c (eqi c 32) t3 t3_2 out
def qsd_ (self1:zH28) (text:List UInt8) (line:Int) (some':Bool) (i t3 t3_2:Int) (out:List QVT6):Option (As [.sl QVT3,.pr (.int .i64) (.int .i64)]) :=
 self1 text line some' (add .i64 i 1) t3 t3_2 out
def qs0_ (j7 self1 self5:zH28) (text:List UInt8) (line:Int) (some':Bool) (i:Int) (t56:Bool) (t3 t3_2:Int) (out:List QVT6):Option (As [.sl QVT3,.pr (.int .i64) (.int .i64)]) :=
 if t56=true then self5 text line some' (add .i64 i 1) t3 t3_2 out else j7 text line some' i t3 t3_2 out
@[reducible] def zH29:Type:=List UInt8->Int->Int->Int->Int->List QVT6->Int->List UInt8->Int->Int->Int->Option (As [.sl QVT3,.pr (.int .i64) (.int .i64)])
def qqp_ (j7:zH28) (j10:zH29) (j11:List UInt8->Int->Int->Int->Bool->Int->Int->List QVT6->Int->List UInt8->Int->Int->Int->Option (As [.sl QVT3,.pr (.int .i64) (.int .i64)])) (self1:zH28) (text:List UInt8) (line:Int) (some':Bool) (i c:Int) (t68:Bool) (t3 t3_2:Int) (out:List QVT6):Option (As [.sl QVT3,.pr (.int .i64) (.int .i64)]) :=
 if t68=true then j7 text line some' i t3 t3_2 out else Option.bind (qhb_ (c,())) fun y=>if y.1=true then j10 text line i t3 t3_2 out 1 [] 0 0 line else Option.bind (qeh_ (c,())) fun y=>if y.1=true then j11 text line i c true t3 t3_2 out 0 [] 0 0 line else j11 text line i c (eqi c 45) t3 t3_2 out 0 [] 0 0 line
def qpg_ (j12:zH29) (self1:zH28) (text:List UInt8) (line i t3 t3_2:Int) (out:List QVT6) (t:Int) (t_2:List UInt8) (t_3 t_4 t_5:Int):Option (As [.sl QVT3,.pr (.int .i64) (.int .i64)]) :=
 Option.bind (cut text i (add .i64 i 1)) fun y=>j12 text line i t3 t3_2 out t y t_3 t_4 t_5
def qp3_ (j10:zH29) (self1:zH28) (text:List UInt8) (line i c:Int) (t79:Bool) (t3 t3_2:Int) (out:List QVT6) (t:Int) (t_2:List UInt8) (t_3 t_4 t_5:Int):Option (As [.sl QVT3,.pr (.int .i64) (.int .i64)]) :=
 if t79=true then j10 text line i t3 t3_2 out 2 t_2 t_3 t_4 t_5 else if eqi c 61=true then j10 text line i t3 t3_2 out 3 t_2 t_3 t_4 t_5 else some ([],(131,line),())
@[reducible] def zH30:Type:=List UInt8->Int->Int->Bool->Int->Int->List QVT6->Int->List UInt8->Int->Int->Int->Option (As [.sl QVT3,.pr (.int .i64) (.int .i64)])
def qou_ (j13:zH30) (self1:zH28) (self12:zH29) (text:List UInt8) (line i t3 t3_2:Int) (out:List QVT6) (t:Int) (t_2:List UInt8) (t_3 t_4 t_5:Int):Option (As [.sl QVT3,.pr (.int .i64) (.int .i64)]) :=
 if nei t 3=true then if lt (add .i64 i 1) (Int.ofNat (List.length text))=true then Option.bind (at? text (add .i64 i 1)) fun c=>Option.bind (qst_ (t,Int.ofNat (UInt8.toNat c),())) fun y=>j13 text line i y.1 t3 t3_2 out t t_2 t_3 t_4 t_5 else j13 text line i false t3 t3_2 out t t_2 t_3 t_4 t_5 else j13 text line i false t3 t3_2 out t t_2 t_3 t_4 t_5
def qpd_ (j14:zH29) (self1:zH28) (self12:zH29) (text:List UInt8) (line i:Int) (t110:Bool) (t3 t3_2:Int) (out:List QVT6) (t:Int) (t_2:List UInt8) (t_3 t_4 t_5:Int):Option (As [.sl QVT3,.pr (.int .i64) (.int .i64)]) :=
 if t110=true then Option.bind (cut text (add .i64 i 1) (add .i64 (add .i64 i 1) 1)) fun y=>need (small (List.length t_2 + List.length y)) (self12 text line (add .i64 i 1) t3 t3_2 out t (t_2++y) t_3 t_4 t_5) else j14 text line i t3 t3_2 out t t_2 t_3 t_4 t_5
def qpr_ (j15:zH30) (self1:zH28) (text:List UInt8) (line i t3 t3_2:Int) (out:List QVT6) (t:Int) (t_2:List UInt8) (t_3 t_4 t_5:Int):Option (As [.sl QVT3,.pr (.int .i64) (.int .i64)]) :=
 if eqi t 1=true then j15 text line i (gt (Int.ofNat (List.length t_2)) 20) t3 t3_2 out t t_2 t_3 t_4 t_5 else j15 text line i false t3 t3_2 out t t_2 t_3 t_4 t_5
def qq5_ (j16:zH29) (self1:zH28) (text:List UInt8) (line i:Int) (t130:Bool) (t3 t3_2:Int) (out:List QVT6) (t:Int) (t_2:List UInt8) (t_3 t_4 t_5:Int):Option (As [.sl QVT3,.pr (.int .i64) (.int .i64)]) :=
 if t130=true then some ([],(133,line),()) else if eqi t 2=true then Option.bind (qsg_ (t_2,())) fun y=>if (!y.2.1)=true then some ([],(132,line),()) else j16 text line i t3 t3_2 out t t_2 y.1.1 y.1.2 t_5 else j16 text line i t3 t3_2 out t t_2 t_3 t_4 t_5
def qpu_ (j7 self1:zH28) (text:List UInt8) (line i t3 t3_2:Int) (out:List QVT6) (t:Int) (t_2:List UInt8) (t_3 t_4 t_5:Int):Option (As [.sl QVT3,.pr (.int .i64) (.int .i64)]) :=
 need (small (List.length out + Nat.succ 0)) (j7 text line true i t3 t3_2 (out++[(t,t_2,(t_3,t_4),t_5)]))
def qqw_ (j1:zH28) (text:List UInt8):Option (As [.sl QVT3,.pr (.int .i64) (.int .i64)]) :=
 if gt (Int.ofNat (List.length text)) 8192=true then some ([],(130,0),()) else j1 text 1 false 0 0 0 []
def qau_ (u1:zH28) (text:List UInt8) (line:Int) (some':Bool) (i t3 t3_2:Int) (out:List QVT6):Option (As [.sl QVT3,.pr (.int .i64) (.int .i64)]):=qsd_ u1 text line some' i t3 t3_2 out
def qrg_ (u1:zH28) (text:List UInt8) (line i t3 t3_2:Int) (out:List QVT6):Option (As [.sl QVT3,.pr (.int .i64) (.int .i64)]):=qs3_ (qau_ u1) u1 text line i t3 t3_2 out
def qra_ (u1 u5:zH28) (text:List UInt8) (line:Int) (some':Bool) (i:Int) (t56:Bool) (t3 t3_2:Int) (out:List QVT6):Option (As [.sl QVT3,.pr (.int .i64) (.int .i64)]):=qs0_ (qau_ u1) u1 u5 text line some' i t56 t3 t3_2 out
@[reducible] def zH31:Type:=(List UInt8)×(Int)×(Bool)×(Int)×(Int)×(Int)×(List QVT6)->Option (As [.sl QVT3,.pr (.int .i64) (.int .i64)])
@[reducible] def zH32:Type:=(List UInt8)×(Int)×(Bool)×(Int)×(Int)×(Int)×(List QVT6)
def qrx_ (u1:zH28) (text:List UInt8) (line:Int) (some':Bool) (i t3 t3_2:Int) (out:List QVT6):Option (As [.sl QVT3,.pr (.int .i64) (.int .i64)]) :=
 loopF (fun (self:zH31) (s:zH32)=>qr9_ (qra_ u1 (fun text line some' i t3 t3_2 out=>self (text,line,some',i,t3,t3_2,out))) u1 (fun text line some' i t3 t3_2 out=>self (text,line,some',i,t3,t3_2,out)) s.1 s.2.1 s.2.2.1 s.2.2.2.1 s.2.2.2.2.1 s.2.2.2.2.2.1 s.2.2.2.2.2.2) 18446744073709551616 (text,line,some',i,t3,t3_2,out)
def qqi_ (u1:zH28) (text:List UInt8) (line i t3 t3_2:Int) (out:List QVT6) (t:Int) (t_2:List UInt8) (t_3 t_4 t_5:Int):Option (As [.sl QVT3,.pr (.int .i64) (.int .i64)]):=qpu_ (qau_ u1) u1 text line i t3 t3_2 out t t_2 t_3 t_4 t_5
def qqb_ (u1:zH28) (text:List UInt8) (line i:Int) (t130:Bool) (t3 t3_2:Int) (out:List QVT6) (t:Int) (t_2:List UInt8) (t_3 t_4 t_5:Int):Option (As [.sl QVT3,.pr (.int .i64) (.int .i64)]):=qq5_ (qqi_ u1) u1 text line i t130 t3 t3_2 out t t_2 t_3 t_4 t_5
def qqh_ (u1:zH28) (text:List UInt8) (line i t3 t3_2:Int) (out:List QVT6) (t:Int) (t_2:List UInt8) (t_3 t_4 t_5:Int):Option (As [.sl QVT3,.pr (.int .i64) (.int .i64)]):=qpr_ (qqb_ u1) u1 text line i t3 t3_2 out t t_2 t_3 t_4 t_5
def qpo_ (u1:zH28) (u12:zH29) (text:List UInt8) (line i:Int) (t110:Bool) (t3 t3_2:Int) (out:List QVT6) (t:Int) (t_2:List UInt8) (t_3 t_4 t_5:Int):Option (As [.sl QVT3,.pr (.int .i64) (.int .i64)]):=qpd_ (qqh_ u1) u1 u12 text line i t110 t3 t3_2 out t t_2 t_3 t_4 t_5
def qpk_ (u1:zH28) (text:List UInt8) (line i t3 t3_2:Int) (out:List QVT6) (t:Int) (t_2:List UInt8) (t_3 t_4 t_5:Int):Option (As [.sl QVT3,.pr (.int .i64) (.int .i64)]) :=
 loopF (fun (self:(List UInt8)×(Int)×(Int)×(Int)×(Int)×(List QVT6)×(Int)×(List UInt8)×(Int)×(Int)×(Int)->Option (As [.sl QVT3,.pr (.int .i64) (.int .i64)])) (s:(List UInt8)×(Int)×(Int)×(Int)×(Int)×(List QVT6)×(Int)×(List UInt8)×(Int)×(Int)×(Int))=>qou_ (qpo_ u1 (fun text line i t3 t3_2 out t t_2 t_3 t_4 t_5=>self (text,line,i,t3,t3_2,out,t,t_2,t_3,t_4,t_5))) u1 (fun text line i t3 t3_2 out t t_2 t_3 t_4 t_5=>self (text,line,i,t3,t3_2,out,t,t_2,t_3,t_4,t_5)) s.1 s.2.1 s.2.2.1 s.2.2.2.1 s.2.2.2.2.1 s.2.2.2.2.2.1 s.2.2.2.2.2.2.1 s.2.2.2.2.2.2.2.1 s.2.2.2.2.2.2.2.2.1 s.2.2.2.2.2.2.2.2.2.1 s.2.2.2.2.2.2.2.2.2.2) 18446744073709551616 (text,line,i,t3,t3_2,out,t,t_2,t_3,t_4,t_5)
def qg4_ (u1:zH28) (text:List UInt8) (line i t3 t3_2:Int) (out:List QVT6) (t:Int) (t_2:List UInt8) (t_3 t_4 t_5:Int):Option (As [.sl QVT3,.pr (.int .i64) (.int .i64)]):=qpg_ (qpk_ u1) u1 text line i t3 t3_2 out t t_2 t_3 t_4 t_5
def qqk_ (u1:zH28) (text:List UInt8) (line i c:Int) (t79:Bool) (t3 t3_2:Int) (out:List QVT6) (t:Int) (t_2:List UInt8) (t_3 t_4 t_5:Int):Option (As [.sl QVT3,.pr (.int .i64) (.int .i64)]):=qp3_ (qg4_ u1) u1 text line i c t79 t3 t3_2 out t t_2 t_3 t_4 t_5
def qqt_ (u1:zH28) (text:List UInt8) (line:Int) (some':Bool) (i c:Int) (t68:Bool) (t3 t3_2:Int) (out:List QVT6):Option (As [.sl QVT3,.pr (.int .i64) (.int .i64)]):=qqp_ (qau_ u1) (qg4_ u1) (qqk_ u1) u1 text line some' i c t68 t3 t3_2 out
def qr8_ (u1:zH28) (text:List UInt8) (line:Int) (some':Bool) (i c t3 t3_2:Int) (out:List QVT6):Option (As [.sl QVT3,.pr (.int .i64) (.int .i64)]):=qrq_ (qqt_ u1) u1 text line some' i c t3 t3_2 out
def qru_ (u1:zH28) (text:List UInt8) (line:Int) (some':Bool) (i:Int) (t31:Bool) (t3 t3_2:Int) (out:List QVT6):Option (As [.sl QVT3,.pr (.int .i64) (.int .i64)]):=qrt_ (qrg_ u1) (qrx_ u1) (qr8_ u1) u1 text line some' i t31 t3 t3_2 out
def qqu_ (t3 t3_2:Int) (out:List QVT6):Option (As [.sl QVT3,.pr (.int .i64) (.int .i64)]):=qrb_ t3 t3_2 out
def qqs_ (text:List UInt8) (line:Int) (some':Bool) (i t3 t3_2:Int) (out:List QVT6):Option (As [.sl QVT3,.pr (.int .i64) (.int .i64)]) :=
 loopF (fun (self:zH31) (s:zH32)=>qrv_ (qru_ (fun text line some' i t3 t3_2 out=>self (text,line,some',i,t3,t3_2,out))) (qqu_) (fun text line some' i t3 t3_2 out=>self (text,line,some',i,t3,t3_2,out)) s.1 s.2.1 s.2.2.1 s.2.2.2.1 s.2.2.2.2.1 s.2.2.2.2.2.1 s.2.2.2.2.2.2) 18446744073709551616 (text,line,some',i,t3,t3_2,out)
def qsw_ (x:As [.str]):Option (As [.sl QVT3,.pr (.int .i64) (.int .i64)]):=qqw_ qqs_ x.1
def qpv_ (s:List UInt8):Option (As [.bool]) :=
 Option.bind (qsw_ (s,())) fun y=>if eqi y.2.1.1 0=true then if eqi (Int.ofNat (List.length y.1)) 2=true then Option.bind (at? y.1 0) fun y_1=>if eqi y_1.1 1=true then Option.bind (at? y.1 0) fun y=>some (eqs y.2.1 s,()) else some (false,()) else some (false,()) else some (false,())
def qss_ (x:As [.str]):Option (As [.bool]):=qpv_ x.1
@[reducible] def zH33:Type:=Int->List UInt8×List QVT1->Option (As [.bool])
def qnh_ (j2:zH33) (t16:Bool) (r:zH9):Option (As [.bool]) :=
 if t16=true then some (false,()) else j2 0 r
def qn6_ (j3:Int->Bool->List UInt8×List QVT1->List UInt8×Int×List QVT4->Option (As [.bool])) (self2:zH33) (i:Int) (r:zH9):Option (As [.bool]) :=
 if lt i (Int.ofNat (List.length r.2))=true then Option.bind (at? r.2 i) fun y=>Option.bind (qa2_ (y.1,())) fun y_1=>if (!y_1.1)=true then j3 i true r y else j3 i (gt (Int.ofNat (List.length y.2.2)) 64) r y else some (true,())
@[reducible] def zH34:Type:=Int->Int->List UInt8×List QVT1->List UInt8×Int×List QVT4->Option (As [.bool])
def qn8_ (j4:zH34) (self2:zH33) (i:Int) (t38:Bool) (r:zH9) (p:zH10):Option (As [.bool]) :=
 if t38=true then some (false,()) else j4 i 0 r p
def qk9_ (j5:Int->Int->Bool->List UInt8×List QVT1->List UInt8×Int×List QVT4->Option (As [.bool])) (j6 self2:zH33) (self4:zH34) (i k:Int) (r:zH9) (p:zH10):Option (As [.bool]) :=
 if lt k (Int.ofNat (List.length p.2.2))=true then Option.bind (at? p.2.2 k) fun y=>Option.bind (qa2_ (y.1,())) fun y_1=>if (!y_1.1)=true then j5 i k true r p else Option.bind (q2j_ (y.2.1,())) fun y_2=>if (!y_2.1)=true then j5 i k true r p else if nes y.2.2.1 []=true then Option.bind (qss_ (y.2.2.1,())) fun y=>j5 i k (!y.1) r p else j5 i k false r p else j6 i r
def qkc_ (self2:zH33) (self4:zH34) (i k:Int) (t71:Bool) (r:zH9) (p:zH10):Option (As [.bool]) :=
 if t71=true then some (false,()) else self4 i (add .i64 k 1) r p
def ql6_ (self2:zH33) (i:Int) (r:zH9):Option (As [.bool]) :=
 self2 (add .i64 i 1) r
def qm0_ (j1:Bool->List UInt8×List QVT1->Option (As [.bool])) (r:zH9):Option (As [.bool]) :=
 Option.bind (qa2_ (r.1,())) fun y=>if (!y.1)=true then j1 true r else j1 (gt (Int.ofNat (List.length r.2)) 8) r
def qjw_ (u2:zH33) (u4:zH34) (i k:Int) (t71:Bool) (r:zH9) (p:zH10):Option (As [.bool]):=qkc_ u2 u4 i k t71 r p
def qmz_ (u2:zH33) (i:Int) (r:zH9):Option (As [.bool]):=ql6_ u2 i r
def qli_ (u2:zH33) (i k:Int) (r:zH9) (p:zH10):Option (As [.bool]) :=
 loopF (fun (self:(Int)×(Int)×(List UInt8×List QVT1)×QVT1->Option (As [.bool])) (s:(Int)×(Int)×(List UInt8×List QVT1)×QVT1)=>qk9_ (qjw_ u2 (fun i k r p=>self (i,k,r,p))) (qmz_ u2) u2 (fun i k r p=>self (i,k,r,p)) s.1 s.2.1 s.2.2.1 s.2.2.2) 18446744073709551616 (i,k,r,p)
def qln_ (u2:zH33) (i:Int) (t38:Bool) (r:zH9) (p:zH10):Option (As [.bool]):=qn8_ (qli_ u2) u2 i t38 r p
def ql0_ (i:Int) (r:zH9):Option (As [.bool]) :=
 loopF (fun (self:(Int)×(List UInt8×List QVT1)->Option (As [.bool])) (s:(Int)×(List UInt8×List QVT1))=>qn6_ (qln_ (fun i r=>self (i,r))) (fun i r=>self (i,r)) s.1 s.2) 18446744073709551616 (i,r)
def qmf_ (t16:Bool) (r:zH9):Option (As [.bool]):=qnh_ (ql0_) t16 r
def qsm_ (x:As [.pr .str QVT5]):Option (As [.bool]):=qm0_ qmf_ x.1
@[reducible] def zH35:Type:=List UInt8->Int->List UInt8×List QVT0->Option (As [.int .i64])
def qks_ (self1:zH35) (name:List UInt8) (i:Int) (d:zH0):Option (As [.int .i64]) :=
 if lt i (Int.ofNat (List.length d.2))=true then Option.bind (at? d.2 i) fun y=>if eqs y.1 name=true then some (i,()) else self1 name (add .i64 i 1) d else some (-1,())
def qoa_ (j1:zH35) (d:zH0) (name:List UInt8):Option (As [.int .i64]) :=
 j1 name 0 d
def qlf_ (name:List UInt8) (i:Int) (d:zH0):Option (As [.int .i64]) :=
 loopF (fun (self:(List UInt8)×(Int)×(List UInt8×List QVT0)->Option (As [.int .i64])) (s:(List UInt8)×(Int)×(List UInt8×List QVT0))=>qks_ (fun name i d=>self (name,i,d)) s.1 s.2.1 s.2.2) 18446744073709551616 (name,i,d)
def qsq_ (x:As [.pr .str (.sl (.pr .str QVT2)),.str]):Option (As [.int .i64]):=qoa_ qlf_ x.1 x.2.1
def q6u_ (self1:zH17) (a b:Int):Option (As [.int .i64]) :=
 if nei b 0=true then need (nei b 0) (self1 b (rem a b)) else some (a,())
def qiw_ (j1:zH17) (a b:Int):Option (As [.int .i64]) :=
 j1 a b
def qj9_ (a b:Int):Option (As [.int .i64]) :=
 loopF (fun (self:(Int)×(Int)->Option (As [.int .i64])) (s:(Int)×(Int))=>q6u_ (fun a b=>self (a,b)) s.1 s.2) 18446744073709551616 (a,b)
def q3z_ (x:As [.int .i64,.int .i64]):Option (As [.int .i64]):=qiw_ qj9_ x.1 x.2.1
def qer_ (j2:Int->Int->Int->Int->Int->Int->Int->Int->Option (As [.pr (.int .i64) (.int .u8),.bool])) (num den:Int) (t33:Bool) (d d_2 t6 t6_2:Int):Option (As [.pr (.int .i64) (.int .u8),.bool]) :=
 if t33=true then some ((0,0),false,()) else if lt d 0=true then j2 num den (Sx.neg .i64 d) (-1) d d_2 t6 t6_2 else j2 num den d 1 d d_2 t6 t6_2
@[reducible] def zH36:Type:=Int->Int->Int->Int->Int->Int->Int->Int->Int->Int->Option (As [.pr (.int .i64) (.int .u8),.bool])
def qeo_ (j3:zH36) (num den n sign d d_2 t6 t6_2:Int):Option (As [.pr (.int .i64) (.int .u8),.bool]) :=
 if eqi n 0=true then some ((0,0),true,()) else Option.bind (q3z_ (n,den,())) fun y=>need (nei y.1 0) (need (nei y.1 0) (Option.bind (q3z_ (num,quo .i64 den y.1,())) fun y_1=>need (nei y_1.1 0) (need (nei y_1.1 0) (j3 (quo .i64 num y_1.1) (quo .i64 (quo .i64 den y.1) y_1.1) (quo .i64 n y.1) sign 1 0 d d_2 t6 t6_2))))
@[reducible] def zH37:Type:=Int->Int->Int->Int->Int->Int->Int->Option (As [.pr (.int .i64) (.int .u8),.bool])
def q63_ (j4:zH37) (self3:zH36) (num den n sign ten i d d_2 t6 t6_2:Int):Option (As [.pr (.int .i64) (.int .u8),.bool]) :=
 if lt i (cvt .i64 d_2)=true then self3 num den n sign (mul .i64 ten 10) (add .i64 i 1) d d_2 t6 t6_2 else j4 num den n sign ten t6 t6_2
def qf8_ (j5:zH37) (num den n sign ten t6 t6_2:Int):Option (As [.pr (.int .i64) (.int .u8),.bool]) :=
 Option.bind (q3z_ (num,ten,())) fun y=>need (nei y.1 0) (need (nei y.1 0) (Option.bind (q3z_ (n,quo .i64 ten y.1,())) fun y_1=>need (nei y_1.1 0) (need (nei y_1.1 0) (j5 (quo .i64 num y.1) (quo .i64 n y_1.1) sign (mul .i64 den (quo .i64 (quo .i64 ten y.1) y_1.1)) 0 t6 t6_2))))
def q5j_ (j6:Int->Int->Option (As [.pr (.int .i64) (.int .u8),.bool])) (self5:zH37) (num n sign below k t6 t6_2:Int):Option (As [.pr (.int .i64) (.int .u8),.bool]) :=
 if le k 6=true then if eqi below 1=true then need (nei num 0) (if gt n (quo .i64 4000000000000000000 num)=true then some ((0,0),false,()) else Option.bind (qin_ (mul .i64 (mul .i64 sign n) num,k,())) fun y=>some (y.1,y.2.1,())) else Option.bind (q3z_ (below,10,())) fun y=>need (nei y.1 0) (need (nei y.1 0) (need (nei (quo .i64 10 y.1) 0) (if gt n (quo .i64 4000000000000000000 (quo .i64 10 y.1))=true then some ((0,0),false,()) else need (nei y.1 0) (self5 num (mul .i64 n (quo .i64 10 y.1)) sign (quo .i64 below y.1) (add .i64 k 1) t6 t6_2)))) else j6 t6 t6_2
def qoq_ (t6 t6_2:Int):Option (As [.pr (.int .i64) (.int .u8),.bool]) :=
 some ((0,0),false,())
def q5m_ (j1:Int->Int->Bool->Int->Int->Int->Int->Option (As [.pr (.int .i64) (.int .u8),.bool])) (d:Int×Int) (num den:Int):Option (As [.pr (.int .i64) (.int .u8),.bool]) :=
 Option.bind (q2j_ (d,())) fun y=>if (!y.1)=true then j1 num den true d.1 d.2 0 0 else if lt num 1=true then j1 num den true d.1 d.2 0 0 else if gt num 1000000000=true then j1 num den true d.1 d.2 0 0 else if lt den 1=true then j1 num den true d.1 d.2 0 0 else j1 num den (gt den 1000000000) d.1 d.2 0 0
def qbl_ (t6 t6_2:Int):Option (As [.pr (.int .i64) (.int .u8),.bool]):=qoq_ t6 t6_2
def qfa_ (num n sign below k t6 t6_2:Int):Option (As [.pr (.int .i64) (.int .u8),.bool]) :=
 loopF (fun (self:(Int)×(Int)×(Int)×(Int)×(Int)×(Int)×(Int)->Option (As [.pr (.int .i64) (.int .u8),.bool])) (s:(Int)×(Int)×(Int)×(Int)×(Int)×(Int)×(Int))=>q5j_ (qbl_) (fun num n sign below k t6 t6_2=>self (num,n,sign,below,k,t6,t6_2)) s.1 s.2.1 s.2.2.1 s.2.2.2.1 s.2.2.2.2.1 s.2.2.2.2.2.1 s.2.2.2.2.2.2) 18446744073709551616 (num,n,sign,below,k,t6,t6_2)
def q3m_ (num den n sign ten t6 t6_2:Int):Option (As [.pr (.int .i64) (.int .u8),.bool]):=qf8_ (qfa_) num den n sign ten t6 t6_2
def qfc_ (num den n sign ten i d d_2 t6 t6_2:Int):Option (As [.pr (.int .i64) (.int .u8),.bool]) :=
 loopF (fun (self:(Int)×(Int)×(Int)×(Int)×(Int)×(Int)×(Int)×(Int)×(Int)×(Int)->Option (As [.pr (.int .i64) (.int .u8),.bool])) (s:(Int)×(Int)×(Int)×(Int)×(Int)×(Int)×(Int)×(Int)×(Int)×(Int))=>q63_ (q3m_) (fun num den n sign ten i d d_2 t6 t6_2=>self (num,den,n,sign,ten,i,d,d_2,t6,t6_2)) s.1 s.2.1 s.2.2.1 s.2.2.2.1 s.2.2.2.2.1 s.2.2.2.2.2.1 s.2.2.2.2.2.2.1 s.2.2.2.2.2.2.2.1 s.2.2.2.2.2.2.2.2.1 s.2.2.2.2.2.2.2.2.2) 18446744073709551616 (num,den,n,sign,ten,i,d,d_2,t6,t6_2)
def q5b_ (num den n sign d d_2 t6 t6_2:Int):Option (As [.pr (.int .i64) (.int .u8),.bool]):=qeo_ (qfc_) num den n sign d d_2 t6 t6_2
def q7j_ (num den:Int) (t33:Bool) (d d_2 t6 t6_2:Int):Option (As [.pr (.int .i64) (.int .u8),.bool]):=qer_ (q5b_) num den t33 d d_2 t6 t6_2
def qcf_ (x:As [.pr (.int .i64) (.int .u8),.int .i64,.int .i64]):Option (As [.pr (.int .i64) (.int .u8),.bool]):=q5m_ q7j_ x.1 x.2.1 x.2.2.1
def qif_ (t34:Bool) (d d_2 t6 t6_2:Int) (a:List UInt8) (a_2 a_3:Int) (b:List UInt8) (b_2 b_3:Int):Option (As [.pr (.int .i64) (.int .u8),.bool]) :=
 if t34=true then some ((0,0),false,()) else Option.bind (qcf_ ((d,d_2),mul .i64 a_2 b_3,mul .i64 a_3 b_2,())) fun y=>some (y.1,y.2.1,())
def qek_ (j1:Bool->Int->Int->Int->Int->List UInt8->Int->Int->List UInt8->Int->Int->Option (As [.pr (.int .i64) (.int .u8),.bool])) (d:Int×Int) (from' to':List UInt8):Option (As [.pr (.int .i64) (.int .u8),.bool]) :=
 Option.bind (qce_ (from',())) fun y=>Option.bind (qce_ (to',())) fun y_1=>if (!y.2.1)=true then j1 true d.1 d.2 0 0 y.1.1 y.1.2.1 y.1.2.2 y_1.1.1 y_1.1.2.1 y_1.1.2.2 else if (!y_1.2.1)=true then j1 true d.1 d.2 0 0 y.1.1 y.1.2.1 y.1.2.2 y_1.1.1 y_1.1.2.1 y_1.1.2.2 else j1 (nes y.1.1 y_1.1.1) d.1 d.2 0 0 y.1.1 y.1.2.1 y.1.2.2 y_1.1.1 y_1.1.2.1 y_1.1.2.2
def q50_ (t34:Bool) (d d_2 t6 t6_2:Int) (a:List UInt8) (a_2 a_3:Int) (b:List UInt8) (b_2 b_3:Int):Option (As [.pr (.int .i64) (.int .u8),.bool]):=qif_ t34 d d_2 t6 t6_2 a a_2 a_3 b b_2 b_3
def qik_ (x:As [.pr (.int .i64) (.int .u8),.str,.str]):Option (As [.pr (.int .i64) (.int .u8),.bool]):=qek_ q50_ x.1 x.2.1 x.2.2.1
def qg0_ (j2:Int->Bool->Int->Int->Option (As [.int .u16,.bool])) (digits:Int) (signed t27:Bool) (d:Int×Int):Option (As [.int .u16,.bool]) :=
 if t27=true then some (0,false,()) else j2 digits signed d.1 (cvt .i64 d.2)
def q6d_ (j3:Bool->Int->Option (As [.int .u16,.bool])) (self2:Int->Bool->Int->Int->Option (As [.int .u16,.bool])) (digits:Int) (signed:Bool) (n i:Int):Option (As [.int .u16,.bool]) :=
 if lt i digits=true then self2 digits signed (mul .i64 n 10) (add .i64 i 1) else j3 signed n
def qfw_ (j4:Int->Bool->Option (As [.int .u16,.bool])) (j5:Int->Option (As [.int .u16,.bool])) (signed:Bool) (n:Int):Option (As [.int .u16,.bool]) :=
 if signed=true then if lt n (-32768)=true then j4 n true else j4 n (gt n 32767) else j5 n
def qg5_ (j5:Int->Option (As [.int .u16,.bool])) (n:Int) (t46:Bool):Option (As [.int .u16,.bool]) :=
 if t46=true then some (0,false,()) else if lt n 0=true then j5 (add .i64 n 65536) else j5 n
def qg3_ (j6:Int->Bool->Option (As [.int .u16,.bool])) (n:Int):Option (As [.int .u16,.bool]) :=
 if lt n 0=true then j6 n true else j6 n (gt n 65535)
def qg9_ (n:Int) (t56:Bool):Option (As [.int .u16,.bool]) :=
 if t56=true then some (0,false,()) else some (cvt .u16 n,true,())
def qcu_ (j1:Int->Bool->Bool->Int×Int->Option (As [.int .u16,.bool])) (d:Int×Int) (digits:Int) (signed:Bool):Option (As [.int .u16,.bool]) :=
 Option.bind (q2j_ (d,())) fun y=>if (!y.1)=true then j1 digits signed true d else if lt digits 0=true then j1 digits signed true d else if gt digits 6=true then j1 digits signed true d else j1 digits signed (gt (cvt .i64 d.2) digits) d
def qg8_ (n:Int) (t56:Bool):Option (As [.int .u16,.bool]):=qg9_ n t56
def q98_ (n:Int):Option (As [.int .u16,.bool]):=qg3_ (qg8_) n
def qg7_ (n:Int) (t46:Bool):Option (As [.int .u16,.bool]):=qg5_ (q98_) n t46
def q4e_ (signed:Bool) (n:Int):Option (As [.int .u16,.bool]):=qfw_ (qg7_) (q98_) signed n
def qg6_ (digits:Int) (signed:Bool) (n i:Int):Option (As [.int .u16,.bool]) :=
 loopF (fun (self:(Int)×(Bool)×(Int)×(Int)->Option (As [.int .u16,.bool])) (s:(Int)×(Bool)×(Int)×(Int))=>q6d_ (q4e_) (fun digits signed n i=>self (digits,signed,n,i)) s.1 s.2.1 s.2.2.1 s.2.2.2) 18446744073709551616 (digits,signed,n,i)
def q9m_ (digits:Int) (signed t27:Bool) (d:Int×Int):Option (As [.int .u16,.bool]):=qg0_ (qg6_) digits signed t27 d
def qfl_ (x:As [.pr (.int .i64) (.int .u8),.int .i64,.bool]):Option (As [.int .u16,.bool]):=qcu_ q9m_ x.1 x.2.1 x.2.2.1
end Go.Proofs.Lx
end
