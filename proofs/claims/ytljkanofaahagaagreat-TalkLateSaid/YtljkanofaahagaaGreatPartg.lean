/- Proved in the last of these 15 parts (this is part 7): TalkLate. Conditions: those of the given statement, and no others. -/
import Derived.Test.YtljkanofaahagaaGreatPartd
import Derived.Test.YtljkanofaahagaaGreatPartf
import Derived.Test.YtljkanofaahagaaGreatProg
import Derived.Test.YtljkanofaahagaaGreatParte
set_option linter.unusedVariables false
set_option linter.unusedSimpArgs false
set_option linter.unusedSectionVars false
open Option renaming bind → zC, none → zH
open List renaming replicate → zE, length → zG
open Int renaming ofNat → zF, toNat → zI
open Go.Value renaming slice → zK
noncomputable section
open Go Go.Proofs Ev Sx
set_option maxRecDepth 100000
namespace Go.Proofs.Lx
abbrev TaA3q0:Type:=YTT3×Int×Int×List (Int×List Int)×Int×Int×Int×Int×Int
abbrev TaA3q1:Type:=Int×Int×List Bool×List Int×Int×Int
@[reducible] def q56_:Sh:=⟨[.d (.sl .bool),.d (.bool)],[],[.sl .bool,.bool],[.d (.int .i64)],[],0,[.int .i64]⟩
def q7f_:Env:=(cts [])
def q7c_:List (Nat×Hint):=[(26,⟨[],[0,1,7,8]⟩)]
def q6u_ (s:List Bool) (v:Bool) (t7 t8:Int):St:=⟨[(0,.d (.sl .bool) s),(1,dB v),(7,dI t7),(8,dI t8)],19,[],[],0,[],0⟩
@[reducible] def cI:Type:=As [.int .i64]
def q36_ (self1:List Bool->Bool->Int->Int->Option cI) (s:List Bool) (v:Bool) (t7 t8:Int):Option cI :=
 if lt t8 t7=true then zC (at? s t8) fun y=>if Sx.eqb v y=true then some (t8,()) else self1 s v t7 (add .i64 t8 1) else some (-1,())
def q6t_ (j1:List Bool->Bool->Int->Int->Option cI) (s:List Bool) (v:Bool):Option cI :=
 j1 s v (zF (zG s)) 0
def q4p_ (s:List Bool) (v:Bool) (t7 t8:Int):Option cI :=
 loopF (fun self s=>q36_ (fun s v t7 t8=>self (s,v,t7,t8)) s.1 s.2.1 s.2.2.1 s.2.2.2) 18446744073709551616 (s,v,t7,t8)
def qa1_ (x:As [.sl .bool,.bool]):Option cI:=q6t_ q4p_ x.1 x.2.1
abbrev pD3:=zp q7f_ q7c_ 241 q56_
theorem q11w_ {J w1 a b c d}:pD3 J 26 [w1] (q6u_ a b c d)=q36_ (C w1 q6u_) a b c d:=by kernel_rfl
abbrev pD2:=zj q7f_ q7c_ 241 q56_
theorem q131_:C (pD2 26 []) q6u_=q4p_:=gLC (by decide) (by kernel_rfl) (fun _=>by unfold q4p_; rfl) fun _ _=>q11w_.trans (by kernel_rfl)
theorem q130_:CtOk Tryz.prog (fun _=>True) 241 ⟨q56_,qa1_⟩:=zcc (env:=q7f_) (d:=6) (hs:=Ev.get q7c_) q1_ (fun J x=>q6t_ (C (J 26 []) q6u_) x.1 x.2.1) (fun _ _=>by kernel_rfl) fun _=>by rw [q131_] <;> rfl
@[reducible] def q9b_:Sh:=⟨[.d (.sl .bool),.d (.bool)],[],[.sl .bool,.bool],[.d (.bool)],[],0,[.bool]⟩
def q8y_ (s:List Bool) (v:Bool):Option aF :=
 zC (qa1_ (s,v,())) fun y=>some (ge y.1 0,())
def q37_ (x:As [.sl .bool,.bool]):Option aF:=q8y_ x.1 x.2.1
theorem qgp_:CtOk Tryz.prog (fun _=>True) 199 ⟨q9b_,q37_⟩:=ctn (q0_ q130_ q1_) 6 fun J x=>by kernel_rfl
@[reducible] def qvu_:Sh:=⟨[.d (.int .u8),.d (.int .u8)],[],[.int .u8,.int .u8],[.d aP],[],0,aU⟩
@[reducible] def cQ:Type:=As aU
def q1de_ (f except:Int):Option cQ :=
 some ((rem f 128,except,[],[],0,0),())
def qi_ (x:As [.int .u8,.int .u8]):Option cQ:=q1de_ x.1 x.2.1
theorem qin_:CtOk Tryz.prog (fun _=>True) 166 ⟨qvu_,qi_⟩:=ctn q1_ 6 fun J x=>by kernel_rfl
@[reducible] def q3p_:Sh:=⟨[.d (.sl .bool),.d (.sl .bool)],[],[.sl .bool,.sl .bool],[.d (.bool)],[],0,[.bool]⟩
def q7g_:Env:=(cts [])
def q7h_:List (Nat×Hint):=[(58,⟨[],[0,1,12,13]⟩)]
def q6z_ (s1 s2:List Bool) (t12 t13:Int):St:=⟨[(0,.d (.sl .bool) s1),(1,.d (.sl .bool) s2),(12,dI t12),(13,dI t13)],26,[],[],0,[],0⟩
@[reducible] def zG0:Type:=List Bool->List Bool->Int->Int->Option aF
def q4r_ (self1:zG0) (s1 s2:List Bool) (t12 t13:Int):Option aF :=
 if lt t13 t12=true then zC (at? s1 t13) fun y=>zC (at? s2 t13) fun y_1=>if Sx.neb y y_1=true then some (false,()) else self1 s1 s2 t12 (add .i64 t13 1) else some (true,())
def q6v_ (j1:zG0) (s1 s2:List Bool):Option aF :=
 if nei (zF (zG s1)) (zF (zG s2))=true then some (false,()) else j1 s1 s2 (zF (zG s1)) 0
def q4n_ (s1 s2:List Bool) (t12 t13:Int):Option aF :=
 loopF (fun self s=>q4r_ (fun s1 s2 t12 t13=>self (s1,s2,t12,t13)) s.1 s.2.1 s.2.2.1 s.2.2.2) 18446744073709551616 (s1,s2,t12,t13)
def q3f_ (x:As [.sl .bool,.sl .bool]):Option aF:=q6v_ q4n_ x.1 x.2.1
abbrev pDx:=zp q7g_ q7h_ 59 q3p_
theorem q12b_ {J w1 a b c d}:pDx J 58 [w1] (q6z_ a b c d)=q4r_ (C w1 q6z_) a b c d:=by kernel_rfl
abbrev pDw:=zj q7g_ q7h_ 59 q3p_
theorem q11c_:C (pDw 58 []) q6z_=q4n_:=gLC (by decide) (by kernel_rfl) (fun _=>by unfold q4n_; rfl) fun _ _=>q12b_.trans (by kernel_rfl)
theorem qmq_:CtOk Tryz.prog (fun _=>True) 59 ⟨q3p_,q3f_⟩:=zcc (env:=q7g_) (d:=6) (hs:=Ev.get q7h_) q1_ (fun J x=>q6v_ (C (J 58 []) q6z_) x.1 x.2.1) (fun _ _=>by kernel_rfl) fun _=>by rw [q11c_] <;> rfl
@[reducible] def q15c_:Sh:=⟨[.d aP,.d aP],[],[.pr (.int .u8) YTT5,.pr (.int .u8) YTT5],[.d (.bool)],[],0,[.bool]⟩
def qw0_ (a b:TaA3q1):Option aF :=
 if eqi a.1 b.1=true then if eqi a.2.1 b.2.1=true then if eqi a.2.2.2.2.1 b.2.2.2.2.1=true then if eqi a.2.2.2.2.2 b.2.2.2.2.2=true then zC (q3f_ (a.2.2.1,b.2.2.1,())) fun y=>if y.1=true then zC (q11_ (a.2.2.2.1,b.2.2.2.1,())) fun y=>some (y.1,()) else some (false,()) else some (false,()) else some (false,()) else some (false,()) else some (false,())
def q59_ (x:As [.pr (.int .u8) YTT5,.pr (.int .u8) YTT5]):Option aF:=qw0_ x.1 x.2.1
theorem q72_:CtOk Tryz.prog (fun _=>True) 202 ⟨q15c_,q59_⟩:=ctn (q0_ qmq_ (q0_ q3q_ q1_)) 6 fun J x=>by kernel_rfl
@[reducible] def bE:List Ty:=[.un,.pr (.int .u8) YTT5]
@[reducible] def qit_:Sh:=⟨[.d (.un),.d aP],[],bE,[.d (.bool)],[],0,[.bool]⟩
def q8h_ (v:Unit) (r:TaA3q1):Option aF :=
 if lt r.1 128=true then if ge r.2.1 1=true then if le r.2.1 4=true then zC (qi_ (r.1,r.2.1,())) fun y=>zC (q59_ (r,y.1,())) fun y=>some (y.1,()) else some (false,()) else some (false,()) else some (false,())
def q2i_ (x:As bE):Option aF:=q8h_ x.1 x.2.1
theorem q90_:CtOk Tryz.prog (fun _=>True) 318 ⟨qit_,q2i_⟩:=ctn (q0_ qin_ (q0_ q72_ q1_)) 6 fun J x=>by kernel_rfl
@[reducible] def qmt_:Sh:=⟨[.d (.un),.d aP],[],bE,[.d (.bool)],[],0,[.bool]⟩
def qaw_ (v:Unit) (r:TaA3q1):Option aF :=
 if ge (zF (zG r.2.2.1)) 8=true then if le (zF (zG r.2.2.1)) 2000=true then if eqi (rem (zF (zG r.2.2.1)) 8) 0=true then zC (q59_ (r,(r.1,0,r.2.2.1,[],0,0),())) fun y=>some (y.1,()) else some (false,()) else some (false,()) else some (false,())
def q1f_ (x:As bE):Option aF:=qaw_ x.1 x.2.1
theorem qak_:CtOk Tryz.prog (fun _=>True) 321 ⟨qmt_,q1f_⟩:=ctn (q0_ q72_ q1_) 6 fun J x=>by kernel_rfl
@[reducible] def qja_:Sh:=⟨[.d (.un),.d aP],[],bE,[.d (.bool)],[],0,[.bool]⟩
def q9a_ (v:Unit) (r:TaA3q1):Option aF :=
 if ge (zF (zG r.2.2.2.1)) 1=true then if le (zF (zG r.2.2.2.1)) 125=true then zC (q59_ (r,(r.1,0,[],r.2.2.2.1,0,0),())) fun y=>some (y.1,()) else some (false,()) else some (false,())
def qw_ (x:As bE):Option aF:=q9a_ x.1 x.2.1
theorem q9c_:CtOk Tryz.prog (fun _=>True) 324 ⟨qja_,qw_⟩:=ctn (q0_ q72_ q1_) 6 fun J x=>by kernel_rfl
@[reducible] def qpk_:Sh:=⟨[.d (.un),.d aP],[],bE,[.d (.bool)],[],0,[.bool]⟩
def qbq_ (v:Unit) (r:TaA3q1):Option aF :=
 if eqi (zF (zG r.2.2.1)) 1=true then zC (q59_ (r,(r.1,0,r.2.2.1,[],r.2.2.2.2.1,0),())) fun y=>some (y.1,()) else some (false,())
def q3d_ (x:As bE):Option aF:=qbq_ x.1 x.2.1
theorem qbx_:CtOk Tryz.prog (fun _=>True) 329 ⟨qpk_,q3d_⟩:=ctn (q0_ q72_ q1_) 6 fun J x=>by kernel_rfl
@[reducible] def qmw_:Sh:=⟨[.d (.un),.d aP],[],bE,[.d (.bool)],[],0,[.bool]⟩
def qax_ (v:Unit) (r:TaA3q1):Option aF :=
 if eqi (zF (zG r.2.2.2.1)) 1=true then zC (q59_ (r,(r.1,0,[],r.2.2.2.1,r.2.2.2.2.1,0),())) fun y=>some (y.1,()) else some (false,())
def q2x_ (x:As bE):Option aF:=qax_ x.1 x.2.1
theorem qav_:CtOk Tryz.prog (fun _=>True) 332 ⟨qmw_,q2x_⟩:=ctn (q0_ q72_ q1_) 6 fun J x=>by kernel_rfl
@[reducible] def qql_:Sh:=⟨[.d (.wr (.int .u16)),.d aP],[],[.wr (.int .u16),.pr (.int .u8) YTT5],[.d (.bool)],[],0,[.bool]⟩
def qd5_ (k:Int) (r:TaA3q1):Option aF :=
 if ge r.2.2.2.2.2 1=true then if le r.2.2.2.2.2 k=true then zC (q59_ (r,(r.1,0,[],[],r.2.2.2.2),())) fun y=>some (y.1,()) else some (false,()) else some (false,())
def q1w_ (x:As [.wr (.int .u16),.pr (.int .u8) YTT5]):Option aF:=qd5_ x.1 x.2.1
theorem qdk_:CtOk Tryz.prog (fun _=>True) 335 ⟨qql_,q1w_⟩:=ctn (q0_ q72_ q1_) 6 fun J x=>by kernel_rfl
@[reducible] def q142_:Sh:=⟨[.d aP],[],aU,[.d (.bool)],[],0,[.bool]⟩
def qs9_ (r:TaA3q1):Option aF :=
 if nei r.2.1 0=true then zC (q2i_ ((),r,())) fun y=>some (y.1,()) else if eqi r.1 1=true then zC (q1f_ ((),r,())) fun y=>some (y.1,()) else if eqi r.1 2=true then zC (q1f_ ((),r,())) fun y=>some (y.1,()) else if eqi r.1 3=true then zC (qw_ ((),r,())) fun y=>some (y.1,()) else if eqi r.1 4=true then zC (qw_ ((),r,())) fun y=>some (y.1,()) else if eqi r.1 23=true then zC (qw_ ((),r,())) fun y=>some (y.1,()) else if eqi r.1 5=true then zC (q3d_ ((),r,())) fun y=>some (y.1,()) else if eqi r.1 6=true then zC (q2x_ ((),r,())) fun y=>some (y.1,()) else if eqi r.1 15=true then zC (q1w_ (1968,r,())) fun y=>some (y.1,()) else if eqi r.1 16=true then zC (q1w_ (123,r,())) fun y=>some (y.1,()) else some (false,())
def qto_ (x:As aU):Option aF:=qs9_ x.1
theorem q1dw_:CtOk Tryz.prog (fun _=>True) 200 ⟨q142_,qto_⟩:=ctn (q0_ q90_ (q0_ qak_ (q0_ q9c_ (q0_ qbx_ (q0_ qav_ (q0_ qdk_ q1_)))))) 6 fun J x=>by kernel_rfl
@[reducible] def bJ:List Ty:=[.pr (.int .u8) YTT5,.bool]
@[reducible] def q6g_:Sh:=⟨[.d bC],[],aX,[.d aP,.d (.bool)],[],0,bJ⟩
def qoh_:Env:=(cts [(105,(⟨q6c_,q5i_⟩:Ct))])
def qq7_:List (Nat×Hint):=[(15,⟨[.rwb 4 2 4,.rwb 4 3 25],[2,4]⟩),(1967,⟨[],[1,2,4,33]⟩)]
def ql6_ (t2 t2_2 t2_3 t2_4 r r_2 r_3 r_4:Int) (o:List Bool) (o_2:List Int):St:=⟨[(2,.pb 0 0),(4,.pb 1 0)],40,[],[(0,.box 109 [d8 t2,d8 t2_2,.k (zK zH 0 0),.k (zK zH 0 0),d6 t2_3,d6 t2_4]),(1,.box 109 [d8 r,d8 r_2,.row 2,.row 3,d6 r_3,d6 r_4]),(2,.row .bool 4 o),(3,.row (.int .u16) 25 o_2)],4,[],0⟩
def qvn_ (t33:Bool) (a a_2 a_3 a_4:Int) (a_5:List Int) (a_6:List Bool) (t2 t2_2 t2_3 t2_4 r r_2 r_3 r_4:Int):St:=⟨[(1,.pb 0 0),(2,.pb 1 0),(4,.pb 2 0),(33,dB t33)],40,[],[(0,.box 27 [d8 a,d6 a_2,d6 a_3,d6 a_4,dW a_5,.d (.sl .bool) a_6]),(1,.box 109 [d8 t2,d8 t2_2,.k (zK zH 0 0),.k (zK zH 0 0),d6 t2_3,d6 t2_4]),(2,.box 109 [d8 r,d8 r_2,.k (zK zH 0 0),.k (zK zH 0 0),d6 r_3,d6 r_4])],3,[],0⟩
@[reducible] def eF:Type:=As bJ
def q13r_ (t2 t2_2 t2_3 t2_4 r r_2 r_3 r_4:Int) (o:List Bool) (o_2:List Int):Option eF :=
 some ((r,r_2,o,o_2,r_3,r_4),true,())
@[reducible] def zG1:Type:=Int->Int->Int->Int->Int->Int->Int->Int->List Bool->List Int->Option eF
def q140_ (j1:zG1) (t33:Bool) (a a_2 a_3 a_4:Int) (a_5:List Int) (a_6:List Bool) (t2 t2_2 t2_3 t2_4 r r_2 r_3 r_4:Int):Option eF :=
 if t33=true then j1 t2 t2_2 t2_3 t2_4 r r_2 r_3 a_3 [] [] else some ((0,0,[],[],0,0),false,())
def q9t_ (j1:zG1) (j2:Bool->Int->Int->Int->Int->List Int->List Bool->Int->Int->Int->Int->Int->Int->Int->Int->Option eF) (a:Int×Int×Int×Int×List Int×List Bool):Option eF :=
 zC (q5i_ (a,())) fun y=>if (!y.1)=true then some ((0,0,[],[],0,0),false,()) else if eqi a.1 5=true then zC (at? a.2.2.2.2.2 0) fun y=>j1 0 0 0 0 a.1 0 a.2.1 0 [y] [] else if eqi a.1 6=true then zC (at? a.2.2.2.2.1 0) fun y=>j1 0 0 0 0 a.1 0 a.2.1 0 [] [y] else if eqi a.1 15=true then j2 true a.1 a.2.1 a.2.2.1 a.2.2.2.1 a.2.2.2.2.1 a.2.2.2.2.2 0 0 0 0 a.1 0 a.2.1 0 else j2 (eqi a.1 16) a.1 a.2.1 a.2.2.1 a.2.2.2.1 a.2.2.2.2.1 a.2.2.2.2.2 0 0 0 0 a.1 0 a.2.1 0
def qec_:=q13r_
def qkx_:=q140_ (qec_)
def q49_ (x:As aX):Option eF:=q9t_ qec_ qkx_ x.1
abbrev pC3:=zp qoh_ qq7_ 201 q6g_
theorem q1fy_ {J a b c d e f g h i j}:pC3 J 15 [] (ql6_ a b c d e f g h i j)=q13r_ a b c d e f g h i j:=by kernel_rfl
theorem q1fn_ {J a b c d e f g h i j k l m n o}:pC3 J 1967 [] (qvn_ a b c d e f g h i j k l m n o)=q140_ (C (J 15 []) ql6_) a b c d e f g h i j k l m n o:=by kernel_rfl
abbrev pC2:=zj qoh_ qq7_ 201 q6g_
theorem q148_:C (pC2 15 []) ql6_=qec_:=gNC (by decide) fun _=>q1fy_
theorem q1gx_:C (pC2 1967 []) qvn_=qkx_:=gNC (by decide) fun _=>q1fn_.trans (by rw [q148_] <;> kernel_rfl)
theorem qvi_:CtOk Tryz.prog (fun _=>True) 201 ⟨q6g_,q49_⟩:=zcc (env:=qoh_) (d:=6) (hs:=Ev.get qq7_) (q0_ qgg_ q1_) (fun J x=>q9t_ (C (J 15 []) ql6_) (C (J 1967 []) qvn_) x.1) (fun _ _=>by kernel_rfl) fun _=>by rw [q148_,q1gx_] <;> rfl
@[reducible] def qbr_:Sh:=⟨[.d bC,.d aP],[],[.pr (.int .u8) YTT7,.pr (.int .u8) YTT5],[.d (.bool)],[],0,[.bool]⟩
def qn0_:Env:=(cts [(105,(⟨q6c_,q5i_⟩:Ct)),(199,(⟨q9b_,q37_⟩:Ct)),(200,(⟨q142_,qto_⟩:Ct)),(201,(⟨q6g_,q49_⟩:Ct)),(202,(⟨q15c_,q59_⟩:Ct))])
def qpb_:List (Nat×Hint):=[(6,⟨[],[2,3,22,51,52,53,54,55,56]⟩)]
def qvb_ (t22:Bool) (a a_2 a_3 a_4:Int) (a_5:List Int) (a_6:List Bool) (r r_2:Int) (r_3:List Bool) (r_4:List Int) (r_5 r_6:Int):St:=⟨[(2,.pb 0 0),(3,.pb 1 0),(22,dB t22)],63,[],[(0,.box 27 [d8 a,d6 a_2,d6 a_3,d6 a_4,dW a_5,.d (.sl .bool) a_6]),(1,.box 109 [d8 r,d8 r_2,.d (.sl .bool) r_3,dW r_4,d6 r_5,d6 r_6])],2,[],0⟩
def qv7_ (t22:Bool) (a a_2 a_3 a_4:Int) (a_5:List Int) (a_6:List Bool) (r r_2:Int) (r_3:List Bool) (r_4:List Int) (r_5 r_6:Int):Option aF :=
 if t22=true then some (false,()) else if nei r_2 0=true then some (true,()) else zC (q49_ ((a,a_2,a_3,a_4,a_5,a_6),())) fun y=>if y.2.1=true then zC (q59_ (y.1,(r,r_2,r_3,r_4,r_5,r_6),())) fun y=>some (y.1,()) else if gt (zF (zG r_3)) 0=true then if eqi (zF (zG r_3)) (mul .i64 (quo .i64 (add .i64 (cvt .i64 a_3) 7) 8) 8)=true then zC (cut r_3 (cvt .i64 a_3) (zF (zG r_3))) fun y=>zC (q37_ (y,true,())) fun y=>some (!y.1,()) else some (false,()) else some (eqi (zF (zG r_4)) (cvt .i64 a_3),())
def qkf_ (j1:Bool->Int->Int->Int->Int->List Int->List Bool->Int->Int->List Bool->List Int->Int->Int->Option aF) (a:Int×Int×Int×Int×List Int×List Bool) (r:TaA3q1):Option aF :=
 zC (q5i_ (a,())) fun y=>if (!y.1)=true then j1 true a.1 a.2.1 a.2.2.1 a.2.2.2.1 a.2.2.2.2.1 a.2.2.2.2.2 r.1 r.2.1 r.2.2.1 r.2.2.2.1 r.2.2.2.2.1 r.2.2.2.2.2 else zC (qto_ (r,())) fun y=>if (!y.1)=true then j1 true a.1 a.2.1 a.2.2.1 a.2.2.2.1 a.2.2.2.2.1 a.2.2.2.2.2 r.1 r.2.1 r.2.2.1 r.2.2.2.1 r.2.2.2.2.1 r.2.2.2.2.2 else j1 (nei a.1 r.1) a.1 a.2.1 a.2.2.1 a.2.2.2.1 a.2.2.2.2.1 a.2.2.2.2.2 r.1 r.2.1 r.2.2.1 r.2.2.2.1 r.2.2.2.2.1 r.2.2.2.2.2
def qe8_:=qv7_
def qhj_ (x:As [.pr (.int .u8) YTT7,.pr (.int .u8) YTT5]):Option aF:=qkf_ qe8_ x.1 x.2.1
abbrev pC5:=zp qn0_ qpb_ 154 qbr_
theorem q1h4_ {J a b c d e f g h i j k l m}:pC5 J 6 [] (qvb_ a b c d e f g h i j k l m)=qv7_ a b c d e f g h i j k l m:=by kernel_rfl
abbrev pC4:=zj qn0_ qpb_ 154 qbr_
theorem q1f7_:C (pC4 6 []) qvb_=qe8_:=gNC (by decide) fun _=>q1h4_
theorem q1h8_:CtOk Tryz.prog (fun _=>True) 154 ⟨qbr_,qhj_⟩:=zcc (env:=qn0_) (d:=6) (hs:=Ev.get qpb_) (q0_ qgg_ (q0_ qgp_ (q0_ q1dw_ (q0_ qvi_ (q0_ q72_ q1_))))) (fun J x=>qkf_ (C (J 6 []) qvb_) x.1 x.2.1) (fun _ _=>by kernel_rfl) fun _=>by rw [q1f7_] <;> rfl
@[reducible] def qv1_:Sh:=⟨[.d aJ,.d aJ],[],[.sl (.int .u8),.sl (.int .u8)],[.d (.bool)],[],0,[.bool]⟩
def q1dm_ (a b:List Int):Option aF :=
 some (eqs (Sx.toS a) (Sx.toS b),())
def q1m_ (x:As [.sl (.int .u8),.sl (.int .u8)]):Option aF:=q1dm_ x.1 x.2.1
theorem q11d_:CtOk Tryz.prog (fun _=>True) 112 ⟨qv1_,q1m_⟩:=ctn q1_ 6 fun J x=>by kernel_rfl
@[reducible] def cS:List Ty:=[.un,.sl (.int .u8)]
@[reducible] def qjb_:Sh:=⟨[.d (.un),.d aJ],[],cS,[.d aP],[],0,aU⟩
def qzf_ (v:Unit) (b:List Int):Option cQ :=
 zC (at? b 0) fun y=>zC (at? b 1) fun y_1=>zC (qi_ (y,y_1,())) fun y=>some (y.1,())
def q7l_ (x:As cS):Option cQ:=qzf_ x.1 x.2.1
theorem qzg_:CtOk Tryz.prog (fun _=>True) 317 ⟨qjb_,q7l_⟩:=ctn (q0_ qin_ q1_) 6 fun J x=>by kernel_rfl
@[reducible] def qis_:Sh:=⟨[.d (.un),.d aP],[],bE,[.d aJ],[],0,aI⟩
def qye_ (v:Unit) (r:TaA3q1):Option bW :=
 some ([add .u8 r.1 128,r.2.1],())
def q35_ (x:As bE):Option bW:=qye_ x.1 x.2.1
theorem qgm_:CtOk Tryz.prog (fun _=>True) 319 ⟨qis_,q35_⟩:=ctn q1_ 6 fun J x=>by kernel_rfl
@[reducible] def qcc_:Sh:=⟨[.d aJ],[],aI,[.d (.sl .bool)],[],0,[.sl .bool]⟩
def qnj_:Env:=(cts [])
def qnv_:List (Nat×Hint):=[(58,⟨[],[0,3,10,11]⟩)]
def qkh_ (b:List Int) (t10 t11:Int) (out:List Bool):St:=⟨[(0,dL b),(3,.row 0),(10,dI t10),(11,dI t11)],29,[],[(0,.row .bool 4 out)],1,[],0⟩
@[reducible] def zG2:Type:=List Int->Int->Int->List Bool->Option cY
def qed_ (self1:zG2) (b:List Int) (t10 t11:Int) (out:List Bool):Option cY :=
 if lt t11 t10=true then zC (at? b (quo .i64 t11 8)) fun y=>need (ge (rem t11 8) 0) (zC (at? out t11) fun x=>zC (at? out t11) fun x=>self1 b t10 (add .i64 t11 1) (List.set out (zI t11) (eqi (Sx.band .u8 (Sx.shr .u8 y (rem t11 8)) 1) 1))) else some (out,())
def qka_ (j1:zG2) (b:List Int):Option cY :=
 need (ge (mul .i64 8 (zF (zG b))) 0) (need (Ev.capOk (mul .i64 8 (zF (zG b))) (mul .i64 8 (zF (zG b)))) (need (small (zI (mul .i64 8 (zF (zG b))))) (j1 b (zF (zG (zE (zI (mul .i64 8 (zF (zG b)))) false))) 0 (zE (zI (mul .i64 8 (zF (zG b)))) false))))
def qe1_ (b:List Int) (t10 t11:Int) (out:List Bool):Option cY :=
 loopF (fun self s=>qed_ (fun b t10 t11 out=>self (b,t10,t11,out)) s.1 s.2.1 s.2.2.1 s.2.2.2) 18446744073709551616 (b,t10,t11,out)
def qdu_ (x:As aI):Option cY:=qka_ qe1_ x.1
abbrev pAv:=zp qnj_ qnv_ 288 qcc_
theorem q1hn_ {J w1 a b c d}:pAv J 58 [w1] (qkh_ a b c d)=qed_ (C w1 qkh_) a b c d:=by kernel_rfl
abbrev pAu:=zj qnj_ qnv_ 288 qcc_
theorem q1gz_:C (pAu 58 []) qkh_=qe1_:=gLC (by decide) (by kernel_rfl) (fun _=>by unfold qe1_; rfl) fun _ _=>q1hn_.trans (by kernel_rfl)
theorem q13q_:CtOk Tryz.prog (fun _=>True) 288 ⟨qcc_,qdu_⟩:=zcc (env:=qnj_) (d:=6) (hs:=Ev.get qnv_) q1_ (fun J x=>qka_ (C (J 58 []) qkh_) x.1) (fun _ _=>by kernel_rfl) fun _=>by rw [q1gz_] <;> rfl
@[reducible] def qo9_:Sh:=⟨[.d (.un),.d aJ],[],cS,[.d aP],[],0,aU⟩
def qc8_ (v:Unit) (b:List Int):Option cQ :=
 zC (at? b 0) fun y=>zC (cut b 2 (zF (zG b))) fun y_1=>zC (qdu_ (y_1,())) fun y_2=>some ((y,0,y_2.1,[],0,0),())
def q6n_ (x:As cS):Option cQ:=qc8_ x.1 x.2.1
theorem q12v_:CtOk Tryz.prog (fun _=>True) 320 ⟨qo9_,q6n_⟩:=ctn (q0_ q13q_ q1_) 6 fun J x=>by kernel_rfl
@[reducible] def qmp_:Sh:=⟨[.d (.un),.d aP],[],bE,[.d aJ],[],0,aI⟩
def qau_ (v:Unit) (r:TaA3q1):Option bW :=
 zC (qm3_ (r.2.2.1,())) fun y=>need (small (Nat.succ (Nat.succ 0) + zG y.1)) (some (r.1::cvt .u8 (zF (zG y.1))::y.1,()))
def q2g_ (x:As bE):Option bW:=qau_ x.1 x.2.1
theorem qj8_:CtOk Tryz.prog (fun _=>True) 322 ⟨qmp_,q2g_⟩:=ctn (q0_ q18b_ q1_) 6 fun J x=>by kernel_rfl
@[reducible] def qg8_:Sh:=⟨[.d aJ],[],aI,[.d aC],[],0,aK⟩
def qnk_:Env:=(cts [])
def qn8_:List (Nat×Hint):=[(58,⟨[],[0,3,10,11]⟩)]
def qjt_ (b:List Int) (t10 t11:Int) (l:List Int):St:=⟨[(0,dL b),(3,.row 0),(10,dI t10),(11,dI t11)],34,[],[(0,.row (.int .u16) 25 l)],1,[],0⟩
@[reducible] def zG3:Type:=List Int->Int->Int->List Int->Option bL
def qdz_ (self1:zG3) (b:List Int) (t10 t11:Int) (l:List Int):Option bL :=
 if lt t11 t10=true then zC (at? b (mul .i64 2 t11)) fun y=>zC (at? b (add .i64 (mul .i64 2 t11) 1)) fun y_1=>zC (at? l t11) fun x=>zC (at? l t11) fun x=>self1 b t10 (add .i64 t11 1) (List.set l (zI t11) (Sx.bor .u16 (Sx.shl .u16 (cvt .u16 y) 8) (cvt .u16 y_1))) else some (l,())
def qkz_ (j1:zG3) (b:List Int):Option bL :=
 need (ge (quo .i64 (zF (zG b)) 2) 0) (need (Ev.capOk (quo .i64 (zF (zG b)) 2) (quo .i64 (zF (zG b)) 2)) (need (small (zI (quo .i64 (zF (zG b)) 2))) (j1 b (zF (zG (zE (α:=Int) (zI (quo .i64 (zF (zG b)) 2)) 0))) 0 (zE (zI (quo .i64 (zF (zG b)) 2)) 0))))
def qdy_ (b:List Int) (t10 t11:Int) (l:List Int):Option bL :=
 loopF (fun self s=>qdz_ (fun b t10 t11 l=>self (b,t10,t11,l)) s.1 s.2.1 s.2.2.1 s.2.2.2) 18446744073709551616 (b,t10,t11,l)
def qd4_ (x:As aI):Option bL:=qkz_ qdy_ x.1
abbrev pC9:=zp qnk_ qn8_ 326 qg8_
theorem q1fx_ {J w1 a b c d}:pC9 J 58 [w1] (qjt_ a b c d)=qdz_ (C w1 qjt_) a b c d:=by kernel_rfl
abbrev pC8:=zj qnk_ qn8_ 326 qg8_
theorem q1fq_:C (pC8 58 []) qjt_=qdy_:=gLC (by decide) (by kernel_rfl) (fun _=>by unfold qdy_; rfl) fun _ _=>q1fx_.trans (by kernel_rfl)
theorem qlp_:CtOk Tryz.prog (fun _=>True) 326 ⟨qg8_,qd4_⟩:=zcc (env:=qnk_) (d:=6) (hs:=Ev.get qn8_) q1_ (fun J x=>qkz_ (C (J 58 []) qjt_) x.1) (fun _ _=>by kernel_rfl) fun _=>by rw [q1fq_] <;> rfl
@[reducible] def qmu_:Sh:=⟨[.d (.un),.d aJ],[],cS,[.d aP],[],0,aU⟩
def qao_ (v:Unit) (b:List Int):Option cQ :=
 zC (at? b 0) fun y=>zC (cut b 2 (zF (zG b))) fun y_1=>zC (qd4_ (y_1,())) fun y_2=>some ((y,0,[],y_2.1,0,0),())
def q43_ (x:As cS):Option cQ:=qao_ x.1 x.2.1
theorem q113_:CtOk Tryz.prog (fun _=>True) 323 ⟨qmu_,q43_⟩:=ctn (q0_ qlp_ q1_) 6 fun J x=>by kernel_rfl
@[reducible] def q70_:Sh:=⟨[.row 0,.d aC],[.row (.int .u8) 5],eA,[.row 1],[(1,.row (.int .u8) 5)],1,aI⟩
def qfi_:Env:=(cts [])
def qfr_:List (Nat×Hint):=[(26,⟨[.unl 0],[0,7,8,9]⟩)]
def qd2_ (t7:List Int) (t8 t9:Int) (out:List Int):St:=⟨[(0,.row 1),(7,dW t7),(8,dI t8),(9,dI t9)],23,[],[(1,.row (.int .u8) 5 out)],2,[],1⟩
@[reducible] def zG4:Type:=List Int->Int->Int->List Int->Option bW
def q8j_ (self1:zG4) (t7:List Int) (t8 t9:Int) (out:List Int):Option bW :=
 if lt t9 t8=true then zC (at? t7 t9) fun y=>need (small (zG out + Nat.succ (Nat.succ 0))) (self1 t7 t8 (add .i64 t9 1) (out++[cvt .u8 (Sx.shr .u16 y 8),cvt .u8 y])) else some (out,())
def qdo_ (j1:zG4) (out l:List Int):Option bW :=
 j1 out (zF (zG out)) 0 l
def q8p_ (t7:List Int) (t8 t9:Int) (out:List Int):Option bW :=
 loopF (fun self s=>q8j_ (fun t7 t8 t9 out=>self (t7,t8,t9,out)) s.1 s.2.1 s.2.2.1 s.2.2.2) 18446744073709551616 (t7,t8,t9,out)
def q4c_ (x:As eA):Option bW:=qdo_ q8p_ x.1 x.2.1
abbrev pDb:=zp qfi_ qfr_ 327 q70_
theorem q190_ {J w1 a b c d}:pDb J 26 [w1] (qd2_ a b c d)=q8j_ (C w1 qd2_) a b c d:=by kernel_rfl
abbrev pDa:=zj qfi_ qfr_ 327 q70_
theorem q1a4_:C (pDa 26 []) qd2_=q8p_:=gLC (by decide) (by kernel_rfl) (fun _=>by unfold q8p_; rfl) fun _ _=>q190_.trans (by kernel_rfl)
theorem qdh_:CtOk Tryz.prog (fun _=>True) 327 ⟨q70_,q4c_⟩:=zcc (env:=qfi_) (d:=6) (hs:=Ev.get qfr_) q1_ (fun J x=>qdo_ (C (J 26 []) qd2_) x.1 x.2.1) (fun _ _=>by kernel_rfl) fun _=>by rw [q1a4_] <;> rfl
@[reducible] def qjk_:Sh:=⟨[.d (.un),.d aP],[],bE,[.d aJ],[],0,aI⟩
def q9e_ (v:Unit) (r:TaA3q1):Option bW :=
 zC (q4c_ (r.2.2.2.1,[r.1,cvt .u8 (mul .i64 2 (zF (zG r.2.2.2.1)))],())) fun y=>some (y.1,())
def q1c_ (x:As bE):Option bW:=q9e_ x.1 x.2.1
theorem qir_:CtOk Tryz.prog (fun _=>True) 325 ⟨qjk_,q1c_⟩:=ctn (q0_ qdh_ q1_) 6 fun J x=>by kernel_rfl
@[reducible] def qqi_:Sh:=⟨[.d (.un),.d aJ],[],cS,[.d aP],[],0,aU⟩
def qdp_ (v:Unit) (b:List Int):Option cQ :=
 zC (cut b 1 (zF (zG b))) fun y=>zC (qd4_ (y,())) fun y=>if lt (zF (zG y.1)) 2=true then some ((0,0,[],[],0,0),()) else zC (at? b 0) fun y_1=>zC (at? y.1 0) fun y_2=>zC (at? y.1 1) fun y=>some ((y_1,0,[eqi y 65280],[],y_2,0),())
def qbd_ (x:As cS):Option cQ:=qdp_ x.1 x.2.1
theorem q13h_:CtOk Tryz.prog (fun _=>True) 328 ⟨qqi_,qbd_⟩:=ctn (q0_ qlp_ q1_) 6 fun J x=>by kernel_rfl
@[reducible] def q3n_:Sh:=⟨[.d (.un),.d aP],[],bE,[.d aJ],[],0,aI⟩
def q7k_:Env:=(cts [(327,(⟨q70_,q4c_⟩:Ct))])
def q7d_:List (Nat×Hint):=[(7,⟨[],[3,5]⟩)]
def qbi_ (x r r_2:Int) (r_3:List Bool) (r_4:List Int) (r_5 r_6:Int):St:=⟨[(3,.pb 0 0),(5,d6 x)],18,[],[(0,.box 109 [d8 r,d8 r_2,.d (.sl .bool) r_3,dW r_4,d6 r_5,d6 r_6])],1,[],0⟩
def qcd_ (x r r_2:Int) (r_3:List Bool) (r_4:List Int) (r_5 r_6:Int):Option bW :=
 zC (q4c_ ([r_5,x],[r],())) fun y=>some (y.1,())
def q6x_ (j1:Int->Int->Int->List Bool->List Int->Int->Int->Option bW) (v:Unit) (r:TaA3q1):Option bW :=
 zC (at? r.2.2.1 0) fun y=>if y=true then j1 65280 r.1 r.2.1 r.2.2.1 r.2.2.2.1 r.2.2.2.2.1 r.2.2.2.2.2 else j1 0 r.1 r.2.1 r.2.2.1 r.2.2.2.1 r.2.2.2.2.1 r.2.2.2.2.2
def q4j_:=qcd_
def q3e_ (x:As bE):Option bW:=q6x_ q4j_ x.1 x.2.1
abbrev pDd:=zp q7k_ q7d_ 330 q3n_
theorem q12a_ {J a b c d e f g}:pDd J 7 [] (qbi_ a b c d e f g)=qcd_ a b c d e f g:=by kernel_rfl
abbrev pDc:=zj q7k_ q7d_ 330 q3n_
theorem q11r_:C (pDc 7 []) qbi_=q4j_:=gNC (by decide) fun _=>q12a_
theorem qmr_:CtOk Tryz.prog (fun _=>True) 330 ⟨q3n_,q3e_⟩:=zcc (env:=q7k_) (d:=6) (hs:=Ev.get q7d_) (q0_ qdh_ q1_) (fun J x=>q6x_ (C (J 7 []) qbi_) x.1 x.2.1) (fun _ _=>by kernel_rfl) fun _=>by rw [q11r_] <;> rfl
@[reducible] def qns_:Sh:=⟨[.d (.un),.d aJ],[],cS,[.d aP],[],0,aU⟩
def qbp_ (v:Unit) (b:List Int):Option cQ :=
 zC (cut b 1 (zF (zG b))) fun y=>zC (qd4_ (y,())) fun y=>if lt (zF (zG y.1)) 2=true then some ((0,0,[],[],0,0),()) else zC (at? b 0) fun y_1=>zC (at? y.1 0) fun y_2=>zC (at? y.1 1) fun y=>some ((y_1,0,[],[y],y_2,0),())
def qaj_ (x:As cS):Option cQ:=qbp_ x.1 x.2.1
theorem q12k_:CtOk Tryz.prog (fun _=>True) 331 ⟨qns_,qaj_⟩:=ctn (q0_ qlp_ q1_) 6 fun J x=>by kernel_rfl
@[reducible] def qcm_:Sh:=⟨[.d (.un),.d aP],[],bE,[.d aJ],[],0,aI⟩
def qas_ (v:Unit) (r:TaA3q1):Option bW :=
 zC (at? r.2.2.2.1 0) fun y=>amb (eqAs qcm_.rs) [zC (q4c_ ([r.2.2.2.2.1,y],[r.1],())) fun y=>some (y.1,()),zC (q4c_ ([r.2.2.2.2.1,y],[r.1],())) fun y=>some (y.1,())]
def q41_ (x:As bE):Option bW:=qas_ x.1 x.2.1
theorem qjf_:CtOk Tryz.prog (fun _=>True) 333 ⟨qcm_,q41_⟩:=ctn (q0_ qdh_ q1_) 6 fun J x=>by kernel_rfl
@[reducible] def quy_:Sh:=⟨[.d (.wr (.int .u16)),.d aJ],[],[.wr (.int .u16),.sl (.int .u8)],[.d aP],[],0,aU⟩
def qf3_ (v:Int) (b:List Int):Option cQ :=
 zC (cut b 1 (zF (zG b))) fun y=>zC (qd4_ (y,())) fun y=>if lt (zF (zG y.1)) 2=true then some ((0,0,[],[],0,0),()) else zC (at? b 0) fun y_1=>zC (at? y.1 0) fun y_2=>zC (at? y.1 1) fun y=>some ((y_1,0,[],[],y_2,y),())
def q8z_ (x:As [.wr (.int .u16),.sl (.int .u8)]):Option cQ:=qf3_ x.1 x.2.1
theorem q14a_:CtOk Tryz.prog (fun _=>True) 334 ⟨quy_,q8z_⟩:=ctn (q0_ qlp_ q1_) 6 fun J x=>by kernel_rfl
@[reducible] def qqj_:Sh:=⟨[.d (.wr (.int .u16)),.d aP],[],[.wr (.int .u16),.pr (.int .u8) YTT5],[.d aJ],[],0,aI⟩
def qcw_ (v:Int) (r:TaA3q1):Option bW :=
 zC (q4c_ ([r.2.2.2.2.1,r.2.2.2.2.2],[r.1],())) fun y=>some (y.1,())
def q2w_ (x:As [.wr (.int .u16),.pr (.int .u8) YTT5]):Option bW:=qcw_ x.1 x.2.1
theorem qog_:CtOk Tryz.prog (fun _=>True) 336 ⟨qqj_,q2w_⟩:=ctn (q0_ qdh_ q1_) 6 fun J x=>by kernel_rfl
@[reducible] def cM:List Ty:=[.pr (.int .u8) YTT5,.int .i64]
@[reducible] def q76_:Sh:=⟨[.d aJ],[],aI,[.d aP,.d (.int .i64)],[],0,cM⟩
def qk5_:Env:=(cts [(112,(⟨qv1_,q1m_⟩:Ct)),(317,(⟨qjb_,q7l_⟩:Ct)),(318,(⟨qit_,q2i_⟩:Ct)),(319,(⟨qis_,q35_⟩:Ct)),(320,(⟨qo9_,q6n_⟩:Ct)),(321,(⟨qmt_,q1f_⟩:Ct)),(322,(⟨qmp_,q2g_⟩:Ct)),(323,(⟨qmu_,q43_⟩:Ct)),(324,(⟨qja_,qw_⟩:Ct)),(325,(⟨qjk_,q1c_⟩:Ct)),(328,(⟨qqi_,qbd_⟩:Ct)),(329,(⟨qpk_,q3d_⟩:Ct)),(330,(⟨q3n_,q3e_⟩:Ct)),(331,(⟨qns_,qaj_⟩:Ct)),(332,(⟨qmw_,q2x_⟩:Ct)),(333,(⟨qcm_,q41_⟩:Ct)),(334,(⟨quy_,q8z_⟩:Ct)),(335,(⟨qql_,q1w_⟩:Ct)),(336,(⟨qqj_,q2w_⟩:Ct))])
def qkn_:List (Nat×Hint):=[(6,⟨[],[0,2,15,42,43,44,45,46,47]⟩)]
def qs2_ (b:List Int) (t15:Bool) (t2 t2_2 t2_3 t2_4:Int):St:=⟨[(0,dL b),(2,.pb 0 0),(15,dB t15)],51,[],[(0,.box 109 [d8 t2,d8 t2_2,.k (zK zH 0 0),.k (zK zH 0 0),d6 t2_3,d6 t2_4])],1,[],0⟩
def qqv_ (b:List Int) (t15:Bool) (t2 t2_2 t2_3 t2_4:Int):Option (As cM) :=
 if t15=true then some ((0,0,[],[],0,0),13,()) else zC (at? b 0) fun y=>if lt y 128=true then zC (at? b 0) fun y=>if eqi y 1=true then zC (q6n_ ((),b,())) fun y=>zC (q1f_ ((),y.1,())) fun y_1=>if (!y_1.1)=true then some ((0,0,[],[],0,0),13,()) else zC (q2g_ ((),y.1,())) fun y_2=>zC (q1m_ (y_2.1,b,())) fun y_3=>if (!y_3.1)=true then some ((0,0,[],[],0,0),13,()) else some (y.1,0,()) else if eqi y 2=true then zC (q6n_ ((),b,())) fun y=>zC (q1f_ ((),y.1,())) fun y_1=>if (!y_1.1)=true then some ((0,0,[],[],0,0),13,()) else zC (q2g_ ((),y.1,())) fun y_2=>zC (q1m_ (y_2.1,b,())) fun y_3=>if (!y_3.1)=true then some ((0,0,[],[],0,0),13,()) else some (y.1,0,()) else if eqi y 3=true then zC (q43_ ((),b,())) fun y=>zC (qw_ ((),y.1,())) fun y_1=>if (!y_1.1)=true then some ((0,0,[],[],0,0),13,()) else zC (q1c_ ((),y.1,())) fun y_2=>zC (q1m_ (y_2.1,b,())) fun y_3=>if (!y_3.1)=true then some ((0,0,[],[],0,0),13,()) else some (y.1,0,()) else if eqi y 4=true then zC (q43_ ((),b,())) fun y=>zC (qw_ ((),y.1,())) fun y_1=>if (!y_1.1)=true then some ((0,0,[],[],0,0),13,()) else zC (q1c_ ((),y.1,())) fun y_2=>zC (q1m_ (y_2.1,b,())) fun y_3=>if (!y_3.1)=true then some ((0,0,[],[],0,0),13,()) else some (y.1,0,()) else if eqi y 23=true then zC (q43_ ((),b,())) fun y=>zC (qw_ ((),y.1,())) fun y_1=>if (!y_1.1)=true then some ((0,0,[],[],0,0),13,()) else zC (q1c_ ((),y.1,())) fun y_2=>zC (q1m_ (y_2.1,b,())) fun y_3=>if (!y_3.1)=true then some ((0,0,[],[],0,0),13,()) else some (y.1,0,()) else if eqi y 5=true then zC (qbd_ ((),b,())) fun y=>zC (q3d_ ((),y.1,())) fun y_1=>if (!y_1.1)=true then some ((0,0,[],[],0,0),13,()) else zC (q3e_ ((),y.1,())) fun y_2=>zC (q1m_ (y_2.1,b,())) fun y_3=>if (!y_3.1)=true then some ((0,0,[],[],0,0),13,()) else some (y.1,0,()) else if eqi y 6=true then zC (qaj_ ((),b,())) fun y=>zC (q2x_ ((),y.1,())) fun y_1=>if (!y_1.1)=true then some ((0,0,[],[],0,0),13,()) else zC (q41_ ((),y.1,())) fun y_2=>zC (q1m_ (y_2.1,b,())) fun y_3=>if (!y_3.1)=true then some ((0,0,[],[],0,0),13,()) else some (y.1,0,()) else if eqi y 15=true then zC (q8z_ (1968,b,())) fun y=>zC (q1w_ (1968,y.1,())) fun y_1=>if (!y_1.1)=true then some ((0,0,[],[],0,0),13,()) else zC (q2w_ (1968,y.1,())) fun y_2=>zC (q1m_ (y_2.1,b,())) fun y_3=>if (!y_3.1)=true then some ((0,0,[],[],0,0),13,()) else some (y.1,0,()) else if eqi y 16=true then zC (q8z_ (123,b,())) fun y=>zC (q1w_ (123,y.1,())) fun y_1=>if (!y_1.1)=true then some ((0,0,[],[],0,0),13,()) else zC (q2w_ (123,y.1,())) fun y_2=>zC (q1m_ (y_2.1,b,())) fun y_3=>if (!y_3.1)=true then some ((0,0,[],[],0,0),13,()) else some (y.1,0,()) else some ((0,0,[],[],0,0),13,()) else zC (q7l_ ((),b,())) fun y=>zC (q2i_ ((),y.1,())) fun y_1=>if (!y_1.1)=true then some ((0,0,[],[],0,0),13,()) else zC (q35_ ((),y.1,())) fun y_2=>zC (q1m_ (y_2.1,b,())) fun y_3=>if (!y_3.1)=true then some ((0,0,[],[],0,0),13,()) else some (y.1,0,())
def qhh_ (j1:List Int->Bool->Int->Int->Int->Int->Option (As cM)) (b:List Int):Option (As cM) :=
 if lt (zF (zG b)) 2=true then j1 b true 0 0 0 0 else j1 b (gt (zF (zG b)) 253) 0 0 0 0
def qhx_:=qqv_
def q67_ (x:As aI):Option (As cM):=qhh_ qhx_ x.1
abbrev pC7:=zp qk5_ qkn_ 53 q76_
theorem q1e8_ {J a b c d e f}:pC7 J 6 [] (qs2_ a b c d e f)=qqv_ a b c d e f:=by kernel_rfl
abbrev pC6:=zj qk5_ qkn_ 53 q76_
theorem q1cj_:C (pC6 6 []) qs2_=qhx_:=gNC (by decide) fun _=>q1e8_
theorem qry_:CtOk Tryz.prog (fun _=>True) 53 ⟨q76_,q67_⟩:=zcc (env:=qk5_) (d:=6) (hs:=Ev.get qkn_) (q0_ q11d_ (q0_ qzg_ (q0_ q90_ (q0_ qgm_ (q0_ q12v_ (q0_ qak_ (q0_ qj8_ (q0_ q113_ (q0_ q9c_ (q0_ qir_ (q0_ q13h_ (q0_ qbx_ (q0_ qmr_ (q0_ q12k_ (q0_ qav_ (q0_ qjf_ (q0_ q14a_ (q0_ qdk_ (q0_ qog_ q1_))))))))))))))))))) (fun J x=>qhh_ (C (J 6 []) qs2_) x.1) (fun _ _=>by kernel_rfl) fun _=>by rw [q1cj_] <;> rfl
@[reducible] def q9j_:Sh:=⟨[.d aJ],[],aI,[.d (.bool)],[],0,[.bool]⟩
def qle_:Env:=(cts [])
def ql3_:List (Nat×Hint):=[(26,⟨[],[0,3,7,8,9,10,17,18,19,20,21,26,27,28,29,30,31,32,33,34,35,36,37,38]⟩),(841,⟨[.agd 32 aJ,.agd 33 (.int .i64),.agd 35 (.int .u8),.agd 36 (.int .i64),.agd 37 .bool,.agd 26 aJ,.agd 27 (.int .i64),.agd 29 (.int .u8),.agd 30 .bool,.agd 31 .bool,.agd 38 .bool],[0,3,39]⟩),(840,⟨[.agd 17 aJ,.agd 18 (.int .i64),.agd 20 (.int .u8),.agd 21 .bool],[0,3,22]⟩),(104,⟨[.agd 7 (.int .i64),.agd 8 aJ,.agd 9 (.int .i64),.agd 10 .bool],[0,3,11]⟩)]
def q2t_ (b:List Int) (i:Int):St:=⟨[(0,dL b),(3,dI i)],40,[],[],0,[],0⟩
def qqt_ (b:List Int) (i:Int) (t11:Bool):St:=⟨[(0,dL b),(3,dI i),(11,dB t11)],40,[],[],0,[],0⟩
def qrc_ (b:List Int) (i:Int) (t22:Bool):St:=⟨[(0,dL b),(3,dI i),(22,dB t22)],40,[],[],0,[],0⟩
def qrw_ (b:List Int) (i:Int) (t39:Bool):St:=⟨[(0,dL b),(3,dI i),(39,dB t39)],40,[],[],0,[],0⟩
@[reducible] def zG5:Type:=List Int->Int->Bool->Option aF
@[reducible] def zG6:Type:=List Int->Int->Option aF
def q60_ (j2:zG5) (self1:zG6) (b:List Int) (i:Int):Option aF :=
 if lt i 6=true then j2 b i (lt i (zF (zG b))) else j2 b i false
def qip_ (j3:zG5) (self1:zG6) (b:List Int) (i:Int) (t11:Bool):Option aF :=
 if t11=true then if lt i 5=true then zC (at? b i) fun y=>j3 b i (nei y 0) else j3 b i false else some (true,())
def qhu_ (j4:zG5) (self1:zG6) (b:List Int) (i:Int) (t22:Bool):Option aF :=
 if t22=true then some (false,()) else if eqi i 5=true then zC (at? b i) fun y=>if lt y 2=true then j4 b i true else zC (at? b i) fun y=>j4 b i (gt (cvt .i64 y) 254) else j4 b i false
def q12d_ (self1:zG6) (b:List Int) (i:Int) (t39:Bool):Option aF :=
 if t39=true then some (false,()) else self1 b (add .i64 i 1)
def qh5_ (j1:zG6) (b:List Int):Option aF :=
 j1 b 2
def q11e_ (u1:zG6):=q12d_ u1
def qh4_ (u1:zG6):=qhu_ (q11e_ u1) u1
def q62_ (u1:zG6):=qip_ (qh4_ u1) u1
def qbv_ (b:List Int) (i:Int):Option aF :=
 loopF (fun self s=>q60_ (q62_ (fun b i=>self (b,i))) (fun b i=>self (b,i)) s.1 s.2) 18446744073709551616 (b,i)
def qjg_ (x:As aI):Option aF:=qh5_ qbv_ x.1
abbrev pB1:=zp qle_ ql3_ 218 q9j_
theorem q1ca_ {J w1 a b c}:pB1 J 841 [w1] (qrw_ a b c)=q12d_ (C w1 q2t_) a b c:=by kernel_rfl
theorem q1em_ {J w1 a b c}:pB1 J 840 [w1] (qrc_ a b c)=qhu_ (C (J 841 [w1]) qrw_) (C w1 q2t_) a b c:=by kernel_rfl
theorem q1eb_ {J w1 a b c}:pB1 J 104 [w1] (qqt_ a b c)=qip_ (C (J 840 [w1]) qrc_) (C w1 q2t_) a b c:=by kernel_rfl
theorem q1cb_ {J w1 a b}:pB1 J 26 [w1] (q2t_ a b)=q60_ (C (J 104 [w1]) qqt_) (C w1 q2t_) a b:=by kernel_rfl
abbrev pB0:=zj qle_ ql3_ 218 q9j_
theorem q1ex_ {w1}:C (pB0 841 [w1]) qrw_=q11e_ (C w1 q2t_):=gNC (by decide) fun _=>q1ca_
theorem q1el_ {w1}:C (pB0 840 [w1]) qrc_=qh4_ (C w1 q2t_):=gNC (by decide) fun _=>q1em_.trans (by rw [q1ex_] <;> kernel_rfl)
theorem q1ci_ {w1}:C (pB0 104 [w1]) qqt_=q62_ (C w1 q2t_):=gNC (by decide) fun _=>q1eb_.trans (by rw [q1el_] <;> kernel_rfl)
theorem q1cu_:C (pB0 26 []) q2t_=qbv_:=gLC (by decide) (by kernel_rfl) (fun _=>by unfold qbv_; rfl) fun _ _=>q1cb_.trans (by rw [q1ci_] <;> kernel_rfl)
theorem q1er_:CtOk Tryz.prog (fun _=>True) 218 ⟨q9j_,qjg_⟩:=zcc (env:=qle_) (d:=6) (hs:=Ev.get ql3_) q1_ (fun J x=>qh5_ (C (J 26 []) q2t_) x.1) (fun _ _=>by kernel_rfl) fun _=>by rw [q1cu_] <;> rfl
@[reducible] def bZ:List Ty:=[.pr (.int .u16) YTT20,.int .i64]
@[reducible] def qc6_:Sh:=⟨[.d aJ],[],aI,[.d (.pr (.int .u16) YTT20),.d (.int .i64)],[],0,bZ⟩
def qqd_:Env:=(cts [(218,(⟨q9j_,qjg_⟩:Ct))])
def qnu_:List (Nat×Hint):=[(6,⟨[],[0,2,13]⟩)]
def qvj_ (b:List Int) (t13:Bool) (t2 t2_2:Int):St:=⟨[(0,dL b),(2,.pb 0 0),(13,dB t13)],49,[],[(0,.box 129 [d6 t2,d8 t2_2,.k (zK zH 0 0)])],1,[],0⟩
def qlq_ (b:List Int) (t13:Bool) (t2 t2_2:Int):Option (As bZ) :=
 if t13=true then some ((0,0,[]),0,()) else zC (at? b 5) fun y=>if lt (zF (zG b)) (add .i64 6 (cvt .i64 y))=true then some ((0,0,[]),0,()) else need (ge (Sx.sub .i64 (add .i64 6 (cvt .i64 y)) 7) 0) (need (Ev.capOk (Sx.sub .i64 (add .i64 6 (cvt .i64 y)) 7) (Sx.sub .i64 (add .i64 6 (cvt .i64 y)) 7)) (need (small (zI (Sx.sub .i64 (add .i64 6 (cvt .i64 y)) 7))) (zC (cut b 7 (add .i64 6 (cvt .i64 y))) fun y_1=>need (le (zF (0 + zG (zE (α:=Int) (zI (Sx.sub .i64 (add .i64 6 (cvt .i64 y)) 7)) 0))) (zF (zG (zE (α:=Int) (zI (Sx.sub .i64 (add .i64 6 (cvt .i64 y)) 7)) 0)))) (zC (at? b 0) fun y_2=>zC (at? b 1) fun y_3=>zC (at? b 6) fun y_4=>some ((Sx.bor .u16 (Sx.shl .u16 (cvt .u16 y_2) 8) (cvt .u16 y_3),y_4,List.take (zI (zF (zG (zE (α:=Int) (zI (Sx.sub .i64 (add .i64 6 (cvt .i64 y)) 7)) 0)))) y_1++List.drop (0 + zG (List.take (zI (zF (zG (zE (α:=Int) (zI (Sx.sub .i64 (add .i64 6 (cvt .i64 y)) 7)) 0)))) y_1)) (zE (zI (Sx.sub .i64 (add .i64 6 (cvt .i64 y)) 7)) 0)),add .i64 6 (cvt .i64 y),())))))
def q9h_ (j1:List Int->Bool->Int->Int->Option (As bZ)) (b:List Int):Option (As bZ) :=
 if le (zF (zG b)) 7=true then j1 b true 0 0 else zC (qjg_ (b,())) fun y=>j1 b (!y.1) 0 0
def ql4_:=qlq_
def qhq_ (x:As aI):Option (As bZ):=q9h_ ql4_ x.1
abbrev pB3:=zp qqd_ qnu_ 158 qc6_
theorem q1gq_ {J a b c d}:pB3 J 6 [] (qvj_ a b c d)=qlq_ a b c d:=by kernel_rfl
abbrev pB2:=zj qqd_ qnu_ 158 qc6_
theorem q1g8_:C (pB2 6 []) qvj_=ql4_:=gNC (by decide) fun _=>q1gq_
theorem q1fu_:CtOk Tryz.prog (fun _=>True) 158 ⟨qc6_,qhq_⟩:=zcc (env:=qqd_) (d:=6) (hs:=Ev.get qnu_) (q0_ q1er_ q1_) (fun J x=>q9h_ (C (J 6 []) qvj_) x.1) (fun _ _=>by kernel_rfl) fun _=>by rw [q1g8_] <;> rfl
@[reducible] def q87_:Sh:=⟨[.d aJ],[],aI,[.d (.pr (.int .u16) YTT20),.d (.int .i64)],[],0,bZ⟩
def qoz_:Env:=(cts [(158,(⟨qc6_,qhq_⟩:Ct))])
def qp3_:List (Nat×Hint):=[(14,⟨[],[2,4,18]⟩)]
def qvx_ (t18:Bool) (t2 t2_2:Int) (x:Int×Int×List Int):St:=⟨[(2,.pb 0 0),(4,.pb 1 0),(18,dB t18)],21,[],[(0,.box 129 [d6 t2,d8 t2_2,.k (zK zH 0 0)]),(1,.box 129 [d6 x.1,d8 x.2.1,dL x.2.2])],2,[],0⟩
def q147_ (t18:Bool) (t2 t2_2:Int) (x:Int×Int×List Int):Option (As bZ) :=
 if t18=true then some ((0,0,[]),10,()) else some (x,0,())
def qkq_ (j1:Bool->Int->Int->Int×Int×List Int->Option (As bZ)) (b:List Int):Option (As bZ) :=
 zC (qhq_ (b,())) fun y=>if eqi y.2.1 0=true then j1 true 0 0 y.1 else j1 (nei y.2.1 (zF (zG b))) 0 0 y.1
def qln_:=q147_
def qa7_ (x:As aI):Option (As bZ):=qkq_ qln_ x.1
abbrev pBz:=zp qoz_ qp3_ 98 q87_
theorem q1fd_ {J a b c d}:pBz J 14 [] (qvx_ a b c d)=q147_ a b c d:=by kernel_rfl
abbrev pBy:=zj qoz_ qp3_ 98 q87_
theorem q1fk_:C (pBy 14 []) qvx_=qln_:=gNC (by decide) fun _=>q1fd_
theorem q143_:CtOk Tryz.prog (fun _=>True) 98 ⟨q87_,qa7_⟩:=zcc (env:=qoz_) (d:=6) (hs:=Ev.get qp3_) (q0_ q1fu_ q1_) (fun J x=>qkq_ (C (J 14 []) qvx_) x.1) (fun _ _=>by kernel_rfl) fun _=>by rw [q1fk_] <;> rfl
@[reducible] def dM:List Ty:=[.un,.int .u8,.int .u16,.sl (.int .u8)]
@[reducible] def q6w_:Sh:=⟨[.d (.un),.d (.int .u8),.d (.int .u16),.d aJ],[],dM,[.d aP,.d (.bool)],[],0,bJ⟩
def qfl_:Env:=(cts [(53,(⟨q76_,q67_⟩:Ct)),(98,(⟨q87_,qa7_⟩:Ct))])
def qfo_:List (Nat×Hint):=[(14,⟨[],[8,10,31]⟩)]
def qlr_ (t31:Bool) (t8 t8_2 t8_3 t8_4 x x_2:Int) (x_3:List Int):St:=⟨[(8,.pb 0 0),(10,.pb 1 0),(31,dB t31)],43,[],[(0,.box 109 [d8 t8,d8 t8_2,.k (zK zH 0 0),.k (zK zH 0 0),d6 t8_3,d6 t8_4]),(1,.box 129 [d6 x,d8 x_2,dL x_3])],2,[],0⟩
def qm0_ (t31:Bool) (t8 t8_2 t8_3 t8_4 x x_2:Int) (x_3:List Int):Option eF :=
 if t31=true then some ((0,0,[],[],0,0),false,()) else zC (q67_ (x_3,())) fun y=>if nei y.2.1 0=true then some ((0,0,[],[],0,0),false,()) else some (y.1,true,())
def qd9_ (j1:Bool->Int->Int->Int->Int->Int->Int->List Int->Option eF) (v:Unit) (unit tx:Int) (b:List Int):Option eF :=
 zC (qa7_ (b,())) fun y=>if nei y.2.1 0=true then j1 true 0 0 0 0 y.1.1 y.1.2.1 y.1.2.2 else if nei y.1.2.1 unit=true then j1 true 0 0 0 0 y.1.1 y.1.2.1 y.1.2.2 else j1 (nei y.1.1 tx) 0 0 0 0 y.1.1 y.1.2.1 y.1.2.2
def q8v_:=qm0_
def q73_ (x:As dM):Option eF:=qd9_ q8v_ x.1 x.2.1 x.2.2.1 x.2.2.2.1
abbrev pCp:=zp qfl_ qfo_ 337 q6w_
theorem q19w_ {J a b c d e f g h}:pCp J 14 [] (qlr_ a b c d e f g h)=qm0_ a b c d e f g h:=by kernel_rfl
abbrev pCo:=zj qfl_ qfo_ 337 q6w_
theorem q19i_:C (pCo 14 []) qlr_=q8v_:=gNC (by decide) fun _=>q19w_
theorem q194_:CtOk Tryz.prog (fun _=>True) 337 ⟨q6w_,q73_⟩:=zcc (env:=qfl_) (d:=6) (hs:=Ev.get qfo_) (q0_ qry_ (q0_ q143_ q1_)) (fun J x=>qd9_ (C (J 14 []) qlr_) x.1 x.2.1 x.2.2.1 x.2.2.2.1) (fun _ _=>by kernel_rfl) fun _=>by rw [q19i_] <;> rfl
@[reducible] def q1f1_:Sh:=⟨[.d aJ],[],aI,[.d aJ,.d (.int .i64)],[],0,aT⟩
def q13a_ (b:List Int):Option cP :=
 if lt (zF (zG b)) 2=true then some ([],10,()) else zC (cut b 0 (Sx.sub .i64 (zF (zG b)) 2)) fun y=>zC (at? b (Sx.sub .i64 (zF (zG b)) 2)) fun y_1=>zC (at? b (add .i64 (Sx.sub .i64 (zF (zG b)) 2) 1)) fun y_2=>zC (q11i_ (y,())) fun y=>if nei y.1 (Sx.bor .u16 (cvt .u16 y_1) (Sx.shl .u16 (cvt .u16 y_2) 8))=true then some ([],11,()) else need (ge (Sx.sub .i64 (zF (zG b)) 2) 0) (need (Ev.capOk (Sx.sub .i64 (zF (zG b)) 2) (Sx.sub .i64 (zF (zG b)) 2)) (need (small (zI (Sx.sub .i64 (zF (zG b)) 2))) (need (le (zF (0 + zG (zE (α:=Int) (zI (Sx.sub .i64 (zF (zG b)) 2)) 0))) (zF (zG (zE (α:=Int) (zI (Sx.sub .i64 (zF (zG b)) 2)) 0)))) (some (List.take (zI (zF (zG (zE (α:=Int) (zI (Sx.sub .i64 (zF (zG b)) 2)) 0)))) b++List.drop (0 + zG (List.take (zI (zF (zG (zE (α:=Int) (zI (Sx.sub .i64 (zF (zG b)) 2)) 0)))) b)) (zE (zI (Sx.sub .i64 (zF (zG b)) 2)) 0),0,())))))
def q17e_ (x:As aI):Option cP:=q13a_ x.1
theorem q1od_:CtOk Tryz.prog (fun _=>True) 159 ⟨q1f1_,q17e_⟩:=ctn (q0_ q1al_ q1_) 6 fun J x=>by kernel_rfl
@[reducible] def dA:List Ty:=[.int .u8,.sl (.int .u8),.int .i64]
@[reducible] def qet_:Sh:=⟨[.d aJ],[],aI,[.d (.int .u8),.d aJ,.d (.int .i64)],[],0,dA⟩
def qta_:Env:=(cts [(159,(⟨q1f1_,q17e_⟩:Ct)),(160,(⟨qxa_,qdn_⟩:Ct))])
def qu3_:List (Nat×Hint):=[(6,⟨[],[0,14]⟩)]
def qy4_ (b:List Int) (t14:Bool):St:=⟨[(0,dL b),(14,dB t14)],37,[],[],0,[],0⟩
def qq1_ (b:List Int) (t14:Bool):Option (As dA) :=
 if t14=true then some (0,[],10,()) else zC (q17e_ (b,())) fun y=>if nei y.2.1 0=true then some (0,[],y.2.1,()) else zC (at? y.1 0) fun y_1=>zC (qdn_ (y_1,())) fun y_2=>if (!y_2.1)=true then some (0,[],10,()) else zC (at? y.1 0) fun y_3=>zC (cut y.1 1 (zF (zG y.1))) fun y_4=>need (le (zF (zG y.1)) (zF (zG y.1))) (need (le (zF (zG y.1)) (zF (zG y.1))) (some (y_3,y_4,0,())))
def qof_ (j1:List Int->Bool->Option (As dA)) (b:List Int):Option (As dA) :=
 if lt (zF (zG b)) 4=true then j1 b true else j1 b (gt (zF (zG b)) 256)
def qq3_:=qq1_
def qgq_ (x:As aI):Option (As dA):=qof_ qq3_ x.1
abbrev pDh:=zp qta_ qu3_ 101 qet_
theorem q1l8_ {J a b}:pDh J 6 [] (qy4_ a b)=qq1_ a b:=by kernel_rfl
abbrev pDg:=zj qta_ qu3_ 101 qet_
theorem q1lt_:C (pDg 6 []) qy4_=qq3_:=gNC (by decide) fun _=>q1l8_
theorem q16k_:CtOk Tryz.prog (fun _=>True) 101 ⟨qet_,qgq_⟩:=zcc (env:=qta_) (d:=6) (hs:=Ev.get qu3_) (q0_ q1od_ (q0_ q13u_ q1_)) (fun J x=>qof_ (C (J 6 []) qy4_) x.1) (fun _ _=>by kernel_rfl) fun _=>by rw [q1lt_] <;> rfl
@[reducible] def q1nb_:Sh:=⟨[.d (.int .u8),.d aJ],[],eR,[.d aP,.d (.int .i64)],[],0,cM⟩
def qxg_ (unit:Int) (b:List Int):Option (As cM) :=
 zC (qgq_ (b,())) fun y=>if nei y.2.2.1 0=true then some ((0,0,[],[],0,0),y.2.2.1,()) else if nei y.1 unit=true then some ((0,0,[],[],0,0),10,()) else zC (q67_ (y.2.1,())) fun y=>some (y.1,y.2.1,())
def q17d_ (x:As eR):Option (As cM):=qxg_ x.1 x.2.1
theorem q1kh_:CtOk Tryz.prog (fun _=>True) 343 ⟨q1nb_,q17d_⟩:=ctn (q0_ qry_ (q0_ q16k_ q1_)) 6 fun J x=>by kernel_rfl
@[reducible] def qui_:Sh:=⟨[.d (.un),.d (.int .u8),.d (.int .u16),.d aJ],[],dM,[.d aP,.d (.bool)],[],0,bJ⟩
def qf2_ (v:Unit) (unit tx:Int) (b:List Int):Option eF :=
 zC (q17d_ (unit,b,())) fun y=>if nei y.2.1 0=true then some ((0,0,[],[],0,0),false,()) else some (y.1,true,())
def q64_ (x:As dM):Option eF:=qf2_ x.1 x.2.1 x.2.2.1 x.2.2.2.1
theorem q14e_:CtOk Tryz.prog (fun _=>True) 340 ⟨qui_,q64_⟩:=ctn (q0_ q1kh_ q1_) 6 fun J x=>by kernel_rfl
@[reducible] def cH:List Ty:=[.pr (.int .u8) YTT0,.pr (.int .u8) YTT5,.bool]
@[reducible] def q7x_:Sh:=⟨[.d aD,.d aJ],[],cZ,[.d aD,.d aP,.d (.bool)],[],0,cH⟩
def qtr_:Env:=(cts [(64,(⟨q10e_,qcr_⟩:Ct)),(114,(⟨q1bm_,qds_⟩:Ct)),(154,(⟨qbr_,qhj_⟩:Ct)),(337,(⟨q6w_,q73_⟩:Ct)),(340,(⟨qui_,q64_⟩:Ct))])
def qt1_:List (Nat×Hint):=[(7,⟨[],[2,4,5,7,8,30,31,32,33,34]⟩),(30,⟨[],[2,4,5,7,35]⟩)]
def qxw_ (ok:Bool) (p p_2 p_3 p_4:Int) (p_5:Bool) (p_6 p_7 p_8 p_9:Int) (p_10:List Int) (p_11:List Bool) (p_12 p_13 p_14 t4 t4_2 t4_3 t4_4:Int) (t4_5:Bool) (t4_6 t4_7 t4_8 t4_9 t4_10 t4_11 t4_12 t5 t5_2 t5_3 t5_4 r r_2:Int) (r_3:List Bool) (r_4:List Int) (r_5 r_6:Int):St:=⟨[(2,.pb 0 0),(4,.pb 1 0),(5,.pb 2 0),(7,.pb 3 0),(8,dB ok)],42,[],[(0,.box 29 [d8 p,d8 p_2,dI p_3,dI p_4,dB p_5,d8 p_6,d6 p_7,d6 p_8,d6 p_9,dW p_10,.d (.sl .bool) p_11,d6 p_12,dI p_13,dI p_14]),(1,.box 29 [d8 t4,d8 t4_2,dI t4_3,dI t4_4,dB t4_5,d8 t4_6,d6 t4_7,d6 t4_8,d6 t4_9,.k (zK zH 0 0),.k (zK zH 0 0),d6 t4_10,dI t4_11,dI t4_12]),(2,.box 109 [d8 t5,d8 t5_2,.k (zK zH 0 0),.k (zK zH 0 0),d6 t5_3,d6 t5_4]),(3,.box 109 [d8 r,d8 r_2,.d (.sl .bool) r_3,dW r_4,d6 r_5,d6 r_6])],4,[],0⟩
def qxs_ (t35:Bool) (p p_2 p_3 p_4:Int) (p_5:Bool) (p_6 p_7 p_8 p_9:Int) (p_10:List Int) (p_11:List Bool) (p_12 p_13 p_14 t4 t4_2 t4_3 t4_4:Int) (t4_5:Bool) (t4_6 t4_7 t4_8 t4_9 t4_10 t4_11 t4_12 t5 t5_2 t5_3 t5_4 r r_2:Int) (r_3:List Bool) (r_4:List Int) (r_5 r_6:Int):St:=⟨[(2,.pb 0 0),(4,.pb 1 0),(5,.pb 2 0),(7,.pb 3 0),(35,dB t35)],42,[],[(0,.box 29 [d8 p,d8 p_2,dI p_3,dI p_4,dB p_5,d8 p_6,d6 p_7,d6 p_8,d6 p_9,dW p_10,.d (.sl .bool) p_11,d6 p_12,dI p_13,dI p_14]),(1,.box 29 [d8 t4,d8 t4_2,dI t4_3,dI t4_4,dB t4_5,d8 t4_6,d6 t4_7,d6 t4_8,d6 t4_9,.k (zK zH 0 0),.k (zK zH 0 0),d6 t4_10,dI t4_11,dI t4_12]),(2,.box 109 [d8 t5,d8 t5_2,.k (zK zH 0 0),.k (zK zH 0 0),d6 t5_3,d6 t5_4]),(3,.box 109 [d8 r,d8 r_2,.d (.sl .bool) r_3,dW r_4,d6 r_5,d6 r_6])],4,[],0⟩
@[reducible] def zG7:Type:=Bool->Int->Int->Int->Int->Bool->Int->Int->Int->Int->List Int->List Bool->Int->Int->Int->Int->Int->Int->Int->Bool->Int->Int->Int->Int->Int->Int->Int->Int->Int->Int->Int->Int->Int->List Bool->List Int->Int->Int->Option (As cH)
def qyt_ (j2:zG7) (ok:Bool) (p p_2 p_3 p_4:Int) (p_5:Bool) (p_6 p_7 p_8 p_9:Int) (p_10:List Int) (p_11:List Bool) (p_12 p_13 p_14 t4 t4_2 t4_3 t4_4:Int) (t4_5:Bool) (t4_6 t4_7 t4_8 t4_9 t4_10 t4_11 t4_12 t5 t5_2 t5_3 t5_4 r r_2:Int) (r_3:List Bool) (r_4:List Int) (r_5 r_6:Int):Option (As cH) :=
 if (!ok)=true then j2 true p p_2 p_3 p_4 p_5 p_6 p_7 p_8 p_9 p_10 p_11 p_12 p_13 p_14 t4 t4_2 t4_3 t4_4 t4_5 t4_6 t4_7 t4_8 t4_9 t4_10 t4_11 t4_12 t5 t5_2 t5_3 t5_4 r r_2 r_3 r_4 r_5 r_6 else zC (qhj_ ((p_6,p_7,p_8,p_9,p_10,p_11),(r,r_2,r_3,r_4,r_5,r_6),())) fun y=>j2 (!y.1) p p_2 p_3 p_4 p_5 p_6 p_7 p_8 p_9 p_10 p_11 p_12 p_13 p_14 t4 t4_2 t4_3 t4_4 t4_5 t4_6 t4_7 t4_8 t4_9 t4_10 t4_11 t4_12 t5 t5_2 t5_3 t5_4 r r_2 r_3 r_4 r_5 r_6
def qz9_ (t35:Bool) (p p_2 p_3 p_4:Int) (p_5:Bool) (p_6 p_7 p_8 p_9:Int) (p_10:List Int) (p_11:List Bool) (p_12 p_13 p_14 t4 t4_2 t4_3 t4_4:Int) (t4_5:Bool) (t4_6 t4_7 t4_8 t4_9 t4_10 t4_11 t4_12 t5 t5_2 t5_3 t5_4 r r_2:Int) (r_3:List Bool) (r_4:List Int) (r_5 r_6:Int):Option (As cH) :=
 if t35=true then zC (qds_ ((p,p_2,p_3,p_4,p_5,(p_6,p_7,p_8,p_9,p_10,p_11),p_12,p_13,p_14),())) fun y=>some (y.1,(0,0,[],[],0,0),false,()) else zC (qcr_ ((p,p_2,p_3,p_4,p_5,(p_6,p_7,p_8,p_9,p_10,p_11),p_12,p_13,p_14),())) fun y=>some (y.1,(r,r_2,r_3,r_4,r_5,r_6),true,())
def qpo_ (j1:zG7) (p:Int×Int×Int×Int×Bool×YTT18×Int×Int×Int) (frame:List Int):Option (As cH) :=
 if (!p.2.2.2.2.1)=true then zC (qds_ (p,())) fun y=>some (y.1,(0,0,[],[],0,0),false,()) else amb (eqAs q7x_.rs) [if eqi p.2.1 2=true then amb (eqAs q7x_.rs) [zC (q73_ ((),p.1,p.2.2.2.2.2.2.1,frame,())) fun y=>j1 y.2.1 p.1 p.2.1 p.2.2.1 p.2.2.2.1 p.2.2.2.2.1 p.2.2.2.2.2.1.1 p.2.2.2.2.2.1.2.1 p.2.2.2.2.2.1.2.2.1 p.2.2.2.2.2.1.2.2.2.1 p.2.2.2.2.2.1.2.2.2.2.1 p.2.2.2.2.2.1.2.2.2.2.2 p.2.2.2.2.2.2.1 p.2.2.2.2.2.2.2.1 p.2.2.2.2.2.2.2.2 0 0 0 0 false 0 0 0 0 0 0 0 0 0 0 0 y.1.1 y.1.2.1 y.1.2.2.1 y.1.2.2.2.1 y.1.2.2.2.2.1 y.1.2.2.2.2.2,zC (q73_ ((),p.1,p.2.2.2.2.2.2.1,frame,())) fun y=>j1 y.2.1 p.1 p.2.1 p.2.2.1 p.2.2.2.1 p.2.2.2.2.1 p.2.2.2.2.2.1.1 p.2.2.2.2.2.1.2.1 p.2.2.2.2.2.1.2.2.1 p.2.2.2.2.2.1.2.2.2.1 p.2.2.2.2.2.1.2.2.2.2.1 p.2.2.2.2.2.1.2.2.2.2.2 p.2.2.2.2.2.2.1 p.2.2.2.2.2.2.2.1 p.2.2.2.2.2.2.2.2 0 0 0 0 false 0 0 0 0 0 0 0 0 0 0 0 y.1.1 y.1.2.1 y.1.2.2.1 y.1.2.2.2.1 y.1.2.2.2.2.1 y.1.2.2.2.2.2] else amb (eqAs q7x_.rs) [zC (q64_ ((),p.1,p.2.2.2.2.2.2.1,frame,())) fun y=>j1 y.2.1 p.1 p.2.1 p.2.2.1 p.2.2.2.1 p.2.2.2.2.1 p.2.2.2.2.2.1.1 p.2.2.2.2.2.1.2.1 p.2.2.2.2.2.1.2.2.1 p.2.2.2.2.2.1.2.2.2.1 p.2.2.2.2.2.1.2.2.2.2.1 p.2.2.2.2.2.1.2.2.2.2.2 p.2.2.2.2.2.2.1 p.2.2.2.2.2.2.2.1 p.2.2.2.2.2.2.2.2 0 0 0 0 false 0 0 0 0 0 0 0 0 0 0 0 y.1.1 y.1.2.1 y.1.2.2.1 y.1.2.2.2.1 y.1.2.2.2.2.1 y.1.2.2.2.2.2,zC (q64_ ((),p.1,p.2.2.2.2.2.2.1,frame,())) fun y=>j1 y.2.1 p.1 p.2.1 p.2.2.1 p.2.2.2.1 p.2.2.2.2.1 p.2.2.2.2.2.1.1 p.2.2.2.2.2.1.2.1 p.2.2.2.2.2.1.2.2.1 p.2.2.2.2.2.1.2.2.2.1 p.2.2.2.2.2.1.2.2.2.2.1 p.2.2.2.2.2.1.2.2.2.2.2 p.2.2.2.2.2.2.1 p.2.2.2.2.2.2.2.1 p.2.2.2.2.2.2.2.2 0 0 0 0 false 0 0 0 0 0 0 0 0 0 0 0 y.1.1 y.1.2.1 y.1.2.2.1 y.1.2.2.2.1 y.1.2.2.2.2.1 y.1.2.2.2.2.2],if eqi p.2.1 2=true then zC (q73_ ((),p.1,p.2.2.2.2.2.2.1,frame,())) fun y=>j1 y.2.1 p.1 p.2.1 p.2.2.1 p.2.2.2.1 p.2.2.2.2.1 p.2.2.2.2.2.1.1 p.2.2.2.2.2.1.2.1 p.2.2.2.2.2.1.2.2.1 p.2.2.2.2.2.1.2.2.2.1 p.2.2.2.2.2.1.2.2.2.2.1 p.2.2.2.2.2.1.2.2.2.2.2 p.2.2.2.2.2.2.1 p.2.2.2.2.2.2.2.1 p.2.2.2.2.2.2.2.2 0 0 0 0 false 0 0 0 0 0 0 0 0 0 0 0 y.1.1 y.1.2.1 y.1.2.2.1 y.1.2.2.2.1 y.1.2.2.2.2.1 y.1.2.2.2.2.2 else zC (q64_ ((),p.1,p.2.2.2.2.2.2.1,frame,())) fun y=>j1 y.2.1 p.1 p.2.1 p.2.2.1 p.2.2.2.1 p.2.2.2.2.1 p.2.2.2.2.2.1.1 p.2.2.2.2.2.1.2.1 p.2.2.2.2.2.1.2.2.1 p.2.2.2.2.2.1.2.2.2.1 p.2.2.2.2.2.1.2.2.2.2.1 p.2.2.2.2.2.1.2.2.2.2.2 p.2.2.2.2.2.2.1 p.2.2.2.2.2.2.2.1 p.2.2.2.2.2.2.2.2 0 0 0 0 false 0 0 0 0 0 0 0 0 0 0 0 y.1.1 y.1.2.1 y.1.2.2.1 y.1.2.2.2.1 y.1.2.2.2.2.1 y.1.2.2.2.2.2]
def qo3_:=qz9_
def qc5_:=qyt_ (qo3_)
def qzz_ (x:As cZ):Option (As cH):=qpo_ qc5_ x.1 x.2.1
abbrev pCn:=zp qtr_ qt1_ 95 q7x_
theorem q1kq_ {J a b c d e f g h i j k l m n o p q r t u v x y z aa ab ac ad ae af ag ah ba bb bc bd be}:pCn J 30 [] (qxs_ a b c d e f g h i j k l m n o p q r t u v x y z aa ab ac ad ae af ag ah ba bb bc bd be)=qz9_ a b c d e f g h i j k l m n o p q r t u v x y z aa ab ac ad ae af ag ah ba bb bc bd be:=by kernel_rfl
theorem q1j7_ {J a b c d e f g h i j k l m n o p q r t u v x y z aa ab ac ad ae af ag ah ba bb bc bd be}:pCn J 7 [] (qxw_ a b c d e f g h i j k l m n o p q r t u v x y z aa ab ac ad ae af ag ah ba bb bc bd be)=qyt_ (C (J 30 []) qxs_) a b c d e f g h i j k l m n o p q r t u v x y z aa ab ac ad ae af ag ah ba bb bc bd be:=by kernel_rfl
abbrev pCm:=zj qtr_ qt1_ 95 q7x_
theorem q1k4_:C (pCm 30 []) qxs_=qo3_:=gNC (by decide) fun _=>q1kq_
theorem q1km_:C (pCm 7 []) qxw_=qc5_:=gNC (by decide) fun _=>q1j7_.trans (by rw [q1k4_] <;> kernel_rfl)
theorem q1hy_:CtOk Tryz.prog (fun _=>True) 95 ⟨q7x_,qzz_⟩:=zcc (env:=qtr_) (d:=6) (hs:=Ev.get qt1_) (q0_ qnm_ (q0_ q10u_ (q0_ q1h8_ (q0_ q194_ (q0_ q14e_ q1_))))) (fun J x=>qpo_ (C (J 7 []) qxw_) x.1 x.2.1) (fun _ _=>by kernel_rfl) fun _=>by rw [q1km_] <;> rfl
@[reducible] def qdx_:Sh:=⟨[.d aY,.d aP],[],aZ,[.d aY],[],0,aN⟩
def qlj_:Env:=(cts [(1000211,Ev.bxCt),(56,(⟨qp6_,q2j_⟩:Ct)),(204,(⟨qam_,qa0_⟩:Ct)),(205,(⟨q5v_,qcf_⟩:Ct)),(206,(⟨qw5_,qt2_⟩:Ct)),(207,(⟨qv8_,qjh_⟩:Ct)),(208,(⟨q10o_,q105_⟩:Ct)),(209,(⟨q5a_,q9g_⟩:Ct)),(211,(⟨q53_,q9k_⟩:Ct)),(213,(⟨qlz_,qck_⟩:Ct)),(215,(⟨qr6_,qgn_⟩:Ct)),(216,(⟨q10g_,q100_⟩:Ct)),(217,(⟨q78_,qen_⟩:Ct))])
def qk2_:List (Nat×Hint):=[(14,⟨[],[2,3,4,5,15]⟩)]
def qs6_ (t15:Bool) (t:TaA3q0) (r:TaA3q1) (t4:YTT10×Int×Int×Unit×Int×Int×Int×Int×Int):St:=⟨[(2,.pb 0 0),(3,.pb 1 0),(4,.pb 2 0),(5,.pb 3 0),(15,dB t15)],28,[],[(0,.box 33 (talkC t [])),(1,.box 109 [d8 r.1,d8 r.2.1,.d (.sl .bool) r.2.2.1,dW r.2.2.2.1,d6 r.2.2.2.2.1,d6 r.2.2.2.2.2]),(2,.box 33 [d8 t4.1.1,d8 t4.1.2.1,dI t4.1.2.2.1,dI t4.1.2.2.2.1,dB t4.1.2.2.2.2.1,d8 t4.1.2.2.2.2.2.1.1,d6 t4.1.2.2.2.2.2.1.2.1,d6 t4.1.2.2.2.2.2.1.2.2.1,d6 t4.1.2.2.2.2.2.1.2.2.2.1,.k (zK zH 0 0),.k (zK zH 0 0),d6 t4.1.2.2.2.2.2.2.1,dI t4.1.2.2.2.2.2.2.2.1,dI t4.1.2.2.2.2.2.2.2.2,d6 t4.2.1,d2 t4.2.2.1,.k (zK zH 0 0),d8 t4.2.2.2.2.1,d8 t4.2.2.2.2.2.1,dI t4.2.2.2.2.2.2.1,dI t4.2.2.2.2.2.2.2.1,d8 t4.2.2.2.2.2.2.2.2]),(3,.box 211 [.k Go.Value.nilFunc,.k Go.Value.nilFunc,.fn (.func 203) [] [],.fn (.func 205) [] [],.fn (.func 206) [] [],.fn (.func 207) [] [],.fn (.func 208) [] [],.fn (.func 209) [] [],.fn (.func 210) [] [],.fn (.func 211) [] [],.fn (.func 212) [] [],.fn (.func 213) [] [],.fn (.func 214) [] [],.fn (.func 215) [] [],.fn (.func 216) [] [],.fn (.func 217) [] []])],4,[],0⟩
def qim_ (t15:Bool) (t:TaA3q0) (r:TaA3q1) (t4:YTT10×Int×Int×Unit×Int×Int×Int×Int×Int):Option bS :=
 if t15=true then zC (q2j_ (t,t.2.2.2.2.2.2.2.2,())) fun y=>some (y.1,()) else if eqi t.2.2.2.2.2.1 7=true then zC (qen_ (t,r,())) fun y=>some (y.1,()) else if eqi t.2.2.2.2.2.1 6=true then zC (qgn_ (t,r,())) fun y=>some (y.1,()) else if eqi t.2.2.2.2.2.1 5=true then zC (qck_ (t,r,())) fun y=>some (y.1,()) else if eqi t.2.2.2.2.2.1 4=true then zC (q9k_ (t,r,())) fun y=>some (y.1,()) else if eqi t.2.2.2.2.2.1 3=true then zC (q9g_ (t,r,())) fun y=>some (y.1,()) else if eqi t.2.2.2.2.2.1 2=true then zC (qjh_ (t,r,())) fun y=>some (y.1,()) else if eqi t.2.2.2.2.2.1 1=true then zC (qcf_ (t,r,())) fun y=>some (y.1,()) else if eqi t.2.2.2.2.2.1 0=true then zH else zH
def qi8_ (j1:Bool->TaA3q0->TaA3q1->YTT10×Int×Int×Unit×Int×Int×Int×Int×Int->Option bS) (t:TaA3q0) (r:TaA3q1):Option bS :=
 if ge (cvt .i64 t.2.2.2.2.2.1) 8=true then j1 true t r ((0,0,0,0,false,(0,0,0,0,(),()),0,0,0),0,0,(),0,0,0,0,0) else j1 (eqi t.2.2.2.2.2.1 0) t r ((0,0,0,0,false,(0,0,0,0,(),()),0,0,0),0,0,(),0,0,0,0,0)
def qri_:=qim_
def qj5_ (x:As aZ):Option bS:=qi8_ qri_ x.1 x.2.1
abbrev pEx:=zp qlj_ qk2_ 96 qdx_
theorem q1eo_ {J a b c d}:pEx J 14 [] (qs6_ a b c d)=qim_ a b c d:=by kernel_rfl
abbrev pEw:=zj qlj_ qk2_ 96 qdx_
theorem q1dc_:C (pEw 14 []) qs6_=qri_:=gNC (by decide) fun _=>q1eo_
theorem q1ef_:CtOk Tryz.prog (fun _=>True) 96 ⟨qdx_,qj5_⟩:=zcc (env:=qlj_) (d:=6) (hs:=Ev.get qk2_) (q0_ Ev.bx_ok (q0_ q6b_ (q0_ q173_ (q0_ q104_ (q0_ q12x_ (q0_ q11o_ (q0_ q16h_ (q0_ qz8_ (q0_ qyr_ (q0_ qwd_ (q0_ qzv_ (q0_ q15d_ (q0_ q11n_ q1_))))))))))))) (fun J x=>qi8_ (C (J 14 []) qs6_) x.1 x.2.1) (fun _ _=>by kernel_rfl) fun _=>by rw [q1dc_] <;> rfl
@[reducible] def q10r_:Sh:=⟨[.d aY,.d aJ],[],bM,[.d aY,.d aJ],[],0,bM⟩
def qzd_ (t:TaA3q0) (frame:List Int):Option (As bM) :=
 zC (qma_ (t,())) fun y=>zC (qzz_ (y.1.1,frame,())) fun y_1=>if (!y_1.2.2.1)=true then some (y.1,[],()) else zC (qj5_ ((y_1.1,y.1.2),y_1.2.1,())) fun y=>if eqi y.1.2.2.2.2.2.1 0=true then some (y.1,[],()) else zC (q7v_ (y.1,())) fun y=>some (y.1,y.2.1,())
def q7q_ (x:As bM):Option (As bM):=qzd_ x.1 x.2.1
theorem q159_:CtOk Tryz.prog (fun _=>True) 46 ⟨q10r_,q7q_⟩:=ctn (q0_ q10w_ (q0_ qxq_ (q0_ q1hy_ (q0_ q1ef_ q1_)))) 6 fun J x=>by kernel_rfl
@[reducible] def cK:List Ty:=[.pr (.int .u8) aA]
@[reducible] def qeh_:Sh:=⟨[.d bA],[],cK,[.d bA],[],0,cK⟩
def qtt_:Env:=(cts [(45,(⟨q2u_,qc_⟩:Ct)),(113,(⟨qcz_,q2n_⟩:Ct))])
def qti_:List (Nat×Hint):=[(122,⟨[],[1,2,15]⟩)]
@[reducible] def zG8:Type:=List (Int×Int×YTT4×List Bool)
def qp4_ (s t2 t15:Int) (s_2 t2_2:zG8):St:=⟨[(1,.prw 0 s 35 0),(2,.prw 1 t2 35 0),(15,dI t15)],33,[],[(0,.row bA 45 s_2),(1,.row bA 45 t2_2)],2,[],0⟩
@[reducible] def zG9:Type:=Int->Int->Int->List (Int×Int×YTT4×List Bool)->List (Int×Int×YTT4×List Bool)->Option (As cK)
def qch_ (self1:zG9) (s t2 t15:Int) (s_2 t2_2:zG8):Option (As cK) :=
 if lt t15 8=true then need (ge t15 0) (need (lt t15 8) (zC (at? s_2 s) fun y=>zC (at? y.2.2.1.2.2.2.2.2.1.2.2 t15) fun z=>zC (qc_ (z.2,())) fun y=>zC (at? s_2 s) fun x=>zC (at? x.2.2.1.2.2.2.2.2.1.2.2 t15) fun z=>self1 s t2 (add .i64 t15 1) (List.set s_2 (zI s) (x.1,x.2.1,(x.2.2.1.1,x.2.2.1.2.1,x.2.2.1.2.2.1,x.2.2.1.2.2.2.1,x.2.2.1.2.2.2.2.1,(x.2.2.1.2.2.2.2.2.1.1,x.2.2.1.2.2.2.2.2.1.2.1,List.set x.2.2.1.2.2.2.2.2.1.2.2 (zI t15) (z.1,y.1)),x.2.2.1.2.2.2.2.2.2),x.2.2.2)) t2_2)) else zC (at? s_2 s) fun y=>zC (at? t2_2 t2) fun x=>zC (at? (List.set t2_2 (zI t2) y) t2) fun y_1=>zC (at? (List.set t2_2 (zI t2) y) t2) fun y=>some (y,())
def qpr_ (j1:zG9) (s:Int×Int×YTT4×List Bool):Option (As cK) :=
 zC (q2n_ (s.2.2.2,())) fun y=>zC (qc_ (s.2.2.1.1,())) fun y_1=>j1 0 0 0 [(s.1,s.2.1,(y_1.1,s.2.2.1.2),y.1)] [zSl]
def qc0_ (s t2 t15:Int) (s_2 t2_2:zG8):Option (As cK) :=
 loopF (fun self s=>qch_ (fun s t2 t15 s_2 t2_2=>self (s,t2,t15,s_2,t2_2)) s.1 s.2.1 s.2.2.1 s.2.2.2.1 s.2.2.2.2) 18446744073709551616 (s,t2,t15,s_2,t2_2)
def qmx_ (x:As cK):Option (As cK):=qpr_ qc0_ x.1
abbrev pDr:=zp qtt_ qti_ 99 qeh_
theorem q1jf_ {J w1 a b c d e}:pDr J 122 [w1] (qp4_ a b c d e)=qch_ (C w1 qp4_) a b c d e:=by kernel_rfl
abbrev pDq:=zj qtt_ qti_ 99 qeh_
theorem q1jg_:C (pDq 122 []) qp4_=qc0_:=gLC (by decide) (by kernel_rfl) (fun _=>by unfold qc0_; rfl) fun _ _=>q1jf_.trans (by kernel_rfl)
theorem q1lr_:CtOk Tryz.prog (fun _=>True) 99 ⟨qeh_,qmx_⟩:=zcc (env:=qtt_) (d:=6) (hs:=Ev.get qti_) (q0_ q1g_ (q0_ qca_ q1_)) (fun J x=>qpr_ (C (J 122 []) qp4_) x.1) (fun _ _=>by kernel_rfl) fun _=>by rw [q1jg_] <;> rfl
end Go.Proofs.Lx
end
