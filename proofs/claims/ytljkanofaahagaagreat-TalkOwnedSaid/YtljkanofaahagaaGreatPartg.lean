/- Proved in the last of these 15 parts (this is part 7): TalkOwned. Conditions: those of the given statement, and no others. -/
import Derived.Test.YtljkanofaahagaaGreatPartd
import Derived.Test.YtljkanofaahagaaGreatPartf
import Derived.Test.YtljkanofaahagaaGreatProg
import Derived.Test.YtljkanofaahagaaGreatParte
set_option linter.unusedVariables false
set_option linter.unusedSimpArgs false
set_option linter.unusedSectionVars false
open Option renaming bind → zC, none → zH
open List renaming replicate → zE, length → zG
open Int renaming ofNat → zF, toNat → zI
open Go.Value renaming slice → zK
noncomputable section
open Go Go.Proofs Ev Sx
set_option maxRecDepth 100000
namespace Go.Proofs.Lx
abbrev TaA3q0:Type:=YTT3×Int×Int×List (Int×List Int)×Int×Int×Int×Int×Int
abbrev TaA3q1:Type:=Int×Int×List Bool×List Int×Int×Int
@[reducible] def q55_:Sh:=⟨[.d (.sl .bool),.d (.bool)],[],[.sl .bool,.bool],[.d (.int .i64)],[],0,[.int .i64]⟩
def q7j_:Env:=(cts [])
def q7f_:List (Nat×Hint):=[(26,⟨[],[0,1,7,8]⟩)]
def q71_ (s:List Bool) (v:Bool) (t7 t8:Int):St:=⟨[(0,.d (.sl .bool) s),(1,dB v),(7,dI t7),(8,dI t8)],19,[],[],0,[],0⟩
def q36_ (self1:List Bool->Bool->Int->Int->Option (As [.int .i64])) (s:List Bool) (v:Bool) (t7 t8:Int):Option (As [.int .i64]) :=
 if lt t8 t7=true then zC (at? s t8) fun y=>if Sx.eqb v y=true then some (t8,()) else self1 s v t7 (add .i64 t8 1) else some (-1,())
def q6y_ (j1:List Bool->Bool->Int->Int->Option (As [.int .i64])) (s:List Bool) (v:Bool):Option (As [.int .i64]) :=
 j1 s v (zF (zG s)) 0
def q4q_ (s:List Bool) (v:Bool) (t7 t8:Int):Option (As [.int .i64]) :=
 loopF (fun self s=>q36_ (fun s v t7 t8=>self (s,v,t7,t8)) s.1 s.2.1 s.2.2.1 s.2.2.2) 18446744073709551616 (s,v,t7,t8)
def qac_ (x:As [.sl .bool,.bool]):Option (As [.int .i64]):=q6y_ q4q_ x.1 x.2.1
abbrev slices_Index_Gbool_P:=zp q7j_ q7f_ 241 q55_
theorem q12c_ {J w1 a b c d}:slices_Index_Gbool_P J 26 [w1] (q71_ a b c d)=q36_ (C w1 q71_) a b c d:=by kernel_rfl
theorem q135_ (J:Orc (As [.int .i64])) (x:As [.sl .bool,.bool]):rfn Tryz.prog q7j_ 6 18446744073709551616 (Ev.get q7f_) 241 q55_ J x=q6y_ (C (J 26 []) q71_) x.1 x.2.1:=by kernel_rfl
abbrev slices_Index_Gbool_J:=zj q7j_ q7f_ 241 q55_
theorem q131_:C (slices_Index_Gbool_J 26 []) q71_=q4q_:=gLC (by decide) (by kernel_rfl) (fun _=>by unfold q4q_; rfl) fun _ _=>q12c_.trans (by kernel_rfl)
theorem q13m_ (x:As [.sl .bool,.bool]):evT Tryz.prog q7j_ 6 18446744073709551616 (Ev.get q7f_) 241 q55_ x=qac_ x:=by
 rw [qb_,q135_,q131_] <;> rfl
theorem q11q_:CtOk Tryz.prog (fun _=>True) 241 ⟨q55_,qac_⟩:=q7_ q2_ q13m_
@[reducible] def q9e_:Sh:=⟨[.d (.sl .bool),.d (.bool)],[],[.sl .bool,.bool],[.d (.bool)],[],0,[.bool]⟩
def q8i_ (s:List Bool) (v:Bool):Option (As [.bool]) :=
 zC (qac_ (s,v,())) fun y=>some (ge y.1 0,())
def q35_ (x:As [.sl .bool,.bool]):Option (As [.bool]):=q8i_ x.1 x.2.1
theorem qgt_:CtOk Tryz.prog (fun _=>True) 199 ⟨q9e_,q35_⟩:=ctn (q0_ q11q_ q2_) 6 fun J x=>by kernel_rfl
@[reducible] def qv3_:Sh:=⟨[.d (.int .u8),.d (.int .u8)],[],[.int .u8,.int .u8],[.d (.pr (.int .u8) YTT5)],[],0,[.pr (.int .u8) YTT5]⟩
def q1ed_ (f except:Int):Option (As [.pr (.int .u8) YTT5]) :=
 some ((rem f 128,except,[],[],0,0),())
def qi_ (x:As [.int .u8,.int .u8]):Option (As [.pr (.int .u8) YTT5]):=q1ed_ x.1 x.2.1
theorem qie_:CtOk Tryz.prog (fun _=>True) 166 ⟨qv3_,qi_⟩:=ctn q2_ 6 fun J x=>by kernel_rfl
@[reducible] def q3o_:Sh:=⟨[.d (.sl .bool),.d (.sl .bool)],[],[.sl .bool,.sl .bool],[.d (.bool)],[],0,[.bool]⟩
def q7i_:Env:=(cts [])
def q7m_:List (Nat×Hint):=[(58,⟨[],[0,1,12,13]⟩)]
def q73_ (s1 s2:List Bool) (t12 t13:Int):St:=⟨[(0,.d (.sl .bool) s1),(1,.d (.sl .bool) s2),(12,dI t12),(13,dI t13)],26,[],[],0,[],0⟩
@[reducible] def zG0:Type:=List Bool->List Bool->Int->Int->Option (As [.bool])
def q4u_ (self1:zG0) (s1 s2:List Bool) (t12 t13:Int):Option (As [.bool]) :=
 if lt t13 t12=true then zC (at? s1 t13) fun y=>zC (at? s2 t13) fun y_1=>if Sx.neb y y_1=true then some (false,()) else self1 s1 s2 t12 (add .i64 t13 1) else some (true,())
def q6v_ (j1:zG0) (s1 s2:List Bool):Option (As [.bool]) :=
 if nei (zF (zG s1)) (zF (zG s2))=true then some (false,()) else j1 s1 s2 (zF (zG s1)) 0
def q4p_ (s1 s2:List Bool) (t12 t13:Int):Option (As [.bool]) :=
 loopF (fun self s=>q4u_ (fun s1 s2 t12 t13=>self (s1,s2,t12,t13)) s.1 s.2.1 s.2.2.1 s.2.2.2) 18446744073709551616 (s1,s2,t12,t13)
def q3h_ (x:As [.sl .bool,.sl .bool]):Option (As [.bool]):=q6v_ q4p_ x.1 x.2.1
abbrev slices_Equal_Gbool_P:=zp q7i_ q7m_ 59 q3o_
theorem q125_ {J w1 a b c d}:slices_Equal_Gbool_P J 58 [w1] (q73_ a b c d)=q4u_ (C w1 q73_) a b c d:=by kernel_rfl
theorem q132_ (J:Orc (As [.bool])) (x:As [.sl .bool,.sl .bool]):rfn Tryz.prog q7i_ 6 18446744073709551616 (Ev.get q7m_) 59 q3o_ J x=q6v_ (C (J 58 []) q73_) x.1 x.2.1:=by kernel_rfl
abbrev slices_Equal_Gbool_J:=zj q7i_ q7m_ 59 q3o_
theorem q120_:C (slices_Equal_Gbool_J 58 []) q73_=q4p_:=gLC (by decide) (by kernel_rfl) (fun _=>by unfold q4p_; rfl) fun _ _=>q125_.trans (by kernel_rfl)
theorem q13n_ (x:As [.sl .bool,.sl .bool]):evT Tryz.prog q7i_ 6 18446744073709551616 (Ev.get q7m_) 59 q3o_ x=q3h_ x:=by
 rw [qb_,q132_,q120_] <;> rfl
theorem qc8_:CtOk Tryz.prog (fun _=>True) 59 ⟨q3o_,q3h_⟩:=q7_ q2_ q13n_
@[reducible] def q16m_:Sh:=⟨[.d (.pr (.int .u8) YTT5),.d (.pr (.int .u8) YTT5)],[],[.pr (.int .u8) YTT5,.pr (.int .u8) YTT5],[.d (.bool)],[],0,[.bool]⟩
def qv2_ (a b:TaA3q1):Option (As [.bool]) :=
 if eqi a.1 b.1=true then if eqi a.2.1 b.2.1=true then if eqi a.2.2.2.2.1 b.2.2.2.2.1=true then if eqi a.2.2.2.2.2 b.2.2.2.2.2=true then zC (q3h_ (a.2.2.1,b.2.2.1,())) fun y=>if y.1=true then zC (q10_ (a.2.2.2.1,b.2.2.2.1,())) fun y=>some (y.1,()) else some (false,()) else some (false,()) else some (false,()) else some (false,()) else some (false,())
def q59_ (x:As [.pr (.int .u8) YTT5,.pr (.int .u8) YTT5]):Option (As [.bool]):=qv2_ x.1 x.2.1
theorem q7a_:CtOk Tryz.prog (fun _=>True) 202 ⟨q16m_,q59_⟩:=ctn (q0_ qc8_ (q0_ q2p_ q2_)) 6 fun J x=>by kernel_rfl
@[reducible] def qiz_:Sh:=⟨[.d (.un),.d (.pr (.int .u8) YTT5)],[],[.un,.pr (.int .u8) YTT5],[.d (.bool)],[],0,[.bool]⟩
def q8v_ (v:Unit) (r:TaA3q1):Option (As [.bool]) :=
 if lt r.1 128=true then if ge r.2.1 1=true then if le r.2.1 4=true then zC (qi_ (r.1,r.2.1,())) fun y=>zC (q59_ (r,y.1,())) fun y=>some (y.1,()) else some (false,()) else some (false,()) else some (false,())
def q2i_ (x:As [.un,.pr (.int .u8) YTT5]):Option (As [.bool]):=q8v_ x.1 x.2.1
theorem q8m_:CtOk Tryz.prog (fun _=>True) 318 ⟨qiz_,q2i_⟩:=ctn (q0_ qie_ (q0_ q7a_ q2_)) 6 fun J x=>by kernel_rfl
@[reducible] def qmu_:Sh:=⟨[.d (.un),.d (.pr (.int .u8) YTT5)],[],[.un,.pr (.int .u8) YTT5],[.d (.bool)],[],0,[.bool]⟩
def qb8_ (v:Unit) (r:TaA3q1):Option (As [.bool]) :=
 if ge (zF (zG r.2.2.1)) 8=true then if le (zF (zG r.2.2.1)) 2000=true then if eqi (rem (zF (zG r.2.2.1)) 8) 0=true then zC (q59_ (r,(r.1,0,r.2.2.1,[],0,0),())) fun y=>some (y.1,()) else some (false,()) else some (false,()) else some (false,())
def q1g_ (x:As [.un,.pr (.int .u8) YTT5]):Option (As [.bool]):=qb8_ x.1 x.2.1
theorem qay_:CtOk Tryz.prog (fun _=>True) 321 ⟨qmu_,q1g_⟩:=ctn (q0_ q7a_ q2_) 6 fun J x=>by kernel_rfl
@[reducible] def qjb_:Sh:=⟨[.d (.un),.d (.pr (.int .u8) YTT5)],[],[.un,.pr (.int .u8) YTT5],[.d (.bool)],[],0,[.bool]⟩
def q9d_ (v:Unit) (r:TaA3q1):Option (As [.bool]) :=
 if ge (zF (zG r.2.2.2.1)) 1=true then if le (zF (zG r.2.2.2.1)) 125=true then zC (q59_ (r,(r.1,0,[],r.2.2.2.1,0,0),())) fun y=>some (y.1,()) else some (false,()) else some (false,())
def qu_ (x:As [.un,.pr (.int .u8) YTT5]):Option (As [.bool]):=q9d_ x.1 x.2.1
theorem q9f_:CtOk Tryz.prog (fun _=>True) 324 ⟨qjb_,qu_⟩:=ctn (q0_ q7a_ q2_) 6 fun J x=>by kernel_rfl
@[reducible] def qph_:Sh:=⟨[.d (.un),.d (.pr (.int .u8) YTT5)],[],[.un,.pr (.int .u8) YTT5],[.d (.bool)],[],0,[.bool]⟩
def qcg_ (v:Unit) (r:TaA3q1):Option (As [.bool]) :=
 if eqi (zF (zG r.2.2.1)) 1=true then zC (q59_ (r,(r.1,0,r.2.2.1,[],r.2.2.2.2.1,0),())) fun y=>some (y.1,()) else some (false,())
def q3l_ (x:As [.un,.pr (.int .u8) YTT5]):Option (As [.bool]):=qcg_ x.1 x.2.1
theorem qca_:CtOk Tryz.prog (fun _=>True) 329 ⟨qph_,q3l_⟩:=ctn (q0_ q7a_ q2_) 6 fun J x=>by kernel_rfl
@[reducible] def qmp_:Sh:=⟨[.d (.un),.d (.pr (.int .u8) YTT5)],[],[.un,.pr (.int .u8) YTT5],[.d (.bool)],[],0,[.bool]⟩
def qb3_ (v:Unit) (r:TaA3q1):Option (As [.bool]) :=
 if eqi (zF (zG r.2.2.2.1)) 1=true then zC (q59_ (r,(r.1,0,[],r.2.2.2.1,r.2.2.2.2.1,0),())) fun y=>some (y.1,()) else some (false,())
def q2y_ (x:As [.un,.pr (.int .u8) YTT5]):Option (As [.bool]):=qb3_ x.1 x.2.1
theorem qb7_:CtOk Tryz.prog (fun _=>True) 332 ⟨qmp_,q2y_⟩:=ctn (q0_ q7a_ q2_) 6 fun J x=>by kernel_rfl
@[reducible] def qqh_:Sh:=⟨[.d (.wr (.int .u16)),.d (.pr (.int .u8) YTT5)],[],[.wr (.int .u16),.pr (.int .u8) YTT5],[.d (.bool)],[],0,[.bool]⟩
def qdc_ (k:Int) (r:TaA3q1):Option (As [.bool]) :=
 if ge r.2.2.2.2.2 1=true then if le r.2.2.2.2.2 k=true then zC (q59_ (r,(r.1,0,[],[],r.2.2.2.2),())) fun y=>some (y.1,()) else some (false,()) else some (false,())
def q1x_ (x:As [.wr (.int .u16),.pr (.int .u8) YTT5]):Option (As [.bool]):=qdc_ x.1 x.2.1
theorem qdn_:CtOk Tryz.prog (fun _=>True) 335 ⟨qqh_,q1x_⟩:=ctn (q0_ q7a_ q2_) 6 fun J x=>by kernel_rfl
@[reducible] def q146_:Sh:=⟨[.d (.pr (.int .u8) YTT5)],[],[.pr (.int .u8) YTT5],[.d (.bool)],[],0,[.bool]⟩
def qs0_ (r:TaA3q1):Option (As [.bool]) :=
 if nei r.2.1 0=true then zC (q2i_ ((),r,())) fun y=>some (y.1,()) else if eqi r.1 1=true then zC (q1g_ ((),r,())) fun y=>some (y.1,()) else if eqi r.1 2=true then zC (q1g_ ((),r,())) fun y=>some (y.1,()) else if eqi r.1 3=true then zC (qu_ ((),r,())) fun y=>some (y.1,()) else if eqi r.1 4=true then zC (qu_ ((),r,())) fun y=>some (y.1,()) else if eqi r.1 23=true then zC (qu_ ((),r,())) fun y=>some (y.1,()) else if eqi r.1 5=true then zC (q3l_ ((),r,())) fun y=>some (y.1,()) else if eqi r.1 6=true then zC (q2y_ ((),r,())) fun y=>some (y.1,()) else if eqi r.1 15=true then zC (q1x_ (1968,r,())) fun y=>some (y.1,()) else if eqi r.1 16=true then zC (q1x_ (123,r,())) fun y=>some (y.1,()) else some (false,())
def qty_ (x:As [.pr (.int .u8) YTT5]):Option (As [.bool]):=qs0_ x.1
theorem q1cq_:CtOk Tryz.prog (fun _=>True) 200 ⟨q146_,qty_⟩:=ctn (q0_ q8m_ (q0_ qay_ (q0_ q9f_ (q0_ qca_ (q0_ qb7_ (q0_ qdn_ q2_)))))) 6 fun J x=>by kernel_rfl
@[reducible] def q6t_:Sh:=⟨[.d (.pr (.int .u8) YTT7)],[],[.pr (.int .u8) YTT7],[.d (.pr (.int .u8) YTT5),.d (.bool)],[],0,[.pr (.int .u8) YTT5,.bool]⟩
def qnt_:Env:=(cts [(105,(⟨q69_,q5h_⟩:Ct))])
def qnp_:List (Nat×Hint):=[(15,⟨[.rwb 4 2 4,.rwb 4 3 25],[2,4]⟩),(1967,⟨[],[1,2,4,33]⟩)]
def qkd_ (t2 t2_2 t2_3 t2_4 r r_2 r_3 r_4:Int) (o:List Bool) (o_2:List Int):St:=⟨[(2,.pb 0 0),(4,.pb 1 0)],40,[],[(0,.box 109 [d8 t2,d8 t2_2,.k (zK zH 0 0),.k (zK zH 0 0),d6 t2_3,d6 t2_4]),(1,.box 109 [d8 r,d8 r_2,.row 2,.row 3,d6 r_3,d6 r_4]),(2,.row .bool 4 o),(3,.row (.int .u16) 25 o_2)],4,[],0⟩
def qvf_ (t33:Bool) (a a_2 a_3 a_4:Int) (a_5:List Int) (a_6:List Bool) (t2 t2_2 t2_3 t2_4 r r_2 r_3 r_4:Int):St:=⟨[(1,.pb 0 0),(2,.pb 1 0),(4,.pb 2 0),(33,dB t33)],40,[],[(0,.box 27 [d8 a,d6 a_2,d6 a_3,d6 a_4,dW a_5,.d (.sl .bool) a_6]),(1,.box 109 [d8 t2,d8 t2_2,.k (zK zH 0 0),.k (zK zH 0 0),d6 t2_3,d6 t2_4]),(2,.box 109 [d8 r,d8 r_2,.k (zK zH 0 0),.k (zK zH 0 0),d6 r_3,d6 r_4])],3,[],0⟩
def q143_ (t2 t2_2 t2_3 t2_4 r r_2 r_3 r_4:Int) (o:List Bool) (o_2:List Int):Option (As [.pr (.int .u8) YTT5,.bool]) :=
 some ((r,r_2,o,o_2,r_3,r_4),true,())
@[reducible] def zG1:Type:=Int->Int->Int->Int->Int->Int->Int->Int->List Bool->List Int->Option (As [.pr (.int .u8) YTT5,.bool])
def q149_ (j1:zG1) (t33:Bool) (a a_2 a_3 a_4:Int) (a_5:List Int) (a_6:List Bool) (t2 t2_2 t2_3 t2_4 r r_2 r_3 r_4:Int):Option (As [.pr (.int .u8) YTT5,.bool]) :=
 if t33=true then j1 t2 t2_2 t2_3 t2_4 r r_2 r_3 a_3 [] [] else some ((0,0,[],[],0,0),false,())
def q9r_ (j1:zG1) (j2:Bool->Int->Int->Int->Int->List Int->List Bool->Int->Int->Int->Int->Int->Int->Int->Int->Option (As [.pr (.int .u8) YTT5,.bool])) (a:Int×Int×Int×Int×List Int×List Bool):Option (As [.pr (.int .u8) YTT5,.bool]) :=
 zC (q5h_ (a,())) fun y=>if (!y.1)=true then some ((0,0,[],[],0,0),false,()) else if eqi a.1 5=true then zC (at? a.2.2.2.2.2 0) fun y=>j1 0 0 0 0 a.1 0 a.2.1 0 [y] [] else if eqi a.1 6=true then zC (at? a.2.2.2.2.1 0) fun y=>j1 0 0 0 0 a.1 0 a.2.1 0 [] [y] else if eqi a.1 15=true then j2 true a.1 a.2.1 a.2.2.1 a.2.2.2.1 a.2.2.2.2.1 a.2.2.2.2.2 0 0 0 0 a.1 0 a.2.1 0 else j2 (eqi a.1 16) a.1 a.2.1 a.2.2.1 a.2.2.2.1 a.2.2.2.2.1 a.2.2.2.2.2 0 0 0 0 a.1 0 a.2.1 0
def qea_:=q143_
def qjt_:=q149_ (qea_)
def q49_ (x:As [.pr (.int .u8) YTT7]):Option (As [.pr (.int .u8) YTT5,.bool]):=q9r_ qea_ qjt_ x.1
abbrev reply_Echo_P:=zp qnt_ qnp_ 201 q6t_
theorem q1hx_ {J a b c d e f g h i j}:reply_Echo_P J 15 [] (qkd_ a b c d e f g h i j)=q143_ a b c d e f g h i j:=by kernel_rfl
theorem q1fy_ {J a b c d e f g h i j k l m n o}:reply_Echo_P J 1967 [] (qvf_ a b c d e f g h i j k l m n o)=q149_ (C (J 15 []) qkd_) a b c d e f g h i j k l m n o:=by kernel_rfl
theorem q1gq_ (J:Orc (As [.pr (.int .u8) YTT5,.bool])) (x:As [.pr (.int .u8) YTT7]):rfn Tryz.prog qnt_ 6 18446744073709551616 (Ev.get qnp_) 201 q6t_ J x=q9r_ (C (J 15 []) qkd_) (C (J 1967 []) qvf_) x.1:=by kernel_rfl
abbrev reply_Echo_J:=zj qnt_ qnp_ 201 q6t_
theorem q14a_:C (reply_Echo_J 15 []) qkd_=qea_:=gNC (by decide) fun _=>q1hx_
theorem q1gy_:C (reply_Echo_J 1967 []) qvf_=qjt_:=gNC (by decide) fun _=>q1fy_.trans (by rw [q14a_] <;> kernel_rfl)
theorem q1j0_ (x:As [.pr (.int .u8) YTT7]):evT Tryz.prog qnt_ 6 18446744073709551616 (Ev.get qnp_) 201 q6t_ x=q49_ x:=by
 rw [qb_,q1gq_,q14a_,q1gy_] <;> rfl
theorem qw5_:CtOk Tryz.prog (fun _=>True) 201 ⟨q6t_,q49_⟩:=q7_ (q0_ qgg_ q2_) q1j0_
@[reducible] def qbt_:Sh:=⟨[.d (.pr (.int .u8) YTT7),.d (.pr (.int .u8) YTT5)],[],[.pr (.int .u8) YTT7,.pr (.int .u8) YTT5],[.d (.bool)],[],0,[.bool]⟩
def qnq_:Env:=(cts [(105,(⟨q69_,q5h_⟩:Ct)),(199,(⟨q9e_,q35_⟩:Ct)),(200,(⟨q146_,qty_⟩:Ct)),(201,(⟨q6t_,q49_⟩:Ct)),(202,(⟨q16m_,q59_⟩:Ct))])
def qqb_:List (Nat×Hint):=[(6,⟨[],[2,3,22,51,52,53,54,55,56]⟩)]
def qvr_ (t22:Bool) (a a_2 a_3 a_4:Int) (a_5:List Int) (a_6:List Bool) (r r_2:Int) (r_3:List Bool) (r_4:List Int) (r_5 r_6:Int):St:=⟨[(2,.pb 0 0),(3,.pb 1 0),(22,dB t22)],63,[],[(0,.box 27 [d8 a,d6 a_2,d6 a_3,d6 a_4,dW a_5,.d (.sl .bool) a_6]),(1,.box 109 [d8 r,d8 r_2,.d (.sl .bool) r_3,dW r_4,d6 r_5,d6 r_6])],2,[],0⟩
def qv7_ (t22:Bool) (a a_2 a_3 a_4:Int) (a_5:List Int) (a_6:List Bool) (r r_2:Int) (r_3:List Bool) (r_4:List Int) (r_5 r_6:Int):Option (As [.bool]) :=
 if t22=true then some (false,()) else if nei r_2 0=true then some (true,()) else zC (q49_ ((a,a_2,a_3,a_4,a_5,a_6),())) fun y=>if y.2.1=true then zC (q59_ (y.1,(r,r_2,r_3,r_4,r_5,r_6),())) fun y=>some (y.1,()) else if gt (zF (zG r_3)) 0=true then if eqi (zF (zG r_3)) (mul .i64 (quo .i64 (add .i64 (cvt .i64 a_3) 7) 8) 8)=true then zC (cut r_3 (cvt .i64 a_3) (zF (zG r_3))) fun y=>zC (q35_ (y,true,())) fun y=>some (!y.1,()) else some (false,()) else some (eqi (zF (zG r_4)) (cvt .i64 a_3),())
def qks_ (j1:Bool->Int->Int->Int->Int->List Int->List Bool->Int->Int->List Bool->List Int->Int->Int->Option (As [.bool])) (a:Int×Int×Int×Int×List Int×List Bool) (r:TaA3q1):Option (As [.bool]) :=
 zC (q5h_ (a,())) fun y=>if (!y.1)=true then j1 true a.1 a.2.1 a.2.2.1 a.2.2.2.1 a.2.2.2.2.1 a.2.2.2.2.2 r.1 r.2.1 r.2.2.1 r.2.2.2.1 r.2.2.2.2.1 r.2.2.2.2.2 else zC (qty_ (r,())) fun y=>if (!y.1)=true then j1 true a.1 a.2.1 a.2.2.1 a.2.2.2.1 a.2.2.2.2.1 a.2.2.2.2.2 r.1 r.2.1 r.2.2.1 r.2.2.2.1 r.2.2.2.2.1 r.2.2.2.2.2 else j1 (nei a.1 r.1) a.1 a.2.1 a.2.2.1 a.2.2.2.1 a.2.2.2.2.1 a.2.2.2.2.2 r.1 r.2.1 r.2.2.1 r.2.2.2.1 r.2.2.2.2.1 r.2.2.2.2.2
def qeh_:=qv7_
def qig_ (x:As [.pr (.int .u8) YTT7,.pr (.int .u8) YTT5]):Option (As [.bool]):=qks_ qeh_ x.1 x.2.1
abbrev reply_Fits_P:=zp qnq_ qqb_ 154 qbt_
theorem q1ht_ {J a b c d e f g h i j k l m}:reply_Fits_P J 6 [] (qvr_ a b c d e f g h i j k l m)=qv7_ a b c d e f g h i j k l m:=by kernel_rfl
theorem q1h8_ (J:Orc (As [.bool])) (x:As [.pr (.int .u8) YTT7,.pr (.int .u8) YTT5]):rfn Tryz.prog qnq_ 6 18446744073709551616 (Ev.get qqb_) 154 qbt_ J x=qks_ (C (J 6 []) qvr_) x.1 x.2.1:=by kernel_rfl
abbrev reply_Fits_J:=zj qnq_ qqb_ 154 qbt_
theorem q1gr_:C (reply_Fits_J 6 []) qvr_=qeh_:=gNC (by decide) fun _=>q1ht_
theorem q1m0_ (x:As [.pr (.int .u8) YTT7,.pr (.int .u8) YTT5]):evT Tryz.prog qnq_ 6 18446744073709551616 (Ev.get qqb_) 154 qbt_ x=qig_ x:=by
 rw [qb_,q1h8_,q1gr_] <;> rfl
theorem q1i4_:CtOk Tryz.prog (fun _=>True) 154 ⟨qbt_,qig_⟩:=q7_ (q0_ qgg_ (q0_ qgt_ (q0_ q1cq_ (q0_ qw5_ (q0_ q7a_ q2_))))) q1m0_
@[reducible] def qw4_:Sh:=⟨[.d (.sl (.int .u8)),.d (.sl (.int .u8))],[],[.sl (.int .u8),.sl (.int .u8)],[.d (.bool)],[],0,[.bool]⟩
def q1eq_ (a b:List Int):Option (As [.bool]) :=
 some (eqs (Sx.toS a) (Sx.toS b),())
def q1r_ (x:As [.sl (.int .u8),.sl (.int .u8)]):Option (As [.bool]):=q1eq_ x.1 x.2.1
theorem q11g_:CtOk Tryz.prog (fun _=>True) 112 ⟨qw4_,q1r_⟩:=ctn q2_ 6 fun J x=>by kernel_rfl
@[reducible] def qjo_:Sh:=⟨[.d (.un),.d (.sl (.int .u8))],[],[.un,.sl (.int .u8)],[.d (.pr (.int .u8) YTT5)],[],0,[.pr (.int .u8) YTT5]⟩
def qzj_ (v:Unit) (b:List Int):Option (As [.pr (.int .u8) YTT5]) :=
 zC (at? b 0) fun y=>zC (at? b 1) fun y_1=>zC (qi_ (y,y_1,())) fun y=>some (y.1,())
def q7o_ (x:As [.un,.sl (.int .u8)]):Option (As [.pr (.int .u8) YTT5]):=qzj_ x.1 x.2.1
theorem qzh_:CtOk Tryz.prog (fun _=>True) 317 ⟨qjo_,q7o_⟩:=ctn (q0_ qie_ q2_) 6 fun J x=>by kernel_rfl
@[reducible] def qiy_:Sh:=⟨[.d (.un),.d (.pr (.int .u8) YTT5)],[],[.un,.pr (.int .u8) YTT5],[.d (.sl (.int .u8))],[],0,[.sl (.int .u8)]⟩
def qy4_ (v:Unit) (r:TaA3q1):Option (As [.sl (.int .u8)]) :=
 some ([add .u8 r.1 128,r.2.1],())
def q37_ (x:As [.un,.pr (.int .u8) YTT5]):Option (As [.sl (.int .u8)]):=qy4_ x.1 x.2.1
theorem qgs_:CtOk Tryz.prog (fun _=>True) 319 ⟨qiy_,q37_⟩:=ctn q2_ 6 fun J x=>by kernel_rfl
@[reducible] def qck_:Sh:=⟨[.d (.sl (.int .u8))],[],[.sl (.int .u8)],[.d (.sl .bool)],[],0,[.sl .bool]⟩
def qno_:Env:=(cts [])
def qo4_:List (Nat×Hint):=[(58,⟨[],[0,3,10,11]⟩)]
def qjs_ (b:List Int) (t10 t11:Int) (out:List Bool):St:=⟨[(0,dL b),(3,.row 0),(10,dI t10),(11,dI t11)],29,[],[(0,.row .bool 4 out)],1,[],0⟩
@[reducible] def zG2:Type:=List Int->Int->Int->List Bool->Option (As [.sl .bool])
def qe8_ (self1:zG2) (b:List Int) (t10 t11:Int) (out:List Bool):Option (As [.sl .bool]) :=
 if lt t11 t10=true then zC (at? b (quo .i64 t11 8)) fun y=>need (ge (rem t11 8) 0) (zC (at? out t11) fun x=>zC (at? out t11) fun x=>self1 b t10 (add .i64 t11 1) (List.set out (zI t11) (eqi (Sx.band .u8 (Sx.shr .u8 y (rem t11 8)) 1) 1))) else some (out,())
def qll_ (j1:zG2) (b:List Int):Option (As [.sl .bool]) :=
 need (ge (mul .i64 8 (zF (zG b))) 0) (need (Ev.capOk (mul .i64 8 (zF (zG b))) (mul .i64 8 (zF (zG b)))) (need (small (zI (mul .i64 8 (zF (zG b))))) (j1 b (zF (zG (zE (zI (mul .i64 8 (zF (zG b)))) false))) 0 (zE (zI (mul .i64 8 (zF (zG b)))) false))))
def qef_ (b:List Int) (t10 t11:Int) (out:List Bool):Option (As [.sl .bool]) :=
 loopF (fun self s=>qe8_ (fun b t10 t11 out=>self (b,t10,t11,out)) s.1 s.2.1 s.2.2.1 s.2.2.2) 18446744073709551616 (b,t10,t11,out)
def qdy_ (x:As [.sl (.int .u8)]):Option (As [.sl .bool]):=qll_ qef_ x.1
abbrev ask_Unpack_P:=zp qno_ qo4_ 288 qck_
theorem q1g2_ {J w1 a b c d}:ask_Unpack_P J 58 [w1] (qjs_ a b c d)=qe8_ (C w1 qjs_) a b c d:=by kernel_rfl
theorem q1i2_ (J:Orc (As [.sl .bool])) (x:As [.sl (.int .u8)]):rfn Tryz.prog qno_ 6 18446744073709551616 (Ev.get qo4_) 288 qck_ J x=qll_ (C (J 58 []) qjs_) x.1:=by kernel_rfl
abbrev ask_Unpack_J:=zj qno_ qo4_ 288 qck_
theorem q1hc_:C (ask_Unpack_J 58 []) qjs_=qef_:=gLC (by decide) (by kernel_rfl) (fun _=>by unfold qef_; rfl) fun _ _=>q1g2_.trans (by kernel_rfl)
theorem q1kl_ (x:As [.sl (.int .u8)]):evT Tryz.prog qno_ 6 18446744073709551616 (Ev.get qo4_) 288 qck_ x=qdy_ x:=by
 rw [qb_,q1i2_,q1hc_] <;> rfl
theorem q13u_:CtOk Tryz.prog (fun _=>True) 288 ⟨qck_,qdy_⟩:=q7_ q2_ q1kl_
@[reducible] def qoj_:Sh:=⟨[.d (.un),.d (.sl (.int .u8))],[],[.un,.sl (.int .u8)],[.d (.pr (.int .u8) YTT5)],[],0,[.pr (.int .u8) YTT5]⟩
def qbx_ (v:Unit) (b:List Int):Option (As [.pr (.int .u8) YTT5]) :=
 zC (at? b 0) fun y=>zC (cut b 2 (zF (zG b))) fun y_1=>zC (qdy_ (y_1,())) fun y_2=>some ((y,0,y_2.1,[],0,0),())
def q6s_ (x:As [.un,.sl (.int .u8)]):Option (As [.pr (.int .u8) YTT5]):=qbx_ x.1 x.2.1
theorem q121_:CtOk Tryz.prog (fun _=>True) 320 ⟨qoj_,q6s_⟩:=ctn (q0_ q13u_ q2_) 6 fun J x=>by kernel_rfl
@[reducible] def qmm_:Sh:=⟨[.d (.un),.d (.pr (.int .u8) YTT5)],[],[.un,.pr (.int .u8) YTT5],[.d (.sl (.int .u8))],[],0,[.sl (.int .u8)]⟩
def qb9_ (v:Unit) (r:TaA3q1):Option (As [.sl (.int .u8)]) :=
 zC (qm7_ (r.2.2.1,())) fun y=>need (small (Nat.succ (Nat.succ 0) + zG y.1)) (some (r.1::cvt .u8 (zF (zG y.1))::y.1,()))
def q2f_ (x:As [.un,.pr (.int .u8) YTT5]):Option (As [.sl (.int .u8)]):=qb9_ x.1 x.2.1
theorem qj5_:CtOk Tryz.prog (fun _=>True) 322 ⟨qmm_,q2f_⟩:=ctn (q0_ q18q_ q2_) 6 fun J x=>by kernel_rfl
@[reducible] def qgl_:Sh:=⟨[.d (.sl (.int .u8))],[],[.sl (.int .u8)],[.d (.sl (.int .u16))],[],0,[.sl (.int .u16)]⟩
def qp3_:Env:=(cts [])
def qnu_:List (Nat×Hint):=[(58,⟨[],[0,3,10,11]⟩)]
def qk5_ (b:List Int) (t10 t11:Int) (l:List Int):St:=⟨[(0,dL b),(3,.row 0),(10,dI t10),(11,dI t11)],34,[],[(0,.row (.int .u16) 25 l)],1,[],0⟩
@[reducible] def zG3:Type:=List Int->Int->Int->List Int->Option (As [.sl (.int .u16)])
def qe5_ (self1:zG3) (b:List Int) (t10 t11:Int) (l:List Int):Option (As [.sl (.int .u16)]) :=
 if lt t11 t10=true then zC (at? b (mul .i64 2 t11)) fun y=>zC (at? b (add .i64 (mul .i64 2 t11) 1)) fun y_1=>zC (at? l t11) fun x=>zC (at? l t11) fun x=>self1 b t10 (add .i64 t11 1) (List.set l (zI t11) (Sx.bor .u16 (Sx.shl .u16 (cvt .u16 y) 8) (cvt .u16 y_1))) else some (l,())
def qlb_ (j1:zG3) (b:List Int):Option (As [.sl (.int .u16)]) :=
 need (ge (quo .i64 (zF (zG b)) 2) 0) (need (Ev.capOk (quo .i64 (zF (zG b)) 2) (quo .i64 (zF (zG b)) 2)) (need (small (zI (quo .i64 (zF (zG b)) 2))) (j1 b (zF (zG (zE (α:=Int) (zI (quo .i64 (zF (zG b)) 2)) 0))) 0 (zE (zI (quo .i64 (zF (zG b)) 2)) 0))))
def qe6_ (b:List Int) (t10 t11:Int) (l:List Int):Option (As [.sl (.int .u16)]) :=
 loopF (fun self s=>qe5_ (fun b t10 t11 l=>self (b,t10,t11,l)) s.1 s.2.1 s.2.2.1 s.2.2.2) 18446744073709551616 (b,t10,t11,l)
def qdl_ (x:As [.sl (.int .u8)]):Option (As [.sl (.int .u16)]):=qlb_ qe6_ x.1
abbrev reply_list_P:=zp qp3_ qnu_ 326 qgl_
theorem q1fm_ {J w1 a b c d}:reply_list_P J 58 [w1] (qk5_ a b c d)=qe5_ (C w1 qk5_) a b c d:=by kernel_rfl
theorem q1gd_ (J:Orc (As [.sl (.int .u16)])) (x:As [.sl (.int .u8)]):rfn Tryz.prog qp3_ 6 18446744073709551616 (Ev.get qnu_) 326 qgl_ J x=qlb_ (C (J 58 []) qk5_) x.1:=by kernel_rfl
abbrev reply_list_J:=zj qp3_ qnu_ 326 qgl_
theorem q1gx_:C (reply_list_J 58 []) qk5_=qe6_:=gLC (by decide) (by kernel_rfl) (fun _=>by unfold qe6_; rfl) fun _ _=>q1fm_.trans (by kernel_rfl)
theorem q1la_ (x:As [.sl (.int .u8)]):evT Tryz.prog qp3_ 6 18446744073709551616 (Ev.get qnu_) 326 qgl_ x=qdl_ x:=by
 rw [qb_,q1gd_,q1gx_] <;> rfl
theorem qlp_:CtOk Tryz.prog (fun _=>True) 326 ⟨qgl_,qdl_⟩:=q7_ q2_ q1la_
@[reducible] def qmr_:Sh:=⟨[.d (.un),.d (.sl (.int .u8))],[],[.un,.sl (.int .u8)],[.d (.pr (.int .u8) YTT5)],[],0,[.pr (.int .u8) YTT5]⟩
def qb0_ (v:Unit) (b:List Int):Option (As [.pr (.int .u8) YTT5]) :=
 zC (at? b 0) fun y=>zC (cut b 2 (zF (zG b))) fun y_1=>zC (qdl_ (y_1,())) fun y_2=>some ((y,0,[],y_2.1,0,0),())
def q42_ (x:As [.un,.sl (.int .u8)]):Option (As [.pr (.int .u8) YTT5]):=qb0_ x.1 x.2.1
theorem q10o_:CtOk Tryz.prog (fun _=>True) 323 ⟨qmr_,q42_⟩:=ctn (q0_ qlp_ q2_) 6 fun J x=>by kernel_rfl
@[reducible] def q6z_:Sh:=⟨[.row 0,.d (.sl (.int .u16))],[.row (.int .u8) 5],[.sl (.int .u16),.sl (.int .u8)],[.row 1],[(1,.row (.int .u8) 5)],1,[.sl (.int .u8)]⟩
def qg6_:Env:=(cts [])
def qfx_:List (Nat×Hint):=[(26,⟨[.unl 0],[0,7,8,9]⟩)]
def qdu_ (t7:List Int) (t8 t9:Int) (out:List Int):St:=⟨[(0,.row 1),(7,dW t7),(8,dI t8),(9,dI t9)],23,[],[(1,.row (.int .u8) 5 out)],2,[],1⟩
@[reducible] def zG4:Type:=List Int->Int->Int->List Int->Option (As [.sl (.int .u8)])
def q8x_ (self1:zG4) (t7:List Int) (t8 t9:Int) (out:List Int):Option (As [.sl (.int .u8)]) :=
 if lt t9 t8=true then zC (at? t7 t9) fun y=>need (small (zG out + Nat.succ (Nat.succ 0))) (self1 t7 t8 (add .i64 t9 1) (out++[cvt .u8 (Sx.shr .u16 y 8),cvt .u8 y])) else some (out,())
def qdw_ (j1:zG4) (out l:List Int):Option (As [.sl (.int .u8)]) :=
 j1 out (zF (zG out)) 0 l
def q8w_ (t7:List Int) (t8 t9:Int) (out:List Int):Option (As [.sl (.int .u8)]) :=
 loopF (fun self s=>q8x_ (fun t7 t8 t9 out=>self (t7,t8,t9,out)) s.1 s.2.1 s.2.2.1 s.2.2.2) 18446744073709551616 (t7,t8,t9,out)
def q4b_ (x:As [.sl (.int .u16),.sl (.int .u8)]):Option (As [.sl (.int .u8)]):=qdw_ q8w_ x.1 x.2.1
abbrev reply_numbers_P:=zp qg6_ qfx_ 327 q6z_
theorem q19n_ {J w1 a b c d}:reply_numbers_P J 26 [w1] (qdu_ a b c d)=q8x_ (C w1 qdu_) a b c d:=by kernel_rfl
theorem q1aa_ (J:Orc (As [.sl (.int .u8)])) (x:As [.sl (.int .u16),.sl (.int .u8)]):rfn Tryz.prog qg6_ 6 18446744073709551616 (Ev.get qfx_) 327 q6z_ J x=qdw_ (C (J 26 []) qdu_) x.1 x.2.1:=by kernel_rfl
abbrev reply_numbers_J:=zj qg6_ qfx_ 327 q6z_
theorem q19i_:C (reply_numbers_J 26 []) qdu_=q8w_:=gLC (by decide) (by kernel_rfl) (fun _=>by unfold q8w_; rfl) fun _ _=>q19n_.trans (by kernel_rfl)
theorem q1ay_ (x:As [.sl (.int .u16),.sl (.int .u8)]):evT Tryz.prog qg6_ 6 18446744073709551616 (Ev.get qfx_) 327 q6z_ x=q4b_ x:=by
 rw [qb_,q1aa_,q19i_] <;> rfl
theorem qd3_:CtOk Tryz.prog (fun _=>True) 327 ⟨q6z_,q4b_⟩:=q7_ q2_ q1ay_
@[reducible] def qj8_:Sh:=⟨[.d (.un),.d (.pr (.int .u8) YTT5)],[],[.un,.pr (.int .u8) YTT5],[.d (.sl (.int .u8))],[],0,[.sl (.int .u8)]⟩
def q9c_ (v:Unit) (r:TaA3q1):Option (As [.sl (.int .u8)]) :=
 zC (q4b_ (r.2.2.2.1,[r.1,cvt .u8 (mul .i64 2 (zF (zG r.2.2.2.1)))],())) fun y=>some (y.1,())
def q1c_ (x:As [.un,.pr (.int .u8) YTT5]):Option (As [.sl (.int .u8)]):=q9c_ x.1 x.2.1
theorem qj0_:CtOk Tryz.prog (fun _=>True) 325 ⟨qj8_,q1c_⟩:=ctn (q0_ qd3_ q2_) 6 fun J x=>by kernel_rfl
@[reducible] def qqk_:Sh:=⟨[.d (.un),.d (.sl (.int .u8))],[],[.un,.sl (.int .u8)],[.d (.pr (.int .u8) YTT5)],[],0,[.pr (.int .u8) YTT5]⟩
def qdf_ (v:Unit) (b:List Int):Option (As [.pr (.int .u8) YTT5]) :=
 zC (cut b 1 (zF (zG b))) fun y=>zC (qdl_ (y,())) fun y=>if lt (zF (zG y.1)) 2=true then some ((0,0,[],[],0,0),()) else zC (at? b 0) fun y_1=>zC (at? y.1 0) fun y_2=>zC (at? y.1 1) fun y=>some ((y_1,0,[eqi y 65280],[],y_2,0),())
def qbe_ (x:As [.un,.sl (.int .u8)]):Option (As [.pr (.int .u8) YTT5]):=qdf_ x.1 x.2.1
theorem q13b_:CtOk Tryz.prog (fun _=>True) 328 ⟨qqk_,qbe_⟩:=ctn (q0_ qlp_ q2_) 6 fun J x=>by kernel_rfl
@[reducible] def q3n_:Sh:=⟨[.d (.un),.d (.pr (.int .u8) YTT5)],[],[.un,.pr (.int .u8) YTT5],[.d (.sl (.int .u8))],[],0,[.sl (.int .u8)]⟩
def q7n_:Env:=(cts [(327,(⟨q6z_,q4b_⟩:Ct))])
def q7g_:List (Nat×Hint):=[(7,⟨[],[3,5]⟩)]
def qbz_ (x r r_2:Int) (r_3:List Bool) (r_4:List Int) (r_5 r_6:Int):St:=⟨[(3,.pb 0 0),(5,d6 x)],18,[],[(0,.box 109 [d8 r,d8 r_2,.d (.sl .bool) r_3,dW r_4,d6 r_5,d6 r_6])],1,[],0⟩
def qcw_ (x r r_2:Int) (r_3:List Bool) (r_4:List Int) (r_5 r_6:Int):Option (As [.sl (.int .u8)]) :=
 zC (q4b_ ([r_5,x],[r],())) fun y=>some (y.1,())
def q72_ (j1:Int->Int->Int->List Bool->List Int->Int->Int->Option (As [.sl (.int .u8)])) (v:Unit) (r:TaA3q1):Option (As [.sl (.int .u8)]) :=
 zC (at? r.2.2.1 0) fun y=>if y=true then j1 65280 r.1 r.2.1 r.2.2.1 r.2.2.2.1 r.2.2.2.2.1 r.2.2.2.2.2 else j1 0 r.1 r.2.1 r.2.2.1 r.2.2.2.1 r.2.2.2.2.1 r.2.2.2.2.2
def q6w_:=qcw_
def q3g_ (x:As [.un,.pr (.int .u8) YTT5]):Option (As [.sl (.int .u8)]):=q72_ q6w_ x.1 x.2.1
abbrev reply_oneBit_write_P:=zp q7n_ q7g_ 330 q3n_
theorem q11n_ {J a b c d e f g}:reply_oneBit_write_P J 7 [] (qbz_ a b c d e f g)=qcw_ a b c d e f g:=by kernel_rfl
theorem q11o_ (J:Orc (As [.sl (.int .u8)])) (x:As [.un,.pr (.int .u8) YTT5]):rfn Tryz.prog q7n_ 6 18446744073709551616 (Ev.get q7g_) 330 q3n_ J x=q72_ (C (J 7 []) qbz_) x.1 x.2.1:=by kernel_rfl
abbrev reply_oneBit_write_J:=zj q7n_ q7g_ 330 q3n_
theorem q12x_:C (reply_oneBit_write_J 7 []) qbz_=q6w_:=gNC (by decide) fun _=>q11n_
theorem q13d_ (x:As [.un,.pr (.int .u8) YTT5]):evT Tryz.prog q7n_ 6 18446744073709551616 (Ev.get q7g_) 330 q3n_ x=q3g_ x:=by
 rw [qb_,q11o_,q12x_] <;> rfl
theorem qmi_:CtOk Tryz.prog (fun _=>True) 330 ⟨q3n_,q3g_⟩:=q7_ (q0_ qd3_ q2_) q13d_
@[reducible] def qpz_:Sh:=⟨[.d (.un),.d (.sl (.int .u8))],[],[.un,.sl (.int .u8)],[.d (.pr (.int .u8) YTT5)],[],0,[.pr (.int .u8) YTT5]⟩
def qc7_ (v:Unit) (b:List Int):Option (As [.pr (.int .u8) YTT5]) :=
 zC (cut b 1 (zF (zG b))) fun y=>zC (qdl_ (y,())) fun y=>if lt (zF (zG y.1)) 2=true then some ((0,0,[],[],0,0),()) else zC (at? b 0) fun y_1=>zC (at? y.1 0) fun y_2=>zC (at? y.1 1) fun y=>some ((y_1,0,[],[y],y_2,0),())
def qan_ (x:As [.un,.sl (.int .u8)]):Option (As [.pr (.int .u8) YTT5]):=qc7_ x.1 x.2.1
theorem q12q_:CtOk Tryz.prog (fun _=>True) 331 ⟨qpz_,qan_⟩:=ctn (q0_ qlp_ q2_) 6 fun J x=>by kernel_rfl
@[reducible] def qcf_:Sh:=⟨[.d (.un),.d (.pr (.int .u8) YTT5)],[],[.un,.pr (.int .u8) YTT5],[.d (.sl (.int .u8))],[],0,[.sl (.int .u8)]⟩
def qb2_ (v:Unit) (r:TaA3q1):Option (As [.sl (.int .u8)]) :=
 zC (at? r.2.2.2.1 0) fun y=>amb (eqAs qcf_.rs) [zC (q4b_ ([r.2.2.2.2.1,y],[r.1],())) fun y=>some (y.1,()),zC (q4b_ ([r.2.2.2.2.1,y],[r.1],())) fun y=>some (y.1,())]
def q44_ (x:As [.un,.pr (.int .u8) YTT5]):Option (As [.sl (.int .u8)]):=qb2_ x.1 x.2.1
theorem qjp_:CtOk Tryz.prog (fun _=>True) 333 ⟨qcf_,q44_⟩:=ctn (q0_ qd3_ q2_) 6 fun J x=>by kernel_rfl
@[reducible] def quc_:Sh:=⟨[.d (.wr (.int .u16)),.d (.sl (.int .u8))],[],[.wr (.int .u16),.sl (.int .u8)],[.d (.pr (.int .u8) YTT5)],[],0,[.pr (.int .u8) YTT5]⟩
def qf5_ (v:Int) (b:List Int):Option (As [.pr (.int .u8) YTT5]) :=
 zC (cut b 1 (zF (zG b))) fun y=>zC (qdl_ (y,())) fun y=>if lt (zF (zG y.1)) 2=true then some ((0,0,[],[],0,0),()) else zC (at? b 0) fun y_1=>zC (at? y.1 0) fun y_2=>zC (at? y.1 1) fun y=>some ((y_1,0,[],[],y_2,y),())
def q8a_ (x:As [.wr (.int .u16),.sl (.int .u8)]):Option (As [.pr (.int .u8) YTT5]):=qf5_ x.1 x.2.1
theorem q14z_:CtOk Tryz.prog (fun _=>True) 334 ⟨quc_,q8a_⟩:=ctn (q0_ qlp_ q2_) 6 fun J x=>by kernel_rfl
@[reducible] def qqi_:Sh:=⟨[.d (.wr (.int .u16)),.d (.pr (.int .u8) YTT5)],[],[.wr (.int .u16),.pr (.int .u8) YTT5],[.d (.sl (.int .u8))],[],0,[.sl (.int .u8)]⟩
def qdj_ (v:Int) (r:TaA3q1):Option (As [.sl (.int .u8)]) :=
 zC (q4b_ ([r.2.2.2.2.1,r.2.2.2.2.2],[r.1],())) fun y=>some (y.1,())
def q2x_ (x:As [.wr (.int .u16),.pr (.int .u8) YTT5]):Option (As [.sl (.int .u8)]):=qdj_ x.1 x.2.1
theorem qnc_:CtOk Tryz.prog (fun _=>True) 336 ⟨qqi_,q2x_⟩:=ctn (q0_ qd3_ q2_) 6 fun J x=>by kernel_rfl
@[reducible] def q78_:Sh:=⟨[.d (.sl (.int .u8))],[],[.sl (.int .u8)],[.d (.pr (.int .u8) YTT5),.d (.int .i64)],[],0,[.pr (.int .u8) YTT5,.int .i64]⟩
def qky_:Env:=(cts [(112,(⟨qw4_,q1r_⟩:Ct)),(317,(⟨qjo_,q7o_⟩:Ct)),(318,(⟨qiz_,q2i_⟩:Ct)),(319,(⟨qiy_,q37_⟩:Ct)),(320,(⟨qoj_,q6s_⟩:Ct)),(321,(⟨qmu_,q1g_⟩:Ct)),(322,(⟨qmm_,q2f_⟩:Ct)),(323,(⟨qmr_,q42_⟩:Ct)),(324,(⟨qjb_,qu_⟩:Ct)),(325,(⟨qj8_,q1c_⟩:Ct)),(328,(⟨qqk_,qbe_⟩:Ct)),(329,(⟨qph_,q3l_⟩:Ct)),(330,(⟨q3n_,q3g_⟩:Ct)),(331,(⟨qpz_,qan_⟩:Ct)),(332,(⟨qmp_,q2y_⟩:Ct)),(333,(⟨qcf_,q44_⟩:Ct)),(334,(⟨quc_,q8a_⟩:Ct)),(335,(⟨qqh_,q1x_⟩:Ct)),(336,(⟨qqi_,q2x_⟩:Ct))])
def qjy_:List (Nat×Hint):=[(6,⟨[],[0,2,15,42,43,44,45,46,47]⟩)]
def qrm_ (b:List Int) (t15:Bool) (t2 t2_2 t2_3 t2_4:Int):St:=⟨[(0,dL b),(2,.pb 0 0),(15,dB t15)],51,[],[(0,.box 109 [d8 t2,d8 t2_2,.k (zK zH 0 0),.k (zK zH 0 0),d6 t2_3,d6 t2_4])],1,[],0⟩
def qrd_ (b:List Int) (t15:Bool) (t2 t2_2 t2_3 t2_4:Int):Option (As [.pr (.int .u8) YTT5,.int .i64]) :=
 if t15=true then some ((0,0,[],[],0,0),13,()) else zC (at? b 0) fun y=>if lt y 128=true then zC (at? b 0) fun y=>if eqi y 1=true then zC (q6s_ ((),b,())) fun y=>zC (q1g_ ((),y.1,())) fun y_1=>if (!y_1.1)=true then some ((0,0,[],[],0,0),13,()) else zC (q2f_ ((),y.1,())) fun y_2=>zC (q1r_ (y_2.1,b,())) fun y_3=>if (!y_3.1)=true then some ((0,0,[],[],0,0),13,()) else some (y.1,0,()) else if eqi y 2=true then zC (q6s_ ((),b,())) fun y=>zC (q1g_ ((),y.1,())) fun y_1=>if (!y_1.1)=true then some ((0,0,[],[],0,0),13,()) else zC (q2f_ ((),y.1,())) fun y_2=>zC (q1r_ (y_2.1,b,())) fun y_3=>if (!y_3.1)=true then some ((0,0,[],[],0,0),13,()) else some (y.1,0,()) else if eqi y 3=true then zC (q42_ ((),b,())) fun y=>zC (qu_ ((),y.1,())) fun y_1=>if (!y_1.1)=true then some ((0,0,[],[],0,0),13,()) else zC (q1c_ ((),y.1,())) fun y_2=>zC (q1r_ (y_2.1,b,())) fun y_3=>if (!y_3.1)=true then some ((0,0,[],[],0,0),13,()) else some (y.1,0,()) else if eqi y 4=true then zC (q42_ ((),b,())) fun y=>zC (qu_ ((),y.1,())) fun y_1=>if (!y_1.1)=true then some ((0,0,[],[],0,0),13,()) else zC (q1c_ ((),y.1,())) fun y_2=>zC (q1r_ (y_2.1,b,())) fun y_3=>if (!y_3.1)=true then some ((0,0,[],[],0,0),13,()) else some (y.1,0,()) else if eqi y 23=true then zC (q42_ ((),b,())) fun y=>zC (qu_ ((),y.1,())) fun y_1=>if (!y_1.1)=true then some ((0,0,[],[],0,0),13,()) else zC (q1c_ ((),y.1,())) fun y_2=>zC (q1r_ (y_2.1,b,())) fun y_3=>if (!y_3.1)=true then some ((0,0,[],[],0,0),13,()) else some (y.1,0,()) else if eqi y 5=true then zC (qbe_ ((),b,())) fun y=>zC (q3l_ ((),y.1,())) fun y_1=>if (!y_1.1)=true then some ((0,0,[],[],0,0),13,()) else zC (q3g_ ((),y.1,())) fun y_2=>zC (q1r_ (y_2.1,b,())) fun y_3=>if (!y_3.1)=true then some ((0,0,[],[],0,0),13,()) else some (y.1,0,()) else if eqi y 6=true then zC (qan_ ((),b,())) fun y=>zC (q2y_ ((),y.1,())) fun y_1=>if (!y_1.1)=true then some ((0,0,[],[],0,0),13,()) else zC (q44_ ((),y.1,())) fun y_2=>zC (q1r_ (y_2.1,b,())) fun y_3=>if (!y_3.1)=true then some ((0,0,[],[],0,0),13,()) else some (y.1,0,()) else if eqi y 15=true then zC (q8a_ (1968,b,())) fun y=>zC (q1x_ (1968,y.1,())) fun y_1=>if (!y_1.1)=true then some ((0,0,[],[],0,0),13,()) else zC (q2x_ (1968,y.1,())) fun y_2=>zC (q1r_ (y_2.1,b,())) fun y_3=>if (!y_3.1)=true then some ((0,0,[],[],0,0),13,()) else some (y.1,0,()) else if eqi y 16=true then zC (q8a_ (123,b,())) fun y=>zC (q1x_ (123,y.1,())) fun y_1=>if (!y_1.1)=true then some ((0,0,[],[],0,0),13,()) else zC (q2x_ (123,y.1,())) fun y_2=>zC (q1r_ (y_2.1,b,())) fun y_3=>if (!y_3.1)=true then some ((0,0,[],[],0,0),13,()) else some (y.1,0,()) else some ((0,0,[],[],0,0),13,()) else zC (q7o_ ((),b,())) fun y=>zC (q2i_ ((),y.1,())) fun y_1=>if (!y_1.1)=true then some ((0,0,[],[],0,0),13,()) else zC (q37_ ((),y.1,())) fun y_2=>zC (q1r_ (y_2.1,b,())) fun y_3=>if (!y_3.1)=true then some ((0,0,[],[],0,0),13,()) else some (y.1,0,())
def qi0_ (j1:List Int->Bool->Int->Int->Int->Int->Option (As [.pr (.int .u8) YTT5,.int .i64])) (b:List Int):Option (As [.pr (.int .u8) YTT5,.int .i64]) :=
 if lt (zF (zG b)) 2=true then j1 b true 0 0 0 0 else j1 b (gt (zF (zG b)) 253) 0 0 0 0
def qho_:=qrd_
def q6a_ (x:As [.sl (.int .u8)]):Option (As [.pr (.int .u8) YTT5,.int .i64]):=qi0_ qho_ x.1
abbrev reply_Parse_P:=zp qky_ qjy_ 53 q78_
theorem q1ds_ {J a b c d e f}:reply_Parse_P J 6 [] (qrm_ a b c d e f)=qrd_ a b c d e f:=by kernel_rfl
theorem q1ew_ (J:Orc (As [.pr (.int .u8) YTT5,.int .i64])) (x:As [.sl (.int .u8)]):rfn Tryz.prog qky_ 6 18446744073709551616 (Ev.get qjy_) 53 q78_ J x=qi0_ (C (J 6 []) qrm_) x.1:=by kernel_rfl
abbrev reply_Parse_J:=zj qky_ qjy_ 53 q78_
theorem q1e2_:C (reply_Parse_J 6 []) qrm_=qho_:=gNC (by decide) fun _=>q1ds_
theorem q1h4_ (x:As [.sl (.int .u8)]):evT Tryz.prog qky_ 6 18446744073709551616 (Ev.get qjy_) 53 q78_ x=q6a_ x:=by
 rw [qb_,q1ew_,q1e2_] <;> rfl
theorem qqv_:CtOk Tryz.prog (fun _=>True) 53 ⟨q78_,q6a_⟩:=q7_ (q0_ q11g_ (q0_ qzh_ (q0_ q8m_ (q0_ qgs_ (q0_ q121_ (q0_ qay_ (q0_ qj5_ (q0_ q10o_ (q0_ q9f_ (q0_ qj0_ (q0_ q13b_ (q0_ qca_ (q0_ qmi_ (q0_ q12q_ (q0_ qb7_ (q0_ qjp_ (q0_ q14z_ (q0_ qdn_ (q0_ qnc_ q2_))))))))))))))))))) q1h4_
@[reducible] def q9i_:Sh:=⟨[.d (.sl (.int .u8))],[],[.sl (.int .u8)],[.d (.bool)],[],0,[.bool]⟩
def ql2_:Env:=(cts [])
def qkk_:List (Nat×Hint):=[(26,⟨[],[0,3,7,8,9,10,17,18,19,20,21,26,27,28,29,30,31,32,33,34,35,36,37,38]⟩),(841,⟨[.agd 32 (.sl (.int .u8)),.agd 33 (.int .i64),.agd 35 (.int .u8),.agd 36 (.int .i64),.agd 37 .bool,.agd 26 (.sl (.int .u8)),.agd 27 (.int .i64),.agd 29 (.int .u8),.agd 30 .bool,.agd 31 .bool,.agd 38 .bool],[0,3,39]⟩),(840,⟨[.agd 17 (.sl (.int .u8)),.agd 18 (.int .i64),.agd 20 (.int .u8),.agd 21 .bool],[0,3,22]⟩),(104,⟨[.agd 7 (.int .i64),.agd 8 (.sl (.int .u8)),.agd 9 (.int .i64),.agd 10 .bool],[0,3,11]⟩)]
def q2v_ (b:List Int) (i:Int):St:=⟨[(0,dL b),(3,dI i)],40,[],[],0,[],0⟩
def qqz_ (b:List Int) (i:Int) (t11:Bool):St:=⟨[(0,dL b),(3,dI i),(11,dB t11)],40,[],[],0,[],0⟩
def qr0_ (b:List Int) (i:Int) (t22:Bool):St:=⟨[(0,dL b),(3,dI i),(22,dB t22)],40,[],[],0,[],0⟩
def qrp_ (b:List Int) (i:Int) (t39:Bool):St:=⟨[(0,dL b),(3,dI i),(39,dB t39)],40,[],[],0,[],0⟩
@[reducible] def zG5:Type:=List Int->Int->Bool->Option (As [.bool])
@[reducible] def zG6:Type:=List Int->Int->Option (As [.bool])
def q5r_ (j2:zG5) (self1:zG6) (b:List Int) (i:Int):Option (As [.bool]) :=
 if lt i 6=true then j2 b i (lt i (zF (zG b))) else j2 b i false
def qhe_ (j3:zG5) (self1:zG6) (b:List Int) (i:Int) (t11:Bool):Option (As [.bool]) :=
 if t11=true then if lt i 5=true then zC (at? b i) fun y=>j3 b i (nei y 0) else j3 b i false else some (true,())
def qhd_ (j4:zG5) (self1:zG6) (b:List Int) (i:Int) (t22:Bool):Option (As [.bool]) :=
 if t22=true then some (false,()) else if eqi i 5=true then zC (at? b i) fun y=>if lt y 2=true then j4 b i true else zC (at? b i) fun y=>j4 b i (gt (cvt .i64 y) 254) else j4 b i false
def q12s_ (self1:zG6) (b:List Int) (i:Int) (t39:Bool):Option (As [.bool]) :=
 if t39=true then some (false,()) else self1 b (add .i64 i 1)
def qhz_ (j1:zG6) (b:List Int):Option (As [.bool]) :=
 j1 b 2
def q11w_ (u1:zG6):=q12s_ u1
def qin_ (u1:zG6):=qhd_ (q11w_ u1) u1
def q62_ (u1:zG6):=qhe_ (qin_ u1) u1
def qbr_ (b:List Int) (i:Int):Option (As [.bool]) :=
 loopF (fun self s=>q5r_ (q62_ (fun b i=>self (b,i))) (fun b i=>self (b,i)) s.1 s.2) 18446744073709551616 (b,i)
def qjr_ (x:As [.sl (.int .u8)]):Option (As [.bool]):=qhz_ qbr_ x.1
abbrev mbap_begins_P:=zp ql2_ qkk_ 218 q9i_
theorem q1d8_ {J w1 a b c}:mbap_begins_P J 841 [w1] (qrp_ a b c)=q12s_ (C w1 q2v_) a b c:=by kernel_rfl
theorem q1en_ {J w1 a b c}:mbap_begins_P J 840 [w1] (qr0_ a b c)=qhd_ (C (J 841 [w1]) qrp_) (C w1 q2v_) a b c:=by kernel_rfl
theorem q1cd_ {J w1 a b c}:mbap_begins_P J 104 [w1] (qqz_ a b c)=qhe_ (C (J 840 [w1]) qr0_) (C w1 q2v_) a b c:=by kernel_rfl
theorem q1d2_ {J w1 a b}:mbap_begins_P J 26 [w1] (q2v_ a b)=q5r_ (C (J 104 [w1]) qqz_) (C w1 q2v_) a b:=by kernel_rfl
theorem q1cz_ (J:Orc (As [.bool])) (x:As [.sl (.int .u8)]):rfn Tryz.prog ql2_ 6 18446744073709551616 (Ev.get qkk_) 218 q9i_ J x=qhz_ (C (J 26 []) q2v_) x.1:=by kernel_rfl
abbrev mbap_begins_J:=zj ql2_ qkk_ 218 q9i_
theorem q1dp_ {w1}:C (mbap_begins_J 841 [w1]) qrp_=q11w_ (C w1 q2v_):=gNC (by decide) fun _=>q1d8_
theorem q1ef_ {w1}:C (mbap_begins_J 840 [w1]) qr0_=qin_ (C w1 q2v_):=gNC (by decide) fun _=>q1en_.trans (by rw [q1dp_] <;> kernel_rfl)
theorem q1dy_ {w1}:C (mbap_begins_J 104 [w1]) qqz_=q62_ (C w1 q2v_):=gNC (by decide) fun _=>q1cd_.trans (by rw [q1ef_] <;> kernel_rfl)
theorem q1du_:C (mbap_begins_J 26 []) q2v_=qbr_:=gLC (by decide) (by kernel_rfl) (fun _=>by unfold qbr_; rfl) fun _ _=>q1d2_.trans (by rw [q1dy_] <;> kernel_rfl)
theorem q1h0_ (x:As [.sl (.int .u8)]):evT Tryz.prog ql2_ 6 18446744073709551616 (Ev.get qkk_) 218 q9i_ x=qjr_ x:=by
 rw [qb_,q1cz_,q1du_] <;> rfl
theorem q1d4_:CtOk Tryz.prog (fun _=>True) 218 ⟨q9i_,qjr_⟩:=q7_ q2_ q1h0_
@[reducible] def qbw_:Sh:=⟨[.d (.sl (.int .u8))],[],[.sl (.int .u8)],[.d (.pr (.int .u16) YTT20),.d (.int .i64)],[],0,[.pr (.int .u16) YTT20,.int .i64]⟩
def qod_:Env:=(cts [(218,(⟨q9i_,qjr_⟩:Ct))])
def qow_:List (Nat×Hint):=[(6,⟨[],[0,2,13]⟩)]
def qw8_ (b:List Int) (t13:Bool) (t2 t2_2:Int):St:=⟨[(0,dL b),(2,.pb 0 0),(13,dB t13)],49,[],[(0,.box 129 [d6 t2,d8 t2_2,.k (zK zH 0 0)])],1,[],0⟩
def qka_ (b:List Int) (t13:Bool) (t2 t2_2:Int):Option (As [.pr (.int .u16) YTT20,.int .i64]) :=
 if t13=true then some ((0,0,[]),0,()) else zC (at? b 5) fun y=>if lt (zF (zG b)) (add .i64 6 (cvt .i64 y))=true then some ((0,0,[]),0,()) else need (ge (Sx.sub .i64 (add .i64 6 (cvt .i64 y)) 7) 0) (need (Ev.capOk (Sx.sub .i64 (add .i64 6 (cvt .i64 y)) 7) (Sx.sub .i64 (add .i64 6 (cvt .i64 y)) 7)) (need (small (zI (Sx.sub .i64 (add .i64 6 (cvt .i64 y)) 7))) (zC (cut b 7 (add .i64 6 (cvt .i64 y))) fun y_1=>need (le (zF (0 + zG (zE (α:=Int) (zI (Sx.sub .i64 (add .i64 6 (cvt .i64 y)) 7)) 0))) (zF (zG (zE (α:=Int) (zI (Sx.sub .i64 (add .i64 6 (cvt .i64 y)) 7)) 0)))) (zC (at? b 0) fun y_2=>zC (at? b 1) fun y_3=>zC (at? b 6) fun y_4=>some ((Sx.bor .u16 (Sx.shl .u16 (cvt .u16 y_2) 8) (cvt .u16 y_3),y_4,List.take (zI (zF (zG (zE (α:=Int) (zI (Sx.sub .i64 (add .i64 6 (cvt .i64 y)) 7)) 0)))) y_1++List.drop (0 + zG (List.take (zI (zF (zG (zE (α:=Int) (zI (Sx.sub .i64 (add .i64 6 (cvt .i64 y)) 7)) 0)))) y_1)) (zE (zI (Sx.sub .i64 (add .i64 6 (cvt .i64 y)) 7)) 0)),add .i64 6 (cvt .i64 y),())))))
def q9v_ (j1:List Int->Bool->Int->Int->Option (As [.pr (.int .u16) YTT20,.int .i64])) (b:List Int):Option (As [.pr (.int .u16) YTT20,.int .i64]) :=
 if le (zF (zG b)) 7=true then j1 b true 0 0 else zC (qjr_ (b,())) fun y=>j1 b (!y.1) 0 0
def qju_:=qka_
def qhh_ (x:As [.sl (.int .u8)]):Option (As [.pr (.int .u16) YTT20,.int .i64]):=q9v_ qju_ x.1
abbrev mbap_first_P:=zp qod_ qow_ 158 qbw_
theorem q1fq_ {J a b c d}:mbap_first_P J 6 [] (qw8_ a b c d)=qka_ a b c d:=by kernel_rfl
theorem q1hb_ (J:Orc (As [.pr (.int .u16) YTT20,.int .i64])) (x:As [.sl (.int .u8)]):rfn Tryz.prog qod_ 6 18446744073709551616 (Ev.get qow_) 158 qbw_ J x=q9v_ (C (J 6 []) qw8_) x.1:=by kernel_rfl
abbrev mbap_first_J:=zj qod_ qow_ 158 qbw_
theorem q1g4_:C (mbap_first_J 6 []) qw8_=qju_:=gNC (by decide) fun _=>q1fq_
theorem q1kd_ (x:As [.sl (.int .u8)]):evT Tryz.prog qod_ 6 18446744073709551616 (Ev.get qow_) 158 qbw_ x=qhh_ x:=by
 rw [qb_,q1hb_,q1g4_] <;> rfl
theorem q1fp_:CtOk Tryz.prog (fun _=>True) 158 ⟨qbw_,qhh_⟩:=q7_ (q0_ q1d4_ q2_) q1kd_
@[reducible] def q8b_:Sh:=⟨[.d (.sl (.int .u8))],[],[.sl (.int .u8)],[.d (.pr (.int .u16) YTT20),.d (.int .i64)],[],0,[.pr (.int .u16) YTT20,.int .i64]⟩
def qne_:Env:=(cts [(158,(⟨qbw_,qhh_⟩:Ct))])
def qnd_:List (Nat×Hint):=[(14,⟨[],[2,4,18]⟩)]
def qvb_ (t18:Bool) (t2 t2_2:Int) (x:Int×Int×List Int):St:=⟨[(2,.pb 0 0),(4,.pb 1 0),(18,dB t18)],21,[],[(0,.box 129 [d6 t2,d8 t2_2,.k (zK zH 0 0)]),(1,.box 129 [d6 x.1,d8 x.2.1,dL x.2.2])],2,[],0⟩
def q141_ (t18:Bool) (t2 t2_2:Int) (x:Int×Int×List Int):Option (As [.pr (.int .u16) YTT20,.int .i64]) :=
 if t18=true then some ((0,0,[]),10,()) else some (x,0,())
def qkt_ (j1:Bool->Int->Int->Int×Int×List Int->Option (As [.pr (.int .u16) YTT20,.int .i64])) (b:List Int):Option (As [.pr (.int .u16) YTT20,.int .i64]) :=
 zC (qhh_ (b,())) fun y=>if eqi y.2.1 0=true then j1 true 0 0 y.1 else j1 (nei y.2.1 (zF (zG b))) 0 0 y.1
def qk2_:=q141_
def qas_ (x:As [.sl (.int .u8)]):Option (As [.pr (.int .u16) YTT20,.int .i64]):=qkt_ qk2_ x.1
abbrev mbap_Parse_P:=zp qne_ qnd_ 98 q8b_
theorem q1gh_ {J a b c d}:mbap_Parse_P J 14 [] (qvb_ a b c d)=q141_ a b c d:=by kernel_rfl
theorem q1g8_ (J:Orc (As [.pr (.int .u16) YTT20,.int .i64])) (x:As [.sl (.int .u8)]):rfn Tryz.prog qne_ 6 18446744073709551616 (Ev.get qnd_) 98 q8b_ J x=qkt_ (C (J 14 []) qvb_) x.1:=by kernel_rfl
abbrev mbap_Parse_J:=zj qne_ qnd_ 98 q8b_
theorem q1ho_:C (mbap_Parse_J 14 []) qvb_=qk2_:=gNC (by decide) fun _=>q1gh_
theorem q1ju_ (x:As [.sl (.int .u8)]):evT Tryz.prog qne_ 6 18446744073709551616 (Ev.get qnd_) 98 q8b_ x=qas_ x:=by
 rw [qb_,q1g8_,q1ho_] <;> rfl
theorem q13z_:CtOk Tryz.prog (fun _=>True) 98 ⟨q8b_,qas_⟩:=q7_ (q0_ q1fp_ q2_) q1ju_
@[reducible] def q70_:Sh:=⟨[.d (.un),.d (.int .u8),.d (.int .u16),.d (.sl (.int .u8))],[],[.un,.int .u8,.int .u16,.sl (.int .u8)],[.d (.pr (.int .u8) YTT5),.d (.bool)],[],0,[.pr (.int .u8) YTT5,.bool]⟩
def qg5_:Env:=(cts [(53,(⟨q78_,q6a_⟩:Ct)),(98,(⟨q8b_,qas_⟩:Ct))])
def qfw_:List (Nat×Hint):=[(14,⟨[],[8,10,31]⟩)]
def qm6_ (t31:Bool) (t8 t8_2 t8_3 t8_4 x x_2:Int) (x_3:List Int):St:=⟨[(8,.pb 0 0),(10,.pb 1 0),(31,dB t31)],43,[],[(0,.box 109 [d8 t8,d8 t8_2,.k (zK zH 0 0),.k (zK zH 0 0),d6 t8_3,d6 t8_4]),(1,.box 129 [d6 x,d8 x_2,dL x_3])],2,[],0⟩
def qls_ (t31:Bool) (t8 t8_2 t8_3 t8_4 x x_2:Int) (x_3:List Int):Option (As [.pr (.int .u8) YTT5,.bool]) :=
 if t31=true then some ((0,0,[],[],0,0),false,()) else zC (q6a_ (x_3,())) fun y=>if nei y.2.1 0=true then some ((0,0,[],[],0,0),false,()) else some (y.1,true,())
def qdx_ (j1:Bool->Int->Int->Int->Int->Int->Int->List Int->Option (As [.pr (.int .u8) YTT5,.bool])) (v:Unit) (unit tx:Int) (b:List Int):Option (As [.pr (.int .u8) YTT5,.bool]) :=
 zC (qas_ (b,())) fun y=>if nei y.2.1 0=true then j1 true 0 0 0 0 y.1.1 y.1.2.1 y.1.2.2 else if nei y.1.2.1 unit=true then j1 true 0 0 0 0 y.1.1 y.1.2.1 y.1.2.2 else j1 (nei y.1.1 tx) 0 0 0 0 y.1.1 y.1.2.1 y.1.2.2
def q8n_:=qls_
def q74_ (x:As [.un,.int .u8,.int .u16,.sl (.int .u8)]):Option (As [.pr (.int .u8) YTT5,.bool]):=qdx_ q8n_ x.1 x.2.1 x.2.2.1 x.2.2.2.1
abbrev poll_tcp_find_P:=zp qg5_ qfw_ 337 q70_
theorem q19z_ {J a b c d e f g h}:poll_tcp_find_P J 14 [] (qm6_ a b c d e f g h)=qls_ a b c d e f g h:=by kernel_rfl
theorem q1ab_ (J:Orc (As [.pr (.int .u8) YTT5,.bool])) (x:As [.un,.int .u8,.int .u16,.sl (.int .u8)]):rfn Tryz.prog qg5_ 6 18446744073709551616 (Ev.get qfw_) 337 q70_ J x=qdx_ (C (J 14 []) qm6_) x.1 x.2.1 x.2.2.1 x.2.2.2.1:=by kernel_rfl
abbrev poll_tcp_find_J:=zj qg5_ qfw_ 337 q70_
theorem q19r_:C (poll_tcp_find_J 14 []) qm6_=q8n_:=gNC (by decide) fun _=>q19z_
theorem q1ap_ (x:As [.un,.int .u8,.int .u16,.sl (.int .u8)]):evT Tryz.prog qg5_ 6 18446744073709551616 (Ev.get qfw_) 337 q70_ x=q74_ x:=by
 rw [qb_,q1ab_,q19r_] <;> rfl
theorem q1ah_:CtOk Tryz.prog (fun _=>True) 337 ⟨q70_,q74_⟩:=q7_ (q0_ qqv_ (q0_ q13z_ q2_)) q1ap_
@[reducible] def q1fd_:Sh:=⟨[.d (.sl (.int .u8))],[],[.sl (.int .u8)],[.d (.sl (.int .u8)),.d (.int .i64)],[],0,[.sl (.int .u8),.int .i64]⟩
def q139_ (b:List Int):Option (As [.sl (.int .u8),.int .i64]) :=
 if lt (zF (zG b)) 2=true then some ([],10,()) else zC (cut b 0 (Sx.sub .i64 (zF (zG b)) 2)) fun y=>zC (at? b (Sx.sub .i64 (zF (zG b)) 2)) fun y_1=>zC (at? b (add .i64 (Sx.sub .i64 (zF (zG b)) 2) 1)) fun y_2=>zC (q123_ (y,())) fun y=>if nei y.1 (Sx.bor .u16 (cvt .u16 y_1) (Sx.shl .u16 (cvt .u16 y_2) 8))=true then some ([],11,()) else need (ge (Sx.sub .i64 (zF (zG b)) 2) 0) (need (Ev.capOk (Sx.sub .i64 (zF (zG b)) 2) (Sx.sub .i64 (zF (zG b)) 2)) (need (small (zI (Sx.sub .i64 (zF (zG b)) 2))) (need (le (zF (0 + zG (zE (α:=Int) (zI (Sx.sub .i64 (zF (zG b)) 2)) 0))) (zF (zG (zE (α:=Int) (zI (Sx.sub .i64 (zF (zG b)) 2)) 0)))) (some (List.take (zI (zF (zG (zE (α:=Int) (zI (Sx.sub .i64 (zF (zG b)) 2)) 0)))) b++List.drop (0 + zG (List.take (zI (zF (zG (zE (α:=Int) (zI (Sx.sub .i64 (zF (zG b)) 2)) 0)))) b)) (zE (zI (Sx.sub .i64 (zF (zG b)) 2)) 0),0,())))))
def q181_ (x:As [.sl (.int .u8)]):Option (As [.sl (.int .u8),.int .i64]):=q139_ x.1
theorem q1og_:CtOk Tryz.prog (fun _=>True) 159 ⟨q1fd_,q181_⟩:=ctn (q0_ q1am_ q2_) 6 fun J x=>by kernel_rfl
@[reducible] def qez_:Sh:=⟨[.d (.sl (.int .u8))],[],[.sl (.int .u8)],[.d (.int .u8),.d (.sl (.int .u8)),.d (.int .i64)],[],0,[.int .u8,.sl (.int .u8),.int .i64]⟩
def qu2_:Env:=(cts [(159,(⟨q1fd_,q181_⟩:Ct)),(160,(⟨qyf_,qd8_⟩:Ct))])
def qte_:List (Nat×Hint):=[(6,⟨[],[0,14]⟩)]
def qz9_ (b:List Int) (t14:Bool):St:=⟨[(0,dL b),(14,dB t14)],37,[],[],0,[],0⟩
def qpo_ (b:List Int) (t14:Bool):Option (As [.int .u8,.sl (.int .u8),.int .i64]) :=
 if t14=true then some (0,[],10,()) else zC (q181_ (b,())) fun y=>if nei y.2.1 0=true then some (0,[],y.2.1,()) else zC (at? y.1 0) fun y_1=>zC (qd8_ (y_1,())) fun y_2=>if (!y_2.1)=true then some (0,[],10,()) else zC (at? y.1 0) fun y_3=>zC (cut y.1 1 (zF (zG y.1))) fun y_4=>need (le (zF (zG y.1)) (zF (zG y.1))) (need (le (zF (zG y.1)) (zF (zG y.1))) (some (y_3,y_4,0,())))
def qq5_ (j1:List Int->Bool->Option (As [.int .u8,.sl (.int .u8),.int .i64])) (b:List Int):Option (As [.int .u8,.sl (.int .u8),.int .i64]) :=
 if lt (zF (zG b)) 4=true then j1 b true else j1 b (gt (zF (zG b)) 256)
def qov_:=qpo_
def qh3_ (x:As [.sl (.int .u8)]):Option (As [.int .u8,.sl (.int .u8),.int .i64]):=qq5_ qov_ x.1
abbrev rtu_Parse_P:=zp qu2_ qte_ 101 qez_
theorem q1id_ {J a b}:rtu_Parse_P J 6 [] (qz9_ a b)=qpo_ a b:=by kernel_rfl
theorem q1lr_ (J:Orc (As [.int .u8,.sl (.int .u8),.int .i64])) (x:As [.sl (.int .u8)]):rfn Tryz.prog qu2_ 6 18446744073709551616 (Ev.get qte_) 101 qez_ J x=qq5_ (C (J 6 []) qz9_) x.1:=by kernel_rfl
abbrev rtu_Parse_J:=zj qu2_ qte_ 101 qez_
theorem q1m8_:C (rtu_Parse_J 6 []) qz9_=qov_:=gNC (by decide) fun _=>q1id_
theorem q1n1_ (x:As [.sl (.int .u8)]):evT Tryz.prog qu2_ 6 18446744073709551616 (Ev.get qte_) 101 qez_ x=qh3_ x:=by
 rw [qb_,q1lr_,q1m8_] <;> rfl
theorem q17z_:CtOk Tryz.prog (fun _=>True) 101 ⟨qez_,qh3_⟩:=q7_ (q0_ q1og_ (q0_ q13x_ q2_)) q1n1_
@[reducible] def q1nx_:Sh:=⟨[.d (.int .u8),.d (.sl (.int .u8))],[],[.int .u8,.sl (.int .u8)],[.d (.pr (.int .u8) YTT5),.d (.int .i64)],[],0,[.pr (.int .u8) YTT5,.int .i64]⟩
def qzg_ (unit:Int) (b:List Int):Option (As [.pr (.int .u8) YTT5,.int .i64]) :=
 zC (qh3_ (b,())) fun y=>if nei y.2.2.1 0=true then some ((0,0,[],[],0,0),y.2.2.1,()) else if nei y.1 unit=true then some ((0,0,[],[],0,0),10,()) else zC (q6a_ (y.2.1,())) fun y=>some (y.1,y.2.1,())
def q15q_ (x:As [.int .u8,.sl (.int .u8)]):Option (As [.pr (.int .u8) YTT5,.int .i64]):=qzg_ x.1 x.2.1
theorem q1l5_:CtOk Tryz.prog (fun _=>True) 343 ⟨q1nx_,q15q_⟩:=ctn (q0_ qqv_ (q0_ q17z_ q2_)) 6 fun J x=>by kernel_rfl
@[reducible] def qud_:Sh:=⟨[.d (.un),.d (.int .u8),.d (.int .u16),.d (.sl (.int .u8))],[],[.un,.int .u8,.int .u16,.sl (.int .u8)],[.d (.pr (.int .u8) YTT5),.d (.bool)],[],0,[.pr (.int .u8) YTT5,.bool]⟩
def qf2_ (v:Unit) (unit tx:Int) (b:List Int):Option (As [.pr (.int .u8) YTT5,.bool]) :=
 zC (q15q_ (unit,b,())) fun y=>if nei y.2.1 0=true then some ((0,0,[],[],0,0),false,()) else some (y.1,true,())
def q60_ (x:As [.un,.int .u8,.int .u16,.sl (.int .u8)]):Option (As [.pr (.int .u8) YTT5,.bool]):=qf2_ x.1 x.2.1 x.2.2.1 x.2.2.2.1
theorem q14i_:CtOk Tryz.prog (fun _=>True) 340 ⟨qud_,q60_⟩:=ctn (q0_ q1l5_ q2_) 6 fun J x=>by kernel_rfl
@[reducible] def q7z_:Sh:=⟨[.d (.pr (.int .u8) YTT0),.d (.sl (.int .u8))],[],[.pr (.int .u8) YTT0,.sl (.int .u8)],[.d (.pr (.int .u8) YTT0),.d (.pr (.int .u8) YTT5),.d (.bool)],[],0,[.pr (.int .u8) YTT0,.pr (.int .u8) YTT5,.bool]⟩
def qtt_:Env:=(cts [(64,(⟨q11d_,qd1_⟩:Ct)),(114,(⟨q1b5_,qdk_⟩:Ct)),(154,(⟨qbt_,qig_⟩:Ct)),(337,(⟨q70_,q74_⟩:Ct)),(340,(⟨qud_,q60_⟩:Ct))])
def qsz_:List (Nat×Hint):=[(7,⟨[],[2,4,5,7,8,30,31,32,33,34]⟩),(30,⟨[],[2,4,5,7,35]⟩)]
def qyx_ (ok:Bool) (p p_2 p_3 p_4:Int) (p_5:Bool) (p_6 p_7 p_8 p_9:Int) (p_10:List Int) (p_11:List Bool) (p_12 p_13 p_14 t4 t4_2 t4_3 t4_4:Int) (t4_5:Bool) (t4_6 t4_7 t4_8 t4_9 t4_10 t4_11 t4_12 t5 t5_2 t5_3 t5_4 r r_2:Int) (r_3:List Bool) (r_4:List Int) (r_5 r_6:Int):St:=⟨[(2,.pb 0 0),(4,.pb 1 0),(5,.pb 2 0),(7,.pb 3 0),(8,dB ok)],42,[],[(0,.box 29 [d8 p,d8 p_2,dI p_3,dI p_4,dB p_5,d8 p_6,d6 p_7,d6 p_8,d6 p_9,dW p_10,.d (.sl .bool) p_11,d6 p_12,dI p_13,dI p_14]),(1,.box 29 [d8 t4,d8 t4_2,dI t4_3,dI t4_4,dB t4_5,d8 t4_6,d6 t4_7,d6 t4_8,d6 t4_9,.k (zK zH 0 0),.k (zK zH 0 0),d6 t4_10,dI t4_11,dI t4_12]),(2,.box 109 [d8 t5,d8 t5_2,.k (zK zH 0 0),.k (zK zH 0 0),d6 t5_3,d6 t5_4]),(3,.box 109 [d8 r,d8 r_2,.d (.sl .bool) r_3,dW r_4,d6 r_5,d6 r_6])],4,[],0⟩
def qzd_ (t35:Bool) (p p_2 p_3 p_4:Int) (p_5:Bool) (p_6 p_7 p_8 p_9:Int) (p_10:List Int) (p_11:List Bool) (p_12 p_13 p_14 t4 t4_2 t4_3 t4_4:Int) (t4_5:Bool) (t4_6 t4_7 t4_8 t4_9 t4_10 t4_11 t4_12 t5 t5_2 t5_3 t5_4 r r_2:Int) (r_3:List Bool) (r_4:List Int) (r_5 r_6:Int):St:=⟨[(2,.pb 0 0),(4,.pb 1 0),(5,.pb 2 0),(7,.pb 3 0),(35,dB t35)],42,[],[(0,.box 29 [d8 p,d8 p_2,dI p_3,dI p_4,dB p_5,d8 p_6,d6 p_7,d6 p_8,d6 p_9,dW p_10,.d (.sl .bool) p_11,d6 p_12,dI p_13,dI p_14]),(1,.box 29 [d8 t4,d8 t4_2,dI t4_3,dI t4_4,dB t4_5,d8 t4_6,d6 t4_7,d6 t4_8,d6 t4_9,.k (zK zH 0 0),.k (zK zH 0 0),d6 t4_10,dI t4_11,dI t4_12]),(2,.box 109 [d8 t5,d8 t5_2,.k (zK zH 0 0),.k (zK zH 0 0),d6 t5_3,d6 t5_4]),(3,.box 109 [d8 r,d8 r_2,.d (.sl .bool) r_3,dW r_4,d6 r_5,d6 r_6])],4,[],0⟩
@[reducible] def zG7:Type:=Bool->Int->Int->Int->Int->Bool->Int->Int->Int->Int->List Int->List Bool->Int->Int->Int->Int->Int->Int->Int->Bool->Int->Int->Int->Int->Int->Int->Int->Int->Int->Int->Int->Int->Int->List Bool->List Int->Int->Int->Option (As [.pr (.int .u8) YTT0,.pr (.int .u8) YTT5,.bool])
def qze_ (j2:zG7) (ok:Bool) (p p_2 p_3 p_4:Int) (p_5:Bool) (p_6 p_7 p_8 p_9:Int) (p_10:List Int) (p_11:List Bool) (p_12 p_13 p_14 t4 t4_2 t4_3 t4_4:Int) (t4_5:Bool) (t4_6 t4_7 t4_8 t4_9 t4_10 t4_11 t4_12 t5 t5_2 t5_3 t5_4 r r_2:Int) (r_3:List Bool) (r_4:List Int) (r_5 r_6:Int):Option (As [.pr (.int .u8) YTT0,.pr (.int .u8) YTT5,.bool]) :=
 if (!ok)=true then j2 true p p_2 p_3 p_4 p_5 p_6 p_7 p_8 p_9 p_10 p_11 p_12 p_13 p_14 t4 t4_2 t4_3 t4_4 t4_5 t4_6 t4_7 t4_8 t4_9 t4_10 t4_11 t4_12 t5 t5_2 t5_3 t5_4 r r_2 r_3 r_4 r_5 r_6 else zC (qig_ ((p_6,p_7,p_8,p_9,p_10,p_11),(r,r_2,r_3,r_4,r_5,r_6),())) fun y=>j2 (!y.1) p p_2 p_3 p_4 p_5 p_6 p_7 p_8 p_9 p_10 p_11 p_12 p_13 p_14 t4 t4_2 t4_3 t4_4 t4_5 t4_6 t4_7 t4_8 t4_9 t4_10 t4_11 t4_12 t5 t5_2 t5_3 t5_4 r r_2 r_3 r_4 r_5 r_6
def qxy_ (t35:Bool) (p p_2 p_3 p_4:Int) (p_5:Bool) (p_6 p_7 p_8 p_9:Int) (p_10:List Int) (p_11:List Bool) (p_12 p_13 p_14 t4 t4_2 t4_3 t4_4:Int) (t4_5:Bool) (t4_6 t4_7 t4_8 t4_9 t4_10 t4_11 t4_12 t5 t5_2 t5_3 t5_4 r r_2:Int) (r_3:List Bool) (r_4:List Int) (r_5 r_6:Int):Option (As [.pr (.int .u8) YTT0,.pr (.int .u8) YTT5,.bool]) :=
 if t35=true then zC (qdk_ ((p,p_2,p_3,p_4,p_5,(p_6,p_7,p_8,p_9,p_10,p_11),p_12,p_13,p_14),())) fun y=>some (y.1,(0,0,[],[],0,0),false,()) else zC (qd1_ ((p,p_2,p_3,p_4,p_5,(p_6,p_7,p_8,p_9,p_10,p_11),p_12,p_13,p_14),())) fun y=>some (y.1,(r,r_2,r_3,r_4,r_5,r_6),true,())
def qq1_ (j1:zG7) (p:Int×Int×Int×Int×Bool×YTT18×Int×Int×Int) (frame:List Int):Option (As [.pr (.int .u8) YTT0,.pr (.int .u8) YTT5,.bool]) :=
 if (!p.2.2.2.2.1)=true then zC (qdk_ (p,())) fun y=>some (y.1,(0,0,[],[],0,0),false,()) else amb (eqAs q7z_.rs) [if eqi p.2.1 2=true then amb (eqAs q7z_.rs) [zC (q74_ ((),p.1,p.2.2.2.2.2.2.1,frame,())) fun y=>j1 y.2.1 p.1 p.2.1 p.2.2.1 p.2.2.2.1 p.2.2.2.2.1 p.2.2.2.2.2.1.1 p.2.2.2.2.2.1.2.1 p.2.2.2.2.2.1.2.2.1 p.2.2.2.2.2.1.2.2.2.1 p.2.2.2.2.2.1.2.2.2.2.1 p.2.2.2.2.2.1.2.2.2.2.2 p.2.2.2.2.2.2.1 p.2.2.2.2.2.2.2.1 p.2.2.2.2.2.2.2.2 0 0 0 0 false 0 0 0 0 0 0 0 0 0 0 0 y.1.1 y.1.2.1 y.1.2.2.1 y.1.2.2.2.1 y.1.2.2.2.2.1 y.1.2.2.2.2.2,zC (q74_ ((),p.1,p.2.2.2.2.2.2.1,frame,())) fun y=>j1 y.2.1 p.1 p.2.1 p.2.2.1 p.2.2.2.1 p.2.2.2.2.1 p.2.2.2.2.2.1.1 p.2.2.2.2.2.1.2.1 p.2.2.2.2.2.1.2.2.1 p.2.2.2.2.2.1.2.2.2.1 p.2.2.2.2.2.1.2.2.2.2.1 p.2.2.2.2.2.1.2.2.2.2.2 p.2.2.2.2.2.2.1 p.2.2.2.2.2.2.2.1 p.2.2.2.2.2.2.2.2 0 0 0 0 false 0 0 0 0 0 0 0 0 0 0 0 y.1.1 y.1.2.1 y.1.2.2.1 y.1.2.2.2.1 y.1.2.2.2.2.1 y.1.2.2.2.2.2] else amb (eqAs q7z_.rs) [zC (q60_ ((),p.1,p.2.2.2.2.2.2.1,frame,())) fun y=>j1 y.2.1 p.1 p.2.1 p.2.2.1 p.2.2.2.1 p.2.2.2.2.1 p.2.2.2.2.2.1.1 p.2.2.2.2.2.1.2.1 p.2.2.2.2.2.1.2.2.1 p.2.2.2.2.2.1.2.2.2.1 p.2.2.2.2.2.1.2.2.2.2.1 p.2.2.2.2.2.1.2.2.2.2.2 p.2.2.2.2.2.2.1 p.2.2.2.2.2.2.2.1 p.2.2.2.2.2.2.2.2 0 0 0 0 false 0 0 0 0 0 0 0 0 0 0 0 y.1.1 y.1.2.1 y.1.2.2.1 y.1.2.2.2.1 y.1.2.2.2.2.1 y.1.2.2.2.2.2,zC (q60_ ((),p.1,p.2.2.2.2.2.2.1,frame,())) fun y=>j1 y.2.1 p.1 p.2.1 p.2.2.1 p.2.2.2.1 p.2.2.2.2.1 p.2.2.2.2.2.1.1 p.2.2.2.2.2.1.2.1 p.2.2.2.2.2.1.2.2.1 p.2.2.2.2.2.1.2.2.2.1 p.2.2.2.2.2.1.2.2.2.2.1 p.2.2.2.2.2.1.2.2.2.2.2 p.2.2.2.2.2.2.1 p.2.2.2.2.2.2.2.1 p.2.2.2.2.2.2.2.2 0 0 0 0 false 0 0 0 0 0 0 0 0 0 0 0 y.1.1 y.1.2.1 y.1.2.2.1 y.1.2.2.2.1 y.1.2.2.2.2.1 y.1.2.2.2.2.2],if eqi p.2.1 2=true then zC (q74_ ((),p.1,p.2.2.2.2.2.2.1,frame,())) fun y=>j1 y.2.1 p.1 p.2.1 p.2.2.1 p.2.2.2.1 p.2.2.2.2.1 p.2.2.2.2.2.1.1 p.2.2.2.2.2.1.2.1 p.2.2.2.2.2.1.2.2.1 p.2.2.2.2.2.1.2.2.2.1 p.2.2.2.2.2.1.2.2.2.2.1 p.2.2.2.2.2.1.2.2.2.2.2 p.2.2.2.2.2.2.1 p.2.2.2.2.2.2.2.1 p.2.2.2.2.2.2.2.2 0 0 0 0 false 0 0 0 0 0 0 0 0 0 0 0 y.1.1 y.1.2.1 y.1.2.2.1 y.1.2.2.2.1 y.1.2.2.2.2.1 y.1.2.2.2.2.2 else zC (q60_ ((),p.1,p.2.2.2.2.2.2.1,frame,())) fun y=>j1 y.2.1 p.1 p.2.1 p.2.2.1 p.2.2.2.1 p.2.2.2.2.1 p.2.2.2.2.2.1.1 p.2.2.2.2.2.1.2.1 p.2.2.2.2.2.1.2.2.1 p.2.2.2.2.2.1.2.2.2.1 p.2.2.2.2.2.1.2.2.2.2.1 p.2.2.2.2.2.1.2.2.2.2.2 p.2.2.2.2.2.2.1 p.2.2.2.2.2.2.2.1 p.2.2.2.2.2.2.2.2 0 0 0 0 false 0 0 0 0 0 0 0 0 0 0 0 y.1.1 y.1.2.1 y.1.2.2.1 y.1.2.2.2.1 y.1.2.2.2.2.1 y.1.2.2.2.2.2]
def qok_:=qxy_
def qc5_:=qze_ (qok_)
def q10d_ (x:As [.pr (.int .u8) YTT0,.sl (.int .u8)]):Option (As [.pr (.int .u8) YTT0,.pr (.int .u8) YTT5,.bool]):=qq1_ qc5_ x.1 x.2.1
abbrev poll_Take_P:=zp qtt_ qsz_ 95 q7z_
theorem q1jm_ {J a b c d e f g h i j k l m n o p q r t u v x y z aa ab ac ad ae af ag ah ba bb bc bd be}:poll_Take_P J 30 [] (qzd_ a b c d e f g h i j k l m n o p q r t u v x y z aa ab ac ad ae af ag ah ba bb bc bd be)=qxy_ a b c d e f g h i j k l m n o p q r t u v x y z aa ab ac ad ae af ag ah ba bb bc bd be:=by kernel_rfl
theorem q1iq_ {J a b c d e f g h i j k l m n o p q r t u v x y z aa ab ac ad ae af ag ah ba bb bc bd be}:poll_Take_P J 7 [] (qyx_ a b c d e f g h i j k l m n o p q r t u v x y z aa ab ac ad ae af ag ah ba bb bc bd be)=qze_ (C (J 30 []) qzd_) a b c d e f g h i j k l m n o p q r t u v x y z aa ab ac ad ae af ag ah ba bb bc bd be:=by kernel_rfl
theorem q1ka_ (J:Orc (As [.pr (.int .u8) YTT0,.pr (.int .u8) YTT5,.bool])) (x:As [.pr (.int .u8) YTT0,.sl (.int .u8)]):rfn Tryz.prog qtt_ 6 18446744073709551616 (Ev.get qsz_) 95 q7z_ J x=qq1_ (C (J 7 []) qyx_) x.1 x.2.1:=by kernel_rfl
abbrev poll_Take_J:=zj qtt_ qsz_ 95 q7z_
theorem q1kj_:C (poll_Take_J 30 []) qzd_=qok_:=gNC (by decide) fun _=>q1jm_
theorem q1j2_:C (poll_Take_J 7 []) qyx_=qc5_:=gNC (by decide) fun _=>q1iq_.trans (by rw [q1kj_] <;> kernel_rfl)
theorem q1ny_ (x:As [.pr (.int .u8) YTT0,.sl (.int .u8)]):evT Tryz.prog qtt_ 6 18446744073709551616 (Ev.get qsz_) 95 q7z_ x=q10d_ x:=by
 rw [qb_,q1ka_,q1j2_] <;> rfl
theorem q1m9_:CtOk Tryz.prog (fun _=>True) 95 ⟨q7z_,q10d_⟩:=q7_ (q0_ qna_ (q0_ q10u_ (q0_ q1i4_ (q0_ q1ah_ (q0_ q14i_ q2_))))) q1ny_
@[reducible] def qei_:Sh:=⟨[.d (.pr (.pr (.int .u8) YTT0) YTT2),.d (.pr (.int .u8) YTT5)],[],[.pr (.pr (.int .u8) YTT0) YTT2,.pr (.int .u8) YTT5],[.d (.pr (.pr (.int .u8) YTT0) YTT2)],[],0,[.pr (.pr (.int .u8) YTT0) YTT2]⟩
def qk0_:Env:=(cts [(1000211,Ev.bxCt),(56,(⟨qpy_,q2j_⟩:Ct)),(204,(⟨qb6_,qav_⟩:Ct)),(205,(⟨q63_,qbs_⟩:Ct)),(206,(⟨qwc_,qtn_⟩:Ct)),(207,(⟨qvg_,qjc_⟩:Ct)),(208,(⟨q10g_,qzs_⟩:Ct)),(209,(⟨q5c_,q9j_⟩:Ct)),(211,(⟨q53_,q9s_⟩:Ct)),(213,(⟨qm0_,qc0_⟩:Ct)),(215,(⟨qqs_,qgh_⟩:Ct)),(216,(⟨q11a_,qzu_⟩:Ct)),(217,(⟨q79_,qey_⟩:Ct))])
def qkb_:List (Nat×Hint):=[(14,⟨[],[2,3,4,5,15]⟩)]
def qs2_ (t15:Bool) (t:TaA3q0) (r:TaA3q1) (t4:YTT10×Int×Int×Unit×Int×Int×Int×Int×Int):St:=⟨[(2,.pb 0 0),(3,.pb 1 0),(4,.pb 2 0),(5,.pb 3 0),(15,dB t15)],28,[],[(0,.box 33 (talkC t [])),(1,.box 109 [d8 r.1,d8 r.2.1,.d (.sl .bool) r.2.2.1,dW r.2.2.2.1,d6 r.2.2.2.2.1,d6 r.2.2.2.2.2]),(2,.box 33 [d8 t4.1.1,d8 t4.1.2.1,dI t4.1.2.2.1,dI t4.1.2.2.2.1,dB t4.1.2.2.2.2.1,d8 t4.1.2.2.2.2.2.1.1,d6 t4.1.2.2.2.2.2.1.2.1,d6 t4.1.2.2.2.2.2.1.2.2.1,d6 t4.1.2.2.2.2.2.1.2.2.2.1,.k (zK zH 0 0),.k (zK zH 0 0),d6 t4.1.2.2.2.2.2.2.1,dI t4.1.2.2.2.2.2.2.2.1,dI t4.1.2.2.2.2.2.2.2.2,d6 t4.2.1,d2 t4.2.2.1,.k (zK zH 0 0),d8 t4.2.2.2.2.1,d8 t4.2.2.2.2.2.1,dI t4.2.2.2.2.2.2.1,dI t4.2.2.2.2.2.2.2.1,d8 t4.2.2.2.2.2.2.2.2]),(3,.box 211 [.k Go.Value.nilFunc,.k Go.Value.nilFunc,.fn (.func 203) [] [],.fn (.func 205) [] [],.fn (.func 206) [] [],.fn (.func 207) [] [],.fn (.func 208) [] [],.fn (.func 209) [] [],.fn (.func 210) [] [],.fn (.func 211) [] [],.fn (.func 212) [] [],.fn (.func 213) [] [],.fn (.func 214) [] [],.fn (.func 215) [] [],.fn (.func 216) [] [],.fn (.func 217) [] []])],4,[],0⟩
def qhj_ (t15:Bool) (t:TaA3q0) (r:TaA3q1) (t4:YTT10×Int×Int×Unit×Int×Int×Int×Int×Int):Option (As [.pr (.pr (.int .u8) YTT0) YTT2]) :=
 if t15=true then zC (q2j_ (t,t.2.2.2.2.2.2.2.2,())) fun y=>some (y.1,()) else if eqi t.2.2.2.2.2.1 7=true then zC (qey_ (t,r,())) fun y=>some (y.1,()) else if eqi t.2.2.2.2.2.1 6=true then zC (qgh_ (t,r,())) fun y=>some (y.1,()) else if eqi t.2.2.2.2.2.1 5=true then zC (qc0_ (t,r,())) fun y=>some (y.1,()) else if eqi t.2.2.2.2.2.1 4=true then zC (q9s_ (t,r,())) fun y=>some (y.1,()) else if eqi t.2.2.2.2.2.1 3=true then zC (q9j_ (t,r,())) fun y=>some (y.1,()) else if eqi t.2.2.2.2.2.1 2=true then zC (qjc_ (t,r,())) fun y=>some (y.1,()) else if eqi t.2.2.2.2.2.1 1=true then zC (qbs_ (t,r,())) fun y=>some (y.1,()) else if eqi t.2.2.2.2.2.1 0=true then zH else zH
def qha_ (j1:Bool->TaA3q0->TaA3q1->YTT10×Int×Int×Unit×Int×Int×Int×Int×Int->Option (As [.pr (.pr (.int .u8) YTT0) YTT2])) (t:TaA3q0) (r:TaA3q1):Option (As [.pr (.pr (.int .u8) YTT0) YTT2]) :=
 if ge (cvt .i64 t.2.2.2.2.2.1) 8=true then j1 true t r ((0,0,0,0,false,(0,0,0,0,(),()),0,0,0),0,0,(),0,0,0,0,0) else j1 (eqi t.2.2.2.2.2.1 0) t r ((0,0,0,0,false,(0,0,0,0,(),()),0,0,0),0,0,(),0,0,0,0,0)
def qrr_:=qhj_
def qji_ (x:As [.pr (.pr (.int .u8) YTT0) YTT2,.pr (.int .u8) YTT5]):Option (As [.pr (.pr (.int .u8) YTT0) YTT2]):=qha_ qrr_ x.1 x.2.1
abbrev talk_effect_P:=zp qk0_ qkb_ 96 qei_
theorem q1f2_ {J a b c d}:talk_effect_P J 14 [] (qs2_ a b c d)=qhj_ a b c d:=by kernel_rfl
theorem q1dq_ (J:Orc (As [.pr (.pr (.int .u8) YTT0) YTT2])) (x:As [.pr (.pr (.int .u8) YTT0) YTT2,.pr (.int .u8) YTT5]):rfn Tryz.prog qk0_ 6 18446744073709551616 (Ev.get qkb_) 96 qei_ J x=qha_ (C (J 14 []) qs2_) x.1 x.2.1:=by kernel_rfl
abbrev talk_effect_J:=zj qk0_ qkb_ 96 qei_
theorem q1c1_:C (talk_effect_J 14 []) qs2_=qrr_:=gNC (by decide) fun _=>q1f2_
theorem q1ge_ (x:As [.pr (.pr (.int .u8) YTT0) YTT2,.pr (.int .u8) YTT5]):evT Tryz.prog qk0_ 6 18446744073709551616 (Ev.get qkb_) 96 qei_ x=qji_ x:=by
 rw [qb_,q1dq_,q1c1_] <;> rfl
theorem q1d6_:CtOk Tryz.prog (fun _=>True) 96 ⟨qei_,qji_⟩:=q7_ (q0_ Ev.bx_ok (q0_ q6b_ (q0_ q15r_ (q0_ q10f_ (q0_ q133_ (q0_ q11m_ (q0_ q15x_ (q0_ qy0_ (q0_ qxh_ (q0_ qwf_ (q0_ qzo_ (q0_ q16y_ (q0_ q12o_ q2_))))))))))))) q1ge_
@[reducible] def q10y_:Sh:=⟨[.d (.pr (.pr (.int .u8) YTT0) YTT2),.d (.sl (.int .u8))],[],[.pr (.pr (.int .u8) YTT0) YTT2,.sl (.int .u8)],[.d (.pr (.pr (.int .u8) YTT0) YTT2),.d (.sl (.int .u8))],[],0,[.pr (.pr (.int .u8) YTT0) YTT2,.sl (.int .u8)]⟩
def qzc_ (t:TaA3q0) (frame:List Int):Option (As [.pr (.pr (.int .u8) YTT0) YTT2,.sl (.int .u8)]) :=
 zC (qma_ (t,())) fun y=>zC (q10d_ (y.1.1,frame,())) fun y_1=>if (!y_1.2.2.1)=true then some (y.1,[],()) else zC (qji_ ((y_1.1,y.1.2),y_1.2.1,())) fun y=>if eqi y.1.2.2.2.2.2.1 0=true then some (y.1,[],()) else zC (q7y_ (y.1,())) fun y=>some (y.1,y.2.1,())
def q7s_ (x:As [.pr (.pr (.int .u8) YTT0) YTT2,.sl (.int .u8)]):Option (As [.pr (.pr (.int .u8) YTT0) YTT2,.sl (.int .u8)]):=qzc_ x.1 x.2.1
theorem q16f_:CtOk Tryz.prog (fun _=>True) 46 ⟨q10y_,q7s_⟩:=ctn (q0_ q10t_ (q0_ qxz_ (q0_ q1m9_ (q0_ q1d6_ q2_)))) 6 fun J x=>by kernel_rfl
@[reducible] def qev_:Sh:=⟨[.d (.pr (.int .u8) (.pr (.int .u8) (.pr (.pr (.sl (.int .u16)) YTT1) (.sl .bool))))],[],[.pr (.int .u8) (.pr (.int .u8) (.pr (.pr (.sl (.int .u16)) YTT1) (.sl .bool)))],[.d (.pr (.int .u8) (.pr (.int .u8) (.pr (.pr (.sl (.int .u16)) YTT1) (.sl .bool))))],[],0,[.pr (.int .u8) (.pr (.int .u8) (.pr (.pr (.sl (.int .u16)) YTT1) (.sl .bool)))]⟩
def qsw_:Env:=(cts [(45,(⟨q2w_,qc_⟩:Ct)),(113,(⟨qdd_,q2m_⟩:Ct))])
def qt1_:List (Nat×Hint):=[(122,⟨[],[1,2,15]⟩)]
@[reducible] def zG8:Type:=List (Int×Int×YTT4×List Bool)
def qpl_ (s t2 t15:Int) (s_2 t2_2:zG8):St:=⟨[(1,.prw 0 s 35 0),(2,.prw 1 t2 35 0),(15,dI t15)],33,[],[(0,.row (.pr (.int .u8) (.pr (.int .u8) (.pr (.pr (.sl (.int .u16)) YTT1) (.sl .bool)))) 45 s_2),(1,.row (.pr (.int .u8) (.pr (.int .u8) (.pr (.pr (.sl (.int .u16)) YTT1) (.sl .bool)))) 45 t2_2)],2,[],0⟩
@[reducible] def zG9:Type:=Int->Int->Int->List (Int×Int×YTT4×List Bool)->List (Int×Int×YTT4×List Bool)->Option (As [.pr (.int .u8) (.pr (.int .u8) (.pr (.pr (.sl (.int .u16)) YTT1) (.sl .bool)))])
def qcr_ (self1:zG9) (s t2 t15:Int) (s_2 t2_2:zG8):Option (As [.pr (.int .u8) (.pr (.int .u8) (.pr (.pr (.sl (.int .u16)) YTT1) (.sl .bool)))]) :=
 if lt t15 8=true then need (ge t15 0) (need (lt t15 8) (zC (at? s_2 s) fun y=>zC (at? y.2.2.1.2.2.2.2.2.1.2.2 t15) fun z=>zC (qc_ (z.2,())) fun y=>zC (at? s_2 s) fun x=>zC (at? x.2.2.1.2.2.2.2.2.1.2.2 t15) fun z=>self1 s t2 (add .i64 t15 1) (List.set s_2 (zI s) (x.1,x.2.1,(x.2.2.1.1,x.2.2.1.2.1,x.2.2.1.2.2.1,x.2.2.1.2.2.2.1,x.2.2.1.2.2.2.2.1,(x.2.2.1.2.2.2.2.2.1.1,x.2.2.1.2.2.2.2.2.1.2.1,List.set x.2.2.1.2.2.2.2.2.1.2.2 (zI t15) (z.1,y.1)),x.2.2.1.2.2.2.2.2.2),x.2.2.2)) t2_2)) else zC (at? s_2 s) fun y=>zC (at? t2_2 t2) fun x=>zC (at? (List.set t2_2 (zI t2) y) t2) fun y_1=>zC (at? (List.set t2_2 (zI t2) y) t2) fun y=>some (y,())
def qo0_ (j1:zG9) (s:Int×Int×YTT4×List Bool):Option (As [.pr (.int .u8) (.pr (.int .u8) (.pr (.pr (.sl (.int .u16)) YTT1) (.sl .bool)))]) :=
 zC (q2m_ (s.2.2.2,())) fun y=>zC (qc_ (s.2.2.1.1,())) fun y_1=>j1 0 0 0 [(s.1,s.2.1,(y_1.1,s.2.2.1.2),y.1)] [zSl]
def qcj_ (s t2 t15:Int) (s_2 t2_2:zG8):Option (As [.pr (.int .u8) (.pr (.int .u8) (.pr (.pr (.sl (.int .u16)) YTT1) (.sl .bool)))]) :=
 loopF (fun self s=>qcr_ (fun s t2 t15 s_2 t2_2=>self (s,t2,t15,s_2,t2_2)) s.1 s.2.1 s.2.2.1 s.2.2.2.1 s.2.2.2.2) 18446744073709551616 (s,t2,t15,s_2,t2_2)
def qmo_ (x:As [.pr (.int .u8) (.pr (.int .u8) (.pr (.pr (.sl (.int .u16)) YTT1) (.sl .bool)))]):Option (As [.pr (.int .u8) (.pr (.int .u8) (.pr (.pr (.sl (.int .u16)) YTT1) (.sl .bool)))]):=qo0_ qcj_ x.1
abbrev slave_own_P:=zp qsw_ qt1_ 99 qev_
theorem q1jf_ {J w1 a b c d e}:slave_own_P J 122 [w1] (qpl_ a b c d e)=qcr_ (C w1 qpl_) a b c d e:=by kernel_rfl
theorem q1ic_ (J:Orc (As [.pr (.int .u8) (.pr (.int .u8) (.pr (.pr (.sl (.int .u16)) YTT1) (.sl .bool)))])) (x:As [.pr (.int .u8) (.pr (.int .u8) (.pr (.pr (.sl (.int .u16)) YTT1) (.sl .bool)))]):rfn Tryz.prog qsw_ 6 18446744073709551616 (Ev.get qt1_) 99 qev_ J x=qo0_ (C (J 122 []) qpl_) x.1:=by kernel_rfl
abbrev slave_own_J:=zj qsw_ qt1_ 99 qev_
theorem q1jb_:C (slave_own_J 122 []) qpl_=qcj_:=gLC (by decide) (by kernel_rfl) (fun _=>by unfold qcj_; rfl) fun _ _=>q1jf_.trans (by kernel_rfl)
theorem q1mx_ (x:As [.pr (.int .u8) (.pr (.int .u8) (.pr (.pr (.sl (.int .u16)) YTT1) (.sl .bool)))]):evT Tryz.prog qsw_ 6 18446744073709551616 (Ev.get qt1_) 99 qev_ x=qmo_ x:=by
 rw [qb_,q1ic_,q1jb_] <;> rfl
theorem q1l3_:CtOk Tryz.prog (fun _=>True) 99 ⟨qev_,qmo_⟩:=q7_ (q0_ q1h_ (q0_ qcc_ q2_)) q1mx_
end Go.Proofs.Lx
end
