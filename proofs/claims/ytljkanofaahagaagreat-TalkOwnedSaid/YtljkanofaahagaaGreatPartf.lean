/- Proved in the last of these 15 parts (this is part 6): TalkOwned. Conditions: those of the given statement, and no others. -/
import Derived.Test.YtljkanofaahagaaGreatPartd
import Derived.Test.YtljkanofaahagaaGreatParte
import Derived.Test.YtljkanofaahagaaGreatProg
set_option linter.unusedVariables false
set_option linter.unusedSimpArgs false
set_option linter.unusedSectionVars false
open Option renaming bind → zC, none → zH
open Int renaming ofNat → zF, toNat → zI
open List renaming length → zG
open Go.Value renaming slice → zK
noncomputable section
open Go Go.Proofs Ev Sx
set_option maxRecDepth 100000
namespace Go.Proofs.Lx
abbrev q9_:Type:=YTT3×Int×Int×List (Int×List Int)×Int×Int×Int×Int×Int
abbrev TaA2q1:Type:=Int×Int×YTT4×List Bool
@[reducible] def qjn_:Sh:=⟨[.d (.sl (.int .u8))],[],[.sl (.int .u8)],[.d (.int .u32)],[],0,[.int .u32]⟩
def qtw_:Env:=(cts [(298,(⟨qmt_,q11t_⟩:Ct))])
def qsj_:List (Nat×Hint):=[(7,⟨[],[3]⟩),(58,⟨[],[0,3,6,7]⟩)]
def qp4_ (b:List Int) (sum t6 t7:Int):St:=⟨[(0,dL b),(3,d2 sum),(6,dI t6),(7,dI t7)],19,[],[],0,[],0⟩
def qxe_ (sum:Int):St:=⟨[(3,d2 sum)],19,[],[],0,[],0⟩
def qco_ (j2:Int->Option (As [.int .u32])) (self1:List Int->Int->Int->Int->Option (As [.int .u32])) (b:List Int) (sum t6 t7:Int):Option (As [.int .u32]) :=
 if lt t7 t6=true then zC (at? b t7) fun y=>zC (q11t_ (sum,y,())) fun y=>self1 b y.1 t6 (add .i64 t7 1) else j2 sum
def qn2_ (sum:Int):Option (As [.int .u32]) :=
 some (zF (BitVec.toNat { toFin:=⟨4294967295 ^^^ BitVec.toNat { toFin:=⟨zI (sum % 4294967296),BitVec.ofInt._proof_1 (Go.IntKind.bits .u32) sum⟩ },BitVec.xor._proof_1 (BitVec.ofInt (Go.IntKind.bits .u32) (if Go.IntKind.signed .u32=true then -1 else Go.IntKind.max .u32)) (BitVec.ofInt (Go.IntKind.bits .u32) sum)⟩ } % 4294967296),())
def q161_ (j1:List Int->Int->Int->Int->Option (As [.int .u32])) (b:List Int):Option (As [.int .u32]) :=
 j1 b 4294967295 (zF (zG b)) 0
def q17q_:=qn2_
def qh7_ (b:List Int) (sum t6 t7:Int):Option (As [.int .u32]) :=
 loopF (fun self s=>qco_ (q17q_) (fun b sum t6 t7=>self (b,sum,t6,t7)) s.1 s.2.1 s.2.2.1 s.2.2.2) 18446744073709551616 (b,sum,t6,t7)
def qzv_ (x:As [.sl (.int .u8)]):Option (As [.int .u32]):=q161_ qh7_ x.1
abbrev sum_Bytes_P:=zp qtw_ qsj_ 286 qjn_
theorem q1ia_ {J a}:sum_Bytes_P J 7 [] (qxe_ a)=qn2_ a:=by kernel_rfl
theorem q1j5_ {J w1 a b c d}:sum_Bytes_P J 58 [w1] (qp4_ a b c d)=qco_ (C (J 7 []) qxe_) (C w1 qp4_) a b c d:=by kernel_rfl
theorem q1jy_ (J:Orc (As [.int .u32])) (x:As [.sl (.int .u8)]):rfn Tryz.prog qtw_ 6 18446744073709551616 (Ev.get qsj_) 286 qjn_ J x=q161_ (C (J 58 []) qp4_) x.1:=by kernel_rfl
abbrev sum_Bytes_J:=zj qtw_ qsj_ 286 qjn_
theorem q1ls_:C (sum_Bytes_J 7 []) qxe_=q17q_:=gNC (by decide) fun _=>q1ia_
theorem q1lw_:C (sum_Bytes_J 58 []) qp4_=qh7_:=gLC (by decide) (by kernel_rfl) (fun _=>by unfold qh7_; rfl) fun _ _=>q1j5_.trans (by rw [q1ls_] <;> kernel_rfl)
theorem q1ms_ (x:As [.sl (.int .u8)]):evT Tryz.prog qtw_ 6 18446744073709551616 (Ev.get qsj_) 286 qjn_ x=qzv_ x:=by
 rw [qb_,q1jy_,q1lw_] <;> rfl
theorem q1k6_:CtOk Tryz.prog (fun _=>True) 286 ⟨qjn_,qzv_⟩:=q7_ (q0_ q1or_ q2_) q1ms_
@[reducible] def q8e_:Sh:=⟨[.d (.sl (.int .u16))],[],[.sl (.int .u16)],[.d (.sl (.int .u8))],[],0,[.sl (.int .u8)]⟩
def qdt_:Env:=(cts [])
def qdr_:List (Nat×Hint):=[(58,⟨[],[0,3,10,11]⟩)]
def qbo_ (l:List Int) (t10 t11:Int) (b:List Int):St:=⟨[(0,dW l),(3,.row 0),(10,dI t10),(11,dI t11)],36,[],[(0,.row (.int .u8) 5 b)],1,[],0⟩
@[reducible] def zF0:Type:=List Int->Int->Int->List Int->Option (As [.sl (.int .u8)])
def q7c_ (self1:zF0) (l:List Int) (t10 t11:Int) (b:List Int):Option (As [.sl (.int .u8)]) :=
 if lt t11 t10=true then zC (at? l t11) fun y=>zC (at? l t11) fun y_1=>zC (at? b (mul .i64 2 t11)) fun x=>zC (at? b (mul .i64 2 t11)) fun x=>zC (at? (List.set b (zI (mul .i64 2 t11)) (cvt .u8 (Sx.shr .u16 y 8))) (add .i64 (mul .i64 2 t11) 1)) fun x=>zC (at? (List.set b (zI (mul .i64 2 t11)) (cvt .u8 (Sx.shr .u16 y 8))) (add .i64 (mul .i64 2 t11) 1)) fun x=>self1 l t10 (add .i64 t11 1) (List.set (List.set b (zI (mul .i64 2 t11)) (cvt .u8 (Sx.shr .u16 y 8))) (zI (add .i64 (mul .i64 2 t11) 1)) (cvt .u8 y_1)) else some (b,())
def qbl_ (j1:zF0) (l:List Int):Option (As [.sl (.int .u8)]) :=
 need (ge (mul .i64 2 (zF (zG l))) 0) (need (Ev.capOk (mul .i64 2 (zF (zG l))) (mul .i64 2 (zF (zG l)))) (need (small (zI (mul .i64 2 (zF (zG l))))) (j1 l (zF (zG l)) 0 (List.replicate (zI (mul .i64 2 (zF (zG l)))) 0))))
def q7d_ (l:List Int) (t10 t11:Int) (b:List Int):Option (As [.sl (.int .u8)]) :=
 loopF (fun self s=>q7c_ (fun l t10 t11 b=>self (l,t10,t11,b)) s.1 s.2.1 s.2.2.1 s.2.2.2) 18446744073709551616 (l,t10,t11,b)
def qhk_ (x:As [.sl (.int .u16)]):Option (As [.sl (.int .u8)]):=qbl_ q7d_ x.1
abbrev words_PackRegs_P:=zp qdt_ qdr_ 287 q8e_
theorem q187_ {J w1 a b c d}:words_PackRegs_P J 58 [w1] (qbo_ a b c d)=q7c_ (C w1 qbo_) a b c d:=by kernel_rfl
theorem q188_ (J:Orc (As [.sl (.int .u8)])) (x:As [.sl (.int .u16)]):rfn Tryz.prog qdt_ 6 18446744073709551616 (Ev.get qdr_) 287 q8e_ J x=qbl_ (C (J 58 []) qbo_) x.1:=by kernel_rfl
abbrev words_PackRegs_J:=zj qdt_ qdr_ 287 q8e_
theorem q184_:C (words_PackRegs_J 58 []) qbo_=q7d_:=gLC (by decide) (by kernel_rfl) (fun _=>by unfold q7d_; rfl) fun _ _=>q187_.trans (by kernel_rfl)
theorem q19j_ (x:As [.sl (.int .u16)]):evT Tryz.prog qdt_ 6 18446744073709551616 (Ev.get qdr_) 287 q8e_ x=qhk_ x:=by
 rw [qb_,q188_,q184_] <;> rfl
theorem q18b_:CtOk Tryz.prog (fun _=>True) 287 ⟨q8e_,qhk_⟩:=q7_ q2_ q19j_
@[reducible] def q18j_:Sh:=⟨[.d (.sl (.int .u16))],[],[.sl (.int .u16)],[.d (.int .u32)],[],0,[.int .u32]⟩
def qyo_ (l:List Int):Option (As [.int .u32]) :=
 zC (qhk_ (l,())) fun y=>zC (qzv_ (y.1,())) fun y=>some (y.1,())
def q102_ (x:As [.sl (.int .u16)]):Option (As [.int .u32]):=qyo_ x.1
theorem q1mc_:CtOk Tryz.prog (fun _=>True) 268 ⟨q18j_,q102_⟩:=ctn (q0_ q1k6_ (q0_ q18b_ q2_)) 6 fun J x=>by kernel_rfl
@[reducible] def qb4_:Sh:=⟨[.d (.sl YTT8)],[],[.sl YTT8],[.d (.int .u32)],[],0,[.int .u32]⟩
def qsf_:Env:=(cts [(267,(⟨q5x_,q6k_⟩:Ct)),(268,(⟨q18j_,q102_⟩:Ct))])
def qu6_:List (Nat×Hint):=[(7,⟨[],[3]⟩),(58,⟨[.row 3 25],[3,6,7,8]⟩)]
@[reducible] def zF1:Type:=List (Int×List Int)
def qos_ (t6:zF1) (t7 t8:Int) (all:List Int):St:=⟨[(3,.row 0),(6,.d (.sl YTT8) t6),(7,dI t7),(8,dI t8)],19,[],[(0,.row (.int .u16) 25 all)],1,[],0⟩
def qxt_ (all:List Int):St:=⟨[(3,.row 0)],19,[],[(0,.row (.int .u16) 25 all)],1,[],0⟩
@[reducible] def zF2:Type:=List (Int×List Int)->Int->Int->List Int->Option (As [.int .u32])
def qbq_ (j2:List Int->Option (As [.int .u32])) (self1:zF2) (t6:zF1) (t7 t8:Int) (all:List Int):Option (As [.int .u32]) :=
 if lt t8 t7=true then zC (at? t6 t8) fun y=>zC (q6k_ (y,())) fun y=>need (small (zG all + zG y.1)) (self1 t6 t7 (add .i64 t8 1) (all++y.1)) else j2 all
def qof_ (all:List Int):Option (As [.int .u32]) :=
 zC (q102_ (all,())) fun y=>some (y.1,())
def q15m_ (j1:zF2) (l:zF1):Option (As [.int .u32]) :=
 j1 l (zF (zG l)) 0 []
def qxp_:=qof_
def qgw_ (t6:zF1) (t7 t8:Int) (all:List Int):Option (As [.int .u32]) :=
 loopF (fun self s=>qbq_ (qxp_) (fun t6 t7 t8 all=>self (t6,t7,t8,all)) s.1 s.2.1 s.2.2.1 s.2.2.2) 18446744073709551616 (t6,t7,t8,all)
def qgo_ (x:As [.sl YTT8]):Option (As [.int .u32]):=q15m_ qgw_ x.1
abbrev stage_Sum_P:=zp qsf_ qu6_ 242 qb4_
theorem q1i5_ {J a}:stage_Sum_P J 7 [] (qxt_ a)=qof_ a:=by kernel_rfl
theorem q1jj_ {J w1 a b c d}:stage_Sum_P J 58 [w1] (qos_ a b c d)=qbq_ (C (J 7 []) qxt_) (C w1 qos_) a b c d:=by kernel_rfl
theorem q1jz_ (J:Orc (As [.int .u32])) (x:As [.sl YTT8]):rfn Tryz.prog qsf_ 6 18446744073709551616 (Ev.get qu6_) 242 qb4_ J x=q15m_ (C (J 58 []) qos_) x.1:=by kernel_rfl
abbrev stage_Sum_J:=zj qsf_ qu6_ 242 qb4_
theorem q1j6_:C (stage_Sum_J 7 []) qxt_=qxp_:=gNC (by decide) fun _=>q1i5_
theorem q1jo_:C (stage_Sum_J 58 []) qos_=qgw_:=gLC (by decide) (by kernel_rfl) (fun _=>by unfold qgw_; rfl) fun _ _=>q1jj_.trans (by rw [q1j6_] <;> kernel_rfl)
theorem q1ml_ (x:As [.sl YTT8]):evT Tryz.prog qsf_ 6 18446744073709551616 (Ev.get qu6_) 242 qb4_ x=qgo_ x:=by
 rw [qb_,q1jz_,q1jo_] <;> rfl
theorem q15k_:CtOk Tryz.prog (fun _=>True) 242 ⟨qb4_,qgo_⟩:=q7_ (q0_ qoy_ (q0_ q1mc_ q2_)) q1ml_
@[reducible] def q148_:Sh:=⟨[.d (.int .u32)],[],[.int .u32],[.d (.int .u16),.d (.int .u16)],[],0,[.int .u16,.int .u16]⟩
def qrn_ (x:Int):Option (As [.int .u16,.int .u16]) :=
 some (cvt .u16 (Sx.shr .u32 x 16),cvt .u16 x,())
def q80_ (x:As [.int .u32]):Option (As [.int .u16,.int .u16]):=qrn_ x.1
theorem qqo_:CtOk Tryz.prog (fun _=>True) 269 ⟨q148_,q80_⟩:=ctn q2_ 6 fun J x=>by kernel_rfl
@[reducible] def q13q_:Sh:=⟨[.d (.pr (.int .u16) YTT11)],[],[.pr (.int .u16) YTT11],[.d (.sl (.int .u16))],[],0,[.sl (.int .u16)]⟩
def qs8_ (c:Int×Int×Int×Int×Int):Option (As [.sl (.int .u16)]) :=
 zC (q80_ (c.2.2.1,())) fun y=>zC (q80_ (c.2.2.2.2,())) fun y_1=>some ([c.1,cvt .u16 c.2.1,y.1,y.2.1,c.2.2.2.1,y_1.1,y_1.2.1,0],())
def qtm_ (x:As [.pr (.int .u16) YTT11]):Option (As [.sl (.int .u16)]):=qs8_ x.1
theorem q1cx_:CtOk Tryz.prog (fun _=>True) 243 ⟨q13q_,qtm_⟩:=ctn (q0_ qqo_ q2_) 6 fun J x=>by kernel_rfl
@[reducible] def qb6_:Sh:=⟨[.d (.pr (.pr (.int .u8) YTT0) YTT2),.d (.int .u8)],[],[.pr (.pr (.int .u8) YTT0) YTT2,.int .u8],[.d (.pr (.int .u8) YTT7)],[],0,[.pr (.int .u8) YTT7]⟩
def qt5_:Env:=(cts [(242,(⟨qb4_,qgo_⟩:Ct)),(243,(⟨q13q_,qtm_⟩:Ct))])
def qtj_:List (Nat×Hint):=[(7,⟨[],[4,5]⟩)]
@[reducible] def zF3:Type:=Int×Int×Int×Int×Unit×Unit
def qxm_ (t4:zF3) (c:Int×Int×Int×Int×Int):St:=⟨[(4,.pb 0 0),(5,.pb 1 0)],26,[],[(0,.box 27 [d8 t4.1,d6 t4.2.1,d6 t4.2.2.1,d6 t4.2.2.2.1,.k (zK zH 0 0),.k (zK zH 0 0)]),(1,.box 104 [d6 c.1,d8 c.2.1,d2 c.2.2.1,d6 c.2.2.2.1,d2 c.2.2.2.2])],2,[],0⟩
def qpu_ (t4:zF3) (c:Int×Int×Int×Int×Int):Option (As [.pr (.int .u8) YTT7]) :=
 zC (qtm_ (c,())) fun y=>some ((23,256,8,272,y.1,[]),())
def qmz_ (j1:Int×Int×Int×Int×Unit×Unit->Int×Int×Int×Int×Int->Option (As [.pr (.int .u8) YTT7])) (t:q9_) (v:Int):Option (As [.pr (.int .u8) YTT7]) :=
 if eqi v 2=true then zC (qgo_ (t.2.2.2.1,())) fun y=>j1 (0,0,0,0,(),()) (t.2.1,v,t.2.2.1,cvt .u16 (zF (zG t.2.2.2.1)),y.1) else j1 (0,0,0,0,(),()) (t.2.1,v,t.2.2.1,0,0)
def qpq_:=qpu_
def qav_ (x:As [.pr (.pr (.int .u8) YTT0) YTT2,.int .u8]):Option (As [.pr (.int .u8) YTT7]):=qmz_ qpq_ x.1 x.2.1
abbrev talk_verb_P:=zp qt5_ qtj_ 204 qb6_
theorem q1jc_ {J a b}:talk_verb_P J 7 [] (qxm_ a b)=qpu_ a b:=by kernel_rfl
theorem q1ky_ (J:Orc (As [.pr (.int .u8) YTT7])) (x:As [.pr (.pr (.int .u8) YTT0) YTT2,.int .u8]):rfn Tryz.prog qt5_ 6 18446744073709551616 (Ev.get qtj_) 204 qb6_ J x=qmz_ (C (J 7 []) qxm_) x.1 x.2.1:=by kernel_rfl
abbrev talk_verb_J:=zj qt5_ qtj_ 204 qb6_
theorem q1ja_:C (talk_verb_J 7 []) qxm_=qpq_:=gNC (by decide) fun _=>q1jc_
theorem q1nq_ (x:As [.pr (.pr (.int .u8) YTT0) YTT2,.int .u8]):evT Tryz.prog qt5_ 6 18446744073709551616 (Ev.get qtj_) 204 qb6_ x=qav_ x:=by
 rw [qb_,q1ky_,q1ja_] <;> rfl
theorem q15r_:CtOk Tryz.prog (fun _=>True) 204 ⟨qb6_,qav_⟩:=q7_ (q0_ q15k_ (q0_ q1cx_ q2_)) q1nq_
@[reducible] def zF4:Type:=Int×Int×Int×Int×Bool×YTT18×Int×Int×Int
@[reducible] def q11d_:Sh:=⟨[.d (.pr (.int .u8) YTT0)],[],[.pr (.int .u8) YTT0],[.d (.pr (.int .u8) YTT0)],[],0,[.pr (.int .u8) YTT0]⟩
def q1ib_ (p:zF4):Option (As [.pr (.int .u8) YTT0]) :=
 some ((p.1,p.2.1,p.2.2.1,p.2.2.2.1,false,(0,0,0,0,[],[]),p.2.2.2.2.2.2.1,0,0),())
def qd1_ (x:As [.pr (.int .u8) YTT0]):Option (As [.pr (.int .u8) YTT0]):=q1ib_ x.1
theorem qna_:CtOk Tryz.prog (fun _=>True) 64 ⟨q11d_,qd1_⟩:=ctn q2_ 6 fun J x=>by kernel_rfl
@[reducible] def qpy_:Sh:=⟨[.d (.pr (.pr (.int .u8) YTT0) YTT2),.d (.int .u8)],[],[.pr (.pr (.int .u8) YTT0) YTT2,.int .u8],[.d (.pr (.pr (.int .u8) YTT0) YTT2)],[],0,[.pr (.pr (.int .u8) YTT0) YTT2]⟩
def q1o1_ (t:q9_) (said:Int):Option (As [.pr (.pr (.int .u8) YTT0) YTT2]) :=
 zC (qd1_ (t.1,())) fun y=>some ((y.1,t.2.1,t.2.2.1,t.2.2.2.1,t.2.2.2.2.1,0,t.2.2.2.2.2.2.1,t.2.2.2.2.2.2.2.1,said),())
def q2j_ (x:As [.pr (.pr (.int .u8) YTT0) YTT2,.int .u8]):Option (As [.pr (.pr (.int .u8) YTT0) YTT2]):=q1o1_ x.1 x.2.1
theorem q6b_:CtOk Tryz.prog (fun _=>True) 56 ⟨qpy_,q2j_⟩:=ctn (q0_ qna_ q2_) 6 fun J x=>by kernel_rfl
@[reducible] def qn0_:Sh:=⟨[.d (.int .u16),.d (.int .u16)],[],[.int .u16,.int .u16],[.d (.int .u32)],[],0,[.int .u32]⟩
def qw6_ (high low:Int):Option (As [.int .u32]) :=
 some (Sx.bor .u32 (Sx.shl .u32 (cvt .u32 high) 16) (cvt .u32 low),())
def q31_ (x:As [.int .u16,.int .u16]):Option (As [.int .u32]):=qw6_ x.1 x.2.1
theorem qvt_:CtOk Tryz.prog (fun _=>True) 270 ⟨qn0_,q31_⟩:=ctn q2_ 6 fun J x=>by kernel_rfl
@[reducible] def q7r_:Sh:=⟨[.d (.pr (.int .u8) YTT5)],[],[.pr (.int .u8) YTT5],[.d (.pr (.int .u16) YTT21),.d (.bool)],[],0,[.pr (.int .u16) YTT21,.bool]⟩
def qts_:Env:=(cts [(270,(⟨qn0_,q31_⟩:Ct))])
def qsb_:List (Nat×Hint):=[(6,⟨[],[1,2,13]⟩)]
@[reducible] def zF5:Type:=Int×Int×List Bool×List Int×Int×Int
@[reducible] def zF6:Type:=Int×Int×Int×Int
def qxl_ (t13:Bool) (r:zF5) (t2:zF6):St:=⟨[(1,.pb 0 0),(2,.pb 1 0),(13,dB t13)],38,[],[(0,.box 109 [d8 r.1,d8 r.2.1,.d (.sl .bool) r.2.2.1,dW r.2.2.2.1,d6 r.2.2.2.2.1,d6 r.2.2.2.2.2]),(1,.box 301 [d6 t2.1,d6 t2.2.1,d2 t2.2.2.1,d2 t2.2.2.2])],2,[],0⟩
def q17m_ (t13:Bool) (r:zF5) (t2:zF6):Option (As [.pr (.int .u16) YTT21,.bool]) :=
 if t13=true then some ((0,0,0,0),false,()) else zC (at? r.2.2.2.1 0) fun y=>zC (at? r.2.2.2.1 1) fun y_1=>zC (at? r.2.2.2.1 2) fun y_2=>zC (at? r.2.2.2.1 3) fun y_3=>zC (at? r.2.2.2.1 4) fun y_4=>zC (at? r.2.2.2.1 5) fun y_5=>zC (q31_ (y_2,y_3,())) fun y_6=>zC (q31_ (y_4,y_5,())) fun y_7=>some ((y,y_1,y_6.1,y_7.1),true,())
def qom_ (j1:Bool->Int×Int×List Bool×List Int×Int×Int->Int×Int×Int×Int->Option (As [.pr (.int .u16) YTT21,.bool])) (r:zF5):Option (As [.pr (.int .u16) YTT21,.bool]) :=
 if nei r.2.1 0=true then j1 true r (0,0,0,0) else j1 (nei (zF (zG r.2.2.2.1)) 8) r (0,0,0,0)
def qyh_:=q17m_
def q6r_ (x:As [.pr (.int .u8) YTT5]):Option (As [.pr (.int .u16) YTT21,.bool]):=qom_ qyh_ x.1
abbrev talk_read_P:=zp qts_ qsb_ 244 q7r_
theorem q1iw_ {J a b c}:talk_read_P J 6 [] (qxl_ a b c)=q17m_ a b c:=by kernel_rfl
theorem q1j8_ (J:Orc (As [.pr (.int .u16) YTT21,.bool])) (x:As [.pr (.int .u8) YTT5]):rfn Tryz.prog qts_ 6 18446744073709551616 (Ev.get qsb_) 244 q7r_ J x=qom_ (C (J 6 []) qxl_) x.1:=by kernel_rfl
abbrev talk_read_J:=zj qts_ qsb_ 244 q7r_
theorem q1l1_:C (talk_read_J 6 []) qxl_=qyh_:=gNC (by decide) fun _=>q1iw_
theorem q1o6_ (x:As [.pr (.int .u8) YTT5]):evT Tryz.prog qts_ 6 18446744073709551616 (Ev.get qsb_) 244 q7r_ x=q6r_ x:=by
 rw [qb_,q1j8_,q1l1_] <;> rfl
theorem qgm_:CtOk Tryz.prog (fun _=>True) 244 ⟨q7r_,q6r_⟩:=q7_ (q0_ qvt_ q2_) q1o6_
@[reducible] def qbg_:Sh:=⟨[.d (.pr (.int .u16) YTT21),.d (.pr (.pr (.int .u8) YTT0) YTT2)],[],[.pr (.int .u16) YTT21,.pr (.pr (.int .u8) YTT0) YTT2],[.d (.bool)],[],0,[.bool]⟩
def qgc_ (s:zF6) (t:q9_):Option (As [.bool]) :=
 if eqi s.1 t.2.1=true then some (eqi s.2.2.1 t.2.2.1,()) else some (false,())
def q19_ (x:As [.pr (.int .u16) YTT21,.pr (.pr (.int .u8) YTT0) YTT2]):Option (As [.bool]):=qgc_ x.1 x.2.1
theorem qau_:CtOk Tryz.prog (fun _=>True) 245 ⟨qbg_,q19_⟩:=ctn q2_ 6 fun J x=>by kernel_rfl
@[reducible] def q1fb_:Sh:=⟨[.d (.pr (.pr (.int .u8) YTT0) YTT2),.d (.int .u8)],[],[.pr (.pr (.int .u8) YTT0) YTT2,.int .u8],[.d (.pr (.pr (.int .u8) YTT0) YTT2)],[],0,[.pr (.pr (.int .u8) YTT0) YTT2]⟩
def q1ow_ (t:q9_) (at':Int):Option (As [.pr (.pr (.int .u8) YTT0) YTT2]) :=
 some ((t.1,t.2.1,t.2.2.1,t.2.2.2.1,t.2.2.2.2.1,at',t.2.2.2.2.2.2),())
def q5s_ (x:As [.pr (.pr (.int .u8) YTT0) YTT2,.int .u8]):Option (As [.pr (.pr (.int .u8) YTT0) YTT2]):=q1ow_ x.1 x.2.1
theorem qir_:CtOk Tryz.prog (fun _=>True) 249 ⟨q1fb_,q5s_⟩:=ctn q2_ 6 fun J x=>by kernel_rfl
@[reducible] def q10z_:Sh:=⟨[.d (.pr (.pr (.int .u8) YTT0) YTT2)],[],[.pr (.pr (.int .u8) YTT0) YTT2],[.d (.pr (.pr (.int .u8) YTT0) YTT2)],[],0,[.pr (.pr (.int .u8) YTT0) YTT2]⟩
def qxg_ (t:q9_):Option (As [.pr (.pr (.int .u8) YTT0) YTT2]) :=
 if ge t.2.2.2.2.2.2.1 (zF (zG t.2.2.2.1))=true then zC (q5s_ (t,4,())) fun y=>some (y.1,()) else zC (q5s_ (t,2,())) fun y=>some (y.1,())
def qcy_ (x:As [.pr (.pr (.int .u8) YTT0) YTT2]):Option (As [.pr (.pr (.int .u8) YTT0) YTT2]):=qxg_ x.1
theorem q15e_:CtOk Tryz.prog (fun _=>True) 246 ⟨q10z_,qcy_⟩:=ctn (q0_ qir_ q2_) 6 fun J x=>by kernel_rfl
@[reducible] def qpr_:Sh:=⟨[.d (.pr (.pr (.int .u8) YTT0) YTT2),.d (.int .u8)],[],[.pr (.pr (.int .u8) YTT0) YTT2,.int .u8],[.d (.pr (.pr (.int .u8) YTT0) YTT2)],[],0,[.pr (.pr (.int .u8) YTT0) YTT2]⟩
def qv6_ (t:q9_) (at':Int):Option (As [.pr (.pr (.int .u8) YTT0) YTT2]) :=
 if gt (add .i64 t.2.2.2.2.2.2.2.1 1) 8=true then zC (q2j_ ((t.1,t.2.1,t.2.2.1,t.2.2.2.1,t.2.2.2.2.1,t.2.2.2.2.2.1,t.2.2.2.2.2.2.1,add .i64 t.2.2.2.2.2.2.2.1 1,t.2.2.2.2.2.2.2.2),2,())) fun y=>some (y.1,()) else zC (q5s_ ((t.1,t.2.1,t.2.2.1,t.2.2.2.1,t.2.2.2.2.1,t.2.2.2.2.2.1,t.2.2.2.2.2.2.1,add .i64 t.2.2.2.2.2.2.2.1 1,t.2.2.2.2.2.2.2.2),at',())) fun y=>some (y.1,())
def q5e_ (x:As [.pr (.pr (.int .u8) YTT0) YTT2,.int .u8]):Option (As [.pr (.pr (.int .u8) YTT0) YTT2]):=qv6_ x.1 x.2.1
theorem qv5_:CtOk Tryz.prog (fun _=>True) 247 ⟨qpr_,q5e_⟩:=ctn (q0_ q6b_ (q0_ qir_ q2_)) 6 fun J x=>by kernel_rfl
@[reducible] def q63_:Sh:=⟨[.d (.pr (.pr (.int .u8) YTT0) YTT2),.d (.pr (.int .u8) YTT5)],[],[.pr (.pr (.int .u8) YTT0) YTT2,.pr (.int .u8) YTT5],[.d (.pr (.pr (.int .u8) YTT0) YTT2)],[],0,[.pr (.pr (.int .u8) YTT0) YTT2]⟩
def qhf_:Env:=(cts [(56,(⟨qpy_,q2j_⟩:Ct)),(244,(⟨q7r_,q6r_⟩:Ct)),(245,(⟨qbg_,q19_⟩:Ct)),(246,(⟨q10z_,qcy_⟩:Ct)),(247,(⟨qpr_,q5e_⟩:Ct))])
def qi8_:List (Nat×Hint):=[(115,⟨[],[2,4,5,17,33,34,35]⟩),(463,⟨[],[2,4,28]⟩)]
@[reducible] def zF7:Type:=YTT10×Int×Int×Unit×Int×Int×Int×Int×Int
def qo5_ (t17:Bool) (t:q9_) (t4:zF7) (s:zF6):St:=⟨[(2,.pb 0 0),(4,.pb 1 0),(5,.pb 2 0),(17,dB t17)],42,[],[(0,.box 33 (talkC t [])),(1,.box 33 [d8 t4.1.1,d8 t4.1.2.1,dI t4.1.2.2.1,dI t4.1.2.2.2.1,dB t4.1.2.2.2.2.1,d8 t4.1.2.2.2.2.2.1.1,d6 t4.1.2.2.2.2.2.1.2.1,d6 t4.1.2.2.2.2.2.1.2.2.1,d6 t4.1.2.2.2.2.2.1.2.2.2.1,.k (zK zH 0 0),.k (zK zH 0 0),d6 t4.1.2.2.2.2.2.2.1,dI t4.1.2.2.2.2.2.2.2.1,dI t4.1.2.2.2.2.2.2.2.2,d6 t4.2.1,d2 t4.2.2.1,.k (zK zH 0 0),d8 t4.2.2.2.2.1,d8 t4.2.2.2.2.2.1,dI t4.2.2.2.2.2.2.1,dI t4.2.2.2.2.2.2.2.1,d8 t4.2.2.2.2.2.2.2.2]),(2,.box 301 [d6 s.1,d6 s.2.1,d2 s.2.2.1,d2 s.2.2.2])],3,[],0⟩
def qq9_ (t28:Bool) (t:q9_) (t4:zF7):St:=⟨[(2,.pb 0 0),(4,.pb 1 0),(28,dB t28)],42,[],[(0,.box 33 (talkC t [])),(1,.box 33 [d8 t4.1.1,d8 t4.1.2.1,dI t4.1.2.2.1,dI t4.1.2.2.2.1,dB t4.1.2.2.2.2.1,d8 t4.1.2.2.2.2.2.1.1,d6 t4.1.2.2.2.2.2.1.2.1,d6 t4.1.2.2.2.2.2.1.2.2.1,d6 t4.1.2.2.2.2.2.1.2.2.2.1,.k (zK zH 0 0),.k (zK zH 0 0),d6 t4.1.2.2.2.2.2.2.1,dI t4.1.2.2.2.2.2.2.2.1,dI t4.1.2.2.2.2.2.2.2.2,d6 t4.2.1,d2 t4.2.2.1,.k (zK zH 0 0),d8 t4.2.2.2.2.1,d8 t4.2.2.2.2.2.1,dI t4.2.2.2.2.2.2.1,dI t4.2.2.2.2.2.2.2.1,d8 t4.2.2.2.2.2.2.2.2])],2,[],0⟩
def qff_ (j2:Bool->q9_->YTT10×Int×Int×Unit×Int×Int×Int×Int×Int->Option (As [.pr (.pr (.int .u8) YTT0) YTT2])) (t17:Bool) (t:q9_) (t4:zF7) (s:zF6):Option (As [.pr (.pr (.int .u8) YTT0) YTT2]) :=
 if t17=true then zC (q2j_ (t,1,())) fun y=>some (y.1,()) else zC (q19_ (s,t,())) fun y=>if y.1=true then j2 (eqi s.2.1 1) t ((t4.1.1,t4.1.2.1,t4.1.2.2.1,t4.1.2.2.2.1,t4.1.2.2.2.2.1,(t4.1.2.2.2.2.2.1.1,t4.1.2.2.2.2.2.1.2.1,t4.1.2.2.2.2.2.1.2.2.1,t4.1.2.2.2.2.2.1.2.2.2.1,(),()),t4.1.2.2.2.2.2.2),t4.2) else j2 false t ((t4.1.1,t4.1.2.1,t4.1.2.2.1,t4.1.2.2.2.1,t4.1.2.2.2.2.1,(t4.1.2.2.2.2.2.1.1,t4.1.2.2.2.2.2.1.2.1,t4.1.2.2.2.2.2.1.2.2.1,t4.1.2.2.2.2.2.1.2.2.2.1,(),()),t4.1.2.2.2.2.2.2),t4.2)
def q101_ (t28:Bool) (t:q9_) (t4:zF7):Option (As [.pr (.pr (.int .u8) YTT0) YTT2]) :=
 if t28=true then zC (qcy_ ((t.1,t.2.1,t.2.2.1,t.2.2.2.1,t.2.2.2.2.1,t.2.2.2.2.2.1,0,t.2.2.2.2.2.2.2),())) fun y=>some (y.1,()) else zC (q5e_ (t,1,())) fun y=>some (y.1,())
def qfo_ (j1:Bool->q9_->YTT10×Int×Int×Unit×Int×Int×Int×Int×Int->Int×Int×Int×Int->Option (As [.pr (.pr (.int .u8) YTT0) YTT2])) (t:q9_) (r:zF5):Option (As [.pr (.pr (.int .u8) YTT0) YTT2]) :=
 zC (q6r_ (r,())) fun y=>if (!y.2.1)=true then zC (q2j_ (t,2,())) fun y=>some (y.1,()) else zC (q19_ (y.1,t,())) fun y_1=>if y_1.1=true then j1 (eqi y.1.2.1 2) t ((0,0,0,0,false,(0,0,0,0,(),()),0,0,0),0,0,(),0,0,0,0,0) y.1 else j1 false t ((0,0,0,0,false,(0,0,0,0,(),()),0,0,0),0,0,(),0,0,0,0,0) y.1
def qad_:=q101_
def q56_:=qff_ (qad_)
def qbs_ (x:As [.pr (.pr (.int .u8) YTT0) YTT2,.pr (.int .u8) YTT5]):Option (As [.pr (.pr (.int .u8) YTT0) YTT2]):=qfo_ q56_ x.1 x.2.1
abbrev talk_claimed_P:=zp qhf_ qi8_ 205 q63_
theorem q1bb_ {J a b c}:talk_claimed_P J 463 [] (qq9_ a b c)=q101_ a b c:=by kernel_rfl
theorem q1bi_ {J a b c d}:talk_claimed_P J 115 [] (qo5_ a b c d)=qff_ (C (J 463 []) qq9_) a b c d:=by kernel_rfl
theorem q1b7_ (J:Orc (As [.pr (.pr (.int .u8) YTT0) YTT2])) (x:As [.pr (.pr (.int .u8) YTT0) YTT2,.pr (.int .u8) YTT5]):rfn Tryz.prog qhf_ 6 18446744073709551616 (Ev.get qi8_) 205 q63_ J x=qfo_ (C (J 115 []) qo5_) x.1 x.2.1:=by kernel_rfl
abbrev talk_claimed_J:=zj qhf_ qi8_ 205 q63_
theorem q1bc_:C (talk_claimed_J 463 []) qq9_=qad_:=gNC (by decide) fun _=>q1bb_
theorem q1ak_:C (talk_claimed_J 115 []) qo5_=q56_:=gNC (by decide) fun _=>q1bi_.trans (by rw [q1bc_] <;> kernel_rfl)
theorem q1dr_ (x:As [.pr (.pr (.int .u8) YTT0) YTT2,.pr (.int .u8) YTT5]):evT Tryz.prog qhf_ 6 18446744073709551616 (Ev.get qi8_) 205 q63_ x=qbs_ x:=by
 rw [qb_,q1b7_,q1ak_] <;> rfl
theorem q10f_:CtOk Tryz.prog (fun _=>True) 205 ⟨q63_,qbs_⟩:=q7_ (q0_ q6b_ (q0_ qgm_ (q0_ qau_ (q0_ q15e_ (q0_ qv5_ q2_))))) q1dr_
@[reducible] def qqt_:Sh:=⟨[.d (.int .i64)],[],[.int .i64],[.d (.bool)],[],0,[.bool]⟩
def qp6_ (n:Int):Option (As [.bool]) :=
 if ge n 0=true then some (lt n 8,()) else some (false,())
def q8s_ (x:As [.int .i64]):Option (As [.bool]):=qp6_ x.1
theorem qn8_:CtOk Tryz.prog (fun _=>True) 283 ⟨qqt_,q8s_⟩:=ctn q2_ 6 fun J x=>by kernel_rfl
@[reducible] def q11v_:Sh:=⟨[.d (.int .u16),.d (.int .u32),.d (.int .i64),.d YTT8],[],[.int .u16,.int .u32,.int .i64,.pr (.int .i64) (.sl (.int .u16))],[.d (.sl (.int .u16))],[],0,[.sl (.int .u16)]⟩
def qob_ (owner tx n:Int) (x:Int×List Int):Option (As [.sl (.int .u16)]) :=
 zC (q80_ (tx,())) fun y=>need (small (0 + Nat.succ (Nat.succ (Nat.succ (Nat.succ 0))))) (zC (q6k_ (x,())) fun y_1=>need (small (Nat.succ (Nat.succ (Nat.succ (Nat.succ 0))) + zG y_1.1)) (some (owner::y.1::y.2.1::cvt .u16 n::y_1.1,())))
def qgi_ (x:As [.int .u16,.int .u32,.int .i64,.pr (.int .i64) (.sl (.int .u16))]):Option (As [.sl (.int .u16)]):=qob_ x.1 x.2.1 x.2.2.1 x.2.2.2.1
theorem qzx_:CtOk Tryz.prog (fun _=>True) 284 ⟨q11v_,qgi_⟩:=ctn (q0_ qoy_ (q0_ qqo_ q2_)) 6 fun J x=>by kernel_rfl
@[reducible] def q13w_:Sh:=⟨[.d (.int .u16),.d (.int .u32),.d (.int .i64),.d YTT8],[],[.int .u16,.int .u32,.int .i64,.pr (.int .i64) (.sl (.int .u16))],[.d (.sl (.int .u16)),.d (.int .i64)],[],0,[.sl (.int .u16),.int .i64]⟩
def qr2_ (owner tx n:Int) (x:Int×List Int):Option (As [.sl (.int .u16),.int .i64]) :=
 zC (q8s_ (n,())) fun y=>if (!y.1)=true then some ([],2,()) else zC (q3t_ (x,())) fun y=>if (!y.1)=true then some ([],20,()) else zC (qgi_ (owner,tx,n,x,())) fun y=>some (y.1,0,())
def qse_ (x:As [.int .u16,.int .u32,.int .i64,.pr (.int .i64) (.sl (.int .u16))]):Option (As [.sl (.int .u16),.int .i64]):=qr2_ x.1 x.2.1 x.2.2.1 x.2.2.2.1
theorem q1ez_:CtOk Tryz.prog (fun _=>True) 271 ⟨q13w_,qse_⟩:=ctn (q0_ q8k_ (q0_ qn8_ (q0_ qzx_ q2_))) 6 fun J x=>by kernel_rfl
@[reducible] def qcq_:Sh:=⟨[.d (.pr (.pr (.int .u8) YTT0) YTT2)],[],[.pr (.pr (.int .u8) YTT0) YTT2],[.d (.sl (.int .u16)),.d (.bool)],[],0,[.sl (.int .u16),.bool]⟩
def qpg_:Env:=(cts [(271,(⟨q13w_,qse_⟩:Ct))])
def qnj_:List (Nat×Hint):=[(6,⟨[],[1,16]⟩)]
def qwa_ (t16:Bool) (t:q9_):St:=⟨[(1,.pb 0 0),(16,dB t16)],36,[],[(0,.box 33 (talkC t []))],1,[],0⟩
def qjw_ (t16:Bool) (t:q9_):Option (As [.sl (.int .u16),.bool]) :=
 if t16=true then some ([],false,()) else zC (at? t.2.2.2.1 t.2.2.2.2.2.2.1) fun y=>zC (qse_ (t.2.1,t.2.2.1,t.2.2.2.2.2.2.1,y,())) fun y=>some (y.1,eqi y.2.1 0,())
def qkz_ (j1:Bool->q9_->Option (As [.sl (.int .u16),.bool])) (t:q9_):Option (As [.sl (.int .u16),.bool]) :=
 if lt t.2.2.2.2.2.2.1 0=true then j1 true t else j1 (ge t.2.2.2.2.2.2.1 (zF (zG t.2.2.2.1))) t
def qv8_:=qjw_
def qiv_ (x:As [.pr (.pr (.int .u8) YTT0) YTT2]):Option (As [.sl (.int .u16),.bool]):=qkz_ qv8_ x.1
abbrev talk_block_P:=zp qpg_ qnj_ 248 qcq_
theorem q1gl_ {J a b}:talk_block_P J 6 [] (qwa_ a b)=qjw_ a b:=by kernel_rfl
theorem q1gp_ (J:Orc (As [.sl (.int .u16),.bool])) (x:As [.pr (.pr (.int .u8) YTT0) YTT2]):rfn Tryz.prog qpg_ 6 18446744073709551616 (Ev.get qnj_) 248 qcq_ J x=qkz_ (C (J 6 []) qwa_) x.1:=by kernel_rfl
abbrev talk_block_J:=zj qpg_ qnj_ 248 qcq_
theorem q1hz_:C (talk_block_J 6 []) qwa_=qv8_:=gNC (by decide) fun _=>q1gl_
theorem q1m5_ (x:As [.pr (.pr (.int .u8) YTT0) YTT2]):evT Tryz.prog qpg_ 6 18446744073709551616 (Ev.get qnj_) 248 qcq_ x=qiv_ x:=by
 rw [qb_,q1gp_,q1hz_] <;> rfl
theorem q14b_:CtOk Tryz.prog (fun _=>True) 248 ⟨qcq_,qiv_⟩:=q7_ (q0_ q1ez_ q2_) q1m5_
@[reducible] def qwc_:Sh:=⟨[.d (.pr (.pr (.int .u8) YTT0) YTT2)],[],[.pr (.pr (.int .u8) YTT0) YTT2],[.d (.pr (.int .u8) YTT7)],[],0,[.pr (.int .u8) YTT7]⟩
def qre_ (t:q9_):Option (As [.pr (.int .u8) YTT7]) :=
 zC (qiv_ (t,())) fun y=>if (!y.2.1)=true then some ((0,0,0,0,[],[]),()) else some ((16,288,cvt .u16 (zF (zG y.1)),0,y.1,[]),())
def qtn_ (x:As [.pr (.pr (.int .u8) YTT0) YTT2]):Option (As [.pr (.int .u8) YTT7]):=qre_ x.1
theorem q133_:CtOk Tryz.prog (fun _=>True) 206 ⟨qwc_,qtn_⟩:=ctn (q0_ q14b_ q2_) 6 fun J x=>by kernel_rfl
@[reducible] def qvg_:Sh:=⟨[.d (.pr (.pr (.int .u8) YTT0) YTT2),.d (.pr (.int .u8) YTT5)],[],[.pr (.pr (.int .u8) YTT0) YTT2,.pr (.int .u8) YTT5],[.d (.pr (.pr (.int .u8) YTT0) YTT2)],[],0,[.pr (.pr (.int .u8) YTT0) YTT2]⟩
def qr6_ (t:q9_) (r:zF5):Option (As [.pr (.pr (.int .u8) YTT0) YTT2]) :=
 if nei r.2.1 0=true then zC (q2j_ (t,2,())) fun y=>some (y.1,()) else zC (q5s_ (t,3,())) fun y=>some (y.1,())
def qjc_ (x:As [.pr (.pr (.int .u8) YTT0) YTT2,.pr (.int .u8) YTT5]):Option (As [.pr (.pr (.int .u8) YTT0) YTT2]):=qr6_ x.1 x.2.1
theorem q11m_:CtOk Tryz.prog (fun _=>True) 207 ⟨qvg_,qjc_⟩:=ctn (q0_ q6b_ (q0_ qir_ q2_)) 6 fun J x=>by kernel_rfl
@[reducible] def q10g_:Sh:=⟨[.d (.pr (.pr (.int .u8) YTT0) YTT2)],[],[.pr (.pr (.int .u8) YTT0) YTT2],[.d (.pr (.int .u8) YTT7)],[],0,[.pr (.int .u8) YTT7]⟩
def qz6_ (t:q9_):Option (As [.pr (.int .u8) YTT7]) :=
 some ((3,cvt .u16 (add .i64 512 (mul .i64 32 t.2.2.2.2.2.2.1)),20,0,[],[]),())
def qzs_ (x:As [.pr (.pr (.int .u8) YTT0) YTT2]):Option (As [.pr (.int .u8) YTT7]):=qz6_ x.1
theorem q15x_:CtOk Tryz.prog (fun _=>True) 208 ⟨q10g_,qzs_⟩:=ctn q2_ 6 fun J x=>by kernel_rfl
@[reducible] def q1p_:Sh:=⟨[.d (.sl (.int .u16)),.d (.sl (.int .u16))],[],[.sl (.int .u16),.sl (.int .u16)],[.d (.bool)],[],0,[.bool]⟩
def q66_:Env:=(cts [])
def q68_:List (Nat×Hint):=[(58,⟨[],[0,1,12,13]⟩)]
def q5j_ (s1 s2:List Int) (t12 t13:Int):St:=⟨[(0,dW s1),(1,dW s2),(12,dI t12),(13,dI t13)],26,[],[],0,[],0⟩
def q3q_ (self1:List Int->List Int->Int->Int->Option (As [.bool])) (s1 s2:List Int) (t12 t13:Int):Option (As [.bool]) :=
 if lt t13 t12=true then zC (at? s1 t13) fun y=>zC (at? s2 t13) fun y_1=>if nei y y_1=true then some (false,()) else self1 s1 s2 t12 (add .i64 t13 1) else some (true,())
def q5i_ (j1:List Int->List Int->Int->Int->Option (As [.bool])) (s1 s2:List Int):Option (As [.bool]) :=
 if nei (zF (zG s1)) (zF (zG s2))=true then some (false,()) else j1 s1 s2 (zF (zG s1)) 0
def q3p_ (s1 s2:List Int) (t12 t13:Int):Option (As [.bool]) :=
 loopF (fun self s=>q3q_ (fun s1 s2 t12 t13=>self (s1,s2,t12,t13)) s.1 s.2.1 s.2.2.1 s.2.2.2) 18446744073709551616 (s1,s2,t12,t13)
def q10_ (x:As [.sl (.int .u16),.sl (.int .u16)]):Option (As [.bool]):=q5i_ q3p_ x.1 x.2.1
abbrev slices_Equal_Guint16_P:=zp q66_ q68_ 90 q1p_
theorem qzi_ {J w1 a b c d}:slices_Equal_Guint16_P J 58 [w1] (q5j_ a b c d)=q3q_ (C w1 q5j_) a b c d:=by kernel_rfl
theorem qzk_ (J:Orc (As [.bool])) (x:As [.sl (.int .u16),.sl (.int .u16)]):rfn Tryz.prog q66_ 6 18446744073709551616 (Ev.get q68_) 90 q1p_ J x=q5i_ (C (J 58 []) q5j_) x.1 x.2.1:=by kernel_rfl
abbrev slices_Equal_Guint16_J:=zj q66_ q68_ 90 q1p_
theorem qzl_:C (slices_Equal_Guint16_J 58 []) q5j_=q3p_:=gLC (by decide) (by kernel_rfl) (fun _=>by unfold q3p_; rfl) fun _ _=>qzi_.trans (by kernel_rfl)
theorem q117_ (x:As [.sl (.int .u16),.sl (.int .u16)]):evT Tryz.prog q66_ 6 18446744073709551616 (Ev.get q68_) 90 q1p_ x=q10_ x:=by
 rw [qb_,qzk_,qzl_] <;> rfl
theorem q2p_:CtOk Tryz.prog (fun _=>True) 90 ⟨q1p_,q10_⟩:=q7_ q2_ q117_
@[reducible] def q5c_:Sh:=⟨[.d (.pr (.pr (.int .u8) YTT0) YTT2),.d (.pr (.int .u8) YTT5)],[],[.pr (.pr (.int .u8) YTT0) YTT2,.pr (.int .u8) YTT5],[.d (.pr (.pr (.int .u8) YTT0) YTT2)],[],0,[.pr (.pr (.int .u8) YTT0) YTT2]⟩
def qfv_:Env:=(cts [(90,(⟨q1p_,q10_⟩:Ct)),(246,(⟨q10z_,qcy_⟩:Ct)),(247,(⟨qpr_,q5e_⟩:Ct)),(248,(⟨qcq_,qiv_⟩:Ct))])
def qfa_:List (Nat×Hint):=[(14,⟨[],[2,4,25]⟩)]
def qme_ (t25:Bool) (t:q9_) (t4:zF7):St:=⟨[(2,.pb 0 0),(4,.pb 1 0),(25,dB t25)],34,[],[(0,.box 33 (talkC t [])),(1,.box 33 [d8 t4.1.1,d8 t4.1.2.1,dI t4.1.2.2.1,dI t4.1.2.2.2.1,dB t4.1.2.2.2.2.1,d8 t4.1.2.2.2.2.2.1.1,d6 t4.1.2.2.2.2.2.1.2.1,d6 t4.1.2.2.2.2.2.1.2.2.1,d6 t4.1.2.2.2.2.2.1.2.2.2.1,.k (zK zH 0 0),.k (zK zH 0 0),d6 t4.1.2.2.2.2.2.2.1,dI t4.1.2.2.2.2.2.2.2.1,dI t4.1.2.2.2.2.2.2.2.2,d6 t4.2.1,d2 t4.2.2.1,.k (zK zH 0 0),d8 t4.2.2.2.2.1,d8 t4.2.2.2.2.2.1,dI t4.2.2.2.2.2.2.1,dI t4.2.2.2.2.2.2.2.1,d8 t4.2.2.2.2.2.2.2.2])],2,[],0⟩
def qyd_ (t25:Bool) (t:q9_) (t4:zF7):Option (As [.pr (.pr (.int .u8) YTT0) YTT2]) :=
 if t25=true then zC (q5e_ (t,2,())) fun y=>some (y.1,()) else zC (qcy_ ((t.1,t.2.1,t.2.2.1,t.2.2.2.1,t.2.2.2.2.1,t.2.2.2.2.2.1,add .i64 t.2.2.2.2.2.2.1 1,t.2.2.2.2.2.2.2),())) fun y=>some (y.1,())
def qdz_ (j1:Bool->q9_->YTT10×Int×Int×Unit×Int×Int×Int×Int×Int->Option (As [.pr (.pr (.int .u8) YTT0) YTT2])) (t:q9_) (r:zF5):Option (As [.pr (.pr (.int .u8) YTT0) YTT2]) :=
 zC (qiv_ (t,())) fun y=>if (!y.2.1)=true then j1 true t ((0,0,0,0,false,(0,0,0,0,(),()),0,0,0),0,0,(),0,0,0,0,0) else if nei r.2.1 0=true then j1 true t ((0,0,0,0,false,(0,0,0,0,(),()),0,0,0),0,0,(),0,0,0,0,0) else zC (q10_ (r.2.2.2.1,y.1,())) fun y=>j1 (!y.1) t ((0,0,0,0,false,(0,0,0,0,(),()),0,0,0),0,0,(),0,0,0,0,0)
def q90_:=qyd_
def q9j_ (x:As [.pr (.pr (.int .u8) YTT0) YTT2,.pr (.int .u8) YTT5]):Option (As [.pr (.pr (.int .u8) YTT0) YTT2]):=qdz_ q90_ x.1 x.2.1
abbrev talk_readBack_P:=zp qfv_ qfa_ 209 q5c_
theorem q18s_ {J a b c}:talk_readBack_P J 14 [] (qme_ a b c)=qyd_ a b c:=by kernel_rfl
theorem q1a4_ (J:Orc (As [.pr (.pr (.int .u8) YTT0) YTT2])) (x:As [.pr (.pr (.int .u8) YTT0) YTT2,.pr (.int .u8) YTT5]):rfn Tryz.prog qfv_ 6 18446744073709551616 (Ev.get qfa_) 209 q5c_ J x=qdz_ (C (J 14 []) qme_) x.1 x.2.1:=by kernel_rfl
abbrev talk_readBack_J:=zj qfv_ qfa_ 209 q5c_
theorem q1ae_:C (talk_readBack_J 14 []) qme_=q90_:=gNC (by decide) fun _=>q18s_
theorem q1bw_ (x:As [.pr (.pr (.int .u8) YTT0) YTT2,.pr (.int .u8) YTT5]):evT Tryz.prog qfv_ 6 18446744073709551616 (Ev.get qfa_) 209 q5c_ x=q9j_ x:=by
 rw [qb_,q1a4_,q1ae_] <;> rfl
theorem qy0_:CtOk Tryz.prog (fun _=>True) 209 ⟨q5c_,q9j_⟩:=q7_ (q0_ q2p_ (q0_ q15e_ (q0_ qv5_ (q0_ q14b_ q2_)))) q1bw_
@[reducible] def q53_:Sh:=⟨[.d (.pr (.pr (.int .u8) YTT0) YTT2),.d (.pr (.int .u8) YTT5)],[],[.pr (.pr (.int .u8) YTT0) YTT2,.pr (.int .u8) YTT5],[.d (.pr (.pr (.int .u8) YTT0) YTT2)],[],0,[.pr (.pr (.int .u8) YTT0) YTT2]⟩
def qfc_:Env:=(cts [(56,(⟨qpy_,q2j_⟩:Ct)),(244,(⟨q7r_,q6r_⟩:Ct)),(245,(⟨qbg_,q19_⟩:Ct)),(247,(⟨qpr_,q5e_⟩:Ct))])
def qft_:List (Nat×Hint):=[(115,⟨[],[2,4,17]⟩)]
def qmb_ (t17:Bool) (t:q9_) (t4:zF7):St:=⟨[(2,.pb 0 0),(4,.pb 1 0),(17,dB t17)],30,[],[(0,.box 33 (talkC t [])),(1,.box 33 [d8 t4.1.1,d8 t4.1.2.1,dI t4.1.2.2.1,dI t4.1.2.2.2.1,dB t4.1.2.2.2.2.1,d8 t4.1.2.2.2.2.2.1.1,d6 t4.1.2.2.2.2.2.1.2.1,d6 t4.1.2.2.2.2.2.1.2.2.1,d6 t4.1.2.2.2.2.2.1.2.2.2.1,.k (zK zH 0 0),.k (zK zH 0 0),d6 t4.1.2.2.2.2.2.2.1,dI t4.1.2.2.2.2.2.2.2.1,dI t4.1.2.2.2.2.2.2.2.2,d6 t4.2.1,d2 t4.2.2.1,.k (zK zH 0 0),d8 t4.2.2.2.2.1,d8 t4.2.2.2.2.2.1,dI t4.2.2.2.2.2.2.1,dI t4.2.2.2.2.2.2.2.1,d8 t4.2.2.2.2.2.2.2.2])],2,[],0⟩
def qz7_ (t17:Bool) (t:q9_) (t4:zF7):Option (As [.pr (.pr (.int .u8) YTT0) YTT2]) :=
 if t17=true then zC (q2j_ (t,1,())) fun y=>some (y.1,()) else zC (q5e_ (t,4,())) fun y=>some (y.1,())
def qd4_ (j1:Bool->q9_->YTT10×Int×Int×Unit×Int×Int×Int×Int×Int->Option (As [.pr (.pr (.int .u8) YTT0) YTT2])) (t:q9_) (r:zF5):Option (As [.pr (.pr (.int .u8) YTT0) YTT2]) :=
 zC (q6r_ (r,())) fun y=>if (!y.2.1)=true then zC (q2j_ (t,2,())) fun y=>some (y.1,()) else zC (q19_ (y.1,t,())) fun y_1=>if y_1.1=true then j1 (eqi y.1.2.1 2) t ((0,0,0,0,false,(0,0,0,0,(),()),0,0,0),0,0,(),0,0,0,0,0) else j1 false t ((0,0,0,0,false,(0,0,0,0,(),()),0,0,0),0,0,(),0,0,0,0,0)
def q4g_:=qz7_
def q9s_ (x:As [.pr (.pr (.int .u8) YTT0) YTT2,.pr (.int .u8) YTT5]):Option (As [.pr (.pr (.int .u8) YTT0) YTT2]):=qd4_ q4g_ x.1 x.2.1
abbrev talk_prepared_P:=zp qfc_ qft_ 211 q53_
theorem q19y_ {J a b c}:talk_prepared_P J 115 [] (qmb_ a b c)=qz7_ a b c:=by kernel_rfl
theorem q19b_ (J:Orc (As [.pr (.pr (.int .u8) YTT0) YTT2])) (x:As [.pr (.pr (.int .u8) YTT0) YTT2,.pr (.int .u8) YTT5]):rfn Tryz.prog qfc_ 6 18446744073709551616 (Ev.get qft_) 211 q53_ J x=qd4_ (C (J 115 []) qmb_) x.1 x.2.1:=by kernel_rfl
abbrev talk_prepared_J:=zj qfc_ qft_ 211 q53_
theorem q19c_:C (talk_prepared_J 115 []) qmb_=q4g_:=gNC (by decide) fun _=>q19y_
theorem q1bs_ (x:As [.pr (.pr (.int .u8) YTT0) YTT2,.pr (.int .u8) YTT5]):evT Tryz.prog qfc_ 6 18446744073709551616 (Ev.get qft_) 211 q53_ x=q9s_ x:=by
 rw [qb_,q19b_,q19c_] <;> rfl
theorem qxh_:CtOk Tryz.prog (fun _=>True) 211 ⟨q53_,q9s_⟩:=q7_ (q0_ q6b_ (q0_ qgm_ (q0_ qau_ (q0_ qv5_ q2_)))) q1bs_
@[reducible] def qm0_:Sh:=⟨[.d (.pr (.pr (.int .u8) YTT0) YTT2),.d (.pr (.int .u8) YTT5)],[],[.pr (.pr (.int .u8) YTT0) YTT2,.pr (.int .u8) YTT5],[.d (.pr (.pr (.int .u8) YTT0) YTT2)],[],0,[.pr (.pr (.int .u8) YTT0) YTT2]⟩
def qj4_ (t:q9_) (r:zF5):Option (As [.pr (.pr (.int .u8) YTT0) YTT2]) :=
 zC (q6r_ (r,())) fun y=>if (!y.2.1)=true then zC (q5s_ (t,7,())) fun y=>some (y.1,()) else if ge y.1.2.2.2 t.2.2.1=true then zC (q2j_ (t,1,())) fun y=>some (y.1,()) else zC (q5s_ (t,5,())) fun y=>some (y.1,())
def qc0_ (x:As [.pr (.pr (.int .u8) YTT0) YTT2,.pr (.int .u8) YTT5]):Option (As [.pr (.pr (.int .u8) YTT0) YTT2]):=qj4_ x.1 x.2.1
theorem qwf_:CtOk Tryz.prog (fun _=>True) 213 ⟨qm0_,qc0_⟩:=ctn (q0_ q6b_ (q0_ qgm_ (q0_ qir_ q2_))) 6 fun J x=>by kernel_rfl
@[reducible] def qqs_:Sh:=⟨[.d (.pr (.pr (.int .u8) YTT0) YTT2),.d (.pr (.int .u8) YTT5)],[],[.pr (.pr (.int .u8) YTT0) YTT2,.pr (.int .u8) YTT5],[.d (.pr (.pr (.int .u8) YTT0) YTT2)],[],0,[.pr (.pr (.int .u8) YTT0) YTT2]⟩
def qpd_ (t:q9_) (r:zF5):Option (As [.pr (.pr (.int .u8) YTT0) YTT2]) :=
 zC (q6r_ (r,())) fun y=>if (!y.2.1)=true then zC (q5s_ (t,7,())) fun y=>some (y.1,()) else zC (q19_ (y.1,t,())) fun y=>if (!y.1)=true then zC (q2j_ (t,1,())) fun y=>some (y.1,()) else zC (q5s_ (t,6,())) fun y=>some (y.1,())
def qgh_ (x:As [.pr (.pr (.int .u8) YTT0) YTT2,.pr (.int .u8) YTT5]):Option (As [.pr (.pr (.int .u8) YTT0) YTT2]):=qpd_ x.1 x.2.1
theorem qzo_:CtOk Tryz.prog (fun _=>True) 215 ⟨qqs_,qgh_⟩:=ctn (q0_ q6b_ (q0_ qgm_ (q0_ qau_ (q0_ qir_ q2_)))) 6 fun J x=>by kernel_rfl
@[reducible] def q11a_:Sh:=⟨[.d (.pr (.pr (.int .u8) YTT0) YTT2)],[],[.pr (.pr (.int .u8) YTT0) YTT2],[.d (.pr (.int .u8) YTT7)],[],0,[.pr (.int .u8) YTT7]⟩
def q1i8_ (v:q9_):Option (As [.pr (.int .u8) YTT7]) :=
 some ((3,256,8,0,[],[]),())
def qzu_ (x:As [.pr (.pr (.int .u8) YTT0) YTT2]):Option (As [.pr (.int .u8) YTT7]):=q1i8_ x.1
theorem q16y_:CtOk Tryz.prog (fun _=>True) 216 ⟨q11a_,qzu_⟩:=ctn q2_ 6 fun J x=>by kernel_rfl
@[reducible] def q79_:Sh:=⟨[.d (.pr (.pr (.int .u8) YTT0) YTT2),.d (.pr (.int .u8) YTT5)],[],[.pr (.pr (.int .u8) YTT0) YTT2,.pr (.int .u8) YTT5],[.d (.pr (.pr (.int .u8) YTT0) YTT2)],[],0,[.pr (.pr (.int .u8) YTT0) YTT2]⟩
def qli_:Env:=(cts [(56,(⟨qpy_,q2j_⟩:Ct)),(244,(⟨q7r_,q6r_⟩:Ct)),(245,(⟨qbg_,q19_⟩:Ct)),(249,(⟨q1fb_,q5s_⟩:Ct))])
def qk8_:List (Nat×Hint):=[(30,⟨[],[2,4,33]⟩),(116,⟨[],[2,4,22]⟩)]
def qrj_ (t22:Bool) (t:q9_) (t4:zF7):St:=⟨[(2,.pb 0 0),(4,.pb 1 0),(22,dB t22)],38,[],[(0,.box 33 (talkC t [])),(1,.box 33 [d8 t4.1.1,d8 t4.1.2.1,dI t4.1.2.2.1,dI t4.1.2.2.2.1,dB t4.1.2.2.2.2.1,d8 t4.1.2.2.2.2.2.1.1,d6 t4.1.2.2.2.2.2.1.2.1,d6 t4.1.2.2.2.2.2.1.2.2.1,d6 t4.1.2.2.2.2.2.1.2.2.2.1,.k (zK zH 0 0),.k (zK zH 0 0),d6 t4.1.2.2.2.2.2.2.1,dI t4.1.2.2.2.2.2.2.2.1,dI t4.1.2.2.2.2.2.2.2.2,d6 t4.2.1,d2 t4.2.2.1,.k (zK zH 0 0),d8 t4.2.2.2.2.1,d8 t4.2.2.2.2.2.1,dI t4.2.2.2.2.2.2.1,dI t4.2.2.2.2.2.2.2.1,d8 t4.2.2.2.2.2.2.2.2])],2,[],0⟩
def qrb_ (t33:Bool) (t:q9_) (t4:zF7):St:=⟨[(2,.pb 0 0),(4,.pb 1 0),(33,dB t33)],38,[],[(0,.box 33 (talkC t [])),(1,.box 33 [d8 t4.1.1,d8 t4.1.2.1,dI t4.1.2.2.1,dI t4.1.2.2.2.1,dB t4.1.2.2.2.2.1,d8 t4.1.2.2.2.2.2.1.1,d6 t4.1.2.2.2.2.2.1.2.1,d6 t4.1.2.2.2.2.2.1.2.2.1,d6 t4.1.2.2.2.2.2.1.2.2.2.1,.k (zK zH 0 0),.k (zK zH 0 0),d6 t4.1.2.2.2.2.2.2.1,dI t4.1.2.2.2.2.2.2.2.1,dI t4.1.2.2.2.2.2.2.2.2,d6 t4.2.1,d2 t4.2.2.1,.k (zK zH 0 0),d8 t4.2.2.2.2.1,d8 t4.2.2.2.2.2.1,dI t4.2.2.2.2.2.2.1,dI t4.2.2.2.2.2.2.2.1,d8 t4.2.2.2.2.2.2.2.2])],2,[],0⟩
def q11z_ (t22:Bool) (t:q9_) (t4:zF7):Option (As [.pr (.pr (.int .u8) YTT0) YTT2]) :=
 if t22=true then zC (q2j_ (t,1,())) fun y=>some (y.1,()) else zC (q5s_ (t,5,())) fun y=>some (y.1,())
def q11r_ (t33:Bool) (t:q9_) (t4:zF7):Option (As [.pr (.pr (.int .u8) YTT0) YTT2]) :=
 if t33=true then zC (q2j_ (t,1,())) fun y=>some (y.1,()) else zC (q5s_ (t,6,())) fun y=>some (y.1,())
def qiu_ (j1 j2:Bool->q9_->YTT10×Int×Int×Unit×Int×Int×Int×Int×Int->Option (As [.pr (.pr (.int .u8) YTT0) YTT2])) (t:q9_) (r:zF5):Option (As [.pr (.pr (.int .u8) YTT0) YTT2]) :=
 zC (q6r_ (r,())) fun y=>if eqi t.2.2.2.2.1 2=true then if y.2.1=true then j1 (ge y.1.2.2.2 t.2.2.1) t ((0,0,0,0,false,(0,0,0,0,(),()),0,0,0),0,0,(),0,0,0,0,0) else j1 false t ((0,0,0,0,false,(0,0,0,0,(),()),0,0,0),0,0,(),0,0,0,0,0) else if y.2.1=true then zC (q19_ (y.1,t,())) fun y=>j2 (!y.1) t ((0,0,0,0,false,(0,0,0,0,(),()),0,0,0),0,0,(),0,0,0,0,0) else j2 false t ((0,0,0,0,false,(0,0,0,0,(),()),0,0,0),0,0,(),0,0,0,0,0)
def qc2_:=q11z_
def qcv_:=q11r_
def qey_ (x:As [.pr (.pr (.int .u8) YTT0) YTT2,.pr (.int .u8) YTT5]):Option (As [.pr (.pr (.int .u8) YTT0) YTT2]):=qiu_ qc2_ qcv_ x.1 x.2.1
abbrev talk_looked_P:=zp qli_ qk8_ 217 q79_
theorem q1f8_ {J a b c}:talk_looked_P J 116 [] (qrj_ a b c)=q11z_ a b c:=by kernel_rfl
theorem q1el_ {J a b c}:talk_looked_P J 30 [] (qrb_ a b c)=q11r_ a b c:=by kernel_rfl
theorem q1dz_ (J:Orc (As [.pr (.pr (.int .u8) YTT0) YTT2])) (x:As [.pr (.pr (.int .u8) YTT0) YTT2,.pr (.int .u8) YTT5]):rfn Tryz.prog qli_ 6 18446744073709551616 (Ev.get qk8_) 217 q79_ J x=qiu_ (C (J 116 []) qrj_) (C (J 30 []) qrb_) x.1 x.2.1:=by kernel_rfl
abbrev talk_looked_J:=zj qli_ qk8_ 217 q79_
theorem q1c4_:C (talk_looked_J 116 []) qrj_=qc2_:=gNC (by decide) fun _=>q1f8_
theorem q1ek_:C (talk_looked_J 30 []) qrb_=qcv_:=gNC (by decide) fun _=>q1el_
theorem q1hh_ (x:As [.pr (.pr (.int .u8) YTT0) YTT2,.pr (.int .u8) YTT5]):evT Tryz.prog qli_ 6 18446744073709551616 (Ev.get qk8_) 217 q79_ x=qey_ x:=by
 rw [qb_,q1dz_,q1c4_,q1ek_] <;> rfl
theorem q12o_:CtOk Tryz.prog (fun _=>True) 217 ⟨q79_,qey_⟩:=q7_ (q0_ q6b_ (q0_ qgm_ (q0_ qau_ (q0_ qir_ q2_)))) q1hh_
@[reducible] def q88_:Sh:=⟨[.d (.pr (.pr (.int .u8) YTT0) YTT2)],[],[.pr (.pr (.int .u8) YTT0) YTT2],[.d (.pr (.int .u8) YTT7)],[],0,[.pr (.int .u8) YTT7]⟩
def qh9_:Env:=(cts [(1000211,Ev.bxCt),(204,(⟨qb6_,qav_⟩:Ct)),(205,(⟨q63_,qbs_⟩:Ct)),(206,(⟨qwc_,qtn_⟩:Ct)),(207,(⟨qvg_,qjc_⟩:Ct)),(208,(⟨q10g_,qzs_⟩:Ct)),(209,(⟨q5c_,q9j_⟩:Ct)),(211,(⟨q53_,q9s_⟩:Ct)),(213,(⟨qm0_,qc0_⟩:Ct)),(215,(⟨qqs_,qgh_⟩:Ct)),(216,(⟨q11a_,qzu_⟩:Ct)),(217,(⟨q79_,qey_⟩:Ct))])
def qhr_:List (Nat×Hint):=[(14,⟨[],[1,2,3,13]⟩)]
def qnh_ (t13:Bool) (t:q9_) (t2:zF3):St:=⟨[(1,.pb 0 0),(2,.pb 1 0),(3,.pb 2 0),(13,dB t13)],22,[],[(0,.box 33 (talkC t [])),(1,.box 27 [d8 t2.1,d6 t2.2.1,d6 t2.2.2.1,d6 t2.2.2.2.1,.k (zK zH 0 0),.k (zK zH 0 0)]),(2,.box 211 [.k Go.Value.nilFunc,.k Go.Value.nilFunc,.fn (.func 203) [] [],.fn (.func 205) [] [],.fn (.func 206) [] [],.fn (.func 207) [] [],.fn (.func 208) [] [],.fn (.func 209) [] [],.fn (.func 210) [] [],.fn (.func 211) [] [],.fn (.func 212) [] [],.fn (.func 213) [] [],.fn (.func 214) [] [],.fn (.func 215) [] [],.fn (.func 216) [] [],.fn (.func 217) [] []])],3,[],0⟩
def qfi_ (t13:Bool) (t:q9_) (t2:zF3):Option (As [.pr (.int .u8) YTT7]) :=
 if t13=true then some ((0,0,0,0,[],[]),()) else if eqi t.2.2.2.2.2.1 7=true then zC (qzu_ (t,())) fun y=>some (y.1,()) else if eqi t.2.2.2.2.2.1 6=true then zC (qav_ (t,4,())) fun y=>some (y.1,()) else if eqi t.2.2.2.2.2.1 5=true then zC (qav_ (t,3,())) fun y=>some (y.1,()) else if eqi t.2.2.2.2.2.1 4=true then zC (qav_ (t,2,())) fun y=>some (y.1,()) else if eqi t.2.2.2.2.2.1 3=true then zC (qzs_ (t,())) fun y=>some (y.1,()) else if eqi t.2.2.2.2.2.1 2=true then zC (qtn_ (t,())) fun y=>some (y.1,()) else if eqi t.2.2.2.2.2.1 1=true then zC (qav_ (t,1,())) fun y=>some (y.1,()) else if eqi t.2.2.2.2.2.1 0=true then zH else zH
def qfu_ (j1:Bool->q9_->Int×Int×Int×Int×Unit×Unit->Option (As [.pr (.int .u8) YTT7])) (t:q9_):Option (As [.pr (.int .u8) YTT7]) :=
 if ge (cvt .i64 t.2.2.2.2.2.1) 8=true then j1 true t (0,0,0,0,(),()) else j1 (eqi t.2.2.2.2.2.1 0) t (0,0,0,0,(),())
def qn4_:=qfi_
def qc6_ (x:As [.pr (.pr (.int .u8) YTT0) YTT2]):Option (As [.pr (.int .u8) YTT7]):=qfu_ qn4_ x.1
abbrev talk_request_P:=zp qh9_ qhr_ 117 q88_
theorem q1aq_ {J a b c}:talk_request_P J 14 [] (qnh_ a b c)=qfi_ a b c:=by kernel_rfl
theorem q1bk_ (J:Orc (As [.pr (.int .u8) YTT7])) (x:As [.pr (.pr (.int .u8) YTT0) YTT2]):rfn Tryz.prog qh9_ 6 18446744073709551616 (Ev.get qhr_) 117 q88_ J x=qfu_ (C (J 14 []) qnh_) x.1:=by kernel_rfl
abbrev talk_request_J:=zj qh9_ qhr_ 117 q88_
theorem q1b3_:C (talk_request_J 14 []) qnh_=qn4_:=gNC (by decide) fun _=>q1aq_
theorem q1dk_ (x:As [.pr (.pr (.int .u8) YTT0) YTT2]):evT Tryz.prog qh9_ 6 18446744073709551616 (Ev.get qhr_) 117 q88_ x=qc6_ x:=by
 rw [qb_,q1bk_,q1b3_] <;> rfl
theorem q1b2_:CtOk Tryz.prog (fun _=>True) 117 ⟨q88_,qc6_⟩:=q7_ (q0_ Ev.bx_ok (q0_ q15r_ (q0_ q10f_ (q0_ q133_ (q0_ q11m_ (q0_ q15x_ (q0_ qy0_ (q0_ qxh_ (q0_ qwf_ (q0_ qzo_ (q0_ q16y_ (q0_ q12o_ q2_)))))))))))) q1dk_
@[reducible] def q7v_:Sh:=⟨[.d (.pr (.pr (.int .u8) YTT0) YTT2)],[],[.pr (.pr (.int .u8) YTT0) YTT2],[.d (.pr (.pr (.int .u8) YTT0) YTT2),.d (.sl (.int .u8))],[],0,[.pr (.pr (.int .u8) YTT0) YTT2,.sl (.int .u8)]⟩
def qtq_:Env:=(cts [(116,(⟨q18h_,qmq_⟩:Ct)),(117,(⟨q88_,qc6_⟩:Ct))])
def qtg_:List (Nat×Hint):=[(3,⟨[],[1,2,4,5,6]⟩)]
def qyy_ (frame:List Int) (err:Int) (t:q9_) (t2:zF7) (p:zF4):St:=⟨[(1,.pb 0 0),(2,.pb 1 0),(4,.pb 2 0),(5,dL frame),(6,dI err)],23,[],[(0,.box 33 (talkC t [])),(1,.box 33 [d8 t2.1.1,d8 t2.1.2.1,dI t2.1.2.2.1,dI t2.1.2.2.2.1,dB t2.1.2.2.2.2.1,d8 t2.1.2.2.2.2.2.1.1,d6 t2.1.2.2.2.2.2.1.2.1,d6 t2.1.2.2.2.2.2.1.2.2.1,d6 t2.1.2.2.2.2.2.1.2.2.2.1,.k (zK zH 0 0),.k (zK zH 0 0),d6 t2.1.2.2.2.2.2.2.1,dI t2.1.2.2.2.2.2.2.2.1,dI t2.1.2.2.2.2.2.2.2.2,d6 t2.2.1,d2 t2.2.2.1,.k (zK zH 0 0),d8 t2.2.2.2.2.1,d8 t2.2.2.2.2.2.1,dI t2.2.2.2.2.2.2.1,dI t2.2.2.2.2.2.2.2.1,d8 t2.2.2.2.2.2.2.2.2]),(2,.box 29 [d8 p.1,d8 p.2.1,dI p.2.2.1,dI p.2.2.2.1,dB p.2.2.2.2.1,d8 p.2.2.2.2.2.1.1,d6 p.2.2.2.2.2.1.2.1,d6 p.2.2.2.2.2.1.2.2.1,d6 p.2.2.2.2.2.1.2.2.2.1,dW p.2.2.2.2.2.1.2.2.2.2.1,.d (.sl .bool) p.2.2.2.2.2.1.2.2.2.2.2,d6 p.2.2.2.2.2.2.1,dI p.2.2.2.2.2.2.2.1,dI p.2.2.2.2.2.2.2.2])],3,[],0⟩
def q174_ (frame:List Int) (err:Int) (t:q9_) (t2:zF7) (p:zF4):Option (As [.pr (.pr (.int .u8) YTT0) YTT2,.sl (.int .u8)]) :=
 if nei err 0=true then some (t,[],()) else some ((p,t.2),frame,())
def qpp_ (j1:List Int->Int->q9_->YTT10×Int×Int×Unit×Int×Int×Int×Int×Int->Int×Int×Int×Int×Bool×YTT18×Int×Int×Int->Option (As [.pr (.pr (.int .u8) YTT0) YTT2,.sl (.int .u8)])) (t:q9_):Option (As [.pr (.pr (.int .u8) YTT0) YTT2,.sl (.int .u8)]) :=
 amb (eqAs q7v_.rs) [zC (qc6_ (t,())) fun y=>amb (eqAs q7v_.rs) [zC (qmq_ (t.1,y.1,())) fun y=>j1 y.2.1 y.2.2.1 t ((0,0,0,0,false,(0,0,0,0,(),()),0,0,0),0,0,(),0,0,0,0,0) y.1,zC (qmq_ (t.1,y.1,())) fun y=>j1 y.2.1 y.2.2.1 t ((0,0,0,0,false,(0,0,0,0,(),()),0,0,0),0,0,(),0,0,0,0,0) y.1],zC (qc6_ (t,())) fun y=>zC (qmq_ (t.1,y.1,())) fun y=>j1 y.2.1 y.2.2.1 t ((0,0,0,0,false,(0,0,0,0,(),()),0,0,0),0,0,(),0,0,0,0,0) y.1]
def qy3_:=q174_
def q7y_ (x:As [.pr (.pr (.int .u8) YTT0) YTT2]):Option (As [.pr (.pr (.int .u8) YTT0) YTT2,.sl (.int .u8)]):=qpp_ qy3_ x.1
abbrev talk_send_P:=zp qtq_ qtg_ 57 q7v_
theorem q1ld_ {J a b c d e}:talk_send_P J 3 [] (qyy_ a b c d e)=q174_ a b c d e:=by kernel_rfl
theorem q1l0_ (J:Orc (As [.pr (.pr (.int .u8) YTT0) YTT2,.sl (.int .u8)])) (x:As [.pr (.pr (.int .u8) YTT0) YTT2]):rfn Tryz.prog qtq_ 6 18446744073709551616 (Ev.get qtg_) 57 q7v_ J x=qpp_ (C (J 3 []) qyy_) x.1:=by kernel_rfl
abbrev talk_send_J:=zj qtq_ qtg_ 57 q7v_
theorem q1lo_:C (talk_send_J 3 []) qyy_=qy3_:=gNC (by decide) fun _=>q1ld_
theorem q1nv_ (x:As [.pr (.pr (.int .u8) YTT0) YTT2]):evT Tryz.prog qtq_ 6 18446744073709551616 (Ev.get qtg_) 57 q7v_ x=q7y_ x:=by
 rw [qb_,q1l0_,q1lo_] <;> rfl
theorem qxz_:CtOk Tryz.prog (fun _=>True) 57 ⟨q7v_,q7y_⟩:=q7_ (q0_ q1lt_ (q0_ q1b2_ q2_)) q1nv_
@[reducible] def q17s_:Sh:=⟨[.d (.int .u8)],[],[.int .u8],[.d (.int .u8),.d (.bool)],[],0,[.int .u8,.bool]⟩
def qw3_ (goal:Int):Option (As [.int .u8,.bool]) :=
 if eqi goal 1=true then some (1,true,()) else if eqi goal 2=true then some (5,true,()) else if eqi goal 3=true then some (6,true,()) else some (0,false,())
def qx1_ (x:As [.int .u8]):Option (As [.int .u8,.bool]):=qw3_ x.1
theorem q1gv_:CtOk Tryz.prog (fun _=>True) 62 ⟨q17s_,qx1_⟩:=ctn q2_ 6 fun J x=>by kernel_rfl
@[reducible] def qim_:Sh:=⟨[.d (.sl YTT8)],[],[.sl YTT8],[.d (.bool)],[],0,[.bool]⟩
def qx9_:Env:=(cts [(26,(⟨qer_,q3t_⟩:Ct))])
def qwk_:List (Nat×Hint):=[(58,⟨[],[8,9,10]⟩)]
def qtl_ (t8:zF1) (t9 t10:Int):St:=⟨[(8,.d (.sl YTT8) t8),(9,dI t9),(10,dI t10)],18,[],[],0,[],0⟩
@[reducible] def zF8:Type:=List (Int×List Int)->Int->Int->Option (As [.bool])
def qes_ (self1:zF8) (t8:zF1) (t9 t10:Int):Option (As [.bool]) :=
 if lt t10 t9=true then zC (at? t8 t10) fun y=>zC (q3t_ (y,())) fun y=>if (!y.1)=true then some (false,()) else self1 t8 t9 (add .i64 t10 1) else some (true,())
def qsm_ (j1:zF8) (l:zF1):Option (As [.bool]) :=
 if gt (zF (zG l)) 8=true then some (false,()) else j1 l (zF (zG l)) 0
def qsn_ (t8:zF1) (t9 t10:Int):Option (As [.bool]) :=
 loopF (fun self s=>qes_ (fun t8 t9 t10=>self (t8,t9,t10)) s.1 s.2.1 s.2.2) 18446744073709551616 (t8,t9,t10)
def qy2_ (x:As [.sl YTT8]):Option (As [.bool]):=qsm_ qsn_ x.1
abbrev talk_fit_P:=zp qx9_ qwk_ 63 qim_
theorem q1ob_ {J w1 a b c}:talk_fit_P J 58 [w1] (qtl_ a b c)=qes_ (C w1 qtl_) a b c:=by kernel_rfl
theorem q1nf_ (J:Orc (As [.bool])) (x:As [.sl YTT8]):rfn Tryz.prog qx9_ 6 18446744073709551616 (Ev.get qwk_) 63 qim_ J x=qsm_ (C (J 58 []) qtl_) x.1:=by kernel_rfl
abbrev talk_fit_J:=zj qx9_ qwk_ 63 qim_
theorem q1na_:C (talk_fit_J 58 []) qtl_=qsn_:=gLC (by decide) (by kernel_rfl) (fun _=>by unfold qsn_; rfl) fun _ _=>q1ob_.trans (by kernel_rfl)
theorem q1oz_ (x:As [.sl YTT8]):evT Tryz.prog qx9_ 6 18446744073709551616 (Ev.get qwk_) 63 qim_ x=qy2_ x:=by
 rw [qb_,q1nf_,q1na_] <;> rfl
theorem q1nl_:CtOk Tryz.prog (fun _=>True) 63 ⟨qim_,qy2_⟩:=q7_ (q0_ q8k_ q2_) q1oz_
@[reducible] def q6q_:Sh:=⟨[.d (.pr (.pr (.int .u8) YTT0) YTT2),.d (.int .u8),.d (.int .u32),.d (.sl YTT8)],[],[.pr (.pr (.int .u8) YTT0) YTT2,.int .u8,.int .u32,.sl YTT8],[.d (.pr (.pr (.int .u8) YTT0) YTT2),.d (.sl (.int .u8)),.d (.int .i64)],[],0,[.pr (.pr (.int .u8) YTT0) YTT2,.sl (.int .u8),.int .i64]⟩
def qng_:Env:=(cts [(54,(⟨q1az_,qma_⟩:Ct)),(57,(⟨q7v_,q7y_⟩:Ct)),(62,(⟨q17s_,qx1_⟩:Ct)),(63,(⟨qim_,qy2_⟩:Ct)),(64,(⟨q11d_,qd1_⟩:Ct)),(65,(⟨q9m_,qf0_⟩:Ct))])
def qoz_:List (Nat×Hint):=[(15,⟨[.agd 3 (.sl YTT8)],[1,2,3,4,8,11]⟩),(14,⟨[],[1,2,3,4,8,11,24]⟩)]
def qvh_ (goal tx:Int) (l:zF1) (at':Int) (t24:Bool) (t:q9_) (t8:zF7):St:=⟨[(1,d8 goal),(2,d2 tx),(3,.d (.sl YTT8) l),(4,.pb 0 0),(8,.pb 1 0),(11,d8 at'),(24,dB t24)],57,[],[(0,.box 33 (talkC t [])),(1,.box 33 [d8 t8.1.1,d8 t8.1.2.1,dI t8.1.2.2.1,dI t8.1.2.2.2.1,dB t8.1.2.2.2.2.1,d8 t8.1.2.2.2.2.2.1.1,d6 t8.1.2.2.2.2.2.1.2.1,d6 t8.1.2.2.2.2.2.1.2.2.1,d6 t8.1.2.2.2.2.2.1.2.2.2.1,.k (zK zH 0 0),.k (zK zH 0 0),d6 t8.1.2.2.2.2.2.2.1,dI t8.1.2.2.2.2.2.2.2.1,dI t8.1.2.2.2.2.2.2.2.2,d6 t8.2.1,d2 t8.2.2.1,.k (zK zH 0 0),d8 t8.2.2.2.2.1,d8 t8.2.2.2.2.2.1,dI t8.2.2.2.2.2.2.1,dI t8.2.2.2.2.2.2.2.1,d8 t8.2.2.2.2.2.2.2.2])],2,[],0⟩
def qvc_ (goal tx:Int) (l:zF1) (at':Int) (t:q9_) (t8:zF7):St:=⟨[(1,d8 goal),(2,d2 tx),(3,.d (.sl YTT8) l),(4,.pb 0 0),(8,.pb 1 0),(11,d8 at')],57,[],[(0,.box 33 (talkC t [])),(1,.box 33 [d8 t8.1.1,d8 t8.1.2.1,dI t8.1.2.2.1,dI t8.1.2.2.2.1,dB t8.1.2.2.2.2.1,d8 t8.1.2.2.2.2.2.1.1,d6 t8.1.2.2.2.2.2.1.2.1,d6 t8.1.2.2.2.2.2.1.2.2.1,d6 t8.1.2.2.2.2.2.1.2.2.2.1,.k (zK zH 0 0),.k (zK zH 0 0),d6 t8.1.2.2.2.2.2.2.1,dI t8.1.2.2.2.2.2.2.2.1,dI t8.1.2.2.2.2.2.2.2.2,d6 t8.2.1,d2 t8.2.2.1,.k (zK zH 0 0),d8 t8.2.2.2.2.1,d8 t8.2.2.2.2.2.1,dI t8.2.2.2.2.2.2.1,dI t8.2.2.2.2.2.2.2.1,d8 t8.2.2.2.2.2.2.2.2])],2,[],0⟩
def q9o_ (j2:Int->Int->List (Int×List Int)->Int->q9_->YTT10×Int×Int×Unit×Int×Int×Int×Int×Int->Option (As [.pr (.pr (.int .u8) YTT0) YTT2,.sl (.int .u8),.int .i64])) (goal tx:Int) (l:zF1) (at':Int) (t24:Bool) (t:q9_) (t8:zF7):Option (As [.pr (.pr (.int .u8) YTT0) YTT2,.sl (.int .u8),.int .i64]) :=
 if t24=true then zC (qma_ (t,())) fun y=>some (y.1,[],2,()) else if nei goal 1=true then j2 goal tx [] at' t ((t8.1.1,t8.1.2.1,t8.1.2.2.1,t8.1.2.2.2.1,t8.1.2.2.2.2.1,(t8.1.2.2.2.2.2.1.1,t8.1.2.2.2.2.2.1.2.1,t8.1.2.2.2.2.2.1.2.2.1,t8.1.2.2.2.2.2.1.2.2.2.1,(),()),t8.1.2.2.2.2.2.2),t8.2) else j2 goal tx l at' t ((t8.1.1,t8.1.2.1,t8.1.2.2.1,t8.1.2.2.2.1,t8.1.2.2.2.2.1,(t8.1.2.2.2.2.2.1.1,t8.1.2.2.2.2.2.1.2.1,t8.1.2.2.2.2.2.1.2.2.1,t8.1.2.2.2.2.2.1.2.2.2.1,(),()),t8.1.2.2.2.2.2.2),t8.2)
def qk7_ (goal tx:Int) (l:zF1) (at':Int) (t:q9_) (t8:zF7):Option (As [.pr (.pr (.int .u8) YTT0) YTT2,.sl (.int .u8),.int .i64]) :=
 zC (qy2_ (l,())) fun y=>if (!y.1)=true then zC (qma_ (t,())) fun y=>some (y.1,[],20,()) else zC (qd1_ (t.1,())) fun y=>zC (qf0_ (l,())) fun y_1=>zC (q7y_ ((y.1,t.2.1,tx,y_1.1,goal,at',0,0,0),())) fun y=>some (y.1,y.2.1,0,())
def qlj_ (j1:Int->Int->List (Int×List Int)->Int->Bool->q9_->YTT10×Int×Int×Unit×Int×Int×Int×Int×Int->Option (As [.pr (.pr (.int .u8) YTT0) YTT2,.sl (.int .u8),.int .i64])) (t:q9_) (goal tx:Int) (l:zF1):Option (As [.pr (.pr (.int .u8) YTT0) YTT2,.sl (.int .u8),.int .i64]) :=
 zC (qx1_ (goal,())) fun y=>if (!y.2.1)=true then j1 goal tx l y.1 true t ((0,0,0,0,false,(0,0,0,0,(),()),0,0,0),0,0,(),0,0,0,0,0) else j1 goal tx l y.1 (eqi tx 0) t ((0,0,0,0,false,(0,0,0,0,(),()),0,0,0),0,0,(),0,0,0,0,0)
def qe4_:=qk7_
def qkp_:=q9o_ (qe4_)
def q2r_ (x:As [.pr (.pr (.int .u8) YTT0) YTT2,.int .u8,.int .u32,.sl YTT8]):Option (As [.pr (.pr (.int .u8) YTT0) YTT2,.sl (.int .u8),.int .i64]):=qlj_ qkp_ x.1 x.2.1 x.2.2.1 x.2.2.2.1
abbrev talk_Start_P:=zp qng_ qoz_ 25 q6q_
theorem q1g7_ {J a b c d e f}:talk_Start_P J 15 [] (qvc_ a b c d e f)=qk7_ a b c d e f:=by kernel_rfl
theorem q1g9_ {J a b c d e f g}:talk_Start_P J 14 [] (qvh_ a b c d e f g)=q9o_ (C (J 15 []) qvc_) a b c d e f g:=by kernel_rfl
theorem q1hw_ (J:Orc (As [.pr (.pr (.int .u8) YTT0) YTT2,.sl (.int .u8),.int .i64])) (x:As [.pr (.pr (.int .u8) YTT0) YTT2,.int .u8,.int .u32,.sl YTT8]):rfn Tryz.prog qng_ 6 18446744073709551616 (Ev.get qoz_) 25 q6q_ J x=qlj_ (C (J 14 []) qvh_) x.1 x.2.1 x.2.2.1 x.2.2.2.1:=by kernel_rfl
abbrev talk_Start_J:=zj qng_ qoz_ 25 q6q_
theorem q1h2_:C (talk_Start_J 15 []) qvc_=qe4_:=gNC (by decide) fun _=>q1g7_
theorem q1hn_:C (talk_Start_J 14 []) qvh_=qkp_:=gNC (by decide) fun _=>q1g9_.trans (by rw [q1h2_] <;> kernel_rfl)
theorem q1kr_ (x:As [.pr (.pr (.int .u8) YTT0) YTT2,.int .u8,.int .u32,.sl YTT8]):evT Tryz.prog qng_ 6 18446744073709551616 (Ev.get qoz_) 25 q6q_ x=q2r_ x:=by
 rw [qb_,q1hw_,q1hn_] <;> rfl
theorem qvj_:CtOk Tryz.prog (fun _=>True) 25 ⟨q6q_,q2r_⟩:=q7_ (q0_ q10t_ (q0_ qxz_ (q0_ q1gv_ (q0_ q1nl_ (q0_ qna_ (q0_ q12e_ q2_)))))) q1kr_
@[reducible] def q1m_:Sh:=⟨[.pb 0 0,.d (.bool)],[(prG 1),.que YTT14 63],[.bool,.pr (.pr (.int .u8) YTT0) YTT2,.pr (.int .u8) (.pr (.int .u8) (.pr (.pr (.sl (.int .u16)) YTT1) (.sl .bool))),.int .u32,.int .u32,.sl (.sl YTT8),.sl YTT14],[.d (.bool)],[(0,(prG 2)),(2,.que YTT14 63)],1,[.bool,.pr (.pr (.int .u8) YTT0) YTT2,.pr (.int .u8) (.pr (.int .u8) (.pr (.pr (.sl (.int .u16)) YTT1) (.sl .bool))),.int .u32,.int .u32,.sl (.sl YTT8),.sl YTT14]⟩
def qak_:Env:=(cts [(1000048,Ev.bxCt),(9000046,Ev.bxCt),(9999999,Ev.bxCt),(20,(⟨q3r_,q5f_⟩:Ct)),(25,(⟨q6q_,q2r_⟩:Ct))])
def qam_:List (Nat×Hint):=[(7,⟨[],[0,5,6]⟩),(15,⟨[],[0,5,6]⟩),(31,⟨[],[0,6,7,8,9]⟩),(28,⟨[],[0,1,5,6,15,46,47,48,49,50,51,52,53,54,68,69,70,71,72,73]⟩),(115,⟨[],[0,5,6,38,68,69,70,71,72,73]⟩),(463,⟨[],[0,5,6,60]⟩)]
@[reducible] def zF9:Type:=List (Bool×List Int)
def qf3_ (alt:Bool) (goal tx:Int) (t15:Bool) (p:(q9_)×(TaA2q1)×Unit×Int×Int×List (List (Int×List Int))) (o:zF9):St:=⟨[(0,.pb 0 0),(1,dB alt),(5,d8 goal),(6,d2 tx),(15,dB t15)],108,[],[(0,.box 48 (talkC p.1 (slC p.2.1 [.row 1,d2 p.2.2.2.1,d2 p.2.2.2.2.1,.d (.sl (.sl YTT8)) p.2.2.2.2.2]))),(1,.que YTT14 63 o)],2,[],2⟩
def q5l_ (goal tx:Int) (p:(q9_)×(TaA2q1)×Unit×Int×Int×List (List (Int×List Int))) (o:zF9):St:=⟨[(0,.pb 0 0),(5,d8 goal),(6,d2 tx)],108,[],[(0,.box 48 (talkC p.1 (slC p.2.1 [.row 1,d2 p.2.2.2.1,d2 p.2.2.2.2.1,.d (.sl (.sl YTT8)) p.2.2.2.2.2]))),(1,.que YTT14 63 o)],2,[],2⟩
def qf6_ (goal tx:Int) (t38:Bool) (p:(q9_)×(TaA2q1)×Unit×Int×Int×List (List (Int×List Int))) (o:zF9):St:=⟨[(0,.pb 0 0),(5,d8 goal),(6,d2 tx),(38,dB t38)],108,[],[(0,.box 48 (talkC p.1 (slC p.2.1 [.row 1,d2 p.2.2.2.1,d2 p.2.2.2.2.1,.d (.sl (.sl YTT8)) p.2.2.2.2.2]))),(1,.que YTT14 63 o)],2,[],2⟩
def qf4_ (goal tx:Int) (p:(q9_)×(TaA2q1)×Unit×Int×Int×List (List (Int×List Int))) (o:zF9):St:=⟨[(0,.pb 0 0),(5,d8 goal),(6,d2 tx)],108,[],[(0,.box 48 (talkC p.1 (slC p.2.1 [.row 1,d2 p.2.2.2.1,d2 p.2.2.2.2.1,.d (.sl (.sl YTT8)) p.2.2.2.2.2]))),(1,.que YTT14 63 o)],2,[],2⟩
def qf9_ (goal tx:Int) (t60:Bool) (p:(q9_)×(TaA2q1)×Unit×Int×Int×List (List (Int×List Int))) (o:zF9):St:=⟨[(0,.pb 0 0),(5,d8 goal),(6,d2 tx),(60,dB t60)],108,[],[(0,.box 48 (talkC p.1 (slC p.2.1 [.row 1,d2 p.2.2.2.1,d2 p.2.2.2.2.1,.d (.sl (.sl YTT8)) p.2.2.2.2.2]))),(1,.que YTT14 63 o)],2,[],2⟩
def qf8_ (tx:Int) (b:List Int) (e:Int) (p:(q9_)×(TaA2q1)×Unit×Int×Int×List (List (Int×List Int))) (o:zF9) (t:q9_):St:=⟨[(0,.pb 0 0),(6,d2 tx),(7,.pb 2 0),(8,dL b),(9,dI e)],108,[],[(0,.box 48 (talkC p.1 (slC p.2.1 [.row 1,d2 p.2.2.2.1,d2 p.2.2.2.2.1,.d (.sl (.sl YTT8)) p.2.2.2.2.2]))),(1,.que YTT14 63 o),(2,.box 33 (talkC t []))],3,[],2⟩
def qqf_ (j2:Int->Int->(q9_)×(TaA2q1)×Unit×Int×Int×List (List (Int×List Int))->List (Bool×List Int)->Option (As [.bool,.pr (.pr (.int .u8) YTT0) YTT2,.pr (.int .u8) (.pr (.int .u8) (.pr (.pr (.sl (.int .u16)) YTT1) (.sl .bool))),.int .u32,.int .u32,.sl (.sl YTT8),.sl YTT14])) (j3:Int->Int->Bool->(q9_)×(TaA2q1)×Unit×Int×Int×List (List (Int×List Int))->List (Bool×List Int)->Option (As [.bool,.pr (.pr (.int .u8) YTT0) YTT2,.pr (.int .u8) (.pr (.int .u8) (.pr (.pr (.sl (.int .u16)) YTT1) (.sl .bool))),.int .u32,.int .u32,.sl (.sl YTT8),.sl YTT14])) (alt:Bool) (goal tx:Int) (t15:Bool) (p:(q9_)×(TaA2q1)×Unit×Int×Int×List (List (Int×List Int))) (o:zF9):Option (As [.bool,.pr (.pr (.int .u8) YTT0) YTT2,.pr (.int .u8) (.pr (.int .u8) (.pr (.pr (.sl (.int .u16)) YTT1) (.sl .bool))),.int .u32,.int .u32,.sl (.sl YTT8),.sl YTT14]) :=
 if t15=true then j2 2 p.2.2.2.1 p o else if eqi p.1.2.2.2.2.1 1=true then if alt=true then j3 goal tx true p o else j3 goal tx (eqi p.1.2.2.2.2.2.2.2.2 2) p o else j3 goal tx false p o
def q9b_ (j4:Int->Int->(q9_)×(TaA2q1)×Unit×Int×Int×List (List (Int×List Int))->List (Bool×List Int)->Option (As [.bool,.pr (.pr (.int .u8) YTT0) YTT2,.pr (.int .u8) (.pr (.int .u8) (.pr (.pr (.sl (.int .u16)) YTT1) (.sl .bool))),.int .u32,.int .u32,.sl (.sl YTT8),.sl YTT14])) (goal tx:Int) (p:(q9_)×(TaA2q1)×Unit×Int×Int×List (List (Int×List Int))) (o:zF9):Option (As [.bool,.pr (.pr (.int .u8) YTT0) YTT2,.pr (.int .u8) (.pr (.int .u8) (.pr (.pr (.sl (.int .u16)) YTT1) (.sl .bool))),.int .u32,.int .u32,.sl (.sl YTT8),.sl YTT14]) :=
 if eqi goal 2=true then j4 goal tx (p.1,p.2.1,(),p.2.2.2.1,tx,p.2.2.2.2.2) o else j4 goal tx p o
def qqj_ (j2:Int->Int->(q9_)×(TaA2q1)×Unit×Int×Int×List (List (Int×List Int))->List (Bool×List Int)->Option (As [.bool,.pr (.pr (.int .u8) YTT0) YTT2,.pr (.int .u8) (.pr (.int .u8) (.pr (.pr (.sl (.int .u16)) YTT1) (.sl .bool))),.int .u32,.int .u32,.sl (.sl YTT8),.sl YTT14])) (j5:Int->Int->Bool->(q9_)×(TaA2q1)×Unit×Int×Int×List (List (Int×List Int))->List (Bool×List Int)->Option (As [.bool,.pr (.pr (.int .u8) YTT0) YTT2,.pr (.int .u8) (.pr (.int .u8) (.pr (.pr (.sl (.int .u16)) YTT1) (.sl .bool))),.int .u32,.int .u32,.sl (.sl YTT8),.sl YTT14])) (goal tx:Int) (t38:Bool) (p:(q9_)×(TaA2q1)×Unit×Int×Int×List (List (Int×List Int))) (o:zF9):Option (As [.bool,.pr (.pr (.int .u8) YTT0) YTT2,.pr (.int .u8) (.pr (.int .u8) (.pr (.pr (.sl (.int .u16)) YTT1) (.sl .bool))),.int .u32,.int .u32,.sl (.sl YTT8),.sl YTT14]) :=
 if t38=true then j2 3 p.2.2.2.1 p o else if nei p.1.2.2.2.2.1 0=true then j5 goal tx (eqi p.1.2.2.2.2.2.2.2.2 0) p o else j5 goal tx false p o
def q98_ (j6:Int->List Int->Int->(q9_)×(TaA2q1)×Unit×Int×Int×List (List (Int×List Int))->List (Bool×List Int)->q9_->Option (As [.bool,.pr (.pr (.int .u8) YTT0) YTT2,.pr (.int .u8) (.pr (.int .u8) (.pr (.pr (.sl (.int .u16)) YTT1) (.sl .bool))),.int .u32,.int .u32,.sl (.sl YTT8),.sl YTT14])) (goal tx:Int) (p:(q9_)×(TaA2q1)×Unit×Int×Int×List (List (Int×List Int))) (o:zF9):Option (As [.bool,.pr (.pr (.int .u8) YTT0) YTT2,.pr (.int .u8) (.pr (.int .u8) (.pr (.pr (.sl (.int .u16)) YTT1) (.sl .bool))),.int .u32,.int .u32,.sl (.sl YTT8),.sl YTT14]) :=
 amb (eqAs q1m_.rs) [if eqi (zF (zG p.2.2.2.2.2)) 0=true then amb (eqAs q1m_.rs) [zC (q2r_ (p.1,goal,tx,[],())) fun y=>j6 tx y.2.1 y.2.2.1 p o y.1,zC (q2r_ (p.1,goal,tx,[],())) fun y=>j6 tx y.2.1 y.2.2.1 p o y.1] else need (nei (zF (zG p.2.2.2.2.2)) 0) (zC (at? p.2.2.2.2.2 (rem (cvt .i64 tx) (zF (zG p.2.2.2.2.2)))) fun y=>amb (eqAs q1m_.rs) [zC (q2r_ (p.1,goal,tx,y,())) fun y=>j6 tx y.2.1 y.2.2.1 p o y.1,zC (q2r_ (p.1,goal,tx,y,())) fun y=>j6 tx y.2.1 y.2.2.1 p o y.1]),if eqi (zF (zG p.2.2.2.2.2)) 0=true then zC (q2r_ (p.1,goal,tx,[],())) fun y=>j6 tx y.2.1 y.2.2.1 p o y.1 else need (nei (zF (zG p.2.2.2.2.2)) 0) (zC (at? p.2.2.2.2.2 (rem (cvt .i64 tx) (zF (zG p.2.2.2.2.2)))) fun y=>zC (q2r_ (p.1,goal,tx,y,())) fun y=>j6 tx y.2.1 y.2.2.1 p o y.1)]
def q99_ (j2:Int->Int->(q9_)×(TaA2q1)×Unit×Int×Int×List (List (Int×List Int))->List (Bool×List Int)->Option (As [.bool,.pr (.pr (.int .u8) YTT0) YTT2,.pr (.int .u8) (.pr (.int .u8) (.pr (.pr (.sl (.int .u16)) YTT1) (.sl .bool))),.int .u32,.int .u32,.sl (.sl YTT8),.sl YTT14])) (goal tx:Int) (t60:Bool) (p:(q9_)×(TaA2q1)×Unit×Int×Int×List (List (Int×List Int))) (o:zF9):Option (As [.bool,.pr (.pr (.int .u8) YTT0) YTT2,.pr (.int .u8) (.pr (.int .u8) (.pr (.pr (.sl (.int .u16)) YTT1) (.sl .bool))),.int .u32,.int .u32,.sl (.sl YTT8),.sl YTT14]) :=
 if t60=true then some (true,p.1,(mkSl p.2.1),p.2.2.2.1,p.2.2.2.2.1,p.2.2.2.2.2,o,()) else j2 goal tx p o
def q9a_ (tx:Int) (b:List Int) (e:Int) (p:(q9_)×(TaA2q1)×Unit×Int×Int×List (List (Int×List Int))) (o:zF9) (t:q9_):Option (As [.bool,.pr (.pr (.int .u8) YTT0) YTT2,.pr (.int .u8) (.pr (.int .u8) (.pr (.pr (.sl (.int .u16)) YTT1) (.sl .bool))),.int .u32,.int .u32,.sl (.sl YTT8),.sl YTT14]) :=
 zC (q5f_ (b,t,(mkSl p.2.1),tx,p.2.2.2.2.1,p.2.2.2.2.2,o,())) fun y=>some (eqi e 0,y.1,(mkSl y.2.1),y.2.2.1,y.2.2.2.1,y.2.2.2.2.1,y.2.2.2.2.2.1,())
def q95_ (j1:Bool->Int->Int->Bool->(q9_)×(TaA2q1)×Unit×Int×Int×List (List (Int×List Int))->List (Bool×List Int)->Option (As [.bool,.pr (.pr (.int .u8) YTT0) YTT2,.pr (.int .u8) (.pr (.int .u8) (.pr (.pr (.sl (.int .u16)) YTT1) (.sl .bool))),.int .u32,.int .u32,.sl (.sl YTT8),.sl YTT14])) (p:Bool) (alt:q9_) (p_2:TaA2q1) (alt_2 v:Int) (goal:List (List (Int×List Int))) (tx:zF9):Option (As [.bool,.pr (.pr (.int .u8) YTT0) YTT2,.pr (.int .u8) (.pr (.int .u8) (.pr (.pr (.sl (.int .u16)) YTT1) (.sl .bool))),.int .u32,.int .u32,.sl (.sl YTT8),.sl YTT14]) :=
 if eqi alt.2.2.2.2.1 1=true then if eqi alt.2.2.2.2.2.2.2.2 1=true then j1 p 1 (add .u32 alt_2 1) (!p) (alt,p_2,(),alt_2,v,goal) tx else j1 p 1 (add .u32 alt_2 1) false (alt,p_2,(),alt_2,v,goal) tx else j1 p 1 (add .u32 alt_2 1) false (alt,p_2,(),alt_2,v,goal) tx
def q5n_:=q9a_
def q96_:=q98_ (q5n_)
def q1v_:=q9b_ (q96_)
def q5m_:=q99_ (q1v_)
def q43_:=qqj_ (q1v_) (q5m_)
def q97_:=qqf_ (q1v_) (q43_)
def q2q_ (x:As [.bool,.pr (.pr (.int .u8) YTT0) YTT2,.pr (.int .u8) (.pr (.int .u8) (.pr (.pr (.sl (.int .u16)) YTT1) (.sl .bool))),.int .u32,.int .u32,.sl (.sl YTT8),.sl YTT14]):Option (As [.bool,.pr (.pr (.int .u8) YTT0) YTT2,.pr (.int .u8) (.pr (.int .u8) (.pr (.pr (.sl (.int .u16)) YTT1) (.sl .bool))),.int .u32,.int .u32,.sl (.sl YTT8),.sl YTT14]):=q95_ q97_ x.1 x.2.1 x.2.2.1 x.2.2.2.1 x.2.2.2.2.1 x.2.2.2.2.2.1 x.2.2.2.2.2.2.1
abbrev law25_Pair_begin_P:=zp qak_ qam_ 10 q1m_
theorem q151_ {J a b c d e f}:law25_Pair_begin_P J 31 [] (qf8_ a b c d e f)=q9a_ a b c d e f:=by kernel_rfl
theorem q150_ {J a b c d}:law25_Pair_begin_P J 15 [] (qf4_ a b c d)=q98_ (C (J 31 []) qf8_) a b c d:=by kernel_rfl
theorem q14j_ {J a b c d}:law25_Pair_begin_P J 7 [] (q5l_ a b c d)=q9b_ (C (J 15 []) qf4_) a b c d:=by kernel_rfl
theorem q14w_ {J a b c d e}:law25_Pair_begin_P J 463 [] (qf9_ a b c d e)=q99_ (C (J 7 []) q5l_) a b c d e:=by kernel_rfl
theorem q14p_ {J a b c d e}:law25_Pair_begin_P J 115 [] (qf6_ a b c d e)=qqj_ (C (J 7 []) q5l_) (C (J 463 []) qf9_) a b c d e:=by kernel_rfl
theorem q14f_ {J a b c d e f}:law25_Pair_begin_P J 28 [] (qf3_ a b c d e f)=qqf_ (C (J 7 []) q5l_) (C (J 115 []) qf6_) a b c d e f:=by kernel_rfl
theorem q14r_ (J:Orc (As [.bool,.pr (.pr (.int .u8) YTT0) YTT2,.pr (.int .u8) (.pr (.int .u8) (.pr (.pr (.sl (.int .u16)) YTT1) (.sl .bool))),.int .u32,.int .u32,.sl (.sl YTT8),.sl YTT14])) (x:As [.bool,.pr (.pr (.int .u8) YTT0) YTT2,.pr (.int .u8) (.pr (.int .u8) (.pr (.pr (.sl (.int .u16)) YTT1) (.sl .bool))),.int .u32,.int .u32,.sl (.sl YTT8),.sl YTT14]):rfn Tryz.prog qak_ 6 18446744073709551616 (Ev.get qam_) 10 q1m_ J x=q95_ (C (J 28 []) qf3_) x.1 x.2.1 x.2.2.1 x.2.2.2.1 x.2.2.2.2.1 x.2.2.2.2.2.1 x.2.2.2.2.2.2.1:=by kernel_rfl
abbrev law25_Pair_begin_J:=zj qak_ qam_ 10 q1m_
theorem q14d_:C (law25_Pair_begin_J 31 []) qf8_=q5n_:=gNC (by decide) fun _=>q151_
theorem q155_:C (law25_Pair_begin_J 15 []) qf4_=q96_:=gNC (by decide) fun _=>q150_.trans (by rw [q14d_] <;> kernel_rfl)
theorem qf7_:C (law25_Pair_begin_J 7 []) q5l_=q1v_:=gNC (by decide) fun _=>q14j_.trans (by rw [q155_] <;> kernel_rfl)
theorem q156_:C (law25_Pair_begin_J 463 []) qf9_=q5m_:=gNC (by decide) fun _=>q14w_.trans (by rw [qf7_] <;> kernel_rfl)
theorem q14h_:C (law25_Pair_begin_J 115 []) qf6_=q43_:=gNC (by decide) fun _=>q14p_.trans (by rw [qf7_,q156_] <;> kernel_rfl)
theorem q159_:C (law25_Pair_begin_J 28 []) qf3_=q97_:=gNC (by decide) fun _=>q14f_.trans (by rw [qf7_,q14h_] <;> kernel_rfl)
theorem q15h_ (x:As [.bool,.pr (.pr (.int .u8) YTT0) YTT2,.pr (.int .u8) (.pr (.int .u8) (.pr (.pr (.sl (.int .u16)) YTT1) (.sl .bool))),.int .u32,.int .u32,.sl (.sl YTT8),.sl YTT14]):evT Tryz.prog qak_ 6 18446744073709551616 (Ev.get qam_) 10 q1m_ x=q2q_ x:=by
 rw [qb_,q14r_,q159_] <;> rfl
theorem qqg_:CtOk Tryz.prog (fun _=>True) 10 ⟨q1m_,q2q_⟩:=q7_ (q0_ Ev.bx_ok (q0_ Ev.bx_ok (q0_ Ev.bx_ok (q0_ qui_ (q0_ qvj_ q2_))))) q15h_
end Go.Proofs.Lx
end
